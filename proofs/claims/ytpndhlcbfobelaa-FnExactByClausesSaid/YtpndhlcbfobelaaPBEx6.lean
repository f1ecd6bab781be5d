import Derived.Test.YtpndhlcbfobelaaPBEx0
import Derived.Test.YtpndhlcbfobelaaPBEx1
import Derived.Test.YtpndhlcbfobelaaPBEx5
namespace Go.Proofs.Ytpndhlcbfobelaa.PBE
open Go.RowKit Go.Proofs.YtpndhlcbfobelaaW.PrintWords Go.Proofs.YtpndhlcbfobelaaW.PrintLast Go.Proofs.YtpndhlcbfobelaaW.PrintMore
attribute [local go_sem] max2_int min2_int max_two min_two max_three min_three max_four min_four   -- for this text's walks alone
set_option linter.unusedVariables false
set_option linter.unusedSimpArgs false
attribute [local go_sem high] eqA75
def impl_Node_110.l0 : Nat → List (S75) → Int → Int → Int → Int → Int → Option (Int)
  | 0, _, _, _, _, _, _ => none
  | k + 1, x0, x7, x8, x178000, x178001, x178002 => if x8 < x7 then (if 0 ≤ x8 then (if x8 < (x0.length : Int) then (if (x178000 == ((rd_T75 x0 x8).f0) && (x178001 == ((rd_T75 x0 x8).f1) && (x178002 == ((rd_T75 x0 x8).f2)))) = true then (some x8) else (impl_Node_110.l0 k x0 x7 (wrap64 (x8 + 1)) x178000 x178001 x178002)) else (none)) else (none)) else (some (-1))
def impl_Node_110.f (k : Nat) (l0 : List (S75)) (a1_0 : Int) (a1_1 : Int) (a1_2 : Int) : Option (Int) := impl_Node_110.l0 k l0 (l0.length : Int) 0 a1_0 a1_1 a1_2
set_option maxHeartbeats 8000000 in
set_option maxRecDepth 100000 in
theorem impl_Node_110.calls (k : Nat) (A0 : Option Addr) (c0 : Nat) (l0 : List (S75)) (a1_0 : Int) (a1_1 : Int) (a1_2 : Int) (r : Int) (w : World) (hr0 : Kd.C k75 w A0 l0.length l0) (hc0 : l0.length ≤ c0) (h : impl_Node_110.f k l0 a1_0 a1_1 a1_2 = some r) :
    Calls Try.prog 110 #[.slice A0 l0.length c0, .agg #[.int .i64 a1_0, .int .i64 a1_1, .int .i64 a1_2]] w fun e w' => e = .returned (.int .i64 r) ∧ Below w.heap.size w w' := by
  have hu75 := Try.underlying75
  have HR0 := Aside0.mk hr0
  have HC0 := Aside0.mk hc0
  clear hr0 hc0
  have HB := Aside0.mk (Below.refl w.heap.size w)
  have H : (impl_Node_110.l0 k l0 (l0.length : Int) 0 a1_0 a1_1 a1_2) = some r := h
  clear h
  have H' := Aside0.mk H
  clear H
  go_enter Try.func110, Try.ntmps110
  go_wp2_with (first | ((with_reducible refine gate_dst (N := 3) rfl ?_); refine boxq_ (N := 3) (cs := #[.int .i64 a1_0, .int .i64 a1_1, .int .i64 a1_2]) (t := 75) ?_; intro gb177 hg w3 hbox hb; have n0_ := Aside0.mk (below_step (bq_) hb); have n1_ := Aside0.mk (hbox); have n2_ := Aside0.mk ((by rw [hg]; exact (below_size (bq_)) : w.heap.size ≤ gb177)); have n3_ := Aside0.mk ((by rw [hg]; exact (below_size (bq_)) : w.heap.size ≤ gb177)); clear HB; have HB := n0_; have BK177 := n1_; have GW177 := n2_; have GE177 := n3_; clear n0_ n1_ n2_ n3_; clear hb hbox hg))
  repeat (go_quiet (first | ((with_reducible refine gate_dst (N := 3) rfl ?_); refine boxq_ (N := 3) (cs := #[.int .i64 a1_0, .int .i64 a1_1, .int .i64 a1_2]) (t := 75) ?_; intro gb177 hg w3 hbox hb; have n0_ := Aside0.mk (below_step (bq_) hb); have n1_ := Aside0.mk (hbox); have n2_ := Aside0.mk ((by rw [hg]; exact (below_size (bq_)) : w.heap.size ≤ gb177)); have n3_ := Aside0.mk ((by rw [hg]; exact (below_size (bq_)) : w.heap.size ≤ gb177)); clear HB; have HB := n0_; have BK177 := n1_; have GW177 := n2_; have GE177 := n3_; clear n0_ n1_ n2_ n3_; clear hb hbox hg)); try go_wp2_with (first | ((with_reducible refine gate_dst (N := 3) rfl ?_); refine boxq_ (N := 3) (cs := #[.int .i64 a1_0, .int .i64 a1_1, .int .i64 a1_2]) (t := 75) ?_; intro gb177 hg w3 hbox hb; have n0_ := Aside0.mk (below_step (bq_) hb); have n1_ := Aside0.mk (hbox); have n2_ := Aside0.mk ((by rw [hg]; exact (below_size (bq_)) : w.heap.size ≤ gb177)); have n3_ := Aside0.mk ((by rw [hg]; exact (below_size (bq_)) : w.heap.size ≤ gb177)); clear HB; have HB := n0_; have BK177 := n1_; have GW177 := n2_; have GE177 := n3_; clear n0_ n1_ n2_ n3_; clear hb hbox hg)))
  go_loopg [8] k (fun kq v8 w' => ∃ (x8_1 : Int), v8 = .int .i64 x8_1 ∧ Aside0 (impl_Node_110.l0 kq l0 (l0.length : Int) x8_1 a1_0 a1_1 a1_2 = some r) ∧ Aside0 (kq ≤ k) ∧ Aside0 (w'.heap[gb177]? = some (.cells #[.int .i64 a1_0, .int .i64 a1_1, .int .i64 a1_2] 75 (0, 0))) ∧ Aside0 (Below w.heap.size w w'))
  case atStart => exact ⟨(0), (by first | rfl | (simp; done) | (simp [*]; done)), H', ⟨Nat.le_refl _⟩, ⟨bk_ BK177.out⟩, ⟨bq_⟩⟩
  case round =>
    clear H'
    try clear c1
    try clear p2
    obtain ⟨x8_1, rfl, HA, HK1, BK177, HB⟩ := hrel
    cases gk with
    | zero => exact absurd HA.out (by simp [impl_Node_110.l0])
    | succ k1 =>
      have H := HA.out
      clear HA
      simp only [impl_Node_110.l0] at H
      by_cases c4 : x8_1 < (l0.length : Int)
      · rw [if_pos c4] at H
        have c4b0 : decide (x8_1 < (l0.length : Int)) = true := decide_eq_true c4
        clear c4
        by_cases c5 : 0 ≤ x8_1
        · rw [if_pos c5] at H
          have c5b0 : decide (0 ≤ x8_1) = true := decide_eq_true c5
          clear c5
          by_cases c6 : x8_1 < (l0.length : Int)
          · rw [if_pos c6] at H
            have c6b0 : decide (x8_1 < (l0.length : Int)) = true := decide_eq_true c6
            clear c6
            by_cases c7 : (a1_0 == ((rd_T75 l0 x8_1).f0) && (a1_1 == ((rd_T75 l0 x8_1).f1) && (a1_2 == ((rd_T75 l0 x8_1).f2)))) = true
            · rw [if_pos c7] at H
              have c7b0 : (a1_0 == ((rd_T75 l0 x8_1).f0) && (a1_1 == ((rd_T75 l0 x8_1).f1) && (a1_2 == ((rd_T75 l0 x8_1).f2)))) = true := c7
              (try (have c7b1 : decide (a1_0 = ((rd_T75 l0 x8_1).f0) && (a1_1 == ((rd_T75 l0 x8_1).f1) && (a1_2 == ((rd_T75 l0 x8_1).f2)))) = true := by simpa using c7))
              (try (have c7b2 : (a1_0 == ((rd_T75 l0 x8_1).f0) && (a1_1 == ((rd_T75 l0 x8_1).f1) && (a1_2 == ((rd_T75 l0 x8_1).f2)))) = true := by simpa using c7))
              clear c7
              obtain rfl := Option.some.inj H
              have hcz8_0 := cq_ BK177.out 0 (.int .i64 a1_0)
              have hcz8_1 := cq_ BK177.out 1 (.int .i64 a1_1)
              have hcz8_2 := cq_ BK177.out 2 (.int .i64 a1_2)
              have hfz8_0 := blk_frozen BK177.out 0
              have hfz8_1 := blk_frozen BK177.out 1
              have hfz8_2 := blk_frozen BK177.out 2
              have p178 : 0 ≤ (x8_1 : Int) := of_decide_eq_true (by first | (with_reducible assumption) | assumption)
              have q178 : x8_1 < (l0.length : Int) := of_decide_eq_true (by first | (with_reducible assumption) | assumption)
              obtain ⟨ad178, e178, hx178_0, hx178_1, hx178_2⟩ := at_T75 HR0.out x8_1 p178 q178
              cases e178
              replace hx178_0 := (HB.out.cell (World.block_lt_of_cell? w _ hx178_0)).trans hx178_0
              replace hx178_1 := (HB.out.cell (World.block_lt_of_cell? w _ hx178_1)).trans hx178_1
              replace hx178_2 := (HB.out.cell (World.block_lt_of_cell? w _ hx178_2)).trans hx178_2
              replace p178 := eq_true p178
              replace q178 := eq_true q178
              go_wp2
              repeat (go_quiet (fail); try go_wp2)
              go_ret
              exact ⟨by first | rfl | (simp [errW_none, errW_some] <;> rfl) | (simp [*, errW_none, errW_some] <;> rfl), bq_⟩
            · rw [if_neg c7] at H
              have c7b0 : (a1_0 == ((rd_T75 l0 x8_1).f0) && (a1_1 == ((rd_T75 l0 x8_1).f1) && (a1_2 == ((rd_T75 l0 x8_1).f2)))) = false := by simpa using c7
              (try (have c7b1 : decide (a1_0 = ((rd_T75 l0 x8_1).f0) && (a1_1 == ((rd_T75 l0 x8_1).f1) && (a1_2 == ((rd_T75 l0 x8_1).f2)))) = false := by simpa using c7))
              (try (have c7b2 : (a1_0 == ((rd_T75 l0 x8_1).f0) && (a1_1 == ((rd_T75 l0 x8_1).f1) && (a1_2 == ((rd_T75 l0 x8_1).f2)))) = false := by simpa using c7))
              (try (have c7b3 : ¬ (a1_0 = ((rd_T75 l0 x8_1).f0) && (a1_1 == ((rd_T75 l0 x8_1).f1) && (a1_2 == ((rd_T75 l0 x8_1).f2)))) := by simpa using c7))
              clear c7
              have H' := Aside0.mk H
              clear H
              have hcz9_0 := cq_ BK177.out 0 (.int .i64 a1_0)
              have hcz9_1 := cq_ BK177.out 1 (.int .i64 a1_1)
              have hcz9_2 := cq_ BK177.out 2 (.int .i64 a1_2)
              have hfz9_0 := blk_frozen BK177.out 0
              have hfz9_1 := blk_frozen BK177.out 1
              have hfz9_2 := blk_frozen BK177.out 2
              have p178 : 0 ≤ (x8_1 : Int) := of_decide_eq_true (by first | (with_reducible assumption) | assumption)
              have q178 : x8_1 < (l0.length : Int) := of_decide_eq_true (by first | (with_reducible assumption) | assumption)
              obtain ⟨ad178, e178, hx178_0, hx178_1, hx178_2⟩ := at_T75 HR0.out x8_1 p178 q178
              cases e178
              replace hx178_0 := (HB.out.cell (World.block_lt_of_cell? w _ hx178_0)).trans hx178_0
              replace hx178_1 := (HB.out.cell (World.block_lt_of_cell? w _ hx178_1)).trans hx178_1
              replace hx178_2 := (HB.out.cell (World.block_lt_of_cell? w _ hx178_2)).trans hx178_2
              replace p178 := eq_true p178
              replace q178 := eq_true q178
              go_wp2
              repeat (go_quiet (fail); try go_wp2)
              go_roundg k1
              case measure => have := HK1.out; omega
              case rel => exact ⟨(wrap64 (x8_1 + 1)), (by first | rfl | (simp; done) | (simp [*]; done)), H', ⟨by have := HK1.out; omega⟩, ⟨bk_ BK177.out⟩, ⟨bq_⟩⟩
          · rw [if_neg c6] at H
            exact absurd H (by simp)
        · rw [if_neg c5] at H
          exact absurd H (by simp)
      · rw [if_neg c4] at H
        have c4b0 : decide (x8_1 < (l0.length : Int)) = false := decide_eq_false c4
        clear c4
        obtain rfl := Option.some.inj H
        go_wp2
        repeat (go_quiet (fail); try go_wp2)
        go_ret
        exact ⟨by first | rfl | (simp [errW_none, errW_some] <;> rfl) | (simp [*, errW_none, errW_some] <;> rfl), bq_⟩
theorem impl_Diagram_build.flat {w : World} {base : Nat} {ok ok' : Nat → Prop} {v : Value} {xs : List S75} (h : Kd.R k75 75 w base ok v xs) (hok : ∀ k, v.ownBlock = some k → ok k → ok' k) : Kd.R k75 75 w base ok' v xs := Kd.R_flat (fun h => h) h hok
theorem impl_Diagram_build.stays {W w1 : World} {g b B : Nat} {cs : Array Value} {ok ok2 : Nat → Prop} {u V : Value} {xs : List Bool} {q : List S75} {T : Nat} (hT : 4 ≠ T) (h : Kd.R Kd.bool 4 W b ok u xs) (hk : KeepBut W w1 g V.ownBlock) (hbx : W.heap[g]? = some (.cells cs T (0, 0))) (hV : Kd.R k75 75 W B ok2 V q) : Kd.R Kd.bool 4 w1 b ok u xs := by
  have h1 := Kd.R_types (Kd.R_apart' h (Kd.R_typed hV) (fun q hq => by simp [Kd.bool, Kd.scalar] at hq; omega)) hbx (fun q hq => by simp [Kd.bool, Kd.scalar] at hq; omega)
  exact Kd.R_mono (Kd.R_step h1 (fun k hk' hl => hk.2 k hl hk'.2 hk'.1.2)) (fun k hk => hk.1.1)
theorem impl_Diagram_build.away {W : World} {V V1 : Value} {gb : Nat} (h : V.ownBlock ≠ some gb) (hat : V1.ownBlock = V.ownBlock ∨ ∃ b, V1.ownBlock = some b ∧ W.heap.size ≤ b) (hlt : gb < W.heap.size) : V1.ownBlock ≠ some gb := by
  rcases hat with hat | ⟨b, hb, hle⟩
  · rw [hat]; exact h
  · rw [hb]; intro he; injection he with he; omega
theorem impl_Diagram_build.older {w W : World} {V V1 V2 : Value} (hs : w.heap.size ≤ W.heap.size) (h1 : V1.ownBlock = V.ownBlock ∨ ∃ b, V1.ownBlock = some b ∧ w.heap.size ≤ b) (h2 : V2.ownBlock = V1.ownBlock ∨ ∃ b, V2.ownBlock = some b ∧ W.heap.size ≤ b) : V2.ownBlock = V.ownBlock ∨ ∃ b, V2.ownBlock = some b ∧ w.heap.size ≤ b := by
  rcases h2 with h2 | ⟨b, hb, hle⟩
  · rw [h2]; exact h1
  · exact .inr ⟨b, hb, by omega⟩
def impl_Diagram_build.l0 : Nat → List Bool → List Bool → List Bool → Int → Option (List Bool × List Bool)
  | 0, _, _, _, _ => none
  | k + 1, t, lo, hi, i => if i < (t.length : Int) then (if 0 ≤ i then (if i % 2 = 0 then (if lo.length < 17592186044416 then impl_Diagram_build.l0 k t (lo ++ [rdOf false t i]) hi (wrap64 (i + 1)) else none) else (if hi.length < 17592186044416 then impl_Diagram_build.l0 k t lo (hi ++ [rdOf false t i]) (wrap64 (i + 1)) else none)) else none) else some (lo, hi)
def impl_Diagram_build.f : Nat → Int → List Bool → List S75 → Option (Int × List S75)
  | 0, _, _, _ => none
  | k + 1, v, t, q => if (t.length : Int) = 1 then some (if rdOf false t 0 = true then 1 else 0, q) else (impl_Diagram_build.l0 k t [] [] 0).bind fun lh => (slices_Equal_bool_bool.f k lh.1 lh.2).bind fun e => if e = true then impl_Diagram_build.f k (wrap64 (v + 1)) lh.1 q else (impl_Diagram_build.f k (wrap64 (v + 1)) lh.1 q).bind fun a => (impl_Diagram_build.f k (wrap64 (v + 1)) lh.2 a.2).bind fun b => (impl_Node_110.f k b.2 v a.1 b.1).bind fun x => if x < 0 then (if b.2.length < 1099511627776 then some (wrap64 ((b.2.length : Int) + 2), b.2 ++ [⟨v, a.1, b.1⟩]) else none) else some (wrap64 (x + 2), b.2)
def impl_Diagram_build.Post (w : World) (g : Nat) (vars root : Int) (V : Value) (q' : List S75) (B : Nat) (r : Int) (e : Ending) (w' : World) : Prop := e = .returned (.int .i64 r) ∧ ∃ V' : Value, w'.heap[g]? = some (.cells #[.int .i64 vars, V', .int .i64 root] 30 (0, 0)) ∧ Kd.R k75 75 w' B (fun k => k ≠ g) V' q' ∧ KeepBut w w' g V.ownBlock ∧ (V'.ownBlock = V.ownBlock ∨ ∃ b, V'.ownBlock = some b ∧ w.heap.size ≤ b) ∧ Below B w w'
theorem impl_Diagram_build.Post.still {w w' : World} {g : Nat} {vars root : Int} {V : Value} {q : List S75} {B : Nat} {r : Int} {e : Ending} (he : e = .returned (.int .i64 r)) (hB : B ≤ w.heap.size) (hbx : w.heap[g]? = some (.cells #[.int .i64 vars, V, .int .i64 root] 30 (0, 0))) (hV : Kd.R k75 75 w B (fun k => k ≠ g) V q) (hb : Below w.heap.size w w') : impl_Diagram_build.Post w g vars root V q B r e w' :=
  ⟨he, V, blk_below hbx hb, Kd.R_below hV hb, KeepBut.of_below hb _ _, .inl rfl, hb.mono hB⟩
theorem impl_Diagram_build.Post.after {w W w' : World} {g : Nat} {vars root : Int} {V V1 : Value} {q : List S75} {B : Nat} {r : Int} {e : Ending} (hk : KeepBut w W g V.ownBlock) (hat : V1.ownBlock = V.ownBlock ∨ ∃ b, V1.ownBlock = some b ∧ w.heap.size ≤ b) (hb : Below B w W) (h : impl_Diagram_build.Post W g vars root V1 q B r e w') : impl_Diagram_build.Post w g vars root V q B r e w' := by
  obtain ⟨he, V', h1, h2, h3, h4, h5⟩ := h
  exact ⟨he, V', h1, h2, hk.trans h3 hat, impl_Diagram_build.older hk.1 hat h4, hb.trans h5⟩
set_option maxHeartbeats 16000000 in
set_option maxRecDepth 100000 in
theorem impl_Diagram_build.callsR : ∀ (k : Nat) (g : Nat) (vars root : Int) (V : Value) (q q' : List S75) (a1 : Int) (A2 : Option Addr) (c2 : Nat) (l2 : List Bool) (r : Int) (w : World) (B : Nat) (hB : B ≤ g) (hbx : w.heap[g]? = some (.cells #[.int .i64 vars, V, .int .i64 root] 30 (0, 0))) (hV : Kd.R k75 75 w B (fun k => k ≠ g) V q) (hr2 : Kd.C Kd.bool w A2 l2.length l2) (hc2 : l2.length ≤ c2) (h : impl_Diagram_build.f k a1 l2 q = some (r, q')),
    Calls Try.prog 100 #[.pointer (some ⟨g, 0, none⟩), .int .i64 a1, .slice A2 l2.length c2] w (impl_Diagram_build.Post w g vars root V q' B r)
  | 0 => by
    intro g vars root V q q' a1 A2 c2 l2 r w B hB hbx hV hr2 hc2 h
    simp [impl_Diagram_build.f] at h
  | k + 1 => by
    have IH := Aside0.mk (impl_Diagram_build.callsR k)
    intro g vars root V q q' a1 A2 c2 l2 r w B hB hbx hV hr2 hc2 h
    have hu30 := Try.underlying30
    have hu75 := Try.underlying75
    have HS := Aside0.mk (show B ≤ w.heap.size from Nat.le_trans hB (Nat.le_of_lt (blk_lt hbx)))
    have HG := Aside0.mk (blk_lt hbx)
    have BKG := Aside0.mk hbx
    have HV := Aside0.mk hV
    have HR2 := Aside0.mk hr2
    have HC2 := Aside0.mk hc2
    have HBG := Aside0.mk hB
    clear hbx hV hr2 hc2 hB
    have HB := Aside0.mk (Below.refl w.heap.size w)
    simp only [impl_Diagram_build.f] at h
    by_cases c1 : (l2.length : Int) = 1
    · rw [if_pos c1] at h
      simp only [Option.some.injEq, Prod.mk.injEq] at h
      obtain ⟨hr, rfl⟩ := h
      have HRr := Aside0.mk hr
      clear hr
      have c1b : ((l2.length : Int) == 1) = true := beq_iff_eq.mpr c1
      have c1n : (l2.length == 1) = true := beq_iff_eq.mpr (by omega)
      have c1p : (l2.length = 1) = True := eq_true (by omega)
      have p109 : 0 ≤ (0 : Int) := (by omega)
      have q109 : 0 < (l2.length : Int) := (by omega)
      obtain ⟨ad109, e109, hx109_0⟩ := Kd.at_bool HR2.out 0 p109 q109
      cases e109
      have qi109 : (0 < l2.length) = True := eq_true (by omega)
      (try rw [show ((0 : Int)).toNat = 0 from rfl] at hx109_0)
      (try rw [Addr.add_zero'] at hx109_0)
      replace p109 := eq_true p109
      replace q109 := eq_true q109
      clear c1
      by_cases c2 : rdOf false l2 0 = true
      · rw [c2] at hx109_0
        have HC := Aside0.mk c2
        clear c2
        go_enter Try.func100, Try.ntmps100
        go_wp2
        go_ret
        exact impl_Diagram_build.Post.still (by have hr := HRr.out; rw [if_pos HC.out] at hr; subst hr; first | rfl | (simp; done)) HS.out BKG.out HV.out (bq_)
      · replace c2 := Bool.eq_false_iff.mpr c2
        rw [c2] at hx109_0
        have HC := Aside0.mk c2
        clear c2
        go_enter Try.func100, Try.ntmps100
        go_wp2
        go_ret
        exact impl_Diagram_build.Post.still (by have hr := HRr.out; rw [if_neg (by rw [HC.out]; simp)] at hr; subst hr; first | rfl | (simp; done)) HS.out BKG.out HV.out (bq_)
    · rw [if_neg c1] at h
      have c1b : ((l2.length : Int) == 1) = false := beq_eq_false_iff_ne.mpr c1
      have c1n : (l2.length == 1) = false := beq_eq_false_iff_ne.mpr (by omega)
      have c1p : (l2.length = 1) = False := eq_false (by omega)
      obtain ⟨⟨low, high⟩, A10, h1⟩ := Option.bind_eq_some_iff.mp h
      have A1 := Aside0.mk A10
      have HH := Aside0.mk h1
      clear A10 h h1 c1
      go_enter Try.func100, Try.ntmps100
      go_wp2
      go_loopg [7, 8, 21] k (fun kq v7 v8 v21 w' => ∃ (lo hi : List Bool) (x : Int), v21 = .int .i64 x ∧ Aside0 (impl_Diagram_build.l0 kq l2 lo hi x = some (low, high)) ∧ Aside0 (kq ≤ k) ∧ Aside0 (Kd.R Kd.bool 4 w' w.heap.size (fun k_ => some k_ ≠ (v8 : Value).ownBlock) v7 lo) ∧ Aside0 (Kd.R Kd.bool 4 w' w.heap.size (fun k_ => some k_ ≠ (v7 : Value).ownBlock) v8 hi) ∧ Aside0 (Below w.heap.size w w'))
      case atStart => exact ⟨[], [], (0), (by first | rfl | (simp; done) | (simp [*]; done)), A1, ⟨Nat.le_refl _⟩, ⟨Kd.R_nil _ _ _ _ _⟩, ⟨Kd.R_nil _ _ _ _ _⟩, ⟨bq_⟩⟩
      case round =>
        clear A1 HB
        obtain ⟨lo, hi, x, rfl, HA, HK1, HLO, HHI, HB⟩ := hrel
        cases gk with
        | zero => exact absurd HA.out (by simp [impl_Diagram_build.l0])
        | succ k1 =>
          have H := HA.out
          clear HA
          simp only [impl_Diagram_build.l0] at H
          by_cases c4 : x < (l2.length : Int)
          · rw [if_pos c4] at H
            by_cases c5 : 0 ≤ x
            · rw [if_pos c5] at H
              obtain ⟨ad101, e101, hx101_0⟩ := Kd.at_bool HR2.out x c5 c4
              cases e101
              replace hx101_0 := (HB.out.cell (World.block_lt_of_cell? w _ hx101_0)).trans hx101_0
              have hm := Int.tmod_eq_emod_of_nonneg c5 (b := 2)
              have p101 := eq_true c5
              have q101 := eq_true c4
              clear c4
              by_cases c6 : x % 2 = 0
              · rw [if_pos c6] at H
                have c6b : (x % 2 == 0) = true := beq_iff_eq.mpr c6
                have hmb : (x.tmod 2 == 0) = true := by rw [hm]; exact c6b
                clear c5 c6 hm
                by_cases c12 : lo.length < 17592186044416
                · rw [if_pos c12] at H
                  have LMc12 := Aside0.mk c12
                  clear c12
                  have H' := Aside0.mk H
                  clear H
                  go_wp2_with (((with_reducible refine gate_builtin (b := .append) (xs := #[.tmp 29, .tmp 31]) rfl ?_); at_builtin; refine Kd.R_append Kd.bool (w0 := w) w.heap.size rfl (.tmp 29) (.tmp 31) 34 4 (.bool false) 1 rfl Try.underlying34 info4 rfl (by decide) (by omega) u7 lo (rdOf false l2 x) [.bool (rdOf false l2 x)] (fun k_ => some k_ ≠ (u8 : Value).ownBlock) (fun _ => False) rfl rfl ?aP (fun _ hk => hk.elim) ?aF ?aO ?aB ?aS ?aL ?_; (case aP => exact rfl); (case aB => exact (bq_)); (case aF => exact (fun k_ hk => Kd.fresh' (Kd.R_lt (rq_ HHI.out)) k_ hk)); (case aO => exact (rq_ HLO.out)); (case aS => exact (below_size (bq_))); (case aL => have := LMc12.out; omega); intro v233 w15 ho hb hg hat; have n0_ := Aside0.mk (Kd.R_after (ok := (fun _ => True)) (rq_ (Kd.R_mono HHI.out (fun _ hk => ⟨trivial, hk⟩))) hg hat); have n2_ := Aside0.mk (hb); have n3_ := Aside0.mk (ho); clear HLO HHI HB; have HHI := Aside0.mk (Kd.R_mono n0_.out (fun _ hk => hk.2)); have HB := n2_; have HLO := n3_; clear n0_ n2_ n3_; clear ho hb hg hat))
                  go_roundg k1
                  case measure => have := HK1.out; omega
                  case rel => exact ⟨_, hi, (wrap64 (x + 1)), (by first | rfl | (simp; done) | (simp [*]; done)), H', ⟨by have := HK1.out; omega⟩, ⟨rq_ HLO.out⟩, ⟨rq_ HHI.out⟩, ⟨bq_⟩⟩
                · rw [if_neg c12] at H
                  exact absurd H (by simp)
              · rw [if_neg c6] at H
                have c6b : (x % 2 == 0) = false := beq_eq_false_iff_ne.mpr c6
                have hmb : (x.tmod 2 == 0) = false := by rw [hm]; exact c6b
                clear c5 c6 hm
                by_cases c12 : hi.length < 17592186044416
                · rw [if_pos c12] at H
                  have LMc12 := Aside0.mk c12
                  clear c12
                  have H' := Aside0.mk H
                  clear H
                  go_wp2_with (((with_reducible refine gate_builtin (b := .append) (xs := #[.tmp 33, .tmp 35]) rfl ?_); at_builtin; refine Kd.R_append Kd.bool (w0 := w) w.heap.size rfl (.tmp 33) (.tmp 35) 34 4 (.bool false) 1 rfl Try.underlying34 info4 rfl (by decide) (by omega) u8 hi (rdOf false l2 x) [.bool (rdOf false l2 x)] (fun k_ => some k_ ≠ (u7 : Value).ownBlock) (fun _ => False) rfl rfl ?aP (fun _ hk => hk.elim) ?aF ?aO ?aB ?aS ?aL ?_; (case aP => exact rfl); (case aB => exact (bq_)); (case aF => exact (fun k_ hk => Kd.fresh' (Kd.R_lt (rq_ HLO.out)) k_ hk)); (case aO => exact (rq_ HHI.out)); (case aS => exact (below_size (bq_))); (case aL => have := LMc12.out; omega); intro v233 w15 ho hb hg hat; have n0_ := Aside0.mk (Kd.R_after (ok := (fun _ => True)) (rq_ (Kd.R_mono HLO.out (fun _ hk => ⟨trivial, hk⟩))) hg hat); have n2_ := Aside0.mk (hb); have n3_ := Aside0.mk (ho); clear HLO HHI HB; have HLO := Aside0.mk (Kd.R_mono n0_.out (fun _ hk => hk.2)); have HB := n2_; have HHI := n3_; clear n0_ n2_ n3_; clear ho hb hg hat))
                  go_roundg k1
                  case measure => have := HK1.out; omega
                  case rel => exact ⟨lo, _, (wrap64 (x + 1)), (by first | rfl | (simp; done) | (simp [*]; done)), H', ⟨by have := HK1.out; omega⟩, ⟨rq_ HLO.out⟩, ⟨rq_ HHI.out⟩, ⟨bq_⟩⟩
                · rw [if_neg c12] at H
                  exact absurd H (by simp)
            · rw [if_neg c5] at H
              exact absurd H (by simp)
          · rw [if_neg c4] at H
            have c4b0 : decide (x < (l2.length : Int)) = false := decide_eq_false c4
            clear c4
            simp only [Option.some.injEq, Prod.mk.injEq] at H
            obtain ⟨rfl, rfl⟩ := H
            obtain ⟨Alo, clo, elo⟩ := Kd.R_slice HLO.out
            obtain ⟨Ahi, chi, ehi⟩ := Kd.R_slice HHI.out
            subst elo
            subst ehi
            have h := HH.out
            clear HH
            obtain ⟨e, A20, h⟩ := Option.bind_eq_some_iff.mp h
            have AE := Aside0.mk A20
            clear A20
            by_cases c8 : e = true
            · subst c8
              rw [if_pos rfl] at h
              have A3 := Aside0.mk h
              clear h
              go_wp2_with (first | (go_at_call 109; refine (slices_Equal_bool_bool.calls k _ _ lo _ _ hi true _ (by (with_reducible repeat (first | apply Kd.C_alloc | apply Kd.C_drewN | apply Kd.C_drew)); exact (Kd.R_reads' HLO.out).2.2) (Kd.R_reads' HLO.out).2.1 (by (with_reducible repeat (first | apply Kd.C_alloc | apply Kd.C_drewN | apply Kd.C_drew)); exact (Kd.R_reads' HHI.out).2.2) (Kd.R_reads' HHI.out).2.1 AE.out).mono ?_; rintro e w' ⟨rfl, ⟨nd, rfl⟩⟩) | (go_at_call 100; refine (IH.out g vars root V q q' (wrap64 (a1 + 1)) _ _ lo r _ B HBG.out (blk_below BKG.out (bq_)) (Kd.R_below HV.out (bq_)) (by (with_reducible repeat (first | apply Kd.C_alloc | apply Kd.C_drewN | apply Kd.C_drew)); exact (Kd.R_reads' HLO.out).2.2) (Kd.R_reads' HLO.out).2.1 A3.out).mono ?_; rintro e w3 HP0; have HP := Aside0.mk (impl_Diagram_build.Post.after (KeepBut.of_below (bq_) _ _) (.inl rfl) ((show Below w.heap.size w _ from (bq_)).mono HS.out) HP0); have HE := HP0.1; clear HP0; subst HE))
              go_ret
              exact HP.out
            · replace c8 := Bool.eq_false_iff.mpr c8
              subst c8
              rw [if_neg (by simp)] at h
              obtain ⟨⟨a, q1⟩, A30, h⟩ := Option.bind_eq_some_iff.mp h
              have A3 := Aside0.mk A30
              obtain ⟨⟨b, q2⟩, A40, h⟩ := Option.bind_eq_some_iff.mp h
              have A4 := Aside0.mk A40
              obtain ⟨y, A50, h⟩ := Option.bind_eq_some_iff.mp h
              have A5 := Aside0.mk A50
              have HH := Aside0.mk h
              clear A30 A40 A50 h
              go_wp2_with (first | (go_at_call 109; refine (slices_Equal_bool_bool.calls k _ _ lo _ _ hi false _ (by (with_reducible repeat (first | apply Kd.C_alloc | apply Kd.C_drewN | apply Kd.C_drew)); exact (Kd.R_reads' HLO.out).2.2) (Kd.R_reads' HLO.out).2.1 (by (with_reducible repeat (first | apply Kd.C_alloc | apply Kd.C_drewN | apply Kd.C_drew)); exact (Kd.R_reads' HHI.out).2.2) (Kd.R_reads' HHI.out).2.1 AE.out).mono ?_; rintro e w' ⟨rfl, ⟨nd, rfl⟩⟩) | ((with_reducible refine gate_dst (N := 11) rfl ?_); refine boxq_ (N := 11) (cs := #[.int .i64 0, .int .i64 0, .int .i64 0]) (t := 75) ?_; intro gb hg w15 hbox hb; have n0_ := Aside0.mk (Kd.R_below (rq_ HLO.out) hb); have n1_ := Aside0.mk (Kd.R_below (rq_ HHI.out) hb); have n2_ := Aside0.mk (below_step (bq_) hb); have GE := Aside0.mk ((by rw [hg]; exact (below_size (bq_))) : w.heap.size ≤ gb); clear HLO HHI HB; have HLO := n0_; have HHI := n1_; have HB := n2_; have BN := Aside0.mk hbox; clear n0_ n1_ n2_ hb hbox hg; have hcz0 := cq_ BN.out 0 (.int .i64 0); have hcz1 := cq_ BN.out 1 (.int .i64 0); have hcz2 := cq_ BN.out 2 (.int .i64 0); have hfz0 := blk_frozen BN.out 0; have hfz1 := blk_frozen BN.out 1; have hfz2 := blk_frozen BN.out 2) | (go_at_call 100; have HB1 := Aside0.mk (show Below w.heap.size w (((w15.setCell ⟨gb, 0, none⟩ (.int .i64 a1)).setCell ⟨gb, 1, none⟩ (.int .i64 0)).setCell ⟨gb, 2, none⟩ (.int .i64 0)) from below_set (below_set (below_set HB.out GE.out) GE.out) GE.out); have BN1 := Aside0.mk (blk_put (cs := #[.int .i64 a1, .int .i64 0, .int .i64 0]) (blk_put (cs := #[.int .i64 a1, .int .i64 0, .int .i64 0]) (blk_put (cs := #[.int .i64 0, .int .i64 0, .int .i64 0]) BN.out 0 (.int .i64 a1) rfl) 1 (.int .i64 0) rfl) 2 (.int .i64 0) rfl); have HLO1 := Aside0.mk (Kd.R_set (Kd.R_set (Kd.R_set HLO.out BN.out (by decide) 0 (.int .i64 a1)) (blk_put (cs := #[.int .i64 0, .int .i64 0, .int .i64 0]) BN.out 0 (.int .i64 a1) rfl) (by decide) 1 (.int .i64 0)) (blk_put (cs := #[.int .i64 a1, .int .i64 0, .int .i64 0]) (blk_put (cs := #[.int .i64 0, .int .i64 0, .int .i64 0]) BN.out 0 (.int .i64 a1) rfl) 1 (.int .i64 0) rfl) (by decide) 2 (.int .i64 0)); have HHI1 := Aside0.mk (Kd.R_set (Kd.R_set (Kd.R_set HHI.out BN.out (by decide) 0 (.int .i64 a1)) (blk_put (cs := #[.int .i64 0, .int .i64 0, .int .i64 0]) BN.out 0 (.int .i64 a1) rfl) (by decide) 1 (.int .i64 0)) (blk_put (cs := #[.int .i64 a1, .int .i64 0, .int .i64 0]) (blk_put (cs := #[.int .i64 0, .int .i64 0, .int .i64 0]) BN.out 0 (.int .i64 a1) rfl) 1 (.int .i64 0) rfl) (by decide) 2 (.int .i64 0)); have NVB := Aside0.mk (show V.ownBlock ≠ some gb from fun he => by have := Kd.R_lt HV.out gb he; have := GE.out; omega); clear HLO HHI BN; refine (IH.out g vars root V q q1 (wrap64 (a1 + 1)) _ _ lo a _ B HBG.out (blk_below BKG.out HB1.out) (Kd.R_below HV.out HB1.out) (Kd.R_reads' HLO1.out).2.2 (Kd.R_reads' HLO1.out).2.1 A3.out).mono ?_; rintro e w3 ⟨rfl, V1, hbk, hv, hk, hat, hbl⟩; have n0_ := Aside0.mk (impl_Diagram_build.stays (by decide) HHI1.out hk (blk_below BKG.out HB1.out) (Kd.R_below HV.out HB1.out)); have BN := Aside0.mk (hk.blk BN1.out (by have := GE.out; have := HG.out; omega) (fun he => NVB.out he.symm)); have NV1 := Aside0.mk (impl_Diagram_build.away NVB.out hat (blk_lt BN1.out)); have KB1 := Aside0.mk ((KeepBut.of_below HB1.out g V.ownBlock).trans hk (.inl rfl)); have AT1 := Aside0.mk (impl_Diagram_build.older HB1.out.size (.inl rfl) hat); have BL1 := Aside0.mk ((HB1.out.mono HS.out).trans hbl); have BKG1 := Aside0.mk hbk; have HV1 := Aside0.mk hv; have HHI := n0_; clear HB BN1 HLO1 HHI1 HB1 n0_ hbk hv hk hat hbl hcz0 hcz1 hcz2 hfz0 hfz1 hfz2; have hcz1 := cq_ BN.out 1 (.int .i64 0); have hfz1 := blk_frozen BN.out 1) | (go_at_call 100; refine (IH.out g vars root V1 q1 q2 (wrap64 (a1 + 1)) _ _ hi b _ B HBG.out (blk_far BKG1.out (p := ⟨gb, 1, none⟩) (show g ≠ gb from (by have := GE.out; have := HG.out; omega)) _) (Kd.R_mono (Kd.R_far (p := ⟨gb, 1, none⟩) (impl_Diagram_build.flat HV1.out (ok' := fun k => k ≠ g ∧ k ≠ gb) (fun k hk h => ⟨h, fun he => NV1.out (by rw [hk, he])⟩)) (fun k h => h.2) _) (fun k h => h.1)) (Kd.R_reads' (Kd.R_set HHI.out BN.out (by decide) 1 _)).2.2 (Kd.R_reads' HHI.out).2.1 A4.out).mono ?_; rintro e w5 ⟨rfl, V2, hbk, hv, hk, hat, hbl⟩; have n0_ := Aside0.mk (hk.blk (blk_put (cs := #[.int .i64 a1, .int .i64 0, .int .i64 0]) (cs' := #[.int .i64 a1, .int .i64 a, .int .i64 0]) BN.out 1 (.int .i64 a) rfl) (by have := GE.out; have := HG.out; omega) (fun he => NV1.out he.symm)); have NV2 := Aside0.mk (impl_Diagram_build.away NV1.out hat (blk_lt (blk_put (cs := #[.int .i64 a1, .int .i64 0, .int .i64 0]) BN.out 1 (.int .i64 a) rfl))); have KB2 := Aside0.mk ((keep_far KB1.out (p := ⟨gb, 1, none⟩) GE.out (.int .i64 a)).trans hk AT1.out); have AT2 := Aside0.mk (impl_Diagram_build.older (keep_far KB1.out (p := ⟨gb, 1, none⟩) GE.out (.int .i64 a)).1 AT1.out hat); have BL2 := Aside0.mk ((BL1.out.setCell (p := ⟨gb, 1, none⟩) (Nat.le_trans HS.out GE.out) (.int .i64 a)).trans hbl); clear BN; have BN := n0_; have BKG2 := Aside0.mk hbk; have HV2 := Aside0.mk hv; clear HHI BKG1 HV1 KB1 AT1 BL1 NV1 n0_ hbk hv hk hat hbl hcz1 hfz1; have hcz2 := cq_ BN.out 2 (.int .i64 0); have hfz2 := blk_frozen BN.out 2))
              have n0_ := Aside0.mk (blk_far BKG2.out (p := ⟨gb, 2, none⟩) (show g ≠ gb from (by have := GE.out; have := HG.out; omega)) (.int .i64 b))
              have n1_ := Aside0.mk (Kd.R_mono (Kd.R_far (p := ⟨gb, 2, none⟩) (impl_Diagram_build.flat HV2.out (ok' := fun k => k ≠ g ∧ k ≠ gb) (fun k hk h => ⟨h, fun he => NV2.out (by rw [hk, he])⟩)) (fun k h => h.2) (.int .i64 b)) (fun k h => h.1))
              have n2_ := Aside0.mk (blk_put (cs := #[.int .i64 a1, .int .i64 a, .int .i64 0]) (cs' := #[.int .i64 a1, .int .i64 a, .int .i64 b]) BN.out 2 (.int .i64 b) rfl)
              have n3_ := Aside0.mk (keep_far KB2.out (p := ⟨gb, 2, none⟩) GE.out (.int .i64 b))
              have n4_ := Aside0.mk (BL2.out.setCell (p := ⟨gb, 2, none⟩) (Nat.le_trans HS.out GE.out) (.int .i64 b))
              clear hcz2 hfz2 BKG2 HV2 BN KB2 BL2
              generalize w5.setCell ⟨gb, 2, none⟩ (.int .i64 b) = w6 at n0_ n1_ n2_ n3_ n4_ ⊢
              obtain ⟨Aq, cq, eq⟩ := Kd.R_slice n1_.out
              subst eq
              refine start_ (n := 7) (S := fun w' => w'.cell? ⟨g, 1, none⟩ = some (.slice Aq q2.length cq) ∧ w'.cell? ⟨gb, 0, none⟩ = some (.int .i64 a1) ∧ w'.cell? ⟨gb, 1, none⟩ = some (.int .i64 a) ∧ w'.cell? ⟨gb, 2, none⟩ = some (.int .i64 b)) (ds := [5]) #[false, false, false, false, false, false, false] (by kernel_rfl) rfl rfl ⟨(blk_cell n0_.out 1).trans rfl, (blk_cell n2_.out 0).trans rfl, (blk_cell n2_.out 1).trans rfl, (blk_cell n2_.out 2).trans rfl⟩ (fun hHeld => ?_)
              replace n0_ := Aside0.mk (blk_drew n0_.out)
              replace n1_ := Aside0.mk (Kd.R_drew n1_.out)
              replace n2_ := Aside0.mk (blk_drew n2_.out)
              replace n3_ := Aside0.mk (keep_drew n3_.out)
              replace n4_ := Aside0.mk (below_drew n4_.out)
              generalize w6.drew = w7 at n0_ n1_ n2_ n3_ n4_ hHeld ⊢
              refine pure_ (i := 0) (N := some 60) (v := ?_) (a' := ?_) #[true, false, false, false, false, false, false] rfl rfl (by kernel_rfl) (fun _ _ _ h => h) (Or.inl ⟨by rfl, ?_⟩) ?_ ?_
              rotate_left
              · intro w'
                go_simp
                with_reducible rfl
              rotate_left
              · simp only [Act.put, List.setIfInBounds_toArray, List.set_cons_zero, List.set_cons_succ, i64_w, i32_w]
                rfl
              refine pure_ (i := 1) (N := some 61) (v := ?_) (a' := ?_) #[true, true, false, false, false, false, false] rfl rfl (by kernel_rfl) (fun _ _ _ h => h) (Or.inl ⟨by rfl, ?_⟩) ?_ ?_
              rotate_left
              · intro w'
                go_simp
                with_reducible rfl
              rotate_left
              · simp only [Act.put, List.setIfInBounds_toArray, List.set_cons_zero, List.set_cons_succ, i64_w, i32_w]
                rfl
              refine pure_ (i := 2) (N := some 62) (v := ?_) (a' := ?_) #[true, true, true, false, false, false, false] rfl rfl (by kernel_rfl) (fun _ _ _ h => h) (Or.inl ⟨by rfl, ?_⟩) ?_ ?_
              rotate_left
              · intro w'
                go_simp
                with_reducible rfl
              rotate_left
              · simp only [Act.put, List.setIfInBounds_toArray, List.set_cons_zero, List.set_cons_succ, i64_w, i32_w]
                rfl
              refine take_ (i := 3) (N := some 63) (v := ?_) (a' := ?_) #[true, true, true, true, false, false, false] rfl rfl (by kernel_rfl) (fun _ _ _ h => h) (Or.inl ⟨by rfl, ?_⟩) hHeld ?_ ?_
              rotate_left
              · rintro w' ⟨s0, s1, s2, s3⟩
                go_simp
                with_reducible rfl
              rotate_left
              · simp only [Act.put, List.setIfInBounds_toArray, List.set_cons_zero, List.set_cons_succ, i64_w, i32_w]
                rfl
              refine take_ (i := 4) (N := some 64) (v := ?_) (a' := ?_) #[true, true, true, true, true, false, false] rfl rfl (by kernel_rfl) (fun _ _ _ h => h) (Or.inl ⟨by rfl, ?_⟩) hHeld ?_ ?_
              rotate_left
              · rintro w' ⟨s0, s1, s2, s3⟩
                go_simp
                with_reducible rfl
              rotate_left
              · simp only [Act.put, List.setIfInBounds_toArray, List.set_cons_zero, List.set_cons_succ, i64_w, i32_w]
                rfl
              refine last_ (i := 5) (N := some 65) #[true, true, true, true, true, true, false] rfl rfl (by kernel_rfl) (by decide) (fun K hK => ?_)
              refine goes_ Try.func110 (by kernel_rfl) rfl #[.slice Aq q2.length cq, .agg #[.int .i64 a1, .int .i64 a, .int .i64 b]] (by rfl) rfl rfl (by (try simp only [List.map_toArray, List.map_cons, List.map_nil]); first | done | rfl) ?_
              refine (impl_Node_110.calls k _ _ q2 a1 a b y _ (Kd.R_reads' n1_.out).2.2 (Kd.R_reads' n1_.out).2.1 A5.out).mono ?_
              rintro e w8 ⟨rfl, hb⟩
              refine ⟨_, rfl, ?_⟩
              replace n0_ := Aside0.mk (blk_below n0_.out hb)
              replace n1_ := Aside0.mk (Kd.R_below n1_.out hb)
              replace n2_ := Aside0.mk (blk_below n2_.out hb)
              replace n4_ := Aside0.mk (n4_.out.trans (hb.mono (Nat.le_trans HS.out n3_.out.1)))
              replace n3_ := Aside0.mk (n3_.out.trans (KeepBut.of_below hb g V.ownBlock) (.inl rfl))
              clear hb
              refine hK.out _ _ ?_
              clear hK K
              refine norm_ (a' := ?_) ?_ ?_
              rotate_left
              · show Act.put _ (some 65) _ = _
                simp only [Act.put, List.setIfInBounds_toArray, List.set_cons_zero, List.set_cons_succ, i64_w, i32_w]
                rfl
              refine pure_ (i := 6) (N := some 12) (v := ?_) (a' := ?_) #[true, true, true, true, true, true, true] rfl rfl (by kernel_rfl) (fun _ _ _ h => h) (Or.inl ⟨by rfl, ?_⟩) ?_ ?_
              rotate_left
              · intro w'
                go_simp
                with_reducible rfl
              rotate_left
              · simp only [Act.put, List.setIfInBounds_toArray, List.set_cons_zero, List.set_cons_succ, i64_w, i32_w]
                rfl
              refine done_ (by kernel_rfl) ?_
              have hczg := cq_ n0_.out 1 (.slice Aq q2.length cq)
              have h := HH.out
              clear HH
              by_cases c9 : y < 0
              · rw [if_pos c9] at h
                have c9b : decide (y < 0) = true := decide_eq_true c9
                clear c9
                by_cases c10 : q2.length < 1099511627776
                · rw [if_pos c10] at h
                  have LM := Aside0.mk c10
                  clear c10
                  simp only [Option.some.injEq, Prod.mk.injEq] at h
                  obtain ⟨rfl, rfl⟩ := h
                  go_wp2
                  refine start_ (n := 11) (S := fun w' => w'.cell? ⟨g, 1, none⟩ = some (.slice Aq q2.length cq) ∧ w'.cell? ⟨gb, 0, none⟩ = some (.int .i64 a1) ∧ w'.cell? ⟨gb, 1, none⟩ = some (.int .i64 a) ∧ w'.cell? ⟨gb, 2, none⟩ = some (.int .i64 b)) (ds := [7, 10]) #[false, false, false, false, false, false, false, false, false, false, false] (by kernel_rfl) rfl rfl ⟨hczg, (blk_cell n2_.out 0).trans rfl, (blk_cell n2_.out 1).trans rfl, (blk_cell n2_.out 2).trans rfl⟩ (fun hHeld => ?_)
                  replace n0_ := Aside0.mk (blk_drew n0_.out)
                  replace n1_ := Aside0.mk (Kd.R_drew n1_.out)
                  replace n2_ := Aside0.mk (blk_drew n2_.out)
                  replace n3_ := Aside0.mk (keep_drew n3_.out)
                  replace n4_ := Aside0.mk (below_drew n4_.out)
                  clear hczg
                  generalize w8.drew = w9 at n0_ n1_ n2_ n3_ n4_ hHeld ⊢
                  refine pure_ (i := 0) (N := some 73) (v := ?_) (a' := ?_) #[true, false, false, false, false, false, false, false, false, false, false] rfl rfl (by kernel_rfl) (fun _ _ _ h => h) (Or.inl ⟨by rfl, ?_⟩) ?_ ?_
                  rotate_left
                  · intro w'
                    go_simp
                    with_reducible rfl
                  rotate_left
                  · simp only [Act.put, List.setIfInBounds_toArray, List.set_cons_zero, List.set_cons_succ, i64_w, i32_w]
                    rfl
                  refine pure_ (i := 1) (N := some 74) (v := ?_) (a' := ?_) #[true, true, false, false, false, false, false, false, false, false, false] rfl rfl (by kernel_rfl) (fun _ _ _ h => h) (Or.inl ⟨by rfl, ?_⟩) ?_ ?_
                  rotate_left
                  · intro w'
                    go_simp
                    with_reducible rfl
                  rotate_left
                  · simp only [Act.put, List.setIfInBounds_toArray, List.set_cons_zero, List.set_cons_succ, i64_w, i32_w]
                    rfl
                  refine pure_ (i := 2) (N := some 75) (v := ?_) (a' := ?_) #[true, true, true, false, false, false, false, false, false, false, false] rfl rfl (by kernel_rfl) (fun _ _ _ h => h) (Or.inl ⟨by rfl, ?_⟩) ?_ ?_
                  rotate_left
                  · intro w'
                    go_simp
                    with_reducible rfl
                  rotate_left
                  · simp only [Act.put, List.setIfInBounds_toArray, List.set_cons_zero, List.set_cons_succ, i64_w, i32_w]
                    rfl
                  refine pure_ (i := 3) (N := some 76) (v := ?_) (a' := ?_) #[true, true, true, true, false, false, false, false, false, false, false] rfl rfl (by kernel_rfl) (fun _ _ _ h => h) (Or.inl ⟨by rfl, ?_⟩) ?_ ?_
                  rotate_left
                  · intro w'
                    go_simp
                    with_reducible rfl
                  rotate_left
                  · simp only [Act.put, List.setIfInBounds_toArray, List.set_cons_zero, List.set_cons_succ, i64_w, i32_w]
                    rfl
                  refine take_ (i := 4) (N := some 77) (v := ?_) (a' := ?_) #[true, true, true, true, true, false, false, false, false, false, false] rfl rfl (by kernel_rfl) (fun _ _ _ h => h) (Or.inl ⟨by rfl, ?_⟩) hHeld ?_ ?_
                  rotate_left
                  · rintro w' ⟨s0, s1, s2, s3⟩
                    go_simp
                    with_reducible rfl
                  rotate_left
                  · simp only [Act.put, List.setIfInBounds_toArray, List.set_cons_zero, List.set_cons_succ, i64_w, i32_w]
                    rfl
                  refine take_ (i := 5) (N := some 78) (v := ?_) (a' := ?_) #[true, true, true, true, true, true, false, false, false, false, false] rfl rfl (by kernel_rfl) (fun _ _ _ h => h) (Or.inl ⟨by rfl, ?_⟩) hHeld ?_ ?_
                  rotate_left
                  · rintro w' ⟨s0, s1, s2, s3⟩
                    go_simp
                    with_reducible rfl
                  rotate_left
                  · simp only [Act.put, List.setIfInBounds_toArray, List.set_cons_zero, List.set_cons_succ, i64_w, i32_w]
                    rfl
                  refine one_ (i := 6) (N := some 79) #[true, true, true, true, true, true, true, false, false, false, false] rfl rfl (by kernel_rfl) (by decide) (fun K hK => ?_)
                  refine value_ (w1 := ?_) (v := ?_) (by rfl) rfl ?_ ?_
                  rotate_left 2
                  · go_simp
                    constructor
                    · rfl
                    · rfl
                  refine hK.out _ _ ⟨(blk_cell (blk_alloc n0_.out _) 1).trans rfl, (blk_cell (blk_alloc n2_.out _) 0).trans rfl, (blk_cell (blk_alloc n2_.out _) 1).trans rfl, (blk_cell (blk_alloc n2_.out _) 2).trans rfl⟩ (fun hHeld2 => ?_)
                  clear hK K hHeld
                  refine norm_ (a' := ?_) ?_ ?_
                  rotate_left
                  · show Act.put _ (some 79) _ = _
                    simp only [Act.put, List.setIfInBounds_toArray, List.set_cons_zero, List.set_cons_succ, i64_w, i32_w]
                    rfl
                  refine last_ (i := 7) (N := some 80) #[true, true, true, true, true, true, true, true, false, false, false] rfl rfl (by kernel_rfl) (by decide) (fun K hK => ?_)
                  refine Kd.R_append_step k75 (w0 := w9) B (by rfl) (.tmp 77) (.tmp 79) 28 75 (.agg #[(.int .i64 0), (.int .i64 0), (.int .i64 0)]) 24 rfl Try.underlying28 info75 rfl (by decide) (by omega) (.slice Aq q2.length cq) q2 ⟨a1, a, b⟩ [.int .i64 a1, .int .i64 a, .int .i64 b] (fun k => k ≠ g) (fun _ => False) rfl rfl ?aP (fun _ hk => hk.elim) ?aF ?aO ?aB ?aS ?aL ?_
                  (case aP => exact k75_mkM _ _ _ ⟨a1, a, b⟩)
                  (case aB => exact Below.refl _ _)
                  (case aF => exact (fun k_ hk => by have := blk_lt n0_.out; omega))
                  (case aO => exact n1_.out)
                  (case aS => exact Nat.le_trans HBG.out (Nat.le_of_lt (blk_lt n0_.out)))
                  (case aL => have := LM.out; omega)
                  intro V3 w10 ho hb hg hat
                  obtain ⟨A3_, c3_, e3_⟩ := Kd.R_slice ho
                  rw [List.length_append] at e3_
                  replace e3_ : V3 = .slice A3_ (q2.length + 1) c3_ := e3_
                  subst e3_
                  have NG := Aside0.mk (show some g ≠ (Value.slice Aq q2.length cq).ownBlock from fun he => n1_.out.1 g he.symm rfl)
                  replace n0_ := Aside0.mk (blk_grown n0_.out hg NG.out)
                  have n5_ := Aside0.mk n3_.out.1
                  replace n3_ := Aside0.mk (n3_.out.trans (KeepBut.of_grown hg g) AT2.out)
                  replace n4_ := Aside0.mk (n4_.out.trans hb)
                  clear n1_ n2_ hg hb hHeld2
                  refine hK.out _ _ ?_
                  clear hK K
                  refine norm_ (a' := ?_) ?_ ?_
                  rotate_left
                  · show Act.put _ (some 80) _ = _
                    simp only [Act.put, List.setIfInBounds_toArray, List.set_cons_zero, List.set_cons_succ, i64_w, i32_w]
                    rfl
                  have hczg := cq_ n0_.out 1 (.slice Aq q2.length cq)
                  have hfzg := blk_frozen n0_.out 1
                  refine pure_ (i := 8) (N := some 81) (v := ?_) (a' := ?_) #[true, true, true, true, true, true, true, true, true, false, false] rfl rfl (by kernel_rfl) (fun _ _ _ h => h) (Or.inl ⟨by rfl, ?_⟩) ?_ ?_
                  rotate_left
                  · intro w'
                    go_simp
                    with_reducible rfl
                  rotate_left
                  · simp only [Act.put, List.setIfInBounds_toArray, List.set_cons_zero, List.set_cons_succ, i64_w, i32_w]
                    rfl
                  refine pure_ (i := 9) (N := some 82) (v := ?_) (a' := ?_) #[true, true, true, true, true, true, true, true, true, true, false] rfl rfl (by kernel_rfl) (fun _ _ _ h => h) (Or.inl ⟨by rfl, ?_⟩) ?_ ?_
                  rotate_left
                  · intro w'
                    go_simp
                    with_reducible rfl
                  rotate_left
                  · simp only [Act.put, List.setIfInBounds_toArray, List.set_cons_zero, List.set_cons_succ, i64_w, i32_w]
                    rfl
                  refine last_ (i := 10) (N := none) #[true, true, true, true, true, true, true, true, true, true, true] rfl rfl (by kernel_rfl) (by decide) (fun K hK => ?_)
                  refine skip_ (w1 := ?_) (by rfl) rfl ?_ ?_
                  rotate_left
                  · go_simp
                    rfl
                  refine hK.out _ _ ?_
                  clear hK K
                  refine done_ (by kernel_rfl) ?_
                  have n1_ := Aside0.mk (Kd.R_mono (Kd.R_far (p := ⟨g, 1, none⟩) ho (fun k h => h) (Value.slice A3_ (q2.length + 1) c3_)) (fun k h => h))
                  replace n0_ := Aside0.mk (blk_put (cs := #[.int .i64 vars, .slice Aq q2.length cq, .int .i64 root]) (cs' := #[.int .i64 vars, (Value.slice A3_ (q2.length + 1) c3_), .int .i64 root]) n0_.out 1 (Value.slice A3_ (q2.length + 1) c3_) rfl)
                  replace n3_ := Aside0.mk (n3_.out.set_ 1 (Value.slice A3_ (q2.length + 1) c3_))
                  replace n4_ := Aside0.mk (n4_.out.setCell (p := ⟨g, 1, none⟩) HBG.out (Value.slice A3_ (q2.length + 1) c3_))
                  have HAT := Aside0.mk hat
                  clear ho hat hczg
                  go_wp2
                  go_ret
                  exact ⟨by first | rfl | (simp; done) | (simp [*]; done), _, n0_.out, n1_.out, n3_.out, impl_Diagram_build.older n5_.out AT2.out HAT.out, n4_.out⟩
                · rw [if_neg c10] at h
                  exact absurd h (by simp)
              · rw [if_neg c9] at h
                have c9b : decide (y < 0) = false := decide_eq_false c9
                clear c9
                simp only [Option.some.injEq, Prod.mk.injEq] at h
                obtain ⟨rfl, rfl⟩ := h
                go_wp2
                go_ret
                exact ⟨by first | rfl | (simp; done) | (simp [*]; done), _, n0_.out, n1_.out, n3_.out, AT2.out, n4_.out⟩
def impl_diagram.f (k : Nat) (a0 : Int) (l1 : List Bool) : Option (Int × (List (S75)) × Int) := (impl_Diagram_build.f k 1 l1 []).bind fun x => some (a0, x.2, x.1)
set_option maxHeartbeats 8000000 in
set_option maxRecDepth 100000 in
theorem impl_diagram.calls (k : Nat) (a0 : Int) (A1 : Option Addr) (c1 : Nat) (l1 : List Bool) (r1 : Int) (r2 : List (S75)) (r3 : Int) (w : World) (hr1 : Kd.C Kd.bool w A1 l1.length l1) (hc1 : l1.length ≤ c1) (h : impl_diagram.f k a0 l1 = some (r1, r2, r3)) :
    Calls Try.prog 84 #[.int .i64 a0, .slice A1 l1.length c1] w fun e w' => ∃ v1_ : Value, e = .returned (.agg #[.int .i64 r1, v1_, .int .i64 r3]) ∧ Kd.R k75 75 w' w.heap.size (fun _ => True) v1_ r2 ∧ Below w.heap.size w w' := by
  have hu30 := Try.underlying30
  have HR1 := Aside0.mk hr1
  have HC1 := Aside0.mk hc1
  have HB := Aside0.mk (Below.refl w.heap.size w)
  obtain ⟨⟨x, q⟩, A10, H⟩ := Option.bind_eq_some_iff.mp h
  have A1 := Aside0.mk A10
  clear hr1 hc1 A10 h
  simp only [Option.some.injEq, Prod.mk.injEq] at H
  obtain ⟨rfl, rfl, rfl⟩ := H
  go_enter Try.func84, Try.ntmps84
  go_wp2_with (first | ((with_reducible refine gate_dst (N := 4) rfl ?_); refine boxq_ (N := 4) (cs := #[.int .i64 0, .slice none 0 0, .int .i64 0]) (t := 30) ?_; intro g4 hg w3 hbox hb; have n0_ := Aside0.mk (below_step (bq_) hb); have GE4 := Aside0.mk ((by rw [hg]; exact (below_size (bq_))) : w.heap.size ≤ g4); clear HB; have HB := n0_; have BK4 := Aside0.mk hbox; clear n0_ hb hbox hg) | ((with_reducible refine gate_dst (N := 5) rfl ?_); refine boxq_ (N := 5) (cs := #[.int .i64 0, .slice none 0 0, .int .i64 0]) (t := 30) ?_; intro g5 hg w4 hbox hb; have NE := Aside0.mk ((by rw [hg]; exact Nat.ne_of_lt (blk_lt BK4.out)) : g4 ≠ g5); have n0_ := Aside0.mk (below_step (bq_) hb); have n1_ := Aside0.mk (blk_below BK4.out hb); have GE5 := Aside0.mk ((by rw [hg]; exact (below_size (bq_))) : w.heap.size ≤ g5); clear HB BK4; have HB := n0_; have BK4 := n1_; have BK5 := Aside0.mk hbox; clear n0_ n1_ hb hbox hg; have hcz0 := cq_ BK5.out 0 (.int .i64 0); have hcz1 := cq_ BK5.out 1 (.slice none 0 0); have hcz2 := cq_ BK5.out 2 (.int .i64 0); have hfz0 := blk_frozen BK5.out 0; have hfz1 := blk_frozen BK5.out 1; have hfz2 := blk_frozen BK5.out 2) | (go_at_call 100; have n0_ := Aside0.mk (show Below w.heap.size w (((w4.setCell ⟨g5, 0, none⟩ (.int .i64 a0)).setCell ⟨g5, 1, none⟩ (.slice none 0 0)).setCell ⟨g5, 2, none⟩ (.int .i64 0)) from below_set (j := 2) (v := (.int .i64 0)) (below_set (j := 1) (v := (.slice none 0 0)) (below_set (j := 0) (v := (.int .i64 a0)) (HB.out) GE5.out) GE5.out) GE5.out); have n1_ := Aside0.mk (show (((w4.setCell ⟨g5, 0, none⟩ (.int .i64 a0)).setCell ⟨g5, 1, none⟩ (.slice none 0 0)).setCell ⟨g5, 2, none⟩ (.int .i64 0)).heap[g5]? = _ from blk_put (cs := #[.int .i64 a0, .slice none 0 0, .int .i64 0]) (cs' := #[.int .i64 a0, .slice none 0 0, .int .i64 0]) (blk_put (cs := #[.int .i64 a0, .slice none 0 0, .int .i64 0]) (cs' := #[.int .i64 a0, .slice none 0 0, .int .i64 0]) (blk_put (cs := #[.int .i64 0, .slice none 0 0, .int .i64 0]) (cs' := #[.int .i64 a0, .slice none 0 0, .int .i64 0]) (BK5.out) 0 (.int .i64 a0) rfl) 1 (.slice none 0 0) rfl) 2 (.int .i64 0) rfl); have n2_ := Aside0.mk (show (((w4.setCell ⟨g5, 0, none⟩ (.int .i64 a0)).setCell ⟨g5, 1, none⟩ (.slice none 0 0)).setCell ⟨g5, 2, none⟩ (.int .i64 0)).heap[g4]? = _ from blk_far (blk_far (blk_far (BK4.out) (p := ⟨g5, 0, none⟩) (show g4 ≠ g5 from NE.out) (.int .i64 a0)) (p := ⟨g5, 1, none⟩) (show g4 ≠ g5 from NE.out) (.slice none 0 0)) (p := ⟨g5, 2, none⟩) (show g4 ≠ g5 from NE.out) (.int .i64 0)); generalize (((w4.setCell ⟨g5, 0, none⟩ (.int .i64 a0)).setCell ⟨g5, 1, none⟩ (.slice none 0 0)).setCell ⟨g5, 2, none⟩ (.int .i64 0)) = W1 at n0_ n1_ n2_ ⊢; clear HB BK4 BK5 hcz0 hcz1 hcz2 hfz0 hfz1 hfz2; refine (impl_Diagram_build.callsR k g5 a0 0 (.slice none 0 0) [] q 1 _ _ l1 x _ w.heap.size GE5.out n1_.out (Kd.R_nil _ _ _ _ _) (Kd.C_below HR1.out n0_.out) HC1.out A1.out).mono ?_; rintro e w5 ⟨rfl, V1, hbk, hv, hk, hat, hbl⟩; have BK4 := Aside0.mk (hk.blk n2_.out NE.out (by simp [Value.ownBlock])); have BK5 := Aside0.mk hbk; have HV := Aside0.mk hv; have NV := Aside0.mk (show V1.ownBlock ≠ some g4 from impl_Diagram_build.away (by simp [Value.ownBlock]) hat (blk_lt n2_.out)); have HB := Aside0.mk (n0_.out.trans hbl); clear n0_ n1_ n2_ hbk hv hk hat hbl; obtain ⟨Av, cv, ev⟩ := Kd.R_slice HV.out; subst ev; have hcz0 := cq_ BK5.out 0 (.int .i64 a0); have hcz1 := cq_ BK5.out 1 (.slice Av q.length cv); have hcz2 := cq_ BK5.out 2 (.int .i64 0); have hfz0 := blk_frozen BK5.out 0; have hfz1 := blk_frozen BK5.out 1; have hfz2 := blk_frozen BK5.out 2; have hcy0 := cq_ BK4.out 0 (.int .i64 0); have hcy1 := cq_ BK4.out 1 (.slice none 0 0); have hcy2 := cq_ BK4.out 2 (.int .i64 0); have hfy0 := blk_frozen BK4.out 0; have hfy1 := blk_frozen BK4.out 1; have hfy2 := blk_frozen BK4.out 2; have hnb := NE.out; have hnc := Ne.symm NE.out))
  refine bodyPost_ret (results_cell_row rfl _ _ g4 30 #[.int .i64 a0, (.slice Av q.length cv), .int .i64 x] (0, 0) _ rfl (blk_put (cs := #[.int .i64 a0, (.slice Av q.length cv), .int .i64 0]) (cs' := #[.int .i64 a0, (.slice Av q.length cv), .int .i64 x]) (blk_put (cs := #[.int .i64 a0, .slice none 0 0, .int .i64 0]) (cs' := #[.int .i64 a0, (.slice Av q.length cv), .int .i64 0]) (blk_put (cs := #[.int .i64 0, .slice none 0 0, .int .i64 0]) (cs' := #[.int .i64 a0, .slice none 0 0, .int .i64 0]) (blk_far BK4.out (p := ⟨g5, 2, none⟩) (show g4 ≠ g5 from NE.out) (.int .i64 x)) 0 (.int .i64 a0) rfl) 1 ((.slice Av q.length cv)) rfl) 2 (.int .i64 x) rfl) Try.underlying30 rfl (by kernel_rfl)) rfl ?_
  exact ⟨_, by first | rfl | (simp; done) | (simp [*]; done), Kd.R_mono (Kd.R_far (p := ⟨g4, 2, none⟩) (Kd.R_far (p := ⟨g4, 1, none⟩) (Kd.R_far (p := ⟨g4, 0, none⟩) (Kd.R_far (p := ⟨g5, 2, none⟩) (impl_Diagram_build.flat HV.out (ok' := fun k => k ≠ g5 ∧ k ≠ g4) (fun k hk h => ⟨h, fun he => NV.out (by rw [hk, he])⟩)) (fun k h => h.1) (.int .i64 x)) (fun k h => h.2) (.int .i64 a0)) (fun k h => h.2) ((.slice Av q.length cv))) (fun k h => h.2) (.int .i64 x)) (fun _ _ => trivial), below_set (j := 2) (v := (.int .i64 x)) (below_set (j := 1) (v := ((.slice Av q.length cv))) (below_set (j := 0) (v := (.int .i64 a0)) (below_set (j := 2) (v := (.int .i64 x)) HB.out GE5.out) GE4.out) GE4.out) GE4.out⟩
def impl_in.f (a0 : Int) (a1 : Int) (a2 : Int) : Option (Bool) := if a0 ≥ a1 then (some (decide (a0 ≤ a2))) else (some false)
set_option maxHeartbeats 8000000 in
set_option maxRecDepth 100000 in
theorem impl_in.calls (a0 : Int) (a1 : Int) (a2 : Int) (r : Bool) (w : World) (h : impl_in.f a0 a1 a2 = some r) :
    Calls Try.prog 68 #[.int .i64 a0, .int .i64 a1, .int .i64 a2] w fun e w' => e = .returned (.bool r) ∧ Drawn0 w w' := by
  have H : (if a0 ≥ a1 then (some (decide (a0 ≤ a2))) else (some false)) = some r := h
  clear h
  by_cases c4 : a0 ≥ a1
  · rw [if_pos c4] at H
    have c4b0 : decide (a1 ≤ a0) = true := decide_eq_true c4
    clear c4
    obtain rfl := Option.some.inj H
    go_enter Try.func68, Try.ntmps68
    go_wp2
    go_ret
    exact ⟨by first | rfl | (simp; done) | (simp [*]; done), by repeat (first | exact Drawn0.refl _ | apply Drawn0.step)⟩
  · rw [if_neg c4] at H
    have c4b0 : decide (a1 ≤ a0) = false := decide_eq_false c4
    clear c4
    obtain rfl := Option.some.inj H
    go_enter Try.func68, Try.ntmps68
    go_wp2
    go_ret
    exact ⟨by first | rfl | (simp; done) | (simp [*]; done), by repeat (first | exact Drawn0.refl _ | apply Drawn0.step)⟩
end Go.Proofs.Ytpndhlcbfobelaa.PBE

import Derived.Test.YtpndhlcbfobelaaPDXx0
import Derived.Test.YtpndhlcbfobelaaPDXx2
import Derived.Test.YtpndhlcbfobelaaPDXx3
import Derived.Test.YtpndhlcbfobelaaPDXx4
import Derived.Test.YtpndhlcbfobelaaPDXx5
import Derived.Test.YtpndhlcbfobelaaPDXx7
import Derived.Test.YtpndhlcbfobelaaPDXx8
namespace Go.Proofs.Ytpndhlcbfobelaa.PDX
open Go.RowKit Go.Proofs.YtpndhlcbfobelaaW.PrintWords Go.Proofs.YtpndhlcbfobelaaW.PrintLast Go.Proofs.YtpndhlcbfobelaaW.PrintMore
attribute [local go_sem] max2_int min2_int max_two min_two max_three min_three max_four min_four   -- for this text's walks alone
set_option linter.unusedVariables false
set_option linter.unusedSimpArgs false
def impl_BothOf.pr (k : Nat) (a0 : Int) (l0 : List S75) (a2 : Int) (b0 : Int) (l1 : List S75) (b2 : Int) (i : Int) : Option Bool := (impl_Diagram_value.f k a0 l0 a2 i).bind fun t => if t = true then impl_Diagram_value.f k b0 l1 b2 i else some false
set_option maxHeartbeats 4000000 in
set_option maxRecDepth 100000 in
theorem impl_BothOf.pr_calls (k B0 B1 : Nat) (A0 : Option Addr) (c0 : Nat) (a0 : Int) (l0 : List S75) (a2 : Int) (A1 : Option Addr) (c1 : Nat) (b0 : Int) (l1 : List S75) (b2 : Int) (x : Int) (v : Bool) (w : World) (hB0 : w.heap[B0]? = some (.cells #[.int .i64 a0, .slice A0 l0.length c0, .int .i64 a2] 30 (0, 0))) (hB1 : w.heap[B1]? = some (.cells #[.int .i64 b0, .slice A1 l1.length c1, .int .i64 b2] 30 (0, 0))) (hr : Kd.C k75 w A0 l0.length l0) (hc : l0.length ≤ c0) (hr1 : Kd.C k75 w A1 l1.length l1) (hc1 : l1.length ≤ c1) (h : impl_BothOf.pr k a0 l0 a2 b0 l1 b2 x = some v) :
  Calls Try.prog 66 #[.int .i64 x, .pointer (some ⟨B0, 0, none⟩), .pointer (some ⟨B1, 0, none⟩)] w fun e w' => e = .returned (.bool v) ∧ Below w.heap.size w w' := by
 have hu30 := Try.underlying30
 have HR := am_ hr
 have HC := am_ hc
 have HR1 := am_ hr1
 have HC1 := am_ hc1
 have HB1 := am_ hB1
 have HB := am_ (Below.refl w.heap.size w)
 unfold impl_BothOf.pr at h
 obtain ⟨t, A10, h1⟩ := Option.bind_eq_some_iff.mp h
 have A1_ := am_ A10
 clear A10 h hr hc hr1 hc1
 have hcz0 : w.cell? ⟨B0, 0, none⟩ = some (.int .i64 a0) := (blk_cell hB0 0).trans rfl
 have hcz1 : w.cell? ⟨B0, 1, none⟩ = some (.slice A0 l0.length c0) := (blk_cell hB0 1).trans rfl
 have hcz2 : w.cell? ⟨B0, 2, none⟩ = some (.int .i64 a2) := (blk_cell hB0 2).trans rfl
 clear hB0 hB1
 by_cases c8 : t = true
 ·subst c8
  rw [if_pos rfl] at h1
  have A2_ := am_ h1
  clear h1
  go_enter Try.func66, Try.ntmps66
  go_wp2_with (first | (have t_ := A1_; go_at_call 59; refine (impl_Diagram_value.calls k a0 _ _ l0 a2 x true _ y15_ HC.out A1_.out).mono ?_; rintro e w3 ⟨rfl, hb⟩; replace HB := bs_ hb; clear A1_ t_; have hB1 := blk_below HB1.out hb; have hcw0 : w3.cell? ⟨B1, 0, none⟩ = some (.int .i64 b0) := (blk_cell hB1 0).trans rfl; have hcw1 : w3.cell? ⟨B1, 1, none⟩ = some (.slice A1 l1.length c1) := (blk_cell hB1 1).trans rfl; have hcw2 : w3.cell? ⟨B1, 2, none⟩ = some (.int .i64 b2) := (blk_cell hB1 2).trans rfl; clear hB1 hb) | (have t_ := A2_; go_at_call 59; refine (impl_Diagram_value.calls k b0 _ _ l1 b2 x v _ (by (with_reducible repeat (first | apply Kd.C_alloc | apply Kd.C_drewN | apply Kd.C_drew)); first | exact HR1.out | exact Kd.C_below HR1.out HB.out) HC1.out A2_.out).mono ?_; rintro e w4 ⟨rfl, hb⟩; replace HB := bs_ hb; clear A2_ t_ hb))
  go_ret
  exact ⟨by first | rfl | (simp; done) | (simp [*]; done), bq_⟩
 ·replace c8 := Bool.eq_false_iff.mpr c8
  subst c8
  rw [if_neg (by simp)] at h1
  obtain rfl := Option.some.inj h1
  clear h1
  go_enter Try.func66, Try.ntmps66
  go_wp2_with (have t_ := A1_; go_at_call 59; refine (impl_Diagram_value.calls k a0 _ _ l0 a2 x false _ y15_ HC.out A1_.out).mono ?_; rintro e w3 ⟨rfl, hb⟩; replace HB := bs_ hb; clear A1_ t_; have hB1 := blk_below HB1.out hb; have hcw0 : w3.cell? ⟨B1, 0, none⟩ = some (.int .i64 b0) := (blk_cell hB1 0).trans rfl; have hcw1 : w3.cell? ⟨B1, 1, none⟩ = some (.slice A1 l1.length c1) := (blk_cell hB1 1).trans rfl; have hcw2 : w3.cell? ⟨B1, 2, none⟩ = some (.int .i64 b2) := (blk_cell hB1 2).trans rfl; clear hB1 hb)
  go_ret
  exact ⟨by first | rfl | (simp; done) | (simp [*]; done), bq_⟩
def impl_BothOf.ml : Nat → (Int → Option Bool) → Int → List Bool → Int → Option (List Bool)
 | 0, _, _, _, _ => none
 | k + 1, p, N, out, i => if i < N then ((p i).bind fun t => (if out.length < 17592186044416 then impl_BothOf.ml k p N (out ++ [t]) (wrap64 (i + 1)) else none)) else some out
def impl_BothOf.mapf (k : Nat) (p : Int → Option Bool) (vars : Int) : Option (Int × List S75 × Int) := if 0 ≤ vars then ((impl_BothOf.ml k p (shl .i64 1 vars) [] 0).bind fun t => impl_diagram.f k vars t) else none
set_option maxHeartbeats 8000000 in
set_option maxRecDepth 100000 in
theorem impl_BothOf.map_calls (k : Nat) (B0 B1 : Nat) (p : Int → Option Bool) (vars : Int) (r1 : Int) (r2 : List S75) (r3 : Int) (w : World)
  (hp : ∀ (W : World) (x : Int) (v : Bool), Below w.heap.size w W → p x = some v → Calls Try.prog 66 #[.int .i64 x, .pointer (some ⟨B0, 0, none⟩), .pointer (some ⟨B1, 0, none⟩)] W fun e w' => e = .returned (.bool v) ∧ Below W.heap.size W w')
  (h : impl_BothOf.mapf k p vars = some (r1, r2, r3)) :
  Calls Try.prog 63 #[.int .i64 vars, .func (.func 66) #[] #[.pointer (some ⟨B0, 0, none⟩), .pointer (some ⟨B1, 0, none⟩)]] w fun e w' => ∃ v1_ : Value, e = .returned (.agg #[.int .i64 r1, v1_, .int .i64 r3]) ∧ Kd.R k75 75 w' w.heap.size (fun _ => True) v1_ r2 ∧ Below w.heap.size w w' := by
 have hu30 := Try.underlying30
 have HP := am_ hp
 clear hp
 have HB := am_ (Below.refl w.heap.size w)
 unfold impl_BothOf.mapf at h
 by_cases c0 : 0 ≤ vars
 ·rw [if_pos c0] at h
  have c0b := eq_true c0
  have c0d : decide (0 ≤ vars) = true := decide_eq_true c0
  clear c0
  obtain ⟨ji, hji⟩ : ∃ j_ : Int, (shl .i64 1 vars) = j_ := ⟨_, rfl⟩
  have hji_ : (IntKind.i64.wrap (1 * 2 ^ min vars.toNat 64)) = ji := hji
  have hjiz : vars ≤ 64 → (IntKind.i64.wrap (1 * 2 ^ vars.toNat)) = ji := shl_small hji
  have hjiu : (IntKind.i64.wrap (2 ^ min vars.toNat 64)) = ji := by have h_ := hji_; rw [Int.one_mul] at h_; exact h_
  have hjiv : vars ≤ 64 → (IntKind.i64.wrap (2 ^ vars.toNat)) = ji := fun hle_ => by have h_ := hjiz hle_; rw [Int.one_mul] at h_; exact h_
  have hjiy : (wrap64 (1 * 2 ^ min vars.toNat 64)) = ji := (i64_w _).symm.trans hji_
  have hjix : vars ≤ 64 → (wrap64 (1 * 2 ^ vars.toNat)) = ji := fun h_ => (i64_w _).symm.trans (hjiz h_)
  rw [hji] at h
  obtain ⟨tt, A10, h1⟩ := Option.bind_eq_some_iff.mp h
  have A1 := am_ A10
  have A2 := am_ h1
  clear A10 h h1
  have eg := fun args w => enters_ (P := Try.prog) Try.func66 (by kernel_rfl) rfl args w
  go_enter Try.func63, Try.ntmps63
  go_wp2_with ((with_reducible refine gate_dst (N := 4) rfl ?_); refine boxq_ (N := 4) (cs := #[.int .i64 0, .slice none 0 0, .int .i64 0]) (t := 30) ?_; intro g4 hg w3 hbox hb; have n0_ := bs_ hb; have GE4 := am_ (y34_ : w.heap.size ≤ g4); clear HB; have HB := n0_; have BK4 := am_ hbox; clear n0_ hb hbox hg)
  go_loopg [5, 9] k (fun kq v5 v9 w' => ∃ (o : List Bool) (x : Int), v9 = .int .i64 x ∧ Aside0 (impl_BothOf.ml kq p ji o x = some tt) ∧ Aside0 (kq ≤ k) ∧ Aside0 (Kd.R Kd.bool 4 w' w.heap.size (fun _ => True) v5 o) ∧ Aside0 (w'.heap[g4]? = some (.cells #[.int .i64 0, .slice none 0 0, .int .i64 0] 30 (0, 0))) ∧ Aside0 (Below w.heap.size w w'))
  case atStart => exact ⟨[], (0), y30_, A1, ⟨Nat.le_refl _⟩, ⟨Kd.R_nil _ _ _ _ _⟩, ⟨BK4.out⟩, ⟨bq_⟩⟩
  case round =>
   clear A1 HB BK4
   obtain ⟨o, x, rfl, HA, HK1, HO, BK4, HB⟩ := hrel
   cases gk with
   | zero => exact absurd HA.out (by simp [impl_BothOf.ml])
   | succ k1 =>
    have H := HA.out
    clear HA
    simp only [impl_BothOf.ml] at H
    by_cases c4 : x < ji
    ·rw [if_pos c4] at H
     have c4b0 : decide (x < ji) = true := decide_eq_true c4
     clear c4
     obtain ⟨t, A70, H⟩ := Option.bind_eq_some_iff.mp H
     have A7 := am_ A70
     clear A70
     by_cases c12 : o.length < 17592186044416
     ·rw [if_pos c12] at H
      have LMc12 := am_ c12
      clear c12
      have H' := am_ H
      clear H
      go_wp2_with (first | (go_at_call 66; refine (HP.out _ x t (bq_) A7.out).mono ?_; rintro e w6 ⟨rfl, hb⟩; replace HB := bs_ hb; replace HO := am_ (Kd.R_below (rq_ HO.out) hb); replace BK4 := bb_ BK4 hb; clear hb) | ((with_reducible refine gate_builtin (b := .append) (xs := #[.tmp 12, .tmp 16]) rfl ?_); at_builtin; refine Kd.R_append Kd.bool (w0 := w) w.heap.size rfl (.tmp 12) (.tmp 16) 34 4 (.bool false) 1 rfl Try.underlying34 info4 rfl (by decide) (by omega) u5 o t [.bool t] (fun _ => True) (fun _ => False) rfl rfl ?aP (fun _ hk => hk.elim) ?aF ?aO ?aB ?aS ?aL ?_; (case aP => exact rfl); (case aB => exact (bq_)); (case aF => exact (fun _ _ => trivial)); (case aO => exact (rq_ HO.out)); (case aS => exact (below_size (bq_))); (case aL => have := LMc12.out; omega); intro v121 w13 ho hb hg hat; have n2_ := am_ (blk_grown BK4.out hg (Kd.R_ne HO.out BK4.out (by decide))); have n0_ := am_ hb; have n1_ := am_ ho; clear HB HO BK4; have HB := n0_; have HO := n1_; have BK4 := n2_; clear n0_ n1_ n2_ ho hb hg hat))
      go_roundg k1
      case measure => have := HK1.out; omega
      case rel => exact ⟨_, (wrap64 (x + 1)), y30_, H', ⟨by have := HK1.out; omega⟩, ⟨rq_ HO.out⟩, ⟨bk_ BK4.out⟩, ⟨bq_⟩⟩
     ·rw [if_neg c12] at H
      exact absurd H (by simp)
    ·rw [if_neg c4] at H
     have c4b0 : decide (x < ji) = false := decide_eq_false c4
     clear c4
     obtain rfl := Option.some.inj H
     clear H
     obtain ⟨At, ct, et⟩ := Kd.R_slice HO.out
     subst et
     go_wp2_with (go_at_call 84; refine (impl_diagram.calls k vars _ _ o r1 r2 r3 _ (cm_ (Kd.R_reads' HO.out).2.2) (Kd.R_reads' HO.out).2.1 A2.out).mono ?_; rintro e w7 ⟨v1, rfl, ho, hb⟩; have NV := am_ (show v1.ownBlock ≠ some g4 from fun he => by have := Kd.R_base ho g4 he; have := blk_lt BK4.out; omega); replace BK4 := am_ (blk_below BK4.out hb); replace HO := am_ (Kd.R_lower ho (below_size (bq_))); replace HB := bs_ hb; clear ho hb; obtain ⟨Ao, co, eo⟩ := Kd.R_slice HO.out; subst eo; have hcy0 := cq_ BK4.out 0 (.int .i64 0); have hcy1 := cq_ BK4.out 1 (.slice none 0 0); have hcy2 := cq_ BK4.out 2 (.int .i64 0); have hfy0 := blk_frozen BK4.out 0; have hfy1 := blk_frozen BK4.out 1; have hfy2 := blk_frozen BK4.out 2)
     refine bodyPost_ret (results_cell_row rfl _ _ g4 30 #[.int .i64 r1, (.slice Ao r2.length co), .int .i64 r3] (0, 0) _ rfl (blk_put (cs := #[.int .i64 r1, (.slice Ao r2.length co), .int .i64 0]) (cs' := #[.int .i64 r1, (.slice Ao r2.length co), .int .i64 r3]) (blk_put (cs := #[.int .i64 r1, .slice none 0 0, .int .i64 0]) (cs' := #[.int .i64 r1, (.slice Ao r2.length co), .int .i64 0]) (blk_put (cs := #[.int .i64 0, .slice none 0 0, .int .i64 0]) (cs' := #[.int .i64 r1, .slice none 0 0, .int .i64 0]) (BK4.out) 0 (.int .i64 r1) rfl) 1 ((.slice Ao r2.length co)) rfl) 2 (.int .i64 r3) rfl) Try.underlying30 rfl (by kernel_rfl)) rfl ?_
     exact ⟨_, by first | rfl | (simp; done) | (simp [*]; done), Kd.R_mono (Kd.R_far (p := ⟨g4, 2, none⟩) (Kd.R_far (p := ⟨g4, 1, none⟩) (Kd.R_far (p := ⟨g4, 0, none⟩) (impl_Diagram_build.flat (show Kd.R k75 75 w7 w.heap.size (fun _ => True) (.slice Ao r2.length co) r2 from HO.out) (ok' := fun k => k ≠ g4) (fun k hk _ => fun he => NV.out (by rw [hk, he]))) (fun k h => h) (.int .i64 r1)) (fun k h => h) ((.slice Ao r2.length co))) (fun k h => h) (.int .i64 r3)) (fun _ _ => trivial), below_set (j := 2) (v := (.int .i64 r3)) (below_set (j := 1) (v := ((.slice Ao r2.length co))) (below_set (j := 0) (v := (.int .i64 r1)) (HB.out) GE4.out) GE4.out) GE4.out⟩
 ·rw [if_neg c0] at h
  exact absurd h (by simp)
def impl_BothOf.f (k : Nat) (a0 : Int) (l0 : List (S75)) (a2 : Int) (b0 : Int) (l1 : List (S75)) (b2 : Int) : Option (Int × (List (S75)) × Int × Bool) := (impl_GoodDiagram.f k a0 l0 a2).bind fun g => if g = true then ((impl_GoodDiagram.f k b0 l1 b2).bind fun g' => if g' = true then (if a0 = b0 then ((impl_BothOf.mapf k (impl_BothOf.pr k a0 l0 a2 b0 l1 b2) a0).bind fun x => some (x.1, x.2.1, x.2.2, true)) else some (0, ([] : List (S75)), 0, false)) else some (0, ([] : List (S75)), 0, false)) else some (0, ([] : List (S75)), 0, false)
set_option maxHeartbeats 8000000 in
set_option maxRecDepth 100000 in
theorem impl_BothOf.calls (k : Nat) (a0 : Int) (A0 : Option Addr) (c0 : Nat) (l0 : List (S75)) (a2 : Int) (b0 : Int) (A1 : Option Addr) (c1 : Nat) (l1 : List (S75)) (b2 : Int) (r1 : Int) (r2 : List (S75)) (r3 : Int) (r4 : Bool) (w : World) (hr0 : Kd.C k75 w A0 l0.length l0) (hc0 : l0.length ≤ c0) (hr1 : Kd.C k75 w A1 l1.length l1) (hc1 : l1.length ≤ c1) (h : impl_BothOf.f k a0 l0 a2 b0 l1 b2 = some (r1, r2, r3, r4)) :
  Calls Try.prog 30 #[.agg #[.int .i64 a0, .slice A0 l0.length c0, .int .i64 a2], .agg #[.int .i64 b0, .slice A1 l1.length c1, .int .i64 b2]] w fun e w' => ∃ v1_ : Value, e = .returned (.tuple #[.agg #[.int .i64 r1, v1_, .int .i64 r3], .bool r4]) ∧ Kd.R k75 75 w' w.heap.size (fun _ => True) v1_ r2 ∧ Below w.heap.size w w' := by
 have hu30 := Try.underlying30
 have HR0 := am_ hr0
 have HC0 := am_ hc0
 have HR1 := am_ hr1
 have HC1 := am_ hc1
 have HB := am_ (Below.refl w.heap.size w)
 obtain ⟨g, A10, h1⟩ := Option.bind_eq_some_iff.mp h
 have AG := am_ A10
 clear hr0 hc0 hr1 hc1 A10 h
 by_cases c8 : g = true
 ·subst c8
  rw [if_pos rfl] at h1
  obtain ⟨g', A10, h2⟩ := Option.bind_eq_some_iff.mp h1
  have AH := am_ A10
  clear A10 h1
  by_cases c9 : g' = true
  ·subst c9
   rw [if_pos rfl] at h2
   by_cases c10 : a0 = b0
   ·rw [if_pos c10] at h2
    have cb0 : (a0 == b0) = true := beq_iff_eq.mpr c10
    have cb1 : (a0 != b0) = false := bne_eq_false_iff_eq.mpr c10
    clear c10
    obtain ⟨⟨x1, x2, x3⟩, A10, h3⟩ := Option.bind_eq_some_iff.mp h2
    have AM := am_ A10
    clear A10 h2
    simp only [Option.some.injEq, Prod.mk.injEq] at h3
    obtain ⟨rfl, rfl, rfl, rfl⟩ := h3
    go_enter Try.func30, Try.ntmps30
    go_wp2_with (first | ((with_reducible refine gate_dst (N := 2) rfl ?_); refine boxq_ (N := 2) (cs := #[.int .i64 a0, .slice A0 l0.length c0, .int .i64 a2]) (t := 30) ?_; intro g1 hg w1 hbox hb; have GEg1 := am_ (y34_ : w.heap.size ≤ g1); have n0_ := bs_ hb; clear HB; have HB := n0_; have BK1 := am_ hbox; clear n0_ hb hbox hg) | ((with_reducible refine gate_dst (N := 3) rfl ?_); refine boxq_ (N := 3) (cs := #[.int .i64 b0, .slice A1 l1.length c1, .int .i64 b2]) (t := 30) ?_; intro g2 hg w2 hbox hb; have GEg2 := am_ (y34_ : w.heap.size ≤ g2); have NEg1g2 := am_ (y31_ : g1 ≠ g2); have mBK1_ := am_ (blk_below BK1.out hb); have n0_ := bs_ hb; clear HB BK1; have HB := n0_; have BK1 := mBK1_; clear mBK1_; have BK2 := am_ hbox; clear n0_ hb hbox hg) | ((with_reducible refine gate_dst (N := 4) rfl ?_); refine boxq_ (N := 4) (cs := #[.int .i64 0, .slice none 0 0, .int .i64 0]) (t := 30) ?_; intro g3 hg w3 hbox hb; have GEg3 := am_ (y34_ : w.heap.size ≤ g3); have NEg1g3 := am_ (y31_ : g1 ≠ g3); have mBK1_ := am_ (blk_below BK1.out hb); have NEg2g3 := am_ (y32_ : g2 ≠ g3); have mBK2_ := am_ (blk_below BK2.out hb); have n0_ := bs_ hb; clear HB BK1 BK2; have HB := n0_; have BK1 := mBK1_; clear mBK1_; have BK2 := mBK2_; clear mBK2_; have BR := am_ hbox; clear n0_ hb hbox hg; have hcz0 := cq_ BK1.out 0 (.int .i64 a0); have hcz1 := cq_ BK1.out 1 (.slice A0 l0.length c0); have hcz2 := cq_ BK1.out 2 (.int .i64 a2); have hcw0 := cq_ BK2.out 0 (.int .i64 b0); have hcw1 := cq_ BK2.out 1 (.slice A1 l1.length c1); have hcw2 := cq_ BK2.out 2 (.int .i64 b2); have hcy0 := cq_ BR.out 0 (.int .i64 0); have hcy1 := cq_ BR.out 1 (.slice none 0 0); have hcy2 := cq_ BR.out 2 (.int .i64 0); have hfy0 := blk_frozen BR.out 0; have hfy1 := blk_frozen BR.out 1; have hfy2 := blk_frozen BR.out 2; have hnb := NEg1g3.out; have hnc := Ne.symm NEg1g3.out; have hnd := NEg2g3.out; have hne := Ne.symm NEg2g3.out) | (have t_ := AG; go_at_call 44; refine (impl_GoodDiagram.calls k a0 _ _ l0 a2 true _ y21_ HC0.out AG.out).mono ?_; rintro e w4 ⟨rfl, hb⟩; have mBK1_ := bb_ BK1 hb; have mBK2_ := bb_ BK2 hb; have mBR_ := bb_ BR hb; have n0_ := bs_ hb; clear HB BK1 BK2 BR; have HB := n0_; have BK1 := mBK1_; clear mBK1_; have BK2 := mBK2_; clear mBK2_; have BR := mBR_; clear mBR_; clear n0_ hb; clear AG t_; clear hcz0 hcz1 hcz2 hcw0 hcw1 hcw2 hcy0 hcy1 hcy2 hfy0 hfy1 hfy2; have hcz0 := cq_ BK1.out 0 (.int .i64 a0); have hcz1 := cq_ BK1.out 1 (.slice A0 l0.length c0); have hcz2 := cq_ BK1.out 2 (.int .i64 a2); have hcw0 := cq_ BK2.out 0 (.int .i64 b0); have hcw1 := cq_ BK2.out 1 (.slice A1 l1.length c1); have hcw2 := cq_ BK2.out 2 (.int .i64 b2); have hcy0 := cq_ BR.out 0 (.int .i64 0); have hcy1 := cq_ BR.out 1 (.slice none 0 0); have hcy2 := cq_ BR.out 2 (.int .i64 0); have hfy0 := blk_frozen BR.out 0; have hfy1 := blk_frozen BR.out 1; have hfy2 := blk_frozen BR.out 2) | (have t_ := AH; go_at_call 44; refine (impl_GoodDiagram.calls k b0 _ _ l1 b2 true _ y22_ HC1.out AH.out).mono ?_; rintro e w5 ⟨rfl, hb⟩; have mBK1_ := bb_ BK1 hb; have mBK2_ := bb_ BK2 hb; have mBR_ := bb_ BR hb; have n0_ := bs_ hb; clear HB BK1 BK2 BR; have HB := n0_; have BK1 := mBK1_; clear mBK1_; have BK2 := mBK2_; clear mBK2_; have BR := mBR_; clear mBR_; clear n0_ hb; clear AH t_; clear hcz0 hcz1 hcz2 hcw0 hcw1 hcw2 hcy0 hcy1 hcy2 hfy0 hfy1 hfy2; have hcz0 := cq_ BK1.out 0 (.int .i64 a0); have hcz1 := cq_ BK1.out 1 (.slice A0 l0.length c0); have hcz2 := cq_ BK1.out 2 (.int .i64 a2); have hcw0 := cq_ BK2.out 0 (.int .i64 b0); have hcw1 := cq_ BK2.out 1 (.slice A1 l1.length c1); have hcw2 := cq_ BK2.out 2 (.int .i64 b2); have hcy0 := cq_ BR.out 0 (.int .i64 0); have hcy1 := cq_ BR.out 1 (.slice none 0 0); have hcy2 := cq_ BR.out 2 (.int .i64 0); have hfy0 := blk_frozen BR.out 0; have hfy1 := blk_frozen BR.out 1; have hfy2 := blk_frozen BR.out 2) | (go_at_call 63; refine (impl_BothOf.map_calls k g1 g2 (impl_BothOf.pr k a0 l0 a2 b0 l1 b2) a0 x1 x2 x3 _ (fun W x v hbW hv => impl_BothOf.pr_calls k g1 g2 A0 c0 a0 l0 a2 A1 c1 b0 l1 b2 x v W (blk_below BK1.out hbW) (blk_below BK2.out hbW) (Kd.C_below (Kd.C_below HR0.out HB.out) hbW) HC0.out (Kd.C_below (Kd.C_below HR1.out HB.out) hbW) HC1.out hv) AM.out).mono ?_; rintro e w7 ⟨v1, rfl, ho, hb⟩; have NV := am_ (show v1.ownBlock ≠ some g3 from fun he => by have := Kd.R_base ho g3 he; have := blk_lt (show w5.heap[g3]? = _ from bk_ BR.out); omega); replace BR := bb_ BR hb; have HO := am_ (Kd.R_lower ho (below_size (bq_))); replace HB := bs_ hb; clear ho hb; obtain ⟨Ao, co, eo⟩ := Kd.R_slice HO.out; subst eo; clear hcy0 hcy1 hcy2 hfy0 hfy1 hfy2; have hcy0 := cq_ BR.out 0 (.int .i64 0); have hcy1 := cq_ BR.out 1 (.slice none 0 0); have hcy2 := cq_ BR.out 2 (.int .i64 0); have hfy0 := blk_frozen BR.out 0; have hfy1 := blk_frozen BR.out 1; have hfy2 := blk_frozen BR.out 2))
    refine bodyPost_ret (results_ct rfl _ _ g3 30 #[.int .i64 x1, (.slice Ao x2.length co), .int .i64 x3] (0, 0) _ rfl (blk_put (cs := #[.int .i64 x1, (.slice Ao x2.length co), .int .i64 0]) (cs' := #[.int .i64 x1, (.slice Ao x2.length co), .int .i64 x3]) (blk_put (cs := #[.int .i64 x1, .slice none 0 0, .int .i64 0]) (cs' := #[.int .i64 x1, (.slice Ao x2.length co), .int .i64 0]) (blk_put (cs := #[.int .i64 0, .slice none 0 0, .int .i64 0]) (cs' := #[.int .i64 x1, .slice none 0 0, .int .i64 0]) (BR.out) 0 (.int .i64 x1) rfl) 1 ((.slice Ao x2.length co)) rfl) 2 (.int .i64 x3) rfl) Try.underlying30 rfl (by kernel_rfl)) rfl ?_
    exact ⟨_, by first | rfl | (simp; done) | (simp [*]; done), Kd.R_mono (Kd.R_far (p := ⟨g3, 2, none⟩) (Kd.R_far (p := ⟨g3, 1, none⟩) (Kd.R_far (p := ⟨g3, 0, none⟩) (impl_Diagram_build.flat (show Kd.R k75 75 w7 w.heap.size (fun _ => True) (.slice Ao x2.length co) x2 from HO.out) (ok' := fun k => k ≠ g3) (fun k hk _ => fun he => NV.out (by rw [hk, he]))) (fun k h => h) (.int .i64 x1)) (fun k h => h) ((.slice Ao x2.length co))) (fun k h => h) (.int .i64 x3)) (fun _ _ => trivial), below_set (j := 2) (v := (.int .i64 x3)) (below_set (j := 1) (v := ((.slice Ao x2.length co))) (below_set (j := 0) (v := (.int .i64 x1)) (HB.out) GEg3.out) GEg3.out) GEg3.out⟩
   ·rw [if_neg c10] at h2
    have cb0 : (a0 == b0) = false := beq_eq_false_iff_ne.mpr c10
    have cb1 : (a0 != b0) = true := bne_iff_ne.mpr c10
    clear c10
    simp only [Option.some.injEq, Prod.mk.injEq] at h2
    obtain ⟨rfl, rfl, rfl, rfl⟩ := h2
    go_enter Try.func30, Try.ntmps30
    go_wp2_with (first | ((with_reducible refine gate_dst (N := 2) rfl ?_); refine boxq_ (N := 2) (cs := #[.int .i64 a0, .slice A0 l0.length c0, .int .i64 a2]) (t := 30) ?_; intro g1 hg w1 hbox hb; have GEg1 := am_ (y34_ : w.heap.size ≤ g1); have n0_ := bs_ hb; clear HB; have HB := n0_; have BK1 := am_ hbox; clear n0_ hb hbox hg) | ((with_reducible refine gate_dst (N := 3) rfl ?_); refine boxq_ (N := 3) (cs := #[.int .i64 b0, .slice A1 l1.length c1, .int .i64 b2]) (t := 30) ?_; intro g2 hg w2 hbox hb; have GEg2 := am_ (y34_ : w.heap.size ≤ g2); have NEg1g2 := am_ (y31_ : g1 ≠ g2); have mBK1_ := am_ (blk_below BK1.out hb); have n0_ := bs_ hb; clear HB BK1; have HB := n0_; have BK1 := mBK1_; clear mBK1_; have BK2 := am_ hbox; clear n0_ hb hbox hg) | ((with_reducible refine gate_dst (N := 4) rfl ?_); refine boxq_ (N := 4) (cs := #[.int .i64 0, .slice none 0 0, .int .i64 0]) (t := 30) ?_; intro g3 hg w3 hbox hb; have GEg3 := am_ (y34_ : w.heap.size ≤ g3); have NEg1g3 := am_ (y31_ : g1 ≠ g3); have mBK1_ := am_ (blk_below BK1.out hb); have NEg2g3 := am_ (y32_ : g2 ≠ g3); have mBK2_ := am_ (blk_below BK2.out hb); have n0_ := bs_ hb; clear HB BK1 BK2; have HB := n0_; have BK1 := mBK1_; clear mBK1_; have BK2 := mBK2_; clear mBK2_; have BR := am_ hbox; clear n0_ hb hbox hg; have hcz0 := cq_ BK1.out 0 (.int .i64 a0); have hcz1 := cq_ BK1.out 1 (.slice A0 l0.length c0); have hcz2 := cq_ BK1.out 2 (.int .i64 a2); have hcw0 := cq_ BK2.out 0 (.int .i64 b0); have hcw1 := cq_ BK2.out 1 (.slice A1 l1.length c1); have hcw2 := cq_ BK2.out 2 (.int .i64 b2); have hcy0 := cq_ BR.out 0 (.int .i64 0); have hcy1 := cq_ BR.out 1 (.slice none 0 0); have hcy2 := cq_ BR.out 2 (.int .i64 0); have hfy0 := blk_frozen BR.out 0; have hfy1 := blk_frozen BR.out 1; have hfy2 := blk_frozen BR.out 2; have hnb := NEg1g3.out; have hnc := Ne.symm NEg1g3.out; have hnd := NEg2g3.out; have hne := Ne.symm NEg2g3.out) | (have t_ := AG; go_at_call 44; refine (impl_GoodDiagram.calls k a0 _ _ l0 a2 true _ y21_ HC0.out AG.out).mono ?_; rintro e w4 ⟨rfl, hb⟩; have mBK1_ := bb_ BK1 hb; have mBK2_ := bb_ BK2 hb; have mBR_ := bb_ BR hb; have n0_ := bs_ hb; clear HB BK1 BK2 BR; have HB := n0_; have BK1 := mBK1_; clear mBK1_; have BK2 := mBK2_; clear mBK2_; have BR := mBR_; clear mBR_; clear n0_ hb; clear AG t_; clear hcz0 hcz1 hcz2 hcw0 hcw1 hcw2 hcy0 hcy1 hcy2 hfy0 hfy1 hfy2; have hcz0 := cq_ BK1.out 0 (.int .i64 a0); have hcz1 := cq_ BK1.out 1 (.slice A0 l0.length c0); have hcz2 := cq_ BK1.out 2 (.int .i64 a2); have hcw0 := cq_ BK2.out 0 (.int .i64 b0); have hcw1 := cq_ BK2.out 1 (.slice A1 l1.length c1); have hcw2 := cq_ BK2.out 2 (.int .i64 b2); have hcy0 := cq_ BR.out 0 (.int .i64 0); have hcy1 := cq_ BR.out 1 (.slice none 0 0); have hcy2 := cq_ BR.out 2 (.int .i64 0); have hfy0 := blk_frozen BR.out 0; have hfy1 := blk_frozen BR.out 1; have hfy2 := blk_frozen BR.out 2) | (have t_ := AH; go_at_call 44; refine (impl_GoodDiagram.calls k b0 _ _ l1 b2 true _ y22_ HC1.out AH.out).mono ?_; rintro e w5 ⟨rfl, hb⟩; have mBK1_ := bb_ BK1 hb; have mBK2_ := bb_ BK2 hb; have mBR_ := bb_ BR hb; have n0_ := bs_ hb; clear HB BK1 BK2 BR; have HB := n0_; have BK1 := mBK1_; clear mBK1_; have BK2 := mBK2_; clear mBK2_; have BR := mBR_; clear mBR_; clear n0_ hb; clear AH t_; clear hcz0 hcz1 hcz2 hcw0 hcw1 hcw2 hcy0 hcy1 hcy2 hfy0 hfy1 hfy2; have hcz0 := cq_ BK1.out 0 (.int .i64 a0); have hcz1 := cq_ BK1.out 1 (.slice A0 l0.length c0); have hcz2 := cq_ BK1.out 2 (.int .i64 a2); have hcw0 := cq_ BK2.out 0 (.int .i64 b0); have hcw1 := cq_ BK2.out 1 (.slice A1 l1.length c1); have hcw2 := cq_ BK2.out 2 (.int .i64 b2); have hcy0 := cq_ BR.out 0 (.int .i64 0); have hcy1 := cq_ BR.out 1 (.slice none 0 0); have hcy2 := cq_ BR.out 2 (.int .i64 0); have hfy0 := blk_frozen BR.out 0; have hfy1 := blk_frozen BR.out 1; have hfy2 := blk_frozen BR.out 2))
    refine bodyPost_ret (results_ct rfl _ _ g3 30 #[.int .i64 0, .slice none 0 0, .int .i64 0] (0, 0) _ rfl (blk_put (cs := #[.int .i64 0, .slice none 0 0, .int .i64 0]) (cs' := #[.int .i64 0, .slice none 0 0, .int .i64 0]) (blk_put (cs := #[.int .i64 0, .slice none 0 0, .int .i64 0]) (cs' := #[.int .i64 0, .slice none 0 0, .int .i64 0]) (blk_put (cs := #[.int .i64 0, .slice none 0 0, .int .i64 0]) (cs' := #[.int .i64 0, .slice none 0 0, .int .i64 0]) ((bk_ BR.out)) 0 (.int .i64 0) rfl) 1 (.slice none 0 0) rfl) 2 (.int .i64 0) rfl) Try.underlying30 rfl (by kernel_rfl)) rfl ?_
    exact ⟨_, by first | rfl | (simp; done) | (simp [*]; done), Kd.R_nil _ _ _ _ _, below_set (j := 2) (v := (.int .i64 0)) (below_set (j := 1) (v := (.slice none 0 0)) (below_set (j := 0) (v := (.int .i64 0)) ((bq_)) GEg3.out) GEg3.out) GEg3.out⟩
  ·replace c9 := Bool.eq_false_iff.mpr c9
   subst c9
   rw [if_neg (by simp)] at h2
   simp only [Option.some.injEq, Prod.mk.injEq] at h2
   obtain ⟨rfl, rfl, rfl, rfl⟩ := h2
   go_enter Try.func30, Try.ntmps30
   go_wp2_with (first | ((with_reducible refine gate_dst (N := 2) rfl ?_); refine boxq_ (N := 2) (cs := #[.int .i64 a0, .slice A0 l0.length c0, .int .i64 a2]) (t := 30) ?_; intro g1 hg w1 hbox hb; have GEg1 := am_ (y34_ : w.heap.size ≤ g1); have n0_ := bs_ hb; clear HB; have HB := n0_; have BK1 := am_ hbox; clear n0_ hb hbox hg) | ((with_reducible refine gate_dst (N := 3) rfl ?_); refine boxq_ (N := 3) (cs := #[.int .i64 b0, .slice A1 l1.length c1, .int .i64 b2]) (t := 30) ?_; intro g2 hg w2 hbox hb; have GEg2 := am_ (y34_ : w.heap.size ≤ g2); have NEg1g2 := am_ (y31_ : g1 ≠ g2); have mBK1_ := am_ (blk_below BK1.out hb); have n0_ := bs_ hb; clear HB BK1; have HB := n0_; have BK1 := mBK1_; clear mBK1_; have BK2 := am_ hbox; clear n0_ hb hbox hg) | ((with_reducible refine gate_dst (N := 4) rfl ?_); refine boxq_ (N := 4) (cs := #[.int .i64 0, .slice none 0 0, .int .i64 0]) (t := 30) ?_; intro g3 hg w3 hbox hb; have GEg3 := am_ (y34_ : w.heap.size ≤ g3); have NEg1g3 := am_ (y31_ : g1 ≠ g3); have mBK1_ := am_ (blk_below BK1.out hb); have NEg2g3 := am_ (y32_ : g2 ≠ g3); have mBK2_ := am_ (blk_below BK2.out hb); have n0_ := bs_ hb; clear HB BK1 BK2; have HB := n0_; have BK1 := mBK1_; clear mBK1_; have BK2 := mBK2_; clear mBK2_; have BR := am_ hbox; clear n0_ hb hbox hg; have hcz0 := cq_ BK1.out 0 (.int .i64 a0); have hcz1 := cq_ BK1.out 1 (.slice A0 l0.length c0); have hcz2 := cq_ BK1.out 2 (.int .i64 a2); have hcw0 := cq_ BK2.out 0 (.int .i64 b0); have hcw1 := cq_ BK2.out 1 (.slice A1 l1.length c1); have hcw2 := cq_ BK2.out 2 (.int .i64 b2); have hcy0 := cq_ BR.out 0 (.int .i64 0); have hcy1 := cq_ BR.out 1 (.slice none 0 0); have hcy2 := cq_ BR.out 2 (.int .i64 0); have hfy0 := blk_frozen BR.out 0; have hfy1 := blk_frozen BR.out 1; have hfy2 := blk_frozen BR.out 2; have hnb := NEg1g3.out; have hnc := Ne.symm NEg1g3.out; have hnd := NEg2g3.out; have hne := Ne.symm NEg2g3.out) | (have t_ := AG; go_at_call 44; refine (impl_GoodDiagram.calls k a0 _ _ l0 a2 true _ y21_ HC0.out AG.out).mono ?_; rintro e w4 ⟨rfl, hb⟩; have mBK1_ := bb_ BK1 hb; have mBK2_ := bb_ BK2 hb; have mBR_ := bb_ BR hb; have n0_ := bs_ hb; clear HB BK1 BK2 BR; have HB := n0_; have BK1 := mBK1_; clear mBK1_; have BK2 := mBK2_; clear mBK2_; have BR := mBR_; clear mBR_; clear n0_ hb; clear AG t_; clear hcz0 hcz1 hcz2 hcw0 hcw1 hcw2 hcy0 hcy1 hcy2 hfy0 hfy1 hfy2; have hcz0 := cq_ BK1.out 0 (.int .i64 a0); have hcz1 := cq_ BK1.out 1 (.slice A0 l0.length c0); have hcz2 := cq_ BK1.out 2 (.int .i64 a2); have hcw0 := cq_ BK2.out 0 (.int .i64 b0); have hcw1 := cq_ BK2.out 1 (.slice A1 l1.length c1); have hcw2 := cq_ BK2.out 2 (.int .i64 b2); have hcy0 := cq_ BR.out 0 (.int .i64 0); have hcy1 := cq_ BR.out 1 (.slice none 0 0); have hcy2 := cq_ BR.out 2 (.int .i64 0); have hfy0 := blk_frozen BR.out 0; have hfy1 := blk_frozen BR.out 1; have hfy2 := blk_frozen BR.out 2) | (have t_ := AH; go_at_call 44; refine (impl_GoodDiagram.calls k b0 _ _ l1 b2 false _ y22_ HC1.out AH.out).mono ?_; rintro e w5 ⟨rfl, hb⟩; have mBK1_ := bb_ BK1 hb; have mBK2_ := bb_ BK2 hb; have mBR_ := bb_ BR hb; have n0_ := bs_ hb; clear HB BK1 BK2 BR; have HB := n0_; have BK1 := mBK1_; clear mBK1_; have BK2 := mBK2_; clear mBK2_; have BR := mBR_; clear mBR_; clear n0_ hb; clear AH t_; clear hcz0 hcz1 hcz2 hcw0 hcw1 hcw2 hcy0 hcy1 hcy2 hfy0 hfy1 hfy2; have hcz0 := cq_ BK1.out 0 (.int .i64 a0); have hcz1 := cq_ BK1.out 1 (.slice A0 l0.length c0); have hcz2 := cq_ BK1.out 2 (.int .i64 a2); have hcw0 := cq_ BK2.out 0 (.int .i64 b0); have hcw1 := cq_ BK2.out 1 (.slice A1 l1.length c1); have hcw2 := cq_ BK2.out 2 (.int .i64 b2); have hcy0 := cq_ BR.out 0 (.int .i64 0); have hcy1 := cq_ BR.out 1 (.slice none 0 0); have hcy2 := cq_ BR.out 2 (.int .i64 0); have hfy0 := blk_frozen BR.out 0; have hfy1 := blk_frozen BR.out 1; have hfy2 := blk_frozen BR.out 2))
   refine bodyPost_ret (results_ct rfl _ _ g3 30 #[.int .i64 0, .slice none 0 0, .int .i64 0] (0, 0) _ rfl (blk_put (cs := #[.int .i64 0, .slice none 0 0, .int .i64 0]) (cs' := #[.int .i64 0, .slice none 0 0, .int .i64 0]) (blk_put (cs := #[.int .i64 0, .slice none 0 0, .int .i64 0]) (cs' := #[.int .i64 0, .slice none 0 0, .int .i64 0]) (blk_put (cs := #[.int .i64 0, .slice none 0 0, .int .i64 0]) (cs' := #[.int .i64 0, .slice none 0 0, .int .i64 0]) ((bk_ BR.out)) 0 (.int .i64 0) rfl) 1 (.slice none 0 0) rfl) 2 (.int .i64 0) rfl) Try.underlying30 rfl (by kernel_rfl)) rfl ?_
   exact ⟨_, by first | rfl | (simp; done) | (simp [*]; done), Kd.R_nil _ _ _ _ _, below_set (j := 2) (v := (.int .i64 0)) (below_set (j := 1) (v := (.slice none 0 0)) (below_set (j := 0) (v := (.int .i64 0)) ((bq_)) GEg3.out) GEg3.out) GEg3.out⟩
 ·replace c8 := Bool.eq_false_iff.mpr c8
  subst c8
  rw [if_neg (by simp)] at h1
  simp only [Option.some.injEq, Prod.mk.injEq] at h1
  obtain ⟨rfl, rfl, rfl, rfl⟩ := h1
  go_enter Try.func30, Try.ntmps30
  go_wp2_with (first | ((with_reducible refine gate_dst (N := 2) rfl ?_); refine boxq_ (N := 2) (cs := #[.int .i64 a0, .slice A0 l0.length c0, .int .i64 a2]) (t := 30) ?_; intro g1 hg w1 hbox hb; have GEg1 := am_ (y34_ : w.heap.size ≤ g1); have n0_ := bs_ hb; clear HB; have HB := n0_; have BK1 := am_ hbox; clear n0_ hb hbox hg) | ((with_reducible refine gate_dst (N := 3) rfl ?_); refine boxq_ (N := 3) (cs := #[.int .i64 b0, .slice A1 l1.length c1, .int .i64 b2]) (t := 30) ?_; intro g2 hg w2 hbox hb; have GEg2 := am_ (y34_ : w.heap.size ≤ g2); have NEg1g2 := am_ (y31_ : g1 ≠ g2); have mBK1_ := am_ (blk_below BK1.out hb); have n0_ := bs_ hb; clear HB BK1; have HB := n0_; have BK1 := mBK1_; clear mBK1_; have BK2 := am_ hbox; clear n0_ hb hbox hg) | ((with_reducible refine gate_dst (N := 4) rfl ?_); refine boxq_ (N := 4) (cs := #[.int .i64 0, .slice none 0 0, .int .i64 0]) (t := 30) ?_; intro g3 hg w3 hbox hb; have GEg3 := am_ (y34_ : w.heap.size ≤ g3); have NEg1g3 := am_ (y31_ : g1 ≠ g3); have mBK1_ := am_ (blk_below BK1.out hb); have NEg2g3 := am_ (y32_ : g2 ≠ g3); have mBK2_ := am_ (blk_below BK2.out hb); have n0_ := bs_ hb; clear HB BK1 BK2; have HB := n0_; have BK1 := mBK1_; clear mBK1_; have BK2 := mBK2_; clear mBK2_; have BR := am_ hbox; clear n0_ hb hbox hg; have hcz0 := cq_ BK1.out 0 (.int .i64 a0); have hcz1 := cq_ BK1.out 1 (.slice A0 l0.length c0); have hcz2 := cq_ BK1.out 2 (.int .i64 a2); have hcw0 := cq_ BK2.out 0 (.int .i64 b0); have hcw1 := cq_ BK2.out 1 (.slice A1 l1.length c1); have hcw2 := cq_ BK2.out 2 (.int .i64 b2); have hcy0 := cq_ BR.out 0 (.int .i64 0); have hcy1 := cq_ BR.out 1 (.slice none 0 0); have hcy2 := cq_ BR.out 2 (.int .i64 0); have hfy0 := blk_frozen BR.out 0; have hfy1 := blk_frozen BR.out 1; have hfy2 := blk_frozen BR.out 2; have hnb := NEg1g3.out; have hnc := Ne.symm NEg1g3.out; have hnd := NEg2g3.out; have hne := Ne.symm NEg2g3.out) | (have t_ := AG; go_at_call 44; refine (impl_GoodDiagram.calls k a0 _ _ l0 a2 false _ y21_ HC0.out AG.out).mono ?_; rintro e w4 ⟨rfl, hb⟩; have mBK1_ := bb_ BK1 hb; have mBK2_ := bb_ BK2 hb; have mBR_ := bb_ BR hb; have n0_ := bs_ hb; clear HB BK1 BK2 BR; have HB := n0_; have BK1 := mBK1_; clear mBK1_; have BK2 := mBK2_; clear mBK2_; have BR := mBR_; clear mBR_; clear n0_ hb; clear AG t_; clear hcz0 hcz1 hcz2 hcw0 hcw1 hcw2 hcy0 hcy1 hcy2 hfy0 hfy1 hfy2; have hcz0 := cq_ BK1.out 0 (.int .i64 a0); have hcz1 := cq_ BK1.out 1 (.slice A0 l0.length c0); have hcz2 := cq_ BK1.out 2 (.int .i64 a2); have hcw0 := cq_ BK2.out 0 (.int .i64 b0); have hcw1 := cq_ BK2.out 1 (.slice A1 l1.length c1); have hcw2 := cq_ BK2.out 2 (.int .i64 b2); have hcy0 := cq_ BR.out 0 (.int .i64 0); have hcy1 := cq_ BR.out 1 (.slice none 0 0); have hcy2 := cq_ BR.out 2 (.int .i64 0); have hfy0 := blk_frozen BR.out 0; have hfy1 := blk_frozen BR.out 1; have hfy2 := blk_frozen BR.out 2))
  refine bodyPost_ret (results_ct rfl _ _ g3 30 #[.int .i64 0, .slice none 0 0, .int .i64 0] (0, 0) _ rfl (blk_put (cs := #[.int .i64 0, .slice none 0 0, .int .i64 0]) (cs' := #[.int .i64 0, .slice none 0 0, .int .i64 0]) (blk_put (cs := #[.int .i64 0, .slice none 0 0, .int .i64 0]) (cs' := #[.int .i64 0, .slice none 0 0, .int .i64 0]) (blk_put (cs := #[.int .i64 0, .slice none 0 0, .int .i64 0]) (cs' := #[.int .i64 0, .slice none 0 0, .int .i64 0]) ((bk_ BR.out)) 0 (.int .i64 0) rfl) 1 (.slice none 0 0) rfl) 2 (.int .i64 0) rfl) Try.underlying30 rfl (by kernel_rfl)) rfl ?_
  exact ⟨_, by first | rfl | (simp; done) | (simp [*]; done), Kd.R_nil _ _ _ _ _, below_set (j := 2) (v := (.int .i64 0)) (below_set (j := 1) (v := (.slice none 0 0)) (below_set (j := 0) (v := (.int .i64 0)) ((bq_)) GEg3.out) GEg3.out) GEg3.out⟩
mutual
def spec_FixVar.j0 : Nat → Int → Bool → List Bool → Bool → Int → List (S75) → Int → Option (Int × (List (S75)) × Int × Bool)
 | 0, _, _, _, _, _, _, _ => none
 | k + 1, x1, x2, x8, x27, x209000, x209001, x209002 => if x27 = true then (some (0, ([] : List (S75)), 0, false)) else (if 0 ≤ (IntKind.u64.wrap (wrap64 (x1 - 1))) then (spec_FixVar.l0 k x2 x8 (shl .i64 1 (IntKind.u64.wrap (wrap64 (x1 - 1)))) ([] : List Bool) (x8.length : Int) 0 x209000 x209001 x209002) else (none))
def spec_FixVar.l0 : Nat → Bool → List Bool → Int → List Bool → Int → Int → Int → List (S75) → Int → Option (Int × (List (S75)) × Int × Bool)
 | 0, _, _, _, _, _, _, _, _, _ => none
 | k + 1, x2, x8, x10, x11, x34, x35, x209000, x209001, x209002 => if x35 < x34 then (if x2 = true then (if 0 ≤ (Go.bits .or .i64 x35 x10) then (if (Go.bits .or .i64 x35 x10) < (x8.length : Int) then (if x11.length < 140737488355328 then (spec_FixVar.l0 k x2 x8 x10 (x11 ++ [rdOf false x8 (Go.bits .or .i64 x35 x10)]) x34 (wrap64 (x35 + 1)) x209000 x209001 x209002) else (none)) else (none)) else (none)) else (if 0 ≤ (Go.bits .andNot .i64 x35 x10) then (if (Go.bits .andNot .i64 x35 x10) < (x8.length : Int) then (if x11.length < 140737488355328 then (spec_FixVar.l0 k x2 x8 x10 (x11 ++ [rdOf false x8 (Go.bits .andNot .i64 x35 x10)]) x34 (wrap64 (x35 + 1)) x209000 x209001 x209002) else (none)) else (none)) else (none))) else ((spec_l7Of.f k x209000 x11).bind fun bt223 => (some (bt223.1, bt223.2.1, bt223.2.2, true)))
end
def spec_FixVar.f (k : Nat) (a0_0 : Int) (l0_1 : List (S75)) (a0_2 : Int) (a1 : Int) (a2 : Bool) : Option (Int × (List (S75)) × Int × Bool) := (spec_TableOf.f k a0_0 l0_1 a0_2).bind fun bt210 => (if bt210.2 = true then ((spec_l1In.f a1 1 a0_0).bind fun t214 => (spec_FixVar.j0 k a1 a2 bt210.1 (!t214) a0_0 l0_1 a0_2)) else (spec_FixVar.j0 k a1 a2 bt210.1 true a0_0 l0_1 a0_2))
set_option maxHeartbeats 8000000 in
set_option maxRecDepth 100000 in
theorem spec_FixVar.calls (k : Nat) (a0_0 : Int) (A0_1 : Option Addr) (c0_1 : Nat) (l0_1 : List (S75)) (a0_2 : Int) (a1 : Int) (a2 : Bool) (r1 : Int) (r2 : List (S75)) (r3 : Int) (r4 : Bool) (w : World) (hr0_1 : Kd.C k75 w A0_1 l0_1.length l0_1) (hc0_1 : l0_1.length ≤ c0_1) (h : spec_FixVar.f k a0_0 l0_1 a0_2 a1 a2 = some (r1, r2, r3, r4)) :
  Calls Try.prog 31 #[.agg #[.int .i64 a0_0, .slice A0_1 l0_1.length c0_1, .int .i64 a0_2], .int .i64 a1, .bool a2] w fun e w' => ∃ v1_ : Value, e = .returned (.tuple #[.agg #[.int .i64 r1, v1_, .int .i64 r3], .bool r4]) ∧ Kd.R k75 75 w' w.heap.size (fun _ => True) v1_ r2 ∧ Below w.heap.size w w' := by
 have hu30 := Try.underlying30
 have HR0_1 := am_ hr0_1
 have HC0_1 := am_ hc0_1
 clear hr0_1 hc0_1
 have HB := am_ (Below.refl w.heap.size w)
 have H : ((spec_TableOf.f k a0_0 l0_1 a0_2).bind fun bt210 => (if bt210.2 = true then ((spec_l1In.f a1 1 a0_0).bind fun t214 => (spec_FixVar.j0 k a1 a2 bt210.1 (!t214) a0_0 l0_1 a0_2)) else (spec_FixVar.j0 k a1 a2 bt210.1 true a0_0 l0_1 a0_2))) = some (r1, r2, r3, r4) := h
 clear h
 replace H := Option.bind_eq_some_iff.mp H
 obtain ⟨⟨t210, t213⟩, A40, H⟩ := H
 replace H : (if t213 = true then ((spec_l1In.f a1 1 a0_0).bind fun t214 => (spec_FixVar.j0 k a1 a2 t210 (!t214) a0_0 l0_1 a0_2)) else (spec_FixVar.j0 k a1 a2 t210 true a0_0 l0_1 a0_2)) = some (r1, r2, r3, r4) := H
 have A4 := am_ A40
 clear A40
 have HC5 := am_ H
 clear H
 go_enter Try.func31, Try.ntmps31
 go_upto_region 2 with (first | ((with_reducible refine gate_dst (N := 3) rfl ?_); refine boxq_ (N := 3) (cs := #[.int .i64 a0_0, .slice A0_1 l0_1.length c0_1, .int .i64 a0_2]) (t := 30) ?_; intro gb208 hg w6 hbox hb; have BK208 := am_ (hbox); have GW208 := gz_ hg; have GE208 := gz_ hg; replace HB := bs_ hb; clear hb hbox hg) | ((with_reducible refine gate_dst (N := 6) rfl ?_); refine boxq_ (N := 6) (cs := #[.int .i64 0, .slice none 0 0, .int .i64 0]) (t := 30) ?_; intro gb209 hg w7 hbox hb; have BK209 := am_ (hbox); have GW209 := gz_ hg; have GE209 := gz_ hg; replace HB := bs_ hb; have NB208_209 := nl_ BK208 hg; have NB209_208 := nr_ BK208 hg; replace BK208 := bb_ BK208 hb; clear hb hbox hg; have hnb8 := NB208_209.out; have hnc8 := NB209_208.out; have hcz9_0 := cq_ BK208.out 0 (.int .i64 a0_0); have hcz9_1 := cq_ BK208.out 1 (.slice A0_1 l0_1.length c0_1); have hcz9_2 := cq_ BK208.out 2 (.int .i64 a0_2); have hfz9_0 := blk_frozen BK208.out 0; have hfz9_1 := blk_frozen BK208.out 1; have hfz9_2 := blk_frozen BK208.out 2) | ((with_reducible refine gl_ 21 rfl ?_); refine goesM_ (some 16) Try.func21 #[.agg #[.int .i64 a0_0, .slice A0_1 l0_1.length c0_1, .int .i64 a0_2]] ?_; (with_reducible refine (spec_TableOf.calls k a0_0 _ _ l0_1 a0_2 t210 t213 _ ?side1 ?side2 A4.out).mono ?_); (case side1 => exact cm_ (Kd.C_below HR0_1.out HB.out)); (case side2 => exact HC0_1.out); rintro e w10 ⟨v211, rfl, ho0, hb⟩; refine ⟨_, rfl, ?_⟩; have HO212 := am_ (Kd.R_lower ho0 (below_size (bq_))); replace BK208 := bb_ BK208 hb; replace BK209 := bb_ BK209 hb; replace HB := bs_ hb; (try clear hb); (try clear ho0)))
 (try simp only [Act.put, List.setIfInBounds_toArray, List.set_cons_zero, List.set_cons_succ])
 go_cut [27] (fun v27 wc => ∃ (kq : Nat) (x27_4 : Bool), v27 = .bool x27_4 ∧ Aside0 (spec_FixVar.j0 kq a1 a2 t210 x27_4 a0_0 l0_1 a0_2 = some (r1, r2, r3, r4)) ∧ Aside0 (kq ≤ k) ∧ Aside0 (Kd.R Kd.bool 4 wc w.heap.size (fun _ => True) v211 t210) ∧ Aside0 (wc.heap[gb208]? = some (.cells #[.int .i64 a0_0, (.slice A0_1 l0_1.length c0_1), .int .i64 a0_2] 30 (0, 0))) ∧ Aside0 (wc.heap[gb209]? = some (.cells #[.int .i64 0, (.slice none 0 0), .int .i64 0] 30 (0, 0))) ∧ Aside0 (Below w.heap.size w wc))
 case first =>
  have H := HC5.out
  clear HC5
  by_cases c11 : t213 = true
  ·subst c11
   have H1 : ((spec_l1In.f a1 1 a0_0).bind fun t214 => (spec_FixVar.j0 k a1 a2 t210 (!t214) a0_0 l0_1 a0_2)) = some (r1, r2, r3, r4) := by rw [if_pos rfl] at H; exact H
   clear H
   have H := H1
   clear H1
   replace H := Option.bind_eq_some_iff.mp H
   obtain ⟨t214, A120, H⟩ := H
   replace H : (spec_FixVar.j0 k a1 a2 t210 (!t214) a0_0 l0_1 a0_2) = some (r1, r2, r3, r4) := H
   have A12 := am_ A120
   clear A120
   have H' := am_ H
   clear H
   have hnb13 := NB208_209.out
   have hnc13 := NB209_208.out
   have hcz14_0 := cq_ BK208.out 0 (.int .i64 a0_0)
   have hcz14_1 := cq_ BK208.out 1 (.slice A0_1 l0_1.length c0_1)
   have hcz14_2 := cq_ BK208.out 2 (.int .i64 a0_2)
   have hfz14_0 := blk_frozen BK208.out 0
   have hfz14_1 := blk_frozen BK208.out 1
   have hfz14_2 := blk_frozen BK208.out 2
   go_wp2_with (first | (go_at_call 67; (with_reducible refine (spec_l1In.calls a1 1 a0_0 t214 _ A12.out).mono ?_); rintro e w' ⟨rfl, ⟨nd, rfl⟩⟩))
   go_meet
   case rel => exact ⟨_, (!t214), y30_, H', ⟨by first | omega | exact Nat.le_refl _⟩, ⟨rq_ HO212.out⟩, ⟨bk_ BK208.out⟩, ⟨bk_ BK209.out⟩, ⟨bq_⟩⟩
  ·replace c11 := Bool.eq_false_iff.mpr c11
   subst c11
   have H1 : (spec_FixVar.j0 k a1 a2 t210 true a0_0 l0_1 a0_2) = some (r1, r2, r3, r4) := by rw [if_neg (show ¬ (false = true) by decide)] at H; exact H
   clear H
   have H := H1
   clear H1
   have H' := am_ H
   clear H
   go_wp2
   go_meet
   case rel => exact ⟨_, (true), y30_, H', ⟨by first | omega | exact Nat.le_refl _⟩, ⟨rq_ HO212.out⟩, ⟨bk_ BK208.out⟩, ⟨bk_ BK209.out⟩, ⟨bq_⟩⟩
 case rest =>
  clear HC5
  try clear c1
  try clear c2
  try clear p2
  try clear c3
  try clear c8
  try clear c11
  try clear c13
  try clear hcz14_0
  try clear hcz14_1
  try clear hcz14_2
  try clear hcz9_0
  try clear hcz9_1
  try clear hcz9_2
  try clear hfz14_0
  try clear hfz14_1
  try clear hfz14_2
  try clear hfz9_0
  try clear hfz9_1
  try clear hfz9_2
  obtain ⟨kq, x27_4, rfl, HA, HJ4, HO_8, BK208, BK209, HB⟩ := hcut
  cases kq with
  | zero => exact absurd HA.out (by simp [spec_FixVar.j0])
  | succ kj4 =>
   have H := HA.out
   clear HA
   simp only [spec_FixVar.j0] at H
   by_cases c15 : x27_4 = true
   ·subst c15
    have H1 : (some (0, ([] : List (S75)), 0, false)) = some (r1, r2, r3, r4) := by rw [if_pos rfl] at H; exact H
    clear H
    have H := H1
    clear H1
    simp only [Option.some.injEq, Prod.mk.injEq] at H
    obtain ⟨rfl, rfl, rfl, rfl⟩ := H
    have hnb16 := NB209_208.out
    have hnc16 := NB208_209.out
    have hcz17_0 := cq_ BK209.out 0 (.int .i64 0)
    have hcz17_1 := cq_ BK209.out 1 (.slice none 0 0)
    have hcz17_2 := cq_ BK209.out 2 (.int .i64 0)
    have hfz17_0 := blk_frozen BK209.out 0
    have hfz17_1 := blk_frozen BK209.out 1
    have hfz17_2 := blk_frozen BK209.out 2
    go_wp2
    refine bodyPost_ret (results_ct rfl _ _ gb209 30 #[.int .i64 0, .slice none 0 0, .int .i64 0] (0, 0) _ rfl (bu_ BK209.out) Try.underlying30 rfl (by kernel_rfl)) rfl ?_
    exact ⟨_, by first | rfl | (simp [errW_none, errW_some] <;> rfl) | (simp [*, errW_none, errW_some] <;> rfl), by first | exact Kd.R_nil _ _ _ _ _ | exact Kd.N_nil _ _ _ _ _ | exact Kd.V_nil _ _ _ _ _ | exact Kd.Q_nil _ _ _ _ _ | exact Kd.S_nil _ _ _ _ _, bq_⟩
   ·replace c15 := Bool.eq_false_iff.mpr c15
    subst c15
    have H1 : (if 0 ≤ (IntKind.u64.wrap (wrap64 (a1 - 1))) then (spec_FixVar.l0 kj4 a2 t210 (shl .i64 1 (IntKind.u64.wrap (wrap64 (a1 - 1)))) ([] : List Bool) (t210.length : Int) 0 a0_0 l0_1 a0_2) else (none)) = some (r1, r2, r3, r4) := by rw [if_neg (show ¬ (false = true) by decide)] at H; exact H
    clear H
    have H := H1
    clear H1
    obtain ⟨ji18, hji18⟩ : ∃ j_ : Int, (IntKind.u64.wrap (wrap64 (a1 - 1))) = j_ := ⟨_, rfl⟩
    replace H : (if 0 ≤ (ji18) then (spec_FixVar.l0 kj4 a2 t210 (shl .i64 1 (ji18)) ([] : List Bool) (t210.length : Int) 0 a0_0 l0_1 a0_2) else (none)) = some (r1, r2, r3, r4) := by first | (rw [hji18] at H; exact H) | (simp only [hji18] at H ⊢; exact H)
    by_cases c19 : 0 ≤ (ji18)
    ·rw [if_pos c19] at H
     have c19b0 := eq_true c19
     have c19b1 : decide (0 ≤ (ji18)) = true := decide_eq_true c19
     clear c19
     obtain ⟨ji20, hji20⟩ : ∃ j_ : Int, (shl .i64 1 (ji18)) = j_ := ⟨_, rfl⟩
     replace H : (spec_FixVar.l0 kj4 a2 t210 ji20 ([] : List Bool) (t210.length : Int) 0 a0_0 l0_1 a0_2) = some (r1, r2, r3, r4) := by first | (rw [hji20] at H; exact H) | (simp only [hji20] at H ⊢; exact H)
     have hji20_ : (IntKind.i64.wrap (1 * 2 ^ min (ji18).toNat 64)) = ji20 := hji20
     have hji20z : (ji18) ≤ 64 → (IntKind.i64.wrap (1 * 2 ^ (ji18).toNat)) = ji20 := shl_small hji20
     have hji20u : (IntKind.i64.wrap (2 ^ min (ji18).toNat 64)) = ji20 := by have h_ := hji20_; rw [Int.one_mul] at h_; exact h_
     have hji20v : (ji18) ≤ 64 → (IntKind.i64.wrap (2 ^ (ji18).toNat)) = ji20 := fun hle_ => by have h_ := hji20z hle_; rw [Int.one_mul] at h_; exact h_
     have hji20y : (wrap64 (1 * 2 ^ min (ji18).toNat 64)) = ji20 := (i64_w _).symm.trans hji20_
     have hji20x : (ji18) ≤ 64 → (wrap64 (1 * 2 ^ (ji18).toNat)) = ji20 := fun h_ => (i64_w _).symm.trans (hji20z h_)
     have H' := am_ H
     clear H
     obtain ⟨Ao21, co21, eo21⟩ := Kd.R_slice HO_8.out
     subst eo21
     go_wp2
     go_loopg [11, 35] kj4 (fun kq v11 v35 w' => ∃ (x11_2 : List Bool) (x35_2 : Int), v35 = .int .i64 x35_2 ∧ Aside0 (spec_FixVar.l0 kq a2 t210 ji20 x11_2 (t210.length : Int) x35_2 a0_0 l0_1 a0_2 = some (r1, r2, r3, r4)) ∧ Aside0 (kq ≤ kj4) ∧ Aside0 (Kd.R Kd.bool 4 w' w.heap.size (fun k_ => some k_ ≠ (v11 : Value).ownBlock) (.slice Ao21 t210.length co21) t210) ∧ Aside0 (Kd.R Kd.bool 4 w' w.heap.size (fun k_ => some k_ ≠ ((.slice Ao21 t210.length co21) : Value).ownBlock) v11 x11_2) ∧ Aside0 (w'.heap[gb208]? = some (.cells #[.int .i64 a0_0, (.slice A0_1 l0_1.length c0_1), .int .i64 a0_2] 30 (0, 0))) ∧ Aside0 (w'.heap[gb209]? = some (.cells #[.int .i64 0, (.slice none 0 0), .int .i64 0] 30 (0, 0))) ∧ Aside0 (Below w.heap.size w w'))
     case atStart => exact ⟨(([] : List Bool)), (0), y30_, H', ⟨Nat.le_refl _⟩, ⟨rq_ (Kd.R_mono HO_8.out (fun _ hk => (by simp [Value.ownBlock])))⟩, ⟨by first | exact Kd.R_nil _ _ _ _ _ | exact Kd.N_nil _ _ _ _ _ | exact Kd.V_nil _ _ _ _ _ | exact Kd.Q_nil _ _ _ _ _ | exact Kd.S_nil _ _ _ _ _⟩, ⟨bk_ BK208.out⟩, ⟨bk_ BK209.out⟩, ⟨bq_⟩⟩
     case round =>
      clear H'
      try clear c1
      try clear c2
      try clear p2
      try clear c3
      try clear p6
      try clear c8
      try clear c11
      try clear c13
      try clear c15
      try clear c16
      try clear c19
      try clear c19b0
      try clear c19b1
      try clear c21
      try clear hcz14_0
      try clear hcz14_1
      try clear hcz14_2
      try clear hcz17_0
      try clear hcz17_1
      try clear hcz17_2
      try clear hcz9_0
      try clear hcz9_1
      try clear hcz9_2
      try clear hfz14_0
      try clear hfz14_1
      try clear hfz14_2
      try clear hfz17_0
      try clear hfz17_1
      try clear hfz17_2
      try clear hfz9_0
      try clear hfz9_1
      try clear hfz9_2
      try clear p2
      obtain ⟨x11_2, x35_2, rfl, HA, HK2, HO_8, HO_11, BK208, BK209, HB⟩ := hrel
      cases gk with
      | zero => exact absurd HA.out (by simp [spec_FixVar.l0])
      | succ k2 =>
       have H := HA.out
       clear HA
       simp only [spec_FixVar.l0] at H
       by_cases c22 : x35_2 < (t210.length : Int)
       ·rw [if_pos c22] at H
        have c22b0 : decide (x35_2 < (t210.length : Int)) = true := decide_eq_true c22
        clear c22
        by_cases c23 : a2 = true
        ·subst c23
         have H1 : (if 0 ≤ (Go.bits .or .i64 x35_2 ji20) then (if (Go.bits .or .i64 x35_2 ji20) < (t210.length : Int) then (if x11_2.length < 140737488355328 then (spec_FixVar.l0 k2 true t210 ji20 (x11_2 ++ [rdOf false t210 (Go.bits .or .i64 x35_2 ji20)]) (t210.length : Int) (wrap64 (x35_2 + 1)) a0_0 l0_1 a0_2) else (none)) else (none)) else (none)) = some (r1, r2, r3, r4) := by rw [if_pos rfl] at H; exact H
         clear H
         have H := H1
         clear H1
         by_cases c24 : 0 ≤ (Go.bits .or .i64 x35_2 ji20)
         ·rw [if_pos c24] at H
          have c24b0 : decide (0 ≤ (Go.bits .or .i64 x35_2 ji20)) = true := decide_eq_true c24
          clear c24
          by_cases c25 : (Go.bits .or .i64 x35_2 ji20) < (t210.length : Int)
          ·rw [if_pos c25] at H
           have c25b0 : decide ((Go.bits .or .i64 x35_2 ji20) < (t210.length : Int)) = true := decide_eq_true c25
           clear c25
           by_cases c26 : x11_2.length < 140737488355328
           ·rw [if_pos c26] at H
            have LMc26 := am_ c26
            clear c26
            obtain ⟨y216, hy216⟩ : ∃ y_ : List Bool, y_ = (x11_2 ++ [rdOf false t210 (Go.bits .or .i64 x35_2 ji20)]) := ⟨_, rfl⟩
            replace H : (spec_FixVar.l0 k2 true t210 ji20 y216 (t210.length : Int) (wrap64 (x35_2 + 1)) a0_0 l0_1 a0_2) = some (r1, r2, r3, r4) := by first | (rw [hy216]; with_reducible exact H) | (have H2_ := (Option.bind_some _ _).symm.trans H; rw [hy216]; with_reducible exact H2_) | (have H2_ := (Option.bind_some _ _).symm.trans H; with_reducible exact H2_) | with_reducible exact H | (rw [hy216]; exact H) | exact H
            have Ny216 := am_ hy216
            clear hy216
            have H' := am_ H
            clear H
            have p215 : 0 ≤ ((Go.bits .or .i64 x35_2 ji20) : Int) := od_
            have q215 : (Go.bits .or .i64 x35_2 ji20) < (t210.length : Int) := od_
            obtain ⟨ad215, e215, hx215_0⟩ := Kd.at_bool (Kd.R_reads' HO_8.out).2.2 (Go.bits .or .i64 x35_2 ji20) p215 q215
            cases e215
            replace p215 := eq_true p215
            replace q215 := eq_true q215
            go_wp2_with (first | ((with_reducible refine gate_builtin (b := .append) (xs := #[.tmp 45, .tmp 50]) rfl ?_); at_builtin; refine Kd.R_append Kd.bool (w0 := w) w.heap.size rfl (.tmp 45) (.tmp 50) 34 4 (.bool false) 1 rfl Try.underlying34 info4 rfl (by decide) (by omega) u11 x11_2 (rdOf false t210 (Go.bits .or .i64 x35_2 ji20)) [.bool (rdOf false t210 (Go.bits .or .i64 x35_2 ji20))] (fun k_ => some k_ ≠ (.slice (some ad215) t210.length co21 : Value).ownBlock) (fun _ => False) rfl rfl ?aP (fun _ hk => hk.elim) ?aF ?aO ?aB ?aS ?aL ?_; (case aP => exact rfl); (case aB => exact (bq_)); (case aF => exact (fun k_ hk => Kd.fresh' (Kd.R_lt (rq_ HO_8.out)) k_ hk)); (case aO => exact (rq_ HO_11.out)); (case aS => exact (below_size (bq_))); (case aL => have := LMc26.out; omega); intro v217 w27 ho hb hg hat; rw [← Ny216.out] at ho; replace HO_8 := am_ (Kd.R_after (ok := (fun _ => True)) (rq_ (Kd.R_mono HO_8.out (fun _ hk => ⟨trivial, hk⟩))) hg hat); replace BK208 := am_ (blk_grown (bk_ BK208.out) hg (Kd.R_ne HO_11.out BK208.out (by decide))); replace BK209 := am_ (blk_grown (bk_ BK209.out) hg (Kd.R_ne HO_11.out BK209.out (by decide))); replace HB := am_ (hb); have HO218 := am_ (ho); clear HO_11; clear ho hb hg hat))
            go_roundg k2
            case measure => have := HJ4.out; have := HK2.out; omega
            case rel => exact ⟨(y216), (wrap64 (x35_2 + 1)), y30_, H', ⟨by have := HJ4.out; have := HK2.out; omega⟩, ⟨rq_ (Kd.R_mono HO_8.out (fun _ hk => hk.2))⟩, ⟨rq_ HO218.out⟩, ⟨bk_ BK208.out⟩, ⟨bk_ BK209.out⟩, ⟨bq_⟩⟩
           ·rw [if_neg c26] at H
            exact absurd H (by simp)
          ·rw [if_neg c25] at H
           exact absurd H (by simp)
         ·rw [if_neg c24] at H
          exact absurd H (by simp)
        ·replace c23 := Bool.eq_false_iff.mpr c23
         subst c23
         have H1 : (if 0 ≤ (Go.bits .andNot .i64 x35_2 ji20) then (if (Go.bits .andNot .i64 x35_2 ji20) < (t210.length : Int) then (if x11_2.length < 140737488355328 then (spec_FixVar.l0 k2 false t210 ji20 (x11_2 ++ [rdOf false t210 (Go.bits .andNot .i64 x35_2 ji20)]) (t210.length : Int) (wrap64 (x35_2 + 1)) a0_0 l0_1 a0_2) else (none)) else (none)) else (none)) = some (r1, r2, r3, r4) := by rw [if_neg (show ¬ (false = true) by decide)] at H; exact H
         clear H
         have H := H1
         clear H1
         by_cases c28 : 0 ≤ (Go.bits .andNot .i64 x35_2 ji20)
         ·rw [if_pos c28] at H
          have c28b0 : decide (0 ≤ (Go.bits .andNot .i64 x35_2 ji20)) = true := decide_eq_true c28
          clear c28
          by_cases c29 : (Go.bits .andNot .i64 x35_2 ji20) < (t210.length : Int)
          ·rw [if_pos c29] at H
           have c29b0 : decide ((Go.bits .andNot .i64 x35_2 ji20) < (t210.length : Int)) = true := decide_eq_true c29
           clear c29
           by_cases c30 : x11_2.length < 140737488355328
           ·rw [if_pos c30] at H
            have LMc30 := am_ c30
            clear c30
            obtain ⟨y220, hy220⟩ : ∃ y_ : List Bool, y_ = (x11_2 ++ [rdOf false t210 (Go.bits .andNot .i64 x35_2 ji20)]) := ⟨_, rfl⟩
            replace H : (spec_FixVar.l0 k2 false t210 ji20 y220 (t210.length : Int) (wrap64 (x35_2 + 1)) a0_0 l0_1 a0_2) = some (r1, r2, r3, r4) := by first | (rw [hy220]; with_reducible exact H) | (have H2_ := (Option.bind_some _ _).symm.trans H; rw [hy220]; with_reducible exact H2_) | (have H2_ := (Option.bind_some _ _).symm.trans H; with_reducible exact H2_) | with_reducible exact H | (rw [hy220]; exact H) | exact H
            have Ny220 := am_ hy220
            clear hy220
            have H' := am_ H
            clear H
            have p219 : 0 ≤ ((Go.bits .andNot .i64 x35_2 ji20) : Int) := od_
            have q219 : (Go.bits .andNot .i64 x35_2 ji20) < (t210.length : Int) := od_
            obtain ⟨ad219, e219, hx219_0⟩ := Kd.at_bool (Kd.R_reads' HO_8.out).2.2 (Go.bits .andNot .i64 x35_2 ji20) p219 q219
            cases e219
            replace p219 := eq_true p219
            replace q219 := eq_true q219
            go_wp2_with (first | ((with_reducible refine gate_builtin (b := .append) (xs := #[.tmp 45, .tmp 50]) rfl ?_); at_builtin; refine Kd.R_append Kd.bool (w0 := w) w.heap.size rfl (.tmp 45) (.tmp 50) 34 4 (.bool false) 1 rfl Try.underlying34 info4 rfl (by decide) (by omega) u11 x11_2 (rdOf false t210 (Go.bits .andNot .i64 x35_2 ji20)) [.bool (rdOf false t210 (Go.bits .andNot .i64 x35_2 ji20))] (fun k_ => some k_ ≠ (.slice (some ad219) t210.length co21 : Value).ownBlock) (fun _ => False) rfl rfl ?aP (fun _ hk => hk.elim) ?aF ?aO ?aB ?aS ?aL ?_; (case aP => exact rfl); (case aB => exact (bq_)); (case aF => exact (fun k_ hk => Kd.fresh' (Kd.R_lt (rq_ HO_8.out)) k_ hk)); (case aO => exact (rq_ HO_11.out)); (case aS => exact (below_size (bq_))); (case aL => have := LMc30.out; omega); intro v221 w31 ho hb hg hat; rw [← Ny220.out] at ho; replace HO_8 := am_ (Kd.R_after (ok := (fun _ => True)) (rq_ (Kd.R_mono HO_8.out (fun _ hk => ⟨trivial, hk⟩))) hg hat); replace BK208 := am_ (blk_grown (bk_ BK208.out) hg (Kd.R_ne HO_11.out BK208.out (by decide))); replace BK209 := am_ (blk_grown (bk_ BK209.out) hg (Kd.R_ne HO_11.out BK209.out (by decide))); replace HB := am_ (hb); have HO222 := am_ (ho); clear HO_11; clear ho hb hg hat))
            go_roundg k2
            case measure => have := HJ4.out; have := HK2.out; omega
            case rel => exact ⟨(y220), (wrap64 (x35_2 + 1)), y30_, H', ⟨by have := HJ4.out; have := HK2.out; omega⟩, ⟨rq_ (Kd.R_mono HO_8.out (fun _ hk => hk.2))⟩, ⟨rq_ HO222.out⟩, ⟨bk_ BK208.out⟩, ⟨bk_ BK209.out⟩, ⟨bq_⟩⟩
           ·rw [if_neg c30] at H
            exact absurd H (by simp)
          ·rw [if_neg c29] at H
           exact absurd H (by simp)
         ·rw [if_neg c28] at H
          exact absurd H (by simp)
       ·rw [if_neg c22] at H
        have c22b0 : decide (x35_2 < (t210.length : Int)) = false := decide_eq_false c22
        clear c22
        replace H := Option.bind_eq_some_iff.mp H
        obtain ⟨⟨t223, t224, t227⟩, A320, H⟩ := H
        replace H : (some (t223, t224, t227, true)) = some (r1, r2, r3, r4) := H
        have A32 := am_ A320
        clear A320
        simp only [Option.some.injEq, Prod.mk.injEq] at H
        obtain ⟨rfl, rfl, rfl, rfl⟩ := H
        have hnb33 := NB208_209.out
        have hnc33 := NB209_208.out
        have hcz34_0 := cq_ BK208.out 0 (.int .i64 a0_0)
        have hcz34_1 := cq_ BK208.out 1 (.slice A0_1 l0_1.length c0_1)
        have hcz34_2 := cq_ BK208.out 2 (.int .i64 a0_2)
        have hfz34_0 := blk_frozen BK208.out 0
        have hfz34_1 := blk_frozen BK208.out 1
        have hfz34_2 := blk_frozen BK208.out 2
        obtain ⟨Ao35, co35, eo35⟩ := Kd.R_slice HO_11.out
        subst eo35
        go_wp2_with (first | ((with_reducible refine gl_ 62 rfl ?_); refine goesM_ (some 56) Try.func62 #[.int .i64 a0_0, .slice Ao35 x11_2.length co35] ?_; (with_reducible refine (spec_l7Of.calls k2 a0_0 _ _ x11_2 t223 t224 t227 _ ?side1 ?side2 A32.out).mono ?_); (case side1 => exact cm_ (Kd.R_reads' HO_11.out).2.2); (case side2 => exact (Kd.R_reads' HO_11.out).2.1); rintro e w36 ⟨v225, rfl, ho0, hb⟩; refine ⟨_, rfl, ?_⟩; replace HO_8 := am_ (Kd.R_below (rq_ HO_8.out) hb); replace HO_11 := am_ (Kd.R_below (rq_ HO_11.out) hb); have HO226 := am_ (Kd.R_lower ho0 (below_size (bq_))); replace BK208 := bb_ BK208 hb; replace BK209 := bb_ BK209 hb; replace HB := bs_ hb; (try clear hb); (try clear ho0); have hcz37_0 := cq_ BK209.out 0 (.int .i64 0); have hcz37_1 := cq_ BK209.out 1 (.slice none 0 0); have hcz37_2 := cq_ BK209.out 2 (.int .i64 0); have hfz37_0 := blk_frozen BK209.out 0; have hfz37_1 := blk_frozen BK209.out 1; have hfz37_2 := blk_frozen BK209.out 2; obtain ⟨Ao38, co38, eo38⟩ := Kd.R_slice HO226.out; subst eo38))
        refine bodyPost_ret (results_ct rfl _ _ gb209 30 #[.int .i64 t223, .slice Ao38 t224.length co38, .int .i64 t227] (0, 0) _ rfl (bu_ BK209.out) Try.underlying30 rfl (by kernel_rfl)) rfl ?_
        exact ⟨_, by first | rfl | (simp [errW_none, errW_some] <;> rfl) | (simp only [← hji18, ← hji20]; first | rfl | (simp [errW_none, errW_some] <;> rfl)) | (simp [*, errW_none, errW_some] <;> rfl), rq_ (Kd.R_mono (Kd.R_far (p := ⟨gb209, 2, none⟩) (Kd.R_far (p := ⟨gb209, 1, none⟩) (Kd.R_far (p := ⟨gb209, 0, none⟩) (Kd.R_types HO226.out BK209.out (by decide)) (fun _ hk => hk.2) (.int .i64 t223)) (fun _ hk => hk.2) (.slice Ao38 t224.length co38)) (fun _ hk => hk.2) (.int .i64 t227)) (fun _ hk => trivial)), bq_⟩
    ·rw [if_neg c19] at H
     exact absurd H (by simp)
def impl_FixVar.pr (k : Nat) (a0 : Int) (l0 : List S75) (a2 : Int) (so : Bool) (bit : Int) (i : Int) : Option Bool := if so = true then impl_Diagram_value.f k a0 l0 a2 (Go.bits .or .i64 i bit) else impl_Diagram_value.f k a0 l0 a2 (Go.bits .andNot .i64 i bit)
set_option maxHeartbeats 4000000 in
set_option maxRecDepth 100000 in
theorem impl_FixVar.pr_calls (k B0 B1 B2 : Nat) (A0 : Option Addr) (c0 : Nat) (a0 : Int) (l0 : List S75) (a2 : Int) (so : Bool) (bit : Int) (x : Int) (v : Bool) (w : World) (hB0 : w.heap[B0]? = some (.cells #[.bool so] 4 (0, 0))) (hB1 : w.heap[B1]? = some (.cells #[.int .i64 a0, .slice A0 l0.length c0, .int .i64 a2] 30 (0, 0))) (hB2 : w.heap[B2]? = some (.cells #[.int .i64 bit] 3 (0, 0))) (hr : Kd.C k75 w A0 l0.length l0) (hc : l0.length ≤ c0) (h : impl_FixVar.pr k a0 l0 a2 so bit x = some v) :
  Calls Try.prog 69 #[.int .i64 x, .pointer (some ⟨B0, 0, none⟩), .pointer (some ⟨B1, 0, none⟩), .pointer (some ⟨B2, 0, none⟩)] w fun e w' => e = .returned (.bool v) ∧ Below w.heap.size w w' := by
 have hu30 := Try.underlying30
 have HR := am_ hr
 have HC := am_ hc
 have HB := am_ (Below.refl w.heap.size w)
 unfold impl_FixVar.pr at h
 clear hr hc
 have hcz0 : w.cell? ⟨B1, 0, none⟩ = some (.int .i64 a0) := (blk_cell hB1 0).trans rfl
 have hcz1 : w.cell? ⟨B1, 1, none⟩ = some (.slice A0 l0.length c0) := (blk_cell hB1 1).trans rfl
 have hcz2 : w.cell? ⟨B1, 2, none⟩ = some (.int .i64 a2) := (blk_cell hB1 2).trans rfl
 have hcs : w.cell? ⟨B0, 0, none⟩ = some (.bool so) := (blk_cell hB0 0).trans rfl
 have hct : w.cell? ⟨B2, 0, none⟩ = some (.int .i64 bit) := (blk_cell hB2 0).trans rfl
 clear hB0 hB1 hB2
 by_cases c8 : so = true
 ·subst c8
  rw [if_pos rfl] at h
  have A1_ := am_ h
  clear h
  go_enter Try.func69, Try.ntmps69
  go_wp2_with (have t_ := A1_; go_at_call 59; refine (impl_Diagram_value.calls k a0 _ _ l0 a2 (Go.bits .or .i64 x bit) v _ y15_ HC.out A1_.out).mono ?_; rintro e w3 ⟨rfl, hb⟩; replace HB := bs_ hb; clear A1_ t_ hb)
  go_ret
  exact ⟨by first | rfl | (simp; done) | (simp [*]; done), bq_⟩
 ·replace c8 := Bool.eq_false_iff.mpr c8
  subst c8
  rw [if_neg (by simp)] at h
  have A1_ := am_ h
  clear h
  go_enter Try.func69, Try.ntmps69
  go_wp2_with (have t_ := A1_; go_at_call 59; refine (impl_Diagram_value.calls k a0 _ _ l0 a2 (Go.bits .andNot .i64 x bit) v _ y15_ HC.out A1_.out).mono ?_; rintro e w3 ⟨rfl, hb⟩; replace HB := bs_ hb; clear A1_ t_ hb)
  go_ret
  exact ⟨by first | rfl | (simp; done) | (simp [*]; done), bq_⟩
def impl_FixVar.ml : Nat → (Int → Option Bool) → Int → List Bool → Int → Option (List Bool)
 | 0, _, _, _, _ => none
 | k + 1, p, N, out, i => if i < N then ((p i).bind fun t => (if out.length < 17592186044416 then impl_FixVar.ml k p N (out ++ [t]) (wrap64 (i + 1)) else none)) else some out
def impl_FixVar.mapf (k : Nat) (p : Int → Option Bool) (vars : Int) : Option (Int × List S75 × Int) := if 0 ≤ vars then ((impl_FixVar.ml k p (shl .i64 1 vars) [] 0).bind fun t => impl_diagram.f k vars t) else none
set_option maxHeartbeats 8000000 in
set_option maxRecDepth 100000 in
theorem impl_FixVar.map_calls (k : Nat) (B0 B1 B2 : Nat) (p : Int → Option Bool) (vars : Int) (r1 : Int) (r2 : List S75) (r3 : Int) (w : World)
  (hp : ∀ (W : World) (x : Int) (v : Bool), Below w.heap.size w W → p x = some v → Calls Try.prog 69 #[.int .i64 x, .pointer (some ⟨B0, 0, none⟩), .pointer (some ⟨B1, 0, none⟩), .pointer (some ⟨B2, 0, none⟩)] W fun e w' => e = .returned (.bool v) ∧ Below W.heap.size W w')
  (h : impl_FixVar.mapf k p vars = some (r1, r2, r3)) :
  Calls Try.prog 63 #[.int .i64 vars, .func (.func 69) #[] #[.pointer (some ⟨B0, 0, none⟩), .pointer (some ⟨B1, 0, none⟩), .pointer (some ⟨B2, 0, none⟩)]] w fun e w' => ∃ v1_ : Value, e = .returned (.agg #[.int .i64 r1, v1_, .int .i64 r3]) ∧ Kd.R k75 75 w' w.heap.size (fun _ => True) v1_ r2 ∧ Below w.heap.size w w' := by
 have hu30 := Try.underlying30
 have HP := am_ hp
 clear hp
 have HB := am_ (Below.refl w.heap.size w)
 unfold impl_FixVar.mapf at h
 by_cases c0 : 0 ≤ vars
 ·rw [if_pos c0] at h
  have c0b := eq_true c0
  have c0d : decide (0 ≤ vars) = true := decide_eq_true c0
  clear c0
  obtain ⟨ji, hji⟩ : ∃ j_ : Int, (shl .i64 1 vars) = j_ := ⟨_, rfl⟩
  have hji_ : (IntKind.i64.wrap (1 * 2 ^ min vars.toNat 64)) = ji := hji
  have hjiz : vars ≤ 64 → (IntKind.i64.wrap (1 * 2 ^ vars.toNat)) = ji := shl_small hji
  have hjiu : (IntKind.i64.wrap (2 ^ min vars.toNat 64)) = ji := by have h_ := hji_; rw [Int.one_mul] at h_; exact h_
  have hjiv : vars ≤ 64 → (IntKind.i64.wrap (2 ^ vars.toNat)) = ji := fun hle_ => by have h_ := hjiz hle_; rw [Int.one_mul] at h_; exact h_
  have hjiy : (wrap64 (1 * 2 ^ min vars.toNat 64)) = ji := (i64_w _).symm.trans hji_
  have hjix : vars ≤ 64 → (wrap64 (1 * 2 ^ vars.toNat)) = ji := fun h_ => (i64_w _).symm.trans (hjiz h_)
  rw [hji] at h
  obtain ⟨tt, A10, h1⟩ := Option.bind_eq_some_iff.mp h
  have A1 := am_ A10
  have A2 := am_ h1
  clear A10 h h1
  have eg := fun args w => enters_ (P := Try.prog) Try.func69 (by kernel_rfl) rfl args w
  go_enter Try.func63, Try.ntmps63
  go_wp2_with ((with_reducible refine gate_dst (N := 4) rfl ?_); refine boxq_ (N := 4) (cs := #[.int .i64 0, .slice none 0 0, .int .i64 0]) (t := 30) ?_; intro g4 hg w3 hbox hb; have n0_ := bs_ hb; have GE4 := am_ (y34_ : w.heap.size ≤ g4); clear HB; have HB := n0_; have BK4 := am_ hbox; clear n0_ hb hbox hg)
  go_loopg [5, 9] k (fun kq v5 v9 w' => ∃ (o : List Bool) (x : Int), v9 = .int .i64 x ∧ Aside0 (impl_FixVar.ml kq p ji o x = some tt) ∧ Aside0 (kq ≤ k) ∧ Aside0 (Kd.R Kd.bool 4 w' w.heap.size (fun _ => True) v5 o) ∧ Aside0 (w'.heap[g4]? = some (.cells #[.int .i64 0, .slice none 0 0, .int .i64 0] 30 (0, 0))) ∧ Aside0 (Below w.heap.size w w'))
  case atStart => exact ⟨[], (0), y30_, A1, ⟨Nat.le_refl _⟩, ⟨Kd.R_nil _ _ _ _ _⟩, ⟨BK4.out⟩, ⟨bq_⟩⟩
  case round =>
   clear A1 HB BK4
   obtain ⟨o, x, rfl, HA, HK1, HO, BK4, HB⟩ := hrel
   cases gk with
   | zero => exact absurd HA.out (by simp [impl_FixVar.ml])
   | succ k1 =>
    have H := HA.out
    clear HA
    simp only [impl_FixVar.ml] at H
    by_cases c4 : x < ji
    ·rw [if_pos c4] at H
     have c4b0 : decide (x < ji) = true := decide_eq_true c4
     clear c4
     obtain ⟨t, A70, H⟩ := Option.bind_eq_some_iff.mp H
     have A7 := am_ A70
     clear A70
     by_cases c12 : o.length < 17592186044416
     ·rw [if_pos c12] at H
      have LMc12 := am_ c12
      clear c12
      have H' := am_ H
      clear H
      go_wp2_with (first | (go_at_call 69; refine (HP.out _ x t (bq_) A7.out).mono ?_; rintro e w6 ⟨rfl, hb⟩; replace HB := bs_ hb; replace HO := am_ (Kd.R_below (rq_ HO.out) hb); replace BK4 := bb_ BK4 hb; clear hb) | ((with_reducible refine gate_builtin (b := .append) (xs := #[.tmp 12, .tmp 16]) rfl ?_); at_builtin; refine Kd.R_append Kd.bool (w0 := w) w.heap.size rfl (.tmp 12) (.tmp 16) 34 4 (.bool false) 1 rfl Try.underlying34 info4 rfl (by decide) (by omega) u5 o t [.bool t] (fun _ => True) (fun _ => False) rfl rfl ?aP (fun _ hk => hk.elim) ?aF ?aO ?aB ?aS ?aL ?_; (case aP => exact rfl); (case aB => exact (bq_)); (case aF => exact (fun _ _ => trivial)); (case aO => exact (rq_ HO.out)); (case aS => exact (below_size (bq_))); (case aL => have := LMc12.out; omega); intro v121 w13 ho hb hg hat; have n2_ := am_ (blk_grown BK4.out hg (Kd.R_ne HO.out BK4.out (by decide))); have n0_ := am_ hb; have n1_ := am_ ho; clear HB HO BK4; have HB := n0_; have HO := n1_; have BK4 := n2_; clear n0_ n1_ n2_ ho hb hg hat))
      go_roundg k1
      case measure => have := HK1.out; omega
      case rel => exact ⟨_, (wrap64 (x + 1)), y30_, H', ⟨by have := HK1.out; omega⟩, ⟨rq_ HO.out⟩, ⟨bk_ BK4.out⟩, ⟨bq_⟩⟩
     ·rw [if_neg c12] at H
      exact absurd H (by simp)
    ·rw [if_neg c4] at H
     have c4b0 : decide (x < ji) = false := decide_eq_false c4
     clear c4
     obtain rfl := Option.some.inj H
     clear H
     obtain ⟨At, ct, et⟩ := Kd.R_slice HO.out
     subst et
     go_wp2_with (go_at_call 84; refine (impl_diagram.calls k vars _ _ o r1 r2 r3 _ (cm_ (Kd.R_reads' HO.out).2.2) (Kd.R_reads' HO.out).2.1 A2.out).mono ?_; rintro e w7 ⟨v1, rfl, ho, hb⟩; have NV := am_ (show v1.ownBlock ≠ some g4 from fun he => by have := Kd.R_base ho g4 he; have := blk_lt BK4.out; omega); replace BK4 := am_ (blk_below BK4.out hb); replace HO := am_ (Kd.R_lower ho (below_size (bq_))); replace HB := bs_ hb; clear ho hb; obtain ⟨Ao, co, eo⟩ := Kd.R_slice HO.out; subst eo; have hcy0 := cq_ BK4.out 0 (.int .i64 0); have hcy1 := cq_ BK4.out 1 (.slice none 0 0); have hcy2 := cq_ BK4.out 2 (.int .i64 0); have hfy0 := blk_frozen BK4.out 0; have hfy1 := blk_frozen BK4.out 1; have hfy2 := blk_frozen BK4.out 2)
     refine bodyPost_ret (results_cell_row rfl _ _ g4 30 #[.int .i64 r1, (.slice Ao r2.length co), .int .i64 r3] (0, 0) _ rfl (blk_put (cs := #[.int .i64 r1, (.slice Ao r2.length co), .int .i64 0]) (cs' := #[.int .i64 r1, (.slice Ao r2.length co), .int .i64 r3]) (blk_put (cs := #[.int .i64 r1, .slice none 0 0, .int .i64 0]) (cs' := #[.int .i64 r1, (.slice Ao r2.length co), .int .i64 0]) (blk_put (cs := #[.int .i64 0, .slice none 0 0, .int .i64 0]) (cs' := #[.int .i64 r1, .slice none 0 0, .int .i64 0]) (BK4.out) 0 (.int .i64 r1) rfl) 1 ((.slice Ao r2.length co)) rfl) 2 (.int .i64 r3) rfl) Try.underlying30 rfl (by kernel_rfl)) rfl ?_
     exact ⟨_, by first | rfl | (simp; done) | (simp [*]; done), Kd.R_mono (Kd.R_far (p := ⟨g4, 2, none⟩) (Kd.R_far (p := ⟨g4, 1, none⟩) (Kd.R_far (p := ⟨g4, 0, none⟩) (impl_Diagram_build.flat (show Kd.R k75 75 w7 w.heap.size (fun _ => True) (.slice Ao r2.length co) r2 from HO.out) (ok' := fun k => k ≠ g4) (fun k hk _ => fun he => NV.out (by rw [hk, he]))) (fun k h => h) (.int .i64 r1)) (fun k h => h) ((.slice Ao r2.length co))) (fun k h => h) (.int .i64 r3)) (fun _ _ => trivial), below_set (j := 2) (v := (.int .i64 r3)) (below_set (j := 1) (v := ((.slice Ao r2.length co))) (below_set (j := 0) (v := (.int .i64 r1)) (HB.out) GE4.out) GE4.out) GE4.out⟩
 ·rw [if_neg c0] at h
  exact absurd h (by simp)
def impl_FixVar.f (k : Nat) (a0 : Int) (l0 : List (S75)) (a2 : Int) (v : Int) (so : Bool) : Option (Int × (List (S75)) × Int × Bool) := (impl_GoodDiagram.f k a0 l0 a2).bind fun g => if g = true then ((impl_in.f v 1 a0).bind fun g' => if g' = true then (if 0 ≤ wrap64 (v - 1) then ((impl_FixVar.mapf k (impl_FixVar.pr k a0 l0 a2 so (shl .i64 1 (wrap64 (v - 1)))) a0).bind fun x => some (x.1, x.2.1, x.2.2, true)) else none) else some (0, ([] : List (S75)), 0, false)) else some (0, ([] : List (S75)), 0, false)
set_option maxHeartbeats 8000000 in
set_option maxRecDepth 100000 in
theorem impl_FixVar.calls (k : Nat) (a0 : Int) (A0 : Option Addr) (c0 : Nat) (l0 : List (S75)) (a2 : Int) (v : Int) (so : Bool) (r1 : Int) (r2 : List (S75)) (r3 : Int) (r4 : Bool) (w : World) (hr0 : Kd.C k75 w A0 l0.length l0) (hc0 : l0.length ≤ c0) (h : impl_FixVar.f k a0 l0 a2 v so = some (r1, r2, r3, r4)) :
  Calls Try.prog 32 #[.agg #[.int .i64 a0, .slice A0 l0.length c0, .int .i64 a2], .int .i64 v, .bool so] w fun e w' => ∃ v1_ : Value, e = .returned (.tuple #[.agg #[.int .i64 r1, v1_, .int .i64 r3], .bool r4]) ∧ Kd.R k75 75 w' w.heap.size (fun _ => True) v1_ r2 ∧ Below w.heap.size w w' := by
 have hu30 := Try.underlying30
 have HR0 := am_ hr0
 have HC0 := am_ hc0
 have HB := am_ (Below.refl w.heap.size w)
 obtain ⟨g, A10, h1⟩ := Option.bind_eq_some_iff.mp h
 have AG := am_ A10
 clear hr0 hc0 A10 h
 by_cases c8 : g = true
 ·subst c8
  rw [if_pos rfl] at h1
  obtain ⟨g', A10, h2⟩ := Option.bind_eq_some_iff.mp h1
  have AI := am_ A10
  clear A10 h1
  by_cases c9 : g' = true
  ·subst c9
   rw [if_pos rfl] at h2
   obtain ⟨jv, hjv⟩ : ∃ j_ : Int, wrap64 (v - 1) = j_ := ⟨_, rfl⟩
   have hjvw : (IntKind.i64.wrap (v - 1)) = jv := (i64_w _).trans hjv
   rw [hjv] at h2
   by_cases c10 : 0 ≤ jv
   ·rw [if_pos c10] at h2
    have c10b := eq_true c10
    have c10d : decide (0 ≤ jv) = true := decide_eq_true c10
    clear c10
    obtain ⟨bit, hbit⟩ : ∃ j_ : Int, (shl .i64 1 jv) = j_ := ⟨_, rfl⟩
    have hbit_ : (IntKind.i64.wrap (1 * 2 ^ min jv.toNat 64)) = bit := hbit
    have hbitz : jv ≤ 64 → (IntKind.i64.wrap (1 * 2 ^ jv.toNat)) = bit := shl_small hbit
    have hbitu : (IntKind.i64.wrap (2 ^ min jv.toNat 64)) = bit := by have h_ := hbit_; rw [Int.one_mul] at h_; exact h_
    have hbitv : jv ≤ 64 → (IntKind.i64.wrap (2 ^ jv.toNat)) = bit := fun hle_ => by have h_ := hbitz hle_; rw [Int.one_mul] at h_; exact h_
    have hbity : (wrap64 (1 * 2 ^ min jv.toNat 64)) = bit := (i64_w _).symm.trans hbit_
    have hbitx : jv ≤ 64 → (wrap64 (1 * 2 ^ jv.toNat)) = bit := fun h_ => (i64_w _).symm.trans (hbitz h_)
    rw [hbit] at h2
    obtain ⟨⟨x1, x2, x3⟩, A10, h3⟩ := Option.bind_eq_some_iff.mp h2
    have AM := am_ A10
    clear A10 h2
    simp only [Option.some.injEq, Prod.mk.injEq] at h3
    obtain ⟨rfl, rfl, rfl, rfl⟩ := h3
    go_enter Try.func32, Try.ntmps32
    go_wp2_with (first | ((with_reducible refine gate_dst (N := 3) rfl ?_); refine boxq_ (N := 3) (cs := #[.int .i64 a0, .slice A0 l0.length c0, .int .i64 a2]) (t := 30) ?_; intro g1 hg w1 hbox hb; have GEg1 := am_ (y34_ : w.heap.size ≤ g1); have n0_ := bs_ hb; clear HB; have HB := n0_; have BK1 := am_ hbox; clear n0_ hb hbox hg) | ((with_reducible refine gate_dst (N := 5) rfl ?_); refine boxq_ (N := 5) (cs := #[.bool so]) (t := 4) ?_; intro g2 hg w2 hbox hb; have GEg2 := am_ (y34_ : w.heap.size ≤ g2); have NEg1g2 := am_ (y31_ : g1 ≠ g2); have mBK1_ := am_ (blk_below BK1.out hb); have n0_ := bs_ hb; clear HB BK1; have HB := n0_; have BK1 := mBK1_; clear mBK1_; have BK2 := am_ hbox; clear n0_ hb hbox hg) | ((with_reducible refine gate_dst (N := 6) rfl ?_); refine boxq_ (N := 6) (cs := #[.int .i64 0, .slice none 0 0, .int .i64 0]) (t := 30) ?_; intro g3 hg w3 hbox hb; have GEg3 := am_ (y34_ : w.heap.size ≤ g3); have NEg1g3 := am_ (y31_ : g1 ≠ g3); have mBK1_ := am_ (blk_below BK1.out hb); have NEg2g3 := am_ (y32_ : g2 ≠ g3); have mBK2_ := am_ (blk_below BK2.out hb); have n0_ := bs_ hb; clear HB BK1 BK2; have HB := n0_; have BK1 := mBK1_; clear mBK1_; have BK2 := mBK2_; clear mBK2_; have BR := am_ hbox; clear n0_ hb hbox hg; have hcz0 := cq_ BK1.out 0 (.int .i64 a0); have hcz1 := cq_ BK1.out 1 (.slice A0 l0.length c0); have hcz2 := cq_ BK1.out 2 (.int .i64 a2); have hcy0 := cq_ BR.out 0 (.int .i64 0); have hcy1 := cq_ BR.out 1 (.slice none 0 0); have hcy2 := cq_ BR.out 2 (.int .i64 0); have hfy0 := blk_frozen BR.out 0; have hfy1 := blk_frozen BR.out 1; have hfy2 := blk_frozen BR.out 2; have hnb := NEg1g3.out; have hnc := Ne.symm NEg1g3.out) | (have t_ := AG; go_at_call 44; refine (impl_GoodDiagram.calls k a0 _ _ l0 a2 true _ y21_ HC0.out AG.out).mono ?_; rintro e w4 ⟨rfl, hb⟩; have mBK1_ := bb_ BK1 hb; have mBK2_ := bb_ BK2 hb; have mBR_ := bb_ BR hb; have n0_ := bs_ hb; clear HB BK1 BK2 BR; have HB := n0_; have BK1 := mBK1_; clear mBK1_; have BK2 := mBK2_; clear mBK2_; have BR := mBR_; clear mBR_; clear n0_ hb; clear AG t_; clear hcz0 hcz1 hcz2 hcy0 hcy1 hcy2 hfy0 hfy1 hfy2; have hcz0 := cq_ BK1.out 0 (.int .i64 a0); have hcz1 := cq_ BK1.out 1 (.slice A0 l0.length c0); have hcz2 := cq_ BK1.out 2 (.int .i64 a2); have hcy0 := cq_ BR.out 0 (.int .i64 0); have hcy1 := cq_ BR.out 1 (.slice none 0 0); have hcy2 := cq_ BR.out 2 (.int .i64 0); have hfy0 := blk_frozen BR.out 0; have hfy1 := blk_frozen BR.out 1; have hfy2 := blk_frozen BR.out 2) | (go_at_call 68; refine (impl_in.calls v 1 a0 true _ AI.out).mono ?_; rintro e w' ⟨rfl, ⟨nd, rfl⟩⟩) | ((with_reducible refine gate_dst (N := 8) rfl ?_); refine boxq_ (N := 8) (cs := #[.int .i64 0]) (t := 3) ?_; intro g4 hg w6 hbox hb; have GEg4 := am_ (y34_ : w.heap.size ≤ g4); have NEg3g4 := am_ ((by rw [hg]; exact Nat.ne_of_lt (blk_lt (show (w4.drewN nd).heap[g3]? = _ from bk_ BR.out))) : g3 ≠ g4); have NEg1g4 := am_ ((by rw [hg]; exact Nat.ne_of_lt (blk_lt (show (w4.drewN nd).heap[g1]? = _ from bk_ BK1.out))) : g1 ≠ g4); have NEg2g4 := am_ ((by rw [hg]; exact Nat.ne_of_lt (blk_lt (show (w4.drewN nd).heap[g2]? = _ from bk_ BK2.out))) : g2 ≠ g4); have mBK1_ := bb_ BK1 hb; have mBK2_ := bb_ BK2 hb; have mBR_ := bb_ BR hb; have n0_ := bs_ hb; clear HB BK1 BK2 BR; have HB := n0_; have BK1 := mBK1_; clear mBK1_; have BK2 := mBK2_; clear mBK2_; have BR := mBR_; clear mBR_; clear n0_ hb; have BK4 := am_ hbox; clear hbox hg; clear hcz0 hcz1 hcz2 hcy0 hcy1 hcy2 hfy0 hfy1 hfy2; have hcz0 := cq_ BK1.out 0 (.int .i64 a0); have hcz1 := cq_ BK1.out 1 (.slice A0 l0.length c0); have hcz2 := cq_ BK1.out 2 (.int .i64 a2); have hcx0 := cq_ BK4.out 0 (.int .i64 0); have hfx0 := blk_frozen BK4.out 0; have hnd := NEg1g4.out; have hne := Ne.symm NEg1g4.out) | (go_at_call 63; have n0_ := am_ (show Below w.heap.size w (w6.setCell ⟨g4, 0, none⟩ (.int .i64 bit)) from below_set HB.out GEg4.out); have n1_ := am_ (show (w6.setCell ⟨g4, 0, none⟩ (.int .i64 bit)).heap[g1]? = _ from blk_far BK1.out (p := ⟨g4, 0, none⟩) (show g1 ≠ g4 from NEg1g4.out) _); have n2_ := am_ (show (w6.setCell ⟨g4, 0, none⟩ (.int .i64 bit)).heap[g2]? = _ from blk_far BK2.out (p := ⟨g4, 0, none⟩) (show g2 ≠ g4 from NEg2g4.out) _); have n3_ := am_ (show (w6.setCell ⟨g4, 0, none⟩ (.int .i64 bit)).heap[g3]? = _ from blk_far BR.out (p := ⟨g4, 0, none⟩) (show g3 ≠ g4 from NEg3g4.out) _); have n4_ := am_ (show (w6.setCell ⟨g4, 0, none⟩ (.int .i64 bit)).heap[g4]? = _ from blk_put (cs := #[.int .i64 0]) (cs' := #[.int .i64 bit]) BK4.out 0 (.int .i64 bit) rfl); generalize (w6.setCell ⟨g4, 0, none⟩ (.int .i64 bit)) = W8 at n0_ n1_ n2_ n3_ n4_ ⊢; clear HB BK1 BK2 BR BK4 hcz0 hcz1 hcz2 hcx0 hfx0; refine (impl_FixVar.map_calls k g2 g1 g4 (impl_FixVar.pr k a0 l0 a2 so bit) a0 x1 x2 x3 _ (fun W x v hbW hv => impl_FixVar.pr_calls k g2 g1 g4 A0 c0 a0 l0 a2 so bit x v W (blk_below n2_.out hbW) (blk_below n1_.out hbW) (blk_below n4_.out hbW) (Kd.C_below (Kd.C_below HR0.out n0_.out) hbW) HC0.out hv) AM.out).mono ?_; rintro e w7 ⟨v1, rfl, ho, hb⟩; have NV := am_ (show v1.ownBlock ≠ some g3 from fun he => by have := Kd.R_base ho g3 he; have := blk_lt n3_.out; omega); have BR := am_ (blk_below n3_.out hb); have HO := am_ (Kd.R_lower ho (below_size n0_.out)); have HB := am_ (below_step n0_.out hb); clear n0_ n1_ n2_ n3_ n4_ ho hb; obtain ⟨Ao, co, eo⟩ := Kd.R_slice HO.out; subst eo; have hcy0 := cq_ BR.out 0 (.int .i64 0); have hcy1 := cq_ BR.out 1 (.slice none 0 0); have hcy2 := cq_ BR.out 2 (.int .i64 0); have hfy0 := blk_frozen BR.out 0; have hfy1 := blk_frozen BR.out 1; have hfy2 := blk_frozen BR.out 2))
    refine bodyPost_ret (results_ct rfl _ _ g3 30 #[.int .i64 x1, (.slice Ao x2.length co), .int .i64 x3] (0, 0) _ rfl (blk_put (cs := #[.int .i64 x1, (.slice Ao x2.length co), .int .i64 0]) (cs' := #[.int .i64 x1, (.slice Ao x2.length co), .int .i64 x3]) (blk_put (cs := #[.int .i64 x1, .slice none 0 0, .int .i64 0]) (cs' := #[.int .i64 x1, (.slice Ao x2.length co), .int .i64 0]) (blk_put (cs := #[.int .i64 0, .slice none 0 0, .int .i64 0]) (cs' := #[.int .i64 x1, .slice none 0 0, .int .i64 0]) (BR.out) 0 (.int .i64 x1) rfl) 1 ((.slice Ao x2.length co)) rfl) 2 (.int .i64 x3) rfl) Try.underlying30 rfl (by kernel_rfl)) rfl ?_
    exact ⟨_, by first | rfl | (simp; done) | (simp [*]; done), Kd.R_mono (Kd.R_far (p := ⟨g3, 2, none⟩) (Kd.R_far (p := ⟨g3, 1, none⟩) (Kd.R_far (p := ⟨g3, 0, none⟩) (impl_Diagram_build.flat (show Kd.R k75 75 w7 w.heap.size (fun _ => True) (.slice Ao x2.length co) x2 from HO.out) (ok' := fun k => k ≠ g3) (fun k hk _ => fun he => NV.out (by rw [hk, he]))) (fun k h => h) (.int .i64 x1)) (fun k h => h) ((.slice Ao x2.length co))) (fun k h => h) (.int .i64 x3)) (fun _ _ => trivial), below_set (j := 2) (v := (.int .i64 x3)) (below_set (j := 1) (v := ((.slice Ao x2.length co))) (below_set (j := 0) (v := (.int .i64 x1)) (HB.out) GEg3.out) GEg3.out) GEg3.out⟩
   ·rw [if_neg c10] at h2
    exact absurd h2 (by simp)
  ·replace c9 := Bool.eq_false_iff.mpr c9
   subst c9
   rw [if_neg (by simp)] at h2
   simp only [Option.some.injEq, Prod.mk.injEq] at h2
   obtain ⟨rfl, rfl, rfl, rfl⟩ := h2
   go_enter Try.func32, Try.ntmps32
   go_wp2_with (first | ((with_reducible refine gate_dst (N := 3) rfl ?_); refine boxq_ (N := 3) (cs := #[.int .i64 a0, .slice A0 l0.length c0, .int .i64 a2]) (t := 30) ?_; intro g1 hg w1 hbox hb; have GEg1 := am_ (y34_ : w.heap.size ≤ g1); have n0_ := bs_ hb; clear HB; have HB := n0_; have BK1 := am_ hbox; clear n0_ hb hbox hg) | ((with_reducible refine gate_dst (N := 5) rfl ?_); refine boxq_ (N := 5) (cs := #[.bool so]) (t := 4) ?_; intro g2 hg w2 hbox hb; have GEg2 := am_ (y34_ : w.heap.size ≤ g2); have NEg1g2 := am_ (y31_ : g1 ≠ g2); have mBK1_ := am_ (blk_below BK1.out hb); have n0_ := bs_ hb; clear HB BK1; have HB := n0_; have BK1 := mBK1_; clear mBK1_; have BK2 := am_ hbox; clear n0_ hb hbox hg) | ((with_reducible refine gate_dst (N := 6) rfl ?_); refine boxq_ (N := 6) (cs := #[.int .i64 0, .slice none 0 0, .int .i64 0]) (t := 30) ?_; intro g3 hg w3 hbox hb; have GEg3 := am_ (y34_ : w.heap.size ≤ g3); have NEg1g3 := am_ (y31_ : g1 ≠ g3); have mBK1_ := am_ (blk_below BK1.out hb); have NEg2g3 := am_ (y32_ : g2 ≠ g3); have mBK2_ := am_ (blk_below BK2.out hb); have n0_ := bs_ hb; clear HB BK1 BK2; have HB := n0_; have BK1 := mBK1_; clear mBK1_; have BK2 := mBK2_; clear mBK2_; have BR := am_ hbox; clear n0_ hb hbox hg; have hcz0 := cq_ BK1.out 0 (.int .i64 a0); have hcz1 := cq_ BK1.out 1 (.slice A0 l0.length c0); have hcz2 := cq_ BK1.out 2 (.int .i64 a2); have hcy0 := cq_ BR.out 0 (.int .i64 0); have hcy1 := cq_ BR.out 1 (.slice none 0 0); have hcy2 := cq_ BR.out 2 (.int .i64 0); have hfy0 := blk_frozen BR.out 0; have hfy1 := blk_frozen BR.out 1; have hfy2 := blk_frozen BR.out 2; have hnb := NEg1g3.out; have hnc := Ne.symm NEg1g3.out) | (have t_ := AG; go_at_call 44; refine (impl_GoodDiagram.calls k a0 _ _ l0 a2 true _ y21_ HC0.out AG.out).mono ?_; rintro e w4 ⟨rfl, hb⟩; have mBK1_ := bb_ BK1 hb; have mBK2_ := bb_ BK2 hb; have mBR_ := bb_ BR hb; have n0_ := bs_ hb; clear HB BK1 BK2 BR; have HB := n0_; have BK1 := mBK1_; clear mBK1_; have BK2 := mBK2_; clear mBK2_; have BR := mBR_; clear mBR_; clear n0_ hb; clear AG t_; clear hcz0 hcz1 hcz2 hcy0 hcy1 hcy2 hfy0 hfy1 hfy2; have hcz0 := cq_ BK1.out 0 (.int .i64 a0); have hcz1 := cq_ BK1.out 1 (.slice A0 l0.length c0); have hcz2 := cq_ BK1.out 2 (.int .i64 a2); have hcy0 := cq_ BR.out 0 (.int .i64 0); have hcy1 := cq_ BR.out 1 (.slice none 0 0); have hcy2 := cq_ BR.out 2 (.int .i64 0); have hfy0 := blk_frozen BR.out 0; have hfy1 := blk_frozen BR.out 1; have hfy2 := blk_frozen BR.out 2) | (go_at_call 68; refine (impl_in.calls v 1 a0 false _ AI.out).mono ?_; rintro e w' ⟨rfl, ⟨nd, rfl⟩⟩))
   refine bodyPost_ret (results_ct rfl _ _ g3 30 #[.int .i64 0, .slice none 0 0, .int .i64 0] (0, 0) _ rfl (blk_put (cs := #[.int .i64 0, .slice none 0 0, .int .i64 0]) (cs' := #[.int .i64 0, .slice none 0 0, .int .i64 0]) (blk_put (cs := #[.int .i64 0, .slice none 0 0, .int .i64 0]) (cs' := #[.int .i64 0, .slice none 0 0, .int .i64 0]) (blk_put (cs := #[.int .i64 0, .slice none 0 0, .int .i64 0]) (cs' := #[.int .i64 0, .slice none 0 0, .int .i64 0]) ((bk_ BR.out)) 0 (.int .i64 0) rfl) 1 (.slice none 0 0) rfl) 2 (.int .i64 0) rfl) Try.underlying30 rfl (by kernel_rfl)) rfl ?_
   exact ⟨_, by first | rfl | (simp; done) | (simp [*]; done), Kd.R_nil _ _ _ _ _, below_set (j := 2) (v := (.int .i64 0)) (below_set (j := 1) (v := (.slice none 0 0)) (below_set (j := 0) (v := (.int .i64 0)) ((bq_)) GEg3.out) GEg3.out) GEg3.out⟩
 ·replace c8 := Bool.eq_false_iff.mpr c8
  subst c8
  rw [if_neg (by simp)] at h1
  simp only [Option.some.injEq, Prod.mk.injEq] at h1
  obtain ⟨rfl, rfl, rfl, rfl⟩ := h1
  go_enter Try.func32, Try.ntmps32
  go_wp2_with (first | ((with_reducible refine gate_dst (N := 3) rfl ?_); refine boxq_ (N := 3) (cs := #[.int .i64 a0, .slice A0 l0.length c0, .int .i64 a2]) (t := 30) ?_; intro g1 hg w1 hbox hb; have GEg1 := am_ (y34_ : w.heap.size ≤ g1); have n0_ := bs_ hb; clear HB; have HB := n0_; have BK1 := am_ hbox; clear n0_ hb hbox hg) | ((with_reducible refine gate_dst (N := 5) rfl ?_); refine boxq_ (N := 5) (cs := #[.bool so]) (t := 4) ?_; intro g2 hg w2 hbox hb; have GEg2 := am_ (y34_ : w.heap.size ≤ g2); have NEg1g2 := am_ (y31_ : g1 ≠ g2); have mBK1_ := am_ (blk_below BK1.out hb); have n0_ := bs_ hb; clear HB BK1; have HB := n0_; have BK1 := mBK1_; clear mBK1_; have BK2 := am_ hbox; clear n0_ hb hbox hg) | ((with_reducible refine gate_dst (N := 6) rfl ?_); refine boxq_ (N := 6) (cs := #[.int .i64 0, .slice none 0 0, .int .i64 0]) (t := 30) ?_; intro g3 hg w3 hbox hb; have GEg3 := am_ (y34_ : w.heap.size ≤ g3); have NEg1g3 := am_ (y31_ : g1 ≠ g3); have mBK1_ := am_ (blk_below BK1.out hb); have NEg2g3 := am_ (y32_ : g2 ≠ g3); have mBK2_ := am_ (blk_below BK2.out hb); have n0_ := bs_ hb; clear HB BK1 BK2; have HB := n0_; have BK1 := mBK1_; clear mBK1_; have BK2 := mBK2_; clear mBK2_; have BR := am_ hbox; clear n0_ hb hbox hg; have hcz0 := cq_ BK1.out 0 (.int .i64 a0); have hcz1 := cq_ BK1.out 1 (.slice A0 l0.length c0); have hcz2 := cq_ BK1.out 2 (.int .i64 a2); have hcy0 := cq_ BR.out 0 (.int .i64 0); have hcy1 := cq_ BR.out 1 (.slice none 0 0); have hcy2 := cq_ BR.out 2 (.int .i64 0); have hfy0 := blk_frozen BR.out 0; have hfy1 := blk_frozen BR.out 1; have hfy2 := blk_frozen BR.out 2; have hnb := NEg1g3.out; have hnc := Ne.symm NEg1g3.out) | (have t_ := AG; go_at_call 44; refine (impl_GoodDiagram.calls k a0 _ _ l0 a2 false _ y21_ HC0.out AG.out).mono ?_; rintro e w4 ⟨rfl, hb⟩; have mBK1_ := bb_ BK1 hb; have mBK2_ := bb_ BK2 hb; have mBR_ := bb_ BR hb; have n0_ := bs_ hb; clear HB BK1 BK2 BR; have HB := n0_; have BK1 := mBK1_; clear mBK1_; have BK2 := mBK2_; clear mBK2_; have BR := mBR_; clear mBR_; clear n0_ hb; clear AG t_; clear hcz0 hcz1 hcz2 hcy0 hcy1 hcy2 hfy0 hfy1 hfy2; have hcz0 := cq_ BK1.out 0 (.int .i64 a0); have hcz1 := cq_ BK1.out 1 (.slice A0 l0.length c0); have hcz2 := cq_ BK1.out 2 (.int .i64 a2); have hcy0 := cq_ BR.out 0 (.int .i64 0); have hcy1 := cq_ BR.out 1 (.slice none 0 0); have hcy2 := cq_ BR.out 2 (.int .i64 0); have hfy0 := blk_frozen BR.out 0; have hfy1 := blk_frozen BR.out 1; have hfy2 := blk_frozen BR.out 2))
  refine bodyPost_ret (results_ct rfl _ _ g3 30 #[.int .i64 0, .slice none 0 0, .int .i64 0] (0, 0) _ rfl (blk_put (cs := #[.int .i64 0, .slice none 0 0, .int .i64 0]) (cs' := #[.int .i64 0, .slice none 0 0, .int .i64 0]) (blk_put (cs := #[.int .i64 0, .slice none 0 0, .int .i64 0]) (cs' := #[.int .i64 0, .slice none 0 0, .int .i64 0]) (blk_put (cs := #[.int .i64 0, .slice none 0 0, .int .i64 0]) (cs' := #[.int .i64 0, .slice none 0 0, .int .i64 0]) ((bk_ BR.out)) 0 (.int .i64 0) rfl) 1 (.slice none 0 0) rfl) 2 (.int .i64 0) rfl) Try.underlying30 rfl (by kernel_rfl)) rfl ?_
  exact ⟨_, by first | rfl | (simp; done) | (simp [*]; done), Kd.R_nil _ _ _ _ _, below_set (j := 2) (v := (.int .i64 0)) (below_set (j := 1) (v := (.slice none 0 0)) (below_set (j := 0) (v := (.int .i64 0)) ((bq_)) GEg3.out) GEg3.out) GEg3.out⟩
def spec_l1Has.l0 : Nat → Int → List Int → Int → Int → Option (Bool)
 | 0, _, _, _, _ => none
 | k + 1, x1, x7, x8, x9 => if x9 < x8 then (if 0 ≤ x9 then (if x9 < (x7.length : Int) then (if (rd x7 x9) = x1 then (some true) else (spec_l1Has.l0 k x1 x7 x8 (wrap64 (x9 + 1)))) else (none)) else (none)) else (some false)
def spec_l1Has.f (k : Nat) (l0 : List Int) (a1 : Int) : Option (Bool) := spec_l1Has.l0 k a1 l0 (l0.length : Int) 0
set_option maxHeartbeats 8000000 in
set_option maxRecDepth 100000 in
theorem spec_l1Has.calls (k : Nat) (A0 : Option Addr) (c0 : Nat) (l0 : List Int) (a1 : Int) (r : Bool) (w : World) (hr0 : Kd.C (Kd.int .i64) w A0 l0.length l0) (hc0 : l0.length ≤ c0) (h : spec_l1Has.f k l0 a1 = some r) :
  Calls Try.prog 114 #[.slice A0 l0.length c0, .int .i64 a1] w fun e w' => e = .returned (.bool r) ∧ Drawn0 w w' := by
 have HR0 := am_ hr0
 have HC0 := am_ hc0
 clear hr0 hc0
 have H : (spec_l1Has.l0 k a1 l0 (l0.length : Int) 0) = some r := h
 clear h
 have H' := am_ H
 clear H
 go_enter Try.func114, Try.ntmps114
 go_wp2
 go_loopg [9] k (fun kq v9 w' => ∃ (x9_1 : Int), v9 = .int .i64 x9_1 ∧ Aside0 (spec_l1Has.l0 kq a1 l0 (l0.length : Int) x9_1 = some r) ∧ Aside0 (kq ≤ k) ∧ Drawn0 w w')
 case atStart => exact ⟨(0), y30_, H', ⟨Nat.le_refl _⟩, by repeat (first | exact Drawn0.refl _ | apply Drawn0.step)⟩
 case round =>
  clear H'
  try clear c1
  try clear p2
  obtain ⟨x9_1, rfl, HA, HK1, ⟨m1, rfl⟩⟩ := hrel
  cases gk with
  | zero => exact absurd HA.out (by simp [spec_l1Has.l0])
  | succ k1 =>
   have H := HA.out
   clear HA
   simp only [spec_l1Has.l0] at H
   by_cases c3 : x9_1 < (l0.length : Int)
   ·rw [if_pos c3] at H
    have c3b0 : decide (x9_1 < (l0.length : Int)) = true := decide_eq_true c3
    clear c3
    by_cases c4 : 0 ≤ x9_1
    ·rw [if_pos c4] at H
     have c4b0 : decide (0 ≤ x9_1) = true := decide_eq_true c4
     clear c4
     by_cases c5 : x9_1 < (l0.length : Int)
     ·rw [if_pos c5] at H
      have c5b0 : decide (x9_1 < (l0.length : Int)) = true := decide_eq_true c5
      clear c5
      by_cases c6 : (rd l0 x9_1) = a1
      ·rw [if_pos c6] at H
       have c6b0 : ((rd l0 x9_1) == a1) = true := beq_iff_eq.mpr c6
       have c6b1 : ((rd l0 x9_1) != a1) = false := bne_eq_false_iff_eq.mpr c6
       clear c6
       obtain rfl := Option.some.inj H
       have p228 : 0 ≤ (x9_1 : Int) := od_
       have q228 : x9_1 < (l0.length : Int) := od_
       obtain ⟨ad228, e228, hx228_0⟩ := Kd.at_int HR0.out x9_1 p228 q228
       cases e228
       replace p228 := eq_true p228
       replace q228 := eq_true q228
       go_wp2
       go_ret
       exact ⟨by first | rfl | (simp; done) | (simp [*]; done), by repeat (first | exact Drawn0.refl _ | apply Drawn0.step)⟩
      ·rw [if_neg c6] at H
       have c6b0 : ((rd l0 x9_1) == a1) = false := beq_eq_false_iff_ne.mpr c6
       have c6b1 : ((rd l0 x9_1) != a1) = true := bne_iff_ne.mpr c6
       have H' := am_ H
       clear H
       have p228 : 0 ≤ (x9_1 : Int) := od_
       have q228 : x9_1 < (l0.length : Int) := od_
       obtain ⟨ad228, e228, hx228_0⟩ := Kd.at_int HR0.out x9_1 p228 q228
       cases e228
       replace p228 := eq_true p228
       replace q228 := eq_true q228
       go_wp2
       go_roundg k1
       case measure => have := HK1.out; omega
       case rel => exact ⟨(wrap64 (x9_1 + 1)), y30_, H', ⟨by have := HK1.out; omega⟩, by repeat (first | exact Drawn0.refl _ | apply Drawn0.step)⟩
     ·rw [if_neg c5] at H
      exact absurd H (by simp)
    ·rw [if_neg c4] at H
     exact absurd H (by simp)
   ·rw [if_neg c3] at H
    have c3b0 : decide (x9_1 < (l0.length : Int)) = false := decide_eq_false c3
    clear c3
    obtain rfl := Option.some.inj H
    go_wp2
    go_ret
    exact ⟨by first | rfl | (simp; done) | (simp [*]; done), by repeat (first | exact Drawn0.refl _ | apply Drawn0.step)⟩
end Go.Proofs.Ytpndhlcbfobelaa.PDX

import Derived.Test.YtcmhkgpalfljbaaPICx0
import Derived.Test.YtcmhkgpalfljbaaPICx3
import Derived.Test.YtcmhkgpalfljbaaPICx5
import Derived.Test.YtcmhkgpalfljbaaPICx7
import Derived.Test.YtcmhkgpalfljbaaPICx8
namespace Go.Proofs.Ytcmhkgpalfljbaa.PIC
open Go.RowKit Go.Proofs.YtcmhkgpalfljbaaW.PrintWords Go.Proofs.YtcmhkgpalfljbaaW.PrintLast Go.Proofs.YtcmhkgpalfljbaaW.PrintMore
attribute [local go_sem] max2_int min2_int max_two min_two max_three min_three max_four min_four   -- for this text's walks alone
set_option linter.unusedVariables false
set_option linter.unusedSimpArgs false
def impl_LeadersOf.pr (l b : List Bool) (i : Int) : Option Bool := if 0 ≤ i then (if i < (l.length : Int) then (if rdOf false l i = true then (if i < (b.length : Int) then some (rdOf false b i) else none) else some false) else none) else none
set_option maxHeartbeats 4000000 in
set_option maxRecDepth 100000 in
theorem impl_LeadersOf.pr_calls (B0 B1 : Nat) (A : Option Addr) (c : Nat) (l : List Bool) (A2 : Option Addr) (c2 : Nat) (b : List Bool) (x : Int) (v : Bool) (w : World) (hB0 : w.heap[B0]? = some (.cells #[.slice A l.length c] 57 (0, 0))) (hB1 : w.heap[B1]? = some (.cells #[.slice A2 b.length c2] 57 (0, 0))) (hr : Kd.C Kd.bool w A l.length l) (hr2 : Kd.C Kd.bool w A2 b.length b) (h : impl_LeadersOf.pr l b x = some v) :
    Calls Try.prog 57 #[.int .i64 x, .pointer (some ⟨B0, 0, none⟩), .pointer (some ⟨B1, 0, none⟩)] w fun e w' => e = .returned (.bool v) ∧ Below w.heap.size w w' := by
  have HB := Aside0.mk (Below.refl w.heap.size w)
  unfold impl_LeadersOf.pr at h
  have hc0 : w.cell? ⟨B0, 0, none⟩ = some (.slice A l.length c) := (blk_cell hB0 0).trans rfl
  have hc1 : w.cell? ⟨B1, 0, none⟩ = some (.slice A2 b.length c2) := (blk_cell hB1 0).trans rfl
  clear hB0 hB1
  by_cases c5 : 0 ≤ x
  · rw [if_pos c5] at h
    by_cases c6 : x < (l.length : Int)
    · rw [if_pos c6] at h
      obtain ⟨ad, e101, hx⟩ := Kd.at_bool hr x c5 c6
      cases e101
      have p101 := eq_true c5
      have q101 := eq_true c6
      by_cases c7 : rdOf false l x = true
      · rw [if_pos c7] at h
        rw [c7] at hx
        by_cases c8 : x < (b.length : Int)
        · rw [if_pos c8] at h
          obtain ⟨ad2, e102, hx2⟩ := Kd.at_bool hr2 x c5 c8
          cases e102
          have q102 := eq_true c8
          obtain rfl := Option.some.inj h
          clear h c5 c6 c7 c8 hr hr2
          go_enter Try.func57, Try.ntmps57
          go_wp2
          go_ret
          exact ⟨by first | rfl | (simp; done) | (simp [*]; done), bq_⟩
        · rw [if_neg c8] at h; cases h
      · rw [if_neg c7] at h
        rw [Bool.eq_false_iff.mpr c7] at hx
        obtain rfl := Option.some.inj h
        clear h c5 c6 c7 hr hr2
        go_enter Try.func57, Try.ntmps57
        go_wp2
        go_ret
        exact ⟨by first | rfl | (simp; done) | (simp [*]; done), bq_⟩
    · rw [if_neg c6] at h; cases h
  · rw [if_neg c5] at h; cases h
def impl_LeadersOf.St (w W : World) (g4 g5 go : Nat) (A : Option Addr) (c cb : Nat) (y b : List Bool) : Prop :=
  W.heap[g4]? = some (.cells #[.slice A y.length c] 57 (0, 0)) ∧ W.heap[g5]? = some (.cells #[.slice (some ⟨go, 0, none⟩) b.length cb] 57 (0, 0)) ∧ Kd.R Kd.bool 4 W w.heap.size (fun k => k ≠ go) (.slice A y.length c) y ∧ Kd.R Kd.bool 4 W w.heap.size (fun _ => True) (.slice (some ⟨go, 0, none⟩) b.length cb) b ∧ Below w.heap.size w W ∧ g4 ≠ go ∧ g5 ≠ go
theorem impl_LeadersOf.St.below {w W W' : World} {g4 g5 go : Nat} {A : Option Addr} {c cb : Nat} {y b : List Bool} (h : impl_LeadersOf.St w W g4 g5 go A c cb y b) (hb : Below W.heap.size W W') : impl_LeadersOf.St w W' g4 g5 go A c cb y b :=
  ⟨blk_below h.1 hb, blk_below h.2.1 hb, Kd.R_below h.2.2.1 hb, Kd.R_below h.2.2.2.1 hb, below_step h.2.2.2.2.1 hb, h.2.2.2.2.2⟩
theorem impl_LeadersOf.St.go_le {w W : World} {g4 g5 go : Nat} {A : Option Addr} {c cb : Nat} {y b : List Bool} (h : impl_LeadersOf.St w W g4 g5 go A c cb y b) : w.heap.size ≤ go := Kd.R_base h.2.2.2.1 go rfl
theorem impl_LeadersOf.St.set {w W : World} {g4 g5 go : Nat} {A : Option Addr} {c cb : Nat} {y b : List Bool} (h : impl_LeadersOf.St w W g4 g5 go A c cb y b) (i : Int) : impl_LeadersOf.St w (W.setCell ⟨go, i.toNat, none⟩ (.bool true)) g4 g5 go A c cb y (b.set i.toNat true) := by
  have e : (b.set i.toNat true).length = b.length := List.length_set ..
  unfold impl_LeadersOf.St
  rw [e]
  exact ⟨blk_far h.1 h.2.2.2.2.2.1 _, blk_far h.2.1 h.2.2.2.2.2.2 _, Kd.R_far h.2.2.1 (p := ⟨go, i.toNat, none⟩) (fun k hk => hk) _, (Kd.R_putg h.2.2.2.1 i true).1, below_set h.2.2.2.2.1 h.go_le, h.2.2.2.2.2⟩
theorem impl_LeadersOf.St.cell {w W : World} {g4 g5 go : Nat} {A : Option Addr} {c cb : Nat} {y b : List Bool} (h : impl_LeadersOf.St w W g4 g5 go A c cb y b) (i : Int) (h0 : 0 ≤ i) (h1 : i < (b.length : Int)) : W.cell? ⟨go, i.toNat, none⟩ = some (.bool (rdOf false b i)) ∧ W.frozen? ⟨go, i.toNat, none⟩ = false := Kd.R_celln false h.2.2.2.1 i h0 h1
theorem impl_LeadersOf.St.mk' {w W W1 W2 : World} {g4 g5 go : Nat} {A : Option Addr} {c cb n : Nat} {y b : List Bool} (h4 : W1.heap[g4]? = some (.cells #[.slice A y.length c] 57 (0, 0))) (hr : Kd.R Kd.bool 4 W1 w.heap.size (fun _ => True) (.slice A y.length c) y) (hr2 : Kd.R Kd.bool 4 W W1.heap.size (fun _ => True) (.slice (some ⟨go, 0, none⟩) b.length cb) b) (hb : Below w.heap.size w W1) (hk : Below W1.heap.size W1 W) (hk2 : Below W.heap.size W W2) (h5 : W2.heap[g5]? = some (.cells #[.slice (some ⟨go, 0, none⟩) b.length cb] 57 (0, 0))) (hg5 : W.heap.size ≤ g5) : impl_LeadersOf.St w W2 g4 g5 go A c cb y b :=
  ⟨blk_below (blk_below h4 hk) hk2, h5, Kd.R_below (Kd.R_mono (Kd.R_elder' hr (Kd.R_base hr2) hk) (fun k hk => by rintro rfl; exact hk.2 rfl)) hk2, Kd.R_lower (Kd.R_below hr2 hk2) (below_size hb), below_step (below_step hb hk) hk2, Nat.ne_of_lt (Nat.lt_of_lt_of_le (blk_lt h4) (Kd.R_base hr2 go rfl)), fun e => absurd (Kd.R_lt hr2 go rfl) (by omega)⟩
def impl_LeadersOf.lst : Nat → (Int → Option Bool) → Int → List Int → Int → Option (List Int)
  | 0, _, _, _, _ => none
  | k + 1, p, many, out, i => if i < many then ((p i).bind fun t => (if t = true then (if out.length < 17592186044416 then impl_LeadersOf.lst k p many (out ++ [i]) (wrap64 (i + 1)) else none) else impl_LeadersOf.lst k p many out (wrap64 (i + 1)))) else some out
set_option maxHeartbeats 8000000 in
set_option maxRecDepth 100000 in
theorem impl_LeadersOf.lst_calls (k : Nat) (B0 B1 : Nat) (p : Int → Option Bool) (many : Int) (r : List Int) (w : World)
    (hp : ∀ (W : World) (x : Int) (v : Bool), Below w.heap.size w W → p x = some v → Calls Try.prog 57 #[.int .i64 x, .pointer (some ⟨B0, 0, none⟩), .pointer (some ⟨B1, 0, none⟩)] W fun e w' => e = .returned (.bool v) ∧ Below W.heap.size W w')
    (h : impl_LeadersOf.lst k p many [] 0 = some r) :
    Calls Try.prog 51 #[.int .i64 many, .func (.func 57) #[] #[.pointer (some ⟨B0, 0, none⟩), .pointer (some ⟨B1, 0, none⟩)]] w fun e w' => ∃ v0_ : Value, e = .returned v0_ ∧ Kd.R (Kd.int .i64) 3 w' w.heap.size (fun _ => True) v0_ r ∧ Below w.heap.size w w' := by
  have H' := Aside0.mk h
  clear h
  have HB := Aside0.mk (Below.refl w.heap.size w)
  have HP := Aside0.mk hp
  clear hp
  have eg := fun args w => enters_ (P := Try.prog) Try.func57 (by kernel_rfl) rfl args w
  go_enter Try.func51, Try.ntmps51
  go_wp2
  go_loopg [5, 8] k (fun kq v5 v8 w' => ∃ (o : List Int) (x : Int), v8 = .int .i64 x ∧ Aside0 (impl_LeadersOf.lst kq p many o x = some r) ∧ Aside0 (kq ≤ k) ∧ Aside0 (Kd.R (Kd.int .i64) 3 w' w.heap.size (fun _ => True) v5 o) ∧ Aside0 (Below w.heap.size w w'))
  case atStart => exact ⟨[], (0), (by first | rfl | (simp; done) | (simp [*]; done)), H', ⟨Nat.le_refl _⟩, ⟨Kd.R_nil _ _ _ _ _⟩, ⟨bq_⟩⟩
  case round =>
    clear H' HB
    obtain ⟨o, x, rfl, HA, HK1, HO, HB⟩ := hrel
    cases gk with
    | zero => exact absurd HA.out (by simp [impl_LeadersOf.lst])
    | succ k1 =>
      have H := HA.out
      clear HA
      simp only [impl_LeadersOf.lst] at H
      by_cases c4 : x < many
      · rw [if_pos c4] at H
        have c4b0 : decide (x < many) = true := decide_eq_true c4
        clear c4
        obtain ⟨t, A70, H⟩ := Option.bind_eq_some_iff.mp H
        have A7 := Aside0.mk A70
        clear A70
        by_cases c8 : t = true
        · subst c8
          rw [if_pos rfl] at H
          by_cases c12 : o.length < 17592186044416
          · rw [if_pos c12] at H
            have LMc12 := Aside0.mk c12
            clear c12
            have H' := Aside0.mk H
            clear H
            go_wp2_with (first | (go_at_call 57; refine (HP.out _ x true (bq_) A7.out).mono ?_; rintro e w6 ⟨rfl, hb⟩; have n0_ := Aside0.mk (below_step (bq_) hb); have n1_ := Aside0.mk (Kd.R_below (rq_ HO.out) hb); clear HB HO; have HB := n0_; have HO := n1_; clear n0_ n1_ hb) | ((with_reducible refine gate_builtin (b := .append) (xs := #[.tmp 14, .tmp 16]) rfl ?_); at_builtin; refine Kd.R_append (Kd.int .i64) (w0 := w) w.heap.size rfl (.tmp 14) (.tmp 16) 30 3 (.int .i64 0) 8 rfl Try.underlying30 info3 rfl (by decide) (by omega) u5 o x [.int .i64 x] (fun _ => True) (fun _ => False) rfl rfl ?aP (fun _ hk => hk.elim) ?aF ?aO ?aB ?aS ?aL ?_; (case aP => exact rfl); (case aB => exact (bq_)); (case aF => exact (fun _ _ => trivial)); (case aO => exact (rq_ HO.out)); (case aS => exact (below_size (bq_))); (case aL => have := LMc12.out; omega); intro v121 w13 ho hb hg hat; have n0_ := Aside0.mk hb; have n1_ := Aside0.mk ho; clear HB HO; have HB := n0_; have HO := n1_; clear n0_ n1_ ho hb hg hat))
            go_roundg k1
            case measure => have := HK1.out; omega
            case rel => exact ⟨_, (wrap64 (x + 1)), (by first | rfl | (simp; done) | (simp [*]; done)), H', ⟨by have := HK1.out; omega⟩, ⟨rq_ HO.out⟩, ⟨bq_⟩⟩
          · rw [if_neg c12] at H
            exact absurd H (by simp)
        · replace c8 := Bool.eq_false_iff.mpr c8
          subst c8
          rw [if_neg (by simp)] at H
          have H' := Aside0.mk H
          clear H
          go_wp2_with (go_at_call 57; refine (HP.out _ x false (bq_) A7.out).mono ?_; rintro e w6 ⟨rfl, hb⟩; have n0_ := Aside0.mk (below_step (bq_) hb); have n1_ := Aside0.mk (Kd.R_below (rq_ HO.out) hb); clear HB HO; have HB := n0_; have HO := n1_; clear n0_ n1_ hb)
          go_roundg k1
          case measure => have := HK1.out; omega
          case rel => exact ⟨_, (wrap64 (x + 1)), (by first | rfl | (simp; done) | (simp [*]; done)), H', ⟨by have := HK1.out; omega⟩, ⟨rq_ HO.out⟩, ⟨bq_⟩⟩
      · rw [if_neg c4] at H
        have c4b0 : decide (x < many) = false := decide_eq_false c4
        clear c4
        obtain rfl := Option.some.inj H
        clear H
        go_wp2
        go_ret
        exact ⟨_, by first | rfl | (simp; done) | (simp [*]; done), rq_ HO.out, bq_⟩
def impl_LeadersOf.l0 : Nat → List S51 → List Bool → List Bool → Int → Option (List Bool)
  | 0, _, _, _, _ => none
  | k + 1, l, y, b, x => if x < (l.length : Int) then (if 0 ≤ x then (if x < (y.length : Int) then (if rdOf false y x = true then ((impl_Step_jumps.f (rd_T51 l x).f0 (rd_T51 l x).f1 (rd_T51 l x).f2 (rd_T51 l x).f3 (rd_T51 l x).f4 (rd_T51 l x).f5).bind fun t => (if t = true then (if 0 ≤ wrap64 (x + 1) then (if wrap64 (x + 1) < (b.length : Int) then (if 0 ≤ wrap64 (wrap64 (x + (rd_T51 l x).f5) + 1) then (if wrap64 (wrap64 (x + (rd_T51 l x).f5) + 1) < (b.length : Int) then impl_LeadersOf.l0 k l y ((b.set (wrap64 (x + 1)).toNat true).set (wrap64 (wrap64 (x + (rd_T51 l x).f5) + 1)).toNat true) (wrap64 (x + 1)) else none) else none) else none) else none) else impl_LeadersOf.l0 k l y b (wrap64 (x + 1)))) else impl_LeadersOf.l0 k l y b (wrap64 (x + 1))) else none) else none) else some b
def impl_LeadersOf.f (k : Nat) (l0 : List (S51)) : Option (List Int × Bool) := (impl_GoodProgram.f k l0).bind fun t => if t = true then ((impl_reachable.f k l0 0).bind fun y => if 0 < l0.length ∧ l0.length ≤ 281474976710656 then ((impl_LeadersOf.l0 k l0 y ((List.replicate l0.length false).set 0 true) 0).bind fun b => (impl_LeadersOf.lst k (impl_LeadersOf.pr y b) (l0.length : Int) [] 0).bind fun o => some (o, true)) else none) else some (([] : List Int), false)
set_option maxHeartbeats 8000000 in
set_option maxRecDepth 100000 in
theorem impl_LeadersOf.calls (k : Nat) (A0 : Option Addr) (c0 : Nat) (l0 : List (S51)) (r1 : List Int) (r2 : Bool) (w : World) (hr0 : Kd.C k51 w A0 l0.length l0) (hc0 : l0.length ≤ c0) (h : impl_LeadersOf.f k l0 = some (r1, r2)) :
    Calls Try.prog 26 #[.slice A0 l0.length c0] w fun e w' => ∃ v0_ : Value, e = .returned (.tuple #[v0_, .bool r2]) ∧ Kd.R (Kd.int .i64) 3 w' w.heap.size (fun _ => True) v0_ r1 ∧ Below w.heap.size w w' := by
  have HR0 := Aside0.mk hr0
  have HC0 := Aside0.mk hc0
  clear hr0 hc0
  obtain ⟨t, A70, H⟩ := Option.bind_eq_some_iff.mp h
  have A7 := Aside0.mk A70
  clear A70 h
  have HB := Aside0.mk (Below.refl w.heap.size w)
  by_cases c8 : t = true
  · subst c8
    rw [if_pos rfl] at H
    obtain ⟨y, A80, H1⟩ := Option.bind_eq_some_iff.mp H
    have A8 := Aside0.mk A80
    clear A80 H
    by_cases hl : 0 < l0.length ∧ l0.length ≤ 281474976710656
    · rw [if_pos hl] at H1
      have HL := Aside0.mk hl
      clear hl
      obtain ⟨b1, A60, H2⟩ := Option.bind_eq_some_iff.mp H1
      clear H1
      obtain ⟨o, A90, H⟩ := Option.bind_eq_some_iff.mp H2
      clear H2
      simp only [Option.some.injEq, Prod.mk.injEq] at H
      obtain ⟨rfl, rfl⟩ := H
      obtain ⟨b0, hb0⟩ : ∃ b_, b_ = List.replicate l0.length false := ⟨_, rfl⟩
      rw [← hb0] at A60
      have EL := Aside0.mk (show b0.length = l0.length from by rw [hb0, List.length_replicate])
      have EB := Aside0.mk hb0
      have H' := Aside0.mk A60
      have A9 := Aside0.mk A90
      clear hb0 A60 A90
      go_enter Try.func26, Try.ntmps26
      go_wp2_with (first | ((with_reducible refine gate_dst (N := 4) rfl ?_); refine boxq_ (N := 4) (cs := #[.slice none 0 0]) (t := 57) ?_; intro g4 hg w4 hbox hb; have HK4 := Aside0.mk hb; have GE4 := Aside0.mk (show _ ≤ g4 from Nat.le_of_eq hg.symm); have BK4 := Aside0.mk hbox; clear hb hbox hg; have hcz0 := cq_ BK4.out 0 ((.slice none 0 0)); have hfz0 := blk_frozen BK4.out 0) | ((with_reducible refine gate_store (t := 57) (p := 4) rfl ?_); refine store_event (t := 57) (p := 4) (v := ?vo_w6) (w1 := (w4.setCell ⟨g4, 0, none⟩ (.slice Ao y.length co))) ?hg ?ho ?hn ?hr ?_; (case ho => rfl); (case hg => rfl); (case hn => rfl); (case hr => first | (go_simp; done) | (go_simp; rfl)); intro w6 hw; have n0_ := Aside0.mk (show Below _ _ w6 from by rw [hw]; exact below_set (v := (.slice Ao y.length co)) HK4.out GE4.out); have n1_ := Aside0.mk (show w6.heap[g4]? = some (.cells #[.slice Ao y.length co] 57 (0, 0)) from by rw [hw]; exact blk_put (cs := #[.slice none 0 0]) BK4.out 0 _ rfl); have n2_ := Aside0.mk (Kd.R_below HO.out n0_.out); have n3_ := Aside0.mk (below_step (bq_) n0_.out); clear HB HO BK4 HK4 GE4 hcz0 hfz0 hw n0_; have HB := n3_; have BK4 := n1_; have HO := n2_; clear n1_ n2_ n3_) | ((with_reducible refine gate_dst (N := 15) rfl ?_); refine Kd.R_make Kd.bool _ 4 rfl (N := 15) rfl 57 _ _ rfl (l0.length : Int) rfl rfl Try.underlying57 (.bool false) 1 info4 rfl (by decide) (by omega) false (ok := fun _ => True) (okp := fun _ => True) rfl (fun _ hk => hk) trivial (Int.natCast_nonneg _) (by have := HL.out.2; simp only [Int.toNat_natCast]; omega) (Below.refl _ _) (Nat.le_refl _) ?_; intro v7 w7 ho hb hg_ hnew_; clear hg_ hnew_; simp only [Int.toNat_natCast] at ho; rw [← EB.out] at ho; obtain ⟨go, cb, eo, gb_, gl_, cl_⟩ := Kd.R_form ho (by rw [EL.out]; exact HL.out.1); clear gb_ gl_ cl_; subst eo; have HO2 := Aside0.mk ho; have HKM := Aside0.mk hb; clear ho hb) | ((with_reducible refine gate_dst (N := 5) rfl ?_); refine boxq_ (N := 5) (cs := #[.slice none 0 0]) (t := 57) ?_; intro g5 hg w8 hbox hb; have HK5 := Aside0.mk hb; have GE5 := Aside0.mk (show _ ≤ g5 from Nat.le_of_eq hg.symm); have BK5 := Aside0.mk hbox; clear hb hbox hg; have hcz0 := cq_ BK5.out 0 ((.slice none 0 0)); have hfz0 := blk_frozen BK5.out 0) | ((with_reducible refine gate_store (t := 57) (p := 5) rfl ?_); refine store_event (t := 57) (p := 5) (v := ?vo_w9) (w1 := (w8.setCell ⟨g5, 0, none⟩ (.slice (some ⟨go, 0, none⟩) b0.length cb))) ?hg ?ho ?hn ?hr ?_; (case ho => rfl); (case hg => rfl); (case hn => rfl); (case hr => first | (go_simp; done) | (go_simp; rfl)); intro w9 hw; have n0_ := Aside0.mk (show Below _ _ w9 from by rw [hw]; exact below_set (v := (.slice (some ⟨go, 0, none⟩) b0.length cb)) HK5.out GE5.out); have n1_ := Aside0.mk (show w9.heap[g5]? = some (.cells #[.slice (some ⟨go, 0, none⟩) b0.length cb] 57 (0, 0)) from by rw [hw]; exact blk_put (cs := #[.slice none 0 0]) BK5.out 0 _ rfl); have HS := Aside0.mk (impl_LeadersOf.St.mk' (n := 0) BK4.out HO.out HO2.out (bq_) HKM.out n0_.out n1_.out GE5.out); clear HB HO HO2 BK4 BK5 HK5 GE5 HKM hcz0 hfz0 hw n0_ n1_; have hcz := (blk_cell HS.out.2.1 0).trans rfl; have h00 := HS.out.cell 0 (by omega) (by rw [EL.out]; have := HL.out.1; omega); have hcg := h00.1; have hfg := h00.2; clear h00; simp only [Int.toNat_zero] at hcg hfg; have pb := eq_true (show 0 < b0.length from by rw [EL.out]; exact HL.out.1)) | ((with_reducible refine gate_store (t := 4) (p := 17) rfl ?_); refine store_event (t := 4) (p := 17) (v := ?vo_w10) (w1 := (w9.setCell ⟨go, 0, none⟩ (.bool true))) ?hg ?ho ?hn ?hr ?_; (case ho => rfl); (case hg => rfl); (case hn => rfl); (case hr => first | (go_simp; done) | (go_simp; rfl)); intro w10 hw; have n0_ := Aside0.mk (show impl_LeadersOf.St w w10 g4 g5 go Ao co cb y (b0.set 0 true) from by rw [hw]; exact HS.out.set 0); clear HS hw hcz hcg hfg; have HS := n0_; clear n0_) | (go_at_call 49; refine (impl_GoodProgram.calls k _ _ l0 true _ (Kd.C_below HR0.out (bq_)) HC0.out A7.out).mono ?_; rintro e w3 ⟨rfl, hb⟩; have n0_ := Aside0.mk (below_step (bq_) hb); clear HB hb; have HB := n0_; clear n0_) | (go_at_call 50; refine (impl_reachable.calls k _ _ l0 0 y _ (Kd.C_below HR0.out (bq_)) HC0.out A8.out).mono ?_; rintro e w5 ⟨v0, rfl, ho, hb⟩; obtain ⟨Ao, co, eo⟩ := Kd.R_slice ho; subst eo; have HO := Aside0.mk (Kd.R_lower ho (below_size (bq_))); have n0_ := Aside0.mk (below_step (bq_) hb); clear HB ho hb; have HB := n0_; clear n0_))
      go_loopg [20] k (fun kq v20 w' => ∃ (b : List Bool) (x : Int), v20 = .int .i64 x ∧ Aside0 (impl_LeadersOf.l0 kq l0 y b x = some b1) ∧ Aside0 (kq ≤ k) ∧ Aside0 (impl_LeadersOf.St w w' g4 g5 go Ao co cb y b))
      case atStart => exact ⟨_, _, (by first | rfl | (simp; done) | (simp [*]; done)), H', ⟨Nat.le_refl _⟩, ⟨by repeat (first | (with_reducible exact HS.out) | exact HS.out.below (by repeat (first | exact Below.refl _ _ | apply below_drew1 | apply below_alloc))) ⟩⟩
      case round =>
        clear H' HS pb
        obtain ⟨b, x, rfl, HA, HK1, HS⟩ := hrel
        cases gk with
        | zero => exact absurd HA.out (by simp [impl_LeadersOf.l0])
        | succ k1 =>
          have H := HA.out
          clear HA
          simp only [impl_LeadersOf.l0] at H
          by_cases c4 : x < (l0.length : Int)
          · rw [if_pos c4] at H
            have c4b0 : decide (x < (l0.length : Int)) = true := decide_eq_true c4
            by_cases c5 : 0 ≤ x
            · rw [if_pos c5] at H
              by_cases c6 : x < (y.length : Int)
              · rw [if_pos c6] at H
                obtain ⟨ad, e101, hx0, hx1, hx2, hx3, hx4, hx5⟩ := at_T51 HR0.out x c5 c4
                cases e101
                replace hx0 := (HS.out.2.2.2.2.1.cell (World.block_lt_of_cell? w _ hx0)).trans hx0
                replace hx1 := (HS.out.2.2.2.2.1.cell (World.block_lt_of_cell? w _ hx1)).trans hx1
                replace hx2 := (HS.out.2.2.2.2.1.cell (World.block_lt_of_cell? w _ hx2)).trans hx2
                replace hx3 := (HS.out.2.2.2.2.1.cell (World.block_lt_of_cell? w _ hx3)).trans hx3
                replace hx4 := (HS.out.2.2.2.2.1.cell (World.block_lt_of_cell? w _ hx4)).trans hx4
                replace hx5 := (HS.out.2.2.2.2.1.cell (World.block_lt_of_cell? w _ hx5)).trans hx5
                have p101 := eq_true c5
                have q101 := eq_true c4
                have p102 := c5
                have q102 := c6
                clear c4 c5 c6
                by_cases c7 : rdOf false y x = true
                · rw [if_pos c7] at H
                  have NH := Aside0.mk c7
                  clear c7
                  obtain ⟨t, AJ0, H⟩ := Option.bind_eq_some_iff.mp H
                  have AJ := Aside0.mk AJ0
                  clear AJ0
                  by_cases c8 : t = true
                  · subst c8
                    rw [if_pos rfl] at H
                    by_cases k10 : 0 ≤ (wrap64 (x + 1))
                    · rw [if_pos k10] at H
                      by_cases k20 : (wrap64 (x + 1)) < (b.length : Int)
                      · rw [if_pos k20] at H
                        by_cases k30 : 0 ≤ (wrap64 (wrap64 (x + (rd_T51 l0 x).f5) + 1))
                        · rw [if_pos k30] at H
                          by_cases k40 : (wrap64 (wrap64 (x + (rd_T51 l0 x).f5) + 1)) < (b.length : Int)
                          · rw [if_pos k40] at H
                            have H' := Aside0.mk H
                            have m1 := Aside0.mk k10
                            have m2 := Aside0.mk k20
                            have m3 := Aside0.mk k30
                            have m4 := Aside0.mk k40
                            replace k10 := eq_true k10
                            replace k20 := eq_true k20
                            replace k30 := eq_true k30
                            replace k40 := eq_true k40
                            clear H
                            go_wp2_with (first | ((with_reducible refine gate_dst (N := 7) rfl ?_); refine boxq_ (N := 7) (cs := #[.int .i64 0, .int .i64 0, .int .i64 0, .int .i64 0, .int .i64 0, .int .i64 0]) (t := 51) ?_; intro g7 hg w7_ hbox hb; have HK7 := Aside0.mk hb; have GE7 := Aside0.mk (show _ ≤ g7 from Nat.le_of_eq hg.symm); have BK7 := Aside0.mk hbox; clear hb hbox hg; have hcz0 := cq_ BK7.out 0 ((.int .i64 0)); have hcz1 := cq_ BK7.out 1 ((.int .i64 0)); have hcz2 := cq_ BK7.out 2 ((.int .i64 0)); have hcz3 := cq_ BK7.out 3 ((.int .i64 0)); have hcz4 := cq_ BK7.out 4 ((.int .i64 0)); have hcz5 := cq_ BK7.out 5 ((.int .i64 0)); have hfz0 := blk_frozen BK7.out 0; have hfz1 := blk_frozen BK7.out 1; have hfz2 := blk_frozen BK7.out 2; have hfz3 := blk_frozen BK7.out 3; have hfz4 := blk_frozen BK7.out 4; have hfz5 := blk_frozen BK7.out 5) | ((with_reducible refine gate_store (t := 51) (p := 7) rfl ?_); refine store_event (t := 51) (p := 7) (v := ?vo_w8) (w1 := ((((((w7_.setCell ⟨g7, 0, none⟩ (.int .i64 (rd_T51 l0 x).f0)).setCell ⟨g7, 1, none⟩ (.int .i64 (rd_T51 l0 x).f1)).setCell ⟨g7, 2, none⟩ (.int .i64 (rd_T51 l0 x).f2)).setCell ⟨g7, 3, none⟩ (.int .i64 (rd_T51 l0 x).f3)).setCell ⟨g7, 4, none⟩ (.int .i64 (rd_T51 l0 x).f4)).setCell ⟨g7, 5, none⟩ (.int .i64 (rd_T51 l0 x).f5))) ?hg ?ho ?hn ?hr ?_; (case ho => rfl); (case hg => rfl); (case hn => rfl); (case hr => first | (go_simp; done) | (go_simp; rfl)); intro w8 hw; have n0_ := Aside0.mk (show Below _ _ w8 from by rw [hw]; exact below_set (j := 5) (v := (.int .i64 (rd_T51 l0 x).f5)) (below_set (j := 4) (v := (.int .i64 (rd_T51 l0 x).f4)) (below_set (j := 3) (v := (.int .i64 (rd_T51 l0 x).f3)) (below_set (j := 2) (v := (.int .i64 (rd_T51 l0 x).f2)) (below_set (j := 1) (v := (.int .i64 (rd_T51 l0 x).f1)) (below_set (j := 0) (v := (.int .i64 (rd_T51 l0 x).f0)) (HK7.out) GE7.out) GE7.out) GE7.out) GE7.out) GE7.out) GE7.out); have n1_ := Aside0.mk (show w8.heap[g7]? = some (.cells #[.int .i64 (rd_T51 l0 x).f0, .int .i64 (rd_T51 l0 x).f1, .int .i64 (rd_T51 l0 x).f2, .int .i64 (rd_T51 l0 x).f3, .int .i64 (rd_T51 l0 x).f4, .int .i64 (rd_T51 l0 x).f5] 51 (0, 0)) from by rw [hw]; exact blk_put (cs := #[.int .i64 (rd_T51 l0 x).f0, .int .i64 (rd_T51 l0 x).f1, .int .i64 (rd_T51 l0 x).f2, .int .i64 (rd_T51 l0 x).f3, .int .i64 (rd_T51 l0 x).f4, .int .i64 0]) (cs' := #[.int .i64 (rd_T51 l0 x).f0, .int .i64 (rd_T51 l0 x).f1, .int .i64 (rd_T51 l0 x).f2, .int .i64 (rd_T51 l0 x).f3, .int .i64 (rd_T51 l0 x).f4, .int .i64 (rd_T51 l0 x).f5]) (blk_put (cs := #[.int .i64 (rd_T51 l0 x).f0, .int .i64 (rd_T51 l0 x).f1, .int .i64 (rd_T51 l0 x).f2, .int .i64 (rd_T51 l0 x).f3, .int .i64 0, .int .i64 0]) (cs' := #[.int .i64 (rd_T51 l0 x).f0, .int .i64 (rd_T51 l0 x).f1, .int .i64 (rd_T51 l0 x).f2, .int .i64 (rd_T51 l0 x).f3, .int .i64 (rd_T51 l0 x).f4, .int .i64 0]) (blk_put (cs := #[.int .i64 (rd_T51 l0 x).f0, .int .i64 (rd_T51 l0 x).f1, .int .i64 (rd_T51 l0 x).f2, .int .i64 0, .int .i64 0, .int .i64 0]) (cs' := #[.int .i64 (rd_T51 l0 x).f0, .int .i64 (rd_T51 l0 x).f1, .int .i64 (rd_T51 l0 x).f2, .int .i64 (rd_T51 l0 x).f3, .int .i64 0, .int .i64 0]) (blk_put (cs := #[.int .i64 (rd_T51 l0 x).f0, .int .i64 (rd_T51 l0 x).f1, .int .i64 0, .int .i64 0, .int .i64 0, .int .i64 0]) (cs' := #[.int .i64 (rd_T51 l0 x).f0, .int .i64 (rd_T51 l0 x).f1, .int .i64 (rd_T51 l0 x).f2, .int .i64 0, .int .i64 0, .int .i64 0]) (blk_put (cs := #[.int .i64 (rd_T51 l0 x).f0, .int .i64 0, .int .i64 0, .int .i64 0, .int .i64 0, .int .i64 0]) (cs' := #[.int .i64 (rd_T51 l0 x).f0, .int .i64 (rd_T51 l0 x).f1, .int .i64 0, .int .i64 0, .int .i64 0, .int .i64 0]) (blk_put (cs := #[.int .i64 0, .int .i64 0, .int .i64 0, .int .i64 0, .int .i64 0, .int .i64 0]) (cs' := #[.int .i64 (rd_T51 l0 x).f0, .int .i64 0, .int .i64 0, .int .i64 0, .int .i64 0, .int .i64 0]) (BK7.out) 0 (.int .i64 (rd_T51 l0 x).f0) rfl) 1 (.int .i64 (rd_T51 l0 x).f1) rfl) 2 (.int .i64 (rd_T51 l0 x).f2) rfl) 3 (.int .i64 (rd_T51 l0 x).f3) rfl) 4 (.int .i64 (rd_T51 l0 x).f4) rfl) 5 (.int .i64 (rd_T51 l0 x).f5) rfl); have n2_ := Aside0.mk (HS.out.below n0_.out); have n3_ := Aside0.mk (Nat.ne_of_gt (Nat.lt_of_lt_of_le (Kd.R_lt HS.out.2.2.2.1 go rfl) GE7.out)); clear HS BK7 HK7 GE7 n0_ hw hcz0 hfz0 hx0 hcz1 hfz1 hx1 hcz2 hfz2 hx2 hcz3 hfz3 hx3 hcz4 hfz4 hx4 hcz5 hfz5 hx5; have HS := n2_; have BK7 := n1_; have N7 := n3_; clear n1_ n2_ n3_; have hcy := (blk_cell HS.out.1 0).trans rfl; have hcx := (blk_cell HS.out.2.1 0).trans rfl; have hcv0 := (blk_cell BK7.out 0).trans rfl; have hcv1 := (blk_cell BK7.out 1).trans rfl; have hcv2 := (blk_cell BK7.out 2).trans rfl; have hcv3 := (blk_cell BK7.out 3).trans rfl; have hcv4 := (blk_cell BK7.out 4).trans rfl; have hcv5 := (blk_cell BK7.out 5).trans rfl; obtain ⟨ad2, e102, hx⟩ := Kd.at_bool (Kd.R_reads' HS.out.2.2.1).2.2 x p102 q102; cases e102; rw [NH.out] at hx; replace p102 := eq_true p102; replace q102 := eq_true q102) | (go_at_call 56; refine (impl_Step_jumps.calls (rd_T51 l0 x).f0 (rd_T51 l0 x).f1 (rd_T51 l0 x).f2 (rd_T51 l0 x).f3 (rd_T51 l0 x).f4 (rd_T51 l0 x).f5 true _ AJ.out).mono ?_; rintro e w9 ⟨rfl, hb⟩; have n1_ := Aside0.mk (blk_below BK7.out hb); have n2_ := Aside0.mk (HS.out.below hb); clear HS BK7 hb hx hcy hcx hcv0 hcv1 hcv2 hcv3 hcv4 hcv5; have HS := n2_; have BK7 := n1_; clear n1_ n2_; have hcy := (blk_cell HS.out.1 0).trans rfl; have hcx := (blk_cell HS.out.2.1 0).trans rfl; have hcv0 := (blk_cell BK7.out 0).trans rfl; have hcv1 := (blk_cell BK7.out 1).trans rfl; have hcv2 := (blk_cell BK7.out 2).trans rfl; have hcv3 := (blk_cell BK7.out 3).trans rfl; have hcv4 := (blk_cell BK7.out 4).trans rfl; have hcv5 := (blk_cell BK7.out 5).trans rfl))
                            refine start_ (n := 13) (S := fun w' => w'.cell? ⟨g5, 0, none⟩ = some (.slice (some ⟨go, 0, none⟩) b.length cb) ∧ w'.cell? ⟨g7, 5, none⟩ = some (.int .i64 (rd_T51 l0 x).f5)) (ds := [12]) #[false, false, false, false, false, false, false, false, false, false, false, false, false] (by kernel_rfl) rfl rfl ⟨hcx, hcv5⟩ (fun hHeld => ?_)
                            have n2_ := Aside0.mk (HS.out.below (below_drew (Below.refl _ _)))
                            have n1_ := Aside0.mk (blk_drew BK7.out)
                            clear HS BK7 hcy hcx hcv0 hcv1 hcv2 hcv3 hcv4 hcv5
                            have HS := n2_
                            have BK7 := n1_
                            clear n1_ n2_
                            generalize World.drew _ = w11 at HS BK7 hHeld ⊢
                            refine take_ (i := 0) (N := some 33) (v := ?_) (a' := ?_) #[true, false, false, false, false, false, false, false, false, false, false, false, false] rfl rfl (by kernel_rfl) (fun _ _ _ h => h) (Or.inl ⟨by rfl, ?_⟩) hHeld ?_ ?_
                            rotate_left
                            · rintro w' ⟨s0, s1⟩
                              go_simp
                              with_reducible rfl
                            rotate_left
                            · simp only [Act.put, List.setIfInBounds_toArray, List.set_cons_zero, List.set_cons_succ, i64_w, i32_w]
                              rfl
                            refine pure_ (i := 1) (N := some 34) (v := ?_) (a' := ?_) #[true, true, false, false, false, false, false, false, false, false, false, false, false] rfl rfl (by kernel_rfl) (fun _ _ _ h => h) (Or.inl ⟨by rfl, ?_⟩) ?_ ?_
                            rotate_left
                            · intro w'
                              go_simp
                              with_reducible rfl
                            rotate_left
                            · simp only [Act.put, List.setIfInBounds_toArray, List.set_cons_zero, List.set_cons_succ, i64_w, i32_w]
                              rfl
                            refine pure_ (i := 2) (N := some 35) (v := ?_) (a' := ?_) #[true, true, true, false, false, false, false, false, false, false, false, false, false] rfl rfl (by kernel_rfl) (fun _ _ _ h => h) (Or.inl ⟨by rfl, ?_⟩) ?_ ?_
                            rotate_left
                            · intro w'
                              go_simp
                              with_reducible rfl
                            rotate_left
                            · simp only [Act.put, List.setIfInBounds_toArray, List.set_cons_zero, List.set_cons_succ, i64_w, i32_w]
                              rfl
                            refine take_ (i := 3) (N := some 36) (v := ?_) (a' := ?_) #[true, true, true, true, false, false, false, false, false, false, false, false, false] rfl rfl (by kernel_rfl) (fun _ _ _ h => h) (Or.inl ⟨by rfl, ?_⟩) hHeld ?_ ?_
                            rotate_left
                            · rintro w' ⟨s0, s1⟩
                              go_simp
                              with_reducible rfl
                            rotate_left
                            · simp only [Act.put, List.setIfInBounds_toArray, List.set_cons_zero, List.set_cons_succ, i64_w, i32_w]
                              rfl
                            refine pure_ (i := 4) (N := some 37) (v := ?_) (a' := ?_) #[true, true, true, true, true, false, false, false, false, false, false, false, false] rfl rfl (by kernel_rfl) (fun _ _ _ h => h) (Or.inl ⟨by rfl, ?_⟩) ?_ ?_
                            rotate_left
                            · intro w'
                              go_simp
                              with_reducible rfl
                            rotate_left
                            · simp only [Act.put, List.setIfInBounds_toArray, List.set_cons_zero, List.set_cons_succ, i64_w, i32_w]
                              rfl
                            refine pure_ (i := 5) (N := some 38) (v := ?_) (a' := ?_) #[true, true, true, true, true, true, false, false, false, false, false, false, false] rfl rfl (by kernel_rfl) (fun _ _ _ h => h) (Or.inl ⟨by rfl, ?_⟩) ?_ ?_
                            rotate_left
                            · intro w'
                              go_simp
                              with_reducible rfl
                            rotate_left
                            · simp only [Act.put, List.setIfInBounds_toArray, List.set_cons_zero, List.set_cons_succ, i64_w, i32_w]
                              rfl
                            refine take_ (i := 6) (N := some 39) (v := ?_) (a' := ?_) #[true, true, true, true, true, true, true, false, false, false, false, false, false] rfl rfl (by kernel_rfl) (fun _ _ _ h => h) (Or.inl ⟨by rfl, ?_⟩) hHeld ?_ ?_
                            rotate_left
                            · rintro w' ⟨s0, s1⟩
                              go_simp
                              with_reducible rfl
                            rotate_left
                            · simp only [Act.put, List.setIfInBounds_toArray, List.set_cons_zero, List.set_cons_succ, i64_w, i32_w]
                              rfl
                            refine pure_ (i := 7) (N := some 40) (v := ?_) (a' := ?_) #[true, true, true, true, true, true, true, true, false, false, false, false, false] rfl rfl (by kernel_rfl) (fun _ _ _ h => h) (Or.inl ⟨by rfl, ?_⟩) ?_ ?_
                            rotate_left
                            · intro w'
                              go_simp
                              with_reducible rfl
                            rotate_left
                            · simp only [Act.put, List.setIfInBounds_toArray, List.set_cons_zero, List.set_cons_succ, i64_w, i32_w]
                              rfl
                            refine pure_ (i := 8) (N := some 41) (v := ?_) (a' := ?_) #[true, true, true, true, true, true, true, true, true, false, false, false, false] rfl rfl (by kernel_rfl) (fun _ _ _ h => h) (Or.inl ⟨by rfl, ?_⟩) ?_ ?_
                            rotate_left
                            · intro w'
                              go_simp
                              with_reducible rfl
                            rotate_left
                            · simp only [Act.put, List.setIfInBounds_toArray, List.set_cons_zero, List.set_cons_succ, i64_w, i32_w]
                              rfl
                            refine pure_ (i := 9) (N := some 42) (v := ?_) (a' := ?_) #[true, true, true, true, true, true, true, true, true, true, false, false, false] rfl rfl (by kernel_rfl) (fun _ _ _ h => h) (Or.inl ⟨by rfl, ?_⟩) ?_ ?_
                            rotate_left
                            · intro w'
                              go_simp
                              with_reducible rfl
                            rotate_left
                            · simp only [Act.put, List.setIfInBounds_toArray, List.set_cons_zero, List.set_cons_succ, i64_w, i32_w]
                              rfl
                            refine one_ (i := 10) (N := none) #[true, true, true, true, true, true, true, true, true, true, true, false, false] rfl rfl (by kernel_rfl) (by decide) (fun K hK => ?_)
                            obtain ⟨hcg, hfg⟩ := HS.out.cell (wrap64 (x + 1)) m1.out m2.out
                            refine skip_ (w1 := ?_) (by rfl) rfl ?_ ?_
                            rotate_left
                            · go_simp
                              rfl
                            have n2_ := Aside0.mk (HS.out.set (wrap64 (x + 1)))
                            have n1_ := Aside0.mk (blk_far BK7.out (p := ⟨go, (wrap64 (x + 1)).toNat, none⟩) N7.out (.bool true))
                            clear HS BK7 hcg hfg
                            have HS := n2_
                            have BK7 := n1_
                            clear n1_ n2_
                            have hh : (b.set (wrap64 (x + 1)).toNat true).length = b.length := List.length_set ..
                            refine hK.out _ _ ⟨(blk_cell HS.out.2.1 0).trans (by rw [hh]; rfl), (blk_cell BK7.out 5).trans rfl⟩ (fun hHeld2 => ?_)
                            clear hK K hHeld
                            generalize World.setCell _ _ _ = w12 at HS BK7 hHeld2 ⊢
                            refine pure_ (i := 11) (N := some 43) (v := ?_) (a' := ?_) #[true, true, true, true, true, true, true, true, true, true, true, true, false] rfl rfl (by kernel_rfl) (fun _ _ _ h => h) (Or.inl ⟨by rfl, ?_⟩) ?_ ?_
                            rotate_left
                            · intro w'
                              go_simp
                              with_reducible rfl
                            rotate_left
                            · simp only [Act.put, List.setIfInBounds_toArray, List.set_cons_zero, List.set_cons_succ, i64_w, i32_w]
                              rfl
                            refine last_ (i := 12) (N := none) #[true, true, true, true, true, true, true, true, true, true, true, true, true] rfl rfl (by kernel_rfl) (by decide) (fun K hK => ?_)
                            obtain ⟨hcg, hfg⟩ := HS.out.cell (wrap64 (wrap64 (x + (rd_T51 l0 x).f5) + 1)) m3.out (by rw [hh]; exact m4.out)
                            refine skip_ (w1 := ?_) (by rfl) rfl ?_ ?_
                            rotate_left
                            · go_simp
                              rfl
                            refine hK.out _ _ ?_
                            clear hK K
                            refine done_ (by kernel_rfl) ?_
                            have n2_ := Aside0.mk (HS.out.set (wrap64 (wrap64 (x + (rd_T51 l0 x).f5) + 1)))
                            clear HS BK7 hcg hfg hHeld2
                            have HS := n2_
                            clear n2_
                            generalize World.setCell _ _ _ = w13 at HS ⊢
                            go_wp2
                            go_roundg k1
                            case measure => have := HK1.out; omega
                            case rel => exact ⟨_, _, (by first | rfl | (simp; done) | (simp [*]; done)), H', ⟨by have := HK1.out; omega⟩, ⟨by repeat (first | (with_reducible exact HS.out) | exact HS.out.below (by repeat (first | exact Below.refl _ _ | apply below_drew1 | apply below_alloc))) ⟩⟩
                          · rw [if_neg k40] at H; cases H
                        · rw [if_neg k30] at H; cases H
                      · rw [if_neg k20] at H; cases H
                    · rw [if_neg k10] at H; cases H
                  · replace c8 := Bool.eq_false_iff.mpr c8
                    subst c8
                    rw [if_neg (by simp)] at H
                    have H' := Aside0.mk H
                    clear H
                    go_wp2_with (first | ((with_reducible refine gate_dst (N := 7) rfl ?_); refine boxq_ (N := 7) (cs := #[.int .i64 0, .int .i64 0, .int .i64 0, .int .i64 0, .int .i64 0, .int .i64 0]) (t := 51) ?_; intro g7 hg w7_ hbox hb; have HK7 := Aside0.mk hb; have GE7 := Aside0.mk (show _ ≤ g7 from Nat.le_of_eq hg.symm); have BK7 := Aside0.mk hbox; clear hb hbox hg; have hcz0 := cq_ BK7.out 0 ((.int .i64 0)); have hcz1 := cq_ BK7.out 1 ((.int .i64 0)); have hcz2 := cq_ BK7.out 2 ((.int .i64 0)); have hcz3 := cq_ BK7.out 3 ((.int .i64 0)); have hcz4 := cq_ BK7.out 4 ((.int .i64 0)); have hcz5 := cq_ BK7.out 5 ((.int .i64 0)); have hfz0 := blk_frozen BK7.out 0; have hfz1 := blk_frozen BK7.out 1; have hfz2 := blk_frozen BK7.out 2; have hfz3 := blk_frozen BK7.out 3; have hfz4 := blk_frozen BK7.out 4; have hfz5 := blk_frozen BK7.out 5) | ((with_reducible refine gate_store (t := 51) (p := 7) rfl ?_); refine store_event (t := 51) (p := 7) (v := ?vo_w8) (w1 := ((((((w7_.setCell ⟨g7, 0, none⟩ (.int .i64 (rd_T51 l0 x).f0)).setCell ⟨g7, 1, none⟩ (.int .i64 (rd_T51 l0 x).f1)).setCell ⟨g7, 2, none⟩ (.int .i64 (rd_T51 l0 x).f2)).setCell ⟨g7, 3, none⟩ (.int .i64 (rd_T51 l0 x).f3)).setCell ⟨g7, 4, none⟩ (.int .i64 (rd_T51 l0 x).f4)).setCell ⟨g7, 5, none⟩ (.int .i64 (rd_T51 l0 x).f5))) ?hg ?ho ?hn ?hr ?_; (case ho => rfl); (case hg => rfl); (case hn => rfl); (case hr => first | (go_simp; done) | (go_simp; rfl)); intro w8 hw; have n0_ := Aside0.mk (show Below _ _ w8 from by rw [hw]; exact below_set (j := 5) (v := (.int .i64 (rd_T51 l0 x).f5)) (below_set (j := 4) (v := (.int .i64 (rd_T51 l0 x).f4)) (below_set (j := 3) (v := (.int .i64 (rd_T51 l0 x).f3)) (below_set (j := 2) (v := (.int .i64 (rd_T51 l0 x).f2)) (below_set (j := 1) (v := (.int .i64 (rd_T51 l0 x).f1)) (below_set (j := 0) (v := (.int .i64 (rd_T51 l0 x).f0)) (HK7.out) GE7.out) GE7.out) GE7.out) GE7.out) GE7.out) GE7.out); have n1_ := Aside0.mk (show w8.heap[g7]? = some (.cells #[.int .i64 (rd_T51 l0 x).f0, .int .i64 (rd_T51 l0 x).f1, .int .i64 (rd_T51 l0 x).f2, .int .i64 (rd_T51 l0 x).f3, .int .i64 (rd_T51 l0 x).f4, .int .i64 (rd_T51 l0 x).f5] 51 (0, 0)) from by rw [hw]; exact blk_put (cs := #[.int .i64 (rd_T51 l0 x).f0, .int .i64 (rd_T51 l0 x).f1, .int .i64 (rd_T51 l0 x).f2, .int .i64 (rd_T51 l0 x).f3, .int .i64 (rd_T51 l0 x).f4, .int .i64 0]) (cs' := #[.int .i64 (rd_T51 l0 x).f0, .int .i64 (rd_T51 l0 x).f1, .int .i64 (rd_T51 l0 x).f2, .int .i64 (rd_T51 l0 x).f3, .int .i64 (rd_T51 l0 x).f4, .int .i64 (rd_T51 l0 x).f5]) (blk_put (cs := #[.int .i64 (rd_T51 l0 x).f0, .int .i64 (rd_T51 l0 x).f1, .int .i64 (rd_T51 l0 x).f2, .int .i64 (rd_T51 l0 x).f3, .int .i64 0, .int .i64 0]) (cs' := #[.int .i64 (rd_T51 l0 x).f0, .int .i64 (rd_T51 l0 x).f1, .int .i64 (rd_T51 l0 x).f2, .int .i64 (rd_T51 l0 x).f3, .int .i64 (rd_T51 l0 x).f4, .int .i64 0]) (blk_put (cs := #[.int .i64 (rd_T51 l0 x).f0, .int .i64 (rd_T51 l0 x).f1, .int .i64 (rd_T51 l0 x).f2, .int .i64 0, .int .i64 0, .int .i64 0]) (cs' := #[.int .i64 (rd_T51 l0 x).f0, .int .i64 (rd_T51 l0 x).f1, .int .i64 (rd_T51 l0 x).f2, .int .i64 (rd_T51 l0 x).f3, .int .i64 0, .int .i64 0]) (blk_put (cs := #[.int .i64 (rd_T51 l0 x).f0, .int .i64 (rd_T51 l0 x).f1, .int .i64 0, .int .i64 0, .int .i64 0, .int .i64 0]) (cs' := #[.int .i64 (rd_T51 l0 x).f0, .int .i64 (rd_T51 l0 x).f1, .int .i64 (rd_T51 l0 x).f2, .int .i64 0, .int .i64 0, .int .i64 0]) (blk_put (cs := #[.int .i64 (rd_T51 l0 x).f0, .int .i64 0, .int .i64 0, .int .i64 0, .int .i64 0, .int .i64 0]) (cs' := #[.int .i64 (rd_T51 l0 x).f0, .int .i64 (rd_T51 l0 x).f1, .int .i64 0, .int .i64 0, .int .i64 0, .int .i64 0]) (blk_put (cs := #[.int .i64 0, .int .i64 0, .int .i64 0, .int .i64 0, .int .i64 0, .int .i64 0]) (cs' := #[.int .i64 (rd_T51 l0 x).f0, .int .i64 0, .int .i64 0, .int .i64 0, .int .i64 0, .int .i64 0]) (BK7.out) 0 (.int .i64 (rd_T51 l0 x).f0) rfl) 1 (.int .i64 (rd_T51 l0 x).f1) rfl) 2 (.int .i64 (rd_T51 l0 x).f2) rfl) 3 (.int .i64 (rd_T51 l0 x).f3) rfl) 4 (.int .i64 (rd_T51 l0 x).f4) rfl) 5 (.int .i64 (rd_T51 l0 x).f5) rfl); have n2_ := Aside0.mk (HS.out.below n0_.out); have n3_ := Aside0.mk (Nat.ne_of_gt (Nat.lt_of_lt_of_le (Kd.R_lt HS.out.2.2.2.1 go rfl) GE7.out)); clear HS BK7 HK7 GE7 n0_ hw hcz0 hfz0 hx0 hcz1 hfz1 hx1 hcz2 hfz2 hx2 hcz3 hfz3 hx3 hcz4 hfz4 hx4 hcz5 hfz5 hx5; have HS := n2_; have BK7 := n1_; have N7 := n3_; clear n1_ n2_ n3_; have hcy := (blk_cell HS.out.1 0).trans rfl; have hcx := (blk_cell HS.out.2.1 0).trans rfl; have hcv0 := (blk_cell BK7.out 0).trans rfl; have hcv1 := (blk_cell BK7.out 1).trans rfl; have hcv2 := (blk_cell BK7.out 2).trans rfl; have hcv3 := (blk_cell BK7.out 3).trans rfl; have hcv4 := (blk_cell BK7.out 4).trans rfl; have hcv5 := (blk_cell BK7.out 5).trans rfl; obtain ⟨ad2, e102, hx⟩ := Kd.at_bool (Kd.R_reads' HS.out.2.2.1).2.2 x p102 q102; cases e102; rw [NH.out] at hx; replace p102 := eq_true p102; replace q102 := eq_true q102) | (go_at_call 56; refine (impl_Step_jumps.calls (rd_T51 l0 x).f0 (rd_T51 l0 x).f1 (rd_T51 l0 x).f2 (rd_T51 l0 x).f3 (rd_T51 l0 x).f4 (rd_T51 l0 x).f5 false _ AJ.out).mono ?_; rintro e w9 ⟨rfl, hb⟩; have n1_ := Aside0.mk (blk_below BK7.out hb); have n2_ := Aside0.mk (HS.out.below hb); clear HS BK7 hb hx hcy hcx hcv0 hcv1 hcv2 hcv3 hcv4 hcv5; have HS := n2_; have BK7 := n1_; clear n1_ n2_; have hcy := (blk_cell HS.out.1 0).trans rfl; have hcx := (blk_cell HS.out.2.1 0).trans rfl; have hcv0 := (blk_cell BK7.out 0).trans rfl; have hcv1 := (blk_cell BK7.out 1).trans rfl; have hcv2 := (blk_cell BK7.out 2).trans rfl; have hcv3 := (blk_cell BK7.out 3).trans rfl; have hcv4 := (blk_cell BK7.out 4).trans rfl; have hcv5 := (blk_cell BK7.out 5).trans rfl))
                    go_roundg k1
                    case measure => have := HK1.out; omega
                    case rel => exact ⟨_, _, (by first | rfl | (simp; done) | (simp [*]; done)), H', ⟨by have := HK1.out; omega⟩, ⟨by repeat (first | (with_reducible exact HS.out) | exact HS.out.below (by repeat (first | exact Below.refl _ _ | apply below_drew1 | apply below_alloc))) ⟩⟩
                · rw [if_neg c7] at H
                  have NH := Aside0.mk (Bool.eq_false_iff.mpr c7)
                  have H' := Aside0.mk H
                  clear H c7
                  go_wp2_with (first | ((with_reducible refine gate_dst (N := 7) rfl ?_); refine boxq_ (N := 7) (cs := #[.int .i64 0, .int .i64 0, .int .i64 0, .int .i64 0, .int .i64 0, .int .i64 0]) (t := 51) ?_; intro g7 hg w7_ hbox hb; have HK7 := Aside0.mk hb; have GE7 := Aside0.mk (show _ ≤ g7 from Nat.le_of_eq hg.symm); have BK7 := Aside0.mk hbox; clear hb hbox hg; have hcz0 := cq_ BK7.out 0 ((.int .i64 0)); have hcz1 := cq_ BK7.out 1 ((.int .i64 0)); have hcz2 := cq_ BK7.out 2 ((.int .i64 0)); have hcz3 := cq_ BK7.out 3 ((.int .i64 0)); have hcz4 := cq_ BK7.out 4 ((.int .i64 0)); have hcz5 := cq_ BK7.out 5 ((.int .i64 0)); have hfz0 := blk_frozen BK7.out 0; have hfz1 := blk_frozen BK7.out 1; have hfz2 := blk_frozen BK7.out 2; have hfz3 := blk_frozen BK7.out 3; have hfz4 := blk_frozen BK7.out 4; have hfz5 := blk_frozen BK7.out 5) | ((with_reducible refine gate_store (t := 51) (p := 7) rfl ?_); refine store_event (t := 51) (p := 7) (v := ?vo_w8) (w1 := ((((((w7_.setCell ⟨g7, 0, none⟩ (.int .i64 (rd_T51 l0 x).f0)).setCell ⟨g7, 1, none⟩ (.int .i64 (rd_T51 l0 x).f1)).setCell ⟨g7, 2, none⟩ (.int .i64 (rd_T51 l0 x).f2)).setCell ⟨g7, 3, none⟩ (.int .i64 (rd_T51 l0 x).f3)).setCell ⟨g7, 4, none⟩ (.int .i64 (rd_T51 l0 x).f4)).setCell ⟨g7, 5, none⟩ (.int .i64 (rd_T51 l0 x).f5))) ?hg ?ho ?hn ?hr ?_; (case ho => rfl); (case hg => rfl); (case hn => rfl); (case hr => first | (go_simp; done) | (go_simp; rfl)); intro w8 hw; have n0_ := Aside0.mk (show Below _ _ w8 from by rw [hw]; exact below_set (j := 5) (v := (.int .i64 (rd_T51 l0 x).f5)) (below_set (j := 4) (v := (.int .i64 (rd_T51 l0 x).f4)) (below_set (j := 3) (v := (.int .i64 (rd_T51 l0 x).f3)) (below_set (j := 2) (v := (.int .i64 (rd_T51 l0 x).f2)) (below_set (j := 1) (v := (.int .i64 (rd_T51 l0 x).f1)) (below_set (j := 0) (v := (.int .i64 (rd_T51 l0 x).f0)) (HK7.out) GE7.out) GE7.out) GE7.out) GE7.out) GE7.out) GE7.out); have n1_ := Aside0.mk (show w8.heap[g7]? = some (.cells #[.int .i64 (rd_T51 l0 x).f0, .int .i64 (rd_T51 l0 x).f1, .int .i64 (rd_T51 l0 x).f2, .int .i64 (rd_T51 l0 x).f3, .int .i64 (rd_T51 l0 x).f4, .int .i64 (rd_T51 l0 x).f5] 51 (0, 0)) from by rw [hw]; exact blk_put (cs := #[.int .i64 (rd_T51 l0 x).f0, .int .i64 (rd_T51 l0 x).f1, .int .i64 (rd_T51 l0 x).f2, .int .i64 (rd_T51 l0 x).f3, .int .i64 (rd_T51 l0 x).f4, .int .i64 0]) (cs' := #[.int .i64 (rd_T51 l0 x).f0, .int .i64 (rd_T51 l0 x).f1, .int .i64 (rd_T51 l0 x).f2, .int .i64 (rd_T51 l0 x).f3, .int .i64 (rd_T51 l0 x).f4, .int .i64 (rd_T51 l0 x).f5]) (blk_put (cs := #[.int .i64 (rd_T51 l0 x).f0, .int .i64 (rd_T51 l0 x).f1, .int .i64 (rd_T51 l0 x).f2, .int .i64 (rd_T51 l0 x).f3, .int .i64 0, .int .i64 0]) (cs' := #[.int .i64 (rd_T51 l0 x).f0, .int .i64 (rd_T51 l0 x).f1, .int .i64 (rd_T51 l0 x).f2, .int .i64 (rd_T51 l0 x).f3, .int .i64 (rd_T51 l0 x).f4, .int .i64 0]) (blk_put (cs := #[.int .i64 (rd_T51 l0 x).f0, .int .i64 (rd_T51 l0 x).f1, .int .i64 (rd_T51 l0 x).f2, .int .i64 0, .int .i64 0, .int .i64 0]) (cs' := #[.int .i64 (rd_T51 l0 x).f0, .int .i64 (rd_T51 l0 x).f1, .int .i64 (rd_T51 l0 x).f2, .int .i64 (rd_T51 l0 x).f3, .int .i64 0, .int .i64 0]) (blk_put (cs := #[.int .i64 (rd_T51 l0 x).f0, .int .i64 (rd_T51 l0 x).f1, .int .i64 0, .int .i64 0, .int .i64 0, .int .i64 0]) (cs' := #[.int .i64 (rd_T51 l0 x).f0, .int .i64 (rd_T51 l0 x).f1, .int .i64 (rd_T51 l0 x).f2, .int .i64 0, .int .i64 0, .int .i64 0]) (blk_put (cs := #[.int .i64 (rd_T51 l0 x).f0, .int .i64 0, .int .i64 0, .int .i64 0, .int .i64 0, .int .i64 0]) (cs' := #[.int .i64 (rd_T51 l0 x).f0, .int .i64 (rd_T51 l0 x).f1, .int .i64 0, .int .i64 0, .int .i64 0, .int .i64 0]) (blk_put (cs := #[.int .i64 0, .int .i64 0, .int .i64 0, .int .i64 0, .int .i64 0, .int .i64 0]) (cs' := #[.int .i64 (rd_T51 l0 x).f0, .int .i64 0, .int .i64 0, .int .i64 0, .int .i64 0, .int .i64 0]) (BK7.out) 0 (.int .i64 (rd_T51 l0 x).f0) rfl) 1 (.int .i64 (rd_T51 l0 x).f1) rfl) 2 (.int .i64 (rd_T51 l0 x).f2) rfl) 3 (.int .i64 (rd_T51 l0 x).f3) rfl) 4 (.int .i64 (rd_T51 l0 x).f4) rfl) 5 (.int .i64 (rd_T51 l0 x).f5) rfl); have n2_ := Aside0.mk (HS.out.below n0_.out); have n3_ := Aside0.mk (Nat.ne_of_gt (Nat.lt_of_lt_of_le (Kd.R_lt HS.out.2.2.2.1 go rfl) GE7.out)); clear HS BK7 HK7 GE7 n0_ hw hcz0 hfz0 hx0 hcz1 hfz1 hx1 hcz2 hfz2 hx2 hcz3 hfz3 hx3 hcz4 hfz4 hx4 hcz5 hfz5 hx5; have HS := n2_; have BK7 := n1_; have N7 := n3_; clear n1_ n2_ n3_; have hcy := (blk_cell HS.out.1 0).trans rfl; have hcx := (blk_cell HS.out.2.1 0).trans rfl; have hcv0 := (blk_cell BK7.out 0).trans rfl; have hcv1 := (blk_cell BK7.out 1).trans rfl; have hcv2 := (blk_cell BK7.out 2).trans rfl; have hcv3 := (blk_cell BK7.out 3).trans rfl; have hcv4 := (blk_cell BK7.out 4).trans rfl; have hcv5 := (blk_cell BK7.out 5).trans rfl; obtain ⟨ad2, e102, hx⟩ := Kd.at_bool (Kd.R_reads' HS.out.2.2.1).2.2 x p102 q102; cases e102; rw [NH.out] at hx; replace p102 := eq_true p102; replace q102 := eq_true q102))
                  go_roundg k1
                  case measure => have := HK1.out; omega
                  case rel => exact ⟨_, _, (by first | rfl | (simp; done) | (simp [*]; done)), H', ⟨by have := HK1.out; omega⟩, ⟨by repeat (first | (with_reducible exact HS.out) | exact HS.out.below (by repeat (first | exact Below.refl _ _ | apply below_drew1 | apply below_alloc))) ⟩⟩
              · rw [if_neg c6] at H; cases H
            · rw [if_neg c5] at H; cases H
          · rw [if_neg c4] at H
            have c4b0 : decide (x < (l0.length : Int)) = false := decide_eq_false c4
            clear c4
            obtain rfl := Option.some.inj H
            clear H
            have hcz4 := (blk_cell HS.out.1 0).trans rfl
            go_wp2_with (go_at_call 51; refine (impl_LeadersOf.lst_calls k g4 g5 (impl_LeadersOf.pr y b) (l0.length : Int) o _ (fun W z v hbW hv => impl_LeadersOf.pr_calls g4 g5 Ao co y (some ⟨go, 0, none⟩) cb b z v W (HS.out.below hbW).1 (HS.out.below hbW).2.1 (Kd.R_reads' (HS.out.below hbW).2.2.1).2.2 (Kd.R_reads' (HS.out.below hbW).2.2.2.1).2.2 hv) A9.out).mono ?_; rintro e w7 ⟨v1, rfl, ho2, hb⟩; have HO2 := Aside0.mk (Kd.R_lower ho2 (below_size HS.out.2.2.2.2.1)); have HB := Aside0.mk (below_step HS.out.2.2.2.2.1 hb); clear ho2 hb)
            go_ret2
            exact ⟨_, by first | rfl | (simp; done) | (simp [*]; done), rq_ HO2.out, bq_⟩
    · rw [if_neg hl] at H1; cases H1
  · replace c8 := Bool.eq_false_iff.mpr c8
    subst c8
    rw [if_neg (by simp)] at H
    simp only [Option.some.injEq, Prod.mk.injEq] at H
    obtain ⟨rfl, rfl⟩ := H
    go_enter Try.func26, Try.ntmps26
    go_wp2_with (go_at_call 49; refine (impl_GoodProgram.calls k _ _ l0 false _ (Kd.C_below HR0.out (bq_)) HC0.out A7.out).mono ?_; rintro e w3 ⟨rfl, hb⟩; have n0_ := Aside0.mk (below_step (bq_) hb); clear HB hb; have HB := n0_; clear n0_)
    go_ret2
    exact ⟨_, by first | rfl | (simp; done) | (simp [*]; done), Kd.R_nil _ _ _ _ _, bq_⟩
def spec_l11Ahead.l0 : Nat → List (S51) → Int → List Int → List Int → Int → Int → Option (List Int)
  | 0, _, _, _, _, _, _ => none
  | k + 1, x0, x1, x5, x9, x10, x11 => if x11 < x10 then (if 0 ≤ x11 then (if x11 < (x9.length : Int) then ((spec_l2Nexts.f x0 (rd x9 x11)).bind fun t287 => ((spec_l1Has.f k t287 x1).bind fun t290 => (if t290 = true then (if x5.length < 17592186044416 then (spec_l11Ahead.l0 k x0 x1 (x5 ++ [rd x9 x11]) x9 x10 (wrap64 (x11 + 1))) else (none)) else (spec_l11Ahead.l0 k x0 x1 x5 x9 x10 (wrap64 (x11 + 1)))))) else (none)) else (none)) else (some x5)
def spec_l11Ahead.f (k : Nat) (l0 : List (S51)) (a1 : Int) : Option (List Int) := (spec_l11Reached.f k l0 0).bind fun t283 => (spec_l11Ahead.l0 k l0 a1 ([] : List Int) t283 (t283.length : Int) 0)
set_option maxHeartbeats 8000000 in
set_option maxRecDepth 100000 in
theorem spec_l11Ahead.calls (k : Nat) (A0 : Option Addr) (c0 : Nat) (l0 : List (S51)) (a1 : Int) (r : List Int) (w : World) (hr0 : Kd.C k51 w A0 l0.length l0) (hc0 : l0.length ≤ c0) (h : spec_l11Ahead.f k l0 a1 = some r) :
    Calls Try.prog 58 #[.slice A0 l0.length c0, .int .i64 a1] w fun e w' => ∃ v0_ : Value, e = .returned (v0_) ∧ Kd.R (Kd.int .i64) 3 w' w.heap.size (fun _ => True) v0_ r ∧ Below w.heap.size w w' := by
  have HR0 := Aside0.mk hr0
  have HC0 := Aside0.mk hc0
  clear hr0 hc0
  have HB := Aside0.mk (Below.refl w.heap.size w)
  have H : ((spec_l11Reached.f k l0 0).bind fun t283 => (spec_l11Ahead.l0 k l0 a1 ([] : List Int) t283 (t283.length : Int) 0)) = some r := h
  clear h
  replace H := Option.bind_eq_some_iff.mp H
  obtain ⟨t283, A30, H⟩ := H
  replace H : (spec_l11Ahead.l0 k l0 a1 ([] : List Int) t283 (t283.length : Int) 0) = some r := H
  have A3 := Aside0.mk A30
  clear A30
  have H' := Aside0.mk H
  clear H
  go_enter Try.func58, Try.ntmps58
  go_wp2_with (first | ((with_reducible refine gate_callee (f := 48) rfl ?_); refine goesL_ (some 9) rfl rfl Try.func48 (by kernel_rfl) rfl #[.slice A0 l0.length c0, .int .i64 0] rfl (by (try simp only [List.map_toArray, List.map_cons, List.map_nil]); first | done | rfl | (simp only [List.length_drop, List.length_take]; rfl)) ?_; (with_reducible refine (spec_l11Reached.calls k _ _ l0 0 t283 _ ?side1 ?side2 A3.out).mono ?_); (case side1 => repeat (first | exact HR0.out | (with_reducible refine Kd.C_alloc ?_ _) | (with_reducible refine Kd.C_drewN ?_ _) | (with_reducible refine Kd.C_drew ?_))); (case side2 => exact HC0.out); rintro e w4 ⟨v284, rfl, ho0, hb⟩; refine ⟨_, rfl, ?_⟩; have n0_ := Aside0.mk (Kd.R_lower ho0 (below_size (bq_))); have n1_ := Aside0.mk (below_step (bq_) hb); clear HB; have HO285 := n0_; have HB := n1_; clear n0_ n1_; (try clear hb); (try clear hb2); (try clear hk); (try clear hi); (try clear ho0); obtain ⟨Ao5, co5, eo5⟩ := Kd.R_slice HO285.out; subst eo5))
  go_loopg [5, 11] k (fun kq v5 v11 w' => ∃ (x5_1 : List Int) (x11_1 : Int), v11 = .int .i64 x11_1 ∧ Aside0 (spec_l11Ahead.l0 kq l0 a1 x5_1 t283 (t283.length : Int) x11_1 = some r) ∧ Aside0 (kq ≤ k) ∧ Aside0 (Kd.R (Kd.int .i64) 3 w' w.heap.size (fun k_ => some k_ ≠ ((.slice Ao5 t283.length co5) : Value).ownBlock) v5 x5_1) ∧ Aside0 (Kd.R (Kd.int .i64) 3 w' w.heap.size (fun k_ => some k_ ≠ (v5 : Value).ownBlock) (.slice Ao5 t283.length co5) t283) ∧ Aside0 (Below w.heap.size w w'))
  case atStart => exact ⟨(([] : List Int)), (0), (by first | rfl | (simp; done) | (simp [*]; done)), H', ⟨Nat.le_refl _⟩, ⟨by first | exact Kd.R_nil _ _ _ _ _ | exact Kd.N_nil _ _ _ _ _ | exact Kd.V_nil _ _ _ _ _ | exact Kd.Q_nil _ _ _ _ _ | exact Kd.S_nil _ _ _ _ _⟩, ⟨rq_ (Kd.R_mono HO285.out (fun _ hk => (by simp [Value.ownBlock])))⟩, ⟨bq_⟩⟩
  case round =>
    clear H'
    try clear p2
    try clear c4
    try clear c5
    obtain ⟨x5_1, x11_1, rfl, HA, HK1, HO_5, HO_9, HB⟩ := hrel
    cases gk with
    | zero => exact absurd HA.out (by simp [spec_l11Ahead.l0])
    | succ k1 =>
      have H := HA.out
      clear HA
      simp only [spec_l11Ahead.l0] at H
      by_cases c6 : x11_1 < (t283.length : Int)
      · rw [if_pos c6] at H
        have c6b0 : decide (x11_1 < (t283.length : Int)) = true := decide_eq_true c6
        clear c6
        by_cases c7 : 0 ≤ x11_1
        · rw [if_pos c7] at H
          have c7b0 : decide (0 ≤ x11_1) = true := decide_eq_true c7
          clear c7
          by_cases c8 : x11_1 < (t283.length : Int)
          · rw [if_pos c8] at H
            have c8b0 : decide (x11_1 < (t283.length : Int)) = true := decide_eq_true c8
            clear c8
            replace H := Option.bind_eq_some_iff.mp H
            obtain ⟨t287, A90, H⟩ := H
            replace H : ((spec_l1Has.f k1 t287 a1).bind fun t290 => (if t290 = true then (if x5_1.length < 17592186044416 then (spec_l11Ahead.l0 k1 l0 a1 (x5_1 ++ [rd t283 x11_1]) t283 (t283.length : Int) (wrap64 (x11_1 + 1))) else (none)) else (spec_l11Ahead.l0 k1 l0 a1 x5_1 t283 (t283.length : Int) (wrap64 (x11_1 + 1))))) = some r := H
            have A9 := Aside0.mk A90
            clear A90
            replace H := Option.bind_eq_some_iff.mp H
            obtain ⟨t290, A100, H⟩ := H
            replace H : (if t290 = true then (if x5_1.length < 17592186044416 then (spec_l11Ahead.l0 k1 l0 a1 (x5_1 ++ [rd t283 x11_1]) t283 (t283.length : Int) (wrap64 (x11_1 + 1))) else (none)) else (spec_l11Ahead.l0 k1 l0 a1 x5_1 t283 (t283.length : Int) (wrap64 (x11_1 + 1)))) = some r := H
            have A10 := Aside0.mk A100
            clear A100
            by_cases c11 : t290 = true
            · subst c11
              have H1 : (if x5_1.length < 17592186044416 then (spec_l11Ahead.l0 k1 l0 a1 (x5_1 ++ [rd t283 x11_1]) t283 (t283.length : Int) (wrap64 (x11_1 + 1))) else (none)) = some r := by rw [if_pos rfl] at H; exact H
              clear H
              have H := H1
              clear H1
              by_cases c12 : x5_1.length < 17592186044416
              · rw [if_pos c12] at H
                have LMc12 := Aside0.mk c12
                clear c12
                obtain ⟨y291, hy291⟩ : ∃ y_ : List Int, y_ = (x5_1 ++ [rd t283 x11_1]) := ⟨_, rfl⟩
                replace H : (spec_l11Ahead.l0 k1 l0 a1 y291 t283 (t283.length : Int) (wrap64 (x11_1 + 1))) = some r := by first | (rw [hy291]; with_reducible exact H) | (have H2_ := (Option.bind_some _ _).symm.trans H; rw [hy291]; with_reducible exact H2_) | (have H2_ := (Option.bind_some _ _).symm.trans H; with_reducible exact H2_) | with_reducible exact H | (rw [hy291]; exact H) | exact H
                have Ny291 := Aside0.mk hy291
                clear hy291
                have H' := Aside0.mk H
                clear H
                have p286 : 0 ≤ (x11_1 : Int) := of_decide_eq_true (by first | (with_reducible assumption) | assumption)
                have q286 : x11_1 < (t283.length : Int) := of_decide_eq_true (by first | (with_reducible assumption) | assumption)
                obtain ⟨ad286, e286, hx286_0⟩ := Kd.at_int (Kd.R_reads' HO_9.out).2.2 x11_1 p286 q286
                cases e286
                replace p286 := eq_true p286
                replace q286 := eq_true q286
                go_wp2_with (first | ((with_reducible refine gate_callee (f := 42) rfl ?_); refine goesL_ (some 17) rfl rfl Try.func42 (by kernel_rfl) rfl #[.slice A0 l0.length c0, .int .i64 (rd t283 x11_1)] rfl (by (try simp only [List.map_toArray, List.map_cons, List.map_nil]); first | done | rfl | (simp only [List.length_drop, List.length_take]; rfl)) ?_; (with_reducible refine (spec_l2Nexts.calls _ _ l0 (rd t283 x11_1) t287 _ ?side1 ?side2 A9.out).mono ?_); (case side1 => repeat (first | exact (Kd.C_below HR0.out HB.out) | (with_reducible refine Kd.C_alloc ?_ _) | (with_reducible refine Kd.C_drewN ?_ _) | (with_reducible refine Kd.C_drew ?_))); (case side2 => exact HC0.out); rintro e w13 ⟨v288, rfl, ho0, hb⟩; refine ⟨_, rfl, ?_⟩; have n0_ := Aside0.mk (Kd.R_elder' (rq_ HO_5.out) (Kd.R_base ho0) hb); have n1_ := Aside0.mk (Kd.R_elder' (rq_ HO_9.out) (Kd.R_base ho0) hb); have n2_ := Aside0.mk (Kd.R_lower (Kd.R_new' (Kd.R_new' ho0 (Kd.R_lt (rq_ HO_5.out))) (Kd.R_lt (rq_ HO_9.out))) (below_size (bq_))); have n3_ := Aside0.mk (below_step (bq_) hb); clear HO_5; clear HO_9; clear HB; have HO_5 := n0_; have HO_9 := n1_; have HO289 := n2_; have HB := n3_; clear n0_ n1_ n2_ n3_; (try clear hb); (try clear hb2); (try clear hk); (try clear hi); (try clear ho0); obtain ⟨Ao14, co14, eo14⟩ := Kd.R_slice HO289.out; subst eo14) | ((with_reducible refine gate_callee (f := 55) rfl ?_); refine goesL_ (some 19) rfl rfl Try.func55 (by kernel_rfl) rfl #[.slice Ao14 t287.length co14, .int .i64 a1] rfl (by (try simp only [List.map_toArray, List.map_cons, List.map_nil]); first | done | rfl | (simp only [List.length_drop, List.length_take]; rfl)) ?_; (with_reducible refine (spec_l1Has.calls k1 _ _ t287 a1 true _ ?side1 ?side2 A10.out).mono ?_); (case side1 => repeat (first | exact (Kd.R_reads' HO289.out).2.2 | (with_reducible refine Kd.C_alloc ?_ _) | (with_reducible refine Kd.C_drewN ?_ _) | (with_reducible refine Kd.C_drew ?_))); (case side2 => exact (Kd.R_reads' HO289.out).2.1); rintro e w' ⟨rfl, ⟨nd, rfl⟩⟩; refine ⟨_, rfl, ?_⟩) | ((with_reducible refine gate_builtin (b := .append) (xs := #[.tmp 20, .tmp 22]) rfl ?_); at_builtin; refine Kd.R_append (Kd.int .i64) (w0 := w) w.heap.size rfl (.tmp 20) (.tmp 22) 30 3 (.int .i64 0) 8 rfl Try.underlying30 info3 rfl (by decide) (by omega) u5 x5_1 (rd t283 x11_1) [.int .i64 (rd t283 x11_1)] (fun k_ => some k_ ≠ (.slice (some ad286) t283.length co5 : Value).ownBlock ∧ some k_ ≠ (.slice Ao14 t287.length co14 : Value).ownBlock) (fun _ => False) rfl rfl ?aP (fun _ hk => hk.elim) ?aF ?aO ?aB ?aS ?aL ?_; (case aP => exact rfl); (case aB => exact (bq_)); (case aF => exact (fun k_ hk => ⟨Kd.fresh' (Kd.R_lt (rq_ HO_9.out)) k_ hk, Kd.fresh' (Kd.R_lt (rq_ HO289.out)) k_ hk⟩)); (case aO => exact (rq_ HO_5.out)); (case aS => exact (below_size (bq_))); (case aL => have := LMc12.out; omega); intro v292 w15 ho hb hg hat; rw [← Ny291.out] at ho; have n0_ := Aside0.mk (Kd.R_after (ok := (fun k_ => some k_ ≠ (.slice Ao14 t287.length co14 : Value).ownBlock)) (rq_ (Kd.R_mono HO_9.out (fun _ hk => ⟨hk.2, hk.1⟩))) hg hat); have n1_ := Aside0.mk (Kd.R_after (ok := (fun k_ => some k_ ≠ (.slice (some ad286) t283.length co5 : Value).ownBlock)) (rq_ (Kd.R_mono HO289.out (fun _ hk => ⟨hk.2, hk.1.2⟩))) hg hat); have n2_ := Aside0.mk (hb); have n3_ := Aside0.mk (ho); clear HO_9; clear HO289; clear HB; clear HO_5; have HO_9 := n0_; have HO289 := n1_; have HB := n2_; have HO293 := n3_; clear n0_ n1_ n2_ n3_; clear ho hb hg hat))
                go_roundg k1
                case measure => have := HK1.out; omega
                case rel => exact ⟨(y291), (wrap64 (x11_1 + 1)), (by first | rfl | (simp; done) | (simp [*]; done)), H', ⟨by have := HK1.out; omega⟩, ⟨rq_ (Kd.R_mono HO293.out (fun _ hk => hk.1))⟩, ⟨rq_ (Kd.R_mono HO_9.out (fun _ hk => hk.2))⟩, ⟨bq_⟩⟩
              · rw [if_neg c12] at H
                exact absurd H (by simp)
            · replace c11 := Bool.eq_false_iff.mpr c11
              subst c11
              have H1 : (spec_l11Ahead.l0 k1 l0 a1 x5_1 t283 (t283.length : Int) (wrap64 (x11_1 + 1))) = some r := by rw [if_neg (show ¬ (false = true) by decide)] at H; exact H
              clear H
              have H := H1
              clear H1
              have H' := Aside0.mk H
              clear H
              have p286 : 0 ≤ (x11_1 : Int) := of_decide_eq_true (by first | (with_reducible assumption) | assumption)
              have q286 : x11_1 < (t283.length : Int) := of_decide_eq_true (by first | (with_reducible assumption) | assumption)
              obtain ⟨ad286, e286, hx286_0⟩ := Kd.at_int (Kd.R_reads' HO_9.out).2.2 x11_1 p286 q286
              cases e286
              replace p286 := eq_true p286
              replace q286 := eq_true q286
              go_wp2_with (first | ((with_reducible refine gate_callee (f := 42) rfl ?_); refine goesL_ (some 17) rfl rfl Try.func42 (by kernel_rfl) rfl #[.slice A0 l0.length c0, .int .i64 (rd t283 x11_1)] rfl (by (try simp only [List.map_toArray, List.map_cons, List.map_nil]); first | done | rfl | (simp only [List.length_drop, List.length_take]; rfl)) ?_; (with_reducible refine (spec_l2Nexts.calls _ _ l0 (rd t283 x11_1) t287 _ ?side1 ?side2 A9.out).mono ?_); (case side1 => repeat (first | exact (Kd.C_below HR0.out HB.out) | (with_reducible refine Kd.C_alloc ?_ _) | (with_reducible refine Kd.C_drewN ?_ _) | (with_reducible refine Kd.C_drew ?_))); (case side2 => exact HC0.out); rintro e w16 ⟨v288, rfl, ho0, hb⟩; refine ⟨_, rfl, ?_⟩; have n0_ := Aside0.mk (Kd.R_elder' (rq_ HO_5.out) (Kd.R_base ho0) hb); have n1_ := Aside0.mk (Kd.R_elder' (rq_ HO_9.out) (Kd.R_base ho0) hb); have n2_ := Aside0.mk (Kd.R_lower (Kd.R_new' (Kd.R_new' ho0 (Kd.R_lt (rq_ HO_5.out))) (Kd.R_lt (rq_ HO_9.out))) (below_size (bq_))); have n3_ := Aside0.mk (below_step (bq_) hb); clear HO_5; clear HO_9; clear HB; have HO_5 := n0_; have HO_9 := n1_; have HO289 := n2_; have HB := n3_; clear n0_ n1_ n2_ n3_; (try clear hb); (try clear hb2); (try clear hk); (try clear hi); (try clear ho0); obtain ⟨Ao17, co17, eo17⟩ := Kd.R_slice HO289.out; subst eo17) | ((with_reducible refine gate_callee (f := 55) rfl ?_); refine goesL_ (some 19) rfl rfl Try.func55 (by kernel_rfl) rfl #[.slice Ao17 t287.length co17, .int .i64 a1] rfl (by (try simp only [List.map_toArray, List.map_cons, List.map_nil]); first | done | rfl | (simp only [List.length_drop, List.length_take]; rfl)) ?_; (with_reducible refine (spec_l1Has.calls k1 _ _ t287 a1 false _ ?side1 ?side2 A10.out).mono ?_); (case side1 => repeat (first | exact (Kd.R_reads' HO289.out).2.2 | (with_reducible refine Kd.C_alloc ?_ _) | (with_reducible refine Kd.C_drewN ?_ _) | (with_reducible refine Kd.C_drew ?_))); (case side2 => exact (Kd.R_reads' HO289.out).2.1); rintro e w' ⟨rfl, ⟨nd, rfl⟩⟩; refine ⟨_, rfl, ?_⟩))
              go_roundg k1
              case measure => have := HK1.out; omega
              case rel => exact ⟨(x5_1), (wrap64 (x11_1 + 1)), (by first | rfl | (simp; done) | (simp [*]; done)), H', ⟨by have := HK1.out; omega⟩, ⟨rq_ (Kd.R_mono HO_5.out (fun _ hk => hk.1))⟩, ⟨rq_ (Kd.R_mono HO_9.out (fun _ hk => hk.1))⟩, ⟨bq_⟩⟩
          · rw [if_neg c8] at H
            exact absurd H (by simp)
        · rw [if_neg c7] at H
          exact absurd H (by simp)
      · rw [if_neg c6] at H
        have c6b0 : decide (x11_1 < (t283.length : Int)) = false := decide_eq_false c6
        clear c6
        obtain rfl := Option.some.inj H
        go_wp2
        go_ret
        exact ⟨_, by first | rfl | (simp [errW_none, errW_some] <;> rfl) | (simp [*, errW_none, errW_some] <;> rfl), rq_ (Kd.R_mono HO_5.out (fun _ hk => trivial)), bq_⟩
def spec_AheadOf.f (k : Nat) (l0 : List (S51)) (a1 : Int) : Option (List Int × Bool) := (spec_l11There.f k l0 a1).bind fun t294 => (if t294 = true then ((spec_l11Ahead.f k l0 a1).bind fun t295 => (some (t295, true))) else (some (([] : List Int), false)))
set_option maxHeartbeats 8000000 in
set_option maxRecDepth 100000 in
theorem spec_AheadOf.calls (k : Nat) (A0 : Option Addr) (c0 : Nat) (l0 : List (S51)) (a1 : Int) (r1 : List Int) (r2 : Bool) (w : World) (hr0 : Kd.C k51 w A0 l0.length l0) (hc0 : l0.length ≤ c0) (h : spec_AheadOf.f k l0 a1 = some (r1, r2)) :
    Calls Try.prog 27 #[.slice A0 l0.length c0, .int .i64 a1] w fun e w' => ∃ v0_ : Value, e = .returned (.tuple #[v0_, .bool r2]) ∧ Kd.R (Kd.int .i64) 3 w' w.heap.size (fun _ => True) v0_ r1 ∧ Below w.heap.size w w' := by
  have HR0 := Aside0.mk hr0
  have HC0 := Aside0.mk hc0
  clear hr0 hc0
  have HB := Aside0.mk (Below.refl w.heap.size w)
  have H : ((spec_l11There.f k l0 a1).bind fun t294 => (if t294 = true then ((spec_l11Ahead.f k l0 a1).bind fun t295 => (some (t295, true))) else (some (([] : List Int), false)))) = some (r1, r2) := h
  clear h
  replace H := Option.bind_eq_some_iff.mp H
  obtain ⟨t294, A30, H⟩ := H
  replace H : (if t294 = true then ((spec_l11Ahead.f k l0 a1).bind fun t295 => (some (t295, true))) else (some (([] : List Int), false))) = some (r1, r2) := H
  have A3 := Aside0.mk A30
  clear A30
  by_cases c4 : t294 = true
  · subst c4
    have H1 : ((spec_l11Ahead.f k l0 a1).bind fun t295 => (some (t295, true))) = some (r1, r2) := by rw [if_pos rfl] at H; exact H
    clear H
    have H := H1
    clear H1
    replace H := Option.bind_eq_some_iff.mp H
    obtain ⟨t295, A50, H⟩ := H
    replace H : (some (t295, true)) = some (r1, r2) := H
    have A5 := Aside0.mk A50
    clear A50
    simp only [Option.some.injEq, Prod.mk.injEq] at H
    obtain ⟨rfl, rfl⟩ := H
    go_enter Try.func27, Try.ntmps27
    go_wp2_with (first | ((with_reducible refine gate_callee (f := 41) rfl ?_); refine goesL_ (some 8) rfl rfl Try.func41 (by kernel_rfl) rfl #[.slice A0 l0.length c0, .int .i64 a1] rfl (by (try simp only [List.map_toArray, List.map_cons, List.map_nil]); first | done | rfl | (simp only [List.length_drop, List.length_take]; rfl)) ?_; (with_reducible refine (spec_l11There.calls k _ _ l0 a1 true _ ?side1 ?side2 A3.out).mono ?_); (case side1 => repeat (first | exact HR0.out | (with_reducible refine Kd.C_alloc ?_ _) | (with_reducible refine Kd.C_drewN ?_ _) | (with_reducible refine Kd.C_drew ?_))); (case side2 => exact HC0.out); rintro e w6 ⟨rfl, hb⟩; refine ⟨_, rfl, ?_⟩; have n0_ := Aside0.mk (below_step (bq_) hb); clear HB; have HB := n0_; clear n0_; (try clear hb); (try clear hb2); (try clear hk); (try clear hi)) | ((with_reducible refine gate_callee (f := 58) rfl ?_); refine goesL_ (some 12) rfl rfl Try.func58 (by kernel_rfl) rfl #[.slice A0 l0.length c0, .int .i64 a1] rfl (by (try simp only [List.map_toArray, List.map_cons, List.map_nil]); first | done | rfl | (simp only [List.length_drop, List.length_take]; rfl)) ?_; (with_reducible refine (spec_l11Ahead.calls k _ _ l0 a1 t295 _ ?side1 ?side2 A5.out).mono ?_); (case side1 => repeat (first | exact (Kd.C_below HR0.out HB.out) | (with_reducible refine Kd.C_alloc ?_ _) | (with_reducible refine Kd.C_drewN ?_ _) | (with_reducible refine Kd.C_drew ?_))); (case side2 => exact HC0.out); rintro e w7 ⟨v296, rfl, ho0, hb⟩; refine ⟨_, rfl, ?_⟩; have n0_ := Aside0.mk (Kd.R_lower ho0 (below_size (bq_))); have n1_ := Aside0.mk (below_step (bq_) hb); clear HB; have HO297 := n0_; have HB := n1_; clear n0_ n1_; (try clear hb); (try clear hb2); (try clear hk); (try clear hi); (try clear ho0)))
    go_ret2
    exact ⟨_, by first | rfl | (simp [errW_none, errW_some] <;> rfl) | (simp [*, errW_none, errW_some] <;> rfl), rq_ HO297.out, bq_⟩
  · replace c4 := Bool.eq_false_iff.mpr c4
    subst c4
    have H1 : (some (([] : List Int), false)) = some (r1, r2) := by rw [if_neg (show ¬ (false = true) by decide)] at H; exact H
    clear H
    have H := H1
    clear H1
    simp only [Option.some.injEq, Prod.mk.injEq] at H
    obtain ⟨rfl, rfl⟩ := H
    go_enter Try.func27, Try.ntmps27
    go_wp2_with (first | ((with_reducible refine gate_callee (f := 41) rfl ?_); refine goesL_ (some 8) rfl rfl Try.func41 (by kernel_rfl) rfl #[.slice A0 l0.length c0, .int .i64 a1] rfl (by (try simp only [List.map_toArray, List.map_cons, List.map_nil]); first | done | rfl | (simp only [List.length_drop, List.length_take]; rfl)) ?_; (with_reducible refine (spec_l11There.calls k _ _ l0 a1 false _ ?side1 ?side2 A3.out).mono ?_); (case side1 => repeat (first | exact HR0.out | (with_reducible refine Kd.C_alloc ?_ _) | (with_reducible refine Kd.C_drewN ?_ _) | (with_reducible refine Kd.C_drew ?_))); (case side2 => exact HC0.out); rintro e w8 ⟨rfl, hb⟩; refine ⟨_, rfl, ?_⟩; have n0_ := Aside0.mk (below_step (bq_) hb); clear HB; have HB := n0_; clear n0_; (try clear hb); (try clear hb2); (try clear hk); (try clear hi)))
    go_ret2
    exact ⟨_, by first | rfl | (simp [errW_none, errW_some] <;> rfl) | (simp [*, errW_none, errW_some] <;> rfl), by first | exact Kd.R_nil _ _ _ _ _ | exact Kd.N_nil _ _ _ _ _ | exact Kd.V_nil _ _ _ _ _ | exact Kd.Q_nil _ _ _ _ _ | exact Kd.S_nil _ _ _ _ _, bq_⟩
def slices_Index_int_int.l0 : Nat → List Int → Int → Int → Int → Option (Int)
  | 0, _, _, _, _ => none
  | k + 1, x0, x1, x7, x8 => if x8 < x7 then (if 0 ≤ x8 then (if x8 < (x0.length : Int) then (if x1 = (rd x0 x8) then (some x8) else (slices_Index_int_int.l0 k x0 x1 x7 (wrap64 (x8 + 1)))) else (none)) else (none)) else (some (-1))
def slices_Index_int_int.f (k : Nat) (l0 : List Int) (a1 : Int) : Option (Int) := slices_Index_int_int.l0 k l0 a1 (l0.length : Int) 0
set_option maxHeartbeats 8000000 in
set_option maxRecDepth 100000 in
theorem slices_Index_int_int.calls (k : Nat) (A0 : Option Addr) (c0 : Nat) (l0 : List Int) (a1 : Int) (r : Int) (w : World) (hr0 : Kd.C (Kd.int .i64) w A0 l0.length l0) (hc0 : l0.length ≤ c0) (h : slices_Index_int_int.f k l0 a1 = some r) :
    Calls Try.prog 74 #[.slice A0 l0.length c0, .int .i64 a1] w fun e w' => e = .returned (.int .i64 r) ∧ Drawn0 w w' := by
  have HR0 := Aside0.mk hr0
  have HC0 := Aside0.mk hc0
  clear hr0 hc0
  have H : (slices_Index_int_int.l0 k l0 a1 (l0.length : Int) 0) = some r := h
  clear h
  have H' := Aside0.mk H
  clear H
  go_enter Try.func74, Try.ntmps74
  go_wp2
  go_loopg [8] k (fun kq v8 w' => ∃ (x8_1 : Int), v8 = .int .i64 x8_1 ∧ Aside0 (slices_Index_int_int.l0 kq l0 a1 (l0.length : Int) x8_1 = some r) ∧ Aside0 (kq ≤ k) ∧ Drawn0 w w')
  case atStart => exact ⟨(0), (by first | rfl | (simp; done) | (simp [*]; done)), H', ⟨Nat.le_refl _⟩, by repeat (first | exact Drawn0.refl _ | apply Drawn0.step)⟩
  case round =>
    clear H'
    try clear p2
    obtain ⟨x8_1, rfl, HA, HK1, ⟨m1, rfl⟩⟩ := hrel
    cases gk with
    | zero => exact absurd HA.out (by simp [slices_Index_int_int.l0])
    | succ k1 =>
      have H := HA.out
      clear HA
      simp only [slices_Index_int_int.l0] at H
      by_cases c3 : x8_1 < (l0.length : Int)
      · rw [if_pos c3] at H
        have c3b0 : decide (x8_1 < (l0.length : Int)) = true := decide_eq_true c3
        clear c3
        by_cases c4 : 0 ≤ x8_1
        · rw [if_pos c4] at H
          have c4b0 : decide (0 ≤ x8_1) = true := decide_eq_true c4
          clear c4
          by_cases c5 : x8_1 < (l0.length : Int)
          · rw [if_pos c5] at H
            have c5b0 : decide (x8_1 < (l0.length : Int)) = true := decide_eq_true c5
            clear c5
            by_cases c6 : a1 = (rd l0 x8_1)
            · rw [if_pos c6] at H
              have c6b0 : (a1 == (rd l0 x8_1)) = true := beq_iff_eq.mpr c6
              have c6b1 : (a1 != (rd l0 x8_1)) = false := bne_eq_false_iff_eq.mpr c6
              clear c6
              obtain rfl := Option.some.inj H
              have p298 : 0 ≤ (x8_1 : Int) := of_decide_eq_true (by first | (with_reducible assumption) | assumption)
              have q298 : x8_1 < (l0.length : Int) := of_decide_eq_true (by first | (with_reducible assumption) | assumption)
              obtain ⟨ad298, e298, hx298_0⟩ := Kd.at_int HR0.out x8_1 p298 q298
              cases e298
              replace p298 := eq_true p298
              replace q298 := eq_true q298
              go_wp2
              go_ret
              exact ⟨by first | rfl | (simp; done) | (simp [*]; done), by repeat (first | exact Drawn0.refl _ | apply Drawn0.step)⟩
            · rw [if_neg c6] at H
              have c6b0 : (a1 == (rd l0 x8_1)) = false := beq_eq_false_iff_ne.mpr c6
              have c6b1 : (a1 != (rd l0 x8_1)) = true := bne_iff_ne.mpr c6
              have H' := Aside0.mk H
              clear H
              have p298 : 0 ≤ (x8_1 : Int) := of_decide_eq_true (by first | (with_reducible assumption) | assumption)
              have q298 : x8_1 < (l0.length : Int) := of_decide_eq_true (by first | (with_reducible assumption) | assumption)
              obtain ⟨ad298, e298, hx298_0⟩ := Kd.at_int HR0.out x8_1 p298 q298
              cases e298
              replace p298 := eq_true p298
              replace q298 := eq_true q298
              go_wp2
              go_roundg k1
              case measure => have := HK1.out; omega
              case rel => exact ⟨(wrap64 (x8_1 + 1)), (by first | rfl | (simp; done) | (simp [*]; done)), H', ⟨by have := HK1.out; omega⟩, by repeat (first | exact Drawn0.refl _ | apply Drawn0.step)⟩
          · rw [if_neg c5] at H
            exact absurd H (by simp)
        · rw [if_neg c4] at H
          exact absurd H (by simp)
      · rw [if_neg c3] at H
        have c3b0 : decide (x8_1 < (l0.length : Int)) = false := decide_eq_false c3
        clear c3
        obtain rfl := Option.some.inj H
        go_wp2
        go_ret
        exact ⟨by first | rfl | (simp; done) | (simp [*]; done), by repeat (first | exact Drawn0.refl _ | apply Drawn0.step)⟩
def slices_Contains_int_int.f (k : Nat) (l0 : List Int) (a1 : Int) : Option (Bool) := (slices_Index_int_int.f k l0 a1).bind fun t299 => (some (decide (t299 ≥ 0)))
set_option maxHeartbeats 8000000 in
set_option maxRecDepth 100000 in
theorem slices_Contains_int_int.calls (k : Nat) (A0 : Option Addr) (c0 : Nat) (l0 : List Int) (a1 : Int) (r : Bool) (w : World) (hr0 : Kd.C (Kd.int .i64) w A0 l0.length l0) (hc0 : l0.length ≤ c0) (h : slices_Contains_int_int.f k l0 a1 = some r) :
    Calls Try.prog 60 #[.slice A0 l0.length c0, .int .i64 a1] w fun e w' => e = .returned (.bool r) ∧ Drawn0 w w' := by
  have HR0 := Aside0.mk hr0
  have HC0 := Aside0.mk hc0
  clear hr0 hc0
  have H : ((slices_Index_int_int.f k l0 a1).bind fun t299 => (some (decide (t299 ≥ 0)))) = some r := h
  clear h
  replace H := Option.bind_eq_some_iff.mp H
  obtain ⟨t299, A30, H⟩ := H
  replace H : (some (decide (t299 ≥ 0))) = some r := H
  have A3 := Aside0.mk A30
  clear A30
  obtain rfl := Option.some.inj H
  go_enter Try.func60, Try.ntmps60
  go_wp2_with (first | ((with_reducible refine gate_callee (f := 74) rfl ?_); refine goesL_ (some 7) rfl rfl Try.func74 (by kernel_rfl) rfl #[.slice A0 l0.length c0, .int .i64 a1] rfl (by (try simp only [List.map_toArray, List.map_cons, List.map_nil]); first | done | rfl | (simp only [List.length_drop, List.length_take]; rfl)) ?_; (with_reducible refine (slices_Index_int_int.calls k _ _ l0 a1 t299 _ ?side1 ?side2 A3.out).mono ?_); (case side1 => repeat (first | exact HR0.out | (with_reducible refine Kd.C_alloc ?_ _) | (with_reducible refine Kd.C_drewN ?_ _) | (with_reducible refine Kd.C_drew ?_))); (case side2 => exact HC0.out); rintro e w' ⟨rfl, ⟨nd, rfl⟩⟩; refine ⟨_, rfl, ?_⟩))
  go_ret
  exact ⟨by first | rfl | (simp; done) | (simp [*]; done), by repeat (first | exact Drawn0.refl _ | apply Drawn0.step)⟩
end Go.Proofs.Ytcmhkgpalfljbaa.PIC

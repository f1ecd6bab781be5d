-- Made by myprint.py (this session's program, over the kit's print) for this claim. Lean checks it.
import Derived.Test.YtpndhlcbfobelaaPSNx0
import Derived.Test.YtpndhlcbfobelaaPSNx1
import Derived.Test.YtpndhlcbfobelaaPSNx7
namespace Go.Proofs.Ytpndhlcbfobelaa.PSN
open Go.RowKit Go.Proofs.YtpndhlcbfobelaaW.PrintWords Go.Proofs.YtpndhlcbfobelaaW.PrintLast Go.Proofs.YtpndhlcbfobelaaW.PrintMore
attribute [local go_sem] max2_int min2_int max_two min_two max_three min_three max_four min_four   -- for this text's walks alone
set_option linter.unusedVariables false
set_option linter.unusedSimpArgs false

attribute [local go_sem high] eqA75
/-! ### impl_diagram: function 84 -/
def impl_diagram.f (k : Nat) (a0 : Int) (l1 : List Bool) : Option (Int × (List (S75)) × Int) := (impl_Diagram_build.f k 1 l1 []).bind fun x => some (a0, x.2, x.1)
theorem impl_diagram.mono : ∀ a0 a1 k, LeO (impl_diagram.f k a0 a1) (impl_diagram.f (k + 1) a0 a1) := by
  intro a0 a1 k
  unfold impl_diagram.f
  exact LeO.bind (impl_Diagram_build.mono _ _ _ _) (fun _ => LeO.refl _)
set_option maxHeartbeats 8000000 in
set_option maxRecDepth 100000 in
theorem impl_diagram.calls (k : Nat) (a0 : Int) (A1 : Option Addr) (c1 : Nat) (l1 : List Bool) (r1 : Int) (r2 : List (S75)) (r3 : Int) (w : World) (hr1 : Kd.C Kd.bool w A1 l1.length l1) (hc1 : l1.length ≤ c1) (h : impl_diagram.f k a0 l1 = some (r1, r2, r3)) :
    Calls Try.prog 84 #[.int .i64 a0, .slice A1 l1.length c1] w fun e w' => ∃ v1_ : Value, e = .returned (.agg #[.int .i64 r1, v1_, .int .i64 r3]) ∧ Kd.R k75 75 w' w.heap.size (fun _ => True) v1_ r2 ∧ Below w.heap.size w w' := by
  have hu30 := Try.underlying30
  have HR1 := Aside0.mk hr1
  have HC1 := Aside0.mk hc1
  have HB := Aside0.mk (Below.refl w.heap.size w)
  obtain ⟨⟨x, q⟩, A10, H⟩ := Option.bind_eq_some_iff.mp h
  have A1 := Aside0.mk A10
  clear hr1 hc1 A10 h
  simp only [Option.some.injEq, Prod.mk.injEq] at H
  obtain ⟨rfl, rfl, rfl⟩ := H
  go_enter Try.func84, Try.ntmps84
  go_wp2_with (first | ((with_reducible refine gate_dst (N := 4) rfl ?_); refine boxq_ (N := 4) (cs := #[.int .i64 0, .slice none 0 0, .int .i64 0]) (t := 30) ?_; intro g4 hg w3 hbox hb; have n0_ := Aside0.mk (below_step (bq_) hb); have GE4 := Aside0.mk ((by rw [hg]; exact (below_size (bq_))) : w.heap.size ≤ g4); clear HB; have HB := n0_; have BK4 := Aside0.mk hbox; clear n0_ hb hbox hg) | ((with_reducible refine gate_dst (N := 5) rfl ?_); refine boxq_ (N := 5) (cs := #[.int .i64 0, .slice none 0 0, .int .i64 0]) (t := 30) ?_; intro g5 hg w4 hbox hb; have NE := Aside0.mk ((by rw [hg]; exact Nat.ne_of_lt (blk_lt BK4.out)) : g4 ≠ g5); have n0_ := Aside0.mk (below_step (bq_) hb); have n1_ := Aside0.mk (blk_below BK4.out hb); have GE5 := Aside0.mk ((by rw [hg]; exact (below_size (bq_))) : w.heap.size ≤ g5); clear HB BK4; have HB := n0_; have BK4 := n1_; have BK5 := Aside0.mk hbox; clear n0_ n1_ hb hbox hg; have hcz0 := cq_ BK5.out 0 (.int .i64 0); have hcz1 := cq_ BK5.out 1 (.slice none 0 0); have hcz2 := cq_ BK5.out 2 (.int .i64 0); have hfz0 := blk_frozen BK5.out 0; have hfz1 := blk_frozen BK5.out 1; have hfz2 := blk_frozen BK5.out 2) | (go_at_call 100; have n0_ := Aside0.mk (show Below w.heap.size w (((w4.setCell ⟨g5, 0, none⟩ (.int .i64 a0)).setCell ⟨g5, 1, none⟩ (.slice none 0 0)).setCell ⟨g5, 2, none⟩ (.int .i64 0)) from below_set (j := 2) (v := (.int .i64 0)) (below_set (j := 1) (v := (.slice none 0 0)) (below_set (j := 0) (v := (.int .i64 a0)) (HB.out) GE5.out) GE5.out) GE5.out); have n1_ := Aside0.mk (show (((w4.setCell ⟨g5, 0, none⟩ (.int .i64 a0)).setCell ⟨g5, 1, none⟩ (.slice none 0 0)).setCell ⟨g5, 2, none⟩ (.int .i64 0)).heap[g5]? = _ from blk_put (cs := #[.int .i64 a0, .slice none 0 0, .int .i64 0]) (cs' := #[.int .i64 a0, .slice none 0 0, .int .i64 0]) (blk_put (cs := #[.int .i64 a0, .slice none 0 0, .int .i64 0]) (cs' := #[.int .i64 a0, .slice none 0 0, .int .i64 0]) (blk_put (cs := #[.int .i64 0, .slice none 0 0, .int .i64 0]) (cs' := #[.int .i64 a0, .slice none 0 0, .int .i64 0]) (BK5.out) 0 (.int .i64 a0) rfl) 1 (.slice none 0 0) rfl) 2 (.int .i64 0) rfl); have n2_ := Aside0.mk (show (((w4.setCell ⟨g5, 0, none⟩ (.int .i64 a0)).setCell ⟨g5, 1, none⟩ (.slice none 0 0)).setCell ⟨g5, 2, none⟩ (.int .i64 0)).heap[g4]? = _ from blk_far (blk_far (blk_far (BK4.out) (p := ⟨g5, 0, none⟩) (show g4 ≠ g5 from NE.out) (.int .i64 a0)) (p := ⟨g5, 1, none⟩) (show g4 ≠ g5 from NE.out) (.slice none 0 0)) (p := ⟨g5, 2, none⟩) (show g4 ≠ g5 from NE.out) (.int .i64 0)); generalize (((w4.setCell ⟨g5, 0, none⟩ (.int .i64 a0)).setCell ⟨g5, 1, none⟩ (.slice none 0 0)).setCell ⟨g5, 2, none⟩ (.int .i64 0)) = W1 at n0_ n1_ n2_ ⊢; clear HB BK4 BK5 hcz0 hcz1 hcz2 hfz0 hfz1 hfz2; refine (impl_Diagram_build.callsR k g5 a0 0 (.slice none 0 0) [] q 1 _ _ l1 x _ w.heap.size GE5.out n1_.out (Kd.R_nil _ _ _ _ _) (Kd.C_below HR1.out n0_.out) HC1.out A1.out).mono ?_; rintro e w5 ⟨rfl, V1, hbk, hv, hk, hat, hbl⟩; have BK4 := Aside0.mk (hk.blk n2_.out NE.out (by simp [Value.ownBlock])); have BK5 := Aside0.mk hbk; have HV := Aside0.mk hv; have NV := Aside0.mk (show V1.ownBlock ≠ some g4 from impl_Diagram_build.away (by simp [Value.ownBlock]) hat (blk_lt n2_.out)); have HB := Aside0.mk (n0_.out.trans hbl); clear n0_ n1_ n2_ hbk hv hk hat hbl; obtain ⟨Av, cv, ev⟩ := Kd.R_slice HV.out; subst ev; have hcz0 := cq_ BK5.out 0 (.int .i64 a0); have hcz1 := cq_ BK5.out 1 (.slice Av q.length cv); have hcz2 := cq_ BK5.out 2 (.int .i64 0); have hfz0 := blk_frozen BK5.out 0; have hfz1 := blk_frozen BK5.out 1; have hfz2 := blk_frozen BK5.out 2; have hcy0 := cq_ BK4.out 0 (.int .i64 0); have hcy1 := cq_ BK4.out 1 (.slice none 0 0); have hcy2 := cq_ BK4.out 2 (.int .i64 0); have hfy0 := blk_frozen BK4.out 0; have hfy1 := blk_frozen BK4.out 1; have hfy2 := blk_frozen BK4.out 2; have hnb := NE.out; have hnc := Ne.symm NE.out))
  refine bodyPost_ret (results_cell_row rfl _ _ g4 30 #[.int .i64 a0, (.slice Av q.length cv), .int .i64 x] (0, 0) _ rfl (blk_put (cs := #[.int .i64 a0, (.slice Av q.length cv), .int .i64 0]) (cs' := #[.int .i64 a0, (.slice Av q.length cv), .int .i64 x]) (blk_put (cs := #[.int .i64 a0, .slice none 0 0, .int .i64 0]) (cs' := #[.int .i64 a0, (.slice Av q.length cv), .int .i64 0]) (blk_put (cs := #[.int .i64 0, .slice none 0 0, .int .i64 0]) (cs' := #[.int .i64 a0, .slice none 0 0, .int .i64 0]) (blk_far BK4.out (p := ⟨g5, 2, none⟩) (show g4 ≠ g5 from NE.out) (.int .i64 x)) 0 (.int .i64 a0) rfl) 1 ((.slice Av q.length cv)) rfl) 2 (.int .i64 x) rfl) Try.underlying30 rfl (by kernel_rfl)) rfl ?_
  exact ⟨_, by first | rfl | (simp; done) | (simp [*]; done), Kd.R_mono (Kd.R_far (p := ⟨g4, 2, none⟩) (Kd.R_far (p := ⟨g4, 1, none⟩) (Kd.R_far (p := ⟨g4, 0, none⟩) (Kd.R_far (p := ⟨g5, 2, none⟩) (impl_Diagram_build.flat HV.out (ok' := fun k => k ≠ g5 ∧ k ≠ g4) (fun k hk h => ⟨h, fun he => NV.out (by rw [hk, he])⟩)) (fun k h => h.1) (.int .i64 x)) (fun k h => h.2) (.int .i64 a0)) (fun k h => h.2) ((.slice Av q.length cv))) (fun k h => h.2) (.int .i64 x)) (fun _ _ => trivial), below_set (j := 2) (v := (.int .i64 x)) (below_set (j := 1) (v := ((.slice Av q.length cv))) (below_set (j := 0) (v := (.int .i64 a0)) (below_set (j := 2) (v := (.int .i64 x)) HB.out GE5.out) GE4.out) GE4.out) GE4.out⟩

/-! ### impl_Node_85: function 85 -/
def impl_Node_85.l0 : Nat → List (S75) → List (S75) → Int → Int → Option (Bool)
  | 0, _, _, _, _ => none
  | k + 1, x0, x1, x12, x13 => if x13 < x12 then (if 0 ≤ x13 then (if x13 < (x0.length : Int) then (if x13 < (x1.length : Int) then (if (!(((rd_T75 x0 x13).f0) == ((rd_T75 x1 x13).f0)) || (!(((rd_T75 x0 x13).f1) == ((rd_T75 x1 x13).f1)) || (!(((rd_T75 x0 x13).f2) == ((rd_T75 x1 x13).f2))))) = true then (some false) else (impl_Node_85.l0 k x0 x1 x12 (wrap64 (x13 + 1)))) else (none)) else (none)) else (none)) else (some true)
def impl_Node_85.f (k : Nat) (l0 : List (S75)) (l1 : List (S75)) : Option (Bool) := if (l0.length : Int) = (l1.length : Int) then (impl_Node_85.l0 k l0 l1 (l0.length : Int) 0) else (some false)
theorem impl_Node_85.mono_l : ∀ k, (∀ y0 y1 y2 y3, LeO (impl_Node_85.l0 k y0 y1 y2 y3) (impl_Node_85.l0 (k + 1) y0 y1 y2 y3))
  | 0 => fun _ _ _ _ r h => by simp [impl_Node_85.l0] at h
  | k + 1 => by
    have ih0 := impl_Node_85.mono_l k
    · intro y0 y1 y2 y3
      unfold impl_Node_85.l0
      repeat' first
      | (with_reducible exact ih0 _ _ _ _)
      | (with_reducible exact LeO.refl _)
      | (with_reducible exact LeO.none _)
      | (with_reducible refine LeO.ite ?_ ?_)
      | (with_reducible refine LeO.bind ?_ (fun _ => ?_))
      | exact ih0 _ _ _ _
      | exact LeO.none _
      | refine LeO.ite ?_ ?_
      | refine LeO.bind ?_ (fun _ => ?_)
theorem impl_Node_85.mono : ∀ a0 a1 k, LeO (impl_Node_85.f k a0 a1) (impl_Node_85.f (k + 1) a0 a1) := by
  intro a0 a1 k
  have ih0 := impl_Node_85.mono_l k
  unfold impl_Node_85.f
  repeat' first
      | (with_reducible exact ih0 _ _ _ _)
      | (with_reducible exact LeO.refl _)
      | (with_reducible exact LeO.none _)
      | (with_reducible refine LeO.ite ?_ ?_)
      | (with_reducible refine LeO.bind ?_ (fun _ => ?_))
      | exact ih0 _ _ _ _
      | exact LeO.none _
      | refine LeO.ite ?_ ?_
      | refine LeO.bind ?_ (fun _ => ?_)
set_option maxHeartbeats 8000000 in
set_option maxRecDepth 100000 in
theorem impl_Node_85.calls (k : Nat) (A0 : Option Addr) (c0 : Nat) (l0 : List (S75)) (A1 : Option Addr) (c1 : Nat) (l1 : List (S75)) (r : Bool) (w : World) (hr0 : Kd.C k75 w A0 l0.length l0) (hc0 : l0.length ≤ c0) (hr1 : Kd.C k75 w A1 l1.length l1) (hc1 : l1.length ≤ c1) (h : impl_Node_85.f k l0 l1 = some r) :
    Calls Try.prog 85 #[.slice A0 l0.length c0, .slice A1 l1.length c1] w fun e w' => e = .returned (.bool r) ∧ Drawn0 w w' := by
  have hu75 := Try.underlying75
  have HR0 := Aside0.mk hr0
  have HC0 := Aside0.mk hc0
  clear hr0 hc0
  have HR1 := Aside0.mk hr1
  have HC1 := Aside0.mk hc1
  clear hr1 hc1
  have H : (if (l0.length : Int) = (l1.length : Int) then (impl_Node_85.l0 k l0 l1 (l0.length : Int) 0) else (some false)) = some r := h
  clear h
  by_cases c3 : (l0.length : Int) = (l1.length : Int)
  · rw [if_pos c3] at H
    have c3b0 : ((l0.length : Int) == (l1.length : Int)) = true := beq_iff_eq.mpr c3
    have c3b1 : ((l0.length : Int) != (l1.length : Int)) = false := bne_eq_false_iff_eq.mpr c3
    have c3b2 : (l0.length == l1.length) = true := by first | simpa using c3 | (simp at c3 ⊢; omega)
    clear c3
    have H' := Aside0.mk H
    clear H
    go_enter Try.func85, Try.ntmps85
    go_wp2
    repeat (go_quiet (fail); try go_wp2)
    go_loopg [13] k (fun kq v13 w' => ∃ (x13_1 : Int), v13 = .int .i64 x13_1 ∧ Aside0 (impl_Node_85.l0 kq l0 l1 (l0.length : Int) x13_1 = some r) ∧ Aside0 (kq ≤ k) ∧ Drawn0 w w')
    case atStart => exact ⟨(0), (by first | rfl | (simp; done) | (simp [*]; done)), H', ⟨Nat.le_refl _⟩, by repeat (first | exact Drawn0.refl _ | apply Drawn0.step)⟩
    case round =>
      clear H'
      try clear c1
      try clear p2
      try clear c3
      try clear c3b0
      try clear c3b1
      try clear c3b2
      obtain ⟨x13_1, rfl, HA, HK1, ⟨m1, rfl⟩⟩ := hrel
      cases gk with
      | zero => exact absurd HA.out (by simp [impl_Node_85.l0])
      | succ k1 =>
        have H := HA.out
        clear HA
        simp only [impl_Node_85.l0] at H
        by_cases c4 : x13_1 < (l0.length : Int)
        · rw [if_pos c4] at H
          have c4b0 : decide (x13_1 < (l0.length : Int)) = true := decide_eq_true c4
          clear c4
          by_cases c5 : 0 ≤ x13_1
          · rw [if_pos c5] at H
            have c5b0 : decide (0 ≤ x13_1) = true := decide_eq_true c5
            clear c5
            by_cases c6 : x13_1 < (l0.length : Int)
            · rw [if_pos c6] at H
              have c6b0 : decide (x13_1 < (l0.length : Int)) = true := decide_eq_true c6
              clear c6
              by_cases c7 : x13_1 < (l1.length : Int)
              · rw [if_pos c7] at H
                have c7b0 : decide (x13_1 < (l1.length : Int)) = true := decide_eq_true c7
                clear c7
                by_cases c8 : (!(((rd_T75 l0 x13_1).f0) == ((rd_T75 l1 x13_1).f0)) || (!(((rd_T75 l0 x13_1).f1) == ((rd_T75 l1 x13_1).f1)) || (!(((rd_T75 l0 x13_1).f2) == ((rd_T75 l1 x13_1).f2))))) = true
                · rw [if_pos c8] at H
                  have c8b0 : (!(((rd_T75 l0 x13_1).f0) == ((rd_T75 l1 x13_1).f0)) || (!(((rd_T75 l0 x13_1).f1) == ((rd_T75 l1 x13_1).f1)) || (!(((rd_T75 l0 x13_1).f2) == ((rd_T75 l1 x13_1).f2))))) = true := c8
                  clear c8
                  obtain rfl := Option.some.inj H
                  have p208 : 0 ≤ (x13_1 : Int) := of_decide_eq_true (by first | (with_reducible assumption) | assumption)
                  have q208 : x13_1 < (l0.length : Int) := of_decide_eq_true (by first | (with_reducible assumption) | assumption)
                  obtain ⟨ad208, e208, hx208_0, hx208_1, hx208_2⟩ := at_T75 HR0.out x13_1 p208 q208
                  cases e208
                  replace p208 := eq_true p208
                  replace q208 := eq_true q208
                  have p209 : 0 ≤ (x13_1 : Int) := of_decide_eq_true (by first | (with_reducible assumption) | assumption)
                  have q209 : x13_1 < (l1.length : Int) := of_decide_eq_true (by first | (with_reducible assumption) | assumption)
                  obtain ⟨ad209, e209, hx209_0, hx209_1, hx209_2⟩ := at_T75 HR1.out x13_1 p209 q209
                  cases e209
                  replace p209 := eq_true p209
                  replace q209 := eq_true q209
                  go_wp2
                  repeat (go_quiet (fail); try go_wp2)
                  go_ret
                  exact ⟨by first | rfl | (simp; done) | (simp [*]; done), by repeat (first | exact Drawn0.refl _ | apply Drawn0.step)⟩
                · rw [if_neg c8] at H
                  have c8b0 : (!(((rd_T75 l0 x13_1).f0) == ((rd_T75 l1 x13_1).f0)) || (!(((rd_T75 l0 x13_1).f1) == ((rd_T75 l1 x13_1).f1)) || (!(((rd_T75 l0 x13_1).f2) == ((rd_T75 l1 x13_1).f2))))) = false := by simpa using c8
                  clear c8
                  have H' := Aside0.mk H
                  clear H
                  have p208 : 0 ≤ (x13_1 : Int) := of_decide_eq_true (by first | (with_reducible assumption) | assumption)
                  have q208 : x13_1 < (l0.length : Int) := of_decide_eq_true (by first | (with_reducible assumption) | assumption)
                  obtain ⟨ad208, e208, hx208_0, hx208_1, hx208_2⟩ := at_T75 HR0.out x13_1 p208 q208
                  cases e208
                  replace p208 := eq_true p208
                  replace q208 := eq_true q208
                  have p209 : 0 ≤ (x13_1 : Int) := of_decide_eq_true (by first | (with_reducible assumption) | assumption)
                  have q209 : x13_1 < (l1.length : Int) := of_decide_eq_true (by first | (with_reducible assumption) | assumption)
                  obtain ⟨ad209, e209, hx209_0, hx209_1, hx209_2⟩ := at_T75 HR1.out x13_1 p209 q209
                  cases e209
                  replace p209 := eq_true p209
                  replace q209 := eq_true q209
                  go_wp2
                  repeat (go_quiet (fail); try go_wp2)
                  go_roundg k1
                  case measure => have := HK1.out; omega
                  case rel => exact ⟨(wrap64 (x13_1 + 1)), (by first | rfl | (simp; done) | (simp [*]; done)), H', ⟨by have := HK1.out; omega⟩, by repeat (first | exact Drawn0.refl _ | apply Drawn0.step)⟩
              · rw [if_neg c7] at H
                exact absurd H (by simp)
            · rw [if_neg c6] at H
              exact absurd H (by simp)
          · rw [if_neg c5] at H
            exact absurd H (by simp)
        · rw [if_neg c4] at H
          have c4b0 : decide (x13_1 < (l0.length : Int)) = false := decide_eq_false c4
          clear c4
          obtain rfl := Option.some.inj H
          go_wp2
          repeat (go_quiet (fail); try go_wp2)
          go_ret
          exact ⟨by first | rfl | (simp; done) | (simp [*]; done), by repeat (first | exact Drawn0.refl _ | apply Drawn0.step)⟩
  · rw [if_neg c3] at H
    have c3b0 : ((l0.length : Int) == (l1.length : Int)) = false := beq_eq_false_iff_ne.mpr c3
    have c3b1 : ((l0.length : Int) != (l1.length : Int)) = true := bne_iff_ne.mpr c3
    have c3b2 : (l0.length == l1.length) = false := by first | simpa using c3 | (simp at c3 ⊢; omega)
    obtain rfl := Option.some.inj H
    go_enter Try.func85, Try.ntmps85
    go_wp2
    repeat (go_quiet (fail); try go_wp2)
    go_ret
    exact ⟨by first | rfl | (simp; done) | (simp [*]; done), by repeat (first | exact Drawn0.refl _ | apply Drawn0.step)⟩

end Go.Proofs.Ytpndhlcbfobelaa.PSN

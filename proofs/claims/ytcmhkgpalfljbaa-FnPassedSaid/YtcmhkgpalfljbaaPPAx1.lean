import Derived.Test.YtcmhkgpalfljbaaPPAx0
namespace Go.Proofs.Ytcmhkgpalfljbaa.PPA
open Go.RowKit Go.Proofs.YtcmhkgpalfljbaaW.PrintWords Go.Proofs.YtcmhkgpalfljbaaW.PrintLast Go.Proofs.YtcmhkgpalfljbaaW.PrintMore
attribute [local go_sem] max2_int min2_int max_two min_two max_three min_three max_four min_four   -- for this text's walks alone
set_option linter.unusedVariables false
set_option linter.unusedSimpArgs false
def spec_l1In.f (a0 : Int) (a1 : Int) (a2 : Int) : Option (Bool) := if a0 ≥ a1 then (some (decide (a0 ≤ a2))) else (some false)
set_option maxHeartbeats 8000000 in
set_option maxRecDepth 100000 in
theorem spec_l1In.calls (a0 : Int) (a1 : Int) (a2 : Int) (r : Bool) (w : World) (h : spec_l1In.f a0 a1 a2 = some r) :
  Calls Try.prog 72 #[.int .i64 a0, .int .i64 a1, .int .i64 a2] w fun e w' => e = .returned (.bool r) ∧ Drawn0 w w' := by
 have H : (if a0 ≥ a1 then (some (decide (a0 ≤ a2))) else (some false)) = some r := h
 clear h
 by_cases c4 : a0 ≥ a1
 ·rw [if_pos c4] at H
  have c4b0 : decide (a1 ≤ a0) = true := decide_eq_true c4
  clear c4
  obtain rfl := Option.some.inj H
  go_enter Try.func72, Try.ntmps72
  go_wp2
  go_ret
  exact ⟨by first | rfl | (simp; done) | (simp [*]; done), by repeat (first | exact Drawn0.refl _ | apply Drawn0.step)⟩
 ·rw [if_neg c4] at H
  have c4b0 : decide (a1 ≤ a0) = false := decide_eq_false c4
  clear c4
  obtain rfl := Option.some.inj H
  go_enter Try.func72, Try.ntmps72
  go_wp2
  go_ret
  exact ⟨by first | rfl | (simp; done) | (simp [*]; done), by repeat (first | exact Drawn0.refl _ | apply Drawn0.step)⟩
def spec_l2Reg.f (a0 : Int) : Option (Bool) := (spec_l1In.f a0 0 5).bind fun t101 => (some t101)
set_option maxHeartbeats 8000000 in
set_option maxRecDepth 100000 in
theorem spec_l2Reg.calls (a0 : Int) (r : Bool) (w : World) (h : spec_l2Reg.f a0 = some r) :
  Calls Try.prog 84 #[.int .i64 a0] w fun e w' => e = .returned (.bool r) ∧ Drawn0 w w' := by
 have H : ((spec_l1In.f a0 0 5).bind fun t101 => (some t101)) = some r := h
 clear h
 replace H := Option.bind_eq_some_iff.mp H
 obtain ⟨t101, A20, H⟩ := H
 replace H : (some t101) = some r := H
 have A2 := am_ A20
 clear A20
 obtain rfl := Option.some.inj H
 go_enter Try.func84, Try.ntmps84
 go_wp2_with (first | ((with_reducible refine gl_ 72 rfl ?_); refine goesM_ (some 4) Try.func72 #[.int .i64 a0, .int .i64 0, .int .i64 5] ?_; (with_reducible refine (spec_l1In.calls a0 0 5 t101 _ A2.out).mono ?_); rintro e w' ⟨rfl, ⟨nd, rfl⟩⟩; refine ⟨_, rfl, ?_⟩))
 go_ret
 exact ⟨by first | rfl | (simp; done) | (simp [*]; done), by repeat (first | exact Drawn0.refl _ | apply Drawn0.step)⟩
def spec_l2Zero.f (a0_0 : Int) (a0_1 : Int) (a0_2 : Int) (a0_3 : Int) (a0_4 : Int) (a0_5 : Int) (a1 : Bool) (a2 : Bool) (a3 : Bool) (a4 : Bool) (a5 : Bool) : Option (Bool) := some ((a1 || a0_1 == 0) && (a2 || a0_2 == 0) && (a3 || a0_3 == 0) && (a4 || a0_4 == 0) && (a5 || a0_5 == 0))
theorem spec_l2Zero.key (a : Bool) (x : Int) : a = true ∨ (a = false ∧ (x == 0) = true ∧ (x != 0) = false) ∨ (a = false ∧ (x == 0) = false ∧ (x != 0) = true) := by
 cases a
 ·by_cases h : x = 0
  ·exact .inr (.inl ⟨rfl, beq_iff_eq.mpr h, bne_eq_false_iff_eq.mpr h⟩)
  ·exact .inr (.inr ⟨rfl, beq_eq_false_iff_ne.mpr h, bne_iff_ne.mpr h⟩)
 ·exact .inl rfl
set_option maxHeartbeats 8000000 in
set_option maxRecDepth 100000 in
theorem spec_l2Zero.calls (a0_0 : Int) (a0_1 : Int) (a0_2 : Int) (a0_3 : Int) (a0_4 : Int) (a0_5 : Int) (a1 : Bool) (a2 : Bool) (a3 : Bool) (a4 : Bool) (a5 : Bool) (r : Bool) (w : World) (h : spec_l2Zero.f a0_0 a0_1 a0_2 a0_3 a0_4 a0_5 a1 a2 a3 a4 a5 = some r) :
  Calls Try.prog 85 #[.agg #[.int .i64 a0_0, .int .i64 a0_1, .int .i64 a0_2, .int .i64 a0_3, .int .i64 a0_4, .int .i64 a0_5], .bool a1, .bool a2, .bool a3, .bool a4, .bool a5] w fun e w' => e = .returned (.bool r) ∧ Below w.heap.size w w' := by
 have hu51 := Try.underlying51
 have HB := am_ (Below.refl w.heap.size w)
 unfold spec_l2Zero.f at h
 replace h := Option.some.inj h
 rcases spec_l2Zero.key a1 a0_1 with rfl | ⟨rfl, c1, d1⟩ | ⟨rfl, c1, d1⟩
 all_goals first | (have z_ : (a0_1 == 0) = false := by assumption; clear z_) | rcases spec_l2Zero.key a2 a0_2 with rfl | ⟨rfl, c2, d2⟩ | ⟨rfl, c2, d2⟩
 all_goals first | (have z_ : (a0_1 == 0) = false := by assumption; clear z_) | (have z_ : (a0_2 == 0) = false := by assumption; clear z_) | rcases spec_l2Zero.key a3 a0_3 with rfl | ⟨rfl, c3, d3⟩ | ⟨rfl, c3, d3⟩
 all_goals first | (have z_ : (a0_1 == 0) = false := by assumption; clear z_) | (have z_ : (a0_2 == 0) = false := by assumption; clear z_) | (have z_ : (a0_3 == 0) = false := by assumption; clear z_) | rcases spec_l2Zero.key a4 a0_4 with rfl | ⟨rfl, c4, d4⟩ | ⟨rfl, c4, d4⟩
 all_goals first | (have z_ : (a0_1 == 0) = false := by assumption; clear z_) | (have z_ : (a0_2 == 0) = false := by assumption; clear z_) | (have z_ : (a0_3 == 0) = false := by assumption; clear z_) | (have z_ : (a0_4 == 0) = false := by assumption; clear z_) | cases a5
 all_goals
  simp only [*, Bool.true_or, Bool.false_or, Bool.true_and, Bool.and_true, Bool.false_and] at h
  subst h
  go_enter Try.func85, Try.ntmps85
  go_wp2_with (first | ((with_reducible refine gate_dst (N := 6) rfl ?_); refine boxq_ (N := 6) (cs := #[.int .i64 a0_0, .int .i64 a0_1, .int .i64 a0_2, .int .i64 a0_3, .int .i64 a0_4, .int .i64 a0_5]) (t := 51) ?_; intro gb131 hg w13 hbox hb; replace HB := bs_ hb; have BK131 := am_ (hbox); clear hb hbox hg; have hcz14_0 := cq_ BK131.out 0 (.int .i64 a0_0); have hcz14_1 := cq_ BK131.out 1 (.int .i64 a0_1); have hcz14_2 := cq_ BK131.out 2 (.int .i64 a0_2); have hcz14_3 := cq_ BK131.out 3 (.int .i64 a0_3); have hcz14_4 := cq_ BK131.out 4 (.int .i64 a0_4); have hcz14_5 := cq_ BK131.out 5 (.int .i64 a0_5)))
  go_ret
  exact ⟨by first | rfl | (simp; done) | (simp [*]; done), bq_⟩
end Go.Proofs.Ytcmhkgpalfljbaa.PPA

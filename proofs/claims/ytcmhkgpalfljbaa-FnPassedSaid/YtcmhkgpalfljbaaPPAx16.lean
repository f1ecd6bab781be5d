import Derived.Test.YtcmhkgpalfljbaaPPAx0
import Derived.Test.YtcmhkgpalfljbaaPPAx5
import Derived.Test.YtcmhkgpalfljbaaPPAx11
import Derived.Test.YtcmhkgpalfljbaaPPAx13
import Derived.Test.YtcmhkgpalfljbaaPPAx15
namespace Go.Proofs.Ytcmhkgpalfljbaa.PPA
open Go.RowKit Go.Proofs.YtcmhkgpalfljbaaW.PrintWords Go.Proofs.YtcmhkgpalfljbaaW.PrintLast Go.Proofs.YtcmhkgpalfljbaaW.PrintMore
attribute [local go_sem] max2_int min2_int max_two min_two max_three min_three max_four min_four   -- for this text's walks alone
set_option linter.unusedVariables false
set_option linter.unusedSimpArgs false
def impl_TraceOf.f (k : Nat) (l0 : List (S51)) (l1 : List Int) : Option (List Int × Int × Bool) := (impl_GoodProgram.f k l0).bind fun t482 => (if t482 = true then ((impl_isContext.f k l1).bind fun t483 => (if t483 = true then ((impl_run.f k l0 l1 100).bind fun bt484 => (some (bt484.2.2.2, bt484.2.1, true))) else (some (([] : List Int), 0, false)))) else (some (([] : List Int), 0, false)))
set_option maxHeartbeats 8000000 in
set_option maxRecDepth 100000 in
theorem impl_TraceOf.calls (k : Nat) (A0 : Option Addr) (c0 : Nat) (l0 : List (S51)) (A1 : Option Addr) (c1 : Nat) (l1 : List Int) (r1 : List Int) (r2 : Int) (r3 : Bool) (w : World) (hr0 : Kd.C k51 w A0 l0.length l0) (hc0 : l0.length ≤ c0) (hr1 : Kd.C (Kd.int .i64) w A1 l1.length l1) (hc1 : l1.length ≤ c1) (h : impl_TraceOf.f k l0 l1 = some (r1, r2, r3)) :
  Calls Try.prog 39 #[.slice A0 l0.length c0, .slice A1 l1.length c1] w fun e w' => ∃ v0_ : Value, e = .returned (.tuple #[v0_, .int .i64 r2, .bool r3]) ∧ Kd.R (Kd.int .i64) 3 w' w.heap.size (fun _ => True) v0_ r1 ∧ Below w.heap.size w w' := by
 have HR0 := am_ hr0
 have HC0 := am_ hc0
 clear hr0 hc0
 have HR1 := am_ hr1
 have HC1 := am_ hc1
 clear hr1 hc1
 have HB := am_ (Below.refl w.heap.size w)
 have H : ((impl_GoodProgram.f k l0).bind fun t482 => (if t482 = true then ((impl_isContext.f k l1).bind fun t483 => (if t483 = true then ((impl_run.f k l0 l1 100).bind fun bt484 => (some (bt484.2.2.2, bt484.2.1, true))) else (some (([] : List Int), 0, false)))) else (some (([] : List Int), 0, false)))) = some (r1, r2, r3) := h
 clear h
 replace H := Option.bind_eq_some_iff.mp H
 obtain ⟨t482, A30, H⟩ := H
 replace H : (if t482 = true then ((impl_isContext.f k l1).bind fun t483 => (if t483 = true then ((impl_run.f k l0 l1 100).bind fun bt484 => (some (bt484.2.2.2, bt484.2.1, true))) else (some (([] : List Int), 0, false)))) else (some (([] : List Int), 0, false))) = some (r1, r2, r3) := H
 have A3 := am_ A30
 clear A30
 by_cases c4 : t482 = true
 ·subst c4
  have H1 : ((impl_isContext.f k l1).bind fun t483 => (if t483 = true then ((impl_run.f k l0 l1 100).bind fun bt484 => (some (bt484.2.2.2, bt484.2.1, true))) else (some (([] : List Int), 0, false)))) = some (r1, r2, r3) := by rw [if_pos rfl] at H; exact H
  clear H
  have H := H1
  clear H1
  replace H := Option.bind_eq_some_iff.mp H
  obtain ⟨t483, A50, H⟩ := H
  replace H : (if t483 = true then ((impl_run.f k l0 l1 100).bind fun bt484 => (some (bt484.2.2.2, bt484.2.1, true))) else (some (([] : List Int), 0, false))) = some (r1, r2, r3) := H
  have A5 := am_ A50
  clear A50
  by_cases c6 : t483 = true
  ·subst c6
   have H1 : ((impl_run.f k l0 l1 100).bind fun bt484 => (some (bt484.2.2.2, bt484.2.1, true))) = some (r1, r2, r3) := by rw [if_pos rfl] at H; exact H
   clear H
   have H := H1
   clear H1
   replace H := Option.bind_eq_some_iff.mp H
   obtain ⟨⟨t484, t485, t486, t487⟩, A70, H⟩ := H
   replace H : (some (t487, t485, true)) = some (r1, r2, r3) := H
   have A7 := am_ A70
   clear A70
   simp only [Option.some.injEq, Prod.mk.injEq] at H
   obtain ⟨rfl, rfl, rfl⟩ := H
   go_enter Try.func39, Try.ntmps39
   go_wp2_with (first | ((with_reducible refine gl_ 49 rfl ?_); refine goesM_ (some 12) Try.func49 #[.slice A0 l0.length c0] ?_; (with_reducible refine (impl_GoodProgram.calls k _ _ l0 true _ ?side1 ?side2 A3.out).mono ?_); (case side1 => exact cm_ HR0.out); (case side2 => exact HC0.out); rintro e w8 ⟨rfl, hb⟩; refine ⟨_, rfl, ?_⟩; replace HB := bs_ hb; (try clear hb)) | (go_at_call 68; (with_reducible refine (impl_isContext.calls k _ _ l1 true _ ?side1 ?side2 A5.out).mono ?_); (case side1 => exact cm_ (Kd.C_below HR1.out HB.out)); (case side2 => exact HC1.out); rintro e w' ⟨rfl, ⟨nd, rfl⟩⟩) | ((with_reducible refine gl_ 69 rfl ?_); refine goesM_ (some 22) Try.func69 #[.slice A0 l0.length c0, .slice A1 l1.length c1, .int .i64 100] ?_; (with_reducible refine (impl_run.calls k _ _ l0 _ _ l1 100 t484 t485 t486 t487 _ ?side1 ?side2 ?side3 ?side4 A7.out).mono ?_); (case side1 => exact cm_ (Kd.C_below HR0.out (bq_))); (case side2 => exact HC0.out); (case side3 => exact cm_ (Kd.C_below HR1.out (bq_))); (case side4 => exact HC1.out); rintro e w9 ⟨v488, rfl, ho0, hb⟩; refine ⟨_, rfl, ?_⟩; have HO489 := am_ (Kd.R_lower ho0 (below_size (bq_))); replace HB := bs_ hb; (try clear hb); (try clear ho0)))
   go_ret3
   exact ⟨_, by first | rfl | (simp [errW_none, errW_some] <;> rfl) | (simp [*, errW_none, errW_some] <;> rfl), rq_ HO489.out, bq_⟩
  ·replace c6 := Bool.eq_false_iff.mpr c6
   subst c6
   have H1 : (some (([] : List Int), 0, false)) = some (r1, r2, r3) := by rw [if_neg (show ¬ (false = true) by decide)] at H; exact H
   clear H
   have H := H1
   clear H1
   simp only [Option.some.injEq, Prod.mk.injEq] at H
   obtain ⟨rfl, rfl, rfl⟩ := H
   go_enter Try.func39, Try.ntmps39
   go_wp2_with (first | ((with_reducible refine gl_ 49 rfl ?_); refine goesM_ (some 12) Try.func49 #[.slice A0 l0.length c0] ?_; (with_reducible refine (impl_GoodProgram.calls k _ _ l0 true _ ?side1 ?side2 A3.out).mono ?_); (case side1 => exact cm_ HR0.out); (case side2 => exact HC0.out); rintro e w10 ⟨rfl, hb⟩; refine ⟨_, rfl, ?_⟩; replace HB := bs_ hb; (try clear hb)) | (go_at_call 68; (with_reducible refine (impl_isContext.calls k _ _ l1 false _ ?side1 ?side2 A5.out).mono ?_); (case side1 => exact cm_ (Kd.C_below HR1.out HB.out)); (case side2 => exact HC1.out); rintro e w' ⟨rfl, ⟨nd, rfl⟩⟩))
   go_ret3
   exact ⟨_, by first | rfl | (simp [errW_none, errW_some] <;> rfl) | (simp [*, errW_none, errW_some] <;> rfl), by first | exact Kd.R_nil _ _ _ _ _ | exact Kd.N_nil _ _ _ _ _ | exact Kd.V_nil _ _ _ _ _ | exact Kd.Q_nil _ _ _ _ _ | exact Kd.S_nil _ _ _ _ _, bq_⟩
 ·replace c4 := Bool.eq_false_iff.mpr c4
  subst c4
  have H1 : (some (([] : List Int), 0, false)) = some (r1, r2, r3) := by rw [if_neg (show ¬ (false = true) by decide)] at H; exact H
  clear H
  have H := H1
  clear H1
  simp only [Option.some.injEq, Prod.mk.injEq] at H
  obtain ⟨rfl, rfl, rfl⟩ := H
  go_enter Try.func39, Try.ntmps39
  go_wp2_with (first | ((with_reducible refine gl_ 49 rfl ?_); refine goesM_ (some 12) Try.func49 #[.slice A0 l0.length c0] ?_; (with_reducible refine (impl_GoodProgram.calls k _ _ l0 false _ ?side1 ?side2 A3.out).mono ?_); (case side1 => exact cm_ HR0.out); (case side2 => exact HC0.out); rintro e w11 ⟨rfl, hb⟩; refine ⟨_, rfl, ?_⟩; replace HB := bs_ hb; (try clear hb)))
  go_ret3
  exact ⟨_, by first | rfl | (simp [errW_none, errW_some] <;> rfl) | (simp [*, errW_none, errW_some] <;> rfl), by first | exact Kd.R_nil _ _ _ _ _ | exact Kd.N_nil _ _ _ _ _ | exact Kd.V_nil _ _ _ _ _ | exact Kd.Q_nil _ _ _ _ _ | exact Kd.S_nil _ _ _ _ _, bq_⟩
def spec_DrawNextsOf.f (k : Nat) (l0 : List Int) : Option ((List (S51)) × Int) := (spec_l1Cur_program.f k l0 0 0).bind fun bt491 => ((spec_l1Cur_pick.f l0 bt491.2.1 bt491.2.2 (wrap64 ((bt491.1.length : Int) + 2))).bind fun bt496 => (some (bt491.1, wrap64 (bt496.1 - 1))))
set_option maxHeartbeats 8000000 in
set_option maxRecDepth 100000 in
theorem spec_DrawNextsOf.calls (k : Nat) (A0 : Option Addr) (c0 : Nat) (l0 : List Int) (r1 : List (S51)) (r2 : Int) (w : World) (hr0 : Kd.C (Kd.int .u8) w A0 l0.length l0) (hc0 : l0.length ≤ c0) (h : spec_DrawNextsOf.f k l0 = some (r1, r2)) :
  Calls Try.prog 64 #[.slice A0 l0.length c0] w fun e w' => ∃ v0_ : Value, e = .returned (.tuple #[v0_, .int .i64 r2]) ∧ Kd.R k51 51 w' w.heap.size (fun _ => True) v0_ r1 ∧ Below w.heap.size w w' := by
 have hu68 := Try.underlying68
 have HR0 := am_ hr0
 have HC0 := am_ hc0
 clear hr0 hc0
 have HB := am_ (Below.refl w.heap.size w)
 have H : ((spec_l1Cur_program.f k l0 0 0).bind fun bt491 => ((spec_l1Cur_pick.f l0 bt491.2.1 bt491.2.2 (wrap64 ((bt491.1.length : Int) + 2))).bind fun bt496 => (some (bt491.1, wrap64 (bt496.1 - 1))))) = some (r1, r2) := h
 clear h
 replace H := Option.bind_eq_some_iff.mp H
 obtain ⟨⟨t491, t494, t495⟩, A20, H⟩ := H
 replace H : ((spec_l1Cur_pick.f l0 t494 t495 (wrap64 ((t491.length : Int) + 2))).bind fun bt496 => (some (t491, wrap64 (bt496.1 - 1)))) = some (r1, r2) := H
 have A2 := am_ A20
 clear A20
 replace H := Option.bind_eq_some_iff.mp H
 obtain ⟨⟨t496, t497, t498⟩, A30, H⟩ := H
 replace H : (some (t491, wrap64 (t496 - 1))) = some (r1, r2) := H
 have A3 := am_ A30
 clear A30
 simp only [Option.some.injEq, Prod.mk.injEq] at H
 obtain ⟨rfl, rfl⟩ := H
 go_enter Try.func64, Try.ntmps64
 go_wp2_with (first | ((with_reducible refine gate_dst (N := 8) rfl ?_); refine boxq_ (N := 8) (cs := #[.slice A0 l0.length c0, .int .i64 0, .int .u64 0]) (t := 68) ?_; intro gb490 hg w4 hbox hb; have HI490 := am_ ((show IsS68 w w4 gb490 l0 0 0 from ⟨_, _, hbox, y16_, HR0.out⟩)); replace HB := bs_ hb; clear hb hbox hg) | ((with_reducible refine gl_ 66 rfl ?_); refine goesM_ (some 10) Try.func66 #[.pointer (some ⟨gb490, 0, none⟩)] ?_; (with_reducible refine (spec_l1Cur_program.calls k gb490 l0 0 0 t491 t494 t495 w _ ?side1 ?side2 A2.out).mono ?_); (case side1 => repeat (first | (with_reducible first | exact HI490.out | apply IsS68.alloc | apply IsS68.drewN | apply IsS68.drew | apply IsS68.set_1 | apply IsS68.set_2) | exact HI490.out)); (case side2 => repeat (first | (with_reducible first | exact HB.out | apply below_alloc | apply pw_below_drewN | apply below_drew1 | refine below_set ?_ (IsS68.ge HI490.out)) | exact HB.out)); rintro e w5 ⟨v492, rfl, ho0, hi, hb, hk⟩; refine ⟨_, rfl, ?_⟩; have HO493 := am_ (Kd.R_lower ho0 (below_size (by repeat (first | (with_reducible first | exact HB.out | apply below_alloc | apply pw_below_drewN | apply below_drew1 | refine below_set ?_ (IsS68.ge HI490.out)) | exact HB.out)))); replace HB := am_ (hb); replace HI490 := am_ (hi); (try clear hb); (try clear hk); (try clear hi); (try clear ho0); obtain ⟨Ao6, co6, eo6⟩ := Kd.R_slice HO493.out; subst eo6) | ((with_reducible refine gl_ 76 rfl ?_); refine goesM_ (some 16) Try.func76 #[.pointer (some ⟨gb490, 0, none⟩), .int .i64 (wrap64 ((t491.length : Int) + 2))] ?_; (with_reducible refine (spec_l1Cur_pick.calls gb490 l0 t494 t495 (wrap64 ((t491.length : Int) + 2)) t496 t497 t498 w _ ?side1 ?side2 A3.out).mono ?_); (case side1 => repeat (first | (with_reducible first | exact HI490.out | apply IsS68.alloc | apply IsS68.drewN | apply IsS68.drew | apply IsS68.set_1 | apply IsS68.set_2) | exact HI490.out)); (case side2 => repeat (first | (with_reducible first | exact HB.out | apply below_alloc | apply pw_below_drewN | apply below_drew1 | refine below_set ?_ (IsS68.ge HI490.out)) | exact HB.out)); rintro e w7 ⟨rfl, hi, hb, hk⟩; refine ⟨_, rfl, ?_⟩; replace HO493 := am_ (Kd.R_mono (Kd.R_keep (IsS68.apart (show IsS68 w _ gb490 l0 t494 t495 from by repeat (first | (with_reducible first | exact HI490.out | apply IsS68.alloc | apply IsS68.drewN | apply IsS68.drew | apply IsS68.set_1 | apply IsS68.set_2) | exact HI490.out)) (rq_ HO493.out) (by decide)) hk (fun _ h => h.2)) (fun _ h => h.1)); replace HB := am_ (hb); replace HI490 := am_ (hi); (try clear hb); (try clear hk); (try clear hi)))
 go_ret2
 exact ⟨_, by first | rfl | (simp [errW_none, errW_some] <;> rfl) | (simp [*, errW_none, errW_some] <;> rfl), rq_ HO493.out, by repeat (first | (with_reducible first | exact HB.out | apply below_alloc | apply pw_below_drewN | apply below_drew1 | refine below_set ?_ (IsS68.ge HI490.out)) | exact HB.out)⟩
def spec_DrawMustPass.f (k : Nat) (l0 : List Int) : Option ((List (S51)) × Int) := (spec_DrawNextsOf.f k l0).bind fun bt499 => (some (bt499.1, bt499.2))
set_option maxHeartbeats 8000000 in
set_option maxRecDepth 100000 in
theorem spec_DrawMustPass.calls (k : Nat) (A0 : Option Addr) (c0 : Nat) (l0 : List Int) (r1 : List (S51)) (r2 : Int) (w : World) (hr0 : Kd.C (Kd.int .u8) w A0 l0.length l0) (hc0 : l0.length ≤ c0) (h : spec_DrawMustPass.f k l0 = some (r1, r2)) :
  Calls Try.prog 40 #[.slice A0 l0.length c0] w fun e w' => ∃ v0_ : Value, e = .returned (.tuple #[v0_, .int .i64 r2]) ∧ Kd.R k51 51 w' w.heap.size (fun _ => True) v0_ r1 ∧ Below w.heap.size w w' := by
 have HR0 := am_ hr0
 have HC0 := am_ hc0
 clear hr0 hc0
 have HB := am_ (Below.refl w.heap.size w)
 have H : ((spec_DrawNextsOf.f k l0).bind fun bt499 => (some (bt499.1, bt499.2))) = some (r1, r2) := h
 clear h
 replace H := Option.bind_eq_some_iff.mp H
 obtain ⟨⟨t499, t500⟩, A20, H⟩ := H
 replace H : (some (t499, t500)) = some (r1, r2) := H
 have A2 := am_ A20
 clear A20
 simp only [Option.some.injEq, Prod.mk.injEq] at H
 obtain ⟨rfl, rfl⟩ := H
 go_enter Try.func40, Try.ntmps40
 go_wp2_with (first | ((with_reducible refine gl_ 64 rfl ?_); refine goesM_ (some 5) Try.func64 #[.slice A0 l0.length c0] ?_; (with_reducible refine (spec_DrawNextsOf.calls k _ _ l0 t499 t500 _ ?side1 ?side2 A2.out).mono ?_); (case side1 => exact cm_ HR0.out); (case side2 => exact HC0.out); rintro e w3 ⟨v501, rfl, ho0, hb⟩; refine ⟨_, rfl, ?_⟩; have HO502 := am_ (Kd.R_lower ho0 (below_size (bq_))); replace HB := bs_ hb; (try clear hb); (try clear ho0)))
 go_ret2
 exact ⟨_, by first | rfl | (simp [errW_none, errW_some] <;> rfl) | (simp [*, errW_none, errW_some] <;> rfl), rq_ HO502.out, bq_⟩
end Go.Proofs.Ytcmhkgpalfljbaa.PPA

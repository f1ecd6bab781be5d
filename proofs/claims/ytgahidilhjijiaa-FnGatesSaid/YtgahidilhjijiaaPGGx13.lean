import Derived.Test.YtgahidilhjijiaaPGGx0
import Derived.Test.YtgahidilhjijiaaPGGx2
import Derived.Test.YtgahidilhjijiaaPGGx4
import Derived.Test.YtgahidilhjijiaaPGGx5
import Derived.Test.YtgahidilhjijiaaPGGx6
import Derived.Test.YtgahidilhjijiaaPGGx7
import Derived.Test.YtgahidilhjijiaaPGGx8
import Derived.Test.YtgahidilhjijiaaPGGx9
import Derived.Test.YtgahidilhjijiaaPGGx10
import Derived.Test.YtgahidilhjijiaaPGGx11
import Derived.Test.YtgahidilhjijiaaPGGx12
namespace Go.Proofs.Ytgahidilhjijiaa.PGG
open Go.RowKit Go.Proofs.YtgahidilhjijiaaW.PrintWords Go.Proofs.YtgahidilhjijiaaW.PrintLast Go.Proofs.YtgahidilhjijiaaW.PrintMore
attribute [local go_sem] max2_int min2_int max_two min_two max_three min_three max_four min_four   -- for this text's walks alone
set_option linter.unusedVariables false
set_option linter.unusedSimpArgs false
mutual
def laws_FnGates.j0 : Nat → List Int → List (S69) → List Bool → List Bool → Bool → Bool → Option (Bool)
 | 0, _, _, _, _, _, _ => none
 | k + 1, x1, x5, x6, x7, x8, x75 => if x75 = true then (some false) else (if x8 = true then ((impl_InputsOf.f k x5).bind fun bt559 => (laws_FnGates.l0 k x1 x5 x6 x7 ([] : List (List Int)) bt559.1 bt559.2 (x5.length : Int) 0)) else (laws_FnGates.j4 k x1))
def laws_FnGates.j4 : Nat → List Int → Option (Bool)
 | 0, _ => none
 | k + 1, x1 => (spec_DrawGateClauses.f k x1).bind fun bt601 => ((impl_GateClauses.f k bt601.1 bt601.2).bind fun bt605 => ((spec_GateClauses.f k bt601.1 bt601.2).bind fun bt609 => ((spec_DrawInputsBy.f k x1).bind fun bt613 => ((impl_InputsBy.f k bt613.1 bt613.2).bind fun bt619 => ((spec_InputsBy.f k bt613.1 bt613.2).bind fun bt623 => (if (bt605.2 == bt609.2) = true then ((laws_sameRows.f k bt605.1 bt609.1).bind fun t627 => (if t627 = true then (if (bt619.2 == bt623.2) = true then ((laws_sameBools.f k bt619.1 bt623.1).bind fun t628 => (some t628)) else (some false)) else (some false))) else (some false)))))))
def laws_FnGates.l0 : Nat → List Int → List (S69) → List Bool → List Bool → List (List Int) → List Int → Bool → Int → Int → Option (Bool)
 | 0, _, _, _, _, _, _, _, _, _ => none
 | k + 1, x1, x5, x6, x7, x11, x13, x14, x83, x84 => if x84 < x83 then ((impl_GateClauses.f k x5 x84).bind fun bt563 => (if bt563.2 = true then (if x11.length + bt563.1.length < 5864062014805 then (laws_FnGates.l0 k x1 x5 x6 x7 (x11 ++ bt563.1) x13 x14 x83 (wrap64 (x84 + 1))) else (none)) else (some false))) else (laws_FnGates.l1 k x1 x5 x6 x7 x11 ([] : List Int) x14 x13 (x13.length : Int) 0)
def laws_FnGates.l1 : Nat → List Int → List (S69) → List Bool → List Bool → List (List Int) → List Int → Bool → List Int → Int → Int → Option (Bool)
 | 0, _, _, _, _, _, _, _, _, _, _ => none
 | k + 1, x1, x5, x6, x7, x11, x12, x14, x99, x100, x101 => if x101 < x100 then (if 0 ≤ x101 then (if x101 < (x99.length : Int) then (if x101 < (x6.length : Int) then (if rdOf false x6 x101 = true then (if x12.length < 17592186044416 then (laws_FnGates.l1 k x1 x5 x6 x7 x11 (x12 ++ [wrap64 ((rd x99 x101) + 1)]) x14 x99 x100 (wrap64 (x101 + 1))) else (none)) else (if x12.length < 17592186044416 then (laws_FnGates.l1 k x1 x5 x6 x7 x11 (x12 ++ [wrap64 ((wrap64 (-(rd x99 x101))) - 1)]) x14 x99 x100 (wrap64 (x101 + 1))) else (none))) else (none)) else (none)) else (none)) else ((impl_Propagate.f k (x5.length : Int) x11 x12).bind fun bt578 => (if x14 = true then (if bt578.2.2 = true then (if bt578.2.1 = true then (laws_FnGates.j3 k x1 x5 true) else (if (bt578.1.length : Int) = (x5.length : Int) then ((laws_allIn.f k bt578.1 x7).bind fun t583 => (laws_FnGates.j3 k x1 x5 (!t583))) else (laws_FnGates.j3 k x1 x5 true))) else (laws_FnGates.j3 k x1 x5 true)) else (laws_FnGates.j3 k x1 x5 true)))
def laws_FnGates.j3 : Nat → List Int → List (S69) → Bool → Option (Bool)
 | 0, _, _, _ => none
 | k + 1, x1, x5, x152 => if x152 = true then (some false) else ((impl_ClausesOf.f k x5).bind fun bt584 => ((impl_CanBe.f k x5).bind fun bt588 => ((impl_Solve.f k (x5.length : Int) bt584.1).bind fun bt593 => (if bt584.2 = true then (if bt588.2.2 = true then (if bt593.2.2.2 = true then (if (bt593.1 != bt588.1) = true then (some false) else (laws_FnGates.j4 k x1)) else (laws_FnGates.j4 k x1)) else (some false)) else (some false)))))
end
def laws_FnGates.f (k : Nat) (l0 : List Int) (l1 : List Int) : Option (Bool) := if (wrap64 ((l0.length : Int) + (l1.length : Int))) > 1048576 then (some true) else ((spec_DrawEvalGates.f k l0).bind fun bt544 => ((impl_EvalGates.f k bt544.1 bt544.2).bind fun bt550 => ((spec_EvalGates.f k bt544.1 bt544.2).bind fun bt554 => (if (bt550.2 != bt554.2) = true then (laws_FnGates.j0 k l1 bt544.1 bt544.2 bt550.1 bt550.2 true) else ((laws_sameBools.f k bt550.1 bt554.1).bind fun t558 => (laws_FnGates.j0 k l1 bt544.1 bt544.2 bt550.1 bt550.2 (!t558)))))))
theorem laws_FnGates.j0_no_5 {k : Nat} {y0 : List Int} {y1 : List (S69)} {y2 : List Bool} {y3 : List Bool} {y4 : Bool} (h : laws_FnGates.j0 k y0 y1 y2 y3 y4 true = some true) : False := by
 cases k <;> simp [laws_FnGates.j0] at h
theorem laws_FnGates.j3_no_2 {k : Nat} {y0 : List Int} {y1 : List (S69)} (h : laws_FnGates.j3 k y0 y1 true = some true) : False := by
 cases k <;> simp [laws_FnGates.j3] at h
set_option maxHeartbeats 8000000 in
set_option maxRecDepth 100000 in
theorem laws_FnGates.calls (k : Nat) (A0 : Option Addr) (c0 : Nat) (l0 : List Int) (A1 : Option Addr) (c1 : Nat) (l1 : List Int) (r : Bool) (w : World) (hr0 : Kd.C (Kd.int .u8) w A0 l0.length l0) (hc0 : l0.length ≤ c0) (hr1 : Kd.C (Kd.int .u8) w A1 l1.length l1) (hc1 : l1.length ≤ c1) (hr_ : Aside0 (r = true)) (h : laws_FnGates.f k l0 l1 = some r) :
  Calls Try.prog 5 #[.slice A0 l0.length c0, .slice A1 l1.length c1] w fun e w' => e = .returned (.bool r) ∧ Below w.heap.size w w' := by
 have HR0 := am_ hr0
 have HC0 := am_ hc0
 clear hr0 hc0
 have HR1 := am_ hr1
 have HC1 := am_ hc1
 clear hr1 hc1
 have HB := am_ (Below.refl w.heap.size w)
 have H : (if (wrap64 ((l0.length : Int) + (l1.length : Int))) > 1048576 then (some true) else ((spec_DrawEvalGates.f k l0).bind fun bt544 => ((impl_EvalGates.f k bt544.1 bt544.2).bind fun bt550 => ((spec_EvalGates.f k bt544.1 bt544.2).bind fun bt554 => (if (bt550.2 != bt554.2) = true then (laws_FnGates.j0 k l1 bt544.1 bt544.2 bt550.1 bt550.2 true) else ((laws_sameBools.f k bt550.1 bt554.1).bind fun t558 => (laws_FnGates.j0 k l1 bt544.1 bt544.2 bt550.1 bt550.2 (!t558)))))))) = some r := h
 clear h
 by_cases c3 : (wrap64 ((l0.length : Int) + (l1.length : Int))) > 1048576
 ·rw [if_pos c3] at H
  have c3b0 : decide (1048576 < (wrap64 ((l0.length : Int) + (l1.length : Int)))) = true := decide_eq_true c3
  clear c3
  as_aux_lemma =>
   obtain rfl := Option.some.inj H
   go_enter Try.func5, Try.ntmps5
   go_wp2
   go_ret
   exact ⟨by first | rfl | (simp [errW_none, errW_some] <;> rfl) | (simp [*, errW_none, errW_some] <;> rfl), bq_⟩
 ·rw [if_neg c3] at H
  have c3b0 : decide (1048576 < (wrap64 ((l0.length : Int) + (l1.length : Int)))) = false := decide_eq_false c3
  clear c3
  replace H := Option.bind_eq_some_iff.mp H
  obtain ⟨⟨t544, t545⟩, A40, H⟩ := H
  replace H : ((impl_EvalGates.f k t544 t545).bind fun bt550 => ((spec_EvalGates.f k t544 t545).bind fun bt554 => (if (bt550.2 != bt554.2) = true then (laws_FnGates.j0 k l1 t544 t545 bt550.1 bt550.2 true) else ((laws_sameBools.f k bt550.1 bt554.1).bind fun t558 => (laws_FnGates.j0 k l1 t544 t545 bt550.1 bt550.2 (!t558)))))) = some r := H
  have A4 := am_ A40
  clear A40
  replace H := Option.bind_eq_some_iff.mp H
  obtain ⟨⟨t550, t551⟩, A50, H⟩ := H
  replace H : ((spec_EvalGates.f k t544 t545).bind fun bt554 => (if (t551 != bt554.2) = true then (laws_FnGates.j0 k l1 t544 t545 t550 t551 true) else ((laws_sameBools.f k t550 bt554.1).bind fun t558 => (laws_FnGates.j0 k l1 t544 t545 t550 t551 (!t558))))) = some r := H
  have A5 := am_ A50
  clear A50
  replace H := Option.bind_eq_some_iff.mp H
  obtain ⟨⟨t554, t555⟩, A60, H⟩ := H
  replace H : (if (t551 != t555) = true then (laws_FnGates.j0 k l1 t544 t545 t550 t551 true) else ((laws_sameBools.f k t550 t554).bind fun t558 => (laws_FnGates.j0 k l1 t544 t545 t550 t551 (!t558)))) = some r := H
  have A6 := am_ A60
  clear A60
  have HC7 := am_ H
  clear H
  go_enter Try.func5, Try.ntmps5
  go_upto_region 6 with (first | ((with_reducible refine gl_ 18 rfl ?_); refine goesM_ (some 52) Try.func18 #[.slice A0 l0.length c0] ?_; (with_reducible refine (spec_DrawEvalGates.calls k _ _ l0 t544 t545 _ ?side1 ?side2 A4.out).mono ?_); (case side1 => exact cm_ HR0.out); (case side2 => exact HC0.out); rintro e w8 ⟨v546, v548, rfl, ho0, ho1, hb⟩; refine ⟨_, rfl, ?_⟩; have HO547 := am_ (Kd.R_lower ho0 (below_size (bq_))); have HO549 := am_ (Kd.R_lower ho1 (below_size (bq_))); replace HB := bs_ hb; (try clear hb); (try clear ho0); (try clear ho1); obtain ⟨Ao9, co9, eo9⟩ := Kd.R_slice HO547.out; subst eo9; obtain ⟨Ao10, co10, eo10⟩ := Kd.R_slice HO549.out; subst eo10) | ((with_reducible refine gl_ 19 rfl ?_); refine goesM_ (some 58) Try.func19 #[.slice Ao9 t544.length co9, .slice Ao10 t545.length co10] ?_; (with_reducible refine (impl_EvalGates.calls k _ _ t544 _ _ t545 t550 t551 _ ?side1 ?side2 ?side3 ?side4 A5.out).mono ?_); (case side1 => exact cm_ (Kd.R_reads' HO547.out).2.2); (case side2 => exact (Kd.R_reads' HO547.out).2.1); (case side3 => exact cm_ (Kd.R_reads' HO549.out).2.2); (case side4 => exact (Kd.R_reads' HO549.out).2.1); rintro e w11 ⟨v552, rfl, ho0, hb⟩; refine ⟨_, rfl, ?_⟩; replace HO547 := am_ (Kd.R_below (rq_ HO547.out) hb); have HO553 := am_ (Kd.R_lower (Kd.R_new' ho0 (Kd.R_lt (rq_ HO549.out))) (below_size (bq_))); replace HO549 := am_ (Kd.R_elder' (rq_ HO549.out) (Kd.R_base ho0) hb); replace HB := bs_ hb; (try clear hb); (try clear ho0)) | ((with_reducible refine gl_ 20 rfl ?_); refine goesM_ (some 64) Try.func20 #[.slice Ao9 t544.length co9, .slice Ao10 t545.length co10] ?_; (with_reducible refine (spec_EvalGates.calls k _ _ t544 _ _ t545 t554 t555 _ ?side1 ?side2 ?side3 ?side4 A6.out).mono ?_); (case side1 => exact cm_ (Kd.R_reads' HO547.out).2.2); (case side2 => exact (Kd.R_reads' HO547.out).2.1); (case side3 => exact cm_ (Kd.R_reads' HO549.out).2.2); (case side4 => exact (Kd.R_reads' HO549.out).2.1); rintro e w12 ⟨v556, rfl, ho0, hb⟩; refine ⟨_, rfl, ?_⟩; replace HO547 := am_ (Kd.R_below (rq_ HO547.out) hb); have HO557 := am_ (Kd.R_lower (Kd.R_new' (Kd.R_new' ho0 (Kd.R_lt (rq_ HO549.out))) (Kd.R_lt (rq_ HO553.out))) (below_size (bq_))); replace HO549 := am_ (Kd.R_elder' (rq_ HO549.out) (Kd.R_base ho0) hb); replace HO553 := am_ (Kd.R_elder' (rq_ HO553.out) (Kd.R_base ho0) hb); replace HB := bs_ hb; (try clear hb); (try clear ho0)))
  (try simp only [Act.put, List.setIfInBounds_toArray, List.set_cons_zero, List.set_cons_succ])
  go_cut [75] (fun v75 wc => ∃ (kq : Nat) (x75_6 : Bool), v75 = .bool x75_6 ∧ Aside0 (laws_FnGates.j0 kq l1 t544 t545 t550 t551 x75_6 = some r) ∧ Aside0 (kq ≤ k) ∧ Aside0 (Kd.R k69 69 wc w.heap.size (fun _ => True) (.slice Ao9 t544.length co9) t544) ∧ Aside0 (Kd.R Kd.bool 4 wc w.heap.size (fun k_ => some k_ ≠ (v552 : Value).ownBlock) (.slice Ao10 t545.length co10) t545) ∧ Aside0 (Kd.R Kd.bool 4 wc w.heap.size (fun k_ => some k_ ≠ ((.slice Ao10 t545.length co10) : Value).ownBlock) v552 t550) ∧ Aside0 (Below w.heap.size w wc))
  case first =>
   have H := HC7.out
   clear HC7
   by_cases c13 : (t551 != t555) = true
   ·rw [if_pos c13] at H
    have c13b0 : (t551 != t555) = true := c13
    (try (have c13b1 : decide (t551 = t555) = false := by simpa using c13))
    (try (have c13b2 : (t551 == t555) = false := by simpa using c13))
    (try (have c13b3 : ¬ (t551 = t555) := by simpa using c13))
    clear c13
    (first | rw [c13b0] | (simp only [i64_w, i32_w]; rw [c13b0]) | skip)
    exact (laws_FnGates.j0_no_5 y55_).elim
   ·rw [if_neg c13] at H
    have c13b0 : (t551 != t555) = false := by simpa using c13
    (try (have c13b1 : decide (t551 = t555) = true := by simpa using c13))
    (try (have c13b2 : (t551 == t555) = true := by simpa using c13))
    clear c13
    (first | rw [c13b0] | (simp only [i64_w, i32_w]; rw [c13b0]) | skip)
    replace H := Option.bind_eq_some_iff.mp H
    obtain ⟨t558, A140, H⟩ := H
    replace H : (laws_FnGates.j0 k l1 t544 t545 t550 t551 (!t558)) = some r := H
    have A14 := am_ A140
    clear A140
    as_aux_lemma =>
     have H' := am_ H
     clear H
     obtain ⟨Ao15, co15, eo15⟩ := Kd.R_slice HO553.out
     subst eo15
     obtain ⟨Ao16, co16, eo16⟩ := Kd.R_slice HO557.out
     subst eo16
     go_wp2_with (first | (go_at_call 21; (with_reducible refine (laws_sameBools.calls k _ _ t550 _ _ t554 t558 _ ?side1 ?side2 ?side3 ?side4 A14.out).mono ?_); (case side1 => exact cm_ (Kd.R_reads' HO553.out).2.2); (case side2 => exact (Kd.R_reads' HO553.out).2.1); (case side3 => exact cm_ (Kd.R_reads' HO557.out).2.2); (case side4 => exact (Kd.R_reads' HO557.out).2.1); rintro e w' ⟨rfl, ⟨nd, rfl⟩⟩))
     go_meet
     case rel => exact ⟨_, (!t558), y53_, H', ⟨by first | omega | exact Nat.le_refl _⟩, ⟨rq_ HO547.out⟩, ⟨rq_ (Kd.R_mono HO549.out (fun _ hk => hk.1.2))⟩, ⟨rq_ (Kd.R_mono HO553.out (fun _ hk => hk.1.2))⟩, ⟨bq_⟩⟩
  case rest =>
   clear HC7
   try clear c1
   try clear c2
   try clear p2
   try clear c3
   try clear c3b0
   try clear c5
   try clear p6
   try clear c13
   try clear c13b0
   try clear c13b1
   try clear c13b2
   obtain ⟨kq, x75_6, rfl, HA, HJ6, HO_5, HO_6, HO_7, HB⟩ := hcut
   cases kq with
   | zero => exact absurd HA.out (by simp [laws_FnGates.j0])
   | succ kj6 =>
    have H := HA.out
    clear HA
    simp only [laws_FnGates.j0] at H
    by_cases c17 : x75_6 = true
    ·subst c17
     have H1 : (some false) = some r := by rw [if_pos rfl] at H; exact H
     clear H
     have H := H1
     clear H1
     exact absurd (Option.some.inj H).symm (by rw [hr_.out]; simp)
    ·replace c17 := Bool.eq_false_iff.mpr c17
     subst c17
     have H1 : (if t551 = true then ((impl_InputsOf.f kj6 t544).bind fun bt559 => (laws_FnGates.l0 kj6 l1 t544 t545 t550 ([] : List (List Int)) bt559.1 bt559.2 (t544.length : Int) 0)) else (laws_FnGates.j4 kj6 l1)) = some r := by rw [if_neg (show ¬ (false = true) by decide)] at H; exact H
     clear H
     have H := H1
     clear H1
     have HC18 := am_ H
     clear H
     go_upto_if 76 with (fail)
     go_cut [] (fun wc => ∃ (kq : Nat), Aside0 (laws_FnGates.j4 kq l1 = some r) ∧ Aside0 (kq ≤ kj6) ∧ Aside0 (Below w.heap.size w wc))
     case first =>
      have H := HC18.out
      clear HC18
      by_cases c19 : t551 = true
      ·subst c19
       have H1 : ((impl_InputsOf.f kj6 t544).bind fun bt559 => (laws_FnGates.l0 kj6 l1 t544 t545 t550 ([] : List (List Int)) bt559.1 bt559.2 (t544.length : Int) 0)) = some r := by rw [if_pos rfl] at H; exact H
       clear H
       have H := H1
       clear H1
       replace H := Option.bind_eq_some_iff.mp H
       obtain ⟨⟨t559, t560⟩, A200, H⟩ := H
       replace H : (laws_FnGates.l0 kj6 l1 t544 t545 t550 ([] : List (List Int)) t559 t560 (t544.length : Int) 0) = some r := H
       have A20 := am_ A200
       clear A200
       have H' := am_ H
       clear H
       go_wp2_with (first | ((with_reducible refine gl_ 22 rfl ?_); refine goesM_ (some 79) Try.func22 #[.slice Ao9 t544.length co9] ?_; (with_reducible refine (impl_InputsOf.calls kj6 _ _ t544 t559 t560 _ ?side1 ?side2 A20.out).mono ?_); (case side1 => exact cm_ (Kd.R_reads' HO_5.out).2.2); (case side2 => exact (Kd.R_reads' HO_5.out).2.1); rintro e w21 ⟨v561, rfl, ho0, hb⟩; refine ⟨_, rfl, ?_⟩; replace HO_5 := am_ (Kd.R_below (rq_ HO_5.out) hb); replace HO_6 := am_ (Kd.R_below (rq_ HO_6.out) hb); replace HO_7 := am_ (Kd.R_below (rq_ HO_7.out) hb); have HO562 := am_ (Kd.R_lower ho0 (below_size (bq_))); replace HB := bs_ hb; (try clear hb); (try clear ho0)))
       go_loopg [11, 84] kj6 (fun kq v11 v84 w' => ∃ (x11_2 : List (List Int)) (x84_2 : Int), v84 = .int .i64 x84_2 ∧ Aside0 (laws_FnGates.l0 kq l1 t544 t545 t550 x11_2 t559 t560 (t544.length : Int) x84_2 = some r) ∧ Aside0 (kq ≤ kj6) ∧ Aside0 (Kd.R k69 69 w' w.heap.size (fun _ => True) (.slice Ao9 t544.length co9) t544) ∧ Aside0 (Kd.R Kd.bool 4 w' w.heap.size (fun k_ => some k_ ≠ (v552 : Value).ownBlock) (.slice Ao10 t545.length co10) t545) ∧ Aside0 (Kd.R Kd.bool 4 w' w.heap.size (fun k_ => some k_ ≠ ((.slice Ao10 t545.length co10) : Value).ownBlock) v552 t550) ∧ Aside0 (Kd.N (Kd.slice 3 (Kd.int .i64)) 43 w' w.heap.size (fun k_ => some k_ ≠ ((.slice Ao9 t544.length co9) : Value).ownBlock ∧ some k_ ≠ ((.slice Ao10 t545.length co10) : Value).ownBlock ∧ some k_ ≠ (v552 : Value).ownBlock ∧ some k_ ≠ (v561 : Value).ownBlock) v11 x11_2) ∧ Aside0 (Kd.R (Kd.int .i64) 3 w' w.heap.size (fun _ => True) v561 t559) ∧ Aside0 (Below w.heap.size w w'))
       case atStart => exact ⟨(([] : List (List Int))), (0), y53_, H', ⟨Nat.le_refl _⟩, ⟨rq_ HO_5.out⟩, ⟨rq_ HO_6.out⟩, ⟨rq_ HO_7.out⟩, ⟨by first | exact Kd.S_nil _ _ _ _ _ | exact Kd.N_nil _ _ _ _ _ | exact Kd.V_nil _ _ _ _ _ | exact Kd.Q_nil _ _ _ _ _ | exact Kd.R_nil _ _ _ _ _⟩, ⟨rq_ HO562.out⟩, ⟨bq_⟩⟩
       case round =>
        clear H'
        try clear c1
        try clear c2
        try clear p2
        try clear c3
        try clear c3b0
        try clear c5
        try clear p6
        try clear c13
        try clear c13b0
        try clear c13b1
        try clear c13b2
        try clear c17
        try clear c18
        try clear c19
        try clear c20
        try clear p2
        try clear p6
        obtain ⟨x11_2, x84_2, rfl, HA, HK2, HO_5, HO_6, HO_7, HO_11, HO_13, HB⟩ := hrel
        cases gk with
        | zero => exact absurd HA.out (by simp [laws_FnGates.l0])
        | succ k2 =>
         have H := HA.out
         clear HA
         simp only [laws_FnGates.l0] at H
         by_cases c22 : x84_2 < (t544.length : Int)
         ·rw [if_pos c22] at H
          have c22b0 : decide (x84_2 < (t544.length : Int)) = true := decide_eq_true c22
          clear c22
          (first | rw [c22b0] | (simp only [i64_w, i32_w]; rw [c22b0]) | skip)
          replace H := Option.bind_eq_some_iff.mp H
          obtain ⟨⟨t563, t566⟩, A230, H⟩ := H
          replace H : (if t566 = true then (if x11_2.length + t563.length < 5864062014805 then (laws_FnGates.l0 k2 l1 t544 t545 t550 (x11_2 ++ t563) t559 t560 (t544.length : Int) (wrap64 (x84_2 + 1))) else (none)) else (some false)) = some r := H
          have A23 := am_ A230
          clear A230
          by_cases c24 : t566 = true
          ·subst c24
           have H1 : (if x11_2.length + t563.length < 5864062014805 then (laws_FnGates.l0 k2 l1 t544 t545 t550 (x11_2 ++ t563) t559 t560 (t544.length : Int) (wrap64 (x84_2 + 1))) else (none)) = some r := by rw [if_pos rfl] at H; exact H
           clear H
           have H := H1
           clear H1
           by_cases c25 : x11_2.length + t563.length < 5864062014805
           ·rw [if_pos c25] at H
            have LMc25 := am_ c25
            clear c25
            obtain ⟨y567, hy567⟩ : ∃ y_ : List (List Int), y_ = (x11_2 ++ t563) := ⟨_, rfl⟩
            replace H : (laws_FnGates.l0 k2 l1 t544 t545 t550 y567 t559 t560 (t544.length : Int) (wrap64 (x84_2 + 1))) = some r := by first | (rw [hy567]; with_reducible exact H) | (have H2_ := (Option.bind_some _ _).symm.trans H; rw [hy567]; with_reducible exact H2_) | (have H2_ := (Option.bind_some _ _).symm.trans H; with_reducible exact H2_) | with_reducible exact H | (rw [hy567]; exact H) | exact H
            have Ny567 := am_ hy567
            clear hy567
            as_aux_lemma =>
             have H' := am_ H
             clear H
             go_wp2_with (first | ((with_reducible refine gl_ 10 rfl ?_); refine goesM_ (some 90) Try.func10 #[.slice Ao9 t544.length co9, .int .i64 x84_2] ?_; (with_reducible refine (impl_GateClauses.calls k2 _ _ t544 x84_2 t563 true _ ?side1 ?side2 A23.out).mono ?_); (case side1 => exact cm_ (Kd.R_reads' HO_5.out).2.2); (case side2 => exact (Kd.R_reads' HO_5.out).2.1); rintro e w26 ⟨v564, rfl, ho0, hb⟩; refine ⟨_, rfl, ?_⟩; have HO565 := am_ (Kd.N_lower (Kd.N_mono (ok' := fun k_ => some k_ ≠ (.slice Ao9 t544.length co9 : Value).ownBlock ∧ some k_ ≠ (.slice Ao10 t545.length co10 : Value).ownBlock ∧ some k_ ≠ (v552 : Value).ownBlock ∧ some k_ ≠ (u11 : Value).ownBlock ∧ some k_ ≠ (v561 : Value).ownBlock) ho0 (fun k_ hk_ => ⟨(Kd.fresh' (Kd.R_lt (rq_ HO_5.out)) k_ hk_), (Kd.fresh' (Kd.R_lt (rq_ HO_6.out)) k_ hk_), (Kd.fresh' (Kd.R_lt (rq_ HO_7.out)) k_ hk_), (Kd.fresh' (Kd.N_lt y41_) k_ hk_), (Kd.fresh' (Kd.R_lt (rq_ HO_13.out)) k_ hk_)⟩)) (below_size (bq_))); replace HO_5 := am_ (Kd.R_below (rq_ HO_5.out) hb); replace HO_6 := am_ (Kd.R_below (rq_ HO_6.out) hb); replace HO_7 := am_ (Kd.R_below (rq_ HO_7.out) hb); replace HO_11 := am_ (Kd.N_elder' y41_ (Kd.N_base ho0) hb); replace HO_13 := am_ (Kd.R_below (rq_ HO_13.out) hb); replace HB := bs_ hb; (try clear hb); (try clear hk); (try clear ho0); obtain ⟨Ao28, co28, eo28⟩ := Kd.N_slice HO565.out; subst eo28) | ((with_reducible refine gate_builtin (b := .append) (xs := #[.tmp 95, .tmp 96]) rfl ?_); (try (refine gate_guard (by rfl) ?_; dsimp only)); at_builtin; refine Kd.N_append_rows (Kd.slice 3 (Kd.int .i64)) (w0 := w) w.heap.size rfl (.tmp 95) (.tmp 96) 24 43 (.slice none 0 0) 24 rfl Try.underlying24 info43 rfl (by decide) (by omega) u11 x11_2 t563 _ _ _ (fun k_ => some k_ ≠ (.slice Ao9 t544.length co9 : Value).ownBlock ∧ some k_ ≠ (.slice Ao10 t545.length co10 : Value).ownBlock ∧ some k_ ≠ (v552 : Value).ownBlock ∧ some k_ ≠ (v561 : Value).ownBlock) (fun k_ => ((fun k_ => some k_ ≠ (.slice Ao9 t544.length co9 : Value).ownBlock ∧ some k_ ≠ (.slice Ao10 t545.length co10 : Value).ownBlock ∧ some k_ ≠ (v552 : Value).ownBlock ∧ some k_ ≠ (v561 : Value).ownBlock)) k_ ∧ some k_ ≠ (u11 : Value).ownBlock) rfl rfl ?aO ?aR (fun _ hk => hk) ?aF ?aB ?aS ?aL ?_; (case aR => exact (by skip; exact Kd.N_F (Kd.N_mono (ok' := (fun k_ => ((fun k_ => some k_ ≠ (.slice Ao9 t544.length co9 : Value).ownBlock ∧ some k_ ≠ (.slice Ao10 t545.length co10 : Value).ownBlock ∧ some k_ ≠ (v552 : Value).ownBlock ∧ some k_ ≠ (v561 : Value).ownBlock)) k_ ∧ some k_ ≠ (u11 : Value).ownBlock)) (HO565.out) (fun k_ hk => ⟨⟨hk.1, ⟨hk.2.1, ⟨hk.2.2.1, hk.2.2.2.2⟩⟩⟩, hk.2.2.2.1⟩)))); (case aB => exact (bq_)); (case aF => exact (fun k_ hk => ⟨Kd.fresh' (Kd.R_lt (rq_ HO_5.out)) k_ hk, Kd.fresh' (Kd.R_lt (rq_ HO_6.out)) k_ hk, Kd.fresh' (Kd.R_lt (rq_ HO_7.out)) k_ hk, Kd.fresh' (Kd.R_lt (rq_ HO_13.out)) k_ hk⟩)); (case aO => exact (by (with_reducible repeat (first | apply Kd.N_alloc | apply Kd.N_drewN | apply Kd.N_drew)); exact Kd.N_mono HO_11.out (fun _ hk => ⟨hk.1.1, ⟨hk.1.2.1, ⟨hk.1.2.2.1, hk.1.2.2.2⟩⟩⟩))); (case aS => exact (below_size (bq_))); (case aL => have := LMc25.out; omega); intro v568 w27 ho hb hg hat; rw [← Ny567.out] at ho; replace HO_5 := am_ (Kd.R_over' (rq_ HO_5.out) (Kd.N_typed y41_) (by decide) hg); replace HO_6 := am_ (Kd.R_over' (rq_ HO_6.out) (Kd.N_typed y41_) (by decide) hg); replace HO_7 := am_ (Kd.R_over' (rq_ HO_7.out) (Kd.N_typed y41_) (by decide) hg); replace HO_13 := am_ (Kd.R_over' (rq_ HO_13.out) (Kd.N_typed y41_) (by decide) hg); replace HO565 := am_ (Kd.N_afterv (ok := (fun k_ => some k_ ≠ (.slice Ao9 t544.length co9 : Value).ownBlock ∧ some k_ ≠ (.slice Ao10 t545.length co10 : Value).ownBlock ∧ some k_ ≠ (v552 : Value).ownBlock ∧ some k_ ≠ (v561 : Value).ownBlock)) (by (with_reducible repeat (first | apply Kd.N_alloc | apply Kd.N_drewN | apply Kd.N_drew)); exact Kd.N_mono HO565.out (fun _ hk => ⟨⟨hk.1, ⟨hk.2.1, ⟨hk.2.2.1, hk.2.2.2.2⟩⟩⟩, hk.2.2.2.1⟩)) hg hat); replace HB := am_ (hb); have HO569 := am_ (ho); clear HO_11; clear ho hb hg hat))
             go_roundg k2
             case measure => have := HJ6.out; have := HK2.out; omega
             case rel => exact ⟨(y567), (wrap64 (x84_2 + 1)), y53_, H', ⟨by have := HJ6.out; have := HK2.out; omega⟩, ⟨rq_ HO_5.out⟩, ⟨rq_ HO_6.out⟩, ⟨rq_ HO_7.out⟩, ⟨by (with_reducible repeat (first | apply Kd.N_alloc | apply Kd.N_drewN | apply Kd.N_drew)); exact HO569.out⟩, ⟨rq_ HO_13.out⟩, ⟨bq_⟩⟩
           ·rw [if_neg c25] at H
            exact absurd H (by simp)
          ·replace c24 := Bool.eq_false_iff.mpr c24
           subst c24
           have H1 : (some false) = some r := by rw [if_neg (show ¬ (false = true) by decide)] at H; exact H
           clear H
           have H := H1
           clear H1
           exact absurd (Option.some.inj H).symm (by rw [hr_.out]; simp)
         ·rw [if_neg c22] at H
          have c22b0 : decide (x84_2 < (t544.length : Int)) = false := decide_eq_false c22
          clear c22
          (first | rw [c22b0] | (simp only [i64_w, i32_w]; rw [c22b0]) | skip)
          have H' := am_ H
          clear H
          obtain ⟨Ao29, co29, eo29⟩ := Kd.R_slice HO_13.out
          subst eo29
          go_wp2
          go_loopg [12, 101] k2 (fun kq v12 v101 w' => ∃ (x12_3 : List Int) (x101_3 : Int), v101 = .int .i64 x101_3 ∧ Aside0 (laws_FnGates.l1 kq l1 t544 t545 t550 x11_2 x12_3 t560 t559 (t559.length : Int) x101_3 = some r) ∧ Aside0 (kq ≤ k2) ∧ Aside0 (Kd.R k69 69 w' w.heap.size (fun _ => True) (.slice Ao9 t544.length co9) t544) ∧ Aside0 (Kd.R Kd.bool 4 w' w.heap.size (fun k_ => some k_ ≠ (v552 : Value).ownBlock) (.slice Ao10 t545.length co10) t545) ∧ Aside0 (Kd.R Kd.bool 4 w' w.heap.size (fun k_ => some k_ ≠ ((.slice Ao10 t545.length co10) : Value).ownBlock) v552 t550) ∧ Aside0 (Kd.N (Kd.slice 3 (Kd.int .i64)) 43 w' w.heap.size (fun k_ => some k_ ≠ ((.slice Ao9 t544.length co9) : Value).ownBlock ∧ some k_ ≠ ((.slice Ao10 t545.length co10) : Value).ownBlock ∧ some k_ ≠ (v552 : Value).ownBlock ∧ some k_ ≠ (v12 : Value).ownBlock ∧ some k_ ≠ ((.slice Ao29 t559.length co29) : Value).ownBlock) u11 x11_2) ∧ Aside0 (Kd.R (Kd.int .i64) 3 w' w.heap.size (fun k_ => some k_ ≠ ((.slice Ao29 t559.length co29) : Value).ownBlock) v12 x12_3) ∧ Aside0 (Kd.R (Kd.int .i64) 3 w' w.heap.size (fun k_ => some k_ ≠ (v12 : Value).ownBlock) (.slice Ao29 t559.length co29) t559) ∧ Aside0 (Below w.heap.size w w'))
          case atStart => exact ⟨(([] : List Int)), (0), y53_, H', ⟨Nat.le_refl _⟩, ⟨rq_ HO_5.out⟩, ⟨rq_ HO_6.out⟩, ⟨rq_ HO_7.out⟩, ⟨by (with_reducible repeat (first | apply Kd.N_alloc | apply Kd.N_drewN | apply Kd.N_drew)); exact Kd.N_mono HO_11.out (fun _ hk => ⟨hk.1, ⟨hk.2.1, ⟨hk.2.2.1, ⟨(by simp [Value.ownBlock]), hk.2.2.2⟩⟩⟩⟩)⟩, ⟨by first | exact Kd.R_nil _ _ _ _ _ | exact Kd.N_nil _ _ _ _ _ | exact Kd.V_nil _ _ _ _ _ | exact Kd.Q_nil _ _ _ _ _ | exact Kd.S_nil _ _ _ _ _⟩, ⟨rq_ (Kd.R_mono HO_13.out (fun _ hk => (by simp [Value.ownBlock])))⟩, ⟨bq_⟩⟩
          case round =>
           clear H'
           try clear c1
           try clear c2
           try clear p2
           try clear c3
           try clear c3b0
           try clear c5
           try clear p6
           try clear c10
           try clear c13
           try clear c13b0
           try clear c13b1
           try clear c13b2
           try clear c17
           try clear c18
           try clear c19
           try clear c20
           try clear c22
           try clear c22b0
           try clear c24
           try clear c25
           try clear p2
           try clear p6
           obtain ⟨x12_3, x101_3, rfl, HA, HK3, HO_5, HO_6, HO_7, HO_11, HO_12, HO_99, HB⟩ := hrel
           cases gk with
           | zero => exact absurd HA.out (by simp [laws_FnGates.l1])
           | succ k3 =>
            have H := HA.out
            clear HA
            simp only [laws_FnGates.l1] at H
            by_cases c30 : x101_3 < (t559.length : Int)
            ·rw [if_pos c30] at H
             have c30b0 : decide (x101_3 < (t559.length : Int)) = true := decide_eq_true c30
             clear c30
             by_cases c31 : 0 ≤ x101_3
             ·rw [if_pos c31] at H
              have c31b0 : decide (0 ≤ x101_3) = true := decide_eq_true c31
              clear c31
              by_cases c32 : x101_3 < (t559.length : Int)
              ·rw [if_pos c32] at H
               have c32b0 : decide (x101_3 < (t559.length : Int)) = true := decide_eq_true c32
               clear c32
               by_cases c33 : x101_3 < (t545.length : Int)
               ·rw [if_pos c33] at H
                have c33b0 : decide (x101_3 < (t545.length : Int)) = true := decide_eq_true c33
                clear c33
                obtain ⟨bq34, hbq34⟩ : ∃ b_ : Bool, b_ = (rdOf false t545 x101_3) := ⟨_, rfl⟩
                replace H : (if bq34 = true then (if x12_3.length < 17592186044416 then (laws_FnGates.l1 k3 l1 t544 t545 t550 x11_2 (x12_3 ++ [wrap64 ((rd t559 x101_3) + 1)]) t560 t559 (t559.length : Int) (wrap64 (x101_3 + 1))) else (none)) else (if x12_3.length < 17592186044416 then (laws_FnGates.l1 k3 l1 t544 t545 t550 x11_2 (x12_3 ++ [wrap64 ((wrap64 (-(rd t559 x101_3))) - 1)]) t560 t559 (t559.length : Int) (wrap64 (x101_3 + 1))) else (none))) = some r := by rw [← hbq34] at H; exact H
                have Nbq34 := am_ hbq34
                clear hbq34
                by_cases c35 : bq34 = true
                ·subst c35
                 have H1 : (if x12_3.length < 17592186044416 then (laws_FnGates.l1 k3 l1 t544 t545 t550 x11_2 (x12_3 ++ [wrap64 ((rd t559 x101_3) + 1)]) t560 t559 (t559.length : Int) (wrap64 (x101_3 + 1))) else (none)) = some r := by rw [if_pos rfl] at H; exact H
                 clear H
                 have H := H1
                 clear H1
                 by_cases c36 : x12_3.length < 17592186044416
                 ·rw [if_pos c36] at H
                  have LMc36 := am_ c36
                  clear c36
                  obtain ⟨y572, hy572⟩ : ∃ y_ : List Int, y_ = (x12_3 ++ [wrap64 ((rd t559 x101_3) + 1)]) := ⟨_, rfl⟩
                  replace H : (laws_FnGates.l1 k3 l1 t544 t545 t550 x11_2 y572 t560 t559 (t559.length : Int) (wrap64 (x101_3 + 1))) = some r := by first | (rw [hy572]; with_reducible exact H) | (have H2_ := (Option.bind_some _ _).symm.trans H; rw [hy572]; with_reducible exact H2_) | (have H2_ := (Option.bind_some _ _).symm.trans H; with_reducible exact H2_) | with_reducible exact H | (rw [hy572]; exact H) | exact H
                  have Ny572 := am_ hy572
                  clear hy572
                  as_aux_lemma =>
                   have H' := am_ H
                   clear H
                   have p570 : 0 ≤ (x101_3 : Int) := od_
                   have q570 : x101_3 < (t559.length : Int) := od_
                   obtain ⟨ad570, e570, hx570_0⟩ := Kd.at_int (Kd.R_reads' HO_99.out).2.2 x101_3 p570 q570
                   cases e570
                   replace p570 := eq_true p570
                   replace q570 := eq_true q570
                   have p571 : 0 ≤ (x101_3 : Int) := od_
                   have q571 : x101_3 < (t545.length : Int) := od_
                   obtain ⟨ad571, e571, hx571_0⟩ := Kd.at_bool (Kd.R_reads' HO_6.out).2.2 x101_3 p571 q571
                   (try rw [← Nbq34.out] at hx571_0)
                   cases e571
                   replace p571 := eq_true p571
                   replace q571 := eq_true q571
                   go_wp2_with (first | ((with_reducible refine gate_builtin (b := .append) (xs := #[.tmp 110, .tmp 113]) rfl ?_); (try (refine gate_guard (by rfl) ?_; dsimp only)); at_builtin; refine Kd.R_append (Kd.int .i64) (w0 := w) w.heap.size rfl (.tmp 110) (.tmp 113) 43 3 (.int .i64 0) 8 rfl Try.underlying43 info3 rfl (by decide) (by omega) u12 x12_3 (wrap64 ((rd t559 x101_3) + 1)) [.int .i64 (wrap64 ((rd t559 x101_3) + 1))] (fun k_ => some k_ ≠ (.slice (some ad570) t559.length co29 : Value).ownBlock) (fun _ => False) rfl rfl ?aP (fun _ hk => hk.elim) ?aF ?aO ?aB ?aS ?aL ?_; (case aP => exact rfl); (case aB => exact (bq_)); (case aF => exact (fun k_ hk => Kd.fresh' (Kd.R_lt (rq_ HO_99.out)) k_ hk)); (case aO => exact (rq_ HO_12.out)); (case aS => exact (below_size (bq_))); (case aL => have := LMc36.out; omega); intro v573 w37 ho hb hg hat; rw [← Ny572.out] at ho; replace HO_5 := am_ (Kd.R_over' (rq_ HO_5.out) (Kd.R_typed (rq_ HO_12.out)) (by decide) hg); replace HO_6 := am_ (Kd.R_over' (rq_ HO_6.out) (Kd.R_typed (rq_ HO_12.out)) (by decide) hg); replace HO_7 := am_ (Kd.R_over' (rq_ HO_7.out) (Kd.R_typed (rq_ HO_12.out)) (by decide) hg); replace HO_11 := am_ (Kd.N_afterv (ok := (fun k_ => some k_ ≠ (.slice Ao9 t544.length co9 : Value).ownBlock ∧ some k_ ≠ (.slice (some ad571) t545.length co10 : Value).ownBlock ∧ some k_ ≠ (v552 : Value).ownBlock ∧ some k_ ≠ (.slice (some ad570) t559.length co29 : Value).ownBlock)) (by (with_reducible repeat (first | apply Kd.N_alloc | apply Kd.N_drewN | apply Kd.N_drew)); exact Kd.N_mono HO_11.out (fun _ hk => ⟨⟨hk.1, ⟨hk.2.1, ⟨hk.2.2.1, hk.2.2.2.2⟩⟩⟩, hk.2.2.2.1⟩)) hg hat); replace HO_99 := am_ (Kd.R_after (ok := (fun _ => True)) (rq_ (Kd.R_mono HO_99.out (fun _ hk => ⟨trivial, hk⟩))) hg hat); replace HB := am_ (hb); have HO574 := am_ (ho); clear HO_12; clear ho hb hg hat))
                   go_roundg k3
                   case measure => have := HJ6.out; have := HK2.out; have := HK3.out; omega
                   case rel => exact ⟨(y572), (wrap64 (x101_3 + 1)), y53_, H', ⟨by have := HJ6.out; have := HK2.out; have := HK3.out; omega⟩, ⟨rq_ HO_5.out⟩, ⟨rq_ HO_6.out⟩, ⟨rq_ HO_7.out⟩, ⟨by (with_reducible repeat (first | apply Kd.N_alloc | apply Kd.N_drewN | apply Kd.N_drew)); exact Kd.N_mono HO_11.out (fun _ hk => ⟨hk.1.1, ⟨hk.1.2.1, ⟨hk.1.2.2.1, ⟨hk.2, hk.1.2.2.2⟩⟩⟩⟩)⟩, ⟨rq_ HO574.out⟩, ⟨rq_ (Kd.R_mono HO_99.out (fun _ hk => hk.2))⟩, ⟨bq_⟩⟩
                 ·rw [if_neg c36] at H
                  exact absurd H (by simp)
                ·replace c35 := Bool.eq_false_iff.mpr c35
                 subst c35
                 have H1 : (if x12_3.length < 17592186044416 then (laws_FnGates.l1 k3 l1 t544 t545 t550 x11_2 (x12_3 ++ [wrap64 ((wrap64 (-(rd t559 x101_3))) - 1)]) t560 t559 (t559.length : Int) (wrap64 (x101_3 + 1))) else (none)) = some r := by rw [if_neg (show ¬ (false = true) by decide)] at H; exact H
                 clear H
                 have H := H1
                 clear H1
                 by_cases c38 : x12_3.length < 17592186044416
                 ·rw [if_pos c38] at H
                  have LMc38 := am_ c38
                  clear c38
                  obtain ⟨y575, hy575⟩ : ∃ y_ : List Int, y_ = (x12_3 ++ [wrap64 ((wrap64 (-(rd t559 x101_3))) - 1)]) := ⟨_, rfl⟩
                  replace H : (laws_FnGates.l1 k3 l1 t544 t545 t550 x11_2 y575 t560 t559 (t559.length : Int) (wrap64 (x101_3 + 1))) = some r := by first | (rw [hy575]; with_reducible exact H) | (have H2_ := (Option.bind_some _ _).symm.trans H; rw [hy575]; with_reducible exact H2_) | (have H2_ := (Option.bind_some _ _).symm.trans H; with_reducible exact H2_) | with_reducible exact H | (rw [hy575]; exact H) | exact H
                  have Ny575 := am_ hy575
                  clear hy575
                  as_aux_lemma =>
                   have H' := am_ H
                   clear H
                   have p570 : 0 ≤ (x101_3 : Int) := od_
                   have q570 : x101_3 < (t559.length : Int) := od_
                   obtain ⟨ad570, e570, hx570_0⟩ := Kd.at_int (Kd.R_reads' HO_99.out).2.2 x101_3 p570 q570
                   cases e570
                   replace p570 := eq_true p570
                   replace q570 := eq_true q570
                   have p571 : 0 ≤ (x101_3 : Int) := od_
                   have q571 : x101_3 < (t545.length : Int) := od_
                   obtain ⟨ad571, e571, hx571_0⟩ := Kd.at_bool (Kd.R_reads' HO_6.out).2.2 x101_3 p571 q571
                   (try rw [← Nbq34.out] at hx571_0)
                   cases e571
                   replace p571 := eq_true p571
                   replace q571 := eq_true q571
                   go_wp2_with (first | ((with_reducible refine gate_builtin (b := .append) (xs := #[.tmp 115, .tmp 119]) rfl ?_); (try (refine gate_guard (by rfl) ?_; dsimp only)); at_builtin; refine Kd.R_append (Kd.int .i64) (w0 := w) w.heap.size rfl (.tmp 115) (.tmp 119) 43 3 (.int .i64 0) 8 rfl Try.underlying43 info3 rfl (by decide) (by omega) u12 x12_3 (wrap64 ((wrap64 (-(rd t559 x101_3))) - 1)) [.int .i64 (wrap64 ((wrap64 (-(rd t559 x101_3))) - 1))] (fun k_ => some k_ ≠ (.slice (some ad570) t559.length co29 : Value).ownBlock) (fun _ => False) rfl rfl ?aP (fun _ hk => hk.elim) ?aF ?aO ?aB ?aS ?aL ?_; (case aP => exact rfl); (case aB => exact (bq_)); (case aF => exact (fun k_ hk => Kd.fresh' (Kd.R_lt (rq_ HO_99.out)) k_ hk)); (case aO => exact (rq_ HO_12.out)); (case aS => exact (below_size (bq_))); (case aL => have := LMc38.out; omega); intro v576 w39 ho hb hg hat; rw [← Ny575.out] at ho; replace HO_5 := am_ (Kd.R_over' (rq_ HO_5.out) (Kd.R_typed (rq_ HO_12.out)) (by decide) hg); replace HO_6 := am_ (Kd.R_over' (rq_ HO_6.out) (Kd.R_typed (rq_ HO_12.out)) (by decide) hg); replace HO_7 := am_ (Kd.R_over' (rq_ HO_7.out) (Kd.R_typed (rq_ HO_12.out)) (by decide) hg); replace HO_11 := am_ (Kd.N_afterv (ok := (fun k_ => some k_ ≠ (.slice Ao9 t544.length co9 : Value).ownBlock ∧ some k_ ≠ (.slice (some ad571) t545.length co10 : Value).ownBlock ∧ some k_ ≠ (v552 : Value).ownBlock ∧ some k_ ≠ (.slice (some ad570) t559.length co29 : Value).ownBlock)) (by (with_reducible repeat (first | apply Kd.N_alloc | apply Kd.N_drewN | apply Kd.N_drew)); exact Kd.N_mono HO_11.out (fun _ hk => ⟨⟨hk.1, ⟨hk.2.1, ⟨hk.2.2.1, hk.2.2.2.2⟩⟩⟩, hk.2.2.2.1⟩)) hg hat); replace HO_99 := am_ (Kd.R_after (ok := (fun _ => True)) (rq_ (Kd.R_mono HO_99.out (fun _ hk => ⟨trivial, hk⟩))) hg hat); replace HB := am_ (hb); have HO577 := am_ (ho); clear HO_12; clear ho hb hg hat))
                   go_roundg k3
                   case measure => have := HJ6.out; have := HK2.out; have := HK3.out; omega
                   case rel => exact ⟨(y575), (wrap64 (x101_3 + 1)), y53_, H', ⟨by have := HJ6.out; have := HK2.out; have := HK3.out; omega⟩, ⟨rq_ HO_5.out⟩, ⟨rq_ HO_6.out⟩, ⟨rq_ HO_7.out⟩, ⟨by (with_reducible repeat (first | apply Kd.N_alloc | apply Kd.N_drewN | apply Kd.N_drew)); exact Kd.N_mono HO_11.out (fun _ hk => ⟨hk.1.1, ⟨hk.1.2.1, ⟨hk.1.2.2.1, ⟨hk.2, hk.1.2.2.2⟩⟩⟩⟩)⟩, ⟨rq_ HO577.out⟩, ⟨rq_ (Kd.R_mono HO_99.out (fun _ hk => hk.2))⟩, ⟨bq_⟩⟩
                 ·rw [if_neg c38] at H
                  exact absurd H (by simp)
               ·rw [if_neg c33] at H
                exact absurd H (by simp)
              ·rw [if_neg c32] at H
               exact absurd H (by simp)
             ·rw [if_neg c31] at H
              exact absurd H (by simp)
            ·rw [if_neg c30] at H
             have c30b0 : decide (x101_3 < (t559.length : Int)) = false := decide_eq_false c30
             clear c30
             replace H := Option.bind_eq_some_iff.mp H
             obtain ⟨⟨t578, t579, t580⟩, A400, H⟩ := H
             replace H : (if t560 = true then (if t580 = true then (if t579 = true then (laws_FnGates.j3 k3 l1 t544 true) else (if (t578.length : Int) = (t544.length : Int) then ((laws_allIn.f k3 t578 t550).bind fun t583 => (laws_FnGates.j3 k3 l1 t544 (!t583))) else (laws_FnGates.j3 k3 l1 t544 true))) else (laws_FnGates.j3 k3 l1 t544 true)) else (laws_FnGates.j3 k3 l1 t544 true)) = some r := H
             have A40 := am_ A400
             clear A400
             have HC41 := am_ H
             clear H
             obtain ⟨Ao42, co42, eo42⟩ := Kd.N_slice HO_11.out
             subst eo42
             obtain ⟨Ao43, co43, eo43⟩ := Kd.R_slice HO_12.out
             subst eo43
             go_upto_region 28 with (first | ((with_reducible refine gl_ 23 rfl ?_); refine goesM_ (some 127) Try.func23 #[.int .i64 (t544.length : Int), .slice Ao42 x11_2.length co42, .slice Ao43 x12_3.length co43] ?_; (with_reducible refine (impl_Propagate.calls k3 (t544.length : Int) _ _ x11_2 _ _ x12_3 t578 t579 t580 _ ?side1 ?side2 ?side3 ?side4 A40.out).mono ?_); (case side1 => exact cm_ (Kd.N_reads' HO_11.out).2.2); (case side2 => exact (Kd.N_reads' HO_11.out).2.1); (case side3 => exact cm_ (Kd.R_reads' HO_12.out).2.2); (case side4 => exact (Kd.R_reads' HO_12.out).2.1); rintro e w44 ⟨v581, rfl, ho0, hb⟩; refine ⟨_, rfl, ?_⟩; replace HO_5 := am_ (Kd.R_below (rq_ HO_5.out) hb); replace HO_6 := am_ (Kd.R_below (rq_ HO_6.out) hb); replace HO_7 := am_ (Kd.R_below (rq_ HO_7.out) hb); replace HO_11 := am_ (Kd.N_elder' y41_ (Kd.R_base ho0) hb); have HO582 := am_ (Kd.R_lower (Kd.R_new' (Kd.R_new' ho0 (Kd.R_lt (rq_ HO_12.out))) (Kd.R_lt (rq_ HO_99.out))) (below_size (bq_))); replace HO_12 := am_ (Kd.R_elder' (rq_ HO_12.out) (Kd.R_base ho0) hb); replace HO_99 := am_ (Kd.R_elder' (rq_ HO_99.out) (Kd.R_base ho0) hb); replace HB := bs_ hb; (try clear hb); (try clear ho0)))
             (try simp only [Act.put, List.setIfInBounds_toArray, List.set_cons_zero, List.set_cons_succ])
             go_cut [152] (fun v152 wc => ∃ (kq : Nat) (x152_40 : Bool), v152 = .bool x152_40 ∧ Aside0 (laws_FnGates.j3 kq l1 t544 x152_40 = some r) ∧ Aside0 (kq ≤ k3) ∧ Aside0 (Kd.R k69 69 wc w.heap.size (fun _ => True) (.slice Ao9 t544.length co9) t544) ∧ Aside0 (Below w.heap.size w wc))
             case first =>
              have H := HC41.out
              clear HC41
              by_cases c45 : t560 = true
              ·subst c45
               have H1 : (if t580 = true then (if t579 = true then (laws_FnGates.j3 k3 l1 t544 true) else (if (t578.length : Int) = (t544.length : Int) then ((laws_allIn.f k3 t578 t550).bind fun t583 => (laws_FnGates.j3 k3 l1 t544 (!t583))) else (laws_FnGates.j3 k3 l1 t544 true))) else (laws_FnGates.j3 k3 l1 t544 true)) = some r := by rw [if_pos rfl] at H; exact H
               clear H
               have H := H1
               clear H1
               by_cases c46 : t580 = true
               ·subst c46
                have H1 : (if t579 = true then (laws_FnGates.j3 k3 l1 t544 true) else (if (t578.length : Int) = (t544.length : Int) then ((laws_allIn.f k3 t578 t550).bind fun t583 => (laws_FnGates.j3 k3 l1 t544 (!t583))) else (laws_FnGates.j3 k3 l1 t544 true))) = some r := by rw [if_pos rfl] at H; exact H
                clear H
                have H := H1
                clear H1
                by_cases c47 : t579 = true
                ·subst c47
                 have H1 : (laws_FnGates.j3 k3 l1 t544 true) = some r := by rw [if_pos rfl] at H; exact H
                 clear H
                 have H := H1
                 clear H1
                 exact (laws_FnGates.j3_no_2 y55_).elim
                ·replace c47 := Bool.eq_false_iff.mpr c47
                 subst c47
                 have H1 : (if (t578.length : Int) = (t544.length : Int) then ((laws_allIn.f k3 t578 t550).bind fun t583 => (laws_FnGates.j3 k3 l1 t544 (!t583))) else (laws_FnGates.j3 k3 l1 t544 true)) = some r := by rw [if_neg (show ¬ (false = true) by decide)] at H; exact H
                 clear H
                 have H := H1
                 clear H1
                 by_cases c48 : (t578.length : Int) = (t544.length : Int)
                 ·rw [if_pos c48] at H
                  have c48b0 : ((t578.length : Int) == (t544.length : Int)) = true := beq_iff_eq.mpr c48
                  have c48b1 : ((t578.length : Int) != (t544.length : Int)) = false := bne_eq_false_iff_eq.mpr c48
                  have c48b2 : (t578.length == t544.length) = true := by first | simpa using c48 | (simp at c48 ⊢; omega)
                  clear c48
                  (first | rw [c48b0] | (simp only [i64_w, i32_w]; rw [c48b0]) | skip)
                  replace H := Option.bind_eq_some_iff.mp H
                  obtain ⟨t583, A490, H⟩ := H
                  replace H : (laws_FnGates.j3 k3 l1 t544 (!t583)) = some r := H
                  have A49 := am_ A490
                  clear A490
                  as_aux_lemma =>
                   have H' := am_ H
                   clear H
                   obtain ⟨Ao50, co50, eo50⟩ := Kd.R_slice HO582.out
                   subst eo50
                   obtain ⟨Ao51, co51, eo51⟩ := Kd.R_slice HO_7.out
                   subst eo51
                   go_wp2_with (first | (go_at_call 24; (with_reducible refine (laws_allIn.calls k3 _ _ t578 _ _ t550 t583 _ ?side1 ?side2 ?side3 ?side4 A49.out).mono ?_); (case side1 => exact cm_ (Kd.R_reads' HO582.out).2.2); (case side2 => exact (Kd.R_reads' HO582.out).2.1); (case side3 => exact cm_ (Kd.R_reads' HO_7.out).2.2); (case side4 => exact (Kd.R_reads' HO_7.out).2.1); rintro e w' ⟨rfl, ⟨nd, rfl⟩⟩))
                   go_meet
                   case rel => exact ⟨_, (!t583), y53_, H', ⟨by have := HJ6.out; have := HK2.out; have := HK3.out; first | omega | exact Nat.le_refl _⟩, ⟨rq_ HO_5.out⟩, ⟨bq_⟩⟩
                 ·rw [if_neg c48] at H
                  have c48b0 : ((t578.length : Int) == (t544.length : Int)) = false := beq_eq_false_iff_ne.mpr c48
                  have c48b1 : ((t578.length : Int) != (t544.length : Int)) = true := bne_iff_ne.mpr c48
                  have c48b2 : (t578.length == t544.length) = false := by first | simpa using c48 | (simp at c48 ⊢; omega)
                  (first | rw [c48b0] | (simp only [i64_w, i32_w]; rw [c48b0]) | skip)
                  exact (laws_FnGates.j3_no_2 y55_).elim
               ·replace c46 := Bool.eq_false_iff.mpr c46
                subst c46
                have H1 : (laws_FnGates.j3 k3 l1 t544 true) = some r := by rw [if_neg (show ¬ (false = true) by decide)] at H; exact H
                clear H
                have H := H1
                clear H1
                exact (laws_FnGates.j3_no_2 y55_).elim
              ·replace c45 := Bool.eq_false_iff.mpr c45
               subst c45
               have H1 : (laws_FnGates.j3 k3 l1 t544 true) = some r := by rw [if_neg (show ¬ (false = true) by decide)] at H; exact H
               clear H
               have H := H1
               clear H1
               exact (laws_FnGates.j3_no_2 y55_).elim
             case rest =>
              clear HC41
              try clear c1
              try clear c2
              try clear p2
              try clear c3
              try clear c3b0
              try clear q3
              try clear c4
              try clear c5
              try clear p5
              try clear q5
              try clear hx5
              try clear p6
              try clear c10
              try clear c13
              try clear c13b0
              try clear c13b1
              try clear c13b2
              try clear c17
              try clear c18
              try clear c19
              try clear c20
              try clear c22
              try clear c22b0
              try clear c23
              try clear c24
              try clear c25
              try clear c30
              try clear c30b0
              try clear c31
              try clear c31b0
              try clear c32
              try clear c32b0
              try clear c33
              try clear c33b0
              try clear q34
              try clear c35
              try clear c36
              try clear c38
              try clear c45
              try clear c46
              try clear c47
              try clear c48
              try clear c48b0
              try clear c48b1
              try clear c48b2
              try clear hx570_0
              try clear hx571_0
              try clear p2
              try clear p570
              try clear p571
              try clear p6
              try clear q570
              try clear q571
              obtain ⟨kq, x152_40, rfl, HA, HJ40, HO_5, HB⟩ := hcut
              cases kq with
              | zero => exact absurd HA.out (by simp [laws_FnGates.j3])
              | succ kj40 =>
               have H := HA.out
               clear HA
               simp only [laws_FnGates.j3] at H
               by_cases c52 : x152_40 = true
               ·subst c52
                have H1 : (some false) = some r := by rw [if_pos rfl] at H; exact H
                clear H
                have H := H1
                clear H1
                exact absurd (Option.some.inj H).symm (by rw [hr_.out]; simp)
               ·replace c52 := Bool.eq_false_iff.mpr c52
                subst c52
                have H1 : ((impl_ClausesOf.f kj40 t544).bind fun bt584 => ((impl_CanBe.f kj40 t544).bind fun bt588 => ((impl_Solve.f kj40 (t544.length : Int) bt584.1).bind fun bt593 => (if bt584.2 = true then (if bt588.2.2 = true then (if bt593.2.2.2 = true then (if (bt593.1 != bt588.1) = true then (some false) else (laws_FnGates.j4 kj40 l1)) else (laws_FnGates.j4 kj40 l1)) else (some false)) else (some false))))) = some r := by rw [if_neg (show ¬ (false = true) by decide)] at H; exact H
                clear H
                have H := H1
                clear H1
                replace H := Option.bind_eq_some_iff.mp H
                obtain ⟨⟨t584, t587⟩, A530, H⟩ := H
                replace H : ((impl_CanBe.f kj40 t544).bind fun bt588 => ((impl_Solve.f kj40 (t544.length : Int) t584).bind fun bt593 => (if t587 = true then (if bt588.2.2 = true then (if bt593.2.2.2 = true then (if (bt593.1 != bt588.1) = true then (some false) else (laws_FnGates.j4 kj40 l1)) else (laws_FnGates.j4 kj40 l1)) else (some false)) else (some false)))) = some r := H
                have A53 := am_ A530
                clear A530
                replace H := Option.bind_eq_some_iff.mp H
                obtain ⟨⟨t588, t589, t590⟩, A540, H⟩ := H
                replace H : ((impl_Solve.f kj40 (t544.length : Int) t584).bind fun bt593 => (if t587 = true then (if t590 = true then (if bt593.2.2.2 = true then (if (bt593.1 != t588) = true then (some false) else (laws_FnGates.j4 kj40 l1)) else (laws_FnGates.j4 kj40 l1)) else (some false)) else (some false))) = some r := H
                have A54 := am_ A540
                clear A540
                replace H := Option.bind_eq_some_iff.mp H
                obtain ⟨⟨t593, t594, t595, t596⟩, A550, H⟩ := H
                replace H : (if t587 = true then (if t590 = true then (if t596 = true then (if (t593 != t588) = true then (some false) else (laws_FnGates.j4 kj40 l1)) else (laws_FnGates.j4 kj40 l1)) else (some false)) else (some false)) = some r := H
                have A55 := am_ A550
                clear A550
                by_cases c56 : t587 = true
                ·subst c56
                 have H1 : (if t590 = true then (if t596 = true then (if (t593 != t588) = true then (some false) else (laws_FnGates.j4 kj40 l1)) else (laws_FnGates.j4 kj40 l1)) else (some false)) = some r := by rw [if_pos rfl] at H; exact H
                 clear H
                 have H := H1
                 clear H1
                 by_cases c57 : t590 = true
                 ·subst c57
                  have H1 : (if t596 = true then (if (t593 != t588) = true then (some false) else (laws_FnGates.j4 kj40 l1)) else (laws_FnGates.j4 kj40 l1)) = some r := by rw [if_pos rfl] at H; exact H
                  clear H
                  have H := H1
                  clear H1
                  by_cases c58 : t596 = true
                  ·subst c58
                   have H1 : (if (t593 != t588) = true then (some false) else (laws_FnGates.j4 kj40 l1)) = some r := by rw [if_pos rfl] at H; exact H
                   clear H
                   have H := H1
                   clear H1
                   by_cases c59 : (t593 != t588) = true
                   ·rw [if_pos c59] at H
                    have c59b0 : (t593 != t588) = true := c59
                    (try (have c59b1 : decide (t593 = t588) = false := by simpa using c59))
                    (try (have c59b2 : (t593 == t588) = false := by simpa using c59))
                    (try (have c59b3 : ¬ (t593 = t588) := by simpa using c59))
                    clear c59
                    exact absurd (Option.some.inj H).symm (by rw [hr_.out]; simp)
                   ·rw [if_neg c59] at H
                    have c59b0 : (t593 != t588) = false := by simpa using c59
                    (try (have c59b1 : decide (t593 = t588) = true := by simpa using c59))
                    (try (have c59b2 : (t593 == t588) = true := by simpa using c59))
                    clear c59
                    as_aux_lemma =>
                     have H' := am_ H
                     clear H
                     go_wp2_with (first | ((with_reducible refine gl_ 17 rfl ?_); refine goesM_ (some 155) Try.func17 #[.slice Ao9 t544.length co9] ?_; (with_reducible refine (impl_ClausesOf.calls kj40 _ _ t544 t584 true _ ?side1 ?side2 A53.out).mono ?_); (case side1 => exact cm_ (Kd.R_reads' HO_5.out).2.2); (case side2 => exact (Kd.R_reads' HO_5.out).2.1); rintro e w60 ⟨v585, rfl, ho0, hb⟩; refine ⟨_, rfl, ?_⟩; have HO586 := am_ (Kd.N_lower (Kd.N_mono (ok' := fun k_ => some k_ ≠ (.slice Ao9 t544.length co9 : Value).ownBlock) ho0 (fun k_ hk_ => (Kd.fresh' (Kd.R_lt (rq_ HO_5.out)) k_ hk_))) (below_size (bq_))); replace HO_5 := am_ (Kd.R_below (rq_ HO_5.out) hb); replace HB := bs_ hb; (try clear hb); (try clear ho0)) | ((with_reducible refine gl_ 25 rfl ?_); refine goesM_ (some 160) Try.func25 #[.slice Ao9 t544.length co9] ?_; (with_reducible refine (impl_CanBe.calls kj40 _ _ t544 t588 t589 true _ ?side1 ?side2 A54.out).mono ?_); (case side1 => exact cm_ (Kd.R_reads' HO_5.out).2.2); (case side2 => exact (Kd.R_reads' HO_5.out).2.1); rintro e w61 ⟨v591, rfl, ho0, hb⟩; refine ⟨_, rfl, ?_⟩; replace HO_5 := am_ (Kd.R_below (rq_ HO_5.out) hb); replace HO586 := am_ (Kd.N_elder' y42_ (Kd.R_base ho0) hb); have HO592 := am_ (Kd.R_lower ho0 (below_size (bq_))); replace HB := bs_ hb; (try clear hb); (try clear ho0); obtain ⟨Ao62, co62, eo62⟩ := Kd.N_slice HO586.out; subst eo62) | ((with_reducible refine gl_ 26 rfl ?_); refine goesM_ (some 168) Try.func26 #[.int .i64 (t544.length : Int), .slice Ao62 t584.length co62] ?_; (with_reducible refine (impl_Solve.calls kj40 (t544.length : Int) _ _ t584 t593 t594 t595 true _ ?side1 ?side2 A55.out).mono ?_); (case side1 => exact cm_ (Kd.N_reads' HO586.out).2.2); (case side2 => exact (Kd.N_reads' HO586.out).2.1); rintro e w63 ⟨v597, v599, rfl, ho0, ho1, hb⟩; refine ⟨_, rfl, ?_⟩; have HO598 := am_ (Kd.R_lower (Kd.R_new' ho0 (Kd.R_lt (rq_ HO592.out))) (below_size (bq_))); have HO600 := am_ (Kd.N_lower (Kd.N_mono (ok' := fun k_ => some k_ ≠ (v597 : Value).ownBlock ∧ some k_ ≠ (.slice Ao9 t544.length co9 : Value).ownBlock ∧ some k_ ≠ (.slice Ao62 t584.length co62 : Value).ownBlock ∧ some k_ ≠ (v591 : Value).ownBlock) (Kd.S_N (Kd.S_bound (Kd.S_apart' ho1 (Kd.R_typed ho0) (by decide)))) (fun k_ hk_ => ⟨hk_.1.2, (Kd.fresh' (Kd.R_lt (rq_ HO_5.out)) k_ hk_.2.1), (Kd.fresh' (Kd.N_lt y42_) k_ hk_.2.1), (Kd.fresh' (Kd.R_lt (rq_ HO592.out)) k_ hk_.2.1)⟩)) (below_size (bq_))); replace HO_5 := am_ (Kd.R_below (rq_ HO_5.out) hb); replace HO586 := am_ (Kd.N_mono (Kd.N_told (Kd.N_told (Kd.N_old y42_ hb) (Kd.R_base ho0)) (Kd.S_base ho1)) (fun _ h_ => h_.1)); replace HO592 := am_ (Kd.R_elder' (rq_ HO592.out) (Kd.R_base ho0) hb); replace HB := bs_ hb; (try clear hb); (try clear ho0); (try clear ho1)))
                     go_meet
                     case rel => exact ⟨_, H', ⟨by have := HJ6.out; have := HK2.out; have := HK3.out; have := HJ40.out; first | omega | exact Nat.le_refl _⟩, ⟨bq_⟩⟩
                  ·replace c58 := Bool.eq_false_iff.mpr c58
                   subst c58
                   have H1 : (laws_FnGates.j4 kj40 l1) = some r := by rw [if_neg (show ¬ (false = true) by decide)] at H; exact H
                   clear H
                   have H := H1
                   clear H1
                   as_aux_lemma =>
                    have H' := am_ H
                    clear H
                    go_wp2_with (first | ((with_reducible refine gl_ 17 rfl ?_); refine goesM_ (some 155) Try.func17 #[.slice Ao9 t544.length co9] ?_; (with_reducible refine (impl_ClausesOf.calls kj40 _ _ t544 t584 true _ ?side1 ?side2 A53.out).mono ?_); (case side1 => exact cm_ (Kd.R_reads' HO_5.out).2.2); (case side2 => exact (Kd.R_reads' HO_5.out).2.1); rintro e w64 ⟨v585, rfl, ho0, hb⟩; refine ⟨_, rfl, ?_⟩; have HO586 := am_ (Kd.N_lower (Kd.N_mono (ok' := fun k_ => some k_ ≠ (.slice Ao9 t544.length co9 : Value).ownBlock) ho0 (fun k_ hk_ => (Kd.fresh' (Kd.R_lt (rq_ HO_5.out)) k_ hk_))) (below_size (bq_))); replace HO_5 := am_ (Kd.R_below (rq_ HO_5.out) hb); replace HB := bs_ hb; (try clear hb); (try clear ho0)) | ((with_reducible refine gl_ 25 rfl ?_); refine goesM_ (some 160) Try.func25 #[.slice Ao9 t544.length co9] ?_; (with_reducible refine (impl_CanBe.calls kj40 _ _ t544 t588 t589 true _ ?side1 ?side2 A54.out).mono ?_); (case side1 => exact cm_ (Kd.R_reads' HO_5.out).2.2); (case side2 => exact (Kd.R_reads' HO_5.out).2.1); rintro e w65 ⟨v591, rfl, ho0, hb⟩; refine ⟨_, rfl, ?_⟩; replace HO_5 := am_ (Kd.R_below (rq_ HO_5.out) hb); replace HO586 := am_ (Kd.N_elder' y42_ (Kd.R_base ho0) hb); have HO592 := am_ (Kd.R_lower ho0 (below_size (bq_))); replace HB := bs_ hb; (try clear hb); (try clear ho0); obtain ⟨Ao66, co66, eo66⟩ := Kd.N_slice HO586.out; subst eo66) | ((with_reducible refine gl_ 26 rfl ?_); refine goesM_ (some 168) Try.func26 #[.int .i64 (t544.length : Int), .slice Ao66 t584.length co66] ?_; (with_reducible refine (impl_Solve.calls kj40 (t544.length : Int) _ _ t584 t593 t594 t595 false _ ?side1 ?side2 A55.out).mono ?_); (case side1 => exact cm_ (Kd.N_reads' HO586.out).2.2); (case side2 => exact (Kd.N_reads' HO586.out).2.1); rintro e w67 ⟨v597, v599, rfl, ho0, ho1, hb⟩; refine ⟨_, rfl, ?_⟩; have HO598 := am_ (Kd.R_lower (Kd.R_new' ho0 (Kd.R_lt (rq_ HO592.out))) (below_size (bq_))); have HO600 := am_ (Kd.N_lower (Kd.N_mono (ok' := fun k_ => some k_ ≠ (v597 : Value).ownBlock ∧ some k_ ≠ (.slice Ao9 t544.length co9 : Value).ownBlock ∧ some k_ ≠ (.slice Ao66 t584.length co66 : Value).ownBlock ∧ some k_ ≠ (v591 : Value).ownBlock) (Kd.S_N (Kd.S_bound (Kd.S_apart' ho1 (Kd.R_typed ho0) (by decide)))) (fun k_ hk_ => ⟨hk_.1.2, (Kd.fresh' (Kd.R_lt (rq_ HO_5.out)) k_ hk_.2.1), (Kd.fresh' (Kd.N_lt y42_) k_ hk_.2.1), (Kd.fresh' (Kd.R_lt (rq_ HO592.out)) k_ hk_.2.1)⟩)) (below_size (bq_))); replace HO_5 := am_ (Kd.R_below (rq_ HO_5.out) hb); replace HO586 := am_ (Kd.N_mono (Kd.N_told (Kd.N_told (Kd.N_old y42_ hb) (Kd.R_base ho0)) (Kd.S_base ho1)) (fun _ h_ => h_.1)); replace HO592 := am_ (Kd.R_elder' (rq_ HO592.out) (Kd.R_base ho0) hb); replace HB := bs_ hb; (try clear hb); (try clear ho0); (try clear ho1)))
                    go_meet
                    case rel => exact ⟨_, H', ⟨by have := HJ6.out; have := HK2.out; have := HK3.out; have := HJ40.out; first | omega | exact Nat.le_refl _⟩, ⟨bq_⟩⟩
                 ·replace c57 := Bool.eq_false_iff.mpr c57
                  subst c57
                  have H1 : (some false) = some r := by rw [if_neg (show ¬ (false = true) by decide)] at H; exact H
                  clear H
                  have H := H1
                  clear H1
                  exact absurd (Option.some.inj H).symm (by rw [hr_.out]; simp)
                ·replace c56 := Bool.eq_false_iff.mpr c56
                 subst c56
                 have H1 : (some false) = some r := by rw [if_neg (show ¬ (false = true) by decide)] at H; exact H
                 clear H
                 have H := H1
                 clear H1
                 exact absurd (Option.some.inj H).symm (by rw [hr_.out]; simp)
      ·replace c19 := Bool.eq_false_iff.mpr c19
       subst c19
       have H1 : (laws_FnGates.j4 kj6 l1) = some r := by rw [if_neg (show ¬ (false = true) by decide)] at H; exact H
       clear H
       have H := H1
       clear H1
       as_aux_lemma =>
        have H' := am_ H
        clear H
        go_wp2
        go_meet
        case rel => exact ⟨_, H', ⟨by have := HJ6.out; first | omega | exact Nat.le_refl _⟩, ⟨bq_⟩⟩
     case rest =>
      clear HC18
      try clear c1
      try clear c2
      try clear p2
      try clear c3
      try clear c3b0
      try clear q3
      try clear c4
      try clear c5
      try clear p5
      try clear q5
      try clear hx5
      try clear p6
      try clear c10
      try clear c13
      try clear c13b0
      try clear c13b1
      try clear c13b2
      try clear c17
      try clear c18
      try clear c19
      try clear c20
      try clear c22
      try clear c22b0
      try clear c23
      try clear c24
      try clear c25
      try clear c26
      try clear c30
      try clear c30b0
      try clear c31
      try clear c31b0
      try clear c32
      try clear c32b0
      try clear c33
      try clear c33b0
      try clear q34
      try clear c35
      try clear c36
      try clear c38
      try clear c45
      try clear c46
      try clear c47
      try clear c48
      try clear c48b0
      try clear c48b1
      try clear c48b2
      try clear c52
      try clear c56
      try clear c57
      try clear p57
      try clear q57
      try clear hx57
      try clear c58
      try clear c59
      try clear c59b0
      try clear c59b1
      try clear c59b2
      try clear p64
      try clear hx570_0
      try clear hx571_0
      try clear p2
      try clear p5
      try clear p570
      try clear p571
      try clear p6
      try clear q3
      try clear q34
      try clear q5
      try clear q570
      try clear q571
      obtain ⟨kq, HA, HJ17, HB⟩ := hcut
      cases kq with
      | zero => exact absurd HA.out (by simp [laws_FnGates.j4])
      | succ kj17 =>
       have H := HA.out
       clear HA
       simp only [laws_FnGates.j4] at H
       replace H := Option.bind_eq_some_iff.mp H
       obtain ⟨⟨t601, t602⟩, A680, H⟩ := H
       replace H : ((impl_GateClauses.f kj17 t601 t602).bind fun bt605 => ((spec_GateClauses.f kj17 t601 t602).bind fun bt609 => ((spec_DrawInputsBy.f kj17 l1).bind fun bt613 => ((impl_InputsBy.f kj17 bt613.1 bt613.2).bind fun bt619 => ((spec_InputsBy.f kj17 bt613.1 bt613.2).bind fun bt623 => (if (bt605.2 == bt609.2) = true then ((laws_sameRows.f kj17 bt605.1 bt609.1).bind fun t627 => (if t627 = true then (if (bt619.2 == bt623.2) = true then ((laws_sameBools.f kj17 bt619.1 bt623.1).bind fun t628 => (some t628)) else (some false)) else (some false))) else (some false))))))) = some r := H
       have A68 := am_ A680
       clear A680
       replace H := Option.bind_eq_some_iff.mp H
       obtain ⟨⟨t605, t608⟩, A690, H⟩ := H
       replace H : ((spec_GateClauses.f kj17 t601 t602).bind fun bt609 => ((spec_DrawInputsBy.f kj17 l1).bind fun bt613 => ((impl_InputsBy.f kj17 bt613.1 bt613.2).bind fun bt619 => ((spec_InputsBy.f kj17 bt613.1 bt613.2).bind fun bt623 => (if (t608 == bt609.2) = true then ((laws_sameRows.f kj17 t605 bt609.1).bind fun t627 => (if t627 = true then (if (bt619.2 == bt623.2) = true then ((laws_sameBools.f kj17 bt619.1 bt623.1).bind fun t628 => (some t628)) else (some false)) else (some false))) else (some false)))))) = some r := H
       have A69 := am_ A690
       clear A690
       replace H := Option.bind_eq_some_iff.mp H
       obtain ⟨⟨t609, t612⟩, A700, H⟩ := H
       replace H : ((spec_DrawInputsBy.f kj17 l1).bind fun bt613 => ((impl_InputsBy.f kj17 bt613.1 bt613.2).bind fun bt619 => ((spec_InputsBy.f kj17 bt613.1 bt613.2).bind fun bt623 => (if (t608 == t612) = true then ((laws_sameRows.f kj17 t605 t609).bind fun t627 => (if t627 = true then (if (bt619.2 == bt623.2) = true then ((laws_sameBools.f kj17 bt619.1 bt623.1).bind fun t628 => (some t628)) else (some false)) else (some false))) else (some false))))) = some r := H
       have A70 := am_ A700
       clear A700
       replace H := Option.bind_eq_some_iff.mp H
       obtain ⟨⟨t613, t614⟩, A710, H⟩ := H
       replace H : ((impl_InputsBy.f kj17 t613 t614).bind fun bt619 => ((spec_InputsBy.f kj17 t613 t614).bind fun bt623 => (if (t608 == t612) = true then ((laws_sameRows.f kj17 t605 t609).bind fun t627 => (if t627 = true then (if (bt619.2 == bt623.2) = true then ((laws_sameBools.f kj17 bt619.1 bt623.1).bind fun t628 => (some t628)) else (some false)) else (some false))) else (some false)))) = some r := H
       have A71 := am_ A710
       clear A710
       replace H := Option.bind_eq_some_iff.mp H
       obtain ⟨⟨t619, t620⟩, A720, H⟩ := H
       replace H : ((spec_InputsBy.f kj17 t613 t614).bind fun bt623 => (if (t608 == t612) = true then ((laws_sameRows.f kj17 t605 t609).bind fun t627 => (if t627 = true then (if (t620 == bt623.2) = true then ((laws_sameBools.f kj17 t619 bt623.1).bind fun t628 => (some t628)) else (some false)) else (some false))) else (some false))) = some r := H
       have A72 := am_ A720
       clear A720
       replace H := Option.bind_eq_some_iff.mp H
       obtain ⟨⟨t623, t624⟩, A730, H⟩ := H
       replace H : (if (t608 == t612) = true then ((laws_sameRows.f kj17 t605 t609).bind fun t627 => (if t627 = true then (if (t620 == t624) = true then ((laws_sameBools.f kj17 t619 t623).bind fun t628 => (some t628)) else (some false)) else (some false))) else (some false)) = some r := H
       have A73 := am_ A730
       clear A730
       by_cases c74 : (t608 == t612) = true
       ·rw [if_pos c74] at H
        have c74b0 : (t608 == t612) = true := c74
        (try (have c74b1 : decide (t608 = t612) = true := by simpa using c74))
        (try (have c74b2 : (t608 == t612) = true := by simpa using c74))
        clear c74
        replace H := Option.bind_eq_some_iff.mp H
        obtain ⟨t627, A750, H⟩ := H
        replace H : (if t627 = true then (if (t620 == t624) = true then ((laws_sameBools.f kj17 t619 t623).bind fun t628 => (some t628)) else (some false)) else (some false)) = some r := H
        have A75 := am_ A750
        clear A750
        by_cases c76 : t627 = true
        ·subst c76
         have H1 : (if (t620 == t624) = true then ((laws_sameBools.f kj17 t619 t623).bind fun t628 => (some t628)) else (some false)) = some r := by rw [if_pos rfl] at H; exact H
         clear H
         have H := H1
         clear H1
         by_cases c77 : (t620 == t624) = true
         ·rw [if_pos c77] at H
          have c77b0 : (t620 == t624) = true := c77
          (try (have c77b1 : decide (t620 = t624) = true := by simpa using c77))
          (try (have c77b2 : (t620 == t624) = true := by simpa using c77))
          clear c77
          replace H := Option.bind_eq_some_iff.mp H
          obtain ⟨t628, A780, H⟩ := H
          replace H : (some t628) = some r := H
          have A78 := am_ A780
          clear A780
          as_aux_lemma =>
           obtain rfl := Option.some.inj H
           go_wp2_with (first | ((with_reducible refine gl_ 27 rfl ?_); refine goesM_ (some 189) Try.func27 #[.slice A1 l1.length c1] ?_; (with_reducible refine (spec_DrawGateClauses.calls kj17 _ _ l1 t601 t602 _ ?side1 ?side2 A68.out).mono ?_); (case side1 => exact cm_ (Kd.C_below HR1.out HB.out)); (case side2 => exact HC1.out); rintro e w79 ⟨v603, rfl, ho0, hb⟩; refine ⟨_, rfl, ?_⟩; have HO604 := am_ (Kd.R_lower ho0 (below_size (bq_))); replace HB := bs_ hb; (try clear hb); (try clear ho0); obtain ⟨Ao80, co80, eo80⟩ := Kd.R_slice HO604.out; subst eo80) | ((with_reducible refine gl_ 10 rfl ?_); refine goesM_ (some 195) Try.func10 #[.slice Ao80 t601.length co80, .int .i64 t602] ?_; (with_reducible refine (impl_GateClauses.calls kj17 _ _ t601 t602 t605 t608 _ ?side1 ?side2 A69.out).mono ?_); (case side1 => exact cm_ (Kd.R_reads' HO604.out).2.2); (case side2 => exact (Kd.R_reads' HO604.out).2.1); rintro e w81 ⟨v606, rfl, ho0, hb⟩; refine ⟨_, rfl, ?_⟩; have HO607 := am_ (Kd.N_lower (Kd.N_mono (ok' := fun k_ => some k_ ≠ (.slice Ao80 t601.length co80 : Value).ownBlock) ho0 (fun k_ hk_ => (Kd.fresh' (Kd.R_lt (rq_ HO604.out)) k_ hk_))) (below_size (bq_))); replace HO604 := am_ (Kd.R_below (rq_ HO604.out) hb); replace HB := bs_ hb; (try clear hb); (try clear ho0)) | ((with_reducible refine gl_ 8 rfl ?_); refine goesM_ (some 201) Try.func8 #[.slice Ao80 t601.length co80, .int .i64 t602] ?_; (with_reducible refine (spec_GateClauses.calls kj17 _ _ t601 t602 t609 t612 _ ?side1 ?side2 A70.out).mono ?_); (case side1 => exact cm_ (Kd.R_reads' HO604.out).2.2); (case side2 => exact (Kd.R_reads' HO604.out).2.1); rintro e w82 ⟨v610, rfl, ho0, hb⟩; refine ⟨_, rfl, ?_⟩; have HO611 := am_ (Kd.N_lower (Kd.N_mono (ok' := fun k_ => some k_ ≠ (.slice Ao80 t601.length co80 : Value).ownBlock ∧ some k_ ≠ (v606 : Value).ownBlock) ho0 (fun k_ hk_ => ⟨(Kd.fresh' (Kd.R_lt (rq_ HO604.out)) k_ hk_), (Kd.fresh' (Kd.N_lt y43_) k_ hk_)⟩)) (below_size (bq_))); replace HO604 := am_ (Kd.R_below (rq_ HO604.out) hb); replace HO607 := am_ (Kd.N_elder' y43_ (Kd.N_base ho0) hb); replace HB := bs_ hb; (try clear hb); (try clear ho0)) | ((with_reducible refine gl_ 28 rfl ?_); refine goesM_ (some 206) Try.func28 #[.slice A1 l1.length c1] ?_; (with_reducible refine (spec_DrawInputsBy.calls kj17 _ _ l1 t613 t614 _ ?side1 ?side2 A71.out).mono ?_); (case side1 => exact cm_ (Kd.C_below HR1.out HB.out)); (case side2 => exact HC1.out); rintro e w83 ⟨v615, v617, rfl, ho0, ho1, hb⟩; refine ⟨_, rfl, ?_⟩; replace HO607 := am_ (Kd.N_mono (Kd.N_told (Kd.N_told (Kd.N_old y43_ hb) (Kd.R_base ho0)) (Kd.R_base ho1)) (fun _ h_ => h_.1)); replace HO611 := am_ (Kd.N_mono (Kd.N_told (Kd.N_told (Kd.N_old y44_ hb) (Kd.R_base ho0)) (Kd.R_base ho1)) (fun _ h_ => h_.1)); have HO616 := am_ (Kd.R_lower (Kd.R_new' ho0 (Kd.R_lt (rq_ HO604.out))) (below_size (bq_))); replace HO604 := am_ (Kd.R_elder' (rq_ HO604.out) (Kd.R_base ho0) hb); have HO618 := am_ (Kd.R_lower ho1 (below_size (bq_))); replace HB := bs_ hb; (try clear hb); (try clear ho0); (try clear ho1); obtain ⟨Ao84, co84, eo84⟩ := Kd.R_slice HO616.out; subst eo84; obtain ⟨Ao85, co85, eo85⟩ := Kd.R_slice HO618.out; subst eo85) | ((with_reducible refine gl_ 29 rfl ?_); refine goesM_ (some 212) Try.func29 #[.slice Ao84 t613.length co84, .slice Ao85 t614.length co85] ?_; (with_reducible refine (impl_InputsBy.calls kj17 _ _ t613 _ _ t614 t619 t620 _ ?side1 ?side2 ?side3 ?side4 A72.out).mono ?_); (case side1 => exact cm_ (Kd.R_reads' HO616.out).2.2); (case side2 => exact (Kd.R_reads' HO616.out).2.1); (case side3 => exact cm_ (Kd.R_reads' HO618.out).2.2); (case side4 => exact (Kd.R_reads' HO618.out).2.1); rintro e w86 ⟨v621, rfl, ho0, hb⟩; refine ⟨_, rfl, ?_⟩; replace HO604 := am_ (Kd.R_below (rq_ HO604.out) hb); replace HO607 := am_ (Kd.N_elder' y43_ (Kd.R_base ho0) hb); replace HO611 := am_ (Kd.N_elder' y44_ (Kd.R_base ho0) hb); replace HO616 := am_ (Kd.R_below (rq_ HO616.out) hb); have HO622 := am_ (Kd.R_lower (Kd.R_new' ho0 (Kd.R_lt (rq_ HO618.out))) (below_size (bq_))); replace HO618 := am_ (Kd.R_elder' (rq_ HO618.out) (Kd.R_base ho0) hb); replace HB := bs_ hb; (try clear hb); (try clear ho0)) | ((with_reducible refine gl_ 30 rfl ?_); refine goesM_ (some 218) Try.func30 #[.slice Ao84 t613.length co84, .slice Ao85 t614.length co85] ?_; (with_reducible refine (spec_InputsBy.calls kj17 _ _ t613 _ _ t614 t623 t624 _ ?side1 ?side2 ?side3 ?side4 A73.out).mono ?_); (case side1 => exact cm_ (Kd.R_reads' HO616.out).2.2); (case side2 => exact (Kd.R_reads' HO616.out).2.1); (case side3 => exact cm_ (Kd.R_reads' HO618.out).2.2); (case side4 => exact (Kd.R_reads' HO618.out).2.1); rintro e w87 ⟨v625, rfl, ho0, hb⟩; refine ⟨_, rfl, ?_⟩; replace HO604 := am_ (Kd.R_below (rq_ HO604.out) hb); replace HO607 := am_ (Kd.N_elder' y43_ (Kd.R_base ho0) hb); replace HO611 := am_ (Kd.N_elder' y44_ (Kd.R_base ho0) hb); replace HO616 := am_ (Kd.R_below (rq_ HO616.out) hb); have HO626 := am_ (Kd.R_lower (Kd.R_new' (Kd.R_new' ho0 (Kd.R_lt (rq_ HO618.out))) (Kd.R_lt (rq_ HO622.out))) (below_size (bq_))); replace HO618 := am_ (Kd.R_elder' (rq_ HO618.out) (Kd.R_base ho0) hb); replace HO622 := am_ (Kd.R_elder' (rq_ HO622.out) (Kd.R_base ho0) hb); replace HB := bs_ hb; (try clear hb); (try clear ho0); obtain ⟨Ao88, co88, eo88⟩ := Kd.N_slice HO607.out; subst eo88; obtain ⟨Ao89, co89, eo89⟩ := Kd.N_slice HO611.out; subst eo89) | (go_at_call 31; (with_reducible refine (laws_sameRows.calls kj17 _ _ t605 _ _ t609 true _ ?side1 ?side2 ?side3 ?side4 A75.out).mono ?_); (case side1 => exact cm_ (Kd.N_reads' HO607.out).2.2); (case side2 => exact (Kd.N_reads' HO607.out).2.1); (case side3 => exact cm_ (Kd.N_reads' HO611.out).2.2); (case side4 => exact (Kd.N_reads' HO611.out).2.1); rintro e w' ⟨rfl, ⟨nd, rfl⟩⟩; obtain ⟨Ao90, co90, eo90⟩ := Kd.R_slice HO622.out; subst eo90; obtain ⟨Ao91, co91, eo91⟩ := Kd.R_slice HO626.out; subst eo91) | (go_at_call 21; (with_reducible refine (laws_sameBools.calls kj17 _ _ t619 _ _ t623 t628 _ ?side1 ?side2 ?side3 ?side4 A78.out).mono ?_); (case side1 => exact cm_ (Kd.R_reads' HO622.out).2.2); (case side2 => exact (Kd.R_reads' HO622.out).2.1); (case side3 => exact cm_ (Kd.R_reads' HO626.out).2.2); (case side4 => exact (Kd.R_reads' HO626.out).2.1); rintro e w' ⟨rfl, ⟨nd, rfl⟩⟩))
           go_ret
           exact ⟨by first | rfl | (simp [errW_none, errW_some] <;> rfl) | (simp [*, errW_none, errW_some] <;> rfl), bq_⟩
         ·rw [if_neg c77] at H
          have c77b0 : (t620 == t624) = false := by simpa using c77
          (try (have c77b1 : decide (t620 = t624) = false := by simpa using c77))
          (try (have c77b2 : (t620 == t624) = false := by simpa using c77))
          (try (have c77b3 : ¬ (t620 = t624) := by simpa using c77))
          clear c77
          exact absurd (Option.some.inj H).symm (by rw [hr_.out]; simp)
        ·replace c76 := Bool.eq_false_iff.mpr c76
         subst c76
         have H1 : (some false) = some r := by rw [if_neg (show ¬ (false = true) by decide)] at H; exact H
         clear H
         have H := H1
         clear H1
         exact absurd (Option.some.inj H).symm (by rw [hr_.out]; simp)
       ·rw [if_neg c74] at H
        have c74b0 : (t608 == t612) = false := by simpa using c74
        (try (have c74b1 : decide (t608 = t612) = false := by simpa using c74))
        (try (have c74b2 : (t608 == t612) = false := by simpa using c74))
        (try (have c74b3 : ¬ (t608 = t612) := by simpa using c74))
        clear c74
        exact absurd (Option.some.inj H).symm (by rw [hr_.out]; simp)
def laws_FnGates.Pure : Prop := ∀ (l0 : List Int) (l1 : List Int), l0.length ≤ maxLen → l0.length * 1 ≤ 140737488351232 → (∀ x ∈ l0, (Lit.int .u8 x).wf = true) → l1.length ≤ maxLen → l1.length * 1 ≤ 140737488351232 → (∀ x ∈ l1, (Lit.int .u8 x).wf = true) → ∃ k, laws_FnGates.f k l0 l1 = some true
theorem laws_FnGates.walk (P : laws_FnGates.Pure) (a0 : Option Addr) (len0 cap0 : Nat) (z0 : List Int) (a1 : Option Addr) (len1 cap1 : Nat) (z1 : List Int) (w : World) (w0 : (a0 = none ∧ len0 = 0 ∧ cap0 = 0 ∧ z0 = []) ∨ ∃ x, a0 = some x ∧ len0 ≤ cap0 ∧ cap0 ≤ maxLen ∧ z0.length = cap0 ∧ (∀ i, i < z0.length → w.cell? (x.add i) = some (.int .u8 (z0.getD i 0))) ∧ ∀ n ∈ z0, (Lit.int .u8 n).wf = true) (y0 : len0 * 1 ≤ 140737488351232) (w1 : (a1 = none ∧ len1 = 0 ∧ cap1 = 0 ∧ z1 = []) ∨ ∃ x, a1 = some x ∧ len1 ≤ cap1 ∧ cap1 ≤ maxLen ∧ z1.length = cap1 ∧ (∀ i, i < z1.length → w.cell? (x.add i) = some (.int .u8 (z1.getD i 0))) ∧ ∀ n ∈ z1, (Lit.int .u8 n).wf = true) (y1 : len1 * 1 ≤ 140737488351232) :
  Calls Try.prog 5 #[.slice a0 len0 cap0, .slice a1 len1 cap1] w fun e w' => e = .returned (.bool true) ∧ Below w.heap.size w w' := by
 obtain ⟨l0, rfl, hr0, hm0, hw0, hc0⟩ := ReadsInt.ofRowC w0
 obtain ⟨l1, rfl, hr1, hm1, hw1, hc1⟩ := ReadsInt.ofRowC w1
 obtain ⟨k, h⟩ := P l0 l1 hm0 y0 hw0 hm1 y1 hw1
 refine (laws_FnGates.calls k _ _ l0 _ _ l1 true w (Kd.C_of_reads (d := (0 : Int)) (h1 := fun _ => rfl) hr0) hc0 (Kd.C_of_reads (d := (0 : Int)) (h1 := fun _ => rfl) hr1) hc1 ⟨rfl⟩ h).mono ?_
 rintro e w' ⟨rfl, hd⟩
 exact ⟨rfl, hd⟩
end Go.Proofs.Ytgahidilhjijiaa.PGG

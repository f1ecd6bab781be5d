import Derived.Test.YtcmhkgpalfljbaaPICx0
import Derived.Test.YtcmhkgpalfljbaaPICx3
import Derived.Test.YtcmhkgpalfljbaaPICx6
import Derived.Test.YtcmhkgpalfljbaaPICx7
import Derived.Test.YtcmhkgpalfljbaaPICx8
import Derived.Test.YtcmhkgpalfljbaaPICx9
import Derived.Test.YtcmhkgpalfljbaaPICx10
import Derived.Test.YtcmhkgpalfljbaaPICx12
namespace Go.Proofs.Ytcmhkgpalfljbaa.PIC
open Go.RowKit Go.Proofs.YtcmhkgpalfljbaaW.PrintWords Go.Proofs.YtcmhkgpalfljbaaW.PrintLast Go.Proofs.YtcmhkgpalfljbaaW.PrintMore
attribute [local go_sem] max2_int min2_int max_two min_two max_three min_three max_four min_four   -- for this text's walks alone
set_option linter.unusedVariables false
set_option linter.unusedSimpArgs false
mutual
def laws_FnCounted.j0 : Nat → List Int → List (S51) → Int → Int → Bool → List Int → Bool → Option (Bool)
  | 0, _, _, _, _, _, _, _ => none
  | k + 1, x1, x5, x6, x7, x8, x11, x85 => if x85 = true then (some false) else (if x8 = true then (laws_FnCounted.l0 k x1 x5 x6 x7 0 x11 (x11.length : Int) 0) else (laws_FnCounted.j2 k x1))
def laws_FnCounted.j2 : Nat → List Int → Option (Bool)
  | 0, _ => none
  | k + 1, x1 => (spec_DrawLeadersOf.f k x1).bind fun t474 => ((impl_LeadersOf.f k t474).bind fun bt477 => ((spec_LeadersOf.f k t474).bind fun bt481 => ((spec_DrawEndsFrom.f k x1).bind fun bt485 => ((impl_EndsFrom.f k bt485.1 bt485.2).bind fun bt489 => ((spec_EndsFrom.f k bt485.1 bt485.2).bind fun bt493 => (if (bt477.2 == bt481.2) = true then ((laws_sameInts.f k bt477.1 bt481.1).bind fun t497 => (if t497 = true then (if (bt489.2 == bt493.2) = true then ((laws_sameInts.f k bt489.1 bt493.1).bind fun t498 => (some t498)) else (some false)) else (some false))) else (some false)))))))
def laws_FnCounted.l0 : Nat → List Int → List (S51) → Int → Int → Int → List Int → Int → Int → Option (Bool)
  | 0, _, _, _, _, _, _, _, _ => none
  | k + 1, x1, x5, x6, x7, x15, x87, x88, x89 => if x89 < x88 then (if 0 ≤ x89 then (if x89 < (x87.length : Int) then ((impl_WayCount.f k x5 (rd x87 x89)).bind fun bt466 => (if bt466.2 = true then (laws_FnCounted.l0 k x1 x5 x6 x7 (wrap64 (x15 + bt466.1)) x87 x88 (wrap64 (x89 + 1))) else (some false))) else (none)) else (none)) else ((impl_ReachedIn.f k x5).bind fun bt468 => (if bt468.2 = true then (if x6 > 0 then (if x15 = x7 then ((laws_has.f k bt468.1 x6).bind fun t472 => (if ((decide (x7 > 0)) != t472) = true then (some false) else (laws_FnCounted.j2 k x1))) else (some false)) else ((laws_has.f k bt468.1 x6).bind fun t473 => (if ((decide (x7 > 0)) != t473) = true then (some false) else (laws_FnCounted.j2 k x1)))) else (some false)))
end
def laws_FnCounted.f (k : Nat) (l0 : List Int) (l1 : List Int) : Option (Bool) := if (wrap64 ((l0.length : Int) + (l1.length : Int))) > 1048576 then (some true) else ((spec_DrawWayCount.f k l0).bind fun bt448 => ((impl_WayCount.f k bt448.1 bt448.2).bind fun bt452 => ((spec_WayCount.f k bt448.1 bt448.2).bind fun bt454 => ((impl_AheadOf.f k bt448.1 bt448.2).bind fun bt456 => ((spec_AheadOf.f k bt448.1 bt448.2).bind fun bt460 => (if (bt452.2 != bt454.2) = true then (laws_FnCounted.j0 k l1 bt448.1 bt448.2 bt452.1 bt452.2 bt456.1 true) else (if bt452.1 = bt454.1 then (if (bt456.2 != bt460.2) = true then (laws_FnCounted.j0 k l1 bt448.1 bt448.2 bt452.1 bt452.2 bt456.1 true) else ((laws_sameInts.f k bt456.1 bt460.1).bind fun t464 => (laws_FnCounted.j0 k l1 bt448.1 bt448.2 bt452.1 bt452.2 bt456.1 (!t464)))) else (laws_FnCounted.j0 k l1 bt448.1 bt448.2 bt452.1 bt452.2 bt456.1 true))))))))
theorem laws_FnCounted.j0_no_6 {k : Nat} {y0 : List Int} {y1 : List (S51)} {y2 : Int} {y3 : Int} {y4 : Bool} {y5 : List Int} (h : laws_FnCounted.j0 k y0 y1 y2 y3 y4 y5 true = some true) : False := by
  cases k <;> simp [laws_FnCounted.j0] at h
set_option maxHeartbeats 8000000 in
set_option maxRecDepth 100000 in
theorem laws_FnCounted.calls (k : Nat) (A0 : Option Addr) (c0 : Nat) (l0 : List Int) (A1 : Option Addr) (c1 : Nat) (l1 : List Int) (r : Bool) (w : World) (hr0 : Kd.C (Kd.int .u8) w A0 l0.length l0) (hc0 : l0.length ≤ c0) (hr1 : Kd.C (Kd.int .u8) w A1 l1.length l1) (hc1 : l1.length ≤ c1) (hr_ : Aside0 (r = true)) (h : laws_FnCounted.f k l0 l1 = some r) :
    Calls Try.prog 10 #[.slice A0 l0.length c0, .slice A1 l1.length c1] w fun e w' => e = .returned (.bool r) ∧ Below w.heap.size w w' := by
  have HR0 := Aside0.mk hr0
  have HC0 := Aside0.mk hc0
  clear hr0 hc0
  have HR1 := Aside0.mk hr1
  have HC1 := Aside0.mk hc1
  clear hr1 hc1
  have HB := Aside0.mk (Below.refl w.heap.size w)
  have H : (if (wrap64 ((l0.length : Int) + (l1.length : Int))) > 1048576 then (some true) else ((spec_DrawWayCount.f k l0).bind fun bt448 => ((impl_WayCount.f k bt448.1 bt448.2).bind fun bt452 => ((spec_WayCount.f k bt448.1 bt448.2).bind fun bt454 => ((impl_AheadOf.f k bt448.1 bt448.2).bind fun bt456 => ((spec_AheadOf.f k bt448.1 bt448.2).bind fun bt460 => (if (bt452.2 != bt454.2) = true then (laws_FnCounted.j0 k l1 bt448.1 bt448.2 bt452.1 bt452.2 bt456.1 true) else (if bt452.1 = bt454.1 then (if (bt456.2 != bt460.2) = true then (laws_FnCounted.j0 k l1 bt448.1 bt448.2 bt452.1 bt452.2 bt456.1 true) else ((laws_sameInts.f k bt456.1 bt460.1).bind fun t464 => (laws_FnCounted.j0 k l1 bt448.1 bt448.2 bt452.1 bt452.2 bt456.1 (!t464)))) else (laws_FnCounted.j0 k l1 bt448.1 bt448.2 bt452.1 bt452.2 bt456.1 true))))))))) = some r := h
  clear h
  by_cases c3 : (wrap64 ((l0.length : Int) + (l1.length : Int))) > 1048576
  · rw [if_pos c3] at H
    have c3b0 : decide (1048576 < (wrap64 ((l0.length : Int) + (l1.length : Int)))) = true := decide_eq_true c3
    clear c3
    obtain rfl := Option.some.inj H
    go_enter Try.func10, Try.ntmps10
    go_wp2
    go_ret
    exact ⟨by first | rfl | (simp [errW_none, errW_some] <;> rfl) | (simp [*, errW_none, errW_some] <;> rfl), bq_⟩
  · rw [if_neg c3] at H
    have c3b0 : decide (1048576 < (wrap64 ((l0.length : Int) + (l1.length : Int)))) = false := decide_eq_false c3
    clear c3
    replace H := Option.bind_eq_some_iff.mp H
    obtain ⟨⟨t448, t449⟩, A40, H⟩ := H
    replace H : ((impl_WayCount.f k t448 t449).bind fun bt452 => ((spec_WayCount.f k t448 t449).bind fun bt454 => ((impl_AheadOf.f k t448 t449).bind fun bt456 => ((spec_AheadOf.f k t448 t449).bind fun bt460 => (if (bt452.2 != bt454.2) = true then (laws_FnCounted.j0 k l1 t448 t449 bt452.1 bt452.2 bt456.1 true) else (if bt452.1 = bt454.1 then (if (bt456.2 != bt460.2) = true then (laws_FnCounted.j0 k l1 t448 t449 bt452.1 bt452.2 bt456.1 true) else ((laws_sameInts.f k bt456.1 bt460.1).bind fun t464 => (laws_FnCounted.j0 k l1 t448 t449 bt452.1 bt452.2 bt456.1 (!t464)))) else (laws_FnCounted.j0 k l1 t448 t449 bt452.1 bt452.2 bt456.1 true))))))) = some r := H
    have A4 := Aside0.mk A40
    clear A40
    replace H := Option.bind_eq_some_iff.mp H
    obtain ⟨⟨t452, t453⟩, A50, H⟩ := H
    replace H : ((spec_WayCount.f k t448 t449).bind fun bt454 => ((impl_AheadOf.f k t448 t449).bind fun bt456 => ((spec_AheadOf.f k t448 t449).bind fun bt460 => (if (t453 != bt454.2) = true then (laws_FnCounted.j0 k l1 t448 t449 t452 t453 bt456.1 true) else (if t452 = bt454.1 then (if (bt456.2 != bt460.2) = true then (laws_FnCounted.j0 k l1 t448 t449 t452 t453 bt456.1 true) else ((laws_sameInts.f k bt456.1 bt460.1).bind fun t464 => (laws_FnCounted.j0 k l1 t448 t449 t452 t453 bt456.1 (!t464)))) else (laws_FnCounted.j0 k l1 t448 t449 t452 t453 bt456.1 true)))))) = some r := H
    have A5 := Aside0.mk A50
    clear A50
    replace H := Option.bind_eq_some_iff.mp H
    obtain ⟨⟨t454, t455⟩, A60, H⟩ := H
    replace H : ((impl_AheadOf.f k t448 t449).bind fun bt456 => ((spec_AheadOf.f k t448 t449).bind fun bt460 => (if (t453 != t455) = true then (laws_FnCounted.j0 k l1 t448 t449 t452 t453 bt456.1 true) else (if t452 = t454 then (if (bt456.2 != bt460.2) = true then (laws_FnCounted.j0 k l1 t448 t449 t452 t453 bt456.1 true) else ((laws_sameInts.f k bt456.1 bt460.1).bind fun t464 => (laws_FnCounted.j0 k l1 t448 t449 t452 t453 bt456.1 (!t464)))) else (laws_FnCounted.j0 k l1 t448 t449 t452 t453 bt456.1 true))))) = some r := H
    have A6 := Aside0.mk A60
    clear A60
    replace H := Option.bind_eq_some_iff.mp H
    obtain ⟨⟨t456, t457⟩, A70, H⟩ := H
    replace H : ((spec_AheadOf.f k t448 t449).bind fun bt460 => (if (t453 != t455) = true then (laws_FnCounted.j0 k l1 t448 t449 t452 t453 t456 true) else (if t452 = t454 then (if (t457 != bt460.2) = true then (laws_FnCounted.j0 k l1 t448 t449 t452 t453 t456 true) else ((laws_sameInts.f k t456 bt460.1).bind fun t464 => (laws_FnCounted.j0 k l1 t448 t449 t452 t453 t456 (!t464)))) else (laws_FnCounted.j0 k l1 t448 t449 t452 t453 t456 true)))) = some r := H
    have A7 := Aside0.mk A70
    clear A70
    replace H := Option.bind_eq_some_iff.mp H
    obtain ⟨⟨t460, t461⟩, A80, H⟩ := H
    replace H : (if (t453 != t455) = true then (laws_FnCounted.j0 k l1 t448 t449 t452 t453 t456 true) else (if t452 = t454 then (if (t457 != t461) = true then (laws_FnCounted.j0 k l1 t448 t449 t452 t453 t456 true) else ((laws_sameInts.f k t456 t460).bind fun t464 => (laws_FnCounted.j0 k l1 t448 t449 t452 t453 t456 (!t464)))) else (laws_FnCounted.j0 k l1 t448 t449 t452 t453 t456 true))) = some r := H
    have A8 := Aside0.mk A80
    clear A80
    have HC9 := Aside0.mk H
    clear H
    go_enter Try.func10, Try.ntmps10
    go_upto_region 8 with (first | ((with_reducible refine gate_callee (f := 33) rfl ?_); refine goesL_ (some 40) rfl rfl Try.func33 (by kernel_rfl) rfl #[.slice A0 l0.length c0] rfl (by (try simp only [List.map_toArray, List.map_cons, List.map_nil]); first | done | rfl | (simp only [List.length_drop, List.length_take]; rfl)) ?_; (with_reducible refine (spec_DrawWayCount.calls k _ _ l0 t448 t449 _ ?side1 ?side2 A4.out).mono ?_); (case side1 => repeat (first | exact HR0.out | (with_reducible refine Kd.C_alloc ?_ _) | (with_reducible refine Kd.C_drewN ?_ _) | (with_reducible refine Kd.C_drew ?_))); (case side2 => exact HC0.out); rintro e w10 ⟨v450, rfl, ho0, hb⟩; refine ⟨_, rfl, ?_⟩; have n0_ := Aside0.mk (Kd.R_lower ho0 (below_size (bq_))); have n1_ := Aside0.mk (below_step (bq_) hb); clear HB; have HO451 := n0_; have HB := n1_; clear n0_ n1_; (try clear hb); (try clear hb2); (try clear hk); (try clear hi); (try clear ho0); obtain ⟨Ao11, co11, eo11⟩ := Kd.R_slice HO451.out; subst eo11) | ((with_reducible refine gate_callee (f := 15) rfl ?_); refine goesL_ (some 46) rfl rfl Try.func15 (by kernel_rfl) rfl #[.slice Ao11 t448.length co11, .int .i64 t449] rfl (by (try simp only [List.map_toArray, List.map_cons, List.map_nil]); first | done | rfl | (simp only [List.length_drop, List.length_take]; rfl)) ?_; (with_reducible refine (impl_WayCount.calls k _ _ t448 t449 t452 t453 _ ?side1 ?side2 A5.out).mono ?_); (case side1 => repeat (first | exact (Kd.R_reads' HO451.out).2.2 | (with_reducible refine Kd.C_alloc ?_ _) | (with_reducible refine Kd.C_drewN ?_ _) | (with_reducible refine Kd.C_drew ?_))); (case side2 => exact (Kd.R_reads' HO451.out).2.1); rintro e w12 ⟨rfl, hb⟩; refine ⟨_, rfl, ?_⟩; have n0_ := Aside0.mk (Kd.R_below (rq_ HO451.out) hb); have n1_ := Aside0.mk (below_step (bq_) hb); clear HO451; clear HB; have HO451 := n0_; have HB := n1_; clear n0_ n1_; (try clear hb); (try clear hb2); (try clear hk); (try clear hi)) | ((with_reducible refine gate_callee (f := 13) rfl ?_); refine goesL_ (some 52) rfl rfl Try.func13 (by kernel_rfl) rfl #[.slice Ao11 t448.length co11, .int .i64 t449] rfl (by (try simp only [List.map_toArray, List.map_cons, List.map_nil]); first | done | rfl | (simp only [List.length_drop, List.length_take]; rfl)) ?_; (with_reducible refine (spec_WayCount.calls k _ _ t448 t449 t454 t455 _ ?side1 ?side2 A6.out).mono ?_); (case side1 => repeat (first | exact (Kd.R_reads' HO451.out).2.2 | (with_reducible refine Kd.C_alloc ?_ _) | (with_reducible refine Kd.C_drewN ?_ _) | (with_reducible refine Kd.C_drew ?_))); (case side2 => exact (Kd.R_reads' HO451.out).2.1); rintro e w13 ⟨rfl, hb⟩; refine ⟨_, rfl, ?_⟩; have n0_ := Aside0.mk (Kd.R_below (rq_ HO451.out) hb); have n1_ := Aside0.mk (below_step (bq_) hb); clear HO451; clear HB; have HO451 := n0_; have HB := n1_; clear n0_ n1_; (try clear hb); (try clear hb2); (try clear hk); (try clear hi)) | ((with_reducible refine gate_callee (f := 28) rfl ?_); refine goesL_ (some 58) rfl rfl Try.func28 (by kernel_rfl) rfl #[.slice Ao11 t448.length co11, .int .i64 t449] rfl (by (try simp only [List.map_toArray, List.map_cons, List.map_nil]); first | done | rfl | (simp only [List.length_drop, List.length_take]; rfl)) ?_; (with_reducible refine (impl_AheadOf.calls k _ _ t448 t449 t456 t457 _ ?side1 ?side2 A7.out).mono ?_); (case side1 => repeat (first | exact (Kd.R_reads' HO451.out).2.2 | (with_reducible refine Kd.C_alloc ?_ _) | (with_reducible refine Kd.C_drewN ?_ _) | (with_reducible refine Kd.C_drew ?_))); (case side2 => exact (Kd.R_reads' HO451.out).2.1); rintro e w14 ⟨v458, rfl, ho0, hb⟩; refine ⟨_, rfl, ?_⟩; have n0_ := Aside0.mk (Kd.R_below (rq_ HO451.out) hb); have n1_ := Aside0.mk (Kd.R_lower ho0 (below_size (bq_))); have n2_ := Aside0.mk (below_step (bq_) hb); clear HO451; clear HB; have HO451 := n0_; have HO459 := n1_; have HB := n2_; clear n0_ n1_ n2_; (try clear hb); (try clear hb2); (try clear hk); (try clear hi); (try clear ho0)) | ((with_reducible refine gate_callee (f := 27) rfl ?_); refine goesL_ (some 64) rfl rfl Try.func27 (by kernel_rfl) rfl #[.slice Ao11 t448.length co11, .int .i64 t449] rfl (by (try simp only [List.map_toArray, List.map_cons, List.map_nil]); first | done | rfl | (simp only [List.length_drop, List.length_take]; rfl)) ?_; (with_reducible refine (spec_AheadOf.calls k _ _ t448 t449 t460 t461 _ ?side1 ?side2 A8.out).mono ?_); (case side1 => repeat (first | exact (Kd.R_reads' HO451.out).2.2 | (with_reducible refine Kd.C_alloc ?_ _) | (with_reducible refine Kd.C_drewN ?_ _) | (with_reducible refine Kd.C_drew ?_))); (case side2 => exact (Kd.R_reads' HO451.out).2.1); rintro e w15 ⟨v462, rfl, ho0, hb⟩; refine ⟨_, rfl, ?_⟩; have n0_ := Aside0.mk (Kd.R_below (rq_ HO451.out) hb); have n1_ := Aside0.mk (Kd.R_elder' (rq_ HO459.out) (Kd.R_base ho0) hb); have n2_ := Aside0.mk (Kd.R_lower (Kd.R_new' ho0 (Kd.R_lt (rq_ HO459.out))) (below_size (bq_))); have n3_ := Aside0.mk (below_step (bq_) hb); clear HO451; clear HO459; clear HB; have HO451 := n0_; have HO459 := n1_; have HO463 := n2_; have HB := n3_; clear n0_ n1_ n2_ n3_; (try clear hb); (try clear hb2); (try clear hk); (try clear hi); (try clear ho0)))
    (try simp only [Act.put, List.setIfInBounds_toArray, List.set_cons_zero, List.set_cons_succ])
    go_cut [85] (fun v85 wc => ∃ (kq : Nat) (x85_8 : Bool), v85 = .bool x85_8 ∧ Aside0 (laws_FnCounted.j0 kq l1 t448 t449 t452 t453 t456 x85_8 = some r) ∧ Aside0 (kq ≤ k) ∧ Aside0 (Kd.R k51 51 wc w.heap.size (fun _ => True) (.slice Ao11 t448.length co11) t448) ∧ Aside0 (Kd.R (Kd.int .i64) 3 wc w.heap.size (fun _ => True) v458 t456) ∧ Aside0 (Below w.heap.size w wc))
    case first =>
      have H := HC9.out
      clear HC9
      by_cases c16 : (t453 != t455) = true
      · rw [if_pos c16] at H
        have c16b0 : (t453 != t455) = true := c16
        (try (have c16b1 : decide (t453 = t455) = false := by simpa using c16))
        (try (have c16b2 : (t453 == t455) = false := by simpa using c16))
        (try (have c16b3 : ¬ (t453 = t455) := by simpa using c16))
        clear c16
        (first | rw [c16b0] | (simp only [i64_w, i32_w]; rw [c16b0]) | skip)
        exact (laws_FnCounted.j0_no_6 (by rw [hr_.out] at H; exact H)).elim
      · rw [if_neg c16] at H
        have c16b0 : (t453 != t455) = false := by simpa using c16
        (try (have c16b1 : decide (t453 = t455) = true := by simpa using c16))
        (try (have c16b2 : (t453 == t455) = true := by simpa using c16))
        clear c16
        (first | rw [c16b0] | (simp only [i64_w, i32_w]; rw [c16b0]) | skip)
        by_cases c17 : t452 = t454
        · rw [if_pos c17] at H
          have c17b0 : (t452 == t454) = true := beq_iff_eq.mpr c17
          have c17b1 : (t452 != t454) = false := bne_eq_false_iff_eq.mpr c17
          clear c17
          by_cases c18 : (t457 != t461) = true
          · rw [if_pos c18] at H
            have c18b0 : (t457 != t461) = true := c18
            (try (have c18b1 : decide (t457 = t461) = false := by simpa using c18))
            (try (have c18b2 : (t457 == t461) = false := by simpa using c18))
            (try (have c18b3 : ¬ (t457 = t461) := by simpa using c18))
            clear c18
            exact (laws_FnCounted.j0_no_6 (by rw [hr_.out] at H; exact H)).elim
          · rw [if_neg c18] at H
            have c18b0 : (t457 != t461) = false := by simpa using c18
            (try (have c18b1 : decide (t457 = t461) = true := by simpa using c18))
            (try (have c18b2 : (t457 == t461) = true := by simpa using c18))
            clear c18
            replace H := Option.bind_eq_some_iff.mp H
            obtain ⟨t464, A190, H⟩ := H
            replace H : (laws_FnCounted.j0 k l1 t448 t449 t452 t453 t456 (!t464)) = some r := H
            have A19 := Aside0.mk A190
            clear A190
            have H' := Aside0.mk H
            clear H
            obtain ⟨Ao20, co20, eo20⟩ := Kd.R_slice HO459.out
            subst eo20
            obtain ⟨Ao21, co21, eo21⟩ := Kd.R_slice HO463.out
            subst eo21
            go_wp2_with (first | (go_at_call 34; (with_reducible refine (laws_sameInts.calls k _ _ t456 _ _ t460 t464 _ ?side1 ?side2 ?side3 ?side4 A19.out).mono ?_); (case side1 => repeat (first | exact (Kd.R_reads' HO459.out).2.2 | (with_reducible refine Kd.C_alloc ?_ _) | (with_reducible refine Kd.C_drewN ?_ _) | (with_reducible refine Kd.C_drew ?_))); (case side2 => exact (Kd.R_reads' HO459.out).2.1); (case side3 => repeat (first | exact (Kd.R_reads' HO463.out).2.2 | (with_reducible refine Kd.C_alloc ?_ _) | (with_reducible refine Kd.C_drewN ?_ _) | (with_reducible refine Kd.C_drew ?_))); (case side4 => exact (Kd.R_reads' HO463.out).2.1); rintro e w' ⟨rfl, ⟨nd, rfl⟩⟩))
            go_meet
            case rel => exact ⟨_, (!t464), (by first | rfl | (simp; done) | (simp [*]; done)), H', ⟨by first | omega | exact Nat.le_refl _⟩, ⟨rq_ HO451.out⟩, ⟨rq_ (Kd.R_mono HO459.out (fun _ hk => trivial))⟩, ⟨bq_⟩⟩
        · rw [if_neg c17] at H
          have c17b0 : (t452 == t454) = false := beq_eq_false_iff_ne.mpr c17
          have c17b1 : (t452 != t454) = true := bne_iff_ne.mpr c17
          exact (laws_FnCounted.j0_no_6 (by rw [hr_.out] at H; exact H)).elim
    case rest =>
      clear HC9
      try clear c1
      try clear c2
      try clear p2
      try clear c3
      try clear c3b0
      try clear p6
      try clear c10
      try clear c13
      try clear c15
      try clear c16
      try clear c16b0
      try clear c16b1
      try clear c16b2
      try clear c17
      try clear c17b0
      try clear c17b1
      try clear c18
      try clear c18b0
      try clear c18b1
      try clear c18b2
      obtain ⟨kq, x85_8, rfl, HA, HJ8, HO_5, HO_11, HB⟩ := hcut
      cases kq with
      | zero => exact absurd HA.out (by simp [laws_FnCounted.j0])
      | succ kj8 =>
        have H := HA.out
        clear HA
        simp only [laws_FnCounted.j0] at H
        by_cases c22 : x85_8 = true
        · subst c22
          have H1 : (some false) = some r := by rw [if_pos rfl] at H; exact H
          clear H
          have H := H1
          clear H1
          exact absurd (Option.some.inj H).symm (by rw [hr_.out]; simp)
        · replace c22 := Bool.eq_false_iff.mpr c22
          subst c22
          have H1 : (if t453 = true then (laws_FnCounted.l0 kj8 l1 t448 t449 t452 0 t456 (t456.length : Int) 0) else (laws_FnCounted.j2 kj8 l1)) = some r := by rw [if_neg (show ¬ (false = true) by decide)] at H; exact H
          clear H
          have H := H1
          clear H1
          have HC23 := Aside0.mk H
          clear H
          go_upto_if 86 with (fail)
          go_cut [] (fun wc => ∃ (kq : Nat), Aside0 (laws_FnCounted.j2 kq l1 = some r) ∧ Aside0 (kq ≤ kj8) ∧ Aside0 (Below w.heap.size w wc))
          case first =>
            have H := HC23.out
            clear HC23
            by_cases c24 : t453 = true
            · subst c24
              have H1 : (laws_FnCounted.l0 kj8 l1 t448 t449 t452 0 t456 (t456.length : Int) 0) = some r := by rw [if_pos rfl] at H; exact H
              clear H
              have H := H1
              clear H1
              have H' := Aside0.mk H
              clear H
              obtain ⟨Ao25, co25, eo25⟩ := Kd.R_slice HO_11.out
              subst eo25
              go_wp2
              go_loopg [15, 89] kj8 (fun kq v15 v89 w' => ∃ (x15_2 : Int) (x89_2 : Int), v15 = .int .i64 x15_2 ∧ v89 = .int .i64 x89_2 ∧ Aside0 (laws_FnCounted.l0 kq l1 t448 t449 t452 x15_2 t456 (t456.length : Int) x89_2 = some r) ∧ Aside0 (kq ≤ kj8) ∧ Aside0 (Kd.R k51 51 w' w.heap.size (fun _ => True) (.slice Ao11 t448.length co11) t448) ∧ Aside0 (Kd.R (Kd.int .i64) 3 w' w.heap.size (fun _ => True) (.slice Ao25 t456.length co25) t456) ∧ Aside0 (Below w.heap.size w w'))
              case atStart => exact ⟨(0), (0), (by first | rfl | (simp; done) | (simp [*]; done)), (by first | rfl | (simp; done) | (simp [*]; done)), H', ⟨Nat.le_refl _⟩, ⟨rq_ HO_5.out⟩, ⟨rq_ HO_11.out⟩, ⟨bq_⟩⟩
              case round =>
                clear H'
                try clear c1
                try clear c2
                try clear p2
                try clear c3
                try clear c3b0
                try clear p6
                try clear c10
                try clear c13
                try clear c15
                try clear c16
                try clear c16b0
                try clear c16b1
                try clear c16b2
                try clear c17
                try clear c17b0
                try clear c17b1
                try clear c18
                try clear c18b0
                try clear c18b1
                try clear c18b2
                try clear c22
                try clear c24
                try clear p2
                try clear p6
                obtain ⟨x15_2, x89_2, rfl, rfl, HA, HK2, HO_5, HO_87, HB⟩ := hrel
                cases gk with
                | zero => exact absurd HA.out (by simp [laws_FnCounted.l0])
                | succ k2 =>
                  have H := HA.out
                  clear HA
                  simp only [laws_FnCounted.l0] at H
                  by_cases c26 : x89_2 < (t456.length : Int)
                  · rw [if_pos c26] at H
                    have c26b0 : decide (x89_2 < (t456.length : Int)) = true := decide_eq_true c26
                    clear c26
                    (first | rw [c26b0] | (simp only [i64_w, i32_w]; rw [c26b0]) | skip)
                    by_cases c27 : 0 ≤ x89_2
                    · rw [if_pos c27] at H
                      have c27b0 : decide (0 ≤ x89_2) = true := decide_eq_true c27
                      clear c27
                      by_cases c28 : x89_2 < (t456.length : Int)
                      · rw [if_pos c28] at H
                        have c28b0 : decide (x89_2 < (t456.length : Int)) = true := decide_eq_true c28
                        clear c28
                        replace H := Option.bind_eq_some_iff.mp H
                        obtain ⟨⟨t466, t467⟩, A290, H⟩ := H
                        replace H : (if t467 = true then (laws_FnCounted.l0 k2 l1 t448 t449 t452 (wrap64 (x15_2 + t466)) t456 (t456.length : Int) (wrap64 (x89_2 + 1))) else (some false)) = some r := H
                        have A29 := Aside0.mk A290
                        clear A290
                        by_cases c30 : t467 = true
                        · subst c30
                          have H1 : (laws_FnCounted.l0 k2 l1 t448 t449 t452 (wrap64 (x15_2 + t466)) t456 (t456.length : Int) (wrap64 (x89_2 + 1))) = some r := by rw [if_pos rfl] at H; exact H
                          clear H
                          have H := H1
                          clear H1
                          have H' := Aside0.mk H
                          clear H
                          have p465 : 0 ≤ (x89_2 : Int) := of_decide_eq_true (by first | (with_reducible assumption) | assumption)
                          have q465 : x89_2 < (t456.length : Int) := of_decide_eq_true (by first | (with_reducible assumption) | assumption)
                          obtain ⟨ad465, e465, hx465_0⟩ := Kd.at_int (Kd.R_reads' HO_87.out).2.2 x89_2 p465 q465
                          cases e465
                          replace p465 := eq_true p465
                          replace q465 := eq_true q465
                          go_wp2_with (first | ((with_reducible refine gate_callee (f := 15) rfl ?_); refine goesL_ (some 96) rfl rfl Try.func15 (by kernel_rfl) rfl #[.slice Ao11 t448.length co11, .int .i64 (rd t456 x89_2)] rfl (by (try simp only [List.map_toArray, List.map_cons, List.map_nil]); first | done | rfl | (simp only [List.length_drop, List.length_take]; rfl)) ?_; (with_reducible refine (impl_WayCount.calls k2 _ _ t448 (rd t456 x89_2) t466 true _ ?side1 ?side2 A29.out).mono ?_); (case side1 => repeat (first | exact (Kd.R_reads' HO_5.out).2.2 | (with_reducible refine Kd.C_alloc ?_ _) | (with_reducible refine Kd.C_drewN ?_ _) | (with_reducible refine Kd.C_drew ?_))); (case side2 => exact (Kd.R_reads' HO_5.out).2.1); rintro e w31 ⟨rfl, hb⟩; refine ⟨_, rfl, ?_⟩; have n0_ := Aside0.mk (Kd.R_below (rq_ HO_5.out) hb); have n1_ := Aside0.mk (Kd.R_below (rq_ HO_87.out) hb); have n2_ := Aside0.mk (below_step (bq_) hb); clear HO_5; clear HO_87; clear HB; have HO_5 := n0_; have HO_87 := n1_; have HB := n2_; clear n0_ n1_ n2_; (try clear hb); (try clear hb2); (try clear hk); (try clear hi)))
                          go_roundg k2
                          case measure => have := HJ8.out; have := HK2.out; omega
                          case rel => exact ⟨(wrap64 (x15_2 + t466)), (wrap64 (x89_2 + 1)), (by first | rfl | (simp; done) | (simp [*]; done)), (by first | rfl | (simp; done) | (simp [*]; done)), H', ⟨by have := HJ8.out; have := HK2.out; omega⟩, ⟨rq_ HO_5.out⟩, ⟨rq_ HO_87.out⟩, ⟨bq_⟩⟩
                        · replace c30 := Bool.eq_false_iff.mpr c30
                          subst c30
                          have H1 : (some false) = some r := by rw [if_neg (show ¬ (false = true) by decide)] at H; exact H
                          clear H
                          have H := H1
                          clear H1
                          exact absurd (Option.some.inj H).symm (by rw [hr_.out]; simp)
                      · rw [if_neg c28] at H
                        exact absurd H (by simp)
                    · rw [if_neg c27] at H
                      exact absurd H (by simp)
                  · rw [if_neg c26] at H
                    have c26b0 : decide (x89_2 < (t456.length : Int)) = false := decide_eq_false c26
                    clear c26
                    (first | rw [c26b0] | (simp only [i64_w, i32_w]; rw [c26b0]) | skip)
                    replace H := Option.bind_eq_some_iff.mp H
                    obtain ⟨⟨t468, t469⟩, A320, H⟩ := H
                    replace H : (if t469 = true then (if t449 > 0 then (if x15_2 = t452 then ((laws_has.f k2 t468 t449).bind fun t472 => (if ((decide (t452 > 0)) != t472) = true then (some false) else (laws_FnCounted.j2 k2 l1))) else (some false)) else ((laws_has.f k2 t468 t449).bind fun t473 => (if ((decide (t452 > 0)) != t473) = true then (some false) else (laws_FnCounted.j2 k2 l1)))) else (some false)) = some r := H
                    have A32 := Aside0.mk A320
                    clear A320
                    by_cases c33 : t469 = true
                    · subst c33
                      have H1 : (if t449 > 0 then (if x15_2 = t452 then ((laws_has.f k2 t468 t449).bind fun t472 => (if ((decide (t452 > 0)) != t472) = true then (some false) else (laws_FnCounted.j2 k2 l1))) else (some false)) else ((laws_has.f k2 t468 t449).bind fun t473 => (if ((decide (t452 > 0)) != t473) = true then (some false) else (laws_FnCounted.j2 k2 l1)))) = some r := by rw [if_pos rfl] at H; exact H
                      clear H
                      have H := H1
                      clear H1
                      by_cases c34 : t449 > 0
                      · rw [if_pos c34] at H
                        have c34b0 : decide (0 < t449) = true := decide_eq_true c34
                        clear c34
                        by_cases c35 : x15_2 = t452
                        · rw [if_pos c35] at H
                          have c35b0 : (x15_2 == t452) = true := beq_iff_eq.mpr c35
                          have c35b1 : (x15_2 != t452) = false := bne_eq_false_iff_eq.mpr c35
                          clear c35
                          replace H := Option.bind_eq_some_iff.mp H
                          obtain ⟨t472, A360, H⟩ := H
                          replace H : (if ((decide (t452 > 0)) != t472) = true then (some false) else (laws_FnCounted.j2 k2 l1)) = some r := H
                          have A36 := Aside0.mk A360
                          clear A360
                          by_cases c37 : ((decide (t452 > 0)) != t472) = true
                          · rw [if_pos c37] at H
                            have c37b0 : ((decide (t452 > 0)) != t472) = true := c37
                            (try (have c37b1 : decide ((decide (t452 > 0)) = t472) = false := by simpa using c37))
                            (try (have c37b2 : ((decide (t452 > 0)) == t472) = false := by simpa using c37))
                            (try (have c37b3 : ¬ ((decide (t452 > 0)) = t472) := by simpa using c37))
                            clear c37
                            exact absurd (Option.some.inj H).symm (by rw [hr_.out]; simp)
                          · rw [if_neg c37] at H
                            have c37b0 : ((decide (t452 > 0)) != t472) = false := by simpa using c37
                            (try (have c37b1 : decide ((decide (t452 > 0)) = t472) = true := by simpa using c37))
                            (try (have c37b2 : ((decide (t452 > 0)) == t472) = true := by simpa using c37))
                            clear c37
                            have H' := Aside0.mk H
                            clear H
                            go_wp2_with (first | ((with_reducible refine gate_callee (f := 18) rfl ?_); refine goesL_ (some 107) rfl rfl Try.func18 (by kernel_rfl) rfl #[.slice Ao11 t448.length co11] rfl (by (try simp only [List.map_toArray, List.map_cons, List.map_nil]); first | done | rfl | (simp only [List.length_drop, List.length_take]; rfl)) ?_; (with_reducible refine (impl_ReachedIn.calls k2 _ _ t448 t468 true _ ?side1 ?side2 A32.out).mono ?_); (case side1 => repeat (first | exact (Kd.R_reads' HO_5.out).2.2 | (with_reducible refine Kd.C_alloc ?_ _) | (with_reducible refine Kd.C_drewN ?_ _) | (with_reducible refine Kd.C_drew ?_))); (case side2 => exact (Kd.R_reads' HO_5.out).2.1); rintro e w38 ⟨v470, rfl, ho0, hb⟩; refine ⟨_, rfl, ?_⟩; have n0_ := Aside0.mk (Kd.R_below (rq_ HO_5.out) hb); have n1_ := Aside0.mk (Kd.R_elder' (rq_ HO_87.out) (Kd.R_base ho0) hb); have n2_ := Aside0.mk (Kd.R_lower (Kd.R_new' ho0 (Kd.R_lt (rq_ HO_87.out))) (below_size (bq_))); have n3_ := Aside0.mk (below_step (bq_) hb); clear HO_5; clear HO_87; clear HB; have HO_5 := n0_; have HO_87 := n1_; have HO471 := n2_; have HB := n3_; clear n0_ n1_ n2_ n3_; (try clear hb); (try clear hb2); (try clear hk); (try clear hi); (try clear ho0); obtain ⟨Ao39, co39, eo39⟩ := Kd.R_slice HO471.out; subst eo39) | (go_at_call 35; (with_reducible refine (laws_has.calls k2 _ _ t468 t449 t472 _ ?side1 ?side2 A36.out).mono ?_); (case side1 => repeat (first | exact (Kd.R_reads' HO471.out).2.2 | (with_reducible refine Kd.C_alloc ?_ _) | (with_reducible refine Kd.C_drewN ?_ _) | (with_reducible refine Kd.C_drew ?_))); (case side2 => exact (Kd.R_reads' HO471.out).2.1); rintro e w' ⟨rfl, ⟨nd, rfl⟩⟩))
                            go_meet
                            case rel => exact ⟨_, H', ⟨by have := HJ8.out; have := HK2.out; first | omega | exact Nat.le_refl _⟩, ⟨bq_⟩⟩
                        · rw [if_neg c35] at H
                          have c35b0 : (x15_2 == t452) = false := beq_eq_false_iff_ne.mpr c35
                          have c35b1 : (x15_2 != t452) = true := bne_iff_ne.mpr c35
                          exact absurd (Option.some.inj H).symm (by rw [hr_.out]; simp)
                      · rw [if_neg c34] at H
                        have c34b0 : decide (0 < t449) = false := decide_eq_false c34
                        clear c34
                        replace H := Option.bind_eq_some_iff.mp H
                        obtain ⟨t473, A400, H⟩ := H
                        replace H : (if ((decide (t452 > 0)) != t473) = true then (some false) else (laws_FnCounted.j2 k2 l1)) = some r := H
                        have A40 := Aside0.mk A400
                        clear A400
                        by_cases c41 : ((decide (t452 > 0)) != t473) = true
                        · rw [if_pos c41] at H
                          have c41b0 : ((decide (t452 > 0)) != t473) = true := c41
                          (try (have c41b1 : decide ((decide (t452 > 0)) = t473) = false := by simpa using c41))
                          (try (have c41b2 : ((decide (t452 > 0)) == t473) = false := by simpa using c41))
                          (try (have c41b3 : ¬ ((decide (t452 > 0)) = t473) := by simpa using c41))
                          clear c41
                          exact absurd (Option.some.inj H).symm (by rw [hr_.out]; simp)
                        · rw [if_neg c41] at H
                          have c41b0 : ((decide (t452 > 0)) != t473) = false := by simpa using c41
                          (try (have c41b1 : decide ((decide (t452 > 0)) = t473) = true := by simpa using c41))
                          (try (have c41b2 : ((decide (t452 > 0)) == t473) = true := by simpa using c41))
                          clear c41
                          have H' := Aside0.mk H
                          clear H
                          go_wp2_with (first | ((with_reducible refine gate_callee (f := 18) rfl ?_); refine goesL_ (some 107) rfl rfl Try.func18 (by kernel_rfl) rfl #[.slice Ao11 t448.length co11] rfl (by (try simp only [List.map_toArray, List.map_cons, List.map_nil]); first | done | rfl | (simp only [List.length_drop, List.length_take]; rfl)) ?_; (with_reducible refine (impl_ReachedIn.calls k2 _ _ t448 t468 true _ ?side1 ?side2 A32.out).mono ?_); (case side1 => repeat (first | exact (Kd.R_reads' HO_5.out).2.2 | (with_reducible refine Kd.C_alloc ?_ _) | (with_reducible refine Kd.C_drewN ?_ _) | (with_reducible refine Kd.C_drew ?_))); (case side2 => exact (Kd.R_reads' HO_5.out).2.1); rintro e w42 ⟨v470, rfl, ho0, hb⟩; refine ⟨_, rfl, ?_⟩; have n0_ := Aside0.mk (Kd.R_below (rq_ HO_5.out) hb); have n1_ := Aside0.mk (Kd.R_elder' (rq_ HO_87.out) (Kd.R_base ho0) hb); have n2_ := Aside0.mk (Kd.R_lower (Kd.R_new' ho0 (Kd.R_lt (rq_ HO_87.out))) (below_size (bq_))); have n3_ := Aside0.mk (below_step (bq_) hb); clear HO_5; clear HO_87; clear HB; have HO_5 := n0_; have HO_87 := n1_; have HO471 := n2_; have HB := n3_; clear n0_ n1_ n2_ n3_; (try clear hb); (try clear hb2); (try clear hk); (try clear hi); (try clear ho0); obtain ⟨Ao43, co43, eo43⟩ := Kd.R_slice HO471.out; subst eo43) | (go_at_call 35; (with_reducible refine (laws_has.calls k2 _ _ t468 t449 t473 _ ?side1 ?side2 A40.out).mono ?_); (case side1 => repeat (first | exact (Kd.R_reads' HO471.out).2.2 | (with_reducible refine Kd.C_alloc ?_ _) | (with_reducible refine Kd.C_drewN ?_ _) | (with_reducible refine Kd.C_drew ?_))); (case side2 => exact (Kd.R_reads' HO471.out).2.1); rintro e w' ⟨rfl, ⟨nd, rfl⟩⟩))
                          go_meet
                          case rel => exact ⟨_, H', ⟨by have := HJ8.out; have := HK2.out; first | omega | exact Nat.le_refl _⟩, ⟨bq_⟩⟩
                    · replace c33 := Bool.eq_false_iff.mpr c33
                      subst c33
                      have H1 : (some false) = some r := by rw [if_neg (show ¬ (false = true) by decide)] at H; exact H
                      clear H
                      have H := H1
                      clear H1
                      exact absurd (Option.some.inj H).symm (by rw [hr_.out]; simp)
            · replace c24 := Bool.eq_false_iff.mpr c24
              subst c24
              have H1 : (laws_FnCounted.j2 kj8 l1) = some r := by rw [if_neg (show ¬ (false = true) by decide)] at H; exact H
              clear H
              have H := H1
              clear H1
              have H' := Aside0.mk H
              clear H
              go_wp2
              go_meet
              case rel => exact ⟨_, H', ⟨by have := HJ8.out; first | omega | exact Nat.le_refl _⟩, ⟨bq_⟩⟩
          case rest =>
            clear HC23
            try clear c1
            try clear c2
            try clear p2
            try clear c3
            try clear c3b0
            try clear c4
            try clear p4
            try clear q4
            try clear hx4
            try clear p6
            try clear c10
            try clear c13
            try clear c15
            try clear c16
            try clear c16b0
            try clear c16b1
            try clear c16b2
            try clear c17
            try clear c17b0
            try clear c17b1
            try clear c18
            try clear c18b0
            try clear c18b1
            try clear c18b2
            try clear c22
            try clear c24
            try clear c26
            try clear c26b0
            try clear c27
            try clear c27b0
            try clear c28
            try clear c28b0
            try clear c30
            try clear c33
            try clear c34
            try clear c34b0
            try clear c35
            try clear c35b0
            try clear c35b1
            try clear c37
            try clear c37b0
            try clear c37b1
            try clear c37b2
            try clear c41
            try clear c41b0
            try clear c41b1
            try clear c41b2
            try clear hx465_0
            try clear p2
            try clear p465
            try clear p6
            try clear q465
            obtain ⟨kq, HA, HJ22, HB⟩ := hcut
            cases kq with
            | zero => exact absurd HA.out (by simp [laws_FnCounted.j2])
            | succ kj22 =>
              have H := HA.out
              clear HA
              simp only [laws_FnCounted.j2] at H
              replace H := Option.bind_eq_some_iff.mp H
              obtain ⟨t474, A440, H⟩ := H
              replace H : ((impl_LeadersOf.f kj22 t474).bind fun bt477 => ((spec_LeadersOf.f kj22 t474).bind fun bt481 => ((spec_DrawEndsFrom.f kj22 l1).bind fun bt485 => ((impl_EndsFrom.f kj22 bt485.1 bt485.2).bind fun bt489 => ((spec_EndsFrom.f kj22 bt485.1 bt485.2).bind fun bt493 => (if (bt477.2 == bt481.2) = true then ((laws_sameInts.f kj22 bt477.1 bt481.1).bind fun t497 => (if t497 = true then (if (bt489.2 == bt493.2) = true then ((laws_sameInts.f kj22 bt489.1 bt493.1).bind fun t498 => (some t498)) else (some false)) else (some false))) else (some false))))))) = some r := H
              have A44 := Aside0.mk A440
              clear A440
              replace H := Option.bind_eq_some_iff.mp H
              obtain ⟨⟨t477, t478⟩, A450, H⟩ := H
              replace H : ((spec_LeadersOf.f kj22 t474).bind fun bt481 => ((spec_DrawEndsFrom.f kj22 l1).bind fun bt485 => ((impl_EndsFrom.f kj22 bt485.1 bt485.2).bind fun bt489 => ((spec_EndsFrom.f kj22 bt485.1 bt485.2).bind fun bt493 => (if (t478 == bt481.2) = true then ((laws_sameInts.f kj22 t477 bt481.1).bind fun t497 => (if t497 = true then (if (bt489.2 == bt493.2) = true then ((laws_sameInts.f kj22 bt489.1 bt493.1).bind fun t498 => (some t498)) else (some false)) else (some false))) else (some false)))))) = some r := H
              have A45 := Aside0.mk A450
              clear A450
              replace H := Option.bind_eq_some_iff.mp H
              obtain ⟨⟨t481, t482⟩, A460, H⟩ := H
              replace H : ((spec_DrawEndsFrom.f kj22 l1).bind fun bt485 => ((impl_EndsFrom.f kj22 bt485.1 bt485.2).bind fun bt489 => ((spec_EndsFrom.f kj22 bt485.1 bt485.2).bind fun bt493 => (if (t478 == t482) = true then ((laws_sameInts.f kj22 t477 t481).bind fun t497 => (if t497 = true then (if (bt489.2 == bt493.2) = true then ((laws_sameInts.f kj22 bt489.1 bt493.1).bind fun t498 => (some t498)) else (some false)) else (some false))) else (some false))))) = some r := H
              have A46 := Aside0.mk A460
              clear A460
              replace H := Option.bind_eq_some_iff.mp H
              obtain ⟨⟨t485, t486⟩, A470, H⟩ := H
              replace H : ((impl_EndsFrom.f kj22 t485 t486).bind fun bt489 => ((spec_EndsFrom.f kj22 t485 t486).bind fun bt493 => (if (t478 == t482) = true then ((laws_sameInts.f kj22 t477 t481).bind fun t497 => (if t497 = true then (if (bt489.2 == bt493.2) = true then ((laws_sameInts.f kj22 bt489.1 bt493.1).bind fun t498 => (some t498)) else (some false)) else (some false))) else (some false)))) = some r := H
              have A47 := Aside0.mk A470
              clear A470
              replace H := Option.bind_eq_some_iff.mp H
              obtain ⟨⟨t489, t490⟩, A480, H⟩ := H
              replace H : ((spec_EndsFrom.f kj22 t485 t486).bind fun bt493 => (if (t478 == t482) = true then ((laws_sameInts.f kj22 t477 t481).bind fun t497 => (if t497 = true then (if (t490 == bt493.2) = true then ((laws_sameInts.f kj22 t489 bt493.1).bind fun t498 => (some t498)) else (some false)) else (some false))) else (some false))) = some r := H
              have A48 := Aside0.mk A480
              clear A480
              replace H := Option.bind_eq_some_iff.mp H
              obtain ⟨⟨t493, t494⟩, A490, H⟩ := H
              replace H : (if (t478 == t482) = true then ((laws_sameInts.f kj22 t477 t481).bind fun t497 => (if t497 = true then (if (t490 == t494) = true then ((laws_sameInts.f kj22 t489 t493).bind fun t498 => (some t498)) else (some false)) else (some false))) else (some false)) = some r := H
              have A49 := Aside0.mk A490
              clear A490
              by_cases c50 : (t478 == t482) = true
              · rw [if_pos c50] at H
                have c50b0 : (t478 == t482) = true := c50
                (try (have c50b1 : decide (t478 = t482) = true := by simpa using c50))
                (try (have c50b2 : (t478 == t482) = true := by simpa using c50))
                clear c50
                replace H := Option.bind_eq_some_iff.mp H
                obtain ⟨t497, A510, H⟩ := H
                replace H : (if t497 = true then (if (t490 == t494) = true then ((laws_sameInts.f kj22 t489 t493).bind fun t498 => (some t498)) else (some false)) else (some false)) = some r := H
                have A51 := Aside0.mk A510
                clear A510
                by_cases c52 : t497 = true
                · subst c52
                  have H1 : (if (t490 == t494) = true then ((laws_sameInts.f kj22 t489 t493).bind fun t498 => (some t498)) else (some false)) = some r := by rw [if_pos rfl] at H; exact H
                  clear H
                  have H := H1
                  clear H1
                  by_cases c53 : (t490 == t494) = true
                  · rw [if_pos c53] at H
                    have c53b0 : (t490 == t494) = true := c53
                    (try (have c53b1 : decide (t490 = t494) = true := by simpa using c53))
                    (try (have c53b2 : (t490 == t494) = true := by simpa using c53))
                    clear c53
                    replace H := Option.bind_eq_some_iff.mp H
                    obtain ⟨t498, A540, H⟩ := H
                    replace H : (some t498) = some r := H
                    have A54 := Aside0.mk A540
                    clear A540
                    obtain rfl := Option.some.inj H
                    go_wp2_with (first | ((with_reducible refine gate_callee (f := 36) rfl ?_); refine goesL_ (some 130) rfl rfl Try.func36 (by kernel_rfl) rfl #[.slice A1 l1.length c1] rfl (by (try simp only [List.map_toArray, List.map_cons, List.map_nil]); first | done | rfl | (simp only [List.length_drop, List.length_take]; rfl)) ?_; (with_reducible refine (spec_DrawLeadersOf.calls kj22 _ _ l1 t474 _ ?side1 ?side2 A44.out).mono ?_); (case side1 => repeat (first | exact (Kd.C_below HR1.out HB.out) | (with_reducible refine Kd.C_alloc ?_ _) | (with_reducible refine Kd.C_drewN ?_ _) | (with_reducible refine Kd.C_drew ?_))); (case side2 => exact HC1.out); rintro e w55 ⟨v475, rfl, ho0, hb⟩; refine ⟨_, rfl, ?_⟩; have n0_ := Aside0.mk (Kd.R_lower ho0 (below_size (bq_))); have n1_ := Aside0.mk (below_step (bq_) hb); clear HB; have HO476 := n0_; have HB := n1_; clear n0_ n1_; (try clear hb); (try clear hb2); (try clear hk); (try clear hi); (try clear ho0); obtain ⟨Ao56, co56, eo56⟩ := Kd.R_slice HO476.out; subst eo56) | ((with_reducible refine gate_callee (f := 26) rfl ?_); refine goesL_ (some 133) rfl rfl Try.func26 (by kernel_rfl) rfl #[.slice Ao56 t474.length co56] rfl (by (try simp only [List.map_toArray, List.map_cons, List.map_nil]); first | done | rfl | (simp only [List.length_drop, List.length_take]; rfl)) ?_; (with_reducible refine (impl_LeadersOf.calls kj22 _ _ t474 t477 t478 _ ?side1 ?side2 A45.out).mono ?_); (case side1 => repeat (first | exact (Kd.R_reads' HO476.out).2.2 | (with_reducible refine Kd.C_alloc ?_ _) | (with_reducible refine Kd.C_drewN ?_ _) | (with_reducible refine Kd.C_drew ?_))); (case side2 => exact (Kd.R_reads' HO476.out).2.1); rintro e w57 ⟨v479, rfl, ho0, hb⟩; refine ⟨_, rfl, ?_⟩; have n0_ := Aside0.mk (Kd.R_below (rq_ HO476.out) hb); have n1_ := Aside0.mk (Kd.R_lower ho0 (below_size (bq_))); have n2_ := Aside0.mk (below_step (bq_) hb); clear HO476; clear HB; have HO476 := n0_; have HO480 := n1_; have HB := n2_; clear n0_ n1_ n2_; (try clear hb); (try clear hb2); (try clear hk); (try clear hi); (try clear ho0)) | ((with_reducible refine gate_callee (f := 25) rfl ?_); refine goesL_ (some 138) rfl rfl Try.func25 (by kernel_rfl) rfl #[.slice Ao56 t474.length co56] rfl (by (try simp only [List.map_toArray, List.map_cons, List.map_nil]); first | done | rfl | (simp only [List.length_drop, List.length_take]; rfl)) ?_; (with_reducible refine (spec_LeadersOf.calls kj22 _ _ t474 t481 t482 _ ?side1 ?side2 A46.out).mono ?_); (case side1 => repeat (first | exact (Kd.R_reads' HO476.out).2.2 | (with_reducible refine Kd.C_alloc ?_ _) | (with_reducible refine Kd.C_drewN ?_ _) | (with_reducible refine Kd.C_drew ?_))); (case side2 => exact (Kd.R_reads' HO476.out).2.1); rintro e w58 ⟨v483, rfl, ho0, hb⟩; refine ⟨_, rfl, ?_⟩; have n0_ := Aside0.mk (Kd.R_below (rq_ HO476.out) hb); have n1_ := Aside0.mk (Kd.R_elder' (rq_ HO480.out) (Kd.R_base ho0) hb); have n2_ := Aside0.mk (Kd.R_lower (Kd.R_new' ho0 (Kd.R_lt (rq_ HO480.out))) (below_size (bq_))); have n3_ := Aside0.mk (below_step (bq_) hb); clear HO476; clear HO480; clear HB; have HO476 := n0_; have HO480 := n1_; have HO484 := n2_; have HB := n3_; clear n0_ n1_ n2_ n3_; (try clear hb); (try clear hb2); (try clear hk); (try clear hi); (try clear ho0)) | ((with_reducible refine gate_callee (f := 37) rfl ?_); refine goesL_ (some 143) rfl rfl Try.func37 (by kernel_rfl) rfl #[.slice A1 l1.length c1] rfl (by (try simp only [List.map_toArray, List.map_cons, List.map_nil]); first | done | rfl | (simp only [List.length_drop, List.length_take]; rfl)) ?_; (with_reducible refine (spec_DrawEndsFrom.calls kj22 _ _ l1 t485 t486 _ ?side1 ?side2 A47.out).mono ?_); (case side1 => repeat (first | exact (Kd.C_below HR1.out HB.out) | (with_reducible refine Kd.C_alloc ?_ _) | (with_reducible refine Kd.C_drewN ?_ _) | (with_reducible refine Kd.C_drew ?_))); (case side2 => exact HC1.out); rintro e w59 ⟨v487, rfl, ho0, hb⟩; refine ⟨_, rfl, ?_⟩; have n0_ := Aside0.mk (Kd.R_elder' (rq_ HO476.out) (Kd.R_base ho0) hb); have n1_ := Aside0.mk (Kd.R_below (rq_ HO480.out) hb); have n2_ := Aside0.mk (Kd.R_below (rq_ HO484.out) hb); have n3_ := Aside0.mk (Kd.R_lower (Kd.R_new' ho0 (Kd.R_lt (rq_ HO476.out))) (below_size (bq_))); have n4_ := Aside0.mk (below_step (bq_) hb); clear HO476; clear HO480; clear HO484; clear HB; have HO476 := n0_; have HO480 := n1_; have HO484 := n2_; have HO488 := n3_; have HB := n4_; clear n0_ n1_ n2_ n3_ n4_; (try clear hb); (try clear hb2); (try clear hk); (try clear hi); (try clear ho0); obtain ⟨Ao60, co60, eo60⟩ := Kd.R_slice HO488.out; subst eo60) | ((with_reducible refine gate_callee (f := 24) rfl ?_); refine goesL_ (some 149) rfl rfl Try.func24 (by kernel_rfl) rfl #[.slice Ao60 t485.length co60, .int .i64 t486] rfl (by (try simp only [List.map_toArray, List.map_cons, List.map_nil]); first | done | rfl | (simp only [List.length_drop, List.length_take]; rfl)) ?_; (with_reducible refine (impl_EndsFrom.calls kj22 _ _ t485 t486 t489 t490 _ ?side1 ?side2 A48.out).mono ?_); (case side1 => repeat (first | exact (Kd.R_reads' HO488.out).2.2 | (with_reducible refine Kd.C_alloc ?_ _) | (with_reducible refine Kd.C_drewN ?_ _) | (with_reducible refine Kd.C_drew ?_))); (case side2 => exact (Kd.R_reads' HO488.out).2.1); rintro e w61 ⟨v491, rfl, ho0, hb⟩; refine ⟨_, rfl, ?_⟩; have n0_ := Aside0.mk (Kd.R_below (rq_ HO476.out) hb); have n1_ := Aside0.mk (Kd.R_elder' (rq_ HO480.out) (Kd.R_base ho0) hb); have n2_ := Aside0.mk (Kd.R_elder' (rq_ HO484.out) (Kd.R_base ho0) hb); have n3_ := Aside0.mk (Kd.R_below (rq_ HO488.out) hb); have n4_ := Aside0.mk (Kd.R_lower (Kd.R_new' (Kd.R_new' ho0 (Kd.R_lt (rq_ HO480.out))) (Kd.R_lt (rq_ HO484.out))) (below_size (bq_))); have n5_ := Aside0.mk (below_step (bq_) hb); clear HO476; clear HO480; clear HO484; clear HO488; clear HB; have HO476 := n0_; have HO480 := n1_; have HO484 := n2_; have HO488 := n3_; have HO492 := n4_; have HB := n5_; clear n0_ n1_ n2_ n3_ n4_ n5_; (try clear hb); (try clear hb2); (try clear hk); (try clear hi); (try clear ho0)) | ((with_reducible refine gate_callee (f := 23) rfl ?_); refine goesL_ (some 155) rfl rfl Try.func23 (by kernel_rfl) rfl #[.slice Ao60 t485.length co60, .int .i64 t486] rfl (by (try simp only [List.map_toArray, List.map_cons, List.map_nil]); first | done | rfl | (simp only [List.length_drop, List.length_take]; rfl)) ?_; (with_reducible refine (spec_EndsFrom.calls kj22 _ _ t485 t486 t493 t494 _ ?side1 ?side2 A49.out).mono ?_); (case side1 => repeat (first | exact (Kd.R_reads' HO488.out).2.2 | (with_reducible refine Kd.C_alloc ?_ _) | (with_reducible refine Kd.C_drewN ?_ _) | (with_reducible refine Kd.C_drew ?_))); (case side2 => exact (Kd.R_reads' HO488.out).2.1); rintro e w62 ⟨v495, rfl, ho0, hb⟩; refine ⟨_, rfl, ?_⟩; have n0_ := Aside0.mk (Kd.R_below (rq_ HO476.out) hb); have n1_ := Aside0.mk (Kd.R_elder' (rq_ HO480.out) (Kd.R_base ho0) hb); have n2_ := Aside0.mk (Kd.R_elder' (rq_ HO484.out) (Kd.R_base ho0) hb); have n3_ := Aside0.mk (Kd.R_below (rq_ HO488.out) hb); have n4_ := Aside0.mk (Kd.R_elder' (rq_ HO492.out) (Kd.R_base ho0) hb); have n5_ := Aside0.mk (Kd.R_lower (Kd.R_new' (Kd.R_new' (Kd.R_new' ho0 (Kd.R_lt (rq_ HO480.out))) (Kd.R_lt (rq_ HO484.out))) (Kd.R_lt (rq_ HO492.out))) (below_size (bq_))); have n6_ := Aside0.mk (below_step (bq_) hb); clear HO476; clear HO480; clear HO484; clear HO488; clear HO492; clear HB; have HO476 := n0_; have HO480 := n1_; have HO484 := n2_; have HO488 := n3_; have HO492 := n4_; have HO496 := n5_; have HB := n6_; clear n0_ n1_ n2_ n3_ n4_ n5_ n6_; (try clear hb); (try clear hb2); (try clear hk); (try clear hi); (try clear ho0); obtain ⟨Ao63, co63, eo63⟩ := Kd.R_slice HO480.out; subst eo63; obtain ⟨Ao64, co64, eo64⟩ := Kd.R_slice HO484.out; subst eo64) | (go_at_call 34; (with_reducible refine (laws_sameInts.calls kj22 _ _ t477 _ _ t481 true _ ?side1 ?side2 ?side3 ?side4 A51.out).mono ?_); (case side1 => repeat (first | exact (Kd.R_reads' HO480.out).2.2 | (with_reducible refine Kd.C_alloc ?_ _) | (with_reducible refine Kd.C_drewN ?_ _) | (with_reducible refine Kd.C_drew ?_))); (case side2 => exact (Kd.R_reads' HO480.out).2.1); (case side3 => repeat (first | exact (Kd.R_reads' HO484.out).2.2 | (with_reducible refine Kd.C_alloc ?_ _) | (with_reducible refine Kd.C_drewN ?_ _) | (with_reducible refine Kd.C_drew ?_))); (case side4 => exact (Kd.R_reads' HO484.out).2.1); rintro e w' ⟨rfl, ⟨nd, rfl⟩⟩; obtain ⟨Ao65, co65, eo65⟩ := Kd.R_slice HO492.out; subst eo65; obtain ⟨Ao66, co66, eo66⟩ := Kd.R_slice HO496.out; subst eo66) | (go_at_call 34; (with_reducible refine (laws_sameInts.calls kj22 _ _ t489 _ _ t493 t498 _ ?side1 ?side2 ?side3 ?side4 A54.out).mono ?_); (case side1 => repeat (first | exact (Kd.R_reads' HO492.out).2.2 | (with_reducible refine Kd.C_alloc ?_ _) | (with_reducible refine Kd.C_drewN ?_ _) | (with_reducible refine Kd.C_drew ?_))); (case side2 => exact (Kd.R_reads' HO492.out).2.1); (case side3 => repeat (first | exact (Kd.R_reads' HO496.out).2.2 | (with_reducible refine Kd.C_alloc ?_ _) | (with_reducible refine Kd.C_drewN ?_ _) | (with_reducible refine Kd.C_drew ?_))); (case side4 => exact (Kd.R_reads' HO496.out).2.1); rintro e w' ⟨rfl, ⟨nd, rfl⟩⟩))
                    go_ret
                    exact ⟨by first | rfl | (simp [errW_none, errW_some] <;> rfl) | (simp [*, errW_none, errW_some] <;> rfl), bq_⟩
                  · rw [if_neg c53] at H
                    have c53b0 : (t490 == t494) = false := by simpa using c53
                    (try (have c53b1 : decide (t490 = t494) = false := by simpa using c53))
                    (try (have c53b2 : (t490 == t494) = false := by simpa using c53))
                    (try (have c53b3 : ¬ (t490 = t494) := by simpa using c53))
                    clear c53
                    exact absurd (Option.some.inj H).symm (by rw [hr_.out]; simp)
                · replace c52 := Bool.eq_false_iff.mpr c52
                  subst c52
                  have H1 : (some false) = some r := by rw [if_neg (show ¬ (false = true) by decide)] at H; exact H
                  clear H
                  have H := H1
                  clear H1
                  exact absurd (Option.some.inj H).symm (by rw [hr_.out]; simp)
              · rw [if_neg c50] at H
                have c50b0 : (t478 == t482) = false := by simpa using c50
                (try (have c50b1 : decide (t478 = t482) = false := by simpa using c50))
                (try (have c50b2 : (t478 == t482) = false := by simpa using c50))
                (try (have c50b3 : ¬ (t478 = t482) := by simpa using c50))
                clear c50
                exact absurd (Option.some.inj H).symm (by rw [hr_.out]; simp)
def laws_FnCounted.Pure : Prop := ∀ (l0 : List Int) (l1 : List Int), l0.length ≤ maxLen → l0.length * 1 ≤ 140737488351232 → (∀ x ∈ l0, (Lit.int .u8 x).wf = true) → l1.length ≤ maxLen → l1.length * 1 ≤ 140737488351232 → (∀ x ∈ l1, (Lit.int .u8 x).wf = true) → ∃ k, laws_FnCounted.f k l0 l1 = some true
theorem laws_FnCounted.walk (P : laws_FnCounted.Pure) (a0 : Option Addr) (len0 cap0 : Nat) (z0 : List Int) (a1 : Option Addr) (len1 cap1 : Nat) (z1 : List Int) (w : World) (w0 : (a0 = none ∧ len0 = 0 ∧ cap0 = 0 ∧ z0 = []) ∨ ∃ x, a0 = some x ∧ len0 ≤ cap0 ∧ cap0 ≤ maxLen ∧ z0.length = cap0 ∧ (∀ i, i < z0.length → w.cell? (x.add i) = some (.int .u8 (z0.getD i 0))) ∧ ∀ n ∈ z0, (Lit.int .u8 n).wf = true) (y0 : len0 * 1 ≤ 140737488351232) (w1 : (a1 = none ∧ len1 = 0 ∧ cap1 = 0 ∧ z1 = []) ∨ ∃ x, a1 = some x ∧ len1 ≤ cap1 ∧ cap1 ≤ maxLen ∧ z1.length = cap1 ∧ (∀ i, i < z1.length → w.cell? (x.add i) = some (.int .u8 (z1.getD i 0))) ∧ ∀ n ∈ z1, (Lit.int .u8 n).wf = true) (y1 : len1 * 1 ≤ 140737488351232) :
    Calls Try.prog 10 #[.slice a0 len0 cap0, .slice a1 len1 cap1] w fun e w' => e = .returned (.bool true) ∧ Below w.heap.size w w' := by
  obtain ⟨l0, rfl, hr0, hm0, hw0, hc0⟩ := ReadsInt.ofRowC w0
  obtain ⟨l1, rfl, hr1, hm1, hw1, hc1⟩ := ReadsInt.ofRowC w1
  obtain ⟨k, h⟩ := P l0 l1 hm0 y0 hw0 hm1 y1 hw1
  refine (laws_FnCounted.calls k _ _ l0 _ _ l1 true w (Kd.C_of_reads (d := (0 : Int)) (h1 := fun _ => rfl) hr0) hc0 (Kd.C_of_reads (d := (0 : Int)) (h1 := fun _ => rfl) hr1) hc1 ⟨rfl⟩ h).mono ?_
  rintro e w' ⟨rfl, hd⟩
  exact ⟨rfl, hd⟩
end Go.Proofs.Ytcmhkgpalfljbaa.PIC

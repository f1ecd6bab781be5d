import Derived.Test.YtcmhkgpalfljbaaPPAx0
import Derived.Test.YtcmhkgpalfljbaaPPAx4
import Derived.Test.YtcmhkgpalfljbaaPPAx6
import Derived.Test.YtcmhkgpalfljbaaPPAx7
import Derived.Test.YtcmhkgpalfljbaaPPAx8
import Derived.Test.YtcmhkgpalfljbaaPPAx9
import Derived.Test.YtcmhkgpalfljbaaPPAx10
import Derived.Test.YtcmhkgpalfljbaaPPAx13
import Derived.Test.YtcmhkgpalfljbaaPPAx16
namespace Go.Proofs.Ytcmhkgpalfljbaa.PPA
open Go.RowKit Go.Proofs.YtcmhkgpalfljbaaW.PrintWords Go.Proofs.YtcmhkgpalfljbaaW.PrintLast Go.Proofs.YtcmhkgpalfljbaaW.PrintMore
attribute [local go_sem] max2_int min2_int max_two min_two max_three min_three max_four min_four   -- for this text's walks alone
set_option linter.unusedVariables false
set_option linter.unusedSimpArgs false
mutual
def laws_FnPassed.j0 : Nat → List Int → List (S51) → List Int → Bool → List Int → Bool → List Int → Bool → Option (Bool)
  | 0, _, _, _, _, _, _, _, _ => none
  | k + 1, x1, x5, x7, x9, x10, x11, x14, x95 => if x95 = true then (some false) else (if x9 = true then (laws_FnPassed.j1 k x1 x5 x7 x10 x14 x11) else (laws_FnPassed.j1 k x1 x5 x7 x10 x14 false))
def laws_FnPassed.j1 : Nat → List Int → List (S51) → List Int → List Int → List Int → Bool → Option (Bool)
  | 0, _, _, _, _, _, _ => none
  | k + 1, x1, x5, x7, x10, x14, x99 => if x99 = true then (laws_FnPassed.l0 k x1 x5 x7 x10 x14 x7 (x7.length : Int) 0) else (laws_FnPassed.j5 k x1)
def laws_FnPassed.j5 : Nat → List Int → Option (Bool)
  | 0, _ => none
  | k + 1, x1 => (spec_DrawMustPass.f k x1).bind fun bt546 => ((impl_MustPass.f k bt546.1 bt546.2).bind fun bt550 => ((spec_MustPass.f k bt546.1 bt546.2).bind fun bt554 => (if (bt550.2 != bt554.2) = true then (laws_FnPassed.j6 k bt546.1 bt546.2 bt550.1 bt550.2 true) else ((laws_sameInts.f k bt550.1 bt554.1).bind fun t558 => (laws_FnPassed.j6 k bt546.1 bt546.2 bt550.1 bt550.2 (!t558))))))
def laws_FnPassed.j6 : Nat → List (S51) → Int → List Int → Bool → Bool → Option (Bool)
  | 0, _, _, _, _, _ => none
  | k + 1, x24, x25, x26, x27, x187 => if x187 = true then (some false) else (if x27 = true then ((impl_AheadOf.f k x24 x25).bind fun bt559 => (laws_FnPassed.l2 k x24 x25 x26 bt559.1 bt559.2 bt559.1 (bt559.1.length : Int) 0)) else (some true))
def laws_FnPassed.l2 : Nat → List (S51) → Int → List Int → List Int → Bool → List Int → Int → Int → Option (Bool)
  | 0, _, _, _, _, _, _, _, _ => none
  | k + 1, x24, x25, x26, x30, x31, x195, x196, x197 => if x197 < x196 then (if 0 ≤ x197 then (if x197 < (x195.length : Int) then ((impl_MustPass.f k x24 (rd x195 x197)).bind fun bt564 => (if bt564.2 = true then (laws_FnPassed.l3 k x24 x25 x26 x30 x31 bt564.1 x195 x196 x197 x26 (x26.length : Int) 0) else (some false))) else (none)) else (none)) else (if x31 = true then (if (x30.length : Int) > 0 then (some true) else (some (x25 == 0))) else (some false))
def laws_FnPassed.l3 : Nat → List (S51) → Int → List Int → List Int → Bool → List Int → List Int → Int → Int → List Int → Int → Int → Option (Bool)
  | 0, _, _, _, _, _, _, _, _, _, _, _, _ => none
  | k + 1, x24, x25, x26, x30, x31, x34, x195, x196, x197, x209, x210, x211 => if x211 < x210 then (if 0 ≤ x211 then (if x211 < (x209.length : Int) then (if (rd x209 x211) = x25 then (laws_FnPassed.l3 k x24 x25 x26 x30 x31 x34 x195 x196 x197 x209 x210 (wrap64 (x211 + 1))) else ((laws_has.f k x34 (rd x209 x211)).bind fun t569 => (if t569 = true then (laws_FnPassed.l3 k x24 x25 x26 x30 x31 x34 x195 x196 x197 x209 x210 (wrap64 (x211 + 1))) else (some false)))) else (none)) else (none)) else (laws_FnPassed.l2 k x24 x25 x26 x30 x31 x195 x196 (wrap64 (x197 + 1)))
def laws_FnPassed.l0 : Nat → List Int → List (S51) → List Int → List Int → List Int → List Int → Int → Int → Option (Bool)
  | 0, _, _, _, _, _, _, _, _ => none
  | k + 1, x1, x5, x7, x10, x14, x100, x101, x102 => if x102 < x101 then (if 0 ≤ x102 then (if x102 < (x100.length : Int) then ((impl_MustPass.f k x5 (rd x100 x102)).bind fun bt533 => (if bt533.2 = true then ((laws_has.f k x14 (rd x100 x102)).bind fun t537 => (laws_FnPassed.j3 k x1 x5 x7 x10 x14 x102 (rd x100 x102) bt533.1 x100 x101 x102 (!t537))) else (laws_FnPassed.j3 k x1 x5 x7 x10 x14 x102 (rd x100 x102) bt533.1 x100 x101 x102 true))) else (none)) else (none)) else (laws_FnPassed.j5 k x1)
def laws_FnPassed.j3 : Nat → List Int → List (S51) → List Int → List Int → List Int → Int → Int → List Int → List Int → Int → Int → Bool → Option (Bool)
  | 0, _, _, _, _, _, _, _, _, _, _, _, _ => none
  | k + 1, x1, x5, x7, x10, x14, x18, x19, x20, x100, x101, x102, x120 => if x120 = true then (some false) else (laws_FnPassed.l1 k x1 x5 x7 x10 x14 x18 x19 x20 x100 x101 x102 x20 (x20.length : Int) 0)
def laws_FnPassed.l1 : Nat → List Int → List (S51) → List Int → List Int → List Int → Int → Int → List Int → List Int → Int → Int → List Int → Int → Int → Option (Bool)
  | 0, _, _, _, _, _, _, _, _, _, _, _, _, _, _ => none
  | k + 1, x1, x5, x7, x10, x14, x18, x19, x20, x100, x101, x102, x121, x122, x123 => if x123 < x122 then (if 0 ≤ x123 then (if x123 < (x121.length : Int) then (if 0 ≤ (wrap64 (x18 + 1)) then (if (wrap64 (x18 + 1)) ≤ (x7.length : Int) then ((laws_has.f k (x7.take ((wrap64 (x18 + 1)) : Int).toNat) (rd x121 x123)).bind fun t543 => (if t543 = true then (laws_FnPassed.l1 k x1 x5 x7 x10 x14 x18 x19 x20 x100 x101 x102 x121 x122 (wrap64 (x123 + 1))) else (some false))) else (none)) else (none)) else (none)) else (none)) else (if x19 > 0 then (if (x20.length : Int) < 2 then (some false) else (if x19 ≥ (x10.length : Int) then (some false) else (if 0 ≤ x19 then (if x19 < (x10.length : Int) then (if 0 ≤ (wrap64 ((x20.length : Int) - 2)) then (if (wrap64 ((x20.length : Int) - 2)) < (x20.length : Int) then (if (rd x10 x19) = (rd x20 (wrap64 ((x20.length : Int) - 2))) then (laws_FnPassed.l0 k x1 x5 x7 x10 x14 x100 x101 (wrap64 (x102 + 1))) else (some false)) else (none)) else (none)) else (none)) else (none)))) else (laws_FnPassed.l0 k x1 x5 x7 x10 x14 x100 x101 (wrap64 (x102 + 1))))
end
def laws_FnPassed.f (k : Nat) (l0 : List Int) (l1 : List Int) : Option (Bool) := if (wrap64 ((l0.length : Int) + (l1.length : Int))) > 1048576 then (some true) else ((spec_DrawTraceOf.f k l0).bind fun bt503 => ((impl_TraceOf.f k bt503.1 bt503.2).bind fun bt509 => ((impl_NearestOf.f k bt503.1).bind fun bt514 => ((spec_NearestOf.f k bt503.1).bind fun bt518 => ((impl_ReachedIn.f k bt503.1).bind fun bt522 => ((spec_ReachedIn.f k bt503.1).bind fun bt526 => (if (bt514.2 != bt518.2) = true then (laws_FnPassed.j0 k l1 bt503.1 bt509.1 bt509.2.2 bt514.1 bt514.2 bt522.1 true) else ((laws_sameInts.f k bt514.1 bt518.1).bind fun t530 => (if t530 = true then (if (bt522.2 != bt526.2) = true then (laws_FnPassed.j0 k l1 bt503.1 bt509.1 bt509.2.2 bt514.1 bt514.2 bt522.1 true) else ((laws_sameInts.f k bt522.1 bt526.1).bind fun t531 => (laws_FnPassed.j0 k l1 bt503.1 bt509.1 bt509.2.2 bt514.1 bt514.2 bt522.1 (!t531)))) else (laws_FnPassed.j0 k l1 bt503.1 bt509.1 bt509.2.2 bt514.1 bt514.2 bt522.1 true))))))))))
theorem laws_FnPassed.j0_no_7 {k : Nat} {y0 : List Int} {y1 : List (S51)} {y2 : List Int} {y3 : Bool} {y4 : List Int} {y5 : Bool} {y6 : List Int} (h : laws_FnPassed.j0 k y0 y1 y2 y3 y4 y5 y6 true = some true) : False := by
  cases k <;> simp [laws_FnPassed.j0] at h
theorem laws_FnPassed.j3_no_11 {k : Nat} {y0 : List Int} {y1 : List (S51)} {y2 : List Int} {y3 : List Int} {y4 : List Int} {y5 : Int} {y6 : Int} {y7 : List Int} {y8 : List Int} {y9 : Int} {y10 : Int} (h : laws_FnPassed.j3 k y0 y1 y2 y3 y4 y5 y6 y7 y8 y9 y10 true = some true) : False := by
  cases k <;> simp [laws_FnPassed.j3] at h
theorem laws_FnPassed.j6_no_4 {k : Nat} {y0 : List (S51)} {y1 : Int} {y2 : List Int} {y3 : Bool} (h : laws_FnPassed.j6 k y0 y1 y2 y3 true = some true) : False := by
  cases k <;> simp [laws_FnPassed.j6] at h
set_option maxHeartbeats 8000000 in
set_option maxRecDepth 100000 in
theorem laws_FnPassed.calls (k : Nat) (A0 : Option Addr) (c0 : Nat) (l0 : List Int) (A1 : Option Addr) (c1 : Nat) (l1 : List Int) (r : Bool) (w : World) (hr0 : Kd.C (Kd.int .u8) w A0 l0.length l0) (hc0 : l0.length ≤ c0) (hr1 : Kd.C (Kd.int .u8) w A1 l1.length l1) (hc1 : l1.length ≤ c1) (hr_ : Aside0 (r = true)) (h : laws_FnPassed.f k l0 l1 = some r) :
    Calls Try.prog 11 #[.slice A0 l0.length c0, .slice A1 l1.length c1] w fun e w' => e = .returned (.bool r) ∧ Below w.heap.size w w' := by
  have HR0 := am_ hr0
  have HC0 := am_ hc0
  clear hr0 hc0
  have HR1 := am_ hr1
  have HC1 := am_ hc1
  clear hr1 hc1
  have HB := am_ (Below.refl w.heap.size w)
  have H : (if (wrap64 ((l0.length : Int) + (l1.length : Int))) > 1048576 then (some true) else ((spec_DrawTraceOf.f k l0).bind fun bt503 => ((impl_TraceOf.f k bt503.1 bt503.2).bind fun bt509 => ((impl_NearestOf.f k bt503.1).bind fun bt514 => ((spec_NearestOf.f k bt503.1).bind fun bt518 => ((impl_ReachedIn.f k bt503.1).bind fun bt522 => ((spec_ReachedIn.f k bt503.1).bind fun bt526 => (if (bt514.2 != bt518.2) = true then (laws_FnPassed.j0 k l1 bt503.1 bt509.1 bt509.2.2 bt514.1 bt514.2 bt522.1 true) else ((laws_sameInts.f k bt514.1 bt518.1).bind fun t530 => (if t530 = true then (if (bt522.2 != bt526.2) = true then (laws_FnPassed.j0 k l1 bt503.1 bt509.1 bt509.2.2 bt514.1 bt514.2 bt522.1 true) else ((laws_sameInts.f k bt522.1 bt526.1).bind fun t531 => (laws_FnPassed.j0 k l1 bt503.1 bt509.1 bt509.2.2 bt514.1 bt514.2 bt522.1 (!t531)))) else (laws_FnPassed.j0 k l1 bt503.1 bt509.1 bt509.2.2 bt514.1 bt514.2 bt522.1 true))))))))))) = some r := h
  clear h
  by_cases c3 : (wrap64 ((l0.length : Int) + (l1.length : Int))) > 1048576
  · rw [if_pos c3] at H
    have c3b0 : decide (1048576 < (wrap64 ((l0.length : Int) + (l1.length : Int)))) = true := decide_eq_true c3
    clear c3
    as_aux_lemma =>
     obtain rfl := Option.some.inj H
     go_enter Try.func11, Try.ntmps11
     go_wp2
     repeat (go_quiet (fail); try go_wp2)
     go_ret
     exact ⟨by first | rfl | (simp [errW_none, errW_some] <;> rfl) | (simp [*, errW_none, errW_some] <;> rfl), bq_⟩
  · rw [if_neg c3] at H
    have c3b0 : decide (1048576 < (wrap64 ((l0.length : Int) + (l1.length : Int)))) = false := decide_eq_false c3
    clear c3
    replace H := Option.bind_eq_some_iff.mp H
    obtain ⟨⟨t503, t504⟩, A40, H⟩ := H
    replace H : ((impl_TraceOf.f k t503 t504).bind fun bt509 => ((impl_NearestOf.f k t503).bind fun bt514 => ((spec_NearestOf.f k t503).bind fun bt518 => ((impl_ReachedIn.f k t503).bind fun bt522 => ((spec_ReachedIn.f k t503).bind fun bt526 => (if (bt514.2 != bt518.2) = true then (laws_FnPassed.j0 k l1 t503 bt509.1 bt509.2.2 bt514.1 bt514.2 bt522.1 true) else ((laws_sameInts.f k bt514.1 bt518.1).bind fun t530 => (if t530 = true then (if (bt522.2 != bt526.2) = true then (laws_FnPassed.j0 k l1 t503 bt509.1 bt509.2.2 bt514.1 bt514.2 bt522.1 true) else ((laws_sameInts.f k bt522.1 bt526.1).bind fun t531 => (laws_FnPassed.j0 k l1 t503 bt509.1 bt509.2.2 bt514.1 bt514.2 bt522.1 (!t531)))) else (laws_FnPassed.j0 k l1 t503 bt509.1 bt509.2.2 bt514.1 bt514.2 bt522.1 true))))))))) = some r := H
    have A4 := am_ A40
    clear A40
    replace H := Option.bind_eq_some_iff.mp H
    obtain ⟨⟨t509, t510, t511⟩, A50, H⟩ := H
    replace H : ((impl_NearestOf.f k t503).bind fun bt514 => ((spec_NearestOf.f k t503).bind fun bt518 => ((impl_ReachedIn.f k t503).bind fun bt522 => ((spec_ReachedIn.f k t503).bind fun bt526 => (if (bt514.2 != bt518.2) = true then (laws_FnPassed.j0 k l1 t503 t509 t511 bt514.1 bt514.2 bt522.1 true) else ((laws_sameInts.f k bt514.1 bt518.1).bind fun t530 => (if t530 = true then (if (bt522.2 != bt526.2) = true then (laws_FnPassed.j0 k l1 t503 t509 t511 bt514.1 bt514.2 bt522.1 true) else ((laws_sameInts.f k bt522.1 bt526.1).bind fun t531 => (laws_FnPassed.j0 k l1 t503 t509 t511 bt514.1 bt514.2 bt522.1 (!t531)))) else (laws_FnPassed.j0 k l1 t503 t509 t511 bt514.1 bt514.2 bt522.1 true)))))))) = some r := H
    have A5 := am_ A50
    clear A50
    replace H := Option.bind_eq_some_iff.mp H
    obtain ⟨⟨t514, t515⟩, A60, H⟩ := H
    replace H : ((spec_NearestOf.f k t503).bind fun bt518 => ((impl_ReachedIn.f k t503).bind fun bt522 => ((spec_ReachedIn.f k t503).bind fun bt526 => (if (t515 != bt518.2) = true then (laws_FnPassed.j0 k l1 t503 t509 t511 t514 t515 bt522.1 true) else ((laws_sameInts.f k t514 bt518.1).bind fun t530 => (if t530 = true then (if (bt522.2 != bt526.2) = true then (laws_FnPassed.j0 k l1 t503 t509 t511 t514 t515 bt522.1 true) else ((laws_sameInts.f k bt522.1 bt526.1).bind fun t531 => (laws_FnPassed.j0 k l1 t503 t509 t511 t514 t515 bt522.1 (!t531)))) else (laws_FnPassed.j0 k l1 t503 t509 t511 t514 t515 bt522.1 true))))))) = some r := H
    have A6 := am_ A60
    clear A60
    replace H := Option.bind_eq_some_iff.mp H
    obtain ⟨⟨t518, t519⟩, A70, H⟩ := H
    replace H : ((impl_ReachedIn.f k t503).bind fun bt522 => ((spec_ReachedIn.f k t503).bind fun bt526 => (if (t515 != t519) = true then (laws_FnPassed.j0 k l1 t503 t509 t511 t514 t515 bt522.1 true) else ((laws_sameInts.f k t514 t518).bind fun t530 => (if t530 = true then (if (bt522.2 != bt526.2) = true then (laws_FnPassed.j0 k l1 t503 t509 t511 t514 t515 bt522.1 true) else ((laws_sameInts.f k bt522.1 bt526.1).bind fun t531 => (laws_FnPassed.j0 k l1 t503 t509 t511 t514 t515 bt522.1 (!t531)))) else (laws_FnPassed.j0 k l1 t503 t509 t511 t514 t515 bt522.1 true)))))) = some r := H
    have A7 := am_ A70
    clear A70
    replace H := Option.bind_eq_some_iff.mp H
    obtain ⟨⟨t522, t523⟩, A80, H⟩ := H
    replace H : ((spec_ReachedIn.f k t503).bind fun bt526 => (if (t515 != t519) = true then (laws_FnPassed.j0 k l1 t503 t509 t511 t514 t515 t522 true) else ((laws_sameInts.f k t514 t518).bind fun t530 => (if t530 = true then (if (t523 != bt526.2) = true then (laws_FnPassed.j0 k l1 t503 t509 t511 t514 t515 t522 true) else ((laws_sameInts.f k t522 bt526.1).bind fun t531 => (laws_FnPassed.j0 k l1 t503 t509 t511 t514 t515 t522 (!t531)))) else (laws_FnPassed.j0 k l1 t503 t509 t511 t514 t515 t522 true))))) = some r := H
    have A8 := am_ A80
    clear A80
    replace H := Option.bind_eq_some_iff.mp H
    obtain ⟨⟨t526, t527⟩, A90, H⟩ := H
    replace H : (if (t515 != t519) = true then (laws_FnPassed.j0 k l1 t503 t509 t511 t514 t515 t522 true) else ((laws_sameInts.f k t514 t518).bind fun t530 => (if t530 = true then (if (t523 != t527) = true then (laws_FnPassed.j0 k l1 t503 t509 t511 t514 t515 t522 true) else ((laws_sameInts.f k t522 t526).bind fun t531 => (laws_FnPassed.j0 k l1 t503 t509 t511 t514 t515 t522 (!t531)))) else (laws_FnPassed.j0 k l1 t503 t509 t511 t514 t515 t522 true)))) = some r := H
    have A9 := am_ A90
    clear A90
    have HC10 := am_ H
    clear H
    go_enter Try.func11, Try.ntmps11
    go_upto_region 9 with (first | (go_at_call 38; (with_reducible refine (spec_DrawTraceOf.calls k _ _ l0 t503 t504 _ ?side1 ?side2 A4.out).mono ?_); (case side1 => exact cm_ HR0.out); (case side2 => exact HC0.out); rintro e w11 ⟨v505, v507, rfl, ho0, ho1, hb⟩; have HO506 := am_ (Kd.R_lower ho0 (below_size (bq_))); have HO508 := am_ (Kd.R_lower ho1 (below_size (bq_))); replace HB := bs_ hb; (try clear hb); (try clear ho0); (try clear ho1); obtain ⟨Ao12, co12, eo12⟩ := Kd.R_slice HO506.out; subst eo12; obtain ⟨Ao13, co13, eo13⟩ := Kd.R_slice HO508.out; subst eo13) | (go_at_call 39; (with_reducible refine (impl_TraceOf.calls k _ _ t503 _ _ t504 t509 t510 t511 _ ?side1 ?side2 ?side3 ?side4 A5.out).mono ?_); (case side1 => exact cm_ (Kd.R_reads' HO506.out).2.2); (case side2 => exact (Kd.R_reads' HO506.out).2.1); (case side3 => exact cm_ (Kd.R_reads' HO508.out).2.2); (case side4 => exact (Kd.R_reads' HO508.out).2.1); rintro e w14 ⟨v512, rfl, ho0, hb⟩; replace HO506 := am_ (Kd.R_below (rq_ HO506.out) hb); have HO513 := am_ (Kd.R_lower (Kd.R_new' ho0 (Kd.R_lt (rq_ HO508.out))) (below_size (bq_))); replace HO508 := am_ (Kd.R_elder' (rq_ HO508.out) (Kd.R_base ho0) hb); replace HB := bs_ hb; (try clear hb); (try clear ho0)) | (go_at_call 32; (with_reducible refine (impl_NearestOf.calls k _ _ t503 t514 t515 _ ?side1 ?side2 A6.out).mono ?_); (case side1 => exact cm_ (Kd.R_reads' HO506.out).2.2); (case side2 => exact (Kd.R_reads' HO506.out).2.1); rintro e w15 ⟨v516, rfl, ho0, hb⟩; replace HO506 := am_ (Kd.R_below (rq_ HO506.out) hb); have HO517 := am_ (Kd.R_lower (Kd.R_new' (Kd.R_new' ho0 (Kd.R_lt (rq_ HO508.out))) (Kd.R_lt (rq_ HO513.out))) (below_size (bq_))); replace HO508 := am_ (Kd.R_elder' (rq_ HO508.out) (Kd.R_base ho0) hb); replace HO513 := am_ (Kd.R_elder' (rq_ HO513.out) (Kd.R_base ho0) hb); replace HB := bs_ hb; (try clear hb); (try clear ho0)) | (go_at_call 31; (with_reducible refine (spec_NearestOf.calls k _ _ t503 t518 t519 _ ?side1 ?side2 A7.out).mono ?_); (case side1 => exact cm_ (Kd.R_reads' HO506.out).2.2); (case side2 => exact (Kd.R_reads' HO506.out).2.1); rintro e w16 ⟨v520, rfl, ho0, hb⟩; replace HO506 := am_ (Kd.R_below (rq_ HO506.out) hb); have HO521 := am_ (Kd.R_lower (Kd.R_new' (Kd.R_new' (Kd.R_new' ho0 (Kd.R_lt (rq_ HO508.out))) (Kd.R_lt (rq_ HO513.out))) (Kd.R_lt (rq_ HO517.out))) (below_size (bq_))); replace HO508 := am_ (Kd.R_elder' (rq_ HO508.out) (Kd.R_base ho0) hb); replace HO513 := am_ (Kd.R_elder' (rq_ HO513.out) (Kd.R_base ho0) hb); replace HO517 := am_ (Kd.R_elder' (rq_ HO517.out) (Kd.R_base ho0) hb); replace HB := bs_ hb; (try clear hb); (try clear ho0)) | (go_at_call 18; (with_reducible refine (impl_ReachedIn.calls k _ _ t503 t522 t523 _ ?side1 ?side2 A8.out).mono ?_); (case side1 => exact cm_ (Kd.R_reads' HO506.out).2.2); (case side2 => exact (Kd.R_reads' HO506.out).2.1); rintro e w17 ⟨v524, rfl, ho0, hb⟩; replace HO506 := am_ (Kd.R_below (rq_ HO506.out) hb); have HO525 := am_ (Kd.R_lower (Kd.R_new' (Kd.R_new' (Kd.R_new' (Kd.R_new' ho0 (Kd.R_lt (rq_ HO508.out))) (Kd.R_lt (rq_ HO513.out))) (Kd.R_lt (rq_ HO517.out))) (Kd.R_lt (rq_ HO521.out))) (below_size (bq_))); replace HO508 := am_ (Kd.R_elder' (rq_ HO508.out) (Kd.R_base ho0) hb); replace HO513 := am_ (Kd.R_elder' (rq_ HO513.out) (Kd.R_base ho0) hb); replace HO517 := am_ (Kd.R_elder' (rq_ HO517.out) (Kd.R_base ho0) hb); replace HO521 := am_ (Kd.R_elder' (rq_ HO521.out) (Kd.R_base ho0) hb); replace HB := bs_ hb; (try clear hb); (try clear ho0)) | (go_at_call 17; (with_reducible refine (spec_ReachedIn.calls k _ _ t503 t526 t527 _ ?side1 ?side2 A9.out).mono ?_); (case side1 => exact cm_ (Kd.R_reads' HO506.out).2.2); (case side2 => exact (Kd.R_reads' HO506.out).2.1); rintro e w18 ⟨v528, rfl, ho0, hb⟩; replace HO506 := am_ (Kd.R_below (rq_ HO506.out) hb); have HO529 := am_ (Kd.R_lower (Kd.R_new' (Kd.R_new' (Kd.R_new' (Kd.R_new' (Kd.R_new' ho0 (Kd.R_lt (rq_ HO508.out))) (Kd.R_lt (rq_ HO513.out))) (Kd.R_lt (rq_ HO517.out))) (Kd.R_lt (rq_ HO521.out))) (Kd.R_lt (rq_ HO525.out))) (below_size (bq_))); replace HO508 := am_ (Kd.R_elder' (rq_ HO508.out) (Kd.R_base ho0) hb); replace HO513 := am_ (Kd.R_elder' (rq_ HO513.out) (Kd.R_base ho0) hb); replace HO517 := am_ (Kd.R_elder' (rq_ HO517.out) (Kd.R_base ho0) hb); replace HO521 := am_ (Kd.R_elder' (rq_ HO521.out) (Kd.R_base ho0) hb); replace HO525 := am_ (Kd.R_elder' (rq_ HO525.out) (Kd.R_base ho0) hb); replace HB := bs_ hb; (try clear hb); (try clear ho0)))
    repeat (go_quiet (fail); go_upto_region 9 with (fail))
    (try simp only [Act.put, List.setIfInBounds_toArray, List.set_cons_zero, List.set_cons_succ])
    go_cut [95] (fun v95 wc => ∃ (kq : Nat) (x95_9 : Bool), v95 = .bool x95_9 ∧ Aside0 (laws_FnPassed.j0 kq l1 t503 t509 t511 t514 t515 t522 x95_9 = some r) ∧ Aside0 (kq ≤ k) ∧ Aside0 (Kd.R k51 51 wc w.heap.size (fun _ => True) (.slice Ao12 t503.length co12) t503) ∧ Aside0 (Kd.R (Kd.int .i64) 3 wc w.heap.size (fun k_ => some k_ ≠ (v516 : Value).ownBlock ∧ some k_ ≠ (v524 : Value).ownBlock) v512 t509) ∧ Aside0 (Kd.R (Kd.int .i64) 3 wc w.heap.size (fun k_ => some k_ ≠ (v512 : Value).ownBlock ∧ some k_ ≠ (v524 : Value).ownBlock) v516 t514) ∧ Aside0 (Kd.R (Kd.int .i64) 3 wc w.heap.size (fun k_ => some k_ ≠ (v512 : Value).ownBlock ∧ some k_ ≠ (v516 : Value).ownBlock) v524 t522) ∧ Aside0 (Below w.heap.size w wc))
    case first =>
      have H := HC10.out
      clear HC10
      by_cases c19 : (t515 != t519) = true
      · rw [if_pos c19] at H
        have c19b0 : (t515 != t519) = true := c19
        (try (have c19b1 : decide (t515 = t519) = false := by simpa using c19))
        (try (have c19b2 : (t515 == t519) = false := by simpa using c19))
        (try (have c19b3 : ¬ (t515 = t519) := by simpa using c19))
        clear c19
        (first | rw [c19b0] | (simp only [i64_w, i32_w]; rw [c19b0]) | skip)
        exact (laws_FnPassed.j0_no_7 y17_).elim
      · rw [if_neg c19] at H
        have c19b0 : (t515 != t519) = false := by simpa using c19
        (try (have c19b1 : decide (t515 = t519) = true := by simpa using c19))
        (try (have c19b2 : (t515 == t519) = true := by simpa using c19))
        clear c19
        (first | rw [c19b0] | (simp only [i64_w, i32_w]; rw [c19b0]) | skip)
        replace H := Option.bind_eq_some_iff.mp H
        obtain ⟨t530, A200, H⟩ := H
        replace H : (if t530 = true then (if (t523 != t527) = true then (laws_FnPassed.j0 k l1 t503 t509 t511 t514 t515 t522 true) else ((laws_sameInts.f k t522 t526).bind fun t531 => (laws_FnPassed.j0 k l1 t503 t509 t511 t514 t515 t522 (!t531)))) else (laws_FnPassed.j0 k l1 t503 t509 t511 t514 t515 t522 true)) = some r := H
        have A20 := am_ A200
        clear A200
        by_cases c21 : t530 = true
        · subst c21
          have H1 : (if (t523 != t527) = true then (laws_FnPassed.j0 k l1 t503 t509 t511 t514 t515 t522 true) else ((laws_sameInts.f k t522 t526).bind fun t531 => (laws_FnPassed.j0 k l1 t503 t509 t511 t514 t515 t522 (!t531)))) = some r := by rw [if_pos rfl] at H; exact H
          clear H
          have H := H1
          clear H1
          by_cases c22 : (t523 != t527) = true
          · rw [if_pos c22] at H
            have c22b0 : (t523 != t527) = true := c22
            (try (have c22b1 : decide (t523 = t527) = false := by simpa using c22))
            (try (have c22b2 : (t523 == t527) = false := by simpa using c22))
            (try (have c22b3 : ¬ (t523 = t527) := by simpa using c22))
            clear c22
            exact (laws_FnPassed.j0_no_7 y17_).elim
          · rw [if_neg c22] at H
            have c22b0 : (t523 != t527) = false := by simpa using c22
            (try (have c22b1 : decide (t523 = t527) = true := by simpa using c22))
            (try (have c22b2 : (t523 == t527) = true := by simpa using c22))
            clear c22
            replace H := Option.bind_eq_some_iff.mp H
            obtain ⟨t531, A230, H⟩ := H
            replace H : (laws_FnPassed.j0 k l1 t503 t509 t511 t514 t515 t522 (!t531)) = some r := H
            have A23 := am_ A230
            clear A230
            as_aux_lemma =>
             have H' := am_ H
             clear H
             obtain ⟨Ao24, co24, eo24⟩ := Kd.R_slice HO517.out
             subst eo24
             obtain ⟨Ao25, co25, eo25⟩ := Kd.R_slice HO521.out
             subst eo25
             go_wp2_with (first | (go_at_call 34; (with_reducible refine (laws_sameInts.calls k _ _ t514 _ _ t518 true _ ?side1 ?side2 ?side3 ?side4 A20.out).mono ?_); (case side1 => exact cm_ (Kd.R_reads' HO517.out).2.2); (case side2 => exact (Kd.R_reads' HO517.out).2.1); (case side3 => exact cm_ (Kd.R_reads' HO521.out).2.2); (case side4 => exact (Kd.R_reads' HO521.out).2.1); rintro e w' ⟨rfl, ⟨nd, rfl⟩⟩; (try first | exact ⟨rfl, _, World.drewN_drewN _ _ _⟩ | exact ⟨rfl, _, Eq.trans (World.drewN_drewN _ _ _) (congrArg (World.drewN _) (Nat.add_assoc _ _ _))⟩); obtain ⟨Ao26, co26, eo26⟩ := Kd.R_slice HO525.out; subst eo26; obtain ⟨Ao27, co27, eo27⟩ := Kd.R_slice HO529.out; subst eo27) | (go_at_call 34; (with_reducible refine (laws_sameInts.calls k _ _ t522 _ _ t526 t531 _ ?side1 ?side2 ?side3 ?side4 A23.out).mono ?_); (case side1 => exact cm_ (Kd.R_reads' HO525.out).2.2); (case side2 => exact (Kd.R_reads' HO525.out).2.1); (case side3 => exact cm_ (Kd.R_reads' HO529.out).2.2); (case side4 => exact (Kd.R_reads' HO529.out).2.1); rintro e w' ⟨rfl, ⟨nd, rfl⟩⟩; (try first | exact ⟨rfl, _, World.drewN_drewN _ _ _⟩ | exact ⟨rfl, _, Eq.trans (World.drewN_drewN _ _ _) (congrArg (World.drewN _) (Nat.add_assoc _ _ _))⟩)))
             repeat (go_quiet (fail); try go_wp2_with (fail))
             go_meet
             case rel => exact ⟨_, (!t531), y14_, H', ⟨by first | omega | exact Nat.le_refl _⟩, ⟨rq_ HO506.out⟩, ⟨rq_ (Kd.R_mono HO513.out (fun _ hk => ⟨hk.1.1.1.2, hk.1.2⟩))⟩, ⟨rq_ (Kd.R_mono HO517.out (fun _ hk => ⟨hk.1.1.1.2, hk.1.2⟩))⟩, ⟨rq_ (Kd.R_mono HO525.out (fun _ hk => ⟨hk.1.1.1.2, hk.1.1.2⟩))⟩, ⟨bq_⟩⟩
        · replace c21 := Bool.eq_false_iff.mpr c21
          subst c21
          have H1 : (laws_FnPassed.j0 k l1 t503 t509 t511 t514 t515 t522 true) = some r := by rw [if_neg (show ¬ (false = true) by decide)] at H; exact H
          clear H
          have H := H1
          clear H1
          exact (laws_FnPassed.j0_no_7 y17_).elim
    case rest =>
      clear HC10
      try clear c1
      try clear c2
      try clear p2
      try clear c3
      try clear c3b0
      try clear p6
      try clear c11
      try clear c19
      try clear c19b0
      try clear c19b1
      try clear c19b2
      try clear c21
      try clear c22
      try clear c22b0
      try clear c22b1
      try clear c22b2
      obtain ⟨kq, x95_9, rfl, HA, HJ9, HO_5, HO_7, HO_10, HO_14, HB⟩ := hcut
      cases kq with
      | zero => exact absurd HA.out (by simp [laws_FnPassed.j0])
      | succ kj9 =>
        have H := HA.out
        clear HA
        simp only [laws_FnPassed.j0] at H
        by_cases c28 : x95_9 = true
        · subst c28
          have H1 : (some false) = some r := by rw [if_pos rfl] at H; exact H
          clear H
          have H := H1
          clear H1
          exact absurd (Option.some.inj H).symm (by rw [hr_.out]; simp)
        · replace c28 := Bool.eq_false_iff.mpr c28
          subst c28
          have H1 : (if t511 = true then (laws_FnPassed.j1 kj9 l1 t503 t509 t514 t522 t515) else (laws_FnPassed.j1 kj9 l1 t503 t509 t514 t522 false)) = some r := by rw [if_neg (show ¬ (false = true) by decide)] at H; exact H
          clear H
          have H := H1
          clear H1
          have HC29 := am_ H
          clear H
          go_upto_region 11 with (fail)
          repeat (go_quiet (fail); go_upto_region 11 with (fail))
          go_cut [99] (fun v99 wc => ∃ (kq : Nat) (x99_28 : Bool), v99 = .bool x99_28 ∧ Aside0 (laws_FnPassed.j1 kq l1 t503 t509 t514 t522 x99_28 = some r) ∧ Aside0 (kq ≤ kj9) ∧ Aside0 (Kd.R k51 51 wc w.heap.size (fun _ => True) (.slice Ao12 t503.length co12) t503) ∧ Aside0 (Kd.R (Kd.int .i64) 3 wc w.heap.size (fun k_ => some k_ ≠ (v516 : Value).ownBlock ∧ some k_ ≠ (v524 : Value).ownBlock) v512 t509) ∧ Aside0 (Kd.R (Kd.int .i64) 3 wc w.heap.size (fun k_ => some k_ ≠ (v512 : Value).ownBlock ∧ some k_ ≠ (v524 : Value).ownBlock) v516 t514) ∧ Aside0 (Kd.R (Kd.int .i64) 3 wc w.heap.size (fun k_ => some k_ ≠ (v512 : Value).ownBlock ∧ some k_ ≠ (v516 : Value).ownBlock) v524 t522) ∧ Aside0 (Below w.heap.size w wc))
          case first =>
            have H := HC29.out
            clear HC29
            by_cases c30 : t511 = true
            · subst c30
              have H1 : (laws_FnPassed.j1 kj9 l1 t503 t509 t514 t522 t515) = some r := by rw [if_pos rfl] at H; exact H
              clear H
              have H := H1
              clear H1
              as_aux_lemma =>
               have H' := am_ H
               clear H
               go_wp2
               repeat (go_quiet (fail); try go_wp2)
               go_meet
               case rel => exact ⟨_, (t515), y14_, H', ⟨by have := HJ9.out; first | omega | exact Nat.le_refl _⟩, ⟨rq_ HO_5.out⟩, ⟨rq_ HO_7.out⟩, ⟨rq_ HO_10.out⟩, ⟨rq_ HO_14.out⟩, ⟨bq_⟩⟩
            · replace c30 := Bool.eq_false_iff.mpr c30
              subst c30
              have H1 : (laws_FnPassed.j1 kj9 l1 t503 t509 t514 t522 false) = some r := by rw [if_neg (show ¬ (false = true) by decide)] at H; exact H
              clear H
              have H := H1
              clear H1
              as_aux_lemma =>
               have H' := am_ H
               clear H
               go_wp2
               repeat (go_quiet (fail); try go_wp2)
               go_meet
               case rel => exact ⟨_, (false), y14_, H', ⟨by have := HJ9.out; first | omega | exact Nat.le_refl _⟩, ⟨rq_ HO_5.out⟩, ⟨rq_ HO_7.out⟩, ⟨rq_ HO_10.out⟩, ⟨rq_ HO_14.out⟩, ⟨bq_⟩⟩
          case rest =>
            clear HC29
            try clear c1
            try clear c2
            try clear p2
            try clear c3
            try clear c3b0
            try clear p6
            try clear c11
            try clear c19
            try clear c19b0
            try clear c19b1
            try clear c19b2
            try clear c21
            try clear c22
            try clear c22b0
            try clear c22b1
            try clear c22b2
            try clear c28
            try clear c30
            try clear p2
            try clear p6
            obtain ⟨kq, x99_28, rfl, HA, HJ28, HO_5, HO_7, HO_10, HO_14, HB⟩ := hcut
            cases kq with
            | zero => exact absurd HA.out (by simp [laws_FnPassed.j1])
            | succ kj28 =>
              have H := HA.out
              clear HA
              simp only [laws_FnPassed.j1] at H
              have HC31 := am_ H
              clear H
              go_upto_if 99 with (fail)
              repeat (go_quiet (fail); go_upto_if 99 with (fail))
              go_cut [] (fun wc => ∃ (kq : Nat), Aside0 (laws_FnPassed.j5 kq l1 = some r) ∧ Aside0 (kq ≤ kj28) ∧ Aside0 (Below w.heap.size w wc))
              case first =>
                have H := HC31.out
                clear HC31
                by_cases c32 : x99_28 = true
                · subst c32
                  have H1 : (laws_FnPassed.l0 kj28 l1 t503 t509 t514 t522 t509 (t509.length : Int) 0) = some r := by rw [if_pos rfl] at H; exact H
                  clear H
                  have H := H1
                  clear H1
                  as_aux_lemma =>
                   have H' := am_ H
                   clear H
                   obtain ⟨Ao33, co33, eo33⟩ := Kd.R_slice HO_7.out
                   subst eo33
                   go_wp2
                   repeat (go_quiet (fail); try go_wp2)
                   go_loopg [102] kj28 (fun kq v102 w' => ∃ (x102_3 : Int), v102 = .int .i64 x102_3 ∧ Aside0 (laws_FnPassed.l0 kq l1 t503 t509 t514 t522 t509 (t509.length : Int) x102_3 = some r) ∧ Aside0 (kq ≤ kj28) ∧ Aside0 (Kd.R k51 51 w' w.heap.size (fun _ => True) (.slice Ao12 t503.length co12) t503) ∧ Aside0 (Kd.R (Kd.int .i64) 3 w' w.heap.size (fun k_ => some k_ ≠ (v516 : Value).ownBlock ∧ some k_ ≠ (v524 : Value).ownBlock) (.slice Ao33 t509.length co33) t509) ∧ Aside0 (Kd.R (Kd.int .i64) 3 w' w.heap.size (fun k_ => some k_ ≠ ((.slice Ao33 t509.length co33) : Value).ownBlock ∧ some k_ ≠ (v524 : Value).ownBlock ∧ some k_ ≠ ((.slice Ao33 t509.length co33) : Value).ownBlock) v516 t514) ∧ Aside0 (Kd.R (Kd.int .i64) 3 w' w.heap.size (fun k_ => some k_ ≠ ((.slice Ao33 t509.length co33) : Value).ownBlock ∧ some k_ ≠ (v516 : Value).ownBlock ∧ some k_ ≠ ((.slice Ao33 t509.length co33) : Value).ownBlock) v524 t522) ∧ Aside0 (Kd.R (Kd.int .i64) 3 w' w.heap.size (fun k_ => some k_ ≠ (v516 : Value).ownBlock ∧ some k_ ≠ (v524 : Value).ownBlock) (.slice Ao33 t509.length co33) t509) ∧ Aside0 (Below w.heap.size w w'))
                   case atStart => exact ⟨(0), y14_, H', ⟨Nat.le_refl _⟩, ⟨rq_ HO_5.out⟩, ⟨rq_ HO_7.out⟩, ⟨rq_ (Kd.R_mono HO_10.out (fun _ hk => ⟨hk.1, ⟨hk.2, hk.1⟩⟩))⟩, ⟨rq_ (Kd.R_mono HO_14.out (fun _ hk => ⟨hk.1, ⟨hk.2, hk.1⟩⟩))⟩, ⟨rq_ HO_7.out⟩, ⟨bq_⟩⟩
                   case round =>
                     clear H'
                     try clear c1
                     try clear c2
                     try clear p2
                     try clear c3
                     try clear c3b0
                     try clear p6
                     try clear c11
                     try clear c19
                     try clear c19b0
                     try clear c19b1
                     try clear c19b2
                     try clear c21
                     try clear c22
                     try clear c22b0
                     try clear c22b1
                     try clear c22b2
                     try clear c28
                     try clear c30
                     try clear c32
                     try clear p2
                     try clear p6
                     obtain ⟨x102_3, rfl, HA, HK3, HO_5, HO_7, HO_10, HO_14, HO_100, HB⟩ := hrel
                     cases gk with
                     | zero => exact absurd HA.out (by simp [laws_FnPassed.l0])
                     | succ k3 =>
                       have H := HA.out
                       clear HA
                       simp only [laws_FnPassed.l0] at H
                       by_cases c34 : x102_3 < (t509.length : Int)
                       · rw [if_pos c34] at H
                         have c34b0 : decide (x102_3 < (t509.length : Int)) = true := decide_eq_true c34
                         clear c34
                         (first | rw [c34b0] | (simp only [i64_w, i32_w]; rw [c34b0]) | skip)
                         by_cases c35 : 0 ≤ x102_3
                         · rw [if_pos c35] at H
                           have c35b0 : decide (0 ≤ x102_3) = true := decide_eq_true c35
                           clear c35
                           by_cases c36 : x102_3 < (t509.length : Int)
                           · rw [if_pos c36] at H
                             have c36b0 : decide (x102_3 < (t509.length : Int)) = true := decide_eq_true c36
                             clear c36
                             replace H := Option.bind_eq_some_iff.mp H
                             obtain ⟨⟨t533, t534⟩, A370, H⟩ := H
                             replace H : (if t534 = true then ((laws_has.f k3 t522 (rd t509 x102_3)).bind fun t537 => (laws_FnPassed.j3 k3 l1 t503 t509 t514 t522 x102_3 (rd t509 x102_3) t533 t509 (t509.length : Int) x102_3 (!t537))) else (laws_FnPassed.j3 k3 l1 t503 t509 t514 t522 x102_3 (rd t509 x102_3) t533 t509 (t509.length : Int) x102_3 true)) = some r := H
                             have A37 := am_ A370
                             clear A370
                             have HC38 := am_ H
                             clear H
                             have p532 : 0 ≤ (x102_3 : Int) := od_
                             have q532 : x102_3 < (t509.length : Int) := od_
                             obtain ⟨ad532, e532, hx532_0⟩ := Kd.at_int (Kd.R_reads' HO_100.out).2.2 x102_3 p532 q532
                             cases e532
                             replace p532 := eq_true p532
                             replace q532 := eq_true q532
                             go_upto_region 16 with (first | (go_at_call 30; (with_reducible refine (impl_MustPass.calls k3 _ _ t503 (rd t509 x102_3) t533 t534 _ ?side1 ?side2 A37.out).mono ?_); (case side1 => exact cm_ (Kd.R_reads' HO_5.out).2.2); (case side2 => exact (Kd.R_reads' HO_5.out).2.1); rintro e w39 ⟨v535, rfl, ho0, hb⟩; replace HO_5 := am_ (Kd.R_below (rq_ HO_5.out) hb); have HO536 := am_ (Kd.R_lower (Kd.R_new' (Kd.R_new' (Kd.R_new' (Kd.R_new' ho0 (Kd.R_lt (rq_ HO_7.out))) (Kd.R_lt (rq_ HO_10.out))) (Kd.R_lt (rq_ HO_14.out))) (Kd.R_lt (rq_ HO_100.out))) (below_size (bq_))); replace HO_7 := am_ (Kd.R_elder' (rq_ HO_7.out) (Kd.R_base ho0) hb); replace HO_10 := am_ (Kd.R_elder' (rq_ HO_10.out) (Kd.R_base ho0) hb); replace HO_14 := am_ (Kd.R_elder' (rq_ HO_14.out) (Kd.R_base ho0) hb); replace HO_100 := am_ (Kd.R_elder' (rq_ HO_100.out) (Kd.R_base ho0) hb); replace HB := bs_ hb; (try clear hb); (try clear ho0)))
                             repeat (go_quiet (fail); go_upto_region 16 with (fail))
                             (try simp only [Act.put, List.setIfInBounds_toArray, List.set_cons_zero, List.set_cons_succ])
                             go_cut [120] (fun v120 wc => ∃ (kq : Nat) (x120_37 : Bool), v120 = .bool x120_37 ∧ Aside0 (laws_FnPassed.j3 kq l1 t503 t509 t514 t522 x102_3 (rd t509 x102_3) t533 t509 (t509.length : Int) x102_3 x120_37 = some r) ∧ Aside0 (kq ≤ k3) ∧ Aside0 (Kd.R k51 51 wc w.heap.size (fun _ => True) (.slice Ao12 t503.length co12) t503) ∧ Aside0 (Kd.R (Kd.int .i64) 3 wc w.heap.size (fun k_ => some k_ ≠ (v516 : Value).ownBlock ∧ some k_ ≠ (v524 : Value).ownBlock ∧ some k_ ≠ (v535 : Value).ownBlock) (.slice (some ad532) t509.length co33) t509) ∧ Aside0 (Kd.R (Kd.int .i64) 3 wc w.heap.size (fun k_ => some k_ ≠ ((.slice (some ad532) t509.length co33) : Value).ownBlock ∧ some k_ ≠ (v524 : Value).ownBlock ∧ some k_ ≠ (v535 : Value).ownBlock ∧ some k_ ≠ ((.slice (some ad532) t509.length co33) : Value).ownBlock) v516 t514) ∧ Aside0 (Kd.R (Kd.int .i64) 3 wc w.heap.size (fun k_ => some k_ ≠ ((.slice (some ad532) t509.length co33) : Value).ownBlock ∧ some k_ ≠ (v516 : Value).ownBlock ∧ some k_ ≠ (v535 : Value).ownBlock ∧ some k_ ≠ ((.slice (some ad532) t509.length co33) : Value).ownBlock) v524 t522) ∧ Aside0 (Kd.R (Kd.int .i64) 3 wc w.heap.size (fun k_ => some k_ ≠ ((.slice (some ad532) t509.length co33) : Value).ownBlock ∧ some k_ ≠ (v516 : Value).ownBlock ∧ some k_ ≠ (v524 : Value).ownBlock ∧ some k_ ≠ ((.slice (some ad532) t509.length co33) : Value).ownBlock) v535 t533) ∧ Aside0 (Kd.R (Kd.int .i64) 3 wc w.heap.size (fun k_ => some k_ ≠ (v516 : Value).ownBlock ∧ some k_ ≠ (v524 : Value).ownBlock ∧ some k_ ≠ (v535 : Value).ownBlock) (.slice (some ad532) t509.length co33) t509) ∧ Aside0 (Below w.heap.size w wc))
                             case first =>
                               have H := HC38.out
                               clear HC38
                               by_cases c40 : t534 = true
                               · subst c40
                                 have H1 : ((laws_has.f k3 t522 (rd t509 x102_3)).bind fun t537 => (laws_FnPassed.j3 k3 l1 t503 t509 t514 t522 x102_3 (rd t509 x102_3) t533 t509 (t509.length : Int) x102_3 (!t537))) = some r := by rw [if_pos rfl] at H; exact H
                                 clear H
                                 have H := H1
                                 clear H1
                                 replace H := Option.bind_eq_some_iff.mp H
                                 obtain ⟨t537, A410, H⟩ := H
                                 replace H : (laws_FnPassed.j3 k3 l1 t503 t509 t514 t522 x102_3 (rd t509 x102_3) t533 t509 (t509.length : Int) x102_3 (!t537)) = some r := H
                                 have A41 := am_ A410
                                 clear A410
                                 have H' := am_ H
                                 clear H
                                 obtain ⟨Ao42, co42, eo42⟩ := Kd.R_slice HO_14.out
                                 subst eo42
                                 go_wp2_with (first | (go_at_call 35; (with_reducible refine (laws_has.calls k3 _ _ t522 (rd t509 x102_3) t537 _ ?side1 ?side2 A41.out).mono ?_); (case side1 => exact cm_ (Kd.R_reads' HO_14.out).2.2); (case side2 => exact (Kd.R_reads' HO_14.out).2.1); rintro e w' ⟨rfl, ⟨nd, rfl⟩⟩; (try first | exact ⟨rfl, _, World.drewN_drewN _ _ _⟩ | exact ⟨rfl, _, Eq.trans (World.drewN_drewN _ _ _) (congrArg (World.drewN _) (Nat.add_assoc _ _ _))⟩)))
                                 repeat (go_quiet (fail); try go_wp2_with (fail))
                                 go_meet
                                 case rel => exact ⟨_, (!t537), y14_, H', ⟨by have := HJ9.out; have := HJ28.out; have := HK3.out; first | omega | exact Nat.le_refl _⟩, ⟨rq_ HO_5.out⟩, ⟨rq_ (Kd.R_mono HO_7.out (fun _ hk => ⟨hk.1.1, ⟨hk.1.2, hk.2⟩⟩))⟩, ⟨rq_ (Kd.R_mono HO_10.out (fun _ hk => ⟨hk.1.1, ⟨hk.1.2.1, ⟨hk.2, hk.1.2.2⟩⟩⟩))⟩, ⟨rq_ (Kd.R_mono HO_14.out (fun _ hk => ⟨hk.1.1, ⟨hk.1.2.1, ⟨hk.2, hk.1.2.2⟩⟩⟩))⟩, ⟨rq_ (Kd.R_mono HO536.out (fun _ hk => ⟨hk.1.1.1.2, ⟨hk.1.1.2, ⟨hk.1.2, hk.2⟩⟩⟩))⟩, ⟨rq_ (Kd.R_mono HO_100.out (fun _ hk => ⟨hk.1.1, ⟨hk.1.2, hk.2⟩⟩))⟩, ⟨bq_⟩⟩
                               · replace c40 := Bool.eq_false_iff.mpr c40
                                 subst c40
                                 have H1 : (laws_FnPassed.j3 k3 l1 t503 t509 t514 t522 x102_3 (rd t509 x102_3) t533 t509 (t509.length : Int) x102_3 true) = some r := by rw [if_neg (show ¬ (false = true) by decide)] at H; exact H
                                 clear H
                                 have H := H1
                                 clear H1
                                 exact (laws_FnPassed.j3_no_11 y17_).elim
                             case rest =>
                               clear HC38
                               try clear c1
                               try clear c2
                               try clear p2
                               try clear c3
                               try clear c3b0
                               try clear c4
                               try clear p5
                               try clear q5
                               try clear hx5
                               try clear p6
                               try clear c11
                               try clear c19
                               try clear c19b0
                               try clear c19b1
                               try clear c19b2
                               try clear c21
                               try clear c22
                               try clear c22b0
                               try clear c22b1
                               try clear c22b2
                               try clear c28
                               try clear c30
                               try clear c32
                               try clear c34
                               try clear c34b0
                               try clear c35
                               try clear c35b0
                               try clear c36
                               try clear c36b0
                               try clear c40
                               try clear hx532_0
                               try clear p2
                               try clear p532
                               try clear p6
                               try clear q532
                               obtain ⟨kq, x120_37, rfl, HA, HJ37, HO_5, HO_7, HO_10, HO_14, HO_20, HO_100, HB⟩ := hcut
                               cases kq with
                               | zero => exact absurd HA.out (by simp [laws_FnPassed.j3])
                               | succ kj37 =>
                                 have H := HA.out
                                 clear HA
                                 simp only [laws_FnPassed.j3] at H
                                 by_cases c43 : x120_37 = true
                                 · subst c43
                                   have H1 : (some false) = some r := by rw [if_pos rfl] at H; exact H
                                   clear H
                                   have H := H1
                                   clear H1
                                   exact absurd (Option.some.inj H).symm (by rw [hr_.out]; simp)
                                 · replace c43 := Bool.eq_false_iff.mpr c43
                                   subst c43
                                   have H1 : (laws_FnPassed.l1 kj37 l1 t503 t509 t514 t522 x102_3 (rd t509 x102_3) t533 t509 (t509.length : Int) x102_3 t533 (t533.length : Int) 0) = some r := by rw [if_neg (show ¬ (false = true) by decide)] at H; exact H
                                   clear H
                                   have H := H1
                                   clear H1
                                   have H' := am_ H
                                   clear H
                                   obtain ⟨Ao44, co44, eo44⟩ := Kd.R_slice HO_20.out
                                   subst eo44
                                   go_wp2
                                   repeat (go_quiet (fail); try go_wp2)
                                   go_loopg [123] kj37 (fun kq v123 w' => ∃ (x123_5 : Int), v123 = .int .i64 x123_5 ∧ Aside0 (laws_FnPassed.l1 kq l1 t503 t509 t514 t522 x102_3 (rd t509 x102_3) t533 t509 (t509.length : Int) x102_3 t533 (t533.length : Int) x123_5 = some r) ∧ Aside0 (kq ≤ kj37) ∧ Aside0 (Kd.R k51 51 w' w.heap.size (fun _ => True) (.slice Ao12 t503.length co12) t503) ∧ Aside0 (Kd.R (Kd.int .i64) 3 w' w.heap.size (fun k_ => some k_ ≠ (v516 : Value).ownBlock ∧ some k_ ≠ (v524 : Value).ownBlock ∧ some k_ ≠ ((.slice Ao44 t533.length co44) : Value).ownBlock ∧ some k_ ≠ ((.slice Ao44 t533.length co44) : Value).ownBlock) (.slice (some ad532) t509.length co33) t509) ∧ Aside0 (Kd.R (Kd.int .i64) 3 w' w.heap.size (fun k_ => some k_ ≠ ((.slice (some ad532) t509.length co33) : Value).ownBlock ∧ some k_ ≠ (v524 : Value).ownBlock ∧ some k_ ≠ ((.slice Ao44 t533.length co44) : Value).ownBlock ∧ some k_ ≠ ((.slice (some ad532) t509.length co33) : Value).ownBlock ∧ some k_ ≠ ((.slice Ao44 t533.length co44) : Value).ownBlock) v516 t514) ∧ Aside0 (Kd.R (Kd.int .i64) 3 w' w.heap.size (fun k_ => some k_ ≠ ((.slice (some ad532) t509.length co33) : Value).ownBlock ∧ some k_ ≠ (v516 : Value).ownBlock ∧ some k_ ≠ ((.slice Ao44 t533.length co44) : Value).ownBlock ∧ some k_ ≠ ((.slice (some ad532) t509.length co33) : Value).ownBlock ∧ some k_ ≠ ((.slice Ao44 t533.length co44) : Value).ownBlock) v524 t522) ∧ Aside0 (Kd.R (Kd.int .i64) 3 w' w.heap.size (fun k_ => some k_ ≠ ((.slice (some ad532) t509.length co33) : Value).ownBlock ∧ some k_ ≠ (v516 : Value).ownBlock ∧ some k_ ≠ (v524 : Value).ownBlock ∧ some k_ ≠ ((.slice (some ad532) t509.length co33) : Value).ownBlock) (.slice Ao44 t533.length co44) t533) ∧ Aside0 (Kd.R (Kd.int .i64) 3 w' w.heap.size (fun k_ => some k_ ≠ (v516 : Value).ownBlock ∧ some k_ ≠ (v524 : Value).ownBlock ∧ some k_ ≠ ((.slice Ao44 t533.length co44) : Value).ownBlock ∧ some k_ ≠ ((.slice Ao44 t533.length co44) : Value).ownBlock) (.slice (some ad532) t509.length co33) t509) ∧ Aside0 (Kd.R (Kd.int .i64) 3 w' w.heap.size (fun k_ => some k_ ≠ ((.slice (some ad532) t509.length co33) : Value).ownBlock ∧ some k_ ≠ (v516 : Value).ownBlock ∧ some k_ ≠ (v524 : Value).ownBlock ∧ some k_ ≠ ((.slice (some ad532) t509.length co33) : Value).ownBlock) (.slice Ao44 t533.length co44) t533) ∧ Aside0 (Below w.heap.size w w'))
                                   case atStart => exact ⟨(0), y14_, H', ⟨Nat.le_refl _⟩, ⟨rq_ HO_5.out⟩, ⟨rq_ (Kd.R_mono HO_7.out (fun _ hk => ⟨hk.1, ⟨hk.2.1, ⟨hk.2.2, hk.2.2⟩⟩⟩))⟩, ⟨rq_ (Kd.R_mono HO_10.out (fun _ hk => ⟨hk.1, ⟨hk.2.1, ⟨hk.2.2.1, ⟨hk.2.2.2, hk.2.2.1⟩⟩⟩⟩))⟩, ⟨rq_ (Kd.R_mono HO_14.out (fun _ hk => ⟨hk.1, ⟨hk.2.1, ⟨hk.2.2.1, ⟨hk.2.2.2, hk.2.2.1⟩⟩⟩⟩))⟩, ⟨rq_ HO_20.out⟩, ⟨rq_ (Kd.R_mono HO_100.out (fun _ hk => ⟨hk.1, ⟨hk.2.1, ⟨hk.2.2, hk.2.2⟩⟩⟩))⟩, ⟨rq_ HO_20.out⟩, ⟨bq_⟩⟩
                                   case round =>
                                     clear H'
                                     try clear c1
                                     try clear c2
                                     try clear p2
                                     try clear c3
                                     try clear c3b0
                                     try clear c4
                                     try clear p5
                                     try clear q5
                                     try clear hx5
                                     try clear p6
                                     try clear c11
                                     try clear c19
                                     try clear c19b0
                                     try clear c19b1
                                     try clear c19b2
                                     try clear c21
                                     try clear c22
                                     try clear c22b0
                                     try clear c22b1
                                     try clear c22b2
                                     try clear c28
                                     try clear c30
                                     try clear c32
                                     try clear c34
                                     try clear c34b0
                                     try clear c35
                                     try clear c35b0
                                     try clear c36
                                     try clear c36b0
                                     try clear c40
                                     try clear c43
                                     try clear hx532_0
                                     try clear p2
                                     try clear p5
                                     try clear p532
                                     try clear p6
                                     try clear q5
                                     try clear q532
                                     obtain ⟨x123_5, rfl, HA, HK5, HO_5, HO_7, HO_10, HO_14, HO_20, HO_100, HO_121, HB⟩ := hrel
                                     cases gk with
                                     | zero => exact absurd HA.out (by simp [laws_FnPassed.l1])
                                     | succ k5 =>
                                       have H := HA.out
                                       clear HA
                                       simp only [laws_FnPassed.l1] at H
                                       by_cases c45 : x123_5 < (t533.length : Int)
                                       · rw [if_pos c45] at H
                                         have c45b0 : decide (x123_5 < (t533.length : Int)) = true := decide_eq_true c45
                                         clear c45
                                         by_cases c46 : 0 ≤ x123_5
                                         · rw [if_pos c46] at H
                                           have c46b0 : decide (0 ≤ x123_5) = true := decide_eq_true c46
                                           clear c46
                                           by_cases c47 : x123_5 < (t533.length : Int)
                                           · rw [if_pos c47] at H
                                             have c47b0 : decide (x123_5 < (t533.length : Int)) = true := decide_eq_true c47
                                             clear c47
                                             obtain ⟨ji48, hji48⟩ : ∃ j_ : Int, (wrap64 (x102_3 + 1)) = j_ := ⟨_, rfl⟩
                                             replace H : (if 0 ≤ (ji48) then (if (ji48) ≤ (t509.length : Int) then ((laws_has.f k5 (t509.take ((ji48) : Int).toNat) (rd t533 x123_5)).bind fun t543 => (if t543 = true then (laws_FnPassed.l1 k5 l1 t503 t509 t514 t522 x102_3 (rd t509 x102_3) t533 t509 (t509.length : Int) x102_3 t533 (t533.length : Int) (wrap64 (x123_5 + 1))) else (some false))) else (none)) else (none)) = some r := by first | (rw [hji48] at H; exact H) | (simp only [hji48] at H ⊢; exact H)
                                             have hji48w : (IntKind.i64.wrap (x102_3 + 1)) = ji48 := (i64_w _).trans hji48
                                             by_cases c49 : 0 ≤ (ji48)
                                             · rw [if_pos c49] at H
                                               have c49b0 := eq_true c49
                                               have c49b1 : decide (0 ≤ (ji48)) = true := decide_eq_true c49
                                               clear c49
                                               by_cases c50 : (ji48) ≤ (t509.length : Int)
                                               · rw [if_pos c50] at H
                                                 have c50b0 := eq_true c50
                                                 have c50b1 : decide ((ji48) ≤ (t509.length : Int)) = true := decide_eq_true c50
                                                 clear c50
                                                 obtain ⟨y539, hy539⟩ : ∃ y_ : List Int, y_ = (t509.take ((ji48) : Int).toNat) := ⟨_, rfl⟩
                                                 replace H : ((laws_has.f k5 y539 (rd t533 x123_5)).bind fun t543 => (if t543 = true then (laws_FnPassed.l1 k5 l1 t503 t509 t514 t522 x102_3 (rd t509 x102_3) t533 t509 (t509.length : Int) x102_3 t533 (t533.length : Int) (wrap64 (x123_5 + 1))) else (some false))) = some r := by first | (rw [hy539]; with_reducible exact H) | (have H2_ := (Option.bind_some _ _).symm.trans H; rw [hy539]; with_reducible exact H2_) | (have H2_ := (Option.bind_some _ _).symm.trans H; with_reducible exact H2_) | with_reducible exact H | (rw [hy539]; exact H) | exact H
                                                 have Ny539 := am_ hy539
                                                 clear hy539
                                                 replace H := Option.bind_eq_some_iff.mp H
                                                 obtain ⟨t543, A510, H⟩ := H
                                                 replace H : (if t543 = true then (laws_FnPassed.l1 k5 l1 t503 t509 t514 t522 x102_3 (rd t509 x102_3) t533 t509 (t509.length : Int) x102_3 t533 (t533.length : Int) (wrap64 (x123_5 + 1))) else (some false)) = some r := H
                                                 have A51 := am_ A510
                                                 clear A510
                                                 by_cases c52 : t543 = true
                                                 · subst c52
                                                   have H1 : (laws_FnPassed.l1 k5 l1 t503 t509 t514 t522 x102_3 (rd t509 x102_3) t533 t509 (t509.length : Int) x102_3 t533 (t533.length : Int) (wrap64 (x123_5 + 1))) = some r := by rw [if_pos rfl] at H; exact H
                                                   clear H
                                                   have H := H1
                                                   clear H1
                                                   have H' := am_ H
                                                   clear H
                                                   have p538 : 0 ≤ (x123_5 : Int) := od_
                                                   have q538 : x123_5 < (t533.length : Int) := od_
                                                   obtain ⟨ad538, e538, hx538_0⟩ := Kd.at_int (Kd.R_reads' HO_121.out).2.2 x123_5 p538 q538
                                                   cases e538
                                                   replace p538 := eq_true p538
                                                   replace q538 := eq_true q538
                                                   have q53 : ((ji48) : Int) ≤ ((t509.length : Int) : Int) := od_
                                                   obtain ⟨i053, hi053, _, hsz53, _⟩ := info_parts info3
                                                   have hroom53 : t509.length ≤ co33 := (Kd.R_reads' HO_7.out).2.1
                                                   have hC53 : Kd.C (Kd.int .i64) _ (some ad532) t509.length t509 := (Kd.R_reads' HO_7.out).2.2
                                                   have hcut53 := cut_to (P := Try.prog) 30 3 .i64 Try.underlying30 hi053 (some ad532) t509.length co33 (ji48) (od_) q53 hroom53
                                                   have hr53 := Kd.C_take (m := ((ji48) : Int).toNat) hC53 (by omega)
                                                   have hy53 : y539.length = ((ji48) : Int).toNat := (by rw [Ny539.out, List.length_take]; omega)
                                                   rw [← Ny539.out] at hr53
                                                   rw [← hy53] at hcut53
                                                   have HR542 := am_ hr53
                                                   have HC542 := am_ (show y539.length ≤ co33 from by omega)
                                                   clear hr53 hC53 hroom53 hi053 hsz53
                                                   have KY53 := am_ hy53
                                                   clear hy53
                                                   have KL53 := am_ (show ((ji48) : Int).toNat ≤ t509.length from by omega)
                                                   replace q53 := eq_true q53
                                                   go_wp2_with (first | (go_at_call 35; (with_reducible refine (laws_has.calls k5 _ _ y539 (rd t533 x123_5) true _ ?side1 ?side2 A51.out).mono ?_); (case side1 => repeat (first | exact (by repeat (first | (with_reducible exact HR542.out) | (with_reducible refine Kd.C_alloc ?_ _) | (with_reducible refine Kd.C_drewN ?_ _) | (with_reducible refine Kd.C_drew ?_) | exact HR542.out)) | (with_reducible refine Kd.C_alloc ?_ _) | (with_reducible refine Kd.C_drewN ?_ _) | (with_reducible refine Kd.C_drew ?_))); (case side2 => exact HC542.out); rintro e w' ⟨rfl, ⟨nd, rfl⟩⟩; (try first | exact ⟨rfl, _, World.drewN_drewN _ _ _⟩ | exact ⟨rfl, _, Eq.trans (World.drewN_drewN _ _ _) (congrArg (World.drewN _) (Nat.add_assoc _ _ _))⟩)))
                                                   repeat (go_quiet (fail); try go_wp2_with (fail))
                                                   go_roundg k5
                                                   case measure => have := HJ9.out; have := HJ28.out; have := HK3.out; have := HJ37.out; have := HK5.out; omega
                                                   case rel => exact ⟨(wrap64 (x123_5 + 1)), y14_, H', ⟨by have := HJ9.out; have := HJ28.out; have := HK3.out; have := HJ37.out; have := HK5.out; omega⟩, ⟨rq_ HO_5.out⟩, ⟨rq_ HO_7.out⟩, ⟨rq_ HO_10.out⟩, ⟨rq_ HO_14.out⟩, ⟨rq_ HO_20.out⟩, ⟨rq_ HO_100.out⟩, ⟨rq_ HO_121.out⟩, ⟨bq_⟩⟩
                                                 · replace c52 := Bool.eq_false_iff.mpr c52
                                                   subst c52
                                                   have H1 : (some false) = some r := by rw [if_neg (show ¬ (false = true) by decide)] at H; exact H
                                                   clear H
                                                   have H := H1
                                                   clear H1
                                                   exact absurd (Option.some.inj H).symm (by rw [hr_.out]; simp)
                                               · rw [if_neg c50] at H
                                                 exact absurd H (by simp)
                                             · rw [if_neg c49] at H
                                               exact absurd H (by simp)
                                           · rw [if_neg c47] at H
                                             exact absurd H (by simp)
                                         · rw [if_neg c46] at H
                                           exact absurd H (by simp)
                                       · rw [if_neg c45] at H
                                         have c45b0 : decide (x123_5 < (t533.length : Int)) = false := decide_eq_false c45
                                         clear c45
                                         by_cases c54 : (rd t509 x102_3) > 0
                                         · rw [if_pos c54] at H
                                           have c54b0 : decide (0 < (rd t509 x102_3)) = true := decide_eq_true c54
                                           clear c54
                                           by_cases c55 : (t533.length : Int) < 2
                                           · rw [if_pos c55] at H
                                             have c55b0 : decide ((t533.length : Int) < 2) = true := decide_eq_true c55
                                             have c55b1 : decide (t533.length < 2) = true := decide_eq_true (by omega)
                                             clear c55
                                             exact absurd (Option.some.inj H).symm (by rw [hr_.out]; simp)
                                           · rw [if_neg c55] at H
                                             have c55b0 : decide ((t533.length : Int) < 2) = false := decide_eq_false c55
                                             have c55b1 : decide (t533.length < 2) = false := decide_eq_false (by omega)
                                             clear c55
                                             by_cases c56 : (rd t509 x102_3) ≥ (t514.length : Int)
                                             · rw [if_pos c56] at H
                                               have c56b0 : decide ((t514.length : Int) ≤ (rd t509 x102_3)) = true := decide_eq_true c56
                                               clear c56
                                               exact absurd (Option.some.inj H).symm (by rw [hr_.out]; simp)
                                             · rw [if_neg c56] at H
                                               have c56b0 : decide ((t514.length : Int) ≤ (rd t509 x102_3)) = false := decide_eq_false c56
                                               clear c56
                                               by_cases c57 : 0 ≤ (rd t509 x102_3)
                                               · rw [if_pos c57] at H
                                                 have c57b0 : decide (0 ≤ (rd t509 x102_3)) = true := decide_eq_true c57
                                                 clear c57
                                                 by_cases c58 : (rd t509 x102_3) < (t514.length : Int)
                                                 · rw [if_pos c58] at H
                                                   have c58b0 : decide ((rd t509 x102_3) < (t514.length : Int)) = true := decide_eq_true c58
                                                   clear c58
                                                   obtain ⟨ji59, hji59⟩ : ∃ j_ : Int, (wrap64 ((t533.length : Int) - 2)) = j_ := ⟨_, rfl⟩
                                                   replace H : (if 0 ≤ (ji59) then (if (ji59) < (t533.length : Int) then (if (rd t514 (rd t509 x102_3)) = (rd t533 (ji59)) then (laws_FnPassed.l0 k5 l1 t503 t509 t514 t522 t509 (t509.length : Int) (wrap64 (x102_3 + 1))) else (some false)) else (none)) else (none)) = some r := by first | (rw [hji59] at H; exact H) | (simp only [hji59] at H ⊢; exact H)
                                                   have hji59w : (IntKind.i64.wrap ((t533.length : Int) - 2)) = ji59 := (i64_w _).trans hji59
                                                   by_cases c60 : 0 ≤ (ji59)
                                                   · rw [if_pos c60] at H
                                                     have c60b0 : decide (0 ≤ (ji59)) = true := decide_eq_true c60
                                                     clear c60
                                                     by_cases c61 : (ji59) < (t533.length : Int)
                                                     · rw [if_pos c61] at H
                                                       have c61b0 : decide ((ji59) < (t533.length : Int)) = true := decide_eq_true c61
                                                       clear c61
                                                       by_cases c62 : (rd t514 (rd t509 x102_3)) = (rd t533 (ji59))
                                                       · rw [if_pos c62] at H
                                                         have c62b0 : ((rd t514 (rd t509 x102_3)) == (rd t533 (ji59))) = true := beq_iff_eq.mpr c62
                                                         have c62b1 : ((rd t514 (rd t509 x102_3)) != (rd t533 (ji59))) = false := bne_eq_false_iff_eq.mpr c62
                                                         clear c62
                                                         have H' := am_ H
                                                         clear H
                                                         obtain ⟨Ao63, co63, eo63⟩ := Kd.R_slice HO_10.out
                                                         subst eo63
                                                         have p544 : 0 ≤ ((rd t509 x102_3) : Int) := od_
                                                         have q544 : (rd t509 x102_3) < (t514.length : Int) := od_
                                                         obtain ⟨ad544, e544, hx544_0⟩ := Kd.at_int (Kd.R_reads' HO_10.out).2.2 (rd t509 x102_3) p544 q544
                                                         cases e544
                                                         replace p544 := eq_true p544
                                                         replace q544 := eq_true q544
                                                         have p545 : 0 ≤ ((ji59) : Int) := od_
                                                         have q545 : (ji59) < (t533.length : Int) := od_
                                                         obtain ⟨ad545, e545, hx545_0⟩ := Kd.at_int (Kd.R_reads' HO_20.out).2.2 (ji59) p545 q545
                                                         cases e545
                                                         replace p545 := eq_true p545
                                                         replace q545 := eq_true q545
                                                         go_wp2
                                                         repeat (go_quiet (fail); try go_wp2)
                                                         go_roundg k5
                                                         case measure => have := HJ9.out; have := HJ28.out; have := HK3.out; have := HJ37.out; have := HK5.out; omega
                                                         case rel => exact ⟨(wrap64 (x102_3 + 1)), y14_, H', ⟨by have := HJ9.out; have := HJ28.out; have := HK3.out; have := HJ37.out; have := HK5.out; omega⟩, ⟨rq_ HO_5.out⟩, ⟨rq_ (Kd.R_mono HO_7.out (fun _ hk => ⟨hk.1, hk.2.1⟩))⟩, ⟨rq_ (Kd.R_mono HO_10.out (fun _ hk => ⟨hk.1, ⟨hk.2.1, hk.2.2.2.1⟩⟩))⟩, ⟨rq_ (Kd.R_mono HO_14.out (fun _ hk => ⟨hk.1, ⟨hk.2.1, hk.2.2.2.1⟩⟩))⟩, ⟨rq_ (Kd.R_mono HO_100.out (fun _ hk => ⟨hk.1, hk.2.1⟩))⟩, ⟨bq_⟩⟩
                                                       · rw [if_neg c62] at H
                                                         have c62b0 : ((rd t514 (rd t509 x102_3)) == (rd t533 (ji59))) = false := beq_eq_false_iff_ne.mpr c62
                                                         have c62b1 : ((rd t514 (rd t509 x102_3)) != (rd t533 (ji59))) = true := bne_iff_ne.mpr c62
                                                         exact absurd (Option.some.inj H).symm (by rw [hr_.out]; simp)
                                                     · rw [if_neg c61] at H
                                                       exact absurd H (by simp)
                                                   · rw [if_neg c60] at H
                                                     exact absurd H (by simp)
                                                 · rw [if_neg c58] at H
                                                   exact absurd H (by simp)
                                               · rw [if_neg c57] at H
                                                 exact absurd H (by simp)
                                         · rw [if_neg c54] at H
                                           have c54b0 : decide (0 < (rd t509 x102_3)) = false := decide_eq_false c54
                                           clear c54
                                           have H' := am_ H
                                           clear H
                                           go_wp2
                                           repeat (go_quiet (fail); try go_wp2)
                                           go_roundg k5
                                           case measure => have := HJ9.out; have := HJ28.out; have := HK3.out; have := HJ37.out; have := HK5.out; omega
                                           case rel => exact ⟨(wrap64 (x102_3 + 1)), y14_, H', ⟨by have := HJ9.out; have := HJ28.out; have := HK3.out; have := HJ37.out; have := HK5.out; omega⟩, ⟨rq_ HO_5.out⟩, ⟨rq_ (Kd.R_mono HO_7.out (fun _ hk => ⟨hk.1, hk.2.1⟩))⟩, ⟨rq_ (Kd.R_mono HO_10.out (fun _ hk => ⟨hk.1, ⟨hk.2.1, hk.2.2.2.1⟩⟩))⟩, ⟨rq_ (Kd.R_mono HO_14.out (fun _ hk => ⟨hk.1, ⟨hk.2.1, hk.2.2.2.1⟩⟩))⟩, ⟨rq_ (Kd.R_mono HO_100.out (fun _ hk => ⟨hk.1, hk.2.1⟩))⟩, ⟨bq_⟩⟩
                           · rw [if_neg c36] at H
                             exact absurd H (by simp)
                         · rw [if_neg c35] at H
                           exact absurd H (by simp)
                       · rw [if_neg c34] at H
                         have c34b0 : decide (x102_3 < (t509.length : Int)) = false := decide_eq_false c34
                         clear c34
                         (first | rw [c34b0] | (simp only [i64_w, i32_w]; rw [c34b0]) | skip)
                         have H' := am_ H
                         clear H
                         go_wp2
                         repeat (go_quiet (fail); try go_wp2)
                         go_meet
                         case rel => exact ⟨_, H', ⟨by have := HJ9.out; have := HJ28.out; have := HK3.out; first | omega | exact Nat.le_refl _⟩, ⟨bq_⟩⟩
                · replace c32 := Bool.eq_false_iff.mpr c32
                  subst c32
                  have H1 : (laws_FnPassed.j5 kj28 l1) = some r := by rw [if_neg (show ¬ (false = true) by decide)] at H; exact H
                  clear H
                  have H := H1
                  clear H1
                  as_aux_lemma =>
                   have H' := am_ H
                   clear H
                   go_wp2
                   repeat (go_quiet (fail); try go_wp2)
                   go_meet
                   case rel => exact ⟨_, H', ⟨by have := HJ9.out; have := HJ28.out; first | omega | exact Nat.le_refl _⟩, ⟨bq_⟩⟩
              case rest =>
                clear HC31
                try clear c1
                try clear c2
                try clear p2
                try clear c3
                try clear c3b0
                try clear c4
                try clear c5
                try clear p5
                try clear q5
                try clear hx5
                try clear c6
                try clear p6
                try clear c11
                try clear c19
                try clear c19b0
                try clear c19b1
                try clear c19b2
                try clear c21
                try clear c22
                try clear c22b0
                try clear c22b1
                try clear c22b2
                try clear c28
                try clear c30
                try clear c32
                try clear c34
                try clear c34b0
                try clear c35
                try clear c35b0
                try clear c36
                try clear c36b0
                try clear c40
                try clear c43
                try clear c45
                try clear c45b0
                try clear c46
                try clear c46b0
                try clear c47
                try clear c47b0
                try clear c49
                try clear c49b0
                try clear c49b1
                try clear c50
                try clear c50b0
                try clear c50b1
                try clear c52
                try clear p53
                try clear q53
                try clear hx53
                try clear c54
                try clear c54b0
                try clear p54
                try clear q54
                try clear hx54
                try clear c55
                try clear c55b0
                try clear c55b1
                try clear c56
                try clear c56b0
                try clear c57
                try clear c57b0
                try clear c58
                try clear c58b0
                try clear c60
                try clear c60b0
                try clear c61
                try clear c61b0
                try clear c62
                try clear c62b0
                try clear c62b1
                try clear hx532_0
                try clear hx538_0
                try clear hx544_0
                try clear hx545_0
                try clear p2
                try clear p5
                try clear p532
                try clear p538
                try clear p544
                try clear p545
                try clear p6
                try clear q5
                try clear q53
                try clear q532
                try clear q538
                try clear q544
                try clear q545
                obtain ⟨kq, HA, HJ30, HB⟩ := hcut
                cases kq with
                | zero => exact absurd HA.out (by simp [laws_FnPassed.j5])
                | succ kj30 =>
                  have H := HA.out
                  clear HA
                  simp only [laws_FnPassed.j5] at H
                  replace H := Option.bind_eq_some_iff.mp H
                  obtain ⟨⟨t546, t547⟩, A640, H⟩ := H
                  replace H : ((impl_MustPass.f kj30 t546 t547).bind fun bt550 => ((spec_MustPass.f kj30 t546 t547).bind fun bt554 => (if (bt550.2 != bt554.2) = true then (laws_FnPassed.j6 kj30 t546 t547 bt550.1 bt550.2 true) else ((laws_sameInts.f kj30 bt550.1 bt554.1).bind fun t558 => (laws_FnPassed.j6 kj30 t546 t547 bt550.1 bt550.2 (!t558)))))) = some r := H
                  have A64 := am_ A640
                  clear A640
                  replace H := Option.bind_eq_some_iff.mp H
                  obtain ⟨⟨t550, t551⟩, A650, H⟩ := H
                  replace H : ((spec_MustPass.f kj30 t546 t547).bind fun bt554 => (if (t551 != bt554.2) = true then (laws_FnPassed.j6 kj30 t546 t547 t550 t551 true) else ((laws_sameInts.f kj30 t550 bt554.1).bind fun t558 => (laws_FnPassed.j6 kj30 t546 t547 t550 t551 (!t558))))) = some r := H
                  have A65 := am_ A650
                  clear A650
                  replace H := Option.bind_eq_some_iff.mp H
                  obtain ⟨⟨t554, t555⟩, A660, H⟩ := H
                  replace H : (if (t551 != t555) = true then (laws_FnPassed.j6 kj30 t546 t547 t550 t551 true) else ((laws_sameInts.f kj30 t550 t554).bind fun t558 => (laws_FnPassed.j6 kj30 t546 t547 t550 t551 (!t558)))) = some r := H
                  have A66 := am_ A660
                  clear A660
                  have HC67 := am_ H
                  clear H
                  go_upto_region 30 with (first | (go_at_call 40; (with_reducible refine (spec_DrawMustPass.calls kj30 _ _ l1 t546 t547 _ ?side1 ?side2 A64.out).mono ?_); (case side1 => exact cm_ (Kd.C_below HR1.out HB.out)); (case side2 => exact HC1.out); rintro e w68 ⟨v548, rfl, ho0, hb⟩; have HO549 := am_ (Kd.R_lower ho0 (below_size (bq_))); replace HB := bs_ hb; (try clear hb); (try clear ho0); obtain ⟨Ao69, co69, eo69⟩ := Kd.R_slice HO549.out; subst eo69) | (go_at_call 30; (with_reducible refine (impl_MustPass.calls kj30 _ _ t546 t547 t550 t551 _ ?side1 ?side2 A65.out).mono ?_); (case side1 => exact cm_ (Kd.R_reads' HO549.out).2.2); (case side2 => exact (Kd.R_reads' HO549.out).2.1); rintro e w70 ⟨v552, rfl, ho0, hb⟩; replace HO549 := am_ (Kd.R_below (rq_ HO549.out) hb); have HO553 := am_ (Kd.R_lower ho0 (below_size (bq_))); replace HB := bs_ hb; (try clear hb); (try clear ho0)) | (go_at_call 29; (with_reducible refine (spec_MustPass.calls kj30 _ _ t546 t547 t554 t555 _ ?side1 ?side2 A66.out).mono ?_); (case side1 => exact cm_ (Kd.R_reads' HO549.out).2.2); (case side2 => exact (Kd.R_reads' HO549.out).2.1); rintro e w71 ⟨v556, rfl, ho0, hb⟩; replace HO549 := am_ (Kd.R_below (rq_ HO549.out) hb); have HO557 := am_ (Kd.R_lower (Kd.R_new' ho0 (Kd.R_lt (rq_ HO553.out))) (below_size (bq_))); replace HO553 := am_ (Kd.R_elder' (rq_ HO553.out) (Kd.R_base ho0) hb); replace HB := bs_ hb; (try clear hb); (try clear ho0)))
                  repeat (go_quiet (fail); go_upto_region 30 with (fail))
                  (try simp only [Act.put, List.setIfInBounds_toArray, List.set_cons_zero, List.set_cons_succ])
                  go_cut [187] (fun v187 wc => ∃ (kq : Nat) (x187_66 : Bool), v187 = .bool x187_66 ∧ Aside0 (laws_FnPassed.j6 kq t546 t547 t550 t551 x187_66 = some r) ∧ Aside0 (kq ≤ kj30) ∧ Aside0 (Kd.R k51 51 wc w.heap.size (fun _ => True) (.slice Ao69 t546.length co69) t546) ∧ Aside0 (Kd.R (Kd.int .i64) 3 wc w.heap.size (fun _ => True) v552 t550) ∧ Aside0 (Below w.heap.size w wc))
                  case first =>
                    have H := HC67.out
                    clear HC67
                    by_cases c72 : (t551 != t555) = true
                    · rw [if_pos c72] at H
                      have c72b0 : (t551 != t555) = true := c72
                      (try (have c72b1 : decide (t551 = t555) = false := by simpa using c72))
                      (try (have c72b2 : (t551 == t555) = false := by simpa using c72))
                      (try (have c72b3 : ¬ (t551 = t555) := by simpa using c72))
                      clear c72
                      (first | rw [c72b0] | (simp only [i64_w, i32_w]; rw [c72b0]) | skip)
                      exact (laws_FnPassed.j6_no_4 y17_).elim
                    · rw [if_neg c72] at H
                      have c72b0 : (t551 != t555) = false := by simpa using c72
                      (try (have c72b1 : decide (t551 = t555) = true := by simpa using c72))
                      (try (have c72b2 : (t551 == t555) = true := by simpa using c72))
                      clear c72
                      (first | rw [c72b0] | (simp only [i64_w, i32_w]; rw [c72b0]) | skip)
                      replace H := Option.bind_eq_some_iff.mp H
                      obtain ⟨t558, A730, H⟩ := H
                      replace H : (laws_FnPassed.j6 kj30 t546 t547 t550 t551 (!t558)) = some r := H
                      have A73 := am_ A730
                      clear A730
                      as_aux_lemma =>
                       have H' := am_ H
                       clear H
                       obtain ⟨Ao74, co74, eo74⟩ := Kd.R_slice HO553.out
                       subst eo74
                       obtain ⟨Ao75, co75, eo75⟩ := Kd.R_slice HO557.out
                       subst eo75
                       go_wp2_with (first | (go_at_call 34; (with_reducible refine (laws_sameInts.calls kj30 _ _ t550 _ _ t554 t558 _ ?side1 ?side2 ?side3 ?side4 A73.out).mono ?_); (case side1 => exact cm_ (Kd.R_reads' HO553.out).2.2); (case side2 => exact (Kd.R_reads' HO553.out).2.1); (case side3 => exact cm_ (Kd.R_reads' HO557.out).2.2); (case side4 => exact (Kd.R_reads' HO557.out).2.1); rintro e w' ⟨rfl, ⟨nd, rfl⟩⟩; (try first | exact ⟨rfl, _, World.drewN_drewN _ _ _⟩ | exact ⟨rfl, _, Eq.trans (World.drewN_drewN _ _ _) (congrArg (World.drewN _) (Nat.add_assoc _ _ _))⟩)))
                       repeat (go_quiet (fail); try go_wp2_with (fail))
                       go_meet
                       case rel => exact ⟨_, (!t558), y14_, H', ⟨by have := HJ9.out; have := HJ28.out; have := HJ30.out; first | omega | exact Nat.le_refl _⟩, ⟨rq_ HO549.out⟩, ⟨rq_ (Kd.R_mono HO553.out (fun _ hk => trivial))⟩, ⟨bq_⟩⟩
                  case rest =>
                    clear HC67
                    try clear c1
                    try clear c2
                    try clear p2
                    try clear c3
                    try clear c3b0
                    try clear c4
                    try clear c5
                    try clear p5
                    try clear q5
                    try clear hx5
                    try clear c6
                    try clear p6
                    try clear c7
                    try clear c11
                    try clear c19
                    try clear c19b0
                    try clear c19b1
                    try clear c19b2
                    try clear c21
                    try clear c22
                    try clear c22b0
                    try clear c22b1
                    try clear c22b2
                    try clear c28
                    try clear c30
                    try clear c32
                    try clear c34
                    try clear c34b0
                    try clear c35
                    try clear c35b0
                    try clear c36
                    try clear c36b0
                    try clear c40
                    try clear c43
                    try clear c45
                    try clear c45b0
                    try clear c46
                    try clear c46b0
                    try clear c47
                    try clear c47b0
                    try clear c49
                    try clear c49b0
                    try clear c49b1
                    try clear c50
                    try clear c50b0
                    try clear c50b1
                    try clear c52
                    try clear p53
                    try clear q53
                    try clear hx53
                    try clear c54
                    try clear c54b0
                    try clear p54
                    try clear q54
                    try clear hx54
                    try clear c55
                    try clear c55b0
                    try clear c55b1
                    try clear c56
                    try clear c56b0
                    try clear c57
                    try clear c57b0
                    try clear c58
                    try clear c58b0
                    try clear c60
                    try clear c60b0
                    try clear c61
                    try clear c61b0
                    try clear c62
                    try clear c62b0
                    try clear c62b1
                    try clear p64
                    try clear c72
                    try clear c72b0
                    try clear c72b1
                    try clear c72b2
                    try clear hx532_0
                    try clear hx538_0
                    try clear hx544_0
                    try clear hx545_0
                    try clear p2
                    try clear p5
                    try clear p53
                    try clear p532
                    try clear p538
                    try clear p54
                    try clear p544
                    try clear p545
                    try clear p6
                    try clear q5
                    try clear q53
                    try clear q532
                    try clear q538
                    try clear q54
                    try clear q544
                    try clear q545
                    obtain ⟨kq, x187_66, rfl, HA, HJ66, HO_24, HO_26, HB⟩ := hcut
                    cases kq with
                    | zero => exact absurd HA.out (by simp [laws_FnPassed.j6])
                    | succ kj66 =>
                      have H := HA.out
                      clear HA
                      simp only [laws_FnPassed.j6] at H
                      by_cases c76 : x187_66 = true
                      · subst c76
                        have H1 : (some false) = some r := by rw [if_pos rfl] at H; exact H
                        clear H
                        have H := H1
                        clear H1
                        exact absurd (Option.some.inj H).symm (by rw [hr_.out]; simp)
                      · replace c76 := Bool.eq_false_iff.mpr c76
                        subst c76
                        have H1 : (if t551 = true then ((impl_AheadOf.f kj66 t546 t547).bind fun bt559 => (laws_FnPassed.l2 kj66 t546 t547 t550 bt559.1 bt559.2 bt559.1 (bt559.1.length : Int) 0)) else (some true)) = some r := by rw [if_neg (show ¬ (false = true) by decide)] at H; exact H
                        clear H
                        have H := H1
                        clear H1
                        by_cases c77 : t551 = true
                        · subst c77
                          have H1 : ((impl_AheadOf.f kj66 t546 t547).bind fun bt559 => (laws_FnPassed.l2 kj66 t546 t547 t550 bt559.1 bt559.2 bt559.1 (bt559.1.length : Int) 0)) = some r := by rw [if_pos rfl] at H; exact H
                          clear H
                          have H := H1
                          clear H1
                          replace H := Option.bind_eq_some_iff.mp H
                          obtain ⟨⟨t559, t560⟩, A780, H⟩ := H
                          replace H : (laws_FnPassed.l2 kj66 t546 t547 t550 t559 t560 t559 (t559.length : Int) 0) = some r := H
                          have A78 := am_ A780
                          clear A780
                          as_aux_lemma =>
                           have H' := am_ H
                           clear H
                           go_wp2_with (first | (go_at_call 28; (with_reducible refine (impl_AheadOf.calls kj66 _ _ t546 t547 t559 t560 _ ?side1 ?side2 A78.out).mono ?_); (case side1 => exact cm_ (Kd.R_reads' HO_24.out).2.2); (case side2 => exact (Kd.R_reads' HO_24.out).2.1); rintro e w79 ⟨v561, rfl, ho0, hb⟩; replace HO_24 := am_ (Kd.R_below (rq_ HO_24.out) hb); have HO562 := am_ (Kd.R_lower (Kd.R_new' ho0 (Kd.R_lt (rq_ HO_26.out))) (below_size (bq_))); replace HO_26 := am_ (Kd.R_elder' (rq_ HO_26.out) (Kd.R_base ho0) hb); replace HB := bs_ hb; (try clear hb); (try clear ho0); obtain ⟨Ao80, co80, eo80⟩ := Kd.R_slice HO562.out; subst eo80))
                           repeat (go_quiet (fail); try go_wp2_with (fail))
                           go_loopg [197] kj66 (fun kq v197 w' => ∃ (x197_5 : Int), v197 = .int .i64 x197_5 ∧ Aside0 (laws_FnPassed.l2 kq t546 t547 t550 t559 t560 t559 (t559.length : Int) x197_5 = some r) ∧ Aside0 (kq ≤ kj66) ∧ Aside0 (Kd.R k51 51 w' w.heap.size (fun _ => True) (.slice Ao69 t546.length co69) t546) ∧ Aside0 (Kd.R (Kd.int .i64) 3 w' w.heap.size (fun k_ => some k_ ≠ ((.slice Ao80 t559.length co80) : Value).ownBlock ∧ some k_ ≠ ((.slice Ao80 t559.length co80) : Value).ownBlock) v552 t550) ∧ Aside0 (Kd.R (Kd.int .i64) 3 w' w.heap.size (fun k_ => some k_ ≠ (v552 : Value).ownBlock) (.slice Ao80 t559.length co80) t559) ∧ Aside0 (Kd.R (Kd.int .i64) 3 w' w.heap.size (fun k_ => some k_ ≠ (v552 : Value).ownBlock) (.slice Ao80 t559.length co80) t559) ∧ Aside0 (Below w.heap.size w w'))
                           case atStart => exact ⟨(0), y14_, H', ⟨Nat.le_refl _⟩, ⟨rq_ HO_24.out⟩, ⟨rq_ (Kd.R_mono HO_26.out (fun _ hk => ⟨hk.2, hk.2⟩))⟩, ⟨rq_ (Kd.R_mono HO562.out (fun _ hk => hk.2))⟩, ⟨rq_ (Kd.R_mono HO562.out (fun _ hk => hk.2))⟩, ⟨bq_⟩⟩
                           case round =>
                             clear H'
                             try clear c1
                             try clear c2
                             try clear p2
                             try clear c3
                             try clear c3b0
                             try clear c4
                             try clear c5
                             try clear p5
                             try clear q5
                             try clear hx5
                             try clear c6
                             try clear p6
                             try clear c7
                             try clear c11
                             try clear c19
                             try clear c19b0
                             try clear c19b1
                             try clear c19b2
                             try clear c21
                             try clear c22
                             try clear c22b0
                             try clear c22b1
                             try clear c22b2
                             try clear c28
                             try clear c30
                             try clear c32
                             try clear c34
                             try clear c34b0
                             try clear c35
                             try clear c35b0
                             try clear c36
                             try clear c36b0
                             try clear c40
                             try clear c43
                             try clear c45
                             try clear c45b0
                             try clear c46
                             try clear c46b0
                             try clear c47
                             try clear c47b0
                             try clear c49
                             try clear c49b0
                             try clear c49b1
                             try clear c50
                             try clear c50b0
                             try clear c50b1
                             try clear c52
                             try clear p53
                             try clear q53
                             try clear hx53
                             try clear c54
                             try clear c54b0
                             try clear p54
                             try clear q54
                             try clear hx54
                             try clear c55
                             try clear c55b0
                             try clear c55b1
                             try clear c56
                             try clear c56b0
                             try clear c57
                             try clear c57b0
                             try clear c58
                             try clear c58b0
                             try clear c60
                             try clear c60b0
                             try clear c61
                             try clear c61b0
                             try clear c62
                             try clear c62b0
                             try clear c62b1
                             try clear p64
                             try clear c72
                             try clear c72b0
                             try clear c72b1
                             try clear c72b2
                             try clear c76
                             try clear c77
                             try clear hx532_0
                             try clear hx538_0
                             try clear hx544_0
                             try clear hx545_0
                             try clear p2
                             try clear p5
                             try clear p53
                             try clear p532
                             try clear p538
                             try clear p54
                             try clear p544
                             try clear p545
                             try clear p6
                             try clear p64
                             try clear q5
                             try clear q53
                             try clear q532
                             try clear q538
                             try clear q54
                             try clear q544
                             try clear q545
                             obtain ⟨x197_5, rfl, HA, HK5, HO_24, HO_26, HO_30, HO_195, HB⟩ := hrel
                             cases gk with
                             | zero => exact absurd HA.out (by simp [laws_FnPassed.l2])
                             | succ k5 =>
                               have H := HA.out
                               clear HA
                               simp only [laws_FnPassed.l2] at H
                               by_cases c81 : x197_5 < (t559.length : Int)
                               · rw [if_pos c81] at H
                                 have c81b0 : decide (x197_5 < (t559.length : Int)) = true := decide_eq_true c81
                                 clear c81
                                 by_cases c82 : 0 ≤ x197_5
                                 · rw [if_pos c82] at H
                                   have c82b0 : decide (0 ≤ x197_5) = true := decide_eq_true c82
                                   clear c82
                                   by_cases c83 : x197_5 < (t559.length : Int)
                                   · rw [if_pos c83] at H
                                     have c83b0 : decide (x197_5 < (t559.length : Int)) = true := decide_eq_true c83
                                     clear c83
                                     replace H := Option.bind_eq_some_iff.mp H
                                     obtain ⟨⟨t564, t565⟩, A840, H⟩ := H
                                     replace H : (if t565 = true then (laws_FnPassed.l3 k5 t546 t547 t550 t559 t560 t564 t559 (t559.length : Int) x197_5 t550 (t550.length : Int) 0) else (some false)) = some r := H
                                     have A84 := am_ A840
                                     clear A840
                                     by_cases c85 : t565 = true
                                     · subst c85
                                       have H1 : (laws_FnPassed.l3 k5 t546 t547 t550 t559 t560 t564 t559 (t559.length : Int) x197_5 t550 (t550.length : Int) 0) = some r := by rw [if_pos rfl] at H; exact H
                                       clear H
                                       have H := H1
                                       clear H1
                                       have H' := am_ H
                                       clear H
                                       have p563 : 0 ≤ (x197_5 : Int) := od_
                                       have q563 : x197_5 < (t559.length : Int) := od_
                                       obtain ⟨ad563, e563, hx563_0⟩ := Kd.at_int (Kd.R_reads' HO_195.out).2.2 x197_5 p563 q563
                                       cases e563
                                       replace p563 := eq_true p563
                                       replace q563 := eq_true q563
                                       go_wp2_with (first | (go_at_call 30; (with_reducible refine (impl_MustPass.calls k5 _ _ t546 (rd t559 x197_5) t564 true _ ?side1 ?side2 A84.out).mono ?_); (case side1 => exact cm_ (Kd.R_reads' HO_24.out).2.2); (case side2 => exact (Kd.R_reads' HO_24.out).2.1); rintro e w86 ⟨v566, rfl, ho0, hb⟩; replace HO_24 := am_ (Kd.R_below (rq_ HO_24.out) hb); have HO567 := am_ (Kd.R_lower (Kd.R_new' (Kd.R_new' (Kd.R_new' ho0 (Kd.R_lt (rq_ HO_26.out))) (Kd.R_lt (rq_ HO_30.out))) (Kd.R_lt (rq_ HO_195.out))) (below_size (bq_))); replace HO_26 := am_ (Kd.R_elder' (rq_ HO_26.out) (Kd.R_base ho0) hb); replace HO_30 := am_ (Kd.R_elder' (rq_ HO_30.out) (Kd.R_base ho0) hb); replace HO_195 := am_ (Kd.R_elder' (rq_ HO_195.out) (Kd.R_base ho0) hb); replace HB := bs_ hb; (try clear hb); (try clear ho0); obtain ⟨Ao87, co87, eo87⟩ := Kd.R_slice HO_26.out; subst eo87))
                                       repeat (go_quiet (fail); try go_wp2_with (fail))
                                       go_loopg [211] k5 (fun kq v211 w' => ∃ (x211_6 : Int), v211 = .int .i64 x211_6 ∧ Aside0 (laws_FnPassed.l3 kq t546 t547 t550 t559 t560 t564 t559 (t559.length : Int) x197_5 t550 (t550.length : Int) x211_6 = some r) ∧ Aside0 (kq ≤ k5) ∧ Aside0 (Kd.R k51 51 w' w.heap.size (fun _ => True) (.slice Ao69 t546.length co69) t546) ∧ Aside0 (Kd.R (Kd.int .i64) 3 w' w.heap.size (fun k_ => some k_ ≠ ((.slice (some ad563) t559.length co80) : Value).ownBlock ∧ some k_ ≠ (v566 : Value).ownBlock ∧ some k_ ≠ ((.slice (some ad563) t559.length co80) : Value).ownBlock) (.slice Ao87 t550.length co87) t550) ∧ Aside0 (Kd.R (Kd.int .i64) 3 w' w.heap.size (fun k_ => some k_ ≠ ((.slice Ao87 t550.length co87) : Value).ownBlock ∧ some k_ ≠ (v566 : Value).ownBlock ∧ some k_ ≠ ((.slice Ao87 t550.length co87) : Value).ownBlock) (.slice (some ad563) t559.length co80) t559) ∧ Aside0 (Kd.R (Kd.int .i64) 3 w' w.heap.size (fun k_ => some k_ ≠ ((.slice Ao87 t550.length co87) : Value).ownBlock ∧ some k_ ≠ ((.slice (some ad563) t559.length co80) : Value).ownBlock ∧ some k_ ≠ ((.slice (some ad563) t559.length co80) : Value).ownBlock ∧ some k_ ≠ ((.slice Ao87 t550.length co87) : Value).ownBlock) v566 t564) ∧ Aside0 (Kd.R (Kd.int .i64) 3 w' w.heap.size (fun k_ => some k_ ≠ ((.slice Ao87 t550.length co87) : Value).ownBlock ∧ some k_ ≠ (v566 : Value).ownBlock ∧ some k_ ≠ ((.slice Ao87 t550.length co87) : Value).ownBlock) (.slice (some ad563) t559.length co80) t559) ∧ Aside0 (Kd.R (Kd.int .i64) 3 w' w.heap.size (fun k_ => some k_ ≠ ((.slice (some ad563) t559.length co80) : Value).ownBlock ∧ some k_ ≠ (v566 : Value).ownBlock ∧ some k_ ≠ ((.slice (some ad563) t559.length co80) : Value).ownBlock) (.slice Ao87 t550.length co87) t550) ∧ Aside0 (Below w.heap.size w w'))
                                       case atStart => exact ⟨(0), y14_, H', ⟨Nat.le_refl _⟩, ⟨rq_ HO_24.out⟩, ⟨rq_ (Kd.R_mono HO_26.out (fun _ hk => ⟨hk.1.1, ⟨hk.2, hk.1.2⟩⟩))⟩, ⟨rq_ (Kd.R_mono HO_30.out (fun _ hk => ⟨hk.1, ⟨hk.2, hk.1⟩⟩))⟩, ⟨rq_ (Kd.R_mono HO567.out (fun _ hk => ⟨hk.1.1.2, ⟨hk.1.2, ⟨hk.2, hk.1.1.2⟩⟩⟩))⟩, ⟨rq_ (Kd.R_mono HO_195.out (fun _ hk => ⟨hk.1, ⟨hk.2, hk.1⟩⟩))⟩, ⟨rq_ (Kd.R_mono HO_26.out (fun _ hk => ⟨hk.1.1, ⟨hk.2, hk.1.2⟩⟩))⟩, ⟨bq_⟩⟩
                                       case round =>
                                         clear H'
                                         try clear c1
                                         try clear c2
                                         try clear p2
                                         try clear c3
                                         try clear c3b0
                                         try clear c4
                                         try clear c5
                                         try clear p5
                                         try clear q5
                                         try clear hx5
                                         try clear c6
                                         try clear p6
                                         try clear c7
                                         try clear c8
                                         try clear c11
                                         try clear c19
                                         try clear c19b0
                                         try clear c19b1
                                         try clear c19b2
                                         try clear c21
                                         try clear c22
                                         try clear c22b0
                                         try clear c22b1
                                         try clear c22b2
                                         try clear c28
                                         try clear c30
                                         try clear c32
                                         try clear c34
                                         try clear c34b0
                                         try clear c35
                                         try clear c35b0
                                         try clear c36
                                         try clear c36b0
                                         try clear c40
                                         try clear c43
                                         try clear c45
                                         try clear c45b0
                                         try clear c46
                                         try clear c46b0
                                         try clear c47
                                         try clear c47b0
                                         try clear c49
                                         try clear c49b0
                                         try clear c49b1
                                         try clear c50
                                         try clear c50b0
                                         try clear c50b1
                                         try clear c52
                                         try clear p53
                                         try clear q53
                                         try clear hx53
                                         try clear c54
                                         try clear c54b0
                                         try clear p54
                                         try clear q54
                                         try clear hx54
                                         try clear c55
                                         try clear c55b0
                                         try clear c55b1
                                         try clear c56
                                         try clear c56b0
                                         try clear p56
                                         try clear q56
                                         try clear hx56
                                         try clear c57
                                         try clear c57b0
                                         try clear c58
                                         try clear c58b0
                                         try clear c60
                                         try clear c60b0
                                         try clear c61
                                         try clear c61b0
                                         try clear c62
                                         try clear c62b0
                                         try clear c62b1
                                         try clear p64
                                         try clear c72
                                         try clear c72b0
                                         try clear c72b1
                                         try clear c72b2
                                         try clear c76
                                         try clear c77
                                         try clear c81
                                         try clear c81b0
                                         try clear c82
                                         try clear c82b0
                                         try clear c83
                                         try clear c83b0
                                         try clear c85
                                         try clear hx532_0
                                         try clear hx538_0
                                         try clear hx544_0
                                         try clear hx545_0
                                         try clear hx563_0
                                         try clear p2
                                         try clear p5
                                         try clear p53
                                         try clear p532
                                         try clear p538
                                         try clear p54
                                         try clear p544
                                         try clear p545
                                         try clear p563
                                         try clear p6
                                         try clear p64
                                         try clear q5
                                         try clear q53
                                         try clear q532
                                         try clear q538
                                         try clear q54
                                         try clear q544
                                         try clear q545
                                         try clear q563
                                         obtain ⟨x211_6, rfl, HA, HK6, HO_24, HO_26, HO_30, HO_34, HO_195, HO_209, HB⟩ := hrel
                                         cases gk with
                                         | zero => exact absurd HA.out (by simp [laws_FnPassed.l3])
                                         | succ k6 =>
                                           have H := HA.out
                                           clear HA
                                           simp only [laws_FnPassed.l3] at H
                                           by_cases c88 : x211_6 < (t550.length : Int)
                                           · rw [if_pos c88] at H
                                             have c88b0 : decide (x211_6 < (t550.length : Int)) = true := decide_eq_true c88
                                             clear c88
                                             by_cases c89 : 0 ≤ x211_6
                                             · rw [if_pos c89] at H
                                               have c89b0 : decide (0 ≤ x211_6) = true := decide_eq_true c89
                                               clear c89
                                               by_cases c90 : x211_6 < (t550.length : Int)
                                               · rw [if_pos c90] at H
                                                 have c90b0 : decide (x211_6 < (t550.length : Int)) = true := decide_eq_true c90
                                                 clear c90
                                                 by_cases c91 : (rd t550 x211_6) = t547
                                                 · rw [if_pos c91] at H
                                                   have c91b0 : ((rd t550 x211_6) == t547) = true := beq_iff_eq.mpr c91
                                                   have c91b1 : ((rd t550 x211_6) != t547) = false := bne_eq_false_iff_eq.mpr c91
                                                   clear c91
                                                   have H' := am_ H
                                                   clear H
                                                   have p568 : 0 ≤ (x211_6 : Int) := od_
                                                   have q568 : x211_6 < (t550.length : Int) := od_
                                                   obtain ⟨ad568, e568, hx568_0⟩ := Kd.at_int (Kd.R_reads' HO_209.out).2.2 x211_6 p568 q568
                                                   cases e568
                                                   replace p568 := eq_true p568
                                                   replace q568 := eq_true q568
                                                   go_wp2
                                                   repeat (go_quiet (fail); try go_wp2)
                                                   go_roundg k6
                                                   case measure => have := HJ9.out; have := HJ28.out; have := HJ30.out; have := HJ66.out; have := HK5.out; have := HK6.out; omega
                                                   case rel => exact ⟨(wrap64 (x211_6 + 1)), y14_, H', ⟨by have := HJ9.out; have := HJ28.out; have := HJ30.out; have := HJ66.out; have := HK5.out; have := HK6.out; omega⟩, ⟨rq_ HO_24.out⟩, ⟨rq_ HO_26.out⟩, ⟨rq_ HO_30.out⟩, ⟨rq_ HO_34.out⟩, ⟨rq_ HO_195.out⟩, ⟨rq_ HO_209.out⟩, ⟨bq_⟩⟩
                                                 · rw [if_neg c91] at H
                                                   have c91b0 : ((rd t550 x211_6) == t547) = false := beq_eq_false_iff_ne.mpr c91
                                                   have c91b1 : ((rd t550 x211_6) != t547) = true := bne_iff_ne.mpr c91
                                                   replace H := Option.bind_eq_some_iff.mp H
                                                   obtain ⟨t569, A920, H⟩ := H
                                                   replace H : (if t569 = true then (laws_FnPassed.l3 k6 t546 t547 t550 t559 t560 t564 t559 (t559.length : Int) x197_5 t550 (t550.length : Int) (wrap64 (x211_6 + 1))) else (some false)) = some r := H
                                                   have A92 := am_ A920
                                                   clear A920
                                                   by_cases c93 : t569 = true
                                                   · subst c93
                                                     have H1 : (laws_FnPassed.l3 k6 t546 t547 t550 t559 t560 t564 t559 (t559.length : Int) x197_5 t550 (t550.length : Int) (wrap64 (x211_6 + 1))) = some r := by rw [if_pos rfl] at H; exact H
                                                     clear H
                                                     have H := H1
                                                     clear H1
                                                     have H' := am_ H
                                                     clear H
                                                     have p568 : 0 ≤ (x211_6 : Int) := od_
                                                     have q568 : x211_6 < (t550.length : Int) := od_
                                                     obtain ⟨ad568, e568, hx568_0⟩ := Kd.at_int (Kd.R_reads' HO_209.out).2.2 x211_6 p568 q568
                                                     cases e568
                                                     replace p568 := eq_true p568
                                                     replace q568 := eq_true q568
                                                     obtain ⟨Ao94, co94, eo94⟩ := Kd.R_slice HO_34.out
                                                     subst eo94
                                                     go_wp2_with (first | (go_at_call 35; (with_reducible refine (laws_has.calls k6 _ _ t564 (rd t550 x211_6) true _ ?side1 ?side2 A92.out).mono ?_); (case side1 => exact cm_ (Kd.R_reads' HO_34.out).2.2); (case side2 => exact (Kd.R_reads' HO_34.out).2.1); rintro e w' ⟨rfl, ⟨nd, rfl⟩⟩; (try first | exact ⟨rfl, _, World.drewN_drewN _ _ _⟩ | exact ⟨rfl, _, Eq.trans (World.drewN_drewN _ _ _) (congrArg (World.drewN _) (Nat.add_assoc _ _ _))⟩)))
                                                     repeat (go_quiet (fail); try go_wp2_with (fail))
                                                     go_roundg k6
                                                     case measure => have := HJ9.out; have := HJ28.out; have := HJ30.out; have := HJ66.out; have := HK5.out; have := HK6.out; omega
                                                     case rel => exact ⟨(wrap64 (x211_6 + 1)), y14_, H', ⟨by have := HJ9.out; have := HJ28.out; have := HJ30.out; have := HJ66.out; have := HK5.out; have := HK6.out; omega⟩, ⟨rq_ HO_24.out⟩, ⟨rq_ HO_26.out⟩, ⟨rq_ HO_30.out⟩, ⟨rq_ HO_34.out⟩, ⟨rq_ HO_195.out⟩, ⟨rq_ HO_209.out⟩, ⟨bq_⟩⟩
                                                   · replace c93 := Bool.eq_false_iff.mpr c93
                                                     subst c93
                                                     have H1 : (some false) = some r := by rw [if_neg (show ¬ (false = true) by decide)] at H; exact H
                                                     clear H
                                                     have H := H1
                                                     clear H1
                                                     exact absurd (Option.some.inj H).symm (by rw [hr_.out]; simp)
                                               · rw [if_neg c90] at H
                                                 exact absurd H (by simp)
                                             · rw [if_neg c89] at H
                                               exact absurd H (by simp)
                                           · rw [if_neg c88] at H
                                             have c88b0 : decide (x211_6 < (t550.length : Int)) = false := decide_eq_false c88
                                             clear c88
                                             have H' := am_ H
                                             clear H
                                             go_wp2
                                             repeat (go_quiet (fail); try go_wp2)
                                             go_roundg k6
                                             case measure => have := HJ9.out; have := HJ28.out; have := HJ30.out; have := HJ66.out; have := HK5.out; have := HK6.out; omega
                                             case rel => exact ⟨(wrap64 (x197_5 + 1)), y14_, H', ⟨by have := HJ9.out; have := HJ28.out; have := HJ30.out; have := HJ66.out; have := HK5.out; have := HK6.out; omega⟩, ⟨rq_ HO_24.out⟩, ⟨rq_ (Kd.R_mono HO_26.out (fun _ hk => ⟨hk.1, hk.2.2⟩))⟩, ⟨rq_ (Kd.R_mono HO_30.out (fun _ hk => hk.1))⟩, ⟨rq_ (Kd.R_mono HO_195.out (fun _ hk => hk.1))⟩, ⟨bq_⟩⟩
                                     · replace c85 := Bool.eq_false_iff.mpr c85
                                       subst c85
                                       have H1 : (some false) = some r := by rw [if_neg (show ¬ (false = true) by decide)] at H; exact H
                                       clear H
                                       have H := H1
                                       clear H1
                                       exact absurd (Option.some.inj H).symm (by rw [hr_.out]; simp)
                                   · rw [if_neg c83] at H
                                     exact absurd H (by simp)
                                 · rw [if_neg c82] at H
                                   exact absurd H (by simp)
                               · rw [if_neg c81] at H
                                 have c81b0 : decide (x197_5 < (t559.length : Int)) = false := decide_eq_false c81
                                 clear c81
                                 by_cases c95 : t560 = true
                                 · subst c95
                                   have H1 : (if (t559.length : Int) > 0 then (some true) else (some (t547 == 0))) = some r := by rw [if_pos rfl] at H; exact H
                                   clear H
                                   have H := H1
                                   clear H1
                                   by_cases c96 : (t559.length : Int) > 0
                                   · rw [if_pos c96] at H
                                     have c96b0 : decide (0 < (t559.length : Int)) = true := decide_eq_true c96
                                     have c96b1 : decide (0 < t559.length) = true := decide_eq_true (by omega)
                                     clear c96
                                     obtain rfl := Option.some.inj H
                                     go_wp2
                                     repeat (go_quiet (fail); try go_wp2)
                                     go_ret
                                     exact ⟨by first | rfl | (simp [errW_none, errW_some] <;> rfl) | (simp [*, errW_none, errW_some] <;> rfl), bq_⟩
                                   · rw [if_neg c96] at H
                                     have c96b0 : decide (0 < (t559.length : Int)) = false := decide_eq_false c96
                                     have c96b1 : decide (0 < t559.length) = false := decide_eq_false (by omega)
                                     clear c96
                                     obtain rfl := Option.some.inj H
                                     go_wp2
                                     repeat (go_quiet (fail); try go_wp2)
                                     go_ret
                                     exact ⟨by first | rfl | (simp [errW_none, errW_some] <;> rfl) | (simp [*, errW_none, errW_some] <;> rfl), bq_⟩
                                 · replace c95 := Bool.eq_false_iff.mpr c95
                                   subst c95
                                   have H1 : (some false) = some r := by rw [if_neg (show ¬ (false = true) by decide)] at H; exact H
                                   clear H
                                   have H := H1
                                   clear H1
                                   exact absurd (Option.some.inj H).symm (by rw [hr_.out]; simp)
                        · replace c77 := Bool.eq_false_iff.mpr c77
                          subst c77
                          have H1 : (some true) = some r := by rw [if_neg (show ¬ (false = true) by decide)] at H; exact H
                          clear H
                          have H := H1
                          clear H1
                          as_aux_lemma =>
                           obtain rfl := Option.some.inj H
                           go_wp2
                           repeat (go_quiet (fail); try go_wp2)
                           go_ret
                           exact ⟨by first | rfl | (simp [errW_none, errW_some] <;> rfl) | (simp [*, errW_none, errW_some] <;> rfl), bq_⟩
def laws_FnPassed.Pure : Prop := ∀ (l0 : List Int) (l1 : List Int), l0.length ≤ maxLen → l0.length * 1 ≤ 140737488351232 → (∀ x ∈ l0, (Lit.int .u8 x).wf = true) → l1.length ≤ maxLen → l1.length * 1 ≤ 140737488351232 → (∀ x ∈ l1, (Lit.int .u8 x).wf = true) → ∃ k, laws_FnPassed.f k l0 l1 = some true
theorem laws_FnPassed.walk (P : laws_FnPassed.Pure) (a0 : Option Addr) (len0 cap0 : Nat) (z0 : List Int) (a1 : Option Addr) (len1 cap1 : Nat) (z1 : List Int) (w : World) (w0 : (a0 = none ∧ len0 = 0 ∧ cap0 = 0 ∧ z0 = []) ∨ ∃ x, a0 = some x ∧ len0 ≤ cap0 ∧ cap0 ≤ maxLen ∧ z0.length = cap0 ∧ (∀ i, i < z0.length → w.cell? (x.add i) = some (.int .u8 (z0.getD i 0))) ∧ ∀ n ∈ z0, (Lit.int .u8 n).wf = true) (y0 : len0 * 1 ≤ 140737488351232) (w1 : (a1 = none ∧ len1 = 0 ∧ cap1 = 0 ∧ z1 = []) ∨ ∃ x, a1 = some x ∧ len1 ≤ cap1 ∧ cap1 ≤ maxLen ∧ z1.length = cap1 ∧ (∀ i, i < z1.length → w.cell? (x.add i) = some (.int .u8 (z1.getD i 0))) ∧ ∀ n ∈ z1, (Lit.int .u8 n).wf = true) (y1 : len1 * 1 ≤ 140737488351232) :
    Calls Try.prog 11 #[.slice a0 len0 cap0, .slice a1 len1 cap1] w fun e w' => e = .returned (.bool true) ∧ Below w.heap.size w w' := by
  obtain ⟨l0, rfl, hr0, hm0, hw0, hc0⟩ := ReadsInt.ofRowC w0
  obtain ⟨l1, rfl, hr1, hm1, hw1, hc1⟩ := ReadsInt.ofRowC w1
  obtain ⟨k, h⟩ := P l0 l1 hm0 y0 hw0 hm1 y1 hw1
  refine (laws_FnPassed.calls k _ _ l0 _ _ l1 true w (Kd.C_of_reads (d := (0 : Int)) (h1 := fun _ => rfl) hr0) hc0 (Kd.C_of_reads (d := (0 : Int)) (h1 := fun _ => rfl) hr1) hc1 ⟨rfl⟩ h).mono ?_
  rintro e w' ⟨rfl, hd⟩
  exact ⟨rfl, hd⟩
end Go.Proofs.Ytcmhkgpalfljbaa.PPA

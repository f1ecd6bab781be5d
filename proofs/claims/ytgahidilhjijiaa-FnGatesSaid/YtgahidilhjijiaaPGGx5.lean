import Derived.Test.YtgahidilhjijiaaPGGx0
import Derived.Test.YtgahidilhjijiaaPGGx1
import Derived.Test.YtgahidilhjijiaaPGGx4
namespace Go.Proofs.Ytgahidilhjijiaa.PGG
open Go.RowKit Go.Proofs.YtgahidilhjijiaaW.PrintWords Go.Proofs.YtgahidilhjijiaaW.PrintLast Go.Proofs.YtgahidilhjijiaaW.PrintMore
attribute [local go_sem] max2_int min2_int max_two min_two max_three min_three max_four min_four   -- for this text's walks alone
set_option linter.unusedVariables false
set_option linter.unusedSimpArgs false
def spec_l1Cur_pick.f (s0_0 : List Int) (s0_1 : Int) (s0_2 : Int) (a1 : Int) : Option (Int × Int × Int) := if a1 ≤ 1 then (some (0, s0_1, s0_2)) else ((spec_l1Cur_next.f s0_0 s0_1 s0_2).bind fun bt272 => (if a1 > 200 then ((spec_l1Cur_next.f s0_0 bt272.2.1 bt272.2.2).bind fun bt275 => (if a1 = 0 then (none) else (some (Int.tmod (wrap64 ((wrap64 (bt272.1 * 256)) + bt275.1)) a1, bt275.2.1, bt275.2.2)))) else (if a1 = 0 then (none) else (some (Int.tmod bt272.1 a1, bt272.2.1, bt272.2.2)))))
set_option maxHeartbeats 8000000 in
set_option maxRecDepth 100000 in
theorem spec_l1Cur_pick.calls (g : Nat) (s0_0 : List Int) (s0_1 : Int) (s0_2 : Int) (a1 : Int) (r1 : Int) (r2 : Int) (r3 : Int) (w0 w : World) (hI : IsS80 w0 w g s0_0 s0_1 s0_2) (hB : Below w0.heap.size w0 w) (h : spec_l1Cur_pick.f s0_0 s0_1 s0_2 a1 = some (r1, r2, r3)) :
  Calls Try.prog 53 #[.pointer (some ⟨g, 0, none⟩), .int .i64 a1] w fun e w' => e = .returned (.int .i64 r1) ∧ IsS80 w0 w' g s0_0 r2 r3 ∧ Below w0.heap.size w0 w' ∧ KeepBut w w' g none := by
 have HI0 := am_ hI
 have HK := am_ (KeepBut.refl w g none)
 have HL := am_ hB.size
 clear hI
 have HW0 := am_ hB.size
 have HB := am_ hB
 clear hB
 have H : (if a1 ≤ 1 then (some (0, s0_1, s0_2)) else ((spec_l1Cur_next.f s0_0 s0_1 s0_2).bind fun bt272 => (if a1 > 200 then ((spec_l1Cur_next.f s0_0 bt272.2.1 bt272.2.2).bind fun bt275 => (if a1 = 0 then (none) else (some (Int.tmod (wrap64 ((wrap64 (bt272.1 * 256)) + bt275.1)) a1, bt275.2.1, bt275.2.2)))) else (if a1 = 0 then (none) else (some (Int.tmod bt272.1 a1, bt272.2.1, bt272.2.2)))))) = some (r1, r2, r3) := h
 clear h
 by_cases c3 : a1 ≤ 1
 ·rw [if_pos c3] at H
  have c3b0 : decide (a1 ≤ 1) = true := decide_eq_true c3
  clear c3
  simp only [Option.some.injEq, Prod.mk.injEq] at H
  obtain ⟨rfl, rfl, rfl⟩ := H
  go_enter Try.func53, Try.ntmps53
  go_wp2
  go_ret
  exact ⟨by first | rfl | (simp [errW_none, errW_some] <;> rfl) | (simp [*, errW_none, errW_some] <;> rfl), by repeat (first | (with_reducible first | exact HI0.out | apply IsS80.alloc | apply IsS80.drewN | apply IsS80.drew | apply IsS80.set_1 | apply IsS80.set_2) | exact HI0.out), by repeat (first | (with_reducible first | exact HB.out | apply below_alloc | apply pw_below_drewN | apply below_drew1 | refine below_set ?_ (IsS80.ge HI0.out)) | exact HB.out), by repeat (first | (with_reducible first | exact HK.out | apply KeepBut.set_ | apply keep_drewN | apply keep_drew | apply keep_alloc) | exact HK.out)⟩
 ·rw [if_neg c3] at H
  have c3b0 : decide (a1 ≤ 1) = false := decide_eq_false c3
  clear c3
  replace H := Option.bind_eq_some_iff.mp H
  obtain ⟨⟨t272, t273, t274⟩, A40, H⟩ := H
  replace H : (if a1 > 200 then ((spec_l1Cur_next.f s0_0 t273 t274).bind fun bt275 => (if a1 = 0 then (none) else (some (Int.tmod (wrap64 ((wrap64 (t272 * 256)) + bt275.1)) a1, bt275.2.1, bt275.2.2)))) else (if a1 = 0 then (none) else (some (Int.tmod t272 a1, t273, t274)))) = some (r1, r2, r3) := H
  have A4 := am_ A40
  clear A40
  by_cases c5 : a1 > 200
  ·rw [if_pos c5] at H
   have c5b0 : decide (200 < a1) = true := decide_eq_true c5
   clear c5
   replace H := Option.bind_eq_some_iff.mp H
   obtain ⟨⟨t275, t276, t277⟩, A60, H⟩ := H
   replace H : (if a1 = 0 then (none) else (some (Int.tmod (wrap64 ((wrap64 (t272 * 256)) + t275)) a1, t276, t277))) = some (r1, r2, r3) := H
   have A6 := am_ A60
   clear A60
   by_cases c7 : a1 = 0
   ·rw [if_pos c7] at H
    exact absurd H (by simp)
   ·rw [if_neg c7] at H
    have c7b0 : (a1 == 0) = false := beq_eq_false_iff_ne.mpr c7
    have c7b1 : (a1 != 0) = true := bne_iff_ne.mpr c7
    simp only [Option.some.injEq, Prod.mk.injEq] at H
    obtain ⟨rfl, rfl, rfl⟩ := H
    go_enter Try.func53, Try.ntmps53
    go_wp2_with (first | ((with_reducible refine gl_ 73 rfl ?_); refine goesM_ (some 9) Try.func73 #[.pointer (some ⟨g, 0, none⟩)] ?_; (with_reducible refine (spec_l1Cur_next.calls g s0_0 s0_1 s0_2 t272 t273 t274 w0 _ ?side1 ?side2 A4.out).mono ?_); (case side1 => repeat (first | (with_reducible first | exact HI0.out | apply IsS80.alloc | apply IsS80.drewN | apply IsS80.drew | apply IsS80.set_1 | apply IsS80.set_2) | exact HI0.out)); (case side2 => repeat (first | (with_reducible first | exact HB.out | apply below_alloc | apply pw_below_drewN | apply below_drew1 | refine below_set ?_ (IsS80.ge HI0.out)) | exact HB.out)); rintro e w8 ⟨rfl, hi, hb, hk⟩; refine ⟨_, rfl, ?_⟩; replace HK := am_ (KeepBut.trans y16_ hk (.inl rfl)); replace HB := am_ (hb); replace HI0 := am_ (hi); (try clear hb); (try clear hk); (try clear hi)) | ((with_reducible refine gl_ 73 rfl ?_); refine goesM_ (some 15) Try.func73 #[.pointer (some ⟨g, 0, none⟩)] ?_; (with_reducible refine (spec_l1Cur_next.calls g s0_0 t273 t274 t275 t276 t277 w0 _ ?side1 ?side2 A6.out).mono ?_); (case side1 => repeat (first | (with_reducible first | exact HI0.out | apply IsS80.alloc | apply IsS80.drewN | apply IsS80.drew | apply IsS80.set_1 | apply IsS80.set_2) | exact HI0.out)); (case side2 => repeat (first | (with_reducible first | exact HB.out | apply below_alloc | apply pw_below_drewN | apply below_drew1 | refine below_set ?_ (IsS80.ge HI0.out)) | exact HB.out)); rintro e w9 ⟨rfl, hi, hb, hk⟩; refine ⟨_, rfl, ?_⟩; replace HK := am_ (KeepBut.trans y16_ hk (.inl rfl)); replace HB := am_ (hb); replace HI0 := am_ (hi); (try clear hb); (try clear hk); (try clear hi)))
    go_ret
    exact ⟨by first | rfl | (simp [errW_none, errW_some] <;> rfl) | (simp [*, errW_none, errW_some] <;> rfl), by repeat (first | (with_reducible first | exact HI0.out | apply IsS80.alloc | apply IsS80.drewN | apply IsS80.drew | apply IsS80.set_1 | apply IsS80.set_2) | exact HI0.out), by repeat (first | (with_reducible first | exact HB.out | apply below_alloc | apply pw_below_drewN | apply below_drew1 | refine below_set ?_ (IsS80.ge HI0.out)) | exact HB.out), by repeat (first | (with_reducible first | exact HK.out | apply KeepBut.set_ | apply keep_drewN | apply keep_drew | apply keep_alloc) | exact HK.out)⟩
  ·rw [if_neg c5] at H
   have c5b0 : decide (200 < a1) = false := decide_eq_false c5
   clear c5
   by_cases c10 : a1 = 0
   ·rw [if_pos c10] at H
    exact absurd H (by simp)
   ·rw [if_neg c10] at H
    have c10b0 : (a1 == 0) = false := beq_eq_false_iff_ne.mpr c10
    have c10b1 : (a1 != 0) = true := bne_iff_ne.mpr c10
    simp only [Option.some.injEq, Prod.mk.injEq] at H
    obtain ⟨rfl, rfl, rfl⟩ := H
    go_enter Try.func53, Try.ntmps53
    go_wp2_with (first | ((with_reducible refine gl_ 73 rfl ?_); refine goesM_ (some 9) Try.func73 #[.pointer (some ⟨g, 0, none⟩)] ?_; (with_reducible refine (spec_l1Cur_next.calls g s0_0 s0_1 s0_2 t272 t273 t274 w0 _ ?side1 ?side2 A4.out).mono ?_); (case side1 => repeat (first | (with_reducible first | exact HI0.out | apply IsS80.alloc | apply IsS80.drewN | apply IsS80.drew | apply IsS80.set_1 | apply IsS80.set_2) | exact HI0.out)); (case side2 => repeat (first | (with_reducible first | exact HB.out | apply below_alloc | apply pw_below_drewN | apply below_drew1 | refine below_set ?_ (IsS80.ge HI0.out)) | exact HB.out)); rintro e w11 ⟨rfl, hi, hb, hk⟩; refine ⟨_, rfl, ?_⟩; replace HK := am_ (KeepBut.trans y16_ hk (.inl rfl)); replace HB := am_ (hb); replace HI0 := am_ (hi); (try clear hb); (try clear hk); (try clear hi)))
    go_ret
    exact ⟨by first | rfl | (simp [errW_none, errW_some] <;> rfl) | (simp [*, errW_none, errW_some] <;> rfl), by repeat (first | (with_reducible first | exact HI0.out | apply IsS80.alloc | apply IsS80.drewN | apply IsS80.drew | apply IsS80.set_1 | apply IsS80.set_2) | exact HI0.out), by repeat (first | (with_reducible first | exact HB.out | apply below_alloc | apply pw_below_drewN | apply below_drew1 | refine below_set ?_ (IsS80.ge HI0.out)) | exact HB.out), by repeat (first | (with_reducible first | exact HK.out | apply KeepBut.set_ | apply keep_drewN | apply keep_drew | apply keep_alloc) | exact HK.out)⟩
def spec_l1Cur_one.f (s0_0 : List Int) (s0_1 : Int) (s0_2 : Int) (a1 : Int) : Option (Bool × Int × Int) := (spec_l1Cur_pick.f s0_0 s0_1 s0_2 a1).bind fun bt278 => (some ((bt278.1 == 0), bt278.2.1, bt278.2.2))
set_option maxHeartbeats 8000000 in
set_option maxRecDepth 100000 in
theorem spec_l1Cur_one.calls (g : Nat) (s0_0 : List Int) (s0_1 : Int) (s0_2 : Int) (a1 : Int) (r1 : Bool) (r2 : Int) (r3 : Int) (w0 w : World) (hI : IsS80 w0 w g s0_0 s0_1 s0_2) (hB : Below w0.heap.size w0 w) (h : spec_l1Cur_one.f s0_0 s0_1 s0_2 a1 = some (r1, r2, r3)) :
  Calls Try.prog 68 #[.pointer (some ⟨g, 0, none⟩), .int .i64 a1] w fun e w' => e = .returned (.bool r1) ∧ IsS80 w0 w' g s0_0 r2 r3 ∧ Below w0.heap.size w0 w' ∧ KeepBut w w' g none := by
 have HI0 := am_ hI
 have HK := am_ (KeepBut.refl w g none)
 have HL := am_ hB.size
 clear hI
 have HW0 := am_ hB.size
 have HB := am_ hB
 clear hB
 have H : ((spec_l1Cur_pick.f s0_0 s0_1 s0_2 a1).bind fun bt278 => (some ((bt278.1 == 0), bt278.2.1, bt278.2.2))) = some (r1, r2, r3) := h
 clear h
 replace H := Option.bind_eq_some_iff.mp H
 obtain ⟨⟨t278, t279, t280⟩, A30, H⟩ := H
 replace H : (some ((t278 == 0), t279, t280)) = some (r1, r2, r3) := H
 have A3 := am_ A30
 clear A30
 simp only [Option.some.injEq, Prod.mk.injEq] at H
 obtain ⟨rfl, rfl, rfl⟩ := H
 go_enter Try.func68, Try.ntmps68
 go_wp2_with (first | ((with_reducible refine gl_ 53 rfl ?_); refine goesM_ (some 7) Try.func53 #[.pointer (some ⟨g, 0, none⟩), .int .i64 a1] ?_; (with_reducible refine (spec_l1Cur_pick.calls g s0_0 s0_1 s0_2 a1 t278 t279 t280 w0 _ ?side1 ?side2 A3.out).mono ?_); (case side1 => repeat (first | (with_reducible first | exact HI0.out | apply IsS80.alloc | apply IsS80.drewN | apply IsS80.drew | apply IsS80.set_1 | apply IsS80.set_2) | exact HI0.out)); (case side2 => repeat (first | (with_reducible first | exact HB.out | apply below_alloc | apply pw_below_drewN | apply below_drew1 | refine below_set ?_ (IsS80.ge HI0.out)) | exact HB.out)); rintro e w4 ⟨rfl, hi, hb, hk⟩; refine ⟨_, rfl, ?_⟩; replace HK := am_ (KeepBut.trans y16_ hk (.inl rfl)); replace HB := am_ (hb); replace HI0 := am_ (hi); (try clear hb); (try clear hk); (try clear hi)))
 go_ret
 exact ⟨by first | rfl | (simp [errW_none, errW_some] <;> rfl) | (simp [*, errW_none, errW_some] <;> rfl), by repeat (first | (with_reducible first | exact HI0.out | apply IsS80.alloc | apply IsS80.drewN | apply IsS80.drew | apply IsS80.set_1 | apply IsS80.set_2) | exact HI0.out), by repeat (first | (with_reducible first | exact HB.out | apply below_alloc | apply pw_below_drewN | apply below_drew1 | refine below_set ?_ (IsS80.ge HI0.out)) | exact HB.out), by repeat (first | (with_reducible first | exact HK.out | apply KeepBut.set_ | apply keep_drewN | apply keep_drew | apply keep_alloc) | exact HK.out)⟩
mutual
def spec_l1Cur_gates.l0 : Nat → List (S69) → Int → List Int → Int → Int → Option ((List (S69)) × Int × Int)
 | 0, _, _, _, _, _ => none
 | k + 1, x3, x4, x1000, x1001, x1002 => if x4 > 0 then (if x3.length < 5864062014805 then (spec_l1Cur_gates.l0 k (x3 ++ [(⟨1, 0, 0⟩ : S69)]) (wrap64 (x4 - 1)) x1000 x1001 x1002) else (none)) else ((spec_l1Cur_pick.f x1000 x1001 x1002 6).bind fun bt287 => ((spec_l1Cur_one.f x1000 bt287.2.1 bt287.2.2 20).bind fun bt290 => (if bt290.1 = true then (spec_l1Cur_gates.j1 k x3 9 x1000 bt290.2.1 bt290.2.2) else (spec_l1Cur_gates.j1 k x3 bt287.1 x1000 bt290.2.1 bt290.2.2))))
def spec_l1Cur_gates.j1 : Nat → List (S69) → Int → List Int → Int → Int → Option ((List (S69)) × Int × Int)
 | 0, _, _, _, _, _ => none
 | k + 1, x3, x5, x1000, x1001, x1002 => spec_l1Cur_gates.l1 k x3 x5 x1000 x1001 x1002
def spec_l1Cur_gates.l1 : Nat → List (S69) → Int → List Int → Int → Int → Option ((List (S69)) × Int × Int)
 | 0, _, _, _, _, _ => none
 | k + 1, x3, x5, x1000, x1001, x1002 => if x5 > 0 then ((spec_l1Cur_pick.f x1000 x1001 x1002 4).bind fun bt293 => ((spec_l1Cur_pick.f x1000 bt293.2.1 bt293.2.2 (x3.length : Int)).bind fun bt296 => (if (wrap64 (2 + bt293.1)) = 2 then (if x3.length < 5864062014805 then (spec_l1Cur_gates.l1 k (x3 ++ [(⟨wrap64 (2 + bt293.1), bt296.1, 0⟩ : S69)]) (wrap64 (x5 - 1)) x1000 bt296.2.1 bt296.2.2) else (none)) else ((spec_l1Cur_pick.f x1000 bt296.2.1 bt296.2.2 (x3.length : Int)).bind fun bt303 => (if x3.length < 5864062014805 then (spec_l1Cur_gates.l1 k (x3 ++ [(⟨wrap64 (2 + bt293.1), bt296.1, bt303.1⟩ : S69)]) (wrap64 (x5 - 1)) x1000 bt303.2.1 bt303.2.2) else (none)))))) else ((spec_l1Cur_one.f x1000 x1001 x1002 20).bind fun bt309 => (if bt309.1 = true then ((spec_l1Cur_pick.f x1000 bt309.2.1 bt309.2.2 (x3.length : Int)).bind fun bt312 => ((spec_l1Cur_pick.f x1000 bt312.2.1 bt312.2.2 7).bind fun bt315 => ((spec_l1Cur_pick.f x1000 bt315.2.1 bt315.2.2 5).bind fun bt318 => ((spec_l1Cur_pick.f x1000 bt318.2.1 bt318.2.2 3).bind fun bt321 => (if 0 ≤ bt312.1 then (if bt312.1 < (x3.length : Int) then (some ((x3.set (bt312.1 : Int).toNat (⟨bt315.1, wrap64 (bt318.1 - 1), bt321.1⟩ : S69)), bt321.2.1, bt321.2.2)) else (none)) else (none)))))) else (some (x3, bt309.2.1, bt309.2.2))))
end
def spec_l1Cur_gates.f (k : Nat) (s0_0 : List Int) (s0_1 : Int) (s0_2 : Int) : Option ((List (S69)) × Int × Int) := (spec_l1Cur_pick.f s0_0 s0_1 s0_2 4).bind fun bt281 => (spec_l1Cur_gates.l0 k ([] : List (S69)) (wrap64 (1 + bt281.1)) s0_0 bt281.2.1 bt281.2.2)
set_option maxHeartbeats 8000000 in
set_option maxRecDepth 100000 in
theorem spec_l1Cur_gates.calls (k : Nat) (g : Nat) (s0_0 : List Int) (s0_1 : Int) (s0_2 : Int) (r1 : List (S69)) (r2 : Int) (r3 : Int) (w0 w : World) (hI : IsS80 w0 w g s0_0 s0_1 s0_2) (hB : Below w0.heap.size w0 w) (h : spec_l1Cur_gates.f k s0_0 s0_1 s0_2 = some (r1, r2, r3)) :
  Calls Try.prog 50 #[.pointer (some ⟨g, 0, none⟩)] w fun e w' => ∃ v0_ : Value, e = .returned (v0_) ∧ Kd.R k69 69 w' w.heap.size (fun _ => True) v0_ r1 ∧ IsS80 w0 w' g s0_0 r2 r3 ∧ Below w0.heap.size w0 w' ∧ KeepBut w w' g none := by
 have hu69 := Try.underlying69
 have HI0 := am_ hI
 have HK := am_ (KeepBut.refl w g none)
 have HL := am_ hB.size
 clear hI
 have HW0 := am_ hB.size
 have HB := am_ hB
 clear hB
 have H : ((spec_l1Cur_pick.f s0_0 s0_1 s0_2 4).bind fun bt281 => (spec_l1Cur_gates.l0 k ([] : List (S69)) (wrap64 (1 + bt281.1)) s0_0 bt281.2.1 bt281.2.2)) = some (r1, r2, r3) := h
 clear h
 replace H := Option.bind_eq_some_iff.mp H
 obtain ⟨⟨t281, t282, t283⟩, A20, H⟩ := H
 replace H : (spec_l1Cur_gates.l0 k ([] : List (S69)) (wrap64 (1 + t281)) s0_0 t282 t283) = some (r1, r2, r3) := H
 have A2 := am_ A20
 clear A20
 have H' := am_ H
 clear H
 go_enter Try.func50, Try.ntmps50
 go_wp2_with (first | ((with_reducible refine gl_ 53 rfl ?_); refine goesM_ (some 8) Try.func53 #[.pointer (some ⟨g, 0, none⟩), .int .i64 4] ?_; (with_reducible refine (spec_l1Cur_pick.calls g s0_0 s0_1 s0_2 4 t281 t282 t283 w0 _ ?side1 ?side2 A2.out).mono ?_); (case side1 => repeat (first | (with_reducible first | exact HI0.out | apply IsS80.alloc | apply IsS80.drewN | apply IsS80.drew | apply IsS80.set_1 | apply IsS80.set_2) | exact HI0.out)); (case side2 => repeat (first | (with_reducible first | exact HB.out | apply below_alloc | apply pw_below_drewN | apply below_drew1 | refine below_set ?_ (IsS80.ge HI0.out)) | exact HB.out)); rintro e w3 ⟨rfl, hi, hb, hk⟩; refine ⟨_, rfl, ?_⟩; replace HK := am_ (KeepBut.trans y16_ hk (.inl rfl)); replace HB := am_ (hb); replace HI0 := am_ (hi); (try clear hb); (try clear hk); (try clear hi)))
 go_loopg [3, 4] k (fun kq v3 v4 w' => ∃ (x3_1 : List (S69)) (x4_1 : Int), v4 = .int .i64 x4_1 ∧ Aside0 (spec_l1Cur_gates.l0 kq x3_1 x4_1 s0_0 t282 t283 = some (r1, r2, r3)) ∧ Aside0 (kq ≤ k) ∧ Aside0 (Kd.R k69 69 w' w.heap.size (fun _ => True) v3 x3_1) ∧ Aside0 (IsS80 w0 w' g s0_0 t282 t283) ∧ Aside0 (KeepBut w w' g none) ∧ Aside0 (Below w0.heap.size w0 w'))
 case atStart => exact ⟨(([] : List (S69))), (wrap64 (1 + t281)), y53_, H', ⟨Nat.le_refl _⟩, ⟨by first | exact Kd.R_nil _ _ _ _ _ | exact Kd.N_nil _ _ _ _ _ | exact Kd.V_nil _ _ _ _ _ | exact Kd.Q_nil _ _ _ _ _ | exact Kd.S_nil _ _ _ _ _⟩, ⟨by repeat (first | (with_reducible first | exact HI0.out | apply IsS80.alloc | apply IsS80.drewN | apply IsS80.drew | apply IsS80.set_1 | apply IsS80.set_2) | exact HI0.out)⟩, ⟨by repeat (first | (with_reducible first | exact HK.out | apply KeepBut.set_ | apply keep_drewN | apply keep_drew | apply keep_alloc) | exact HK.out)⟩, ⟨by repeat (first | (with_reducible first | exact HB.out | apply below_alloc | apply pw_below_drewN | apply below_drew1 | refine below_set ?_ (IsS80.ge HI0.out)) | exact HB.out)⟩⟩
 case round =>
  clear H'
  try clear p2
  obtain ⟨x3_1, x4_1, rfl, HA, HK1, HO_3, HI0, HK, HB⟩ := hrel
  cases gk with
  | zero => exact absurd HA.out (by simp [spec_l1Cur_gates.l0])
  | succ k1 =>
   have H := HA.out
   clear HA
   simp only [spec_l1Cur_gates.l0] at H
   by_cases c4 : x4_1 > 0
   ·rw [if_pos c4] at H
    have c4b0 : decide (0 < x4_1) = true := decide_eq_true c4
    clear c4
    by_cases c5 : x3_1.length < 5864062014805
    ·rw [if_pos c5] at H
     have LMc5 := am_ c5
     clear c5
     obtain ⟨y284, hy284⟩ : ∃ y_ : List (S69), y_ = (x3_1 ++ [(⟨1, 0, 0⟩ : S69)]) := ⟨_, rfl⟩
     replace H : (spec_l1Cur_gates.l0 k1 y284 (wrap64 (x4_1 - 1)) s0_0 t282 t283) = some (r1, r2, r3) := by first | (rw [hy284]; with_reducible exact H) | (have H2_ := (Option.bind_some _ _).symm.trans H; rw [hy284]; with_reducible exact H2_) | (have H2_ := (Option.bind_some _ _).symm.trans H; with_reducible exact H2_) | with_reducible exact H | (rw [hy284]; exact H) | exact H
     have Ny284 := am_ hy284
     clear hy284
     have H' := am_ H
     clear H
     go_wp2_with (first | ((with_reducible refine gate_builtin (b := .append) (xs := #[.tmp 14, .tmp 16]) rfl ?_); at_builtin; refine Kd.R_append k69 w.heap.size rfl (.tmp 14) (.tmp 16) 27 69 (.agg #[(.int .i64 0), (.int .i64 0), (.int .i64 0)]) 24 rfl Try.underlying27 info69 rfl (by decide) (by omega) u3 x3_1 (⟨1, 0, 0⟩ : S69) [.int .i64 1, .int .i64 0, .int .i64 0] (fun _ => True) (fun _ => False) rfl rfl ?aP (fun _ hk => hk.elim) ?aF ?aO (Below.refl _ _) ?aS ?aL ?_; (case aP => exact k69_mkM _ _ _ (⟨1, 0, 0⟩ : S69)); (case aF => exact (fun _ _ => trivial)); (case aO => exact (rq_ HO_3.out)); (case aS => exact (keep_size (w := w) (g := g) (row := none) y16_)); (case aL => have := LMc5.out; omega); intro v285 w6 ho hb hg hat; rw [← Ny284.out] at ho; replace HB := am_ (below_weaken y10_ HL.out hb); replace HI0 := am_ (IsS80.grown y11_ hg (IsS80.own_ne HI0.out HO_3.out (by decide))); replace HK := am_ (KeepBut.trans y16_ (KeepBut.of_grown hg g) (Kd.R_base2 HO_3.out)); have HO286 := am_ (ho); clear HO_3; clear ho hb hg hat))
     go_roundg k1
     case measure => have := HK1.out; omega
     case rel => exact ⟨(y284), (wrap64 (x4_1 - 1)), y53_, H', ⟨by have := HK1.out; omega⟩, ⟨rq_ HO286.out⟩, ⟨by repeat (first | (with_reducible first | exact HI0.out | apply IsS80.alloc | apply IsS80.drewN | apply IsS80.drew | apply IsS80.set_1 | apply IsS80.set_2) | exact HI0.out)⟩, ⟨by repeat (first | (with_reducible first | exact HK.out | apply KeepBut.set_ | apply keep_drewN | apply keep_drew | apply keep_alloc) | exact HK.out)⟩, ⟨by repeat (first | (with_reducible first | exact HB.out | apply below_alloc | apply pw_below_drewN | apply below_drew1 | refine below_set ?_ (IsS80.ge HI0.out)) | exact HB.out)⟩⟩
    ·rw [if_neg c5] at H
     exact absurd H (by simp)
   ·rw [if_neg c4] at H
    have c4b0 : decide (0 < x4_1) = false := decide_eq_false c4
    clear c4
    replace H := Option.bind_eq_some_iff.mp H
    obtain ⟨⟨t287, t288, t289⟩, A70, H⟩ := H
    replace H : ((spec_l1Cur_one.f s0_0 t288 t289 20).bind fun bt290 => (if bt290.1 = true then (spec_l1Cur_gates.j1 k1 x3_1 9 s0_0 bt290.2.1 bt290.2.2) else (spec_l1Cur_gates.j1 k1 x3_1 t287 s0_0 bt290.2.1 bt290.2.2))) = some (r1, r2, r3) := H
    have A7 := am_ A70
    clear A70
    replace H := Option.bind_eq_some_iff.mp H
    obtain ⟨⟨t290, t291, t292⟩, A80, H⟩ := H
    replace H : (if t290 = true then (spec_l1Cur_gates.j1 k1 x3_1 9 s0_0 t291 t292) else (spec_l1Cur_gates.j1 k1 x3_1 t287 s0_0 t291 t292)) = some (r1, r2, r3) := H
    have A8 := am_ A80
    clear A80
    have HC9 := am_ H
    clear H
    go_upto_if 21 with (first | ((with_reducible refine gl_ 53 rfl ?_); refine goesM_ (some 19) Try.func53 #[.pointer (some ⟨g, 0, none⟩), .int .i64 6] ?_; (with_reducible refine (spec_l1Cur_pick.calls g s0_0 t282 t283 6 t287 t288 t289 w0 _ ?side1 ?side2 A7.out).mono ?_); (case side1 => repeat (first | (with_reducible first | exact HI0.out | apply IsS80.alloc | apply IsS80.drewN | apply IsS80.drew | apply IsS80.set_1 | apply IsS80.set_2) | exact HI0.out)); (case side2 => repeat (first | (with_reducible first | exact HB.out | apply below_alloc | apply pw_below_drewN | apply below_drew1 | refine below_set ?_ (IsS80.ge HI0.out)) | exact HB.out)); rintro e w10 ⟨rfl, hi, hb, hk⟩; refine ⟨_, rfl, ?_⟩; replace HO_3 := am_ (Kd.R_mono (Kd.R_keep (IsS80.apart (show IsS80 w0 _ g s0_0 t282 t283 from by repeat (first | (with_reducible first | exact HI0.out | apply IsS80.alloc | apply IsS80.drewN | apply IsS80.drew | apply IsS80.set_1 | apply IsS80.set_2) | exact HI0.out)) (rq_ HO_3.out) (by decide)) hk (fun _ h => h.2)) (fun _ h => h.1)); replace HK := am_ (KeepBut.trans y16_ hk (.inl rfl)); replace HB := am_ (hb); replace HI0 := am_ (hi); (try clear hb); (try clear hk); (try clear hi)) | ((with_reducible refine gl_ 68 rfl ?_); refine goesM_ (some 21) Try.func68 #[.pointer (some ⟨g, 0, none⟩), .int .i64 20] ?_; (with_reducible refine (spec_l1Cur_one.calls g s0_0 t288 t289 20 t290 t291 t292 w0 _ ?side1 ?side2 A8.out).mono ?_); (case side1 => repeat (first | (with_reducible first | exact HI0.out | apply IsS80.alloc | apply IsS80.drewN | apply IsS80.drew | apply IsS80.set_1 | apply IsS80.set_2) | exact HI0.out)); (case side2 => repeat (first | (with_reducible first | exact HB.out | apply below_alloc | apply pw_below_drewN | apply below_drew1 | refine below_set ?_ (IsS80.ge HI0.out)) | exact HB.out)); rintro e w11 ⟨rfl, hi, hb, hk⟩; refine ⟨_, rfl, ?_⟩; replace HO_3 := am_ (Kd.R_mono (Kd.R_keep (IsS80.apart (show IsS80 w0 _ g s0_0 t288 t289 from by repeat (first | (with_reducible first | exact HI0.out | apply IsS80.alloc | apply IsS80.drewN | apply IsS80.drew | apply IsS80.set_1 | apply IsS80.set_2) | exact HI0.out)) (rq_ HO_3.out) (by decide)) hk (fun _ h => h.2)) (fun _ h => h.1)); replace HK := am_ (KeepBut.trans y16_ hk (.inl rfl)); replace HB := am_ (hb); replace HI0 := am_ (hi); (try clear hb); (try clear hk); (try clear hi)))
    (try simp only [Act.put, List.setIfInBounds_toArray, List.set_cons_zero, List.set_cons_succ])
    go_cut [5] (fun v5 wc => ∃ (kq : Nat) (x5_8 : Int), v5 = .int .i64 x5_8 ∧ Aside0 (spec_l1Cur_gates.j1 kq x3_1 x5_8 s0_0 t291 t292 = some (r1, r2, r3)) ∧ Aside0 (kq ≤ k1) ∧ Aside0 (Kd.R k69 69 wc w.heap.size (fun _ => True) u3 x3_1) ∧ Aside0 (IsS80 w0 wc g s0_0 t291 t292) ∧ Aside0 (KeepBut w wc g none) ∧ Aside0 (Below w0.heap.size w0 wc))
    case first =>
     have H := HC9.out
     clear HC9
     by_cases c12 : t290 = true
     ·subst c12
      have H1 : (spec_l1Cur_gates.j1 k1 x3_1 9 s0_0 t291 t292) = some (r1, r2, r3) := by rw [if_pos rfl] at H; exact H
      clear H
      have H := H1
      clear H1
      have H' := am_ H
      clear H
      go_wp2
      go_meet
      case rel => exact ⟨_, (9), y53_, H', ⟨by have := HK1.out; first | omega | exact Nat.le_refl _⟩, ⟨rq_ HO_3.out⟩, ⟨by repeat (first | (with_reducible first | exact HI0.out | apply IsS80.alloc | apply IsS80.drewN | apply IsS80.drew | apply IsS80.set_1 | apply IsS80.set_2) | exact HI0.out)⟩, ⟨by repeat (first | (with_reducible first | exact HK.out | apply KeepBut.set_ | apply keep_drewN | apply keep_drew | apply keep_alloc) | exact HK.out)⟩, ⟨by repeat (first | (with_reducible first | exact HB.out | apply below_alloc | apply pw_below_drewN | apply below_drew1 | refine below_set ?_ (IsS80.ge HI0.out)) | exact HB.out)⟩⟩
     ·replace c12 := Bool.eq_false_iff.mpr c12
      subst c12
      have H1 : (spec_l1Cur_gates.j1 k1 x3_1 t287 s0_0 t291 t292) = some (r1, r2, r3) := by rw [if_neg (show ¬ (false = true) by decide)] at H; exact H
      clear H
      have H := H1
      clear H1
      have H' := am_ H
      clear H
      go_wp2
      go_meet
      case rel => exact ⟨_, (t287), y53_, H', ⟨by have := HK1.out; first | omega | exact Nat.le_refl _⟩, ⟨rq_ HO_3.out⟩, ⟨by repeat (first | (with_reducible first | exact HI0.out | apply IsS80.alloc | apply IsS80.drewN | apply IsS80.drew | apply IsS80.set_1 | apply IsS80.set_2) | exact HI0.out)⟩, ⟨by repeat (first | (with_reducible first | exact HK.out | apply KeepBut.set_ | apply keep_drewN | apply keep_drew | apply keep_alloc) | exact HK.out)⟩, ⟨by repeat (first | (with_reducible first | exact HB.out | apply below_alloc | apply pw_below_drewN | apply below_drew1 | refine below_set ?_ (IsS80.ge HI0.out)) | exact HB.out)⟩⟩
    case rest =>
     clear HC9
     try clear c1
     try clear p2
     try clear c4
     try clear c4b0
     try clear c5
     try clear c6
     try clear p6
     try clear c12
     try clear p2
     obtain ⟨kq, x5_8, rfl, HA, HJ8, HO_3, HI0, HK, HB⟩ := hcut
     cases kq with
     | zero => exact absurd HA.out (by simp [spec_l1Cur_gates.j1])
     | succ kj8 =>
      have H := HA.out
      clear HA
      simp only [spec_l1Cur_gates.j1] at H
      have H' := am_ H
      clear H
      go_wp2
      go_loopg [3, 5] kj8 (fun kq v3 v5 w' => ∃ (x3_3 : List (S69)) (x5_3 : Int) (x1001_3 : Int) (x1002_3 : Int), v5 = .int .i64 x5_3 ∧ Aside0 (spec_l1Cur_gates.l1 kq x3_3 x5_3 s0_0 x1001_3 x1002_3 = some (r1, r2, r3)) ∧ Aside0 (kq ≤ kj8) ∧ Aside0 (Kd.R k69 69 w' w.heap.size (fun _ => True) v3 x3_3) ∧ Aside0 (IsS80 w0 w' g s0_0 x1001_3 x1002_3) ∧ Aside0 (KeepBut w w' g none) ∧ Aside0 (Below w0.heap.size w0 w'))
      case atStart => exact ⟨(x3_1), (x5_8), (t291), (t292), y53_, H', ⟨Nat.le_refl _⟩, ⟨rq_ HO_3.out⟩, ⟨by repeat (first | (with_reducible first | exact HI0.out | apply IsS80.alloc | apply IsS80.drewN | apply IsS80.drew | apply IsS80.set_1 | apply IsS80.set_2) | exact HI0.out)⟩, ⟨by repeat (first | (with_reducible first | exact HK.out | apply KeepBut.set_ | apply keep_drewN | apply keep_drew | apply keep_alloc) | exact HK.out)⟩, ⟨by repeat (first | (with_reducible first | exact HB.out | apply below_alloc | apply pw_below_drewN | apply below_drew1 | refine below_set ?_ (IsS80.ge HI0.out)) | exact HB.out)⟩⟩
      case round =>
       clear H'
       try clear c1
       try clear p2
       try clear c4
       try clear c4b0
       try clear c5
       try clear c6
       try clear p6
       try clear c12
       try clear p2
       try clear p6
       obtain ⟨x3_3, x5_3, x1001_3, x1002_3, rfl, HA, HK3, HO_3, HI0, HK, HB⟩ := hrel
       cases gk with
       | zero => exact absurd HA.out (by simp [spec_l1Cur_gates.l1])
       | succ k3 =>
        have H := HA.out
        clear HA
        simp only [spec_l1Cur_gates.l1] at H
        by_cases c13 : x5_3 > 0
        ·rw [if_pos c13] at H
         have c13b0 : decide (0 < x5_3) = true := decide_eq_true c13
         clear c13
         replace H := Option.bind_eq_some_iff.mp H
         obtain ⟨⟨t293, t294, t295⟩, A140, H⟩ := H
         replace H : ((spec_l1Cur_pick.f s0_0 t294 t295 (x3_3.length : Int)).bind fun bt296 => (if (wrap64 (2 + t293)) = 2 then (if x3_3.length < 5864062014805 then (spec_l1Cur_gates.l1 k3 (x3_3 ++ [(⟨wrap64 (2 + t293), bt296.1, 0⟩ : S69)]) (wrap64 (x5_3 - 1)) s0_0 bt296.2.1 bt296.2.2) else (none)) else ((spec_l1Cur_pick.f s0_0 bt296.2.1 bt296.2.2 (x3_3.length : Int)).bind fun bt303 => (if x3_3.length < 5864062014805 then (spec_l1Cur_gates.l1 k3 (x3_3 ++ [(⟨wrap64 (2 + t293), bt296.1, bt303.1⟩ : S69)]) (wrap64 (x5_3 - 1)) s0_0 bt303.2.1 bt303.2.2) else (none))))) = some (r1, r2, r3) := H
         have A14 := am_ A140
         clear A140
         replace H := Option.bind_eq_some_iff.mp H
         obtain ⟨⟨t296, t297, t298⟩, A150, H⟩ := H
         replace H : (if (wrap64 (2 + t293)) = 2 then (if x3_3.length < 5864062014805 then (spec_l1Cur_gates.l1 k3 (x3_3 ++ [(⟨wrap64 (2 + t293), t296, 0⟩ : S69)]) (wrap64 (x5_3 - 1)) s0_0 t297 t298) else (none)) else ((spec_l1Cur_pick.f s0_0 t297 t298 (x3_3.length : Int)).bind fun bt303 => (if x3_3.length < 5864062014805 then (spec_l1Cur_gates.l1 k3 (x3_3 ++ [(⟨wrap64 (2 + t293), t296, bt303.1⟩ : S69)]) (wrap64 (x5_3 - 1)) s0_0 bt303.2.1 bt303.2.2) else (none)))) = some (r1, r2, r3) := H
         have A15 := am_ A150
         clear A150
         by_cases c16 : (wrap64 (2 + t293)) = 2
         ·rw [if_pos c16] at H
          have c16b0 : ((wrap64 (2 + t293)) == 2) = true := beq_iff_eq.mpr c16
          have c16b1 : ((wrap64 (2 + t293)) != 2) = false := bne_eq_false_iff_eq.mpr c16
          clear c16
          by_cases c17 : x3_3.length < 5864062014805
          ·rw [if_pos c17] at H
           have LMc17 := am_ c17
           clear c17
           obtain ⟨y300, hy300⟩ : ∃ y_ : List (S69), y_ = (x3_3 ++ [(⟨wrap64 (2 + t293), t296, 0⟩ : S69)]) := ⟨_, rfl⟩
           replace H : (spec_l1Cur_gates.l1 k3 y300 (wrap64 (x5_3 - 1)) s0_0 t297 t298) = some (r1, r2, r3) := by first | (rw [hy300]; with_reducible exact H) | (have H2_ := (Option.bind_some _ _).symm.trans H; rw [hy300]; with_reducible exact H2_) | (have H2_ := (Option.bind_some _ _).symm.trans H; with_reducible exact H2_) | with_reducible exact H | (rw [hy300]; exact H) | exact H
           have Ny300 := am_ hy300
           clear hy300
           have H' := am_ H
           clear H
           go_wp2_with (first | ((with_reducible refine gl_ 53 rfl ?_); refine goesM_ (some 27) Try.func53 #[.pointer (some ⟨g, 0, none⟩), .int .i64 4] ?_; (with_reducible refine (spec_l1Cur_pick.calls g s0_0 x1001_3 x1002_3 4 t293 t294 t295 w0 _ ?side1 ?side2 A14.out).mono ?_); (case side1 => repeat (first | (with_reducible first | exact HI0.out | apply IsS80.alloc | apply IsS80.drewN | apply IsS80.drew | apply IsS80.set_1 | apply IsS80.set_2) | exact HI0.out)); (case side2 => repeat (first | (with_reducible first | exact HB.out | apply below_alloc | apply pw_below_drewN | apply below_drew1 | refine below_set ?_ (IsS80.ge HI0.out)) | exact HB.out)); rintro e w18 ⟨rfl, hi, hb, hk⟩; refine ⟨_, rfl, ?_⟩; replace HO_3 := am_ (Kd.R_mono (Kd.R_keep (IsS80.apart (show IsS80 w0 _ g s0_0 x1001_3 x1002_3 from by repeat (first | (with_reducible first | exact HI0.out | apply IsS80.alloc | apply IsS80.drewN | apply IsS80.drew | apply IsS80.set_1 | apply IsS80.set_2) | exact HI0.out)) (rq_ HO_3.out) (by decide)) hk (fun _ h => h.2)) (fun _ h => h.1)); replace HK := am_ (KeepBut.trans y16_ hk (.inl rfl)); replace HB := am_ (hb); replace HI0 := am_ (hi); (try clear hb); (try clear hk); (try clear hi); obtain ⟨Ao19, co19, eo19⟩ := Kd.R_slice HO_3.out; subst eo19) | ((with_reducible refine gl_ 53 rfl ?_); refine goesM_ (some 32) Try.func53 #[.pointer (some ⟨g, 0, none⟩), .int .i64 (x3_3.length : Int)] ?_; (with_reducible refine (spec_l1Cur_pick.calls g s0_0 t294 t295 (x3_3.length : Int) t296 t297 t298 w0 _ ?side1 ?side2 A15.out).mono ?_); (case side1 => repeat (first | (with_reducible first | exact HI0.out | apply IsS80.alloc | apply IsS80.drewN | apply IsS80.drew | apply IsS80.set_1 | apply IsS80.set_2) | exact HI0.out)); (case side2 => repeat (first | (with_reducible first | exact HB.out | apply below_alloc | apply pw_below_drewN | apply below_drew1 | refine below_set ?_ (IsS80.ge HI0.out)) | exact HB.out)); rintro e w20 ⟨rfl, hi, hb, hk⟩; refine ⟨_, rfl, ?_⟩; replace HO_3 := am_ (Kd.R_mono (Kd.R_keep (IsS80.apart (show IsS80 w0 _ g s0_0 t294 t295 from by repeat (first | (with_reducible first | exact HI0.out | apply IsS80.alloc | apply IsS80.drewN | apply IsS80.drew | apply IsS80.set_1 | apply IsS80.set_2) | exact HI0.out)) (rq_ HO_3.out) (by decide)) hk (fun _ h => h.2)) (fun _ h => h.1)); replace HK := am_ (KeepBut.trans y16_ hk (.inl rfl)); replace HB := am_ (hb); replace HI0 := am_ (hi); (try clear hb); (try clear hk); (try clear hi)) | ((with_reducible refine gate_dst (N := 6) rfl ?_); refine boxq_ (N := 6) (cs := #[.int .i64 0, .int .i64 0, .int .i64 0]) (t := 69) ?_; intro gb299 hg w21 hbox hb; replace HO_3 := am_ (Kd.R_below (Kd.R_elderB (rq_ HO_3.out) gb299 (Nat.le_of_eq hg.symm)) hb); replace HB := am_ (below_step y10_ hb); have BK299 := am_ (hbox); have GW299 := am_ ((y4_ : w.heap.size ≤ gb299)); have GE299 := am_ ((Nat.le_trans HW0.out (y4_ : w.heap.size ≤ gb299) : w0.heap.size ≤ gb299)); replace HK := am_ (KeepBut.trans y16_ (KeepBut.of_below hb g none) (.inl rfl)); have NB0_299 := am_ ((by rw [hg]; exact Nat.ne_of_lt (IsS80.lt (show IsS80 w0 _ g s0_0 t297 t298 from by repeat (first | (with_reducible first | exact HI0.out | apply IsS80.alloc | apply IsS80.drewN | apply IsS80.drew | apply IsS80.set_1 | apply IsS80.set_2) | exact HI0.out))) : g ≠ gb299)); have NB299_0 := am_ ((by rw [hg]; exact Nat.ne_of_gt (IsS80.lt (show IsS80 w0 _ g s0_0 t297 t298 from by repeat (first | (with_reducible first | exact HI0.out | apply IsS80.alloc | apply IsS80.drewN | apply IsS80.drew | apply IsS80.set_1 | apply IsS80.set_2) | exact HI0.out))) : gb299 ≠ g)); replace HI0 := am_ (IsS80.below y11_ hb); clear hb hbox hg; have hnb22 := NB299_0.out; have hnc22 := NB0_299.out; have hcz23_0 := cq_ BK299.out 0 (.int .i64 0); have hcz23_1 := cq_ BK299.out 1 (.int .i64 0); have hcz23_2 := cq_ BK299.out 2 (.int .i64 0); have hfz23_0 := blk_frozen BK299.out 0; have hfz23_1 := blk_frozen BK299.out 1; have hfz23_2 := blk_frozen BK299.out 2) | ((with_reducible refine gate_builtin (b := .append) (xs := #[.tmp 42, .tmp 44]) rfl ?_); at_builtin; refine Kd.R_append k69 w.heap.size rfl (.tmp 42) (.tmp 44) 27 69 (.agg #[(.int .i64 0), (.int .i64 0), (.int .i64 0)]) 24 rfl Try.underlying27 info69 rfl (by decide) (by omega) (.slice Ao19 x3_3.length co19) x3_3 (⟨wrap64 (2 + t293), t296, 0⟩ : S69) [.int .i64 (wrap64 (2 + t293)), .int .i64 t296, .int .i64 0] (fun k_ => k_ ≠ gb299) (fun _ => False) rfl y54_ ?aP (fun _ hk => hk.elim) ?aF ?aO (Below.refl _ _) ?aS ?aL ?_; (case aP => exact k69_mkM _ _ _ (⟨wrap64 (2 + t293), t296, 0⟩ : S69)); (case aF => exact (fun k_ hk => Kd.freshB (g := gb299) (o := .cells #[.int .i64 (wrap64 (2 + t293)), .int .i64 t296, .int .i64 0] 69 (0, 0)) (bu_ BK299.out) k_ hk)); (case aO => exact (rq_ (Kd.R_mono (Kd.R_far (p := ⟨gb299, 2, none⟩) (Kd.R_far (p := ⟨gb299, 1, none⟩) (Kd.R_far (p := ⟨gb299, 0, none⟩) (Kd.R_mono HO_3.out (fun k_ hk => (⟨hk, hk.2⟩ : _ ∧ k_ ≠ gb299))) (fun _ hk => hk.2) (.int .i64 (wrap64 (2 + t293)))) (fun _ hk => hk.2) (.int .i64 t296)) (fun _ hk => hk.2) (.int .i64 0)) (fun _ hk => hk.1.2)))); (case aS => exact (keep_size (w := w) (g := g) (row := none) y7_)); (case aL => have := LMc17.out; omega); intro v301 w24 ho hb hg hat; rw [← Ny300.out] at ho; replace BK299 := am_ (blk_grown (g := gb299) (o := .cells #[.int .i64 (wrap64 (2 + t293)), .int .i64 t296, .int .i64 0] 69 (0, 0)) (bu_ BK299.out) hg (Kd.R_away HO_3.out (fun _ hk => hk.2))); replace HB := am_ (below_weaken (by repeat (first | (with_reducible first | exact HB.out | apply below_alloc | apply pw_below_drewN | apply below_drew1 | refine below_set ?_ (IsS80.ge HI0.out) | refine below_set ?_ GE299.out) | exact HB.out)) HL.out hb); replace HI0 := am_ (IsS80.grown (by repeat (first | (with_reducible first | exact HI0.out | apply IsS80.alloc | apply IsS80.drewN | apply IsS80.drew | apply IsS80.set_1 | apply IsS80.set_2 | (apply IsS80.far; case hne => exact NB0_299.out)) | exact HI0.out)) hg (IsS80.own_ne HI0.out HO_3.out (by decide))); replace HK := am_ (KeepBut.trans y7_ (KeepBut.of_grown hg g) (Kd.R_base2 HO_3.out)); have HO302 := am_ (ho); clear HO_3; clear ho hb hg hat))
           go_roundg k3
           case measure => have := HK1.out; have := HJ8.out; have := HK3.out; omega
           case rel => exact ⟨(y300), (wrap64 (x5_3 - 1)), (t297), (t298), y53_, H', ⟨by have := HK1.out; have := HJ8.out; have := HK3.out; omega⟩, ⟨rq_ (Kd.R_mono HO302.out (fun _ hk => trivial))⟩, ⟨by repeat (first | (with_reducible first | exact HI0.out | apply IsS80.alloc | apply IsS80.drewN | apply IsS80.drew | apply IsS80.set_1 | apply IsS80.set_2 | (apply IsS80.far; case hne => exact NB0_299.out)) | exact HI0.out)⟩, ⟨by repeat (first | (with_reducible first | exact HK.out | apply KeepBut.set_ | apply keep_drewN | apply keep_drew | apply keep_alloc | refine keep_far ?_ GW299.out _) | exact HK.out)⟩, ⟨by repeat (first | (with_reducible first | exact HB.out | apply below_alloc | apply pw_below_drewN | apply below_drew1 | refine below_set ?_ (IsS80.ge HI0.out) | refine below_set ?_ GE299.out) | exact HB.out)⟩⟩
          ·rw [if_neg c17] at H
           exact absurd H (by simp)
         ·rw [if_neg c16] at H
          have c16b0 : ((wrap64 (2 + t293)) == 2) = false := beq_eq_false_iff_ne.mpr c16
          have c16b1 : ((wrap64 (2 + t293)) != 2) = true := bne_iff_ne.mpr c16
          replace H := Option.bind_eq_some_iff.mp H
          obtain ⟨⟨t303, t304, t305⟩, A250, H⟩ := H
          replace H : (if x3_3.length < 5864062014805 then (spec_l1Cur_gates.l1 k3 (x3_3 ++ [(⟨wrap64 (2 + t293), t296, t303⟩ : S69)]) (wrap64 (x5_3 - 1)) s0_0 t304 t305) else (none)) = some (r1, r2, r3) := H
          have A25 := am_ A250
          clear A250
          by_cases c26 : x3_3.length < 5864062014805
          ·rw [if_pos c26] at H
           have LMc26 := am_ c26
           clear c26
           obtain ⟨y306, hy306⟩ : ∃ y_ : List (S69), y_ = (x3_3 ++ [(⟨wrap64 (2 + t293), t296, t303⟩ : S69)]) := ⟨_, rfl⟩
           replace H : (spec_l1Cur_gates.l1 k3 y306 (wrap64 (x5_3 - 1)) s0_0 t304 t305) = some (r1, r2, r3) := by first | (rw [hy306]; with_reducible exact H) | (have H2_ := (Option.bind_some _ _).symm.trans H; rw [hy306]; with_reducible exact H2_) | (have H2_ := (Option.bind_some _ _).symm.trans H; with_reducible exact H2_) | with_reducible exact H | (rw [hy306]; exact H) | exact H
           have Ny306 := am_ hy306
           clear hy306
           have H' := am_ H
           clear H
           go_wp2_with (first | ((with_reducible refine gl_ 53 rfl ?_); refine goesM_ (some 27) Try.func53 #[.pointer (some ⟨g, 0, none⟩), .int .i64 4] ?_; (with_reducible refine (spec_l1Cur_pick.calls g s0_0 x1001_3 x1002_3 4 t293 t294 t295 w0 _ ?side1 ?side2 A14.out).mono ?_); (case side1 => repeat (first | (with_reducible first | exact HI0.out | apply IsS80.alloc | apply IsS80.drewN | apply IsS80.drew | apply IsS80.set_1 | apply IsS80.set_2) | exact HI0.out)); (case side2 => repeat (first | (with_reducible first | exact HB.out | apply below_alloc | apply pw_below_drewN | apply below_drew1 | refine below_set ?_ (IsS80.ge HI0.out)) | exact HB.out)); rintro e w27 ⟨rfl, hi, hb, hk⟩; refine ⟨_, rfl, ?_⟩; replace HO_3 := am_ (Kd.R_mono (Kd.R_keep (IsS80.apart (show IsS80 w0 _ g s0_0 x1001_3 x1002_3 from by repeat (first | (with_reducible first | exact HI0.out | apply IsS80.alloc | apply IsS80.drewN | apply IsS80.drew | apply IsS80.set_1 | apply IsS80.set_2) | exact HI0.out)) (rq_ HO_3.out) (by decide)) hk (fun _ h => h.2)) (fun _ h => h.1)); replace HK := am_ (KeepBut.trans y16_ hk (.inl rfl)); replace HB := am_ (hb); replace HI0 := am_ (hi); (try clear hb); (try clear hk); (try clear hi); obtain ⟨Ao28, co28, eo28⟩ := Kd.R_slice HO_3.out; subst eo28) | ((with_reducible refine gl_ 53 rfl ?_); refine goesM_ (some 32) Try.func53 #[.pointer (some ⟨g, 0, none⟩), .int .i64 (x3_3.length : Int)] ?_; (with_reducible refine (spec_l1Cur_pick.calls g s0_0 t294 t295 (x3_3.length : Int) t296 t297 t298 w0 _ ?side1 ?side2 A15.out).mono ?_); (case side1 => repeat (first | (with_reducible first | exact HI0.out | apply IsS80.alloc | apply IsS80.drewN | apply IsS80.drew | apply IsS80.set_1 | apply IsS80.set_2) | exact HI0.out)); (case side2 => repeat (first | (with_reducible first | exact HB.out | apply below_alloc | apply pw_below_drewN | apply below_drew1 | refine below_set ?_ (IsS80.ge HI0.out)) | exact HB.out)); rintro e w29 ⟨rfl, hi, hb, hk⟩; refine ⟨_, rfl, ?_⟩; replace HO_3 := am_ (Kd.R_mono (Kd.R_keep (IsS80.apart (show IsS80 w0 _ g s0_0 t294 t295 from by repeat (first | (with_reducible first | exact HI0.out | apply IsS80.alloc | apply IsS80.drewN | apply IsS80.drew | apply IsS80.set_1 | apply IsS80.set_2) | exact HI0.out)) (rq_ HO_3.out) (by decide)) hk (fun _ h => h.2)) (fun _ h => h.1)); replace HK := am_ (KeepBut.trans y16_ hk (.inl rfl)); replace HB := am_ (hb); replace HI0 := am_ (hi); (try clear hb); (try clear hk); (try clear hi)) | ((with_reducible refine gate_dst (N := 6) rfl ?_); refine boxq_ (N := 6) (cs := #[.int .i64 0, .int .i64 0, .int .i64 0]) (t := 69) ?_; intro gb299 hg w30 hbox hb; replace HO_3 := am_ (Kd.R_below (Kd.R_elderB (rq_ HO_3.out) gb299 (Nat.le_of_eq hg.symm)) hb); replace HB := am_ (below_step y10_ hb); have BK299 := am_ (hbox); have GW299 := am_ ((y4_ : w.heap.size ≤ gb299)); have GE299 := am_ ((Nat.le_trans HW0.out (y4_ : w.heap.size ≤ gb299) : w0.heap.size ≤ gb299)); replace HK := am_ (KeepBut.trans y16_ (KeepBut.of_below hb g none) (.inl rfl)); have NB0_299 := am_ ((by rw [hg]; exact Nat.ne_of_lt (IsS80.lt (show IsS80 w0 _ g s0_0 t297 t298 from by repeat (first | (with_reducible first | exact HI0.out | apply IsS80.alloc | apply IsS80.drewN | apply IsS80.drew | apply IsS80.set_1 | apply IsS80.set_2) | exact HI0.out))) : g ≠ gb299)); have NB299_0 := am_ ((by rw [hg]; exact Nat.ne_of_gt (IsS80.lt (show IsS80 w0 _ g s0_0 t297 t298 from by repeat (first | (with_reducible first | exact HI0.out | apply IsS80.alloc | apply IsS80.drewN | apply IsS80.drew | apply IsS80.set_1 | apply IsS80.set_2) | exact HI0.out))) : gb299 ≠ g)); replace HI0 := am_ (IsS80.below y11_ hb); clear hb hbox hg; have hnb31 := NB299_0.out; have hnc31 := NB0_299.out; have hcz32_0 := cq_ BK299.out 0 (.int .i64 0); have hcz32_1 := cq_ BK299.out 1 (.int .i64 0); have hcz32_2 := cq_ BK299.out 2 (.int .i64 0); have hfz32_0 := blk_frozen BK299.out 0; have hfz32_1 := blk_frozen BK299.out 1; have hfz32_2 := blk_frozen BK299.out 2) | ((with_reducible refine gl_ 53 rfl ?_); refine goesM_ (some 40) Try.func53 #[.pointer (some ⟨g, 0, none⟩), .int .i64 (x3_3.length : Int)] ?_; (with_reducible refine (spec_l1Cur_pick.calls g s0_0 t297 t298 (x3_3.length : Int) t303 t304 t305 w0 _ ?side1 ?side2 A25.out).mono ?_); (case side1 => repeat (first | (with_reducible first | exact HI0.out | apply IsS80.alloc | apply IsS80.drewN | apply IsS80.drew | apply IsS80.set_1 | apply IsS80.set_2 | (apply IsS80.far; case hne => exact NB0_299.out)) | exact HI0.out)); (case side2 => repeat (first | (with_reducible first | exact HB.out | apply below_alloc | apply pw_below_drewN | apply below_drew1 | refine below_set ?_ (IsS80.ge HI0.out) | refine below_set ?_ GE299.out) | exact HB.out)); rintro e w33 ⟨rfl, hi, hb, hk⟩; refine ⟨_, rfl, ?_⟩; replace HO_3 := am_ (Kd.R_mono (Kd.R_keep (IsS80.apart (show IsS80 w0 _ g s0_0 t297 t298 from by repeat (first | (with_reducible first | exact HI0.out | apply IsS80.alloc | apply IsS80.drewN | apply IsS80.drew | apply IsS80.set_1 | apply IsS80.set_2 | (apply IsS80.far; case hne => exact NB0_299.out)) | exact HI0.out)) (rq_ ((Kd.R_mono (Kd.R_far (p := ⟨gb299, 2, none⟩) (Kd.R_far (p := ⟨gb299, 1, none⟩) (Kd.R_far (p := ⟨gb299, 0, none⟩) (Kd.R_mono HO_3.out (fun k_ hk => (⟨hk, hk.2⟩ : _ ∧ k_ ≠ gb299))) (fun _ hk => hk.2) (.int .i64 (wrap64 (2 + t293)))) (fun _ hk => hk.2) (.int .i64 t296)) (fun _ hk => hk.2) (.int .i64 0)) (fun _ h_ => h_.1)))) (by decide)) hk (fun _ h => h.2)) (fun _ h => h.1)); replace BK299 := am_ (KeepBut.blk hk (g' := gb299) (o := .cells #[.int .i64 (wrap64 (2 + t293)), .int .i64 t296, .int .i64 0] 69 (0, 0)) (bu_ BK299.out) NB299_0.out (by simp)); replace HK := am_ (KeepBut.trans y7_ hk (.inl rfl)); replace HB := am_ (hb); replace HI0 := am_ (hi); (try clear hb); (try clear hk); (try clear hi); have hcz34_0 := cq_ BK299.out 0 (.int .i64 (wrap64 (2 + t293))); have hcz34_1 := cq_ BK299.out 1 (.int .i64 t296); have hcz34_2 := cq_ BK299.out 2 (.int .i64 0); have hfz34_0 := blk_frozen BK299.out 0; have hfz34_1 := blk_frozen BK299.out 1; have hfz34_2 := blk_frozen BK299.out 2) | ((with_reducible refine gate_builtin (b := .append) (xs := #[.tmp 42, .tmp 44]) rfl ?_); at_builtin; refine Kd.R_append k69 w.heap.size rfl (.tmp 42) (.tmp 44) 27 69 (.agg #[(.int .i64 0), (.int .i64 0), (.int .i64 0)]) 24 rfl Try.underlying27 info69 rfl (by decide) (by omega) (.slice Ao28 x3_3.length co28) x3_3 (⟨wrap64 (2 + t293), t296, t303⟩ : S69) [.int .i64 (wrap64 (2 + t293)), .int .i64 t296, .int .i64 t303] (fun k_ => k_ ≠ gb299) (fun _ => False) rfl y54_ ?aP (fun _ hk => hk.elim) ?aF ?aO (Below.refl _ _) ?aS ?aL ?_; (case aP => exact k69_mkM _ _ _ (⟨wrap64 (2 + t293), t296, t303⟩ : S69)); (case aF => exact (fun k_ hk => Kd.freshB (g := gb299) (o := .cells #[.int .i64 (wrap64 (2 + t293)), .int .i64 t296, .int .i64 t303] 69 (0, 0)) (bu_ BK299.out) k_ hk)); (case aO => exact (rq_ (Kd.R_mono (Kd.R_far (p := ⟨gb299, 2, none⟩) (Kd.R_mono HO_3.out (fun k_ hk => (⟨hk, hk.2⟩ : _ ∧ k_ ≠ gb299))) (fun _ hk => hk.2) (.int .i64 t303)) (fun _ hk => hk.1.2)))); (case aS => exact (keep_size (w := w) (g := g) (row := none) y7_)); (case aL => have := LMc26.out; omega); intro v307 w35 ho hb hg hat; rw [← Ny306.out] at ho; replace BK299 := am_ (blk_grown (g := gb299) (o := .cells #[.int .i64 (wrap64 (2 + t293)), .int .i64 t296, .int .i64 t303] 69 (0, 0)) (bu_ BK299.out) hg (Kd.R_away HO_3.out (fun _ hk => hk.2))); replace HB := am_ (below_weaken (by repeat (first | (with_reducible first | exact HB.out | apply below_alloc | apply pw_below_drewN | apply below_drew1 | refine below_set ?_ (IsS80.ge HI0.out) | refine below_set ?_ GE299.out) | exact HB.out)) HL.out hb); replace HI0 := am_ (IsS80.grown (by repeat (first | (with_reducible first | exact HI0.out | apply IsS80.alloc | apply IsS80.drewN | apply IsS80.drew | apply IsS80.set_1 | apply IsS80.set_2 | (apply IsS80.far; case hne => exact NB0_299.out)) | exact HI0.out)) hg (IsS80.own_ne HI0.out HO_3.out (by decide))); replace HK := am_ (KeepBut.trans y7_ (KeepBut.of_grown hg g) (Kd.R_base2 HO_3.out)); have HO308 := am_ (ho); clear HO_3; clear ho hb hg hat))
           go_roundg k3
           case measure => have := HK1.out; have := HJ8.out; have := HK3.out; omega
           case rel => exact ⟨(y306), (wrap64 (x5_3 - 1)), (t304), (t305), y53_, H', ⟨by have := HK1.out; have := HJ8.out; have := HK3.out; omega⟩, ⟨rq_ (Kd.R_mono HO308.out (fun _ hk => trivial))⟩, ⟨by repeat (first | (with_reducible first | exact HI0.out | apply IsS80.alloc | apply IsS80.drewN | apply IsS80.drew | apply IsS80.set_1 | apply IsS80.set_2 | (apply IsS80.far; case hne => exact NB0_299.out)) | exact HI0.out)⟩, ⟨by repeat (first | (with_reducible first | exact HK.out | apply KeepBut.set_ | apply keep_drewN | apply keep_drew | apply keep_alloc | refine keep_far ?_ GW299.out _) | exact HK.out)⟩, ⟨by repeat (first | (with_reducible first | exact HB.out | apply below_alloc | apply pw_below_drewN | apply below_drew1 | refine below_set ?_ (IsS80.ge HI0.out) | refine below_set ?_ GE299.out) | exact HB.out)⟩⟩
          ·rw [if_neg c26] at H
           exact absurd H (by simp)
        ·rw [if_neg c13] at H
         have c13b0 : decide (0 < x5_3) = false := decide_eq_false c13
         clear c13
         replace H := Option.bind_eq_some_iff.mp H
         obtain ⟨⟨t309, t310, t311⟩, A360, H⟩ := H
         replace H : (if t309 = true then ((spec_l1Cur_pick.f s0_0 t310 t311 (x3_3.length : Int)).bind fun bt312 => ((spec_l1Cur_pick.f s0_0 bt312.2.1 bt312.2.2 7).bind fun bt315 => ((spec_l1Cur_pick.f s0_0 bt315.2.1 bt315.2.2 5).bind fun bt318 => ((spec_l1Cur_pick.f s0_0 bt318.2.1 bt318.2.2 3).bind fun bt321 => (if 0 ≤ bt312.1 then (if bt312.1 < (x3_3.length : Int) then (some ((x3_3.set (bt312.1 : Int).toNat (⟨bt315.1, wrap64 (bt318.1 - 1), bt321.1⟩ : S69)), bt321.2.1, bt321.2.2)) else (none)) else (none)))))) else (some (x3_3, t310, t311))) = some (r1, r2, r3) := H
         have A36 := am_ A360
         clear A360
         by_cases c37 : t309 = true
         ·subst c37
          have H1 : ((spec_l1Cur_pick.f s0_0 t310 t311 (x3_3.length : Int)).bind fun bt312 => ((spec_l1Cur_pick.f s0_0 bt312.2.1 bt312.2.2 7).bind fun bt315 => ((spec_l1Cur_pick.f s0_0 bt315.2.1 bt315.2.2 5).bind fun bt318 => ((spec_l1Cur_pick.f s0_0 bt318.2.1 bt318.2.2 3).bind fun bt321 => (if 0 ≤ bt312.1 then (if bt312.1 < (x3_3.length : Int) then (some ((x3_3.set (bt312.1 : Int).toNat (⟨bt315.1, wrap64 (bt318.1 - 1), bt321.1⟩ : S69)), bt321.2.1, bt321.2.2)) else (none)) else (none)))))) = some (r1, r2, r3) := by rw [if_pos rfl] at H; exact H
          clear H
          have H := H1
          clear H1
          replace H := Option.bind_eq_some_iff.mp H
          obtain ⟨⟨t312, t313, t314⟩, A380, H⟩ := H
          replace H : ((spec_l1Cur_pick.f s0_0 t313 t314 7).bind fun bt315 => ((spec_l1Cur_pick.f s0_0 bt315.2.1 bt315.2.2 5).bind fun bt318 => ((spec_l1Cur_pick.f s0_0 bt318.2.1 bt318.2.2 3).bind fun bt321 => (if 0 ≤ t312 then (if t312 < (x3_3.length : Int) then (some ((x3_3.set (t312 : Int).toNat (⟨bt315.1, wrap64 (bt318.1 - 1), bt321.1⟩ : S69)), bt321.2.1, bt321.2.2)) else (none)) else (none))))) = some (r1, r2, r3) := H
          have A38 := am_ A380
          clear A380
          replace H := Option.bind_eq_some_iff.mp H
          obtain ⟨⟨t315, t316, t317⟩, A390, H⟩ := H
          replace H : ((spec_l1Cur_pick.f s0_0 t316 t317 5).bind fun bt318 => ((spec_l1Cur_pick.f s0_0 bt318.2.1 bt318.2.2 3).bind fun bt321 => (if 0 ≤ t312 then (if t312 < (x3_3.length : Int) then (some ((x3_3.set (t312 : Int).toNat (⟨t315, wrap64 (bt318.1 - 1), bt321.1⟩ : S69)), bt321.2.1, bt321.2.2)) else (none)) else (none)))) = some (r1, r2, r3) := H
          have A39 := am_ A390
          clear A390
          replace H := Option.bind_eq_some_iff.mp H
          obtain ⟨⟨t318, t319, t320⟩, A400, H⟩ := H
          replace H : ((spec_l1Cur_pick.f s0_0 t319 t320 3).bind fun bt321 => (if 0 ≤ t312 then (if t312 < (x3_3.length : Int) then (some ((x3_3.set (t312 : Int).toNat (⟨t315, wrap64 (t318 - 1), bt321.1⟩ : S69)), bt321.2.1, bt321.2.2)) else (none)) else (none))) = some (r1, r2, r3) := H
          have A40 := am_ A400
          clear A400
          replace H := Option.bind_eq_some_iff.mp H
          obtain ⟨⟨t321, t322, t323⟩, A410, H⟩ := H
          replace H : (if 0 ≤ t312 then (if t312 < (x3_3.length : Int) then (some ((x3_3.set (t312 : Int).toNat (⟨t315, wrap64 (t318 - 1), t321⟩ : S69)), t322, t323)) else (none)) else (none)) = some (r1, r2, r3) := H
          have A41 := am_ A410
          clear A410
          by_cases c42 : 0 ≤ t312
          ·rw [if_pos c42] at H
           have c42b0 : decide (0 ≤ t312) = true := decide_eq_true c42
           clear c42
           by_cases c43 : t312 < (x3_3.length : Int)
           ·rw [if_pos c43] at H
            have c43b0 : decide (t312 < (x3_3.length : Int)) = true := decide_eq_true c43
            clear c43
            obtain ⟨y324, hy324⟩ : ∃ y_ : List (S69), y_ = (x3_3.set (t312 : Int).toNat (⟨t315, wrap64 (t318 - 1), t321⟩ : S69)) := ⟨_, rfl⟩
            replace H : (some (y324, t322, t323)) = some (r1, r2, r3) := by first | (rw [hy324]; with_reducible exact H) | (have H2_ := (Option.bind_some _ _).symm.trans H; rw [hy324]; with_reducible exact H2_) | (have H2_ := (Option.bind_some _ _).symm.trans H; with_reducible exact H2_) | with_reducible exact H | (rw [hy324]; exact H) | exact H
            have Ny324 := am_ hy324
            clear hy324
            simp only [Option.some.injEq, Prod.mk.injEq] at H
            obtain ⟨rfl, rfl, rfl⟩ := H
            go_wp2_with (first | ((with_reducible refine gl_ 68 rfl ?_); refine goesM_ (some 47) Try.func68 #[.pointer (some ⟨g, 0, none⟩), .int .i64 20] ?_; (with_reducible refine (spec_l1Cur_one.calls g s0_0 x1001_3 x1002_3 20 true t310 t311 w0 _ ?side1 ?side2 A36.out).mono ?_); (case side1 => repeat (first | (with_reducible first | exact HI0.out | apply IsS80.alloc | apply IsS80.drewN | apply IsS80.drew | apply IsS80.set_1 | apply IsS80.set_2) | exact HI0.out)); (case side2 => repeat (first | (with_reducible first | exact HB.out | apply below_alloc | apply pw_below_drewN | apply below_drew1 | refine below_set ?_ (IsS80.ge HI0.out)) | exact HB.out)); rintro e w45 ⟨rfl, hi, hb, hk⟩; refine ⟨_, rfl, ?_⟩; replace HO_3 := am_ (Kd.R_mono (Kd.R_keep (IsS80.apart (show IsS80 w0 _ g s0_0 x1001_3 x1002_3 from by repeat (first | (with_reducible first | exact HI0.out | apply IsS80.alloc | apply IsS80.drewN | apply IsS80.drew | apply IsS80.set_1 | apply IsS80.set_2) | exact HI0.out)) (rq_ HO_3.out) (by decide)) hk (fun _ h => h.2)) (fun _ h => h.1)); replace HK := am_ (KeepBut.trans y16_ hk (.inl rfl)); replace HB := am_ (hb); replace HI0 := am_ (hi); (try clear hb); (try clear hk); (try clear hi); obtain ⟨Ao46, co46, eo46⟩ := Kd.R_slice HO_3.out; subst eo46) | ((with_reducible refine gl_ 53 rfl ?_); refine goesM_ (some 52) Try.func53 #[.pointer (some ⟨g, 0, none⟩), .int .i64 (x3_3.length : Int)] ?_; (with_reducible refine (spec_l1Cur_pick.calls g s0_0 t310 t311 (x3_3.length : Int) t312 t313 t314 w0 _ ?side1 ?side2 A38.out).mono ?_); (case side1 => repeat (first | (with_reducible first | exact HI0.out | apply IsS80.alloc | apply IsS80.drewN | apply IsS80.drew | apply IsS80.set_1 | apply IsS80.set_2) | exact HI0.out)); (case side2 => repeat (first | (with_reducible first | exact HB.out | apply below_alloc | apply pw_below_drewN | apply below_drew1 | refine below_set ?_ (IsS80.ge HI0.out)) | exact HB.out)); rintro e w47 ⟨rfl, hi, hb, hk⟩; refine ⟨_, rfl, ?_⟩; replace HO_3 := am_ (Kd.R_mono (Kd.R_keep (IsS80.apart (show IsS80 w0 _ g s0_0 t310 t311 from by repeat (first | (with_reducible first | exact HI0.out | apply IsS80.alloc | apply IsS80.drewN | apply IsS80.drew | apply IsS80.set_1 | apply IsS80.set_2) | exact HI0.out)) (rq_ HO_3.out) (by decide)) hk (fun _ h => h.2)) (fun _ h => h.1)); replace HK := am_ (KeepBut.trans y16_ hk (.inl rfl)); replace HB := am_ (hb); replace HI0 := am_ (hi); (try clear hb); (try clear hk); (try clear hi)) | ((with_reducible refine gl_ 53 rfl ?_); refine goesM_ (some 54) Try.func53 #[.pointer (some ⟨g, 0, none⟩), .int .i64 7] ?_; (with_reducible refine (spec_l1Cur_pick.calls g s0_0 t313 t314 7 t315 t316 t317 w0 _ ?side1 ?side2 A39.out).mono ?_); (case side1 => repeat (first | (with_reducible first | exact HI0.out | apply IsS80.alloc | apply IsS80.drewN | apply IsS80.drew | apply IsS80.set_1 | apply IsS80.set_2) | exact HI0.out)); (case side2 => repeat (first | (with_reducible first | exact HB.out | apply below_alloc | apply pw_below_drewN | apply below_drew1 | refine below_set ?_ (IsS80.ge HI0.out)) | exact HB.out)); rintro e w48 ⟨rfl, hi, hb, hk⟩; refine ⟨_, rfl, ?_⟩; replace HO_3 := am_ (Kd.R_mono (Kd.R_keep (IsS80.apart (show IsS80 w0 _ g s0_0 t313 t314 from by repeat (first | (with_reducible first | exact HI0.out | apply IsS80.alloc | apply IsS80.drewN | apply IsS80.drew | apply IsS80.set_1 | apply IsS80.set_2) | exact HI0.out)) (rq_ HO_3.out) (by decide)) hk (fun _ h => h.2)) (fun _ h => h.1)); replace HK := am_ (KeepBut.trans y16_ hk (.inl rfl)); replace HB := am_ (hb); replace HI0 := am_ (hi); (try clear hb); (try clear hk); (try clear hi)) | ((with_reducible refine gl_ 53 rfl ?_); refine goesM_ (some 56) Try.func53 #[.pointer (some ⟨g, 0, none⟩), .int .i64 5] ?_; (with_reducible refine (spec_l1Cur_pick.calls g s0_0 t316 t317 5 t318 t319 t320 w0 _ ?side1 ?side2 A40.out).mono ?_); (case side1 => repeat (first | (with_reducible first | exact HI0.out | apply IsS80.alloc | apply IsS80.drewN | apply IsS80.drew | apply IsS80.set_1 | apply IsS80.set_2) | exact HI0.out)); (case side2 => repeat (first | (with_reducible first | exact HB.out | apply below_alloc | apply pw_below_drewN | apply below_drew1 | refine below_set ?_ (IsS80.ge HI0.out)) | exact HB.out)); rintro e w49 ⟨rfl, hi, hb, hk⟩; refine ⟨_, rfl, ?_⟩; replace HO_3 := am_ (Kd.R_mono (Kd.R_keep (IsS80.apart (show IsS80 w0 _ g s0_0 t316 t317 from by repeat (first | (with_reducible first | exact HI0.out | apply IsS80.alloc | apply IsS80.drewN | apply IsS80.drew | apply IsS80.set_1 | apply IsS80.set_2) | exact HI0.out)) (rq_ HO_3.out) (by decide)) hk (fun _ h => h.2)) (fun _ h => h.1)); replace HK := am_ (KeepBut.trans y16_ hk (.inl rfl)); replace HB := am_ (hb); replace HI0 := am_ (hi); (try clear hb); (try clear hk); (try clear hi)) | ((with_reducible refine gl_ 53 rfl ?_); refine goesM_ (some 59) Try.func53 #[.pointer (some ⟨g, 0, none⟩), .int .i64 3] ?_; (with_reducible refine (spec_l1Cur_pick.calls g s0_0 t319 t320 3 t321 t322 t323 w0 _ ?side1 ?side2 A41.out).mono ?_); (case side1 => repeat (first | (with_reducible first | exact HI0.out | apply IsS80.alloc | apply IsS80.drewN | apply IsS80.drew | apply IsS80.set_1 | apply IsS80.set_2) | exact HI0.out)); (case side2 => repeat (first | (with_reducible first | exact HB.out | apply below_alloc | apply pw_below_drewN | apply below_drew1 | refine below_set ?_ (IsS80.ge HI0.out)) | exact HB.out)); rintro e w50 ⟨rfl, hi, hb, hk⟩; refine ⟨_, rfl, ?_⟩; replace HO_3 := am_ (Kd.R_mono (Kd.R_keep (IsS80.apart (show IsS80 w0 _ g s0_0 t319 t320 from by repeat (first | (with_reducible first | exact HI0.out | apply IsS80.alloc | apply IsS80.drewN | apply IsS80.drew | apply IsS80.set_1 | apply IsS80.set_2) | exact HI0.out)) (rq_ HO_3.out) (by decide)) hk (fun _ h => h.2)) (fun _ h => h.1)); replace HK := am_ (KeepBut.trans y16_ hk (.inl rfl)); replace HB := am_ (hb); replace HI0 := am_ (hi); (try clear hb); (try clear hk); (try clear hi); have p44 : 0 ≤ (t312 : Int) := od_; have q44 : (t312 : Int) < ((x3_3.length : Int) : Int) := od_; obtain ⟨go44, co44, eo44, gb44, gl44, cl44, HG44⟩ := Kd.R_form HO_3.out (by omega); (first | cases eo44 | (injection eo44 with ea_ en_ ec_; (first | subst ea_ | (injection ea_ with ea_; subst ea_)); subst ec_; clear en_)); have GB44 := am_ gb44; have GG44 := am_ HG44; clear gb44 gl44 HG44; obtain ⟨ce44, hcl44, hM44, hcc44, hfr44⟩ := Kd.R_elem HO_3.out z69 (t312 : Int) p44 q44; obtain rfl := k69_openM hM44; have hx44_0 : w50.cell? ⟨go44, (t312 : Int).toNat * 3, none⟩ = some (.int .i64 ((rd_T69 x3_3 t312).f0)) := hcc44 0 _ rfl; have hx44_1 : w50.cell? ⟨go44, (t312 : Int).toNat * 3 + 1, none⟩ = some (.int .i64 ((rd_T69 x3_3 t312).f1)) := hcc44 1 _ rfl; have hx44_2 : w50.cell? ⟨go44, (t312 : Int).toNat * 3 + 2, none⟩ = some (.int .i64 ((rd_T69 x3_3 t312).f2)) := hcc44 2 _ rfl; have hf44_0 : w50.frozen? ⟨go44, (t312 : Int).toNat * 3, none⟩ = false := hfr44 0; have hf44_1 : w50.frozen? ⟨go44, (t312 : Int).toNat * 3 + 1, none⟩ = false := hfr44 1; have hf44_2 : w50.frozen? ⟨go44, (t312 : Int).toNat * 3 + 2, none⟩ = false := hfr44 2; clear hcl44 hcc44 hfr44; (try clear hM44); replace p44 := eq_true p44; replace q44 := eq_true q44; have HX51 := am_ (show Kd.R k69 69 w50 w.heap.size (fun _ => True) (.slice (some ⟨go44, 0, none⟩) x3_3.length co46) x3_3 from (rq_ HO_3.out)); obtain ⟨ce51, hcl51, hM51, hcc51, hfr51⟩ := Kd.R_elem HX51.out z69 (t312 : Int) (od_) (by have h_ : (t312 : Int) < ((x3_3.length : Int) : Int) := od_; first | exact h_ | (have e_ := (Kd.R_reads' HO_3.out).1; omega) | simpa using h_); obtain rfl := k69_openM hM51; have HP51 := Kd.R_seg HX51.out (t312 : Int) (od_) (by have h_ : (t312 : Int) < ((x3_3.length : Int) : Int) := od_; first | exact h_ | (have e_ := (Kd.R_reads' HO_3.out).1; omega) | simpa using h_) (seg := [.int .i64 t315, .int .i64 (wrap64 (t318 - 1)), .int .i64 t321]) (j := 0) hcl51 hcc51 (show 3 ≤ 3 from by decide) (x' := (⟨t315, wrap64 (t318 - 1), t321⟩ : S69)) (k69_mkM _ _ _ (⟨t315, wrap64 (t318 - 1), t321⟩ : S69) ) (fun _ hk => hk); have hx51_0 := hcc51 0 _ rfl; (try simp only [show (k69).sz = 3 from rfl, Nat.mul_one, Nat.add_zero] at hx51_0); have hf51_0 := hfr51 0; (try simp only [show (k69).sz = 3 from rfl, Nat.mul_one, Nat.add_zero] at hf51_0); have hx51_1 := hcc51 1 _ rfl; (try simp only [show (k69).sz = 3 from rfl, Nat.mul_one, Nat.add_zero] at hx51_1); have hf51_1 := hfr51 1; (try simp only [show (k69).sz = 3 from rfl, Nat.mul_one, Nat.add_zero] at hf51_1); have hx51_2 := hcc51 2 _ rfl; (try simp only [show (k69).sz = 3 from rfl, Nat.mul_one, Nat.add_zero] at hx51_2); have hf51_2 := hfr51 2; (try simp only [show (k69).sz = 3 from rfl, Nat.mul_one, Nat.add_zero] at hf51_2); clear hcl51 hcc51 hfr51; (try clear hM51)) | ((with_reducible refine gate_store (t := 69) (p := 61) rfl ?_); refine store_event (t := 69) (p := 61) (v := ?vo_w52) (w1 := (((w50.setCell ⟨go44, (t312 : Int).toNat * 3, none⟩ (.int .i64 t315)).setCell ⟨go44, (t312 : Int).toNat * 3 + 1, none⟩ (.int .i64 (wrap64 (t318 - 1)))).setCell ⟨go44, (t312 : Int).toNat * 3 + 2, none⟩ (.int .i64 t321))) ?hg ?ho ?hn ?hr ?_; (case ho => rfl); (case hg => rfl); (case hn => rfl); (case hr => first | (go_simp; done) | (go_simp; rfl)); intro w52 hw; have hg : w50.grownBy w52 (some go44) := (by rw [hw]; exact HP51.2); have hp_ : Kd.R k69 69 w52 w.heap.size (fun _ => True) (.slice (some ⟨go44, 0, none⟩) x3_3.length co46) y324 := (by rw [hw, Ny324.out]; exact HP51.1); clear HP51; replace HI0 := am_ (IsS80.grown y11_ hg (IsS80.own_ne HI0.out HO_3.out (by decide))); replace HB := am_ ((by rw [hw]; exact below_set (below_set (below_set (HB.out) (Nat.le_trans HL.out GB44.out)) (Nat.le_trans HL.out GB44.out)) (Nat.le_trans HL.out GB44.out) : Below w0.heap.size w0 w52)); replace HK := am_ (KeepBut.trans y16_ (KeepBut.of_grown hg g) (Kd.R_base2 HO_3.out)); replace HO_3 := am_ (hp_); clear hg hw hp_))
            go_ret
            exact ⟨_, by first | rfl | (simp [errW_none, errW_some] <;> rfl) | (simp [*, errW_none, errW_some] <;> rfl), rq_ HO_3.out, by repeat (first | (with_reducible first | exact HI0.out | apply IsS80.alloc | apply IsS80.drewN | apply IsS80.drew | apply IsS80.set_1 | apply IsS80.set_2) | exact HI0.out), by repeat (first | (with_reducible first | exact HB.out | apply below_alloc | apply pw_below_drewN | apply below_drew1 | refine below_set ?_ (IsS80.ge HI0.out)) | exact HB.out), by repeat (first | (with_reducible first | exact HK.out | apply KeepBut.set_ | apply keep_drewN | apply keep_drew | apply keep_alloc) | exact HK.out)⟩
           ·rw [if_neg c43] at H
            exact absurd H (by simp)
          ·rw [if_neg c42] at H
           exact absurd H (by simp)
         ·replace c37 := Bool.eq_false_iff.mpr c37
          subst c37
          have H1 : (some (x3_3, t310, t311)) = some (r1, r2, r3) := by rw [if_neg (show ¬ (false = true) by decide)] at H; exact H
          clear H
          have H := H1
          clear H1
          simp only [Option.some.injEq, Prod.mk.injEq] at H
          obtain ⟨rfl, rfl, rfl⟩ := H
          go_wp2_with (first | ((with_reducible refine gl_ 68 rfl ?_); refine goesM_ (some 47) Try.func68 #[.pointer (some ⟨g, 0, none⟩), .int .i64 20] ?_; (with_reducible refine (spec_l1Cur_one.calls g s0_0 x1001_3 x1002_3 20 false t310 t311 w0 _ ?side1 ?side2 A36.out).mono ?_); (case side1 => repeat (first | (with_reducible first | exact HI0.out | apply IsS80.alloc | apply IsS80.drewN | apply IsS80.drew | apply IsS80.set_1 | apply IsS80.set_2) | exact HI0.out)); (case side2 => repeat (first | (with_reducible first | exact HB.out | apply below_alloc | apply pw_below_drewN | apply below_drew1 | refine below_set ?_ (IsS80.ge HI0.out)) | exact HB.out)); rintro e w53 ⟨rfl, hi, hb, hk⟩; refine ⟨_, rfl, ?_⟩; replace HO_3 := am_ (Kd.R_mono (Kd.R_keep (IsS80.apart (show IsS80 w0 _ g s0_0 x1001_3 x1002_3 from by repeat (first | (with_reducible first | exact HI0.out | apply IsS80.alloc | apply IsS80.drewN | apply IsS80.drew | apply IsS80.set_1 | apply IsS80.set_2) | exact HI0.out)) (rq_ HO_3.out) (by decide)) hk (fun _ h => h.2)) (fun _ h => h.1)); replace HK := am_ (KeepBut.trans y16_ hk (.inl rfl)); replace HB := am_ (hb); replace HI0 := am_ (hi); (try clear hb); (try clear hk); (try clear hi)))
          go_ret
          exact ⟨_, by first | rfl | (simp [errW_none, errW_some] <;> rfl) | (simp [*, errW_none, errW_some] <;> rfl), rq_ HO_3.out, by repeat (first | (with_reducible first | exact HI0.out | apply IsS80.alloc | apply IsS80.drewN | apply IsS80.drew | apply IsS80.set_1 | apply IsS80.set_2) | exact HI0.out), by repeat (first | (with_reducible first | exact HB.out | apply below_alloc | apply pw_below_drewN | apply below_drew1 | refine below_set ?_ (IsS80.ge HI0.out)) | exact HB.out), by repeat (first | (with_reducible first | exact HK.out | apply KeepBut.set_ | apply keep_drewN | apply keep_drew | apply keep_alloc) | exact HK.out)⟩
def spec_l8Inputs.l0 : Nat → List Int → List (S69) → Int → Int → Option (List Int)
 | 0, _, _, _, _ => none
 | k + 1, x3, x6, x7, x8 => if x8 < x7 then (if 0 ≤ x8 then (if x8 < (x6.length : Int) then (if ((rd_T69 x6 x8).f0) = 1 then (if x3.length < 17592186044416 then (spec_l8Inputs.l0 k (x3 ++ [x8]) x6 x7 (wrap64 (x8 + 1))) else (none)) else (spec_l8Inputs.l0 k x3 x6 x7 (wrap64 (x8 + 1)))) else (none)) else (none)) else (some x3)
def spec_l8Inputs.f (k : Nat) (l0 : List (S69)) : Option (List Int) := spec_l8Inputs.l0 k ([] : List Int) l0 (l0.length : Int) 0
set_option maxHeartbeats 8000000 in
set_option maxRecDepth 100000 in
theorem spec_l8Inputs.calls (k : Nat) (A0 : Option Addr) (c0 : Nat) (l0 : List (S69)) (r : List Int) (w : World) (hr0 : Kd.C k69 w A0 l0.length l0) (hc0 : l0.length ≤ c0) (h : spec_l8Inputs.f k l0 = some r) :
  Calls Try.prog 56 #[.slice A0 l0.length c0] w fun e w' => ∃ v0_ : Value, e = .returned (v0_) ∧ Kd.R (Kd.int .i64) 3 w' w.heap.size (fun _ => True) v0_ r ∧ Below w.heap.size w w' := by
 have hu69 := Try.underlying69
 have HR0 := am_ hr0
 have HC0 := am_ hc0
 clear hr0 hc0
 have HB := am_ (Below.refl w.heap.size w)
 have H : (spec_l8Inputs.l0 k ([] : List Int) l0 (l0.length : Int) 0) = some r := h
 clear h
 have H' := am_ H
 clear H
 go_enter Try.func56, Try.ntmps56
 go_wp2
 go_loopg [3, 8] k (fun kq v3 v8 w' => ∃ (x3_1 : List Int) (x8_1 : Int), v8 = .int .i64 x8_1 ∧ Aside0 (spec_l8Inputs.l0 kq x3_1 l0 (l0.length : Int) x8_1 = some r) ∧ Aside0 (kq ≤ k) ∧ Aside0 (Kd.R (Kd.int .i64) 3 w' w.heap.size (fun _ => True) v3 x3_1) ∧ Aside0 (Below w.heap.size w w'))
 case atStart => exact ⟨(([] : List Int)), (0), y53_, H', ⟨Nat.le_refl _⟩, ⟨by first | exact Kd.R_nil _ _ _ _ _ | exact Kd.N_nil _ _ _ _ _ | exact Kd.V_nil _ _ _ _ _ | exact Kd.Q_nil _ _ _ _ _ | exact Kd.S_nil _ _ _ _ _⟩, ⟨bq_⟩⟩
 case round =>
  clear H'
  obtain ⟨x3_1, x8_1, rfl, HA, HK1, HO_3, HB⟩ := hrel
  cases gk with
  | zero => exact absurd HA.out (by simp [spec_l8Inputs.l0])
  | succ k1 =>
   have H := HA.out
   clear HA
   simp only [spec_l8Inputs.l0] at H
   by_cases c2 : x8_1 < (l0.length : Int)
   ·rw [if_pos c2] at H
    have c2b0 : decide (x8_1 < (l0.length : Int)) = true := decide_eq_true c2
    clear c2
    by_cases c3 : 0 ≤ x8_1
    ·rw [if_pos c3] at H
     have c3b0 : decide (0 ≤ x8_1) = true := decide_eq_true c3
     clear c3
     by_cases c4 : x8_1 < (l0.length : Int)
     ·rw [if_pos c4] at H
      have c4b0 : decide (x8_1 < (l0.length : Int)) = true := decide_eq_true c4
      clear c4
      by_cases c5 : ((rd_T69 l0 x8_1).f0) = 1
      ·rw [if_pos c5] at H
       have c5b0 : (((rd_T69 l0 x8_1).f0) == 1) = true := beq_iff_eq.mpr c5
       have c5b1 : (((rd_T69 l0 x8_1).f0) != 1) = false := bne_eq_false_iff_eq.mpr c5
       clear c5
       by_cases c6 : x3_1.length < 17592186044416
       ·rw [if_pos c6] at H
        have LMc6 := am_ c6
        clear c6
        obtain ⟨y327, hy327⟩ : ∃ y_ : List Int, y_ = (x3_1 ++ [x8_1]) := ⟨_, rfl⟩
        replace H : (spec_l8Inputs.l0 k1 y327 l0 (l0.length : Int) (wrap64 (x8_1 + 1))) = some r := by first | (rw [hy327]; with_reducible exact H) | (have H2_ := (Option.bind_some _ _).symm.trans H; rw [hy327]; with_reducible exact H2_) | (have H2_ := (Option.bind_some _ _).symm.trans H; with_reducible exact H2_) | with_reducible exact H | (rw [hy327]; exact H) | exact H
        have Ny327 := am_ hy327
        clear hy327
        have H' := am_ H
        clear H
        have p325 : 0 ≤ (x8_1 : Int) := od_
        have q325 : x8_1 < (l0.length : Int) := od_
        obtain ⟨ad325, e325, hx325_0, hx325_1, hx325_2⟩ := at_T69 HR0.out x8_1 p325 q325
        cases e325
        replace hx325_0 := (HB.out.cell (World.block_lt_of_cell? w _ hx325_0)).trans hx325_0
        replace hx325_1 := (HB.out.cell (World.block_lt_of_cell? w _ hx325_1)).trans hx325_1
        replace hx325_2 := (HB.out.cell (World.block_lt_of_cell? w _ hx325_2)).trans hx325_2
        replace p325 := eq_true p325
        replace q325 := eq_true q325
        go_wp2_with (first | ((with_reducible refine gate_dst (N := 5) rfl ?_); refine boxq_ (N := 5) (cs := #[.int .i64 0, .int .i64 0, .int .i64 0]) (t := 69) ?_; intro gb326 hg w7 hbox hb; replace HO_3 := am_ (Kd.R_below (rq_ HO_3.out) hb); have BK326 := am_ (hbox); have GW326 := gz_ hg; have GE326 := gz_ hg; replace HB := bs_ hb; clear hb hbox hg; have hcz8_0 := cq_ BK326.out 0 (.int .i64 0); have hcz8_1 := cq_ BK326.out 1 (.int .i64 0); have hcz8_2 := cq_ BK326.out 2 (.int .i64 0); have hfz8_0 := blk_frozen BK326.out 0; have hfz8_1 := blk_frozen BK326.out 1; have hfz8_2 := blk_frozen BK326.out 2) | ((with_reducible refine gate_builtin (b := .append) (xs := #[.tmp 16, .tmp 18]) rfl ?_); at_builtin; refine Kd.R_append (Kd.int .i64) (w0 := w) w.heap.size rfl (.tmp 16) (.tmp 18) 43 3 (.int .i64 0) 8 rfl Try.underlying43 info3 rfl (by decide) (by omega) u3 x3_1 x8_1 [.int .i64 x8_1] (fun _ => True) (fun _ => False) rfl y54_ ?aP (fun _ hk => hk.elim) ?aF ?aO ?aB ?aS ?aL ?_; (case aP => exact rfl); (case aB => exact (bq_)); (case aF => exact (fun _ _ => trivial)); (case aO => exact (rq_ (Kd.R_mono (Kd.R_far (p := ⟨gb326, 2, none⟩) (Kd.R_far (p := ⟨gb326, 1, none⟩) (Kd.R_far (p := ⟨gb326, 0, none⟩) (Kd.R_types HO_3.out BK326.out (by decide)) (fun _ hk => hk.2) (.int .i64 ((rd_T69 l0 x8_1).f0))) (fun _ hk => hk.2) (.int .i64 ((rd_T69 l0 x8_1).f1))) (fun _ hk => hk.2) (.int .i64 ((rd_T69 l0 x8_1).f2))) (fun _ hk => trivial)))); (case aS => exact (below_size (bq_))); (case aL => have := LMc6.out; omega); intro v328 w9 ho hb hg hat; rw [← Ny327.out] at ho; replace BK326 := am_ (blk_grown (g := gb326) (o := .cells #[.int .i64 ((rd_T69 l0 x8_1).f0), .int .i64 ((rd_T69 l0 x8_1).f1), .int .i64 ((rd_T69 l0 x8_1).f2)] 69 (0, 0)) (bu_ BK326.out) hg (Kd.R_ne HO_3.out BK326.out (by decide))); replace HB := am_ (hb); have HO329 := am_ (ho); clear HO_3; clear ho hb hg hat))
        go_roundg k1
        case measure => have := HK1.out; omega
        case rel => exact ⟨(y327), (wrap64 (x8_1 + 1)), y53_, H', ⟨by have := HK1.out; omega⟩, ⟨rq_ HO329.out⟩, ⟨bq_⟩⟩
       ·rw [if_neg c6] at H
        exact absurd H (by simp)
      ·rw [if_neg c5] at H
       have c5b0 : (((rd_T69 l0 x8_1).f0) == 1) = false := beq_eq_false_iff_ne.mpr c5
       have c5b1 : (((rd_T69 l0 x8_1).f0) != 1) = true := bne_iff_ne.mpr c5
       have H' := am_ H
       clear H
       have p325 : 0 ≤ (x8_1 : Int) := od_
       have q325 : x8_1 < (l0.length : Int) := od_
       obtain ⟨ad325, e325, hx325_0, hx325_1, hx325_2⟩ := at_T69 HR0.out x8_1 p325 q325
       cases e325
       replace hx325_0 := (HB.out.cell (World.block_lt_of_cell? w _ hx325_0)).trans hx325_0
       replace hx325_1 := (HB.out.cell (World.block_lt_of_cell? w _ hx325_1)).trans hx325_1
       replace hx325_2 := (HB.out.cell (World.block_lt_of_cell? w _ hx325_2)).trans hx325_2
       replace p325 := eq_true p325
       replace q325 := eq_true q325
       go_wp2_with (first | ((with_reducible refine gate_dst (N := 5) rfl ?_); refine boxq_ (N := 5) (cs := #[.int .i64 0, .int .i64 0, .int .i64 0]) (t := 69) ?_; intro gb326 hg w10 hbox hb; replace HO_3 := am_ (Kd.R_below (rq_ HO_3.out) hb); have BK326 := am_ (hbox); have GW326 := gz_ hg; have GE326 := gz_ hg; replace HB := bs_ hb; clear hb hbox hg; have hcz11_0 := cq_ BK326.out 0 (.int .i64 0); have hcz11_1 := cq_ BK326.out 1 (.int .i64 0); have hcz11_2 := cq_ BK326.out 2 (.int .i64 0); have hfz11_0 := blk_frozen BK326.out 0; have hfz11_1 := blk_frozen BK326.out 1; have hfz11_2 := blk_frozen BK326.out 2))
       go_roundg k1
       case measure => have := HK1.out; omega
       case rel => exact ⟨(x3_1), (wrap64 (x8_1 + 1)), y53_, H', ⟨by have := HK1.out; omega⟩, ⟨rq_ (Kd.R_mono (Kd.R_far (p := ⟨gb326, 2, none⟩) (Kd.R_far (p := ⟨gb326, 1, none⟩) (Kd.R_far (p := ⟨gb326, 0, none⟩) (Kd.R_types HO_3.out BK326.out (by decide)) (fun _ hk => hk.2) (.int .i64 ((rd_T69 l0 x8_1).f0))) (fun _ hk => hk.2) (.int .i64 ((rd_T69 l0 x8_1).f1))) (fun _ hk => hk.2) (.int .i64 ((rd_T69 l0 x8_1).f2))) (fun _ hk => trivial))⟩, ⟨bq_⟩⟩
     ·rw [if_neg c4] at H
      exact absurd H (by simp)
    ·rw [if_neg c3] at H
     exact absurd H (by simp)
   ·rw [if_neg c2] at H
    have c2b0 : decide (x8_1 < (l0.length : Int)) = false := decide_eq_false c2
    clear c2
    obtain rfl := Option.some.inj H
    go_wp2
    go_ret
    exact ⟨_, by first | rfl | (simp [errW_none, errW_some] <;> rfl) | (simp [*, errW_none, errW_some] <;> rfl), rq_ HO_3.out, bq_⟩
def spec_InputsOf.f (k : Nat) (l0 : List (S69)) : Option (List Int × Bool) := (spec_GoodGates.f k l0).bind fun t330 => (if t330 = true then ((spec_l8Inputs.f k l0).bind fun t331 => (some (t331, true))) else (some (([] : List Int), false)))
set_option maxHeartbeats 8000000 in
set_option maxRecDepth 100000 in
theorem spec_InputsOf.calls (k : Nat) (A0 : Option Addr) (c0 : Nat) (l0 : List (S69)) (r1 : List Int) (r2 : Bool) (w : World) (hr0 : Kd.C k69 w A0 l0.length l0) (hc0 : l0.length ≤ c0) (h : spec_InputsOf.f k l0 = some (r1, r2)) :
  Calls Try.prog 51 #[.slice A0 l0.length c0] w fun e w' => ∃ v0_ : Value, e = .returned (.tuple #[v0_, .bool r2]) ∧ Kd.R (Kd.int .i64) 3 w' w.heap.size (fun _ => True) v0_ r1 ∧ Below w.heap.size w w' := by
 have HR0 := am_ hr0
 have HC0 := am_ hc0
 clear hr0 hc0
 have HB := am_ (Below.refl w.heap.size w)
 have H : ((spec_GoodGates.f k l0).bind fun t330 => (if t330 = true then ((spec_l8Inputs.f k l0).bind fun t331 => (some (t331, true))) else (some (([] : List Int), false)))) = some (r1, r2) := h
 clear h
 replace H := Option.bind_eq_some_iff.mp H
 obtain ⟨t330, A20, H⟩ := H
 replace H : (if t330 = true then ((spec_l8Inputs.f k l0).bind fun t331 => (some (t331, true))) else (some (([] : List Int), false))) = some (r1, r2) := H
 have A2 := am_ A20
 clear A20
 by_cases c3 : t330 = true
 ·subst c3
  have H1 : ((spec_l8Inputs.f k l0).bind fun t331 => (some (t331, true))) = some (r1, r2) := by rw [if_pos rfl] at H; exact H
  clear H
  have H := H1
  clear H1
  replace H := Option.bind_eq_some_iff.mp H
  obtain ⟨t331, A40, H⟩ := H
  replace H : (some (t331, true)) = some (r1, r2) := H
  have A4 := am_ A40
  clear A40
  simp only [Option.some.injEq, Prod.mk.injEq] at H
  obtain ⟨rfl, rfl⟩ := H
  go_enter Try.func51, Try.ntmps51
  go_wp2_with (first | ((with_reducible refine gl_ 41 rfl ?_); refine goesM_ (some 5) Try.func41 #[.slice A0 l0.length c0] ?_; (with_reducible refine (spec_GoodGates.calls k _ _ l0 true _ ?side1 ?side2 A2.out).mono ?_); (case side1 => exact cm_ HR0.out); (case side2 => exact HC0.out); rintro e w5 ⟨rfl, hb⟩; refine ⟨_, rfl, ?_⟩; replace HB := bs_ hb; (try clear hb)) | ((with_reducible refine gl_ 56 rfl ?_); refine goesM_ (some 8) Try.func56 #[.slice A0 l0.length c0] ?_; (with_reducible refine (spec_l8Inputs.calls k _ _ l0 t331 _ ?side1 ?side2 A4.out).mono ?_); (case side1 => exact cm_ (Kd.C_below HR0.out HB.out)); (case side2 => exact HC0.out); rintro e w6 ⟨v332, rfl, ho0, hb⟩; refine ⟨_, rfl, ?_⟩; have HO333 := am_ (Kd.R_lower ho0 (below_size (bq_))); replace HB := bs_ hb; (try clear hb); (try clear ho0)))
  go_ret2
  exact ⟨_, by first | rfl | (simp [errW_none, errW_some] <;> rfl) | (simp [*, errW_none, errW_some] <;> rfl), rq_ HO333.out, bq_⟩
 ·replace c3 := Bool.eq_false_iff.mpr c3
  subst c3
  have H1 : (some (([] : List Int), false)) = some (r1, r2) := by rw [if_neg (show ¬ (false = true) by decide)] at H; exact H
  clear H
  have H := H1
  clear H1
  simp only [Option.some.injEq, Prod.mk.injEq] at H
  obtain ⟨rfl, rfl⟩ := H
  go_enter Try.func51, Try.ntmps51
  go_wp2_with (first | ((with_reducible refine gl_ 41 rfl ?_); refine goesM_ (some 5) Try.func41 #[.slice A0 l0.length c0] ?_; (with_reducible refine (spec_GoodGates.calls k _ _ l0 false _ ?side1 ?side2 A2.out).mono ?_); (case side1 => exact cm_ HR0.out); (case side2 => exact HC0.out); rintro e w7 ⟨rfl, hb⟩; refine ⟨_, rfl, ?_⟩; replace HB := bs_ hb; (try clear hb)))
  go_ret2
  exact ⟨_, by first | rfl | (simp [errW_none, errW_some] <;> rfl) | (simp [*, errW_none, errW_some] <;> rfl), by first | exact Kd.R_nil _ _ _ _ _ | exact Kd.N_nil _ _ _ _ _ | exact Kd.V_nil _ _ _ _ _ | exact Kd.Q_nil _ _ _ _ _ | exact Kd.S_nil _ _ _ _ _, bq_⟩
def spec_l4Model.l0 : Nat → Int → List Bool → Int → Int → Option (List Bool)
 | 0, _, _, _, _ => none
 | k + 1, x1, x5, x10, x11 => if x11 < x10 then (if 0 ≤ (IntKind.u64.wrap (x11)) then (if 0 ≤ x11 then (if x11 < (x5.length : Int) then (spec_l4Model.l0 k x1 (x5.set (x11 : Int).toNat ((Go.bits .and .i64 (shr .i64 x1 (IntKind.u64.wrap (x11))) 1) == 1)) x10 (wrap64 (x11 + 1))) else (none)) else (none)) else (none)) else (some x5)
def spec_l4Model.f (k : Nat) (a0 : Int) (a1 : Int) : Option (List Bool) := if 0 ≤ a0 then (if (a0 : Int).toNat ≤ 281474976710656 then ((some (List.replicate (a0 : Int).toNat false : List Bool)).bind fun y334 => (spec_l4Model.l0 k a1 y334 (y334.length : Int) 0)) else (none)) else (none)
set_option maxHeartbeats 8000000 in
set_option maxRecDepth 100000 in
theorem spec_l4Model.calls (k : Nat) (a0 : Int) (a1 : Int) (r : List Bool) (w : World) (h : spec_l4Model.f k a0 a1 = some r) :
  Calls Try.prog 52 #[.int .i64 a0, .int .i64 a1] w fun e w' => ∃ v0_ : Value, e = .returned (v0_) ∧ Kd.R Kd.bool 4 w' w.heap.size (fun _ => True) v0_ r ∧ Below w.heap.size w w' := by
 have HB := am_ (Below.refl w.heap.size w)
 have H : (if 0 ≤ a0 then (if (a0 : Int).toNat ≤ 281474976710656 then ((some (List.replicate (a0 : Int).toNat false : List Bool)).bind fun y334 => (spec_l4Model.l0 k a1 y334 (y334.length : Int) 0)) else (none)) else (none)) = some r := h
 clear h
 by_cases c3 : 0 ≤ a0
 ·rw [if_pos c3] at H
  have c3b0 := eq_true c3
  have c3b1 : decide (0 ≤ a0) = true := decide_eq_true c3
  clear c3
  by_cases c4 : (a0 : Int).toNat ≤ 281474976710656
  ·rw [if_pos c4] at H
   have c4b0 := eq_true c4
   have c4b1 : decide ((a0 : Int).toNat ≤ 281474976710656) = true := decide_eq_true c4
   clear c4
   obtain ⟨y334, hy334⟩ : ∃ y_ : List Bool, y_ = (List.replicate (a0 : Int).toNat false) := ⟨_, rfl⟩
   replace H : (spec_l4Model.l0 k a1 y334 (y334.length : Int) 0) = some r := by first | (rw [hy334]; with_reducible exact H) | (have H2_ := (Option.bind_some _ _).symm.trans H; rw [hy334]; with_reducible exact H2_) | (have H2_ := (Option.bind_some _ _).symm.trans H; with_reducible exact H2_) | with_reducible exact H | (rw [hy334]; exact H) | exact H
   have Ny334 := am_ hy334
   clear hy334
   have H' := am_ H
   clear H
   go_enter Try.func52, Try.ntmps52
   go_wp2_with (first | ((with_reducible refine gate_dst (N := 8) rfl ?_); refine Kd.R_make Kd.bool _ 4 rfl (N := 8) rfl 37 _ _ rfl a0 rfl rfl Try.underlying37 (.bool false) 1 info4 rfl (by decide) (by omega) false (ok := fun _ => True) (okp := fun _ => True) rfl (fun _ hk => hk) trivial (od_) (Nat.le_trans (Nat.mul_le_mul_right _ (od_ : a0.toNat ≤ 281474976710656)) (by omega)) (Below.refl _ _) (Nat.le_refl _) ?_; intro v335 w5 ho6 hb hg_ hnew_; clear hg_ hnew_; (first | rw [← Ny334.out] at ho6 | (simp only [Int.reduceToNat] at ho6; rw [← Ny334.out] at ho6)); have HO336 := am_ (Kd.R_lower ho6 (below_size (bq_))); replace HB := bs_ hb; clear hb ho6; obtain ⟨Ao7, co7, eo7⟩ := Kd.R_slice HO336.out; subst eo7))
   go_loopg [11] k (fun kq v11 w' => ∃ (x5_1 : List Bool) (x11_1 : Int), v11 = .int .i64 x11_1 ∧ Aside0 (spec_l4Model.l0 kq a1 x5_1 (y334.length : Int) x11_1 = some r) ∧ Aside0 (kq ≤ k) ∧ Aside0 (Kd.R Kd.bool 4 w' w.heap.size (fun _ => True) (.slice Ao7 y334.length co7) x5_1) ∧ Aside0 (Below w.heap.size w w'))
   case atStart => exact ⟨(y334), (0), y53_, H', ⟨Nat.le_refl _⟩, ⟨rq_ HO336.out⟩, ⟨bq_⟩⟩
   case round =>
    clear H'
    try clear p2
    try clear c3
    try clear c3b0
    try clear c3b1
    try clear c4
    try clear c4b0
    try clear c4b1
    try clear c5
    obtain ⟨x5_1, x11_1, rfl, HA, HK1, HO_5, HB⟩ := hrel
    have hl5_1 := (Kd.R_reads' HO_5.out).1
    rw [hl5_1] at HO_5
    (try simp only [hl5_1])
    cases gk with
    | zero => exact absurd HA.out (by simp [spec_l4Model.l0])
    | succ k1 =>
     have H := HA.out
     clear HA
     simp only [spec_l4Model.l0] at H
     by_cases c8 : x11_1 < (y334.length : Int)
     ·rw [if_pos c8] at H
      have c8b0 : decide (x11_1 < (y334.length : Int)) = true := decide_eq_true c8
      (try (have c8hhl5_1 := c8b0; simp only [hl5_1] at c8hhl5_1))
      clear c8
      obtain ⟨ji9, hji9⟩ : ∃ j_ : Int, (IntKind.u64.wrap (x11_1)) = j_ := ⟨_, rfl⟩
      replace H : (if 0 ≤ (ji9) then (if 0 ≤ x11_1 then (if x11_1 < (x5_1.length : Int) then (spec_l4Model.l0 k1 a1 (x5_1.set (x11_1 : Int).toNat ((Go.bits .and .i64 (shr .i64 a1 (ji9)) 1) == 1)) (y334.length : Int) (wrap64 (x11_1 + 1))) else (none)) else (none)) else (none)) = some r := by first | (rw [hji9] at H; exact H) | (simp only [hji9] at H ⊢; exact H)
      by_cases c10 : 0 ≤ (ji9)
      ·rw [if_pos c10] at H
       have c10b0 := eq_true c10
       have c10b1 : decide (0 ≤ (ji9)) = true := decide_eq_true c10
       clear c10
       obtain ⟨ji11, hji11⟩ : ∃ j_ : Int, (shr .i64 a1 (ji9)) = j_ := ⟨_, rfl⟩
       replace H : (if 0 ≤ x11_1 then (if x11_1 < (x5_1.length : Int) then (spec_l4Model.l0 k1 a1 (x5_1.set (x11_1 : Int).toNat ((Go.bits .and .i64 (ji11) 1) == 1)) (y334.length : Int) (wrap64 (x11_1 + 1))) else (none)) else (none)) = some r := by first | (rw [hji11] at H; exact H) | (simp only [hji11] at H ⊢; exact H)
       have hji11_ : (a1 / 2 ^ min (ji9).toNat 64) = ji11 := hji11
       have hji11z : (ji9) ≤ 64 → (a1 / 2 ^ (ji9).toNat) = ji11 := shr_small hji11
       by_cases c12 : 0 ≤ x11_1
       ·rw [if_pos c12] at H
        have c12b0 : decide (0 ≤ x11_1) = true := decide_eq_true c12
        clear c12
        by_cases c13 : x11_1 < (x5_1.length : Int)
        ·rw [if_pos c13] at H
         have c13b0 : decide (x11_1 < (x5_1.length : Int)) = true := decide_eq_true c13
         (try (have c13hhl5_1 := c13b0; simp only [hl5_1] at c13hhl5_1))
         clear c13
         obtain ⟨y337, hy337⟩ : ∃ y_ : List Bool, y_ = (x5_1.set (x11_1 : Int).toNat ((Go.bits .and .i64 (ji11) 1) == 1)) := ⟨_, rfl⟩
         replace H : (spec_l4Model.l0 k1 a1 y337 (y334.length : Int) (wrap64 (x11_1 + 1))) = some r := by first | (rw [hy337]; with_reducible exact H) | (have H2_ := (Option.bind_some _ _).symm.trans H; rw [hy337]; with_reducible exact H2_) | (have H2_ := (Option.bind_some _ _).symm.trans H; with_reducible exact H2_) | with_reducible exact H | (rw [hy337]; exact H) | exact H
         have Ny337 := am_ hy337
         clear hy337
         have H' := am_ H
         clear H
         have p14 : 0 ≤ (x11_1 : Int) := od_
         have q14 : (x11_1 : Int) < ((x5_1.length : Int) : Int) := od_
         obtain ⟨go14, co14, eo14, gb14, gl14, cl14, HG14⟩ := Kd.R_form HO_5.out (by omega)
         (first | cases eo14 | (injection eo14 with ea_ en_ ec_; (first | subst ea_ | (injection ea_ with ea_; subst ea_)); subst ec_; clear en_))
         have GB14 := am_ gb14
         have GG14 := am_ HG14
         clear gb14 gl14 HG14
         obtain ⟨hx14_0, hf14_0⟩ := Kd.R_celln false HO_5.out (x11_1 : Int) p14 q14
         replace p14 := eq_true p14
         replace q14 := eq_true q14
         have HP15 := Kd.R_putg HO_5.out (x11_1 : Int) ((Go.bits .and .i64 (ji11) 1) == 1)
         go_wp2_with (first | ((with_reducible refine gate_store (t := 4) (p := 22) rfl ?_); refine store_event (t := 4) (p := 22) (v := ?vo_w16) (w1 := (wr.setCell ⟨go14, (x11_1 : Int).toNat, none⟩ (.bool ((Go.bits .and .i64 (ji11) 1) == 1)))) ?hg ?ho ?hn ?hr ?_; (case ho => rfl); (case hg => rfl); (case hn => rfl); (case hr => first | (go_simp; done) | (go_simp; rfl)); intro w16 hw; have hg : wr.grownBy w16 (some go14) := (by rw [hw]; exact HP15.2); have hp_ : Kd.R Kd.bool 4 w16 w.heap.size (fun _ => True) (.slice (some ⟨go14, 0, none⟩) x5_1.length co7) y337 := (by rw [hw, Ny337.out]; exact HP15.1); clear HP15; replace HO_5 := am_ (hp_); replace HB := am_ ((by rw [hw]; exact below_set (HB.out) GB14.out : Below w.heap.size w w16)); clear hg hw hp_))
         (try simp only [← hl5_1])
         go_roundg k1
         case measure => have := HK1.out; omega
         case rel => exact ⟨(y337), (wrap64 (x11_1 + 1)), y53_, H', ⟨by have := HK1.out; omega⟩, ⟨by (try simp only [hl5_1]); (with_reducible repeat (first | apply Kd.R_alloc | apply Kd.R_drewN | apply Kd.R_drew)); exact HO_5.out⟩, ⟨bq_⟩⟩
        ·rw [if_neg c13] at H
         exact absurd H (by simp)
       ·rw [if_neg c12] at H
        exact absurd H (by simp)
      ·rw [if_neg c10] at H
       exact absurd H (by simp)
     ·rw [if_neg c8] at H
      have c8b0 : decide (x11_1 < (y334.length : Int)) = false := decide_eq_false c8
      (try (have c8hhl5_1 := c8b0; simp only [hl5_1] at c8hhl5_1))
      clear c8
      obtain rfl := Option.some.inj H
      go_wp2
      go_ret
      exact ⟨_, by first | rfl | (simp [errW_none, errW_some] <;> rfl) | (simp [*, errW_none, errW_some] <;> rfl), rq_ HO_5.out, bq_⟩
  ·rw [if_neg c4] at H
   exact absurd H (by simp)
 ·rw [if_neg c3] at H
  exact absurd H (by simp)
def spec_DrawEvalGates.f (k : Nat) (l0 : List Int) : Option ((List (S69)) × List Bool) := (spec_l1Cur_gates.f k l0 0 0).bind fun bt339 => ((spec_InputsOf.f k bt339.1).bind fun bt344 => ((spec_l1Cur_pick.f l0 bt339.2.1 bt339.2.2 20).bind fun bt348 => ((spec_l1Cur_pick.f l0 bt348.2.1 bt348.2.2 256).bind fun bt351 => ((spec_l4Model.f k (wrap64 ((bt344.1.length : Int) + (wrap64 (Int.tdiv bt348.1 19)))) bt351.1).bind fun t354 => (some (bt339.1, t354))))))
set_option maxHeartbeats 8000000 in
set_option maxRecDepth 100000 in
theorem spec_DrawEvalGates.calls (k : Nat) (A0 : Option Addr) (c0 : Nat) (l0 : List Int) (r1 : List (S69)) (r2 : List Bool) (w : World) (hr0 : Kd.C (Kd.int .u8) w A0 l0.length l0) (hc0 : l0.length ≤ c0) (h : spec_DrawEvalGates.f k l0 = some (r1, r2)) :
  Calls Try.prog 18 #[.slice A0 l0.length c0] w fun e w' => ∃ v0_ v1_ : Value, e = .returned (.tuple #[v0_, v1_]) ∧ Kd.R k69 69 w' w.heap.size (fun _ => True) v0_ r1 ∧ Kd.R Kd.bool 4 w' w.heap.size (fun _ => True) v1_ r2 ∧ Below w.heap.size w w' := by
 have hu80 := Try.underlying80
 have HR0 := am_ hr0
 have HC0 := am_ hc0
 clear hr0 hc0
 have HB := am_ (Below.refl w.heap.size w)
 have H : ((spec_l1Cur_gates.f k l0 0 0).bind fun bt339 => ((spec_InputsOf.f k bt339.1).bind fun bt344 => ((spec_l1Cur_pick.f l0 bt339.2.1 bt339.2.2 20).bind fun bt348 => ((spec_l1Cur_pick.f l0 bt348.2.1 bt348.2.2 256).bind fun bt351 => ((spec_l4Model.f k (wrap64 ((bt344.1.length : Int) + (wrap64 (Int.tdiv bt348.1 19)))) bt351.1).bind fun t354 => (some (bt339.1, t354))))))) = some (r1, r2) := h
 clear h
 replace H := Option.bind_eq_some_iff.mp H
 obtain ⟨⟨t339, t342, t343⟩, A20, H⟩ := H
 replace H : ((spec_InputsOf.f k t339).bind fun bt344 => ((spec_l1Cur_pick.f l0 t342 t343 20).bind fun bt348 => ((spec_l1Cur_pick.f l0 bt348.2.1 bt348.2.2 256).bind fun bt351 => ((spec_l4Model.f k (wrap64 ((bt344.1.length : Int) + (wrap64 (Int.tdiv bt348.1 19)))) bt351.1).bind fun t354 => (some (t339, t354)))))) = some (r1, r2) := H
 have A2 := am_ A20
 clear A20
 replace H := Option.bind_eq_some_iff.mp H
 obtain ⟨⟨t344, t345⟩, A30, H⟩ := H
 replace H : ((spec_l1Cur_pick.f l0 t342 t343 20).bind fun bt348 => ((spec_l1Cur_pick.f l0 bt348.2.1 bt348.2.2 256).bind fun bt351 => ((spec_l4Model.f k (wrap64 ((t344.length : Int) + (wrap64 (Int.tdiv bt348.1 19)))) bt351.1).bind fun t354 => (some (t339, t354))))) = some (r1, r2) := H
 have A3 := am_ A30
 clear A30
 replace H := Option.bind_eq_some_iff.mp H
 obtain ⟨⟨t348, t349, t350⟩, A40, H⟩ := H
 replace H : ((spec_l1Cur_pick.f l0 t349 t350 256).bind fun bt351 => ((spec_l4Model.f k (wrap64 ((t344.length : Int) + (wrap64 (Int.tdiv t348 19)))) bt351.1).bind fun t354 => (some (t339, t354)))) = some (r1, r2) := H
 have A4 := am_ A40
 clear A40
 replace H := Option.bind_eq_some_iff.mp H
 obtain ⟨⟨t351, t352, t353⟩, A50, H⟩ := H
 replace H : ((spec_l4Model.f k (wrap64 ((t344.length : Int) + (wrap64 (Int.tdiv t348 19)))) t351).bind fun t354 => (some (t339, t354))) = some (r1, r2) := H
 have A5 := am_ A50
 clear A50
 replace H := Option.bind_eq_some_iff.mp H
 obtain ⟨t354, A60, H⟩ := H
 replace H : (some (t339, t354)) = some (r1, r2) := H
 have A6 := am_ A60
 clear A60
 simp only [Option.some.injEq, Prod.mk.injEq] at H
 obtain ⟨rfl, rfl⟩ := H
 go_enter Try.func18, Try.ntmps18
 go_wp2_with (first | ((with_reducible refine gate_dst (N := 10) rfl ?_); refine boxq_ (N := 10) (cs := #[.slice A0 l0.length c0, .int .i64 0, .int .u64 0]) (t := 80) ?_; intro gb338 hg w7 hbox hb; have HI338 := am_ ((show IsS80 w w7 gb338 l0 0 0 from ⟨_, _, hbox, (by rw [hg]; exact (below_size (bq_))), HR0.out⟩)); replace HB := bs_ hb; clear hb hbox hg) | ((with_reducible refine gl_ 50 rfl ?_); refine goesM_ (some 12) Try.func50 #[.pointer (some ⟨gb338, 0, none⟩)] ?_; (with_reducible refine (spec_l1Cur_gates.calls k gb338 l0 0 0 t339 t342 t343 w _ ?side1 ?side2 A2.out).mono ?_); (case side1 => repeat (first | (with_reducible first | exact HI338.out | apply IsS80.alloc | apply IsS80.drewN | apply IsS80.drew | apply IsS80.set_1 | apply IsS80.set_2) | exact HI338.out)); (case side2 => repeat (first | (with_reducible first | exact HB.out | apply below_alloc | apply pw_below_drewN | apply below_drew1 | refine below_set ?_ (IsS80.ge HI338.out)) | exact HB.out)); rintro e w8 ⟨v340, rfl, ho0, hi, hb, hk⟩; refine ⟨_, rfl, ?_⟩; have HO341 := am_ (Kd.R_lower ho0 (below_size y9_)); replace HB := am_ (hb); replace HI338 := am_ (hi); (try clear hb); (try clear hk); (try clear hi); (try clear ho0); obtain ⟨Ao9, co9, eo9⟩ := Kd.R_slice HO341.out; subst eo9) | ((with_reducible refine gl_ 51 rfl ?_); refine goesM_ (some 15) Try.func51 #[.slice Ao9 t339.length co9] ?_; (with_reducible refine (spec_InputsOf.calls k _ _ t339 t344 t345 _ ?side1 ?side2 A3.out).mono ?_); (case side1 => exact cm_ (Kd.R_reads' HO341.out).2.2); (case side2 => exact (Kd.R_reads' HO341.out).2.1); rintro e w10 ⟨v346, rfl, ho0, hb⟩; refine ⟨_, rfl, ?_⟩; replace HO341 := am_ (Kd.R_below (rq_ HO341.out) hb); have HO347 := am_ (Kd.R_lower ho0 (below_size y9_)); replace HB := am_ (below_step y9_ hb); replace HI338 := am_ (IsS80.below (by repeat (first | (with_reducible first | exact HI338.out | apply IsS80.alloc | apply IsS80.drewN | apply IsS80.drew | apply IsS80.set_1 | apply IsS80.set_2) | exact HI338.out)) hb); (try clear hb); (try clear hk); (try clear hi); (try clear ho0); obtain ⟨Ao11, co11, eo11⟩ := Kd.R_slice HO347.out; subst eo11) | ((with_reducible refine gl_ 53 rfl ?_); refine goesM_ (some 22) Try.func53 #[.pointer (some ⟨gb338, 0, none⟩), .int .i64 20] ?_; (with_reducible refine (spec_l1Cur_pick.calls gb338 l0 t342 t343 20 t348 t349 t350 w _ ?side1 ?side2 A4.out).mono ?_); (case side1 => repeat (first | (with_reducible first | exact HI338.out | apply IsS80.alloc | apply IsS80.drewN | apply IsS80.drew | apply IsS80.set_1 | apply IsS80.set_2) | exact HI338.out)); (case side2 => repeat (first | (with_reducible first | exact HB.out | apply below_alloc | apply pw_below_drewN | apply below_drew1 | refine below_set ?_ (IsS80.ge HI338.out)) | exact HB.out)); rintro e w12 ⟨rfl, hi, hb, hk⟩; refine ⟨_, rfl, ?_⟩; replace HO341 := am_ (Kd.R_mono (Kd.R_keep (IsS80.apart (show IsS80 w _ gb338 l0 t342 t343 from by repeat (first | (with_reducible first | exact HI338.out | apply IsS80.alloc | apply IsS80.drewN | apply IsS80.drew | apply IsS80.set_1 | apply IsS80.set_2) | exact HI338.out)) (rq_ HO341.out) (by decide)) hk (fun _ h => h.2)) (fun _ h => h.1)); replace HO347 := am_ (Kd.R_mono (Kd.R_keep (IsS80.apart (show IsS80 w _ gb338 l0 t342 t343 from by repeat (first | (with_reducible first | exact HI338.out | apply IsS80.alloc | apply IsS80.drewN | apply IsS80.drew | apply IsS80.set_1 | apply IsS80.set_2) | exact HI338.out)) (rq_ HO347.out) (by decide)) hk (fun _ h => h.2)) (fun _ h => h.1)); replace HB := am_ (hb); replace HI338 := am_ (hi); (try clear hb); (try clear hk); (try clear hi)) | ((with_reducible refine gl_ 53 rfl ?_); refine goesM_ (some 26) Try.func53 #[.pointer (some ⟨gb338, 0, none⟩), .int .i64 256] ?_; (with_reducible refine (spec_l1Cur_pick.calls gb338 l0 t349 t350 256 t351 t352 t353 w _ ?side1 ?side2 A5.out).mono ?_); (case side1 => repeat (first | (with_reducible first | exact HI338.out | apply IsS80.alloc | apply IsS80.drewN | apply IsS80.drew | apply IsS80.set_1 | apply IsS80.set_2) | exact HI338.out)); (case side2 => repeat (first | (with_reducible first | exact HB.out | apply below_alloc | apply pw_below_drewN | apply below_drew1 | refine below_set ?_ (IsS80.ge HI338.out)) | exact HB.out)); rintro e w13 ⟨rfl, hi, hb, hk⟩; refine ⟨_, rfl, ?_⟩; replace HO341 := am_ (Kd.R_mono (Kd.R_keep (IsS80.apart (show IsS80 w _ gb338 l0 t349 t350 from by repeat (first | (with_reducible first | exact HI338.out | apply IsS80.alloc | apply IsS80.drewN | apply IsS80.drew | apply IsS80.set_1 | apply IsS80.set_2) | exact HI338.out)) (rq_ HO341.out) (by decide)) hk (fun _ h => h.2)) (fun _ h => h.1)); replace HO347 := am_ (Kd.R_mono (Kd.R_keep (IsS80.apart (show IsS80 w _ gb338 l0 t349 t350 from by repeat (first | (with_reducible first | exact HI338.out | apply IsS80.alloc | apply IsS80.drewN | apply IsS80.drew | apply IsS80.set_1 | apply IsS80.set_2) | exact HI338.out)) (rq_ HO347.out) (by decide)) hk (fun _ h => h.2)) (fun _ h => h.1)); replace HB := am_ (hb); replace HI338 := am_ (hi); (try clear hb); (try clear hk); (try clear hi)) | ((with_reducible refine gl_ 52 rfl ?_); refine goesM_ (some 27) Try.func52 #[.int .i64 (wrap64 ((t344.length : Int) + (wrap64 (Int.tdiv t348 19)))), .int .i64 t351] ?_; (with_reducible refine (spec_l4Model.calls k (wrap64 ((t344.length : Int) + (wrap64 (Int.tdiv t348 19)))) t351 t354 _ A6.out).mono ?_); rintro e w14 ⟨v355, rfl, ho0, hb⟩; refine ⟨_, rfl, ?_⟩; replace HO341 := am_ (Kd.R_below (rq_ HO341.out) hb); replace HO347 := am_ (Kd.R_below (rq_ HO347.out) hb); have HO356 := am_ (Kd.R_lower ho0 (below_size y9_)); replace HB := am_ (below_step y9_ hb); replace HI338 := am_ (IsS80.below (by repeat (first | (with_reducible first | exact HI338.out | apply IsS80.alloc | apply IsS80.drewN | apply IsS80.drew | apply IsS80.set_1 | apply IsS80.set_2) | exact HI338.out)) hb); (try clear hb); (try clear hk); (try clear hi); (try clear ho0)))
 go_ret2
 exact ⟨_, _, by first | rfl | (simp [errW_none, errW_some] <;> rfl) | (simp [*, errW_none, errW_some] <;> rfl), rq_ HO341.out, rq_ HO356.out, by repeat (first | (with_reducible first | exact HB.out | apply below_alloc | apply pw_below_drewN | apply below_drew1 | refine below_set ?_ (IsS80.ge HI338.out)) | exact HB.out)⟩
end Go.Proofs.Ytgahidilhjijiaa.PGG

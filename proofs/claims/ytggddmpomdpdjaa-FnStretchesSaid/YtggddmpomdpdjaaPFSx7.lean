-- Made by myprint.py (this session's program, over the kit's print) for this claim. Lean checks it.
import Derived.Test.YtggddmpomdpdjaaPFSx0
import Derived.Test.YtggddmpomdpdjaaPFSx1
import Derived.Test.YtggddmpomdpdjaaPFSx2
import Derived.Test.YtggddmpomdpdjaaPFSx3
import Derived.Test.YtggddmpomdpdjaaPFSx4
import Derived.Test.YtggddmpomdpdjaaPFSx5
import Derived.Test.YtggddmpomdpdjaaPFSx6
namespace Go.Proofs.Ytggddmpomdpdjaa.PFS
open Go.RowKit Go.Proofs.YtggddmpomdpdjaaW.PrintWords Go.Proofs.YtggddmpomdpdjaaW.PrintLast Go.Proofs.YtggddmpomdpdjaaW.PrintMore
attribute [local go_sem] max2_int min2_int max_two min_two max_three min_three max_four min_four   -- for this text's walks alone
set_option linter.unusedVariables false
set_option linter.unusedSimpArgs false

attribute [local go_sem high] eqA40
/-! ### laws_FnStretches: function 9 -/
mutual
def laws_FnStretches.j0 : Nat → List Int → Int → Bool → Bool → Int → Int → Int → Int → Int → Int → Option (Bool)
  | 0, _, _, _, _, _, _, _, _, _, _ => none
  | k + 1, x1, x5, x9, x73, x318000, x318001, x319000, x319001, x323000, x323001 => if x73 = true then (some false) else (if x9 = true then ((impl_SizeOf.f x318000 x318001).bind fun bt329 => ((impl_SizeOf.f x319000 x319001).bind fun bt331 => ((impl_GoodStretch.f x323000 x323001).bind fun t333 => (if t333 = true then (if bt329.2 = true then (laws_FnStretches.j1 k x1 x5 bt329.1 bt331.1 (!bt331.2) x318000 x318001 x319000 x319001 x323000 x323001) else (laws_FnStretches.j1 k x1 x5 bt329.1 bt331.1 true x318000 x318001 x319000 x319001 x323000 x323001)) else (laws_FnStretches.j1 k x1 x5 bt329.1 bt331.1 true x318000 x318001 x319000 x319001 x323000 x323001))))) else (laws_FnStretches.j4 k x1))
def laws_FnStretches.j4 : Nat → List Int → Option (Bool)
  | 0, _ => none
  | k + 1, x1 => (spec_DrawInStretch.f k x1).bind fun bt340 => ((impl_InStretch.f bt340.1 bt340.2.1 bt340.2.2).bind fun bt344 => ((spec_InStretch.f bt340.1 bt340.2.1 bt340.2.2).bind fun bt346 => ((impl_SizeOf.f bt340.1 bt340.2.1).bind fun bt348 => ((spec_SizeOf.f bt340.1 bt340.2.1).bind fun bt350 => (if (bt344.2 == bt346.2) = true then (if (bt344.1 == bt346.1) = true then (if (bt348.2 == bt350.2) = true then (some (bt348.1 == bt350.1)) else (some false)) else (some false)) else (some false))))))
def laws_FnStretches.j1 : Nat → List Int → Int → Int → Int → Bool → Int → Int → Int → Int → Int → Int → Option (Bool)
  | 0, _, _, _, _, _, _, _, _, _, _, _ => none
  | k + 1, x1, x5, x12, x14, x95, x318000, x318001, x319000, x319001, x323000, x323001 => if x95 = true then (some false) else (laws_FnStretches.l0 k x1 x5 x12 x14 0 x318000 x318001 x319000 x319001 x323000 x323001)
def laws_FnStretches.l0 : Nat → List Int → Int → Int → Int → Int → Int → Int → Int → Int → Int → Int → Option (Bool)
  | 0, _, _, _, _, _, _, _, _, _, _, _ => none
  | k + 1, x1, x5, x12, x14, x16, x318000, x318001, x319000, x319001, x323000, x323001 => if x16 < 12 then ((laws_numberOf.f k x1).bind fun t334 => (if x12 = 0 then (none) else ((laws_numberOf.f k x1).bind fun t335 => (if x14 = 0 then (none) else (if x16 = 0 then (laws_FnStretches.j3 k x1 x5 x12 x14 x16 x318000 x319001 x318000 x318001 x319000 x319001 x323000 x323001) else (if x16 = 1 then (laws_FnStretches.j3 k x1 x5 x12 x14 x16 x318001 x319000 x318000 x318001 x319000 x319001 x323000 x323001) else (if x16 = 2 then (laws_FnStretches.j3 k x1 x5 x12 x14 x16 x318001 x319001 x318000 x318001 x319000 x319001 x323000 x323001) else (laws_FnStretches.j3 k x1 x5 x12 x14 x16 (wrap64 (x318000 + (Int.tmod (wrap64 (t334 + (wrap64 ((wrap64 (x16 * x16)) * 7919)))) x12))) (wrap64 (x319000 + (Int.tmod (wrap64 ((wrap64 (Int.tdiv t335 3)) + (wrap64 (x16 * 104729)))) x14))) x318000 x318001 x319000 x319001 x323000 x323001)))))))) else (laws_FnStretches.j4 k x1)
def laws_FnStretches.j3 : Nat → List Int → Int → Int → Int → Int → Int → Int → Int → Int → Int → Int → Int → Int → Option (Bool)
  | 0, _, _, _, _, _, _, _, _, _, _, _, _, _ => none
  | k + 1, x1, x5, x12, x14, x16, x17, x18, x318000, x318001, x319000, x319001, x323000, x323001 => (impl_DoOp.f x5 x17 x18).bind fun bt336 => ((impl_InStretch.f x323000 x323001 bt336.1).bind fun bt338 => (if bt336.2 = true then (if bt338.2 = true then (if bt338.1 = true then (laws_FnStretches.l0 k x1 x5 x12 x14 (wrap64 (x16 + 1)) x318000 x318001 x319000 x319001 x323000 x323001) else (some false)) else (some false)) else (some false)))
end
def laws_FnStretches.f (k : Nat) (l0 : List Int) (l1 : List Int) : Option (Bool) := if (wrap64 ((l0.length : Int) + (l1.length : Int))) > 1048576 then (some true) else ((spec_DrawDoStretch.f k l0).bind fun bt312 => ((impl_DoStretch.f k bt312.1 bt312.2.1 bt312.2.2.1 bt312.2.2.2.1 bt312.2.2.2.2).bind fun bt319 => ((spec_DoStretch.f k bt312.1 bt312.2.1 bt312.2.2.1 bt312.2.2.2.1 bt312.2.2.2.2).bind fun bt323 => (if (bt319.2.2 != bt323.2.2) = true then (laws_FnStretches.j0 k l1 bt312.1 bt319.2.2 true bt312.2.1 bt312.2.2.1 bt312.2.2.2.1 bt312.2.2.2.2 bt319.1 bt319.2.1) else (if (!(bt319.1 == bt323.1) || (!(bt319.2.1 == bt323.2.1))) = true then (laws_FnStretches.j0 k l1 bt312.1 bt319.2.2 true bt312.2.1 bt312.2.2.1 bt312.2.2.2.1 bt312.2.2.2.2 bt319.1 bt319.2.1) else ((impl_GoodStretch.f bt312.2.1 bt312.2.2.1).bind fun t327 => ((spec_GoodStretch.f bt312.2.1 bt312.2.2.1).bind fun t328 => (laws_FnStretches.j0 k l1 bt312.1 bt319.2.2 (t327 != t328) bt312.2.1 bt312.2.2.1 bt312.2.2.2.1 bt312.2.2.2.2 bt319.1 bt319.2.1))))))))
theorem laws_FnStretches.mono_l : ∀ k, (∀ y0 y1 y2 y3 y4 y5 y6 y7 y8 y9, LeO (laws_FnStretches.j0 k y0 y1 y2 y3 y4 y5 y6 y7 y8 y9) (laws_FnStretches.j0 (k + 1) y0 y1 y2 y3 y4 y5 y6 y7 y8 y9)) ∧ (∀ y0, LeO (laws_FnStretches.j4 k y0) (laws_FnStretches.j4 (k + 1) y0)) ∧ (∀ y0 y1 y2 y3 y4 y5 y6 y7 y8 y9 y10, LeO (laws_FnStretches.j1 k y0 y1 y2 y3 y4 y5 y6 y7 y8 y9 y10) (laws_FnStretches.j1 (k + 1) y0 y1 y2 y3 y4 y5 y6 y7 y8 y9 y10)) ∧ (∀ y0 y1 y2 y3 y4 y5 y6 y7 y8 y9 y10, LeO (laws_FnStretches.l0 k y0 y1 y2 y3 y4 y5 y6 y7 y8 y9 y10) (laws_FnStretches.l0 (k + 1) y0 y1 y2 y3 y4 y5 y6 y7 y8 y9 y10)) ∧ (∀ y0 y1 y2 y3 y4 y5 y6 y7 y8 y9 y10 y11 y12, LeO (laws_FnStretches.j3 k y0 y1 y2 y3 y4 y5 y6 y7 y8 y9 y10 y11 y12) (laws_FnStretches.j3 (k + 1) y0 y1 y2 y3 y4 y5 y6 y7 y8 y9 y10 y11 y12))
  | 0 => ⟨fun _ _ _ _ _ _ _ _ _ _ r h => by simp [laws_FnStretches.j0] at h, fun _ r h => by simp [laws_FnStretches.j4] at h, fun _ _ _ _ _ _ _ _ _ _ _ r h => by simp [laws_FnStretches.j1] at h, fun _ _ _ _ _ _ _ _ _ _ _ r h => by simp [laws_FnStretches.l0] at h, fun _ _ _ _ _ _ _ _ _ _ _ _ _ r h => by simp [laws_FnStretches.j3] at h⟩
  | k + 1 => by
    obtain ⟨ih0, ih1, ih2, ih3, ih4⟩ := laws_FnStretches.mono_l k
    refine ⟨?_, ?_, ?_, ?_, ?_⟩
    · intro y0 y1 y2 y3 y4 y5 y6 y7 y8 y9
      unfold laws_FnStretches.j0
      repeat' first
      | (with_reducible exact ih0 _ _ _ _ _ _ _ _ _ _)
      | (with_reducible exact ih1 _)
      | (with_reducible exact ih2 _ _ _ _ _ _ _ _ _ _ _)
      | (with_reducible exact ih3 _ _ _ _ _ _ _ _ _ _ _)
      | (with_reducible exact ih4 _ _ _ _ _ _ _ _ _ _ _ _ _)
      | (with_reducible exact impl_DoStretch.mono _ _ _ _ _ _)
      | (with_reducible exact laws_numberOf.mono _ _)
      | (with_reducible exact spec_DoStretch.mono _ _ _ _ _ _)
      | (with_reducible exact spec_DrawDoStretch.mono _ _)
      | (with_reducible exact spec_DrawInStretch.mono _ _)
      | (with_reducible exact LeO.refl _)
      | (with_reducible exact LeO.none _)
      | (with_reducible refine LeO.ite ?_ ?_)
      | (with_reducible refine LeO.bind ?_ (fun _ => ?_))
      | exact ih0 _ _ _ _ _ _ _ _ _ _
      | exact ih1 _
      | exact ih2 _ _ _ _ _ _ _ _ _ _ _
      | exact ih3 _ _ _ _ _ _ _ _ _ _ _
      | exact ih4 _ _ _ _ _ _ _ _ _ _ _ _ _
      | exact impl_DoStretch.mono _ _ _ _ _ _
      | exact laws_numberOf.mono _ _
      | exact spec_DoStretch.mono _ _ _ _ _ _
      | exact spec_DrawDoStretch.mono _ _
      | exact spec_DrawInStretch.mono _ _
      | exact LeO.none _
      | refine LeO.ite ?_ ?_
      | refine LeO.bind ?_ (fun _ => ?_)
    · intro y0
      unfold laws_FnStretches.j4
      repeat' first
      | (with_reducible exact ih0 _ _ _ _ _ _ _ _ _ _)
      | (with_reducible exact ih1 _)
      | (with_reducible exact ih2 _ _ _ _ _ _ _ _ _ _ _)
      | (with_reducible exact ih3 _ _ _ _ _ _ _ _ _ _ _)
      | (with_reducible exact ih4 _ _ _ _ _ _ _ _ _ _ _ _ _)
      | (with_reducible exact impl_DoStretch.mono _ _ _ _ _ _)
      | (with_reducible exact laws_numberOf.mono _ _)
      | (with_reducible exact spec_DoStretch.mono _ _ _ _ _ _)
      | (with_reducible exact spec_DrawDoStretch.mono _ _)
      | (with_reducible exact spec_DrawInStretch.mono _ _)
      | (with_reducible exact LeO.refl _)
      | (with_reducible exact LeO.none _)
      | (with_reducible refine LeO.ite ?_ ?_)
      | (with_reducible refine LeO.bind ?_ (fun _ => ?_))
      | exact ih0 _ _ _ _ _ _ _ _ _ _
      | exact ih1 _
      | exact ih2 _ _ _ _ _ _ _ _ _ _ _
      | exact ih3 _ _ _ _ _ _ _ _ _ _ _
      | exact ih4 _ _ _ _ _ _ _ _ _ _ _ _ _
      | exact impl_DoStretch.mono _ _ _ _ _ _
      | exact laws_numberOf.mono _ _
      | exact spec_DoStretch.mono _ _ _ _ _ _
      | exact spec_DrawDoStretch.mono _ _
      | exact spec_DrawInStretch.mono _ _
      | exact LeO.none _
      | refine LeO.ite ?_ ?_
      | refine LeO.bind ?_ (fun _ => ?_)
    · intro y0 y1 y2 y3 y4 y5 y6 y7 y8 y9 y10
      unfold laws_FnStretches.j1
      repeat' first
      | (with_reducible exact ih0 _ _ _ _ _ _ _ _ _ _)
      | (with_reducible exact ih1 _)
      | (with_reducible exact ih2 _ _ _ _ _ _ _ _ _ _ _)
      | (with_reducible exact ih3 _ _ _ _ _ _ _ _ _ _ _)
      | (with_reducible exact ih4 _ _ _ _ _ _ _ _ _ _ _ _ _)
      | (with_reducible exact impl_DoStretch.mono _ _ _ _ _ _)
      | (with_reducible exact laws_numberOf.mono _ _)
      | (with_reducible exact spec_DoStretch.mono _ _ _ _ _ _)
      | (with_reducible exact spec_DrawDoStretch.mono _ _)
      | (with_reducible exact spec_DrawInStretch.mono _ _)
      | (with_reducible exact LeO.refl _)
      | (with_reducible exact LeO.none _)
      | (with_reducible refine LeO.ite ?_ ?_)
      | (with_reducible refine LeO.bind ?_ (fun _ => ?_))
      | exact ih0 _ _ _ _ _ _ _ _ _ _
      | exact ih1 _
      | exact ih2 _ _ _ _ _ _ _ _ _ _ _
      | exact ih3 _ _ _ _ _ _ _ _ _ _ _
      | exact ih4 _ _ _ _ _ _ _ _ _ _ _ _ _
      | exact impl_DoStretch.mono _ _ _ _ _ _
      | exact laws_numberOf.mono _ _
      | exact spec_DoStretch.mono _ _ _ _ _ _
      | exact spec_DrawDoStretch.mono _ _
      | exact spec_DrawInStretch.mono _ _
      | exact LeO.none _
      | refine LeO.ite ?_ ?_
      | refine LeO.bind ?_ (fun _ => ?_)
    · intro y0 y1 y2 y3 y4 y5 y6 y7 y8 y9 y10
      unfold laws_FnStretches.l0
      repeat' first
      | (with_reducible exact ih0 _ _ _ _ _ _ _ _ _ _)
      | (with_reducible exact ih1 _)
      | (with_reducible exact ih2 _ _ _ _ _ _ _ _ _ _ _)
      | (with_reducible exact ih3 _ _ _ _ _ _ _ _ _ _ _)
      | (with_reducible exact ih4 _ _ _ _ _ _ _ _ _ _ _ _ _)
      | (with_reducible exact impl_DoStretch.mono _ _ _ _ _ _)
      | (with_reducible exact laws_numberOf.mono _ _)
      | (with_reducible exact spec_DoStretch.mono _ _ _ _ _ _)
      | (with_reducible exact spec_DrawDoStretch.mono _ _)
      | (with_reducible exact spec_DrawInStretch.mono _ _)
      | (with_reducible exact LeO.refl _)
      | (with_reducible exact LeO.none _)
      | (with_reducible refine LeO.ite ?_ ?_)
      | (with_reducible refine LeO.bind ?_ (fun _ => ?_))
      | exact ih0 _ _ _ _ _ _ _ _ _ _
      | exact ih1 _
      | exact ih2 _ _ _ _ _ _ _ _ _ _ _
      | exact ih3 _ _ _ _ _ _ _ _ _ _ _
      | exact ih4 _ _ _ _ _ _ _ _ _ _ _ _ _
      | exact impl_DoStretch.mono _ _ _ _ _ _
      | exact laws_numberOf.mono _ _
      | exact spec_DoStretch.mono _ _ _ _ _ _
      | exact spec_DrawDoStretch.mono _ _
      | exact spec_DrawInStretch.mono _ _
      | exact LeO.none _
      | refine LeO.ite ?_ ?_
      | refine LeO.bind ?_ (fun _ => ?_)
    · intro y0 y1 y2 y3 y4 y5 y6 y7 y8 y9 y10 y11 y12
      unfold laws_FnStretches.j3
      repeat' first
      | (with_reducible exact ih0 _ _ _ _ _ _ _ _ _ _)
      | (with_reducible exact ih1 _)
      | (with_reducible exact ih2 _ _ _ _ _ _ _ _ _ _ _)
      | (with_reducible exact ih3 _ _ _ _ _ _ _ _ _ _ _)
      | (with_reducible exact ih4 _ _ _ _ _ _ _ _ _ _ _ _ _)
      | (with_reducible exact impl_DoStretch.mono _ _ _ _ _ _)
      | (with_reducible exact laws_numberOf.mono _ _)
      | (with_reducible exact spec_DoStretch.mono _ _ _ _ _ _)
      | (with_reducible exact spec_DrawDoStretch.mono _ _)
      | (with_reducible exact spec_DrawInStretch.mono _ _)
      | (with_reducible exact LeO.refl _)
      | (with_reducible exact LeO.none _)
      | (with_reducible refine LeO.ite ?_ ?_)
      | (with_reducible refine LeO.bind ?_ (fun _ => ?_))
      | exact ih0 _ _ _ _ _ _ _ _ _ _
      | exact ih1 _
      | exact ih2 _ _ _ _ _ _ _ _ _ _ _
      | exact ih3 _ _ _ _ _ _ _ _ _ _ _
      | exact ih4 _ _ _ _ _ _ _ _ _ _ _ _ _
      | exact impl_DoStretch.mono _ _ _ _ _ _
      | exact laws_numberOf.mono _ _
      | exact spec_DoStretch.mono _ _ _ _ _ _
      | exact spec_DrawDoStretch.mono _ _
      | exact spec_DrawInStretch.mono _ _
      | exact LeO.none _
      | refine LeO.ite ?_ ?_
      | refine LeO.bind ?_ (fun _ => ?_)
theorem laws_FnStretches.mono : ∀ a0 a1 k, LeO (laws_FnStretches.f k a0 a1) (laws_FnStretches.f (k + 1) a0 a1) := by
  intro a0 a1 k
  obtain ⟨ih0, ih1, ih2, ih3, ih4⟩ := laws_FnStretches.mono_l k
  unfold laws_FnStretches.f
  repeat' first
      | (with_reducible exact ih0 _ _ _ _ _ _ _ _ _ _)
      | (with_reducible exact ih1 _)
      | (with_reducible exact ih2 _ _ _ _ _ _ _ _ _ _ _)
      | (with_reducible exact ih3 _ _ _ _ _ _ _ _ _ _ _)
      | (with_reducible exact ih4 _ _ _ _ _ _ _ _ _ _ _ _ _)
      | (with_reducible exact impl_DoStretch.mono _ _ _ _ _ _)
      | (with_reducible exact laws_numberOf.mono _ _)
      | (with_reducible exact spec_DoStretch.mono _ _ _ _ _ _)
      | (with_reducible exact spec_DrawDoStretch.mono _ _)
      | (with_reducible exact spec_DrawInStretch.mono _ _)
      | (with_reducible exact LeO.refl _)
      | (with_reducible exact LeO.none _)
      | (with_reducible refine LeO.ite ?_ ?_)
      | (with_reducible refine LeO.bind ?_ (fun _ => ?_))
      | exact ih0 _ _ _ _ _ _ _ _ _ _
      | exact ih1 _
      | exact ih2 _ _ _ _ _ _ _ _ _ _ _
      | exact ih3 _ _ _ _ _ _ _ _ _ _ _
      | exact ih4 _ _ _ _ _ _ _ _ _ _ _ _ _
      | exact impl_DoStretch.mono _ _ _ _ _ _
      | exact laws_numberOf.mono _ _
      | exact spec_DoStretch.mono _ _ _ _ _ _
      | exact spec_DrawDoStretch.mono _ _
      | exact spec_DrawInStretch.mono _ _
      | exact LeO.none _
      | refine LeO.ite ?_ ?_
      | refine LeO.bind ?_ (fun _ => ?_)
def laws_FnStretches.T6 : Bool × List (List Nat × List Nat) := (true, [([], []), ([], []), ([0, 1], [0, 1]), ([2], [2]), ([3], [3]), ([3], [3]), ([4, 5, 3], [3, 4, 5]), ([3, 6], [3, 6]), ([7, 3], [7]), ([8], [8]), ([9, 8, 8], [8, 9]), ([8], [8]), ([11, 10, 8], [8, 11]), ([10, 12, 8], [8, 10, 12]), ([8, 13], [8, 13])])
def laws_FnStretches.B6 : List Nat := [0, 0, 3, 7, 15, 15, 63, 127, 255, 511, 1023, 511, 4095, 8191, 16383]
theorem laws_FnStretches.tab6 : rtab .any (opsOf Try.f9 6) = laws_FnStretches.T6 := by kernel_rfl
theorem laws_FnStretches.bits6 : waitsOk laws_FnStretches.T6.2 laws_FnStretches.B6 = true := by kernel_rfl
def laws_FnStretches.T16 : Bool × List (List Nat × List Nat) := (true, [([], []), ([0], [0]), ([], []), ([2], [2]), ([], []), ([], []), ([4, 5], [4, 5]), ([6], [6]), ([3, 7], [3, 7]), ([], []), ([8, 9], [8, 9]), ([1, 10], [1, 10]), ([11, 3, 0, 1, 2, 3, 4, 5, 6, 7, 8, 9, 10, 11], [11])])
def laws_FnStretches.B16 : List Nat := [0, 1, 0, 4, 0, 0, 48, 112, 252, 0, 1020, 2047, 4095]
theorem laws_FnStretches.tab16 : rtab .any (opsOf Try.f9 16) = laws_FnStretches.T16 := by kernel_rfl
theorem laws_FnStretches.bits16 : waitsOk laws_FnStretches.T16.2 laws_FnStretches.B16 = true := by kernel_rfl
def laws_FnStretches.T17 : Bool × List (List Nat × List Nat) := (true, [([], []), ([0], [0]), ([], []), ([2], [2]), ([3], [3]), ([], []), ([5], [5]), ([4, 6], [4, 6]), ([], []), ([7, 8], [7, 8]), ([1, 9], [1, 9]), ([10, 3, 0, 1, 2, 3, 4, 5, 6, 7, 8, 9, 10], [10])])
def laws_FnStretches.B17 : List Nat := [0, 1, 0, 4, 12, 0, 32, 124, 0, 508, 1023, 2047]
theorem laws_FnStretches.tab17 : rtab .any (opsOf Try.f9 17) = laws_FnStretches.T17 := by kernel_rfl
theorem laws_FnStretches.bits17 : waitsOk laws_FnStretches.T17.2 laws_FnStretches.B17 = true := by kernel_rfl
theorem laws_FnStretches.j0_no_3 {k : Nat} {y0 : List Int} {y1 : Int} {y2 : Bool} {y4 : Int} {y5 : Int} {y6 : Int} {y7 : Int} {y8 : Int} {y9 : Int} (h : laws_FnStretches.j0 k y0 y1 y2 true y4 y5 y6 y7 y8 y9 = some true) : False := by
  cases k <;> simp [laws_FnStretches.j0] at h
theorem laws_FnStretches.j1_no_4 {k : Nat} {y0 : List Int} {y1 : Int} {y2 : Int} {y3 : Int} {y5 : Int} {y6 : Int} {y7 : Int} {y8 : Int} {y9 : Int} {y10 : Int} (h : laws_FnStretches.j1 k y0 y1 y2 y3 true y5 y6 y7 y8 y9 y10 = some true) : False := by
  cases k <;> simp [laws_FnStretches.j1] at h
set_option maxHeartbeats 8000000 in
set_option maxRecDepth 100000 in
theorem laws_FnStretches.calls (k : Nat) (A0 : Option Addr) (c0 : Nat) (l0 : List Int) (A1 : Option Addr) (c1 : Nat) (l1 : List Int) (r : Bool) (w : World) (hr0 : Kd.C (Kd.int .u8) w A0 l0.length l0) (hc0 : l0.length ≤ c0) (hr1 : Kd.C (Kd.int .u8) w A1 l1.length l1) (hc1 : l1.length ≤ c1) (hr_ : Aside0 (r = true)) (h : laws_FnStretches.f k l0 l1 = some r) :
    Calls Try.prog 9 #[.slice A0 l0.length c0, .slice A1 l1.length c1] w fun e w' => e = .returned (.bool r) ∧ Below w.heap.size w w' := by
  have hu40 := Try.underlying40
  have HR0 := Aside0.mk hr0
  have HC0 := Aside0.mk hc0
  clear hr0 hc0
  have HR1 := Aside0.mk hr1
  have HC1 := Aside0.mk hc1
  clear hr1 hc1
  have HB := Aside0.mk (Below.refl w.heap.size w)
  have H : (if (wrap64 ((l0.length : Int) + (l1.length : Int))) > 1048576 then (some true) else ((spec_DrawDoStretch.f k l0).bind fun bt312 => ((impl_DoStretch.f k bt312.1 bt312.2.1 bt312.2.2.1 bt312.2.2.2.1 bt312.2.2.2.2).bind fun bt319 => ((spec_DoStretch.f k bt312.1 bt312.2.1 bt312.2.2.1 bt312.2.2.2.1 bt312.2.2.2.2).bind fun bt323 => (if (bt319.2.2 != bt323.2.2) = true then (laws_FnStretches.j0 k l1 bt312.1 bt319.2.2 true bt312.2.1 bt312.2.2.1 bt312.2.2.2.1 bt312.2.2.2.2 bt319.1 bt319.2.1) else (if (!(bt319.1 == bt323.1) || (!(bt319.2.1 == bt323.2.1))) = true then (laws_FnStretches.j0 k l1 bt312.1 bt319.2.2 true bt312.2.1 bt312.2.2.1 bt312.2.2.2.1 bt312.2.2.2.2 bt319.1 bt319.2.1) else ((impl_GoodStretch.f bt312.2.1 bt312.2.2.1).bind fun t327 => ((spec_GoodStretch.f bt312.2.1 bt312.2.2.1).bind fun t328 => (laws_FnStretches.j0 k l1 bt312.1 bt319.2.2 (t327 != t328) bt312.2.1 bt312.2.2.1 bt312.2.2.2.1 bt312.2.2.2.2 bt319.1 bt319.2.1))))))))) = some r := h
  clear h
  by_cases c3 : (wrap64 ((l0.length : Int) + (l1.length : Int))) > 1048576
  · rw [if_pos c3] at H
    have c3b0 : decide (1048576 < (wrap64 ((l0.length : Int) + (l1.length : Int)))) = true := decide_eq_true c3
    clear c3
    obtain rfl := Option.some.inj H
    go_enter Try.func9, Try.ntmps9
    go_wp2
    go_ret
    exact ⟨by first | rfl | (simp [errW_none, errW_some] <;> rfl) | (simp [*, errW_none, errW_some] <;> rfl), bq_⟩
  · rw [if_neg c3] at H
    have c3b0 : decide (1048576 < (wrap64 ((l0.length : Int) + (l1.length : Int)))) = false := decide_eq_false c3
    clear c3
    replace H := Option.bind_eq_some_iff.mp H
    obtain ⟨⟨t312, t313, t314, t315, t316⟩, A40, H⟩ := H
    replace H : ((impl_DoStretch.f k t312 t313 t314 t315 t316).bind fun bt319 => ((spec_DoStretch.f k t312 t313 t314 t315 t316).bind fun bt323 => (if (bt319.2.2 != bt323.2.2) = true then (laws_FnStretches.j0 k l1 t312 bt319.2.2 true t313 t314 t315 t316 bt319.1 bt319.2.1) else (if (!(bt319.1 == bt323.1) || (!(bt319.2.1 == bt323.2.1))) = true then (laws_FnStretches.j0 k l1 t312 bt319.2.2 true t313 t314 t315 t316 bt319.1 bt319.2.1) else ((impl_GoodStretch.f t313 t314).bind fun t327 => ((spec_GoodStretch.f t313 t314).bind fun t328 => (laws_FnStretches.j0 k l1 t312 bt319.2.2 (t327 != t328) t313 t314 t315 t316 bt319.1 bt319.2.1))))))) = some r := H
    have A4 := Aside0.mk A40
    clear A40
    replace H := Option.bind_eq_some_iff.mp H
    obtain ⟨⟨t319, t320, t321⟩, A50, H⟩ := H
    replace H : ((spec_DoStretch.f k t312 t313 t314 t315 t316).bind fun bt323 => (if (t321 != bt323.2.2) = true then (laws_FnStretches.j0 k l1 t312 t321 true t313 t314 t315 t316 t319 t320) else (if (!(t319 == bt323.1) || (!(t320 == bt323.2.1))) = true then (laws_FnStretches.j0 k l1 t312 t321 true t313 t314 t315 t316 t319 t320) else ((impl_GoodStretch.f t313 t314).bind fun t327 => ((spec_GoodStretch.f t313 t314).bind fun t328 => (laws_FnStretches.j0 k l1 t312 t321 (t327 != t328) t313 t314 t315 t316 t319 t320)))))) = some r := H
    have A5 := Aside0.mk A50
    clear A50
    replace H := Option.bind_eq_some_iff.mp H
    obtain ⟨⟨t323, t324, t325⟩, A60, H⟩ := H
    replace H : (if (t321 != t325) = true then (laws_FnStretches.j0 k l1 t312 t321 true t313 t314 t315 t316 t319 t320) else (if (!(t319 == t323) || (!(t320 == t324))) = true then (laws_FnStretches.j0 k l1 t312 t321 true t313 t314 t315 t316 t319 t320) else ((impl_GoodStretch.f t313 t314).bind fun t327 => ((spec_GoodStretch.f t313 t314).bind fun t328 => (laws_FnStretches.j0 k l1 t312 t321 (t327 != t328) t313 t314 t315 t316 t319 t320))))) = some r := H
    have A6 := Aside0.mk A60
    clear A60
    have HC7 := Aside0.mk H
    clear H
    go_enter Try.func9, Try.ntmps9
    go_upto_region 6 with (first | ((with_reducible refine gate_callee (f := 37) rfl ?_); refine goesL_ (some 41) rfl rfl Try.func37 (by kernel_rfl) rfl #[.slice A0 l0.length c0] rfl (by (try simp only [List.map_toArray, List.map_cons, List.map_nil]); first | done | rfl | (simp only [List.length_drop, List.length_take]; rfl)) ?_; (with_reducible refine (spec_DrawDoStretch.calls k _ _ l0 t312 t313 t314 t315 t316 _ ?side1 ?side2 A4.out).mono ?_); (case side1 => repeat (first | exact HR0.out | (with_reducible refine Kd.C_alloc ?_ _) | (with_reducible refine Kd.C_drewN ?_ _) | (with_reducible refine Kd.C_drew ?_))); (case side2 => exact HC0.out); rintro e w8 ⟨rfl, hb⟩; refine ⟨_, rfl, ?_⟩; have n0_ := Aside0.mk (below_step (bq_) hb); clear HB; have HB := n0_; clear n0_; (try clear hb); (try clear hb2); (try clear hk); (try clear hi)) | ((with_reducible refine gate_dst (N := 6) rfl ?_); refine boxq_ (N := 6) (cs := #[.int .i64 0, .int .i64 0]) (t := 40) ?_; intro gb317 hg w9 hbox hb; have n0_ := Aside0.mk (below_step (bq_) hb); have n1_ := Aside0.mk (hbox); have n2_ := Aside0.mk ((by rw [hg]; exact (below_size (bq_)) : w.heap.size ≤ gb317)); have n3_ := Aside0.mk ((by rw [hg]; exact (below_size (bq_)) : w.heap.size ≤ gb317)); clear HB; have HB := n0_; have BK317 := n1_; have GW317 := n2_; have GE317 := n3_; clear n0_ n1_ n2_ n3_; clear hb hbox hg) | ((with_reducible refine gate_dst (N := 7) rfl ?_); refine boxq_ (N := 7) (cs := #[.int .i64 0, .int .i64 0]) (t := 40) ?_; intro gb318 hg w10 hbox hb; have n0_ := Aside0.mk (blk_below (bk_ BK317.out) hb); have n1_ := Aside0.mk (below_step (bq_) hb); have n2_ := Aside0.mk (hbox); have n3_ := Aside0.mk ((by rw [hg]; exact (below_size (bq_)) : w.heap.size ≤ gb318)); have n4_ := Aside0.mk ((by rw [hg]; exact (below_size (bq_)) : w.heap.size ≤ gb318)); have n5_ := Aside0.mk ((by rw [hg]; exact Nat.ne_of_lt (blk_lt (bk_ BK317.out)) : gb317 ≠ gb318)); have n6_ := Aside0.mk ((by rw [hg]; exact Nat.ne_of_gt (blk_lt (bk_ BK317.out)) : gb318 ≠ gb317)); clear BK317; clear HB; have BK317 := n0_; have HB := n1_; have BK318 := n2_; have GW318 := n3_; have GE318 := n4_; have NB317_318 := n5_; have NB318_317 := n6_; clear n0_ n1_ n2_ n3_ n4_ n5_ n6_; clear hb hbox hg; have hnb11 := NB317_318.out; have hnc11 := NB318_317.out; have hcz12_0 := cq_ BK317.out 0 (.int .i64 0); have hcz12_1 := cq_ BK317.out 1 (.int .i64 0); have hfz12_0 := blk_frozen BK317.out 0; have hfz12_1 := blk_frozen BK317.out 1; have hcz13_0 := cq_ BK318.out 0 (.int .i64 0); have hcz13_1 := cq_ BK318.out 1 (.int .i64 0); have hfz13_0 := blk_frozen BK318.out 0; have hfz13_1 := blk_frozen BK318.out 1) | ((with_reducible refine gate_callee (f := 23) rfl ?_); refine goesL_ (some 49) rfl rfl Try.func23 (by kernel_rfl) rfl #[.int .i64 t312, .agg #[.int .i64 t313, .int .i64 t314], .agg #[.int .i64 t315, .int .i64 t316]] rfl (by (try simp only [List.map_toArray, List.map_cons, List.map_nil]); first | done | rfl | (simp only [List.length_drop, List.length_take]; rfl)) ?_; (with_reducible refine (impl_DoStretch.calls k t312 t313 t314 t315 t316 t319 t320 t321 _ A5.out).mono ?_); rintro e w14 ⟨rfl, hb⟩; refine ⟨_, rfl, ?_⟩; have n0_ := Aside0.mk (blk_below (g := gb317) (o := .cells #[.int .i64 t313, .int .i64 t314] 40 (0, 0)) (by (with_reducible repeat (first | refine blk_drewN ?_ _ | refine blk_drew ?_ | refine blk_alloc ?_ _)); refine blk_far ?_ NB317_318.out _; (with_reducible repeat (first | refine blk_drewN ?_ _ | refine blk_drew ?_ | refine blk_alloc ?_ _)); refine blk_far ?_ NB317_318.out _; (with_reducible repeat (first | refine blk_drewN ?_ _ | refine blk_drew ?_ | refine blk_alloc ?_ _)); refine blk_put (cs := #[.int .i64 t313, .int .i64 0]) ?_ 1 _ rfl; (with_reducible repeat (first | refine blk_drewN ?_ _ | refine blk_drew ?_ | refine blk_alloc ?_ _)); refine blk_put (cs := #[.int .i64 0, .int .i64 0]) ?_ 0 _ rfl; (with_reducible repeat (first | refine blk_drewN ?_ _ | refine blk_drew ?_ | refine blk_alloc ?_ _)); exact BK317.out) hb); have n1_ := Aside0.mk (blk_below (g := gb318) (o := .cells #[.int .i64 t315, .int .i64 t316] 40 (0, 0)) (by (with_reducible repeat (first | refine blk_drewN ?_ _ | refine blk_drew ?_ | refine blk_alloc ?_ _)); refine blk_put (cs := #[.int .i64 t315, .int .i64 0]) ?_ 1 _ rfl; (with_reducible repeat (first | refine blk_drewN ?_ _ | refine blk_drew ?_ | refine blk_alloc ?_ _)); refine blk_put (cs := #[.int .i64 0, .int .i64 0]) ?_ 0 _ rfl; (with_reducible repeat (first | refine blk_drewN ?_ _ | refine blk_drew ?_ | refine blk_alloc ?_ _)); refine blk_far ?_ NB318_317.out _; (with_reducible repeat (first | refine blk_drewN ?_ _ | refine blk_drew ?_ | refine blk_alloc ?_ _)); refine blk_far ?_ NB318_317.out _; (with_reducible repeat (first | refine blk_drewN ?_ _ | refine blk_drew ?_ | refine blk_alloc ?_ _)); exact BK318.out) hb); have n2_ := Aside0.mk (below_step (bq_) hb); clear BK317; clear BK318; clear HB; have BK317 := n0_; have BK318 := n1_; have HB := n2_; clear n0_ n1_ n2_; (try clear hb); (try clear hb2); (try clear hk); (try clear hi)) | ((with_reducible refine gate_dst (N := 8) rfl ?_); refine boxq_ (N := 8) (cs := #[.int .i64 0, .int .i64 0]) (t := 40) ?_; intro gb322 hg w15 hbox hb; have n0_ := Aside0.mk (blk_below (bk_ BK317.out) hb); have n1_ := Aside0.mk (blk_below (bk_ BK318.out) hb); have n2_ := Aside0.mk (below_step (bq_) hb); have n3_ := Aside0.mk (hbox); have n4_ := Aside0.mk ((by rw [hg]; exact (below_size (bq_)) : w.heap.size ≤ gb322)); have n5_ := Aside0.mk ((by rw [hg]; exact (below_size (bq_)) : w.heap.size ≤ gb322)); have n6_ := Aside0.mk ((by rw [hg]; exact Nat.ne_of_lt (blk_lt (bk_ BK317.out)) : gb317 ≠ gb322)); have n7_ := Aside0.mk ((by rw [hg]; exact Nat.ne_of_gt (blk_lt (bk_ BK317.out)) : gb322 ≠ gb317)); have n8_ := Aside0.mk ((by rw [hg]; exact Nat.ne_of_lt (blk_lt (bk_ BK318.out)) : gb318 ≠ gb322)); have n9_ := Aside0.mk ((by rw [hg]; exact Nat.ne_of_gt (blk_lt (bk_ BK318.out)) : gb322 ≠ gb318)); clear BK317; clear BK318; clear HB; have BK317 := n0_; have BK318 := n1_; have HB := n2_; have BK322 := n3_; have GW322 := n4_; have GE322 := n5_; have NB317_322 := n6_; have NB322_317 := n7_; have NB318_322 := n8_; have NB322_318 := n9_; clear n0_ n1_ n2_ n3_ n4_ n5_ n6_ n7_ n8_ n9_; clear hb hbox hg; have hnb16 := NB322_317.out; have hnc16 := NB317_322.out; have hnb17 := NB322_318.out; have hnc17 := NB318_322.out; have hcz18_0 := cq_ BK322.out 0 (.int .i64 0); have hcz18_1 := cq_ BK322.out 1 (.int .i64 0); have hfz18_0 := blk_frozen BK322.out 0; have hfz18_1 := blk_frozen BK322.out 1; have hcz19_0 := cq_ BK317.out 0 (.int .i64 t313); have hcz19_1 := cq_ BK317.out 1 (.int .i64 t314); have hfz19_0 := blk_frozen BK317.out 0; have hfz19_1 := blk_frozen BK317.out 1; have hcz20_0 := cq_ BK318.out 0 (.int .i64 t315); have hcz20_1 := cq_ BK318.out 1 (.int .i64 t316); have hfz20_0 := blk_frozen BK318.out 0; have hfz20_1 := blk_frozen BK318.out 1) | ((with_reducible refine gate_callee (f := 21) rfl ?_); refine goesL_ (some 56) rfl rfl Try.func21 (by kernel_rfl) rfl #[.int .i64 t312, .agg #[.int .i64 t313, .int .i64 t314], .agg #[.int .i64 t315, .int .i64 t316]] rfl (by (try simp only [List.map_toArray, List.map_cons, List.map_nil]); first | done | rfl | (simp only [List.length_drop, List.length_take]; rfl)) ?_; (with_reducible refine (spec_DoStretch.calls k t312 t313 t314 t315 t316 t323 t324 t325 _ A6.out).mono ?_); rintro e w21 ⟨rfl, hb⟩; refine ⟨_, rfl, ?_⟩; have n0_ := Aside0.mk (blk_below (g := gb317) (o := .cells #[.int .i64 t313, .int .i64 t314] 40 (0, 0)) (by (with_reducible repeat (first | refine blk_drewN ?_ _ | refine blk_drew ?_ | refine blk_alloc ?_ _)); refine blk_far ?_ NB317_322.out _; (with_reducible repeat (first | refine blk_drewN ?_ _ | refine blk_drew ?_ | refine blk_alloc ?_ _)); refine blk_far ?_ NB317_322.out _; (with_reducible repeat (first | refine blk_drewN ?_ _ | refine blk_drew ?_ | refine blk_alloc ?_ _)); exact BK317.out) hb); have n1_ := Aside0.mk (blk_below (g := gb318) (o := .cells #[.int .i64 t315, .int .i64 t316] 40 (0, 0)) (by (with_reducible repeat (first | refine blk_drewN ?_ _ | refine blk_drew ?_ | refine blk_alloc ?_ _)); refine blk_far ?_ NB318_322.out _; (with_reducible repeat (first | refine blk_drewN ?_ _ | refine blk_drew ?_ | refine blk_alloc ?_ _)); refine blk_far ?_ NB318_322.out _; (with_reducible repeat (first | refine blk_drewN ?_ _ | refine blk_drew ?_ | refine blk_alloc ?_ _)); exact BK318.out) hb); have n2_ := Aside0.mk (blk_below (g := gb322) (o := .cells #[.int .i64 t319, .int .i64 t320] 40 (0, 0)) (by (with_reducible repeat (first | refine blk_drewN ?_ _ | refine blk_drew ?_ | refine blk_alloc ?_ _)); refine blk_put (cs := #[.int .i64 t319, .int .i64 0]) ?_ 1 _ rfl; (with_reducible repeat (first | refine blk_drewN ?_ _ | refine blk_drew ?_ | refine blk_alloc ?_ _)); refine blk_put (cs := #[.int .i64 0, .int .i64 0]) ?_ 0 _ rfl; (with_reducible repeat (first | refine blk_drewN ?_ _ | refine blk_drew ?_ | refine blk_alloc ?_ _)); exact BK322.out) hb); have n3_ := Aside0.mk (below_step (bq_) hb); clear BK317; clear BK318; clear BK322; clear HB; have BK317 := n0_; have BK318 := n1_; have BK322 := n2_; have HB := n3_; clear n0_ n1_ n2_ n3_; (try clear hb); (try clear hb2); (try clear hk); (try clear hi)) | ((with_reducible refine gate_dst (N := 10) rfl ?_); refine boxq_ (N := 10) (cs := #[.int .i64 0, .int .i64 0]) (t := 40) ?_; intro gb326 hg w22 hbox hb; have n0_ := Aside0.mk (blk_below (bk_ BK317.out) hb); have n1_ := Aside0.mk (blk_below (bk_ BK318.out) hb); have n2_ := Aside0.mk (blk_below (bk_ BK322.out) hb); have n3_ := Aside0.mk (below_step (bq_) hb); have n4_ := Aside0.mk (hbox); have n5_ := Aside0.mk ((by rw [hg]; exact (below_size (bq_)) : w.heap.size ≤ gb326)); have n6_ := Aside0.mk ((by rw [hg]; exact (below_size (bq_)) : w.heap.size ≤ gb326)); have n7_ := Aside0.mk ((by rw [hg]; exact Nat.ne_of_lt (blk_lt (bk_ BK317.out)) : gb317 ≠ gb326)); have n8_ := Aside0.mk ((by rw [hg]; exact Nat.ne_of_gt (blk_lt (bk_ BK317.out)) : gb326 ≠ gb317)); have n9_ := Aside0.mk ((by rw [hg]; exact Nat.ne_of_lt (blk_lt (bk_ BK318.out)) : gb318 ≠ gb326)); have n10_ := Aside0.mk ((by rw [hg]; exact Nat.ne_of_gt (blk_lt (bk_ BK318.out)) : gb326 ≠ gb318)); have n11_ := Aside0.mk ((by rw [hg]; exact Nat.ne_of_lt (blk_lt (bk_ BK322.out)) : gb322 ≠ gb326)); have n12_ := Aside0.mk ((by rw [hg]; exact Nat.ne_of_gt (blk_lt (bk_ BK322.out)) : gb326 ≠ gb322)); clear BK317; clear BK318; clear BK322; clear HB; have BK317 := n0_; have BK318 := n1_; have BK322 := n2_; have HB := n3_; have BK326 := n4_; have GW326 := n5_; have GE326 := n6_; have NB317_326 := n7_; have NB326_317 := n8_; have NB318_326 := n9_; have NB326_318 := n10_; have NB322_326 := n11_; have NB326_322 := n12_; clear n0_ n1_ n2_ n3_ n4_ n5_ n6_ n7_ n8_ n9_ n10_ n11_ n12_; clear hb hbox hg; have hnb23 := NB326_317.out; have hnc23 := NB317_326.out; have hnb24 := NB326_318.out; have hnc24 := NB318_326.out; have hnb25 := NB326_322.out; have hnc25 := NB322_326.out; have hcz26_0 := cq_ BK326.out 0 (.int .i64 0); have hcz26_1 := cq_ BK326.out 1 (.int .i64 0); have hfz26_0 := blk_frozen BK326.out 0; have hfz26_1 := blk_frozen BK326.out 1))
    (try simp only [Act.put, List.setIfInBounds_toArray, List.set_cons_zero, List.set_cons_succ])
    go_cut [73] (fun v73 wc => ∃ (kq : Nat) (x73_6 : Bool), v73 = .bool x73_6 ∧ Aside0 (laws_FnStretches.j0 kq l1 t312 t321 x73_6 t313 t314 t315 t316 t319 t320 = some r) ∧ Aside0 (kq ≤ k) ∧ Aside0 (wc.heap[gb317]? = some (.cells #[.int .i64 t313, .int .i64 t314] 40 (0, 0))) ∧ Aside0 (wc.heap[gb318]? = some (.cells #[.int .i64 t315, .int .i64 t316] 40 (0, 0))) ∧ Aside0 (wc.heap[gb322]? = some (.cells #[.int .i64 t319, .int .i64 t320] 40 (0, 0))) ∧ Aside0 (wc.heap[gb326]? = some (.cells #[.int .i64 t323, .int .i64 t324] 40 (0, 0))) ∧ Aside0 (Below w.heap.size w wc))
    case first =>
      have H := HC7.out
      clear HC7
      by_cases c27 : (t321 != t325) = true
      · rw [if_pos c27] at H
        have c27b0 : (t321 != t325) = true := c27
        (try (have c27b1 : decide (t321 = t325) = false := by simpa using c27))
        (try (have c27b2 : (t321 == t325) = false := by simpa using c27))
        (try (have c27b3 : ¬ (t321 = t325) := by simpa using c27))
        clear c27
        (first | rw [c27b0] | (simp only [i64_w, i32_w]; rw [c27b0]) | skip)
        exact (laws_FnStretches.j0_no_3 (by rw [hr_.out] at H; exact H)).elim
      · rw [if_neg c27] at H
        have c27b0 : (t321 != t325) = false := by simpa using c27
        (try (have c27b1 : decide (t321 = t325) = true := by simpa using c27))
        (try (have c27b2 : (t321 == t325) = true := by simpa using c27))
        clear c27
        (first | rw [c27b0] | (simp only [i64_w, i32_w]; rw [c27b0]) | skip)
        by_cases c28 : (!(t319 == t323) || (!(t320 == t324))) = true
        · rw [if_pos c28] at H
          have c28b0 : (!(t319 == t323) || (!(t320 == t324))) = true := c28
          clear c28
          exact (laws_FnStretches.j0_no_3 (by rw [hr_.out] at H; exact H)).elim
        · rw [if_neg c28] at H
          have c28b0 : (!(t319 == t323) || (!(t320 == t324))) = false := by simpa using c28
          clear c28
          replace H := Option.bind_eq_some_iff.mp H
          obtain ⟨t327, A290, H⟩ := H
          replace H : ((spec_GoodStretch.f t313 t314).bind fun t328 => (laws_FnStretches.j0 k l1 t312 t321 (t327 != t328) t313 t314 t315 t316 t319 t320)) = some r := H
          have A29 := Aside0.mk A290
          clear A290
          replace H := Option.bind_eq_some_iff.mp H
          obtain ⟨t328, A300, H⟩ := H
          replace H : (laws_FnStretches.j0 k l1 t312 t321 (t327 != t328) t313 t314 t315 t316 t319 t320) = some r := H
          have A30 := Aside0.mk A300
          clear A300
          have H' := Aside0.mk H
          clear H
          try go_wp2
          have n0_ : Aside0 (((w22.setCell ⟨gb326, 0, none⟩ (.int .i64 t323)).setCell ⟨gb326, 1, none⟩ (.int .i64 t324)).heap[gb317]? = some (.cells #[.int .i64 t313, .int .i64 t314] 40 (0, 0))) := ⟨by (with_reducible repeat (first | refine blk_drewN ?_ _ | refine blk_drew ?_ | refine blk_alloc ?_ _)); refine blk_far ?_ NB317_326.out _; (with_reducible repeat (first | refine blk_drewN ?_ _ | refine blk_drew ?_ | refine blk_alloc ?_ _)); refine blk_far ?_ NB317_326.out _; (with_reducible repeat (first | refine blk_drewN ?_ _ | refine blk_drew ?_ | refine blk_alloc ?_ _)); exact BK317.out⟩
          have n1_ : Aside0 (((w22.setCell ⟨gb326, 0, none⟩ (.int .i64 t323)).setCell ⟨gb326, 1, none⟩ (.int .i64 t324)).heap[gb318]? = some (.cells #[.int .i64 t315, .int .i64 t316] 40 (0, 0))) := ⟨by (with_reducible repeat (first | refine blk_drewN ?_ _ | refine blk_drew ?_ | refine blk_alloc ?_ _)); refine blk_far ?_ NB318_326.out _; (with_reducible repeat (first | refine blk_drewN ?_ _ | refine blk_drew ?_ | refine blk_alloc ?_ _)); refine blk_far ?_ NB318_326.out _; (with_reducible repeat (first | refine blk_drewN ?_ _ | refine blk_drew ?_ | refine blk_alloc ?_ _)); exact BK318.out⟩
          have n2_ : Aside0 (((w22.setCell ⟨gb326, 0, none⟩ (.int .i64 t323)).setCell ⟨gb326, 1, none⟩ (.int .i64 t324)).heap[gb322]? = some (.cells #[.int .i64 t319, .int .i64 t320] 40 (0, 0))) := ⟨by (with_reducible repeat (first | refine blk_drewN ?_ _ | refine blk_drew ?_ | refine blk_alloc ?_ _)); refine blk_far ?_ NB322_326.out _; (with_reducible repeat (first | refine blk_drewN ?_ _ | refine blk_drew ?_ | refine blk_alloc ?_ _)); refine blk_far ?_ NB322_326.out _; (with_reducible repeat (first | refine blk_drewN ?_ _ | refine blk_drew ?_ | refine blk_alloc ?_ _)); exact BK322.out⟩
          have n3_ : Aside0 (((w22.setCell ⟨gb326, 0, none⟩ (.int .i64 t323)).setCell ⟨gb326, 1, none⟩ (.int .i64 t324)).heap[gb326]? = some (.cells #[.int .i64 t323, .int .i64 t324] 40 (0, 0))) := ⟨by (with_reducible repeat (first | refine blk_drewN ?_ _ | refine blk_drew ?_ | refine blk_alloc ?_ _)); refine blk_put (cs := #[.int .i64 t323, .int .i64 0]) ?_ 1 _ rfl; (with_reducible repeat (first | refine blk_drewN ?_ _ | refine blk_drew ?_ | refine blk_alloc ?_ _)); refine blk_put (cs := #[.int .i64 0, .int .i64 0]) ?_ 0 _ rfl; (with_reducible repeat (first | refine blk_drewN ?_ _ | refine blk_drew ?_ | refine blk_alloc ?_ _)); exact BK326.out⟩
          have n4_ : Aside0 (Below w.heap.size w ((w22.setCell ⟨gb326, 0, none⟩ (.int .i64 t323)).setCell ⟨gb326, 1, none⟩ (.int .i64 t324))) := ⟨bq_⟩
          (try clear BK317)
          (try clear BK318)
          (try clear BK322)
          (try clear BK326)
          (try clear HB)
          generalize ((w22.setCell ⟨gb326, 0, none⟩ (.int .i64 t323)).setCell ⟨gb326, 1, none⟩ (.int .i64 t324)) = w31 at n0_ n1_ n2_ n3_ n4_ ⊢
          have BK317 := n0_
          have BK318 := n1_
          have BK322 := n2_
          have BK326 := n3_
          have HB := n4_
          clear n0_ n1_ n2_ n3_ n4_
          have n0_ := Aside0.mk (blk_drew BK317.out)
          have n1_ := Aside0.mk (blk_drew BK318.out)
          have n2_ := Aside0.mk (blk_drew BK322.out)
          have n3_ := Aside0.mk (blk_drew BK326.out)
          have n4_ := Aside0.mk (below_drew1 HB.out)
          clear BK317
          clear BK318
          clear BK322
          clear BK326
          clear HB
          have BK317 := n0_
          have BK318 := n1_
          have BK322 := n2_
          have BK326 := n3_
          have HB := n4_
          clear n0_ n1_ n2_ n3_ n4_
          refine start_ (n := 15) (S := fun w' => w'.cell? ⟨gb322, 0, none⟩ = some (.int .i64 t319) ∧ w'.cell? ⟨gb322, 1, none⟩ = some (.int .i64 t320) ∧ w'.cell? ⟨gb326, 0, none⟩ = some (.int .i64 t323) ∧ w'.cell? ⟨gb326, 1, none⟩ = some (.int .i64 t324) ∧ w'.cell? ⟨gb317, 0, none⟩ = some (.int .i64 t313) ∧ w'.cell? ⟨gb317, 1, none⟩ = some (.int .i64 t314)) (ds := []) #[false, false, false, false, false, false, false, false, false, false, false, false, false, false, false] (by kernel_rfl) rfl rfl ⟨(blk_cell BK322.out 0).trans rfl, (blk_cell BK322.out 1).trans rfl, (blk_cell BK326.out 0).trans rfl, (blk_cell BK326.out 1).trans rfl, (blk_cell BK317.out 0).trans rfl, (blk_cell BK317.out 1).trans rfl⟩ (fun hHeld => ?_); refine with_tabW laws_FnStretches.tab6 laws_FnStretches.bits6 (fun HT_ HW_ => ?_)
          generalize w31.drew = w32 at BK317 BK318 BK322 BK326 HB hHeld ⊢
          refine pure_ (i := 0) (N := some 59) (v := ?_) (a' := ?_) #[true, false, false, false, false, false, false, false, false, false, false, false, false, false, false] rfl rfl (any_of HT_.out (by kernel_rfl)) (fun _ _ _ h => h) (Or.inl ⟨by rfl, ?_⟩) ?_ ?_
          rotate_left
          · intro w'
            go_simp
            with_reducible rfl
          rotate_left
          · simp only [Act.put, List.setIfInBounds_toArray, List.set_cons_zero, List.set_cons_succ, i64_w, i32_w]
            rfl
          refine pure_ (i := 1) (N := some 60) (v := ?_) (a' := ?_) #[true, true, false, false, false, false, false, false, false, false, false, false, false, false, false] rfl rfl (any_of HT_.out (by kernel_rfl)) (fun _ _ _ h => h) (Or.inl ⟨by rfl, ?_⟩) ?_ ?_
          rotate_left
          · intro w'
            go_simp
            with_reducible rfl
          rotate_left
          · simp only [Act.put, List.setIfInBounds_toArray, List.set_cons_zero, List.set_cons_succ, i64_w, i32_w]
            rfl
          refine pure_ (i := 2) (N := some 61) (v := ?_) (a' := ?_) #[true, true, true, false, false, false, false, false, false, false, false, false, false, false, false] rfl rfl (any_of HT_.out (by kernel_rfl)) (fun _ _ _ h => h) (Or.inl ⟨by rfl, ?_⟩) ?_ ?_
          rotate_left
          · intro w'
            go_simp
            with_reducible rfl
          rotate_left
          · simp only [Act.put, List.setIfInBounds_toArray, List.set_cons_zero, List.set_cons_succ, i64_w, i32_w]
            rfl
          refine pure_ (i := 3) (N := some 62) (v := ?_) (a' := ?_) #[true, true, true, true, false, false, false, false, false, false, false, false, false, false, false] rfl rfl (any_of HT_.out (by kernel_rfl)) (fun _ _ _ h => h) (Or.inl ⟨by rfl, ?_⟩) ?_ ?_
          rotate_left
          · intro w'
            go_simp
            with_reducible rfl
          rotate_left
          · simp only [Act.put, List.setIfInBounds_toArray, List.set_cons_zero, List.set_cons_succ, i64_w, i32_w]
            rfl
          refine take_ (i := 4) (N := some 63) (v := ?_) (a' := ?_) #[true, true, true, true, true, false, false, false, false, false, false, false, false, false, false] rfl rfl (take_ofW HT_.out HW_.out (by kernel_rfl)) (fun _ _ _ h => h) (Or.inl ⟨by rfl, ?_⟩) hHeld ?_ ?_
          rotate_left
          · rintro w' ⟨s0, s1, s2, s3, s4, s5⟩
            go_simp
            with_reducible rfl
          rotate_left
          · simp only [Act.put, List.setIfInBounds_toArray, List.set_cons_zero, List.set_cons_succ, i64_w, i32_w]
            rfl
          refine take_ (i := 5) (N := some 64) (v := ?_) (a' := ?_) #[true, true, true, true, true, true, false, false, false, false, false, false, false, false, false] rfl rfl (take_ofW HT_.out HW_.out (by kernel_rfl)) (fun _ _ _ h => h) (Or.inl ⟨by rfl, ?_⟩) hHeld ?_ ?_
          rotate_left
          · rintro w' ⟨s0, s1, s2, s3, s4, s5⟩
            go_simp
            with_reducible rfl
          rotate_left
          · simp only [Act.put, List.setIfInBounds_toArray, List.set_cons_zero, List.set_cons_succ, i64_w, i32_w]
            rfl
          refine pure_ (i := 6) (N := some 65) (v := ?_) (a' := ?_) #[true, true, true, true, true, true, true, false, false, false, false, false, false, false, false] rfl rfl (any_of HT_.out (by kernel_rfl)) (fun _ _ _ h => h) (Or.inl ⟨by rfl, ?_⟩) ?_ ?_
          rotate_left
          · intro w'
            go_simp
            with_reducible rfl
          rotate_left
          · simp only [Act.put, List.setIfInBounds_toArray, List.set_cons_zero, List.set_cons_succ, i64_w, i32_w]
            rfl
          refine pure_ (i := 7) (N := some 66) (v := ?_) (a' := ?_) #[true, true, true, true, true, true, true, true, false, false, false, false, false, false, false] rfl rfl (any_of HT_.out (by kernel_rfl)) (fun _ _ _ h => h) (Or.inl ⟨by rfl, ?_⟩) ?_ ?_
          rotate_left
          · intro w'
            go_simp
            with_reducible rfl
          rotate_left
          · simp only [Act.put, List.setIfInBounds_toArray, List.set_cons_zero, List.set_cons_succ, i64_w, i32_w]
            rfl
          refine pure_ (i := 8) (N := some 67) (v := ?_) (a' := ?_) #[true, true, true, true, true, true, true, true, true, false, false, false, false, false, false] rfl rfl (any_of HT_.out (by kernel_rfl)) (fun _ _ _ h => h) (Or.inl ⟨by rfl, ?_⟩) ?_ ?_
          rotate_left
          · intro w'
            go_simp
            with_reducible rfl
          rotate_left
          · simp only [Act.put, List.setIfInBounds_toArray, List.set_cons_zero, List.set_cons_succ, i64_w, i32_w]
            rfl
          refine take_ (i := 9) (N := some 68) (v := ?_) (a' := ?_) #[true, true, true, true, true, true, true, true, true, true, false, false, false, false, false] rfl rfl (take_ofW HT_.out HW_.out (by kernel_rfl)) (fun _ _ _ h => h) (Or.inl ⟨by rfl, ?_⟩) hHeld ?_ ?_
          rotate_left
          · rintro w' ⟨s0, s1, s2, s3, s4, s5⟩
            go_simp
            with_reducible rfl
          rotate_left
          · simp only [Act.put, List.setIfInBounds_toArray, List.set_cons_zero, List.set_cons_succ, i64_w, i32_w]
            rfl
          refine take_ (i := 11) (N := some 70) (v := ?_) (a' := ?_) #[true, true, true, true, true, true, true, true, true, true, false, true, false, false, false] rfl rfl (take_ofW HT_.out HW_.out (by kernel_rfl)) (fun _ _ _ h => h) (Or.inl ⟨by rfl, ?_⟩) hHeld ?_ ?_
          rotate_left
          · rintro w' ⟨s0, s1, s2, s3, s4, s5⟩
            go_simp
            with_reducible rfl
          rotate_left
          · simp only [Act.put, List.setIfInBounds_toArray, List.set_cons_zero, List.set_cons_succ, i64_w, i32_w]
            rfl
          refine one_ (i := 10) (N := some 69) #[true, true, true, true, true, true, true, true, true, true, true, true, false, false, false] rfl rfl (one_of HT_.out (by kernel_rfl)) (by decide) (fun K hK => ?_)
          refine goes_ Try.func38 (by kernel_rfl) rfl #[.agg #[.int .i64 t313, .int .i64 t314]] (by rfl) rfl rfl (by (try simp only [List.map_toArray, List.map_cons, List.map_nil]); first | done | rfl | (simp only [List.length_drop, List.length_take]; rfl)) ?_
          with_reducible refine (impl_GoodStretch.calls t313 t314 t327 _ A29.out).mono ?_
          rintro e w33 ⟨rfl, hb⟩
          refine ⟨_, rfl, ?_⟩
          have n0_ := Aside0.mk (blk_below (bk_ BK317.out) hb)
          have n1_ := Aside0.mk (blk_below (bk_ BK318.out) hb)
          have n2_ := Aside0.mk (blk_below (bk_ BK322.out) hb)
          have n3_ := Aside0.mk (blk_below (bk_ BK326.out) hb)
          have n4_ := Aside0.mk (below_step (bq_) hb)
          clear BK317
          clear BK318
          clear BK322
          clear BK326
          clear HB
          have BK317 := n0_
          have BK318 := n1_
          have BK322 := n2_
          have BK326 := n3_
          have HB := n4_
          clear n0_ n1_ n2_ n3_ n4_
          (try clear hb)
          (try clear hb2)
          (try clear hk)
          (try clear hi)
          refine hK.out _ _ ⟨(blk_cell BK322.out 0).trans rfl, (blk_cell BK322.out 1).trans rfl, (blk_cell BK326.out 0).trans rfl, (blk_cell BK326.out 1).trans rfl, (blk_cell BK317.out 0).trans rfl, (blk_cell BK317.out 1).trans rfl⟩ (fun hHeld => ?_)
          clear hK K
          refine norm_ (a' := ?_) ?_ ?_
          rotate_left
          · show Act.put _ (some 69) _ = _
            simp only [Act.put, List.setIfInBounds_toArray, List.set_cons_zero, List.set_cons_succ, i64_w, i32_w]
            rfl
          refine one_ (i := 12) (N := some 71) #[true, true, true, true, true, true, true, true, true, true, true, true, true, false, false] rfl rfl (one_of HT_.out (by kernel_rfl)) (by decide) (fun K hK => ?_)
          refine goes_ Try.func39 (by kernel_rfl) rfl #[.agg #[.int .i64 t313, .int .i64 t314]] (by rfl) rfl rfl (by (try simp only [List.map_toArray, List.map_cons, List.map_nil]); first | done | rfl | (simp only [List.length_drop, List.length_take]; rfl)) ?_
          with_reducible refine (spec_GoodStretch.calls t313 t314 t328 _ A30.out).mono ?_
          rintro e w34 ⟨rfl, hb⟩
          refine ⟨_, rfl, ?_⟩
          have n0_ := Aside0.mk (blk_below (bk_ BK317.out) hb)
          have n1_ := Aside0.mk (blk_below (bk_ BK318.out) hb)
          have n2_ := Aside0.mk (blk_below (bk_ BK322.out) hb)
          have n3_ := Aside0.mk (blk_below (bk_ BK326.out) hb)
          have n4_ := Aside0.mk (below_step (bq_) hb)
          clear BK317
          clear BK318
          clear BK322
          clear BK326
          clear HB
          have BK317 := n0_
          have BK318 := n1_
          have BK322 := n2_
          have BK326 := n3_
          have HB := n4_
          clear n0_ n1_ n2_ n3_ n4_
          (try clear hb)
          (try clear hb2)
          (try clear hk)
          (try clear hi)
          refine hK.out _ _ ⟨(blk_cell BK322.out 0).trans rfl, (blk_cell BK322.out 1).trans rfl, (blk_cell BK326.out 0).trans rfl, (blk_cell BK326.out 1).trans rfl, (blk_cell BK317.out 0).trans rfl, (blk_cell BK317.out 1).trans rfl⟩ (fun hHeld => ?_)
          clear hK K
          refine norm_ (a' := ?_) ?_ ?_
          rotate_left
          · show Act.put _ (some 71) _ = _
            simp only [Act.put, List.setIfInBounds_toArray, List.set_cons_zero, List.set_cons_succ, i64_w, i32_w]
            rfl
          refine pure_ (i := 13) (N := some 72) (v := ?_) (a' := ?_) #[true, true, true, true, true, true, true, true, true, true, true, true, true, true, false] rfl rfl (any_of HT_.out (by kernel_rfl)) (fun _ _ _ h => h) (Or.inl ⟨by rfl, ?_⟩) ?_ ?_
          rotate_left
          · intro w'
            go_simp
            with_reducible rfl
          rotate_left
          · simp only [Act.put, List.setIfInBounds_toArray, List.set_cons_zero, List.set_cons_succ, i64_w, i32_w]
            rfl
          refine pure_ (i := 14) (N := some 73) (v := ?_) (a' := ?_) #[true, true, true, true, true, true, true, true, true, true, true, true, true, true, true] rfl rfl (any_of HT_.out (by kernel_rfl)) (fun _ _ _ h => h) (Or.inl ⟨by rfl, ?_⟩) ?_ ?_
          rotate_left
          · intro w'
            go_simp
            with_reducible rfl
          rotate_left
          · simp only [Act.put, List.setIfInBounds_toArray, List.set_cons_zero, List.set_cons_succ, i64_w, i32_w]
            rfl
          refine done_ (done_of HT_.out (by kernel_rfl)) ?_
          try go_wp2
          go_meet
          case rel => exact ⟨_, ((t327 != t328)), (by first | rfl | (simp; done) | (simp [*]; done)), H', ⟨by first | omega | exact Nat.le_refl _⟩, ⟨bk_ BK317.out⟩, ⟨bk_ BK318.out⟩, ⟨bk_ BK322.out⟩, ⟨bk_ BK326.out⟩, ⟨bq_⟩⟩
    case rest =>
      clear HC7
      try clear c1
      try clear c2
      try clear p2
      try clear c3
      try clear c3b0
      try clear p6
      try clear c9
      try clear c11
      try clear c16
      try clear c17
      try clear c21
      try clear c23
      try clear c24
      try clear c25
      try clear c27
      try clear c27b0
      try clear c27b1
      try clear c27b2
      try clear c28
      try clear c28b0
      try clear hcz12_0
      try clear hcz12_1
      try clear hcz13_0
      try clear hcz13_1
      try clear hcz18_0
      try clear hcz18_1
      try clear hcz19_0
      try clear hcz19_1
      try clear hcz20_0
      try clear hcz20_1
      try clear hcz26_0
      try clear hcz26_1
      try clear hfz12_0
      try clear hfz12_1
      try clear hfz13_0
      try clear hfz13_1
      try clear hfz18_0
      try clear hfz18_1
      try clear hfz19_0
      try clear hfz19_1
      try clear hfz20_0
      try clear hfz20_1
      try clear hfz26_0
      try clear hfz26_1
      obtain ⟨kq, x73_6, rfl, HA, HJ6, BK317, BK318, BK322, BK326, HB⟩ := hcut
      cases kq with
      | zero => exact absurd HA.out (by simp [laws_FnStretches.j0])
      | succ kj6 =>
        have H := HA.out
        clear HA
        simp only [laws_FnStretches.j0] at H
        by_cases c35 : x73_6 = true
        · subst c35
          have H1 : (some false) = some r := by rw [if_pos rfl] at H; exact H
          clear H
          have H := H1
          clear H1
          exact absurd (Option.some.inj H).symm (by rw [hr_.out]; simp)
        · replace c35 := Bool.eq_false_iff.mpr c35
          subst c35
          have H1 : (if t321 = true then ((impl_SizeOf.f t313 t314).bind fun bt329 => ((impl_SizeOf.f t315 t316).bind fun bt331 => ((impl_GoodStretch.f t319 t320).bind fun t333 => (if t333 = true then (if bt329.2 = true then (laws_FnStretches.j1 kj6 l1 t312 bt329.1 bt331.1 (!bt331.2) t313 t314 t315 t316 t319 t320) else (laws_FnStretches.j1 kj6 l1 t312 bt329.1 bt331.1 true t313 t314 t315 t316 t319 t320)) else (laws_FnStretches.j1 kj6 l1 t312 bt329.1 bt331.1 true t313 t314 t315 t316 t319 t320))))) else (laws_FnStretches.j4 kj6 l1)) = some r := by rw [if_neg (show ¬ (false = true) by decide)] at H; exact H
          clear H
          have H := H1
          clear H1
          have HC36 := Aside0.mk H
          clear H
          go_upto_if 74 with (fail)
          go_cut [] (fun wc => ∃ (kq : Nat), Aside0 (laws_FnStretches.j4 kq l1 = some r) ∧ Aside0 (kq ≤ kj6) ∧ Aside0 (wc.heap[gb317]? = some (.cells #[.int .i64 t313, .int .i64 t314] 40 (0, 0))) ∧ Aside0 (wc.heap[gb318]? = some (.cells #[.int .i64 t315, .int .i64 t316] 40 (0, 0))) ∧ Aside0 (wc.heap[gb322]? = some (.cells #[.int .i64 t319, .int .i64 t320] 40 (0, 0))) ∧ Aside0 (wc.heap[gb326]? = some (.cells #[.int .i64 t323, .int .i64 t324] 40 (0, 0))) ∧ Aside0 (Below w.heap.size w wc))
          case first =>
            have H := HC36.out
            clear HC36
            by_cases c37 : t321 = true
            · subst c37
              have H1 : ((impl_SizeOf.f t313 t314).bind fun bt329 => ((impl_SizeOf.f t315 t316).bind fun bt331 => ((impl_GoodStretch.f t319 t320).bind fun t333 => (if t333 = true then (if bt329.2 = true then (laws_FnStretches.j1 kj6 l1 t312 bt329.1 bt331.1 (!bt331.2) t313 t314 t315 t316 t319 t320) else (laws_FnStretches.j1 kj6 l1 t312 bt329.1 bt331.1 true t313 t314 t315 t316 t319 t320)) else (laws_FnStretches.j1 kj6 l1 t312 bt329.1 bt331.1 true t313 t314 t315 t316 t319 t320))))) = some r := by rw [if_pos rfl] at H; exact H
              clear H
              have H := H1
              clear H1
              replace H := Option.bind_eq_some_iff.mp H
              obtain ⟨⟨t329, t330⟩, A380, H⟩ := H
              replace H : ((impl_SizeOf.f t315 t316).bind fun bt331 => ((impl_GoodStretch.f t319 t320).bind fun t333 => (if t333 = true then (if t330 = true then (laws_FnStretches.j1 kj6 l1 t312 t329 bt331.1 (!bt331.2) t313 t314 t315 t316 t319 t320) else (laws_FnStretches.j1 kj6 l1 t312 t329 bt331.1 true t313 t314 t315 t316 t319 t320)) else (laws_FnStretches.j1 kj6 l1 t312 t329 bt331.1 true t313 t314 t315 t316 t319 t320)))) = some r := H
              have A38 := Aside0.mk A380
              clear A380
              replace H := Option.bind_eq_some_iff.mp H
              obtain ⟨⟨t331, t332⟩, A390, H⟩ := H
              replace H : ((impl_GoodStretch.f t319 t320).bind fun t333 => (if t333 = true then (if t330 = true then (laws_FnStretches.j1 kj6 l1 t312 t329 t331 (!t332) t313 t314 t315 t316 t319 t320) else (laws_FnStretches.j1 kj6 l1 t312 t329 t331 true t313 t314 t315 t316 t319 t320)) else (laws_FnStretches.j1 kj6 l1 t312 t329 t331 true t313 t314 t315 t316 t319 t320))) = some r := H
              have A39 := Aside0.mk A390
              clear A390
              have HC40 := Aside0.mk H
              clear H
              have hnb41 := NB317_318.out
              have hnc41 := NB318_317.out
              have hnb42 := NB317_322.out
              have hnc42 := NB322_317.out
              have hnb43 := NB317_326.out
              have hnc43 := NB326_317.out
              have hcz44_0 := cq_ BK317.out 0 (.int .i64 t313)
              have hcz44_1 := cq_ BK317.out 1 (.int .i64 t314)
              have hfz44_0 := blk_frozen BK317.out 0
              have hfz44_1 := blk_frozen BK317.out 1
              go_upto_region 11 with (first | ((with_reducible refine gate_callee (f := 40) rfl ?_); refine goesL_ (some 77) rfl rfl Try.func40 (by kernel_rfl) rfl #[.agg #[.int .i64 t313, .int .i64 t314]] rfl (by (try simp only [List.map_toArray, List.map_cons, List.map_nil]); first | done | rfl | (simp only [List.length_drop, List.length_take]; rfl)) ?_; (with_reducible refine (impl_SizeOf.calls t313 t314 t329 t330 _ A38.out).mono ?_); rintro e w45 ⟨rfl, hb⟩; refine ⟨_, rfl, ?_⟩; have n0_ := Aside0.mk (blk_below (bk_ BK317.out) hb); have n1_ := Aside0.mk (blk_below (bk_ BK318.out) hb); have n2_ := Aside0.mk (blk_below (bk_ BK322.out) hb); have n3_ := Aside0.mk (blk_below (bk_ BK326.out) hb); have n4_ := Aside0.mk (below_step (bq_) hb); clear BK317; clear BK318; clear BK322; clear BK326; clear HB; have BK317 := n0_; have BK318 := n1_; have BK322 := n2_; have BK326 := n3_; have HB := n4_; clear n0_ n1_ n2_ n3_ n4_; (try clear hb); (try clear hb2); (try clear hk); (try clear hi); have hnb46 := NB318_322.out; have hnc46 := NB322_318.out; have hnb47 := NB318_326.out; have hnc47 := NB326_318.out; have hcz48_0 := cq_ BK318.out 0 (.int .i64 t315); have hcz48_1 := cq_ BK318.out 1 (.int .i64 t316); have hfz48_0 := blk_frozen BK318.out 0; have hfz48_1 := blk_frozen BK318.out 1) | ((with_reducible refine gate_callee (f := 40) rfl ?_); refine goesL_ (some 82) rfl rfl Try.func40 (by kernel_rfl) rfl #[.agg #[.int .i64 t315, .int .i64 t316]] rfl (by (try simp only [List.map_toArray, List.map_cons, List.map_nil]); first | done | rfl | (simp only [List.length_drop, List.length_take]; rfl)) ?_; (with_reducible refine (impl_SizeOf.calls t315 t316 t331 t332 _ A39.out).mono ?_); rintro e w49 ⟨rfl, hb⟩; refine ⟨_, rfl, ?_⟩; have n0_ := Aside0.mk (blk_below (bk_ BK317.out) hb); have n1_ := Aside0.mk (blk_below (bk_ BK318.out) hb); have n2_ := Aside0.mk (blk_below (bk_ BK322.out) hb); have n3_ := Aside0.mk (blk_below (bk_ BK326.out) hb); have n4_ := Aside0.mk (below_step (bq_) hb); clear BK317; clear BK318; clear BK322; clear BK326; clear HB; have BK317 := n0_; have BK318 := n1_; have BK322 := n2_; have BK326 := n3_; have HB := n4_; clear n0_ n1_ n2_ n3_ n4_; (try clear hb); (try clear hb2); (try clear hk); (try clear hi)))
              (try simp only [Act.put, List.setIfInBounds_toArray, List.set_cons_zero, List.set_cons_succ])
              go_cut [95] (fun v95 wc => ∃ (kq : Nat) (x95_39 : Bool), v95 = .bool x95_39 ∧ Aside0 (laws_FnStretches.j1 kq l1 t312 t329 t331 x95_39 t313 t314 t315 t316 t319 t320 = some r) ∧ Aside0 (kq ≤ kj6) ∧ Aside0 (wc.heap[gb317]? = some (.cells #[.int .i64 t313, .int .i64 t314] 40 (0, 0))) ∧ Aside0 (wc.heap[gb318]? = some (.cells #[.int .i64 t315, .int .i64 t316] 40 (0, 0))) ∧ Aside0 (wc.heap[gb322]? = some (.cells #[.int .i64 t319, .int .i64 t320] 40 (0, 0))) ∧ Aside0 (wc.heap[gb326]? = some (.cells #[.int .i64 t323, .int .i64 t324] 40 (0, 0))) ∧ Aside0 (Below w.heap.size w wc))
              case first =>
                have H := HC40.out
                clear HC40
                replace H := Option.bind_eq_some_iff.mp H
                obtain ⟨t333, A500, H⟩ := H
                replace H : (if t333 = true then (if t330 = true then (laws_FnStretches.j1 kj6 l1 t312 t329 t331 (!t332) t313 t314 t315 t316 t319 t320) else (laws_FnStretches.j1 kj6 l1 t312 t329 t331 true t313 t314 t315 t316 t319 t320)) else (laws_FnStretches.j1 kj6 l1 t312 t329 t331 true t313 t314 t315 t316 t319 t320)) = some r := H
                have A50 := Aside0.mk A500
                clear A500
                by_cases c51 : t333 = true
                · subst c51
                  have H1 : (if t330 = true then (laws_FnStretches.j1 kj6 l1 t312 t329 t331 (!t332) t313 t314 t315 t316 t319 t320) else (laws_FnStretches.j1 kj6 l1 t312 t329 t331 true t313 t314 t315 t316 t319 t320)) = some r := by rw [if_pos rfl] at H; exact H
                  clear H
                  have H := H1
                  clear H1
                  by_cases c52 : t330 = true
                  · subst c52
                    have H1 : (laws_FnStretches.j1 kj6 l1 t312 t329 t331 (!t332) t313 t314 t315 t316 t319 t320) = some r := by rw [if_pos rfl] at H; exact H
                    clear H
                    have H := H1
                    clear H1
                    have H' := Aside0.mk H
                    clear H
                    have hnb53 := NB322_317.out
                    have hnc53 := NB317_322.out
                    have hnb54 := NB322_318.out
                    have hnc54 := NB318_322.out
                    have hnb55 := NB322_326.out
                    have hnc55 := NB326_322.out
                    have hcz56_0 := cq_ BK322.out 0 (.int .i64 t319)
                    have hcz56_1 := cq_ BK322.out 1 (.int .i64 t320)
                    have hfz56_0 := blk_frozen BK322.out 0
                    have hfz56_1 := blk_frozen BK322.out 1
                    go_wp2_with (first | ((with_reducible refine gate_callee (f := 38) rfl ?_); refine goesL_ (some 86) rfl rfl Try.func38 (by kernel_rfl) rfl #[.agg #[.int .i64 t319, .int .i64 t320]] rfl (by (try simp only [List.map_toArray, List.map_cons, List.map_nil]); first | done | rfl | (simp only [List.length_drop, List.length_take]; rfl)) ?_; (with_reducible refine (impl_GoodStretch.calls t319 t320 true _ A50.out).mono ?_); rintro e w57 ⟨rfl, hb⟩; refine ⟨_, rfl, ?_⟩; have n0_ := Aside0.mk (blk_below (bk_ BK317.out) hb); have n1_ := Aside0.mk (blk_below (bk_ BK318.out) hb); have n2_ := Aside0.mk (blk_below (bk_ BK322.out) hb); have n3_ := Aside0.mk (blk_below (bk_ BK326.out) hb); have n4_ := Aside0.mk (below_step (bq_) hb); clear BK317; clear BK318; clear BK322; clear BK326; clear HB; have BK317 := n0_; have BK318 := n1_; have BK322 := n2_; have BK326 := n3_; have HB := n4_; clear n0_ n1_ n2_ n3_ n4_; (try clear hb); (try clear hb2); (try clear hk); (try clear hi)))
                    go_meet
                    case rel => exact ⟨_, (!t332), (by first | rfl | (simp; done) | (simp [*]; done)), H', ⟨by have := HJ6.out; first | omega | exact Nat.le_refl _⟩, ⟨bk_ BK317.out⟩, ⟨bk_ BK318.out⟩, ⟨bk_ BK322.out⟩, ⟨bk_ BK326.out⟩, ⟨bq_⟩⟩
                  · replace c52 := Bool.eq_false_iff.mpr c52
                    subst c52
                    have H1 : (laws_FnStretches.j1 kj6 l1 t312 t329 t331 true t313 t314 t315 t316 t319 t320) = some r := by rw [if_neg (show ¬ (false = true) by decide)] at H; exact H
                    clear H
                    have H := H1
                    clear H1
                    exact (laws_FnStretches.j1_no_4 (by rw [hr_.out] at H; exact H)).elim
                · replace c51 := Bool.eq_false_iff.mpr c51
                  subst c51
                  have H1 : (laws_FnStretches.j1 kj6 l1 t312 t329 t331 true t313 t314 t315 t316 t319 t320) = some r := by rw [if_neg (show ¬ (false = true) by decide)] at H; exact H
                  clear H
                  have H := H1
                  clear H1
                  exact (laws_FnStretches.j1_no_4 (by rw [hr_.out] at H; exact H)).elim
              case rest =>
                clear HC40
                try clear c1
                try clear c2
                try clear p2
                try clear c3
                try clear c3b0
                try clear c4
                try clear c5
                try clear p6
                try clear c9
                try clear c11
                try clear c16
                try clear c17
                try clear c21
                try clear c23
                try clear c24
                try clear c25
                try clear c27
                try clear c27b0
                try clear c27b1
                try clear c27b2
                try clear c28
                try clear c28b0
                try clear c35
                try clear c37
                try clear c38
                try clear c39
                try clear c40
                try clear c41
                try clear c42
                try clear c43
                try clear c46
                try clear c47
                try clear c51
                try clear c52
                try clear c53
                try clear c54
                try clear c55
                try clear hcz12_0
                try clear hcz12_1
                try clear hcz13_0
                try clear hcz13_1
                try clear hcz18_0
                try clear hcz18_1
                try clear hcz19_0
                try clear hcz19_1
                try clear hcz20_0
                try clear hcz20_1
                try clear hcz26_0
                try clear hcz26_1
                try clear hcz44_0
                try clear hcz44_1
                try clear hcz48_0
                try clear hcz48_1
                try clear hcz56_0
                try clear hcz56_1
                try clear hfz12_0
                try clear hfz12_1
                try clear hfz13_0
                try clear hfz13_1
                try clear hfz18_0
                try clear hfz18_1
                try clear hfz19_0
                try clear hfz19_1
                try clear hfz20_0
                try clear hfz20_1
                try clear hfz26_0
                try clear hfz26_1
                try clear hfz44_0
                try clear hfz44_1
                try clear hfz48_0
                try clear hfz48_1
                try clear hfz56_0
                try clear hfz56_1
                try clear p2
                try clear p6
                obtain ⟨kq, x95_39, rfl, HA, HJ39, BK317, BK318, BK322, BK326, HB⟩ := hcut
                cases kq with
                | zero => exact absurd HA.out (by simp [laws_FnStretches.j1])
                | succ kj39 =>
                  have H := HA.out
                  clear HA
                  simp only [laws_FnStretches.j1] at H
                  by_cases c58 : x95_39 = true
                  · subst c58
                    have H1 : (some false) = some r := by rw [if_pos rfl] at H; exact H
                    clear H
                    have H := H1
                    clear H1
                    exact absurd (Option.some.inj H).symm (by rw [hr_.out]; simp)
                  · replace c58 := Bool.eq_false_iff.mpr c58
                    subst c58
                    have H1 : (laws_FnStretches.l0 kj39 l1 t312 t329 t331 0 t313 t314 t315 t316 t319 t320) = some r := by rw [if_neg (show ¬ (false = true) by decide)] at H; exact H
                    clear H
                    have H := H1
                    clear H1
                    have H' := Aside0.mk H
                    clear H
                    go_wp2
                    go_loopg [16] kj39 (fun kq v16 w' => ∃ (x16_3 : Int), v16 = .int .i64 x16_3 ∧ Aside0 (laws_FnStretches.l0 kq l1 t312 t329 t331 x16_3 t313 t314 t315 t316 t319 t320 = some r) ∧ Aside0 (kq ≤ kj39) ∧ Aside0 (w'.heap[gb317]? = some (.cells #[.int .i64 t313, .int .i64 t314] 40 (0, 0))) ∧ Aside0 (w'.heap[gb318]? = some (.cells #[.int .i64 t315, .int .i64 t316] 40 (0, 0))) ∧ Aside0 (w'.heap[gb322]? = some (.cells #[.int .i64 t319, .int .i64 t320] 40 (0, 0))) ∧ Aside0 (w'.heap[gb326]? = some (.cells #[.int .i64 t323, .int .i64 t324] 40 (0, 0))) ∧ Aside0 (Below w.heap.size w w'))
                    case atStart => exact ⟨(0), (by first | rfl | (simp; done) | (simp [*]; done)), H', ⟨Nat.le_refl _⟩, ⟨bk_ BK317.out⟩, ⟨bk_ BK318.out⟩, ⟨bk_ BK322.out⟩, ⟨bk_ BK326.out⟩, ⟨bq_⟩⟩
                    case round =>
                      clear H'
                      try clear c1
                      try clear c2
                      try clear p2
                      try clear c3
                      try clear c3b0
                      try clear c4
                      try clear c5
                      try clear p6
                      try clear c9
                      try clear c11
                      try clear c16
                      try clear c17
                      try clear c21
                      try clear c23
                      try clear c24
                      try clear c25
                      try clear c27
                      try clear c27b0
                      try clear c27b1
                      try clear c27b2
                      try clear c28
                      try clear c28b0
                      try clear c35
                      try clear c37
                      try clear c38
                      try clear c39
                      try clear c40
                      try clear c41
                      try clear c42
                      try clear c43
                      try clear c46
                      try clear c47
                      try clear c51
                      try clear c52
                      try clear c53
                      try clear c54
                      try clear c55
                      try clear c58
                      try clear hcz12_0
                      try clear hcz12_1
                      try clear hcz13_0
                      try clear hcz13_1
                      try clear hcz18_0
                      try clear hcz18_1
                      try clear hcz19_0
                      try clear hcz19_1
                      try clear hcz20_0
                      try clear hcz20_1
                      try clear hcz26_0
                      try clear hcz26_1
                      try clear hcz44_0
                      try clear hcz44_1
                      try clear hcz48_0
                      try clear hcz48_1
                      try clear hcz56_0
                      try clear hcz56_1
                      try clear hfz12_0
                      try clear hfz12_1
                      try clear hfz13_0
                      try clear hfz13_1
                      try clear hfz18_0
                      try clear hfz18_1
                      try clear hfz19_0
                      try clear hfz19_1
                      try clear hfz20_0
                      try clear hfz20_1
                      try clear hfz26_0
                      try clear hfz26_1
                      try clear hfz44_0
                      try clear hfz44_1
                      try clear hfz48_0
                      try clear hfz48_1
                      try clear hfz56_0
                      try clear hfz56_1
                      try clear p2
                      try clear p6
                      obtain ⟨x16_3, rfl, HA, HK3, BK317, BK318, BK322, BK326, HB⟩ := hrel
                      cases gk with
                      | zero => exact absurd HA.out (by simp [laws_FnStretches.l0])
                      | succ k3 =>
                        have H := HA.out
                        clear HA
                        simp only [laws_FnStretches.l0] at H
                        by_cases c59 : x16_3 < 12
                        · rw [if_pos c59] at H
                          have c59b0 : decide (x16_3 < 12) = true := decide_eq_true c59
                          clear c59
                          replace H := Option.bind_eq_some_iff.mp H
                          obtain ⟨t334, A600, H⟩ := H
                          replace H : (if t329 = 0 then (none) else ((laws_numberOf.f k3 l1).bind fun t335 => (if t331 = 0 then (none) else (if x16_3 = 0 then (laws_FnStretches.j3 k3 l1 t312 t329 t331 x16_3 t313 t316 t313 t314 t315 t316 t319 t320) else (if x16_3 = 1 then (laws_FnStretches.j3 k3 l1 t312 t329 t331 x16_3 t314 t315 t313 t314 t315 t316 t319 t320) else (if x16_3 = 2 then (laws_FnStretches.j3 k3 l1 t312 t329 t331 x16_3 t314 t316 t313 t314 t315 t316 t319 t320) else (laws_FnStretches.j3 k3 l1 t312 t329 t331 x16_3 (wrap64 (t313 + (Int.tmod (wrap64 (t334 + (wrap64 ((wrap64 (x16_3 * x16_3)) * 7919)))) t329))) (wrap64 (t315 + (Int.tmod (wrap64 ((wrap64 (Int.tdiv t335 3)) + (wrap64 (x16_3 * 104729)))) t331))) t313 t314 t315 t316 t319 t320))))))) = some r := H
                          have A60 := Aside0.mk A600
                          clear A600
                          by_cases c61 : t329 = 0
                          · rw [if_pos c61] at H
                            exact absurd H (by simp)
                          · rw [if_neg c61] at H
                            have c61b0 : (t329 == 0) = false := beq_eq_false_iff_ne.mpr c61
                            have c61b1 : (t329 != 0) = true := bne_iff_ne.mpr c61
                            replace H := Option.bind_eq_some_iff.mp H
                            obtain ⟨t335, A620, H⟩ := H
                            replace H : (if t331 = 0 then (none) else (if x16_3 = 0 then (laws_FnStretches.j3 k3 l1 t312 t329 t331 x16_3 t313 t316 t313 t314 t315 t316 t319 t320) else (if x16_3 = 1 then (laws_FnStretches.j3 k3 l1 t312 t329 t331 x16_3 t314 t315 t313 t314 t315 t316 t319 t320) else (if x16_3 = 2 then (laws_FnStretches.j3 k3 l1 t312 t329 t331 x16_3 t314 t316 t313 t314 t315 t316 t319 t320) else (laws_FnStretches.j3 k3 l1 t312 t329 t331 x16_3 (wrap64 (t313 + (Int.tmod (wrap64 (t334 + (wrap64 ((wrap64 (x16_3 * x16_3)) * 7919)))) t329))) (wrap64 (t315 + (Int.tmod (wrap64 ((wrap64 (Int.tdiv t335 3)) + (wrap64 (x16_3 * 104729)))) t331))) t313 t314 t315 t316 t319 t320))))) = some r := H
                            have A62 := Aside0.mk A620
                            clear A620
                            by_cases c63 : t331 = 0
                            · rw [if_pos c63] at H
                              exact absurd H (by simp)
                            · rw [if_neg c63] at H
                              have c63b0 : (t331 == 0) = false := beq_eq_false_iff_ne.mpr c63
                              have c63b1 : (t331 != 0) = true := bne_iff_ne.mpr c63
                              have HC64 := Aside0.mk H
                              clear H
                              try go_wp2
                              have n0_ := Aside0.mk (blk_drew BK317.out)
                              have n1_ := Aside0.mk (blk_drew BK318.out)
                              have n2_ := Aside0.mk (blk_drew BK322.out)
                              have n3_ := Aside0.mk (blk_drew BK326.out)
                              have n4_ := Aside0.mk (below_drew1 HB.out)
                              clear BK317
                              clear BK318
                              clear BK322
                              clear BK326
                              clear HB
                              have BK317 := n0_
                              have BK318 := n1_
                              have BK322 := n2_
                              have BK326 := n3_
                              have HB := n4_
                              clear n0_ n1_ n2_ n3_ n4_
                              refine start_ (n := 13) (S := fun w' => w'.cell? ⟨gb317, 0, none⟩ = some (.int .i64 t313) ∧ w'.cell? ⟨gb317, 1, none⟩ = some (.int .i64 t314)) (ds := []) #[false, false, false, false, false, false, false, false, false, false, false, false, false] (by kernel_rfl) rfl rfl ⟨(blk_cell BK317.out 0).trans rfl, (blk_cell BK317.out 1).trans rfl⟩ (fun hHeld => ?_); refine with_tabW laws_FnStretches.tab16 laws_FnStretches.bits16 (fun HT_ HW_ => ?_)
                              generalize wr.drew = w65 at BK317 BK318 BK322 BK326 HB hHeld ⊢
                              refine pure_ (i := 0) (N := some 100) (v := ?_) (a' := ?_) #[true, false, false, false, false, false, false, false, false, false, false, false, false] rfl rfl (any_of HT_.out (by kernel_rfl)) (fun _ _ _ h => h) (Or.inl ⟨by rfl, ?_⟩) ?_ ?_
                              rotate_left
                              · intro w'
                                go_simp
                                with_reducible rfl
                              rotate_left
                              · simp only [Act.put, List.setIfInBounds_toArray, List.set_cons_zero, List.set_cons_succ, i64_w, i32_w]
                                rfl
                              refine pure_ (i := 2) (N := some 102) (v := ?_) (a' := ?_) #[true, false, true, false, false, false, false, false, false, false, false, false, false] rfl rfl (any_of HT_.out (by kernel_rfl)) (fun _ _ _ h => h) (Or.inl ⟨by rfl, ?_⟩) ?_ ?_
                              rotate_left
                              · intro w'
                                go_simp
                                with_reducible rfl
                              rotate_left
                              · simp only [Act.put, List.setIfInBounds_toArray, List.set_cons_zero, List.set_cons_succ, i64_w, i32_w]
                                rfl
                              refine pure_ (i := 4) (N := some 104) (v := ?_) (a' := ?_) #[true, false, true, false, true, false, false, false, false, false, false, false, false] rfl rfl (any_of HT_.out (by kernel_rfl)) (fun _ _ _ h => h) (Or.inl ⟨by rfl, ?_⟩) ?_ ?_
                              rotate_left
                              · intro w'
                                go_simp
                                with_reducible rfl
                              rotate_left
                              · simp only [Act.put, List.setIfInBounds_toArray, List.set_cons_zero, List.set_cons_succ, i64_w, i32_w]
                                rfl
                              refine pure_ (i := 5) (N := some 105) (v := ?_) (a' := ?_) #[true, false, true, false, true, true, false, false, false, false, false, false, false] rfl rfl (any_of HT_.out (by kernel_rfl)) (fun _ _ _ h => h) (Or.inl ⟨by rfl, ?_⟩) ?_ ?_
                              rotate_left
                              · intro w'
                                go_simp
                                with_reducible rfl
                              rotate_left
                              · simp only [Act.put, List.setIfInBounds_toArray, List.set_cons_zero, List.set_cons_succ, i64_w, i32_w]
                                rfl
                              refine pure_ (i := 6) (N := some 106) (v := ?_) (a' := ?_) #[true, false, true, false, true, true, true, false, false, false, false, false, false] rfl rfl (any_of HT_.out (by kernel_rfl)) (fun _ _ _ h => h) (Or.inl ⟨by rfl, ?_⟩) ?_ ?_
                              rotate_left
                              · intro w'
                                go_simp
                                with_reducible rfl
                              rotate_left
                              · simp only [Act.put, List.setIfInBounds_toArray, List.set_cons_zero, List.set_cons_succ, i64_w, i32_w]
                                rfl
                              refine pure_ (i := 7) (N := some 107) (v := ?_) (a' := ?_) #[true, false, true, false, true, true, true, true, false, false, false, false, false] rfl rfl (any_of HT_.out (by kernel_rfl)) (fun _ _ _ h => h) (Or.inl ⟨by rfl, ?_⟩) ?_ ?_
                              rotate_left
                              · intro w'
                                go_simp
                                with_reducible rfl
                              rotate_left
                              · simp only [Act.put, List.setIfInBounds_toArray, List.set_cons_zero, List.set_cons_succ, i64_w, i32_w]
                                rfl
                              refine pure_ (i := 9) (N := some 109) (v := ?_) (a' := ?_) #[true, false, true, false, true, true, true, true, false, true, false, false, false] rfl rfl (any_of HT_.out (by kernel_rfl)) (fun _ _ _ h => h) (Or.inl ⟨by rfl, ?_⟩) ?_ ?_
                              rotate_left
                              · intro w'
                                go_simp
                                with_reducible rfl
                              rotate_left
                              · simp only [Act.put, List.setIfInBounds_toArray, List.set_cons_zero, List.set_cons_succ, i64_w, i32_w]
                                rfl
                              refine take_ (i := 1) (N := some 101) (v := ?_) (a' := ?_) #[true, true, true, false, true, true, true, true, false, true, false, false, false] rfl rfl (take_ofW HT_.out HW_.out (by kernel_rfl)) (fun _ _ _ h => h) (Or.inl ⟨by rfl, ?_⟩) hHeld ?_ ?_
                              rotate_left
                              · rintro w' ⟨s0, s1⟩
                                go_simp
                                with_reducible rfl
                              rotate_left
                              · simp only [Act.put, List.setIfInBounds_toArray, List.set_cons_zero, List.set_cons_succ, i64_w, i32_w]
                                rfl
                              refine one_ (i := 3) (N := some 103) #[true, true, true, true, true, true, true, true, false, true, false, false, false] rfl rfl (one_of HT_.out (by kernel_rfl)) (by decide) (fun K hK => ?_)
                              refine goes_ Try.func33 (by kernel_rfl) rfl #[.slice A1 l1.length c1] (by rfl) rfl rfl (by (try simp only [List.map_toArray, List.map_cons, List.map_nil]); first | done | rfl | (simp only [List.length_drop, List.length_take]; rfl)) ?_
                              with_reducible refine (laws_numberOf.calls k3 _ _ l1 t334 _ ?side1 ?side2 A60.out).mono ?_
                              (case side1 => repeat (first | exact (Kd.C_below HR1.out HB.out) | (with_reducible refine Kd.C_alloc ?_ _) | (with_reducible refine Kd.C_drewN ?_ _) | (with_reducible refine Kd.C_drew ?_)))
                              (case side2 => exact HC1.out)
                              rintro e w' ⟨rfl, ⟨nd, rfl⟩⟩
                              refine ⟨_, rfl, ?_⟩
                              refine hK.out _ _ ⟨(blk_cell BK317.out 0).trans rfl, (blk_cell BK317.out 1).trans rfl⟩ (fun hHeld => ?_)
                              clear hK K
                              refine norm_ (a' := ?_) ?_ ?_
                              rotate_left
                              · show Act.put _ (some 103) _ = _
                                simp only [Act.put, List.setIfInBounds_toArray, List.set_cons_zero, List.set_cons_succ, i64_w, i32_w]
                                rfl
                              refine pure_ (i := 8) (N := some 108) (v := ?_) (a' := ?_) #[true, true, true, true, true, true, true, true, true, true, false, false, false] rfl rfl (any_of HT_.out (by kernel_rfl)) (fun _ _ _ h => h) (Or.inl ⟨by rfl, ?_⟩) ?_ ?_
                              rotate_left
                              · intro w'
                                go_simp
                                with_reducible rfl
                              rotate_left
                              · simp only [Act.put, List.setIfInBounds_toArray, List.set_cons_zero, List.set_cons_succ, i64_w, i32_w]
                                rfl
                              refine pure_ (i := 10) (N := some 110) (v := ?_) (a' := ?_) #[true, true, true, true, true, true, true, true, true, true, true, false, false] rfl rfl (any_of HT_.out (by kernel_rfl)) (fun _ _ _ h => h) (Or.inl ⟨by rfl, ?_⟩) ?_ ?_
                              rotate_left
                              · intro w'
                                go_simp
                                with_reducible rfl
                              rotate_left
                              · simp only [Act.put, List.setIfInBounds_toArray, List.set_cons_zero, List.set_cons_succ, i64_w, i32_w]
                                rfl
                              refine pure_ (i := 11) (N := some 111) (v := ?_) (a' := ?_) #[true, true, true, true, true, true, true, true, true, true, true, true, false] rfl rfl (any_of HT_.out (by kernel_rfl)) (fun _ _ _ h => h) (Or.inl ⟨by rfl, ?_⟩) ?_ ?_
                              rotate_left
                              · intro w'
                                go_simp
                                with_reducible rfl
                              rotate_left
                              · simp only [Act.put, List.setIfInBounds_toArray, List.set_cons_zero, List.set_cons_succ, i64_w, i32_w]
                                rfl
                              refine pure_ (i := 12) (N := some 17) (v := ?_) (a' := ?_) #[true, true, true, true, true, true, true, true, true, true, true, true, true] rfl rfl (any_of HT_.out (by kernel_rfl)) (fun _ _ _ h => h) (Or.inl ⟨by rfl, ?_⟩) ?_ ?_
                              rotate_left
                              · intro w'
                                go_simp
                                with_reducible rfl
                              rotate_left
                              · simp only [Act.put, List.setIfInBounds_toArray, List.set_cons_zero, List.set_cons_succ, i64_w, i32_w]
                                rfl
                              refine done_ (done_of HT_.out (by kernel_rfl)) ?_
                              try go_wp2
                              (try (rw [drewN_self w65]; generalize hq_ : World.drewN w65 _ = w65; have n0_ : Aside0 (w65.heap[gb317]? = some (.cells #[.int .i64 t313, .int .i64 t314] 40 (0, 0))) := ⟨by rw [← hq_]; exact (bk_ BK317.out)⟩; have n1_ : Aside0 (w65.heap[gb318]? = some (.cells #[.int .i64 t315, .int .i64 t316] 40 (0, 0))) := ⟨by rw [← hq_]; exact (bk_ BK318.out)⟩; have n2_ : Aside0 (w65.heap[gb322]? = some (.cells #[.int .i64 t319, .int .i64 t320] 40 (0, 0))) := ⟨by rw [← hq_]; exact (bk_ BK322.out)⟩; have n3_ : Aside0 (w65.heap[gb326]? = some (.cells #[.int .i64 t323, .int .i64 t324] 40 (0, 0))) := ⟨by rw [← hq_]; exact (bk_ BK326.out)⟩; have n4_ : Aside0 (Below w.heap.size w w65) := ⟨by rw [← hq_]; exact (bq_)⟩; clear BK317 BK318 BK322 BK326 HB hq_; have BK317 := n0_; have BK318 := n1_; have BK322 := n2_; have BK326 := n3_; have HB := n4_; clear n0_ n1_ n2_ n3_ n4_))
                              have n0_ := Aside0.mk (blk_drew BK317.out)
                              have n1_ := Aside0.mk (blk_drew BK318.out)
                              have n2_ := Aside0.mk (blk_drew BK322.out)
                              have n3_ := Aside0.mk (blk_drew BK326.out)
                              have n4_ := Aside0.mk (below_drew1 HB.out)
                              clear BK317
                              clear BK318
                              clear BK322
                              clear BK326
                              clear HB
                              have BK317 := n0_
                              have BK318 := n1_
                              have BK322 := n2_
                              have BK326 := n3_
                              have HB := n4_
                              clear n0_ n1_ n2_ n3_ n4_
                              refine start_ (n := 12) (S := fun w' => w'.cell? ⟨gb318, 0, none⟩ = some (.int .i64 t315) ∧ w'.cell? ⟨gb318, 1, none⟩ = some (.int .i64 t316)) (ds := []) #[false, false, false, false, false, false, false, false, false, false, false, false] (by kernel_rfl) rfl rfl ⟨(blk_cell BK318.out 0).trans rfl, (blk_cell BK318.out 1).trans rfl⟩ (fun hHeld => ?_); refine with_tabW laws_FnStretches.tab17 laws_FnStretches.bits17 (fun HT_ HW_ => ?_)
                              generalize w65.drew = w66 at BK317 BK318 BK322 BK326 HB hHeld ⊢
                              refine pure_ (i := 0) (N := some 112) (v := ?_) (a' := ?_) #[true, false, false, false, false, false, false, false, false, false, false, false] rfl rfl (any_of HT_.out (by kernel_rfl)) (fun _ _ _ h => h) (Or.inl ⟨by rfl, ?_⟩) ?_ ?_
                              rotate_left
                              · intro w'
                                go_simp
                                with_reducible rfl
                              rotate_left
                              · simp only [Act.put, List.setIfInBounds_toArray, List.set_cons_zero, List.set_cons_succ, i64_w, i32_w]
                                rfl
                              refine pure_ (i := 2) (N := some 114) (v := ?_) (a' := ?_) #[true, false, true, false, false, false, false, false, false, false, false, false] rfl rfl (any_of HT_.out (by kernel_rfl)) (fun _ _ _ h => h) (Or.inl ⟨by rfl, ?_⟩) ?_ ?_
                              rotate_left
                              · intro w'
                                go_simp
                                with_reducible rfl
                              rotate_left
                              · simp only [Act.put, List.setIfInBounds_toArray, List.set_cons_zero, List.set_cons_succ, i64_w, i32_w]
                                rfl
                              refine pure_ (i := 5) (N := some 117) (v := ?_) (a' := ?_) #[true, false, true, false, false, true, false, false, false, false, false, false] rfl rfl (any_of HT_.out (by kernel_rfl)) (fun _ _ _ h => h) (Or.inl ⟨by rfl, ?_⟩) ?_ ?_
                              rotate_left
                              · intro w'
                                go_simp
                                with_reducible rfl
                              rotate_left
                              · simp only [Act.put, List.setIfInBounds_toArray, List.set_cons_zero, List.set_cons_succ, i64_w, i32_w]
                                rfl
                              refine pure_ (i := 6) (N := some 118) (v := ?_) (a' := ?_) #[true, false, true, false, false, true, true, false, false, false, false, false] rfl rfl (any_of HT_.out (by kernel_rfl)) (fun _ _ _ h => h) (Or.inl ⟨by rfl, ?_⟩) ?_ ?_
                              rotate_left
                              · intro w'
                                go_simp
                                with_reducible rfl
                              rotate_left
                              · simp only [Act.put, List.setIfInBounds_toArray, List.set_cons_zero, List.set_cons_succ, i64_w, i32_w]
                                rfl
                              refine pure_ (i := 8) (N := some 120) (v := ?_) (a' := ?_) #[true, false, true, false, false, true, true, false, true, false, false, false] rfl rfl (any_of HT_.out (by kernel_rfl)) (fun _ _ _ h => h) (Or.inl ⟨by rfl, ?_⟩) ?_ ?_
                              rotate_left
                              · intro w'
                                go_simp
                                with_reducible rfl
                              rotate_left
                              · simp only [Act.put, List.setIfInBounds_toArray, List.set_cons_zero, List.set_cons_succ, i64_w, i32_w]
                                rfl
                              refine take_ (i := 1) (N := some 113) (v := ?_) (a' := ?_) #[true, true, true, false, false, true, true, false, true, false, false, false] rfl rfl (take_ofW HT_.out HW_.out (by kernel_rfl)) (fun _ _ _ h => h) (Or.inl ⟨by rfl, ?_⟩) hHeld ?_ ?_
                              rotate_left
                              · rintro w' ⟨s0, s1⟩
                                go_simp
                                with_reducible rfl
                              rotate_left
                              · simp only [Act.put, List.setIfInBounds_toArray, List.set_cons_zero, List.set_cons_succ, i64_w, i32_w]
                                rfl
                              refine one_ (i := 3) (N := some 115) #[true, true, true, true, false, true, true, false, true, false, false, false] rfl rfl (one_of HT_.out (by kernel_rfl)) (by decide) (fun K hK => ?_)
                              refine goes_ Try.func33 (by kernel_rfl) rfl #[.slice A1 l1.length c1] (by rfl) rfl rfl (by (try simp only [List.map_toArray, List.map_cons, List.map_nil]); first | done | rfl | (simp only [List.length_drop, List.length_take]; rfl)) ?_
                              with_reducible refine (laws_numberOf.calls k3 _ _ l1 t335 _ ?side1 ?side2 A62.out).mono ?_
                              (case side1 => repeat (first | exact (Kd.C_below HR1.out HB.out) | (with_reducible refine Kd.C_alloc ?_ _) | (with_reducible refine Kd.C_drewN ?_ _) | (with_reducible refine Kd.C_drew ?_)))
                              (case side2 => exact HC1.out)
                              rintro e w' ⟨rfl, ⟨nd, rfl⟩⟩
                              refine ⟨_, rfl, ?_⟩
                              refine hK.out _ _ ⟨(blk_cell BK318.out 0).trans rfl, (blk_cell BK318.out 1).trans rfl⟩ (fun hHeld => ?_)
                              clear hK K
                              refine norm_ (a' := ?_) ?_ ?_
                              rotate_left
                              · show Act.put _ (some 115) _ = _
                                simp only [Act.put, List.setIfInBounds_toArray, List.set_cons_zero, List.set_cons_succ, i64_w, i32_w]
                                rfl
                              refine pure_ (i := 4) (N := some 116) (v := ?_) (a' := ?_) #[true, true, true, true, true, true, true, false, true, false, false, false] rfl rfl (any_of HT_.out (by kernel_rfl)) (fun _ _ _ h => h) (Or.inl ⟨by rfl, ?_⟩) ?_ ?_
                              rotate_left
                              · intro w'
                                go_simp
                                with_reducible rfl
                              rotate_left
                              · simp only [Act.put, List.setIfInBounds_toArray, List.set_cons_zero, List.set_cons_succ, i64_w, i32_w]
                                rfl
                              refine pure_ (i := 7) (N := some 119) (v := ?_) (a' := ?_) #[true, true, true, true, true, true, true, true, true, false, false, false] rfl rfl (any_of HT_.out (by kernel_rfl)) (fun _ _ _ h => h) (Or.inl ⟨by rfl, ?_⟩) ?_ ?_
                              rotate_left
                              · intro w'
                                go_simp
                                with_reducible rfl
                              rotate_left
                              · simp only [Act.put, List.setIfInBounds_toArray, List.set_cons_zero, List.set_cons_succ, i64_w, i32_w]
                                rfl
                              refine pure_ (i := 9) (N := some 121) (v := ?_) (a' := ?_) #[true, true, true, true, true, true, true, true, true, true, false, false] rfl rfl (any_of HT_.out (by kernel_rfl)) (fun _ _ _ h => h) (Or.inl ⟨by rfl, ?_⟩) ?_ ?_
                              rotate_left
                              · intro w'
                                go_simp
                                with_reducible rfl
                              rotate_left
                              · simp only [Act.put, List.setIfInBounds_toArray, List.set_cons_zero, List.set_cons_succ, i64_w, i32_w]
                                rfl
                              refine pure_ (i := 10) (N := some 122) (v := ?_) (a' := ?_) #[true, true, true, true, true, true, true, true, true, true, true, false] rfl rfl (any_of HT_.out (by kernel_rfl)) (fun _ _ _ h => h) (Or.inl ⟨by rfl, ?_⟩) ?_ ?_
                              rotate_left
                              · intro w'
                                go_simp
                                with_reducible rfl
                              rotate_left
                              · simp only [Act.put, List.setIfInBounds_toArray, List.set_cons_zero, List.set_cons_succ, i64_w, i32_w]
                                rfl
                              refine pure_ (i := 11) (N := some 18) (v := ?_) (a' := ?_) #[true, true, true, true, true, true, true, true, true, true, true, true] rfl rfl (any_of HT_.out (by kernel_rfl)) (fun _ _ _ h => h) (Or.inl ⟨by rfl, ?_⟩) ?_ ?_
                              rotate_left
                              · intro w'
                                go_simp
                                with_reducible rfl
                              rotate_left
                              · simp only [Act.put, List.setIfInBounds_toArray, List.set_cons_zero, List.set_cons_succ, i64_w, i32_w]
                                rfl
                              refine done_ (done_of HT_.out (by kernel_rfl)) ?_
                              go_upto_block 2 with (fail)
                              go_cut [17, 18] (fun v17 v18 wc => ∃ (kq : Nat) (x17_63 : Int) (x18_63 : Int), v17 = .int .i64 x17_63 ∧ v18 = .int .i64 x18_63 ∧ Aside0 (laws_FnStretches.j3 kq l1 t312 t329 t331 x16_3 x17_63 x18_63 t313 t314 t315 t316 t319 t320 = some r) ∧ Aside0 (kq ≤ k3) ∧ Aside0 (wc.heap[gb317]? = some (.cells #[.int .i64 t313, .int .i64 t314] 40 (0, 0))) ∧ Aside0 (wc.heap[gb318]? = some (.cells #[.int .i64 t315, .int .i64 t316] 40 (0, 0))) ∧ Aside0 (wc.heap[gb322]? = some (.cells #[.int .i64 t319, .int .i64 t320] 40 (0, 0))) ∧ Aside0 (wc.heap[gb326]? = some (.cells #[.int .i64 t323, .int .i64 t324] 40 (0, 0))) ∧ Aside0 (Below w.heap.size w wc))
                              case first =>
                                have H := HC64.out
                                clear HC64
                                by_cases c67 : x16_3 = 0
                                · rw [if_pos c67] at H
                                  have c67b0 : (x16_3 == 0) = true := beq_iff_eq.mpr c67
                                  have c67b1 : (x16_3 != 0) = false := bne_eq_false_iff_eq.mpr c67
                                  clear c67
                                  (first | rw [c67b0] | (simp only [i64_w, i32_w]; rw [c67b0]) | skip)
                                  have H' := Aside0.mk H
                                  clear H
                                  have hnb68 := NB317_318.out
                                  have hnc68 := NB318_317.out
                                  have hnb69 := NB317_322.out
                                  have hnc69 := NB322_317.out
                                  have hnb70 := NB317_326.out
                                  have hnc70 := NB326_317.out
                                  have hcz71_0 := cq_ BK317.out 0 (.int .i64 t313)
                                  have hcz71_1 := cq_ BK317.out 1 (.int .i64 t314)
                                  have hfz71_0 := blk_frozen BK317.out 0
                                  have hfz71_1 := blk_frozen BK317.out 1
                                  have hnb72 := NB318_322.out
                                  have hnc72 := NB322_318.out
                                  have hnb73 := NB318_326.out
                                  have hnc73 := NB326_318.out
                                  have hcz74_0 := cq_ BK318.out 0 (.int .i64 t315)
                                  have hcz74_1 := cq_ BK318.out 1 (.int .i64 t316)
                                  have hfz74_0 := blk_frozen BK318.out 0
                                  have hfz74_1 := blk_frozen BK318.out 1
                                  go_wp2
                                  go_meet
                                  case rel => exact ⟨_, (t313), (t316), (by first | rfl | (simp; done) | (simp [*]; done)), (by first | rfl | (simp; done) | (simp [*]; done)), H', ⟨by have := HJ6.out; have := HJ39.out; have := HK3.out; first | omega | exact Nat.le_refl _⟩, ⟨bk_ BK317.out⟩, ⟨bk_ BK318.out⟩, ⟨bk_ BK322.out⟩, ⟨bk_ BK326.out⟩, ⟨bq_⟩⟩
                                · rw [if_neg c67] at H
                                  have c67b0 : (x16_3 == 0) = false := beq_eq_false_iff_ne.mpr c67
                                  have c67b1 : (x16_3 != 0) = true := bne_iff_ne.mpr c67
                                  (first | rw [c67b0] | (simp only [i64_w, i32_w]; rw [c67b0]) | skip)
                                  by_cases c75 : x16_3 = 1
                                  · rw [if_pos c75] at H
                                    have c75b0 : (x16_3 == 1) = true := beq_iff_eq.mpr c75
                                    have c75b1 : (x16_3 != 1) = false := bne_eq_false_iff_eq.mpr c75
                                    clear c75
                                    have H' := Aside0.mk H
                                    clear H
                                    have hnb76 := NB317_318.out
                                    have hnc76 := NB318_317.out
                                    have hnb77 := NB317_322.out
                                    have hnc77 := NB322_317.out
                                    have hnb78 := NB317_326.out
                                    have hnc78 := NB326_317.out
                                    have hcz79_0 := cq_ BK317.out 0 (.int .i64 t313)
                                    have hcz79_1 := cq_ BK317.out 1 (.int .i64 t314)
                                    have hfz79_0 := blk_frozen BK317.out 0
                                    have hfz79_1 := blk_frozen BK317.out 1
                                    have hnb80 := NB318_322.out
                                    have hnc80 := NB322_318.out
                                    have hnb81 := NB318_326.out
                                    have hnc81 := NB326_318.out
                                    have hcz82_0 := cq_ BK318.out 0 (.int .i64 t315)
                                    have hcz82_1 := cq_ BK318.out 1 (.int .i64 t316)
                                    have hfz82_0 := blk_frozen BK318.out 0
                                    have hfz82_1 := blk_frozen BK318.out 1
                                    go_wp2
                                    go_meet
                                    case rel => exact ⟨_, (t314), (t315), (by first | rfl | (simp; done) | (simp [*]; done)), (by first | rfl | (simp; done) | (simp [*]; done)), H', ⟨by have := HJ6.out; have := HJ39.out; have := HK3.out; first | omega | exact Nat.le_refl _⟩, ⟨bk_ BK317.out⟩, ⟨bk_ BK318.out⟩, ⟨bk_ BK322.out⟩, ⟨bk_ BK326.out⟩, ⟨bq_⟩⟩
                                  · rw [if_neg c75] at H
                                    have c75b0 : (x16_3 == 1) = false := beq_eq_false_iff_ne.mpr c75
                                    have c75b1 : (x16_3 != 1) = true := bne_iff_ne.mpr c75
                                    by_cases c83 : x16_3 = 2
                                    · rw [if_pos c83] at H
                                      have c83b0 : (x16_3 == 2) = true := beq_iff_eq.mpr c83
                                      have c83b1 : (x16_3 != 2) = false := bne_eq_false_iff_eq.mpr c83
                                      clear c83
                                      have H' := Aside0.mk H
                                      clear H
                                      have hnb84 := NB317_318.out
                                      have hnc84 := NB318_317.out
                                      have hnb85 := NB317_322.out
                                      have hnc85 := NB322_317.out
                                      have hnb86 := NB317_326.out
                                      have hnc86 := NB326_317.out
                                      have hcz87_0 := cq_ BK317.out 0 (.int .i64 t313)
                                      have hcz87_1 := cq_ BK317.out 1 (.int .i64 t314)
                                      have hfz87_0 := blk_frozen BK317.out 0
                                      have hfz87_1 := blk_frozen BK317.out 1
                                      have hnb88 := NB318_322.out
                                      have hnc88 := NB322_318.out
                                      have hnb89 := NB318_326.out
                                      have hnc89 := NB326_318.out
                                      have hcz90_0 := cq_ BK318.out 0 (.int .i64 t315)
                                      have hcz90_1 := cq_ BK318.out 1 (.int .i64 t316)
                                      have hfz90_0 := blk_frozen BK318.out 0
                                      have hfz90_1 := blk_frozen BK318.out 1
                                      go_wp2
                                      go_meet
                                      case rel => exact ⟨_, (t314), (t316), (by first | rfl | (simp; done) | (simp [*]; done)), (by first | rfl | (simp; done) | (simp [*]; done)), H', ⟨by have := HJ6.out; have := HJ39.out; have := HK3.out; first | omega | exact Nat.le_refl _⟩, ⟨bk_ BK317.out⟩, ⟨bk_ BK318.out⟩, ⟨bk_ BK322.out⟩, ⟨bk_ BK326.out⟩, ⟨bq_⟩⟩
                                    · rw [if_neg c83] at H
                                      have c83b0 : (x16_3 == 2) = false := beq_eq_false_iff_ne.mpr c83
                                      have c83b1 : (x16_3 != 2) = true := bne_iff_ne.mpr c83
                                      have H' := Aside0.mk H
                                      clear H
                                      go_wp2
                                      go_meet
                                      case rel => exact ⟨_, (wrap64 (t313 + (Int.tmod (wrap64 (t334 + (wrap64 ((wrap64 (x16_3 * x16_3)) * 7919)))) t329))), (wrap64 (t315 + (Int.tmod (wrap64 ((wrap64 (Int.tdiv t335 3)) + (wrap64 (x16_3 * 104729)))) t331))), (by first | rfl | (simp; done) | (simp [*]; done)), (by first | rfl | (simp; done) | (simp [*]; done)), H', ⟨by have := HJ6.out; have := HJ39.out; have := HK3.out; first | omega | exact Nat.le_refl _⟩, ⟨bk_ BK317.out⟩, ⟨bk_ BK318.out⟩, ⟨bk_ BK322.out⟩, ⟨bk_ BK326.out⟩, ⟨bq_⟩⟩
                              case rest =>
                                clear HC64
                                try clear c1
                                try clear c2
                                try clear p2
                                try clear c3
                                try clear c3b0
                                try clear c4
                                try clear c5
                                try clear c6
                                try clear p6
                                try clear c7
                                try clear c8
                                try clear c9
                                try clear c11
                                try clear c16
                                try clear c17
                                try clear c21
                                try clear c23
                                try clear c24
                                try clear c25
                                try clear c27
                                try clear c27b0
                                try clear c27b1
                                try clear c27b2
                                try clear c28
                                try clear c28b0
                                try clear c33
                                try clear c35
                                try clear c37
                                try clear c38
                                try clear c39
                                try clear c40
                                try clear c41
                                try clear c42
                                try clear c43
                                try clear c46
                                try clear c47
                                try clear c51
                                try clear c52
                                try clear c53
                                try clear c54
                                try clear c55
                                try clear c58
                                try clear c59
                                try clear c59b0
                                try clear c61
                                try clear c61b0
                                try clear c61b1
                                try clear c63
                                try clear c63b0
                                try clear c63b1
                                try clear p64
                                try clear c67
                                try clear c67b0
                                try clear c67b1
                                try clear c68
                                try clear c69
                                try clear c70
                                try clear c72
                                try clear c73
                                try clear c75
                                try clear c75b0
                                try clear c75b1
                                try clear c76
                                try clear c77
                                try clear c78
                                try clear c80
                                try clear c81
                                try clear c83
                                try clear c83b0
                                try clear c83b1
                                try clear c84
                                try clear c85
                                try clear c86
                                try clear c88
                                try clear c89
                                try clear hcz12_0
                                try clear hcz12_1
                                try clear hcz13_0
                                try clear hcz13_1
                                try clear hcz18_0
                                try clear hcz18_1
                                try clear hcz19_0
                                try clear hcz19_1
                                try clear hcz20_0
                                try clear hcz20_1
                                try clear hcz26_0
                                try clear hcz26_1
                                try clear hcz44_0
                                try clear hcz44_1
                                try clear hcz48_0
                                try clear hcz48_1
                                try clear hcz56_0
                                try clear hcz56_1
                                try clear hcz71_0
                                try clear hcz71_1
                                try clear hcz74_0
                                try clear hcz74_1
                                try clear hcz79_0
                                try clear hcz79_1
                                try clear hcz82_0
                                try clear hcz82_1
                                try clear hcz87_0
                                try clear hcz87_1
                                try clear hcz90_0
                                try clear hcz90_1
                                try clear hfz12_0
                                try clear hfz12_1
                                try clear hfz13_0
                                try clear hfz13_1
                                try clear hfz18_0
                                try clear hfz18_1
                                try clear hfz19_0
                                try clear hfz19_1
                                try clear hfz20_0
                                try clear hfz20_1
                                try clear hfz26_0
                                try clear hfz26_1
                                try clear hfz44_0
                                try clear hfz44_1
                                try clear hfz48_0
                                try clear hfz48_1
                                try clear hfz56_0
                                try clear hfz56_1
                                try clear hfz71_0
                                try clear hfz71_1
                                try clear hfz74_0
                                try clear hfz74_1
                                try clear hfz79_0
                                try clear hfz79_1
                                try clear hfz82_0
                                try clear hfz82_1
                                try clear hfz87_0
                                try clear hfz87_1
                                try clear hfz90_0
                                try clear hfz90_1
                                try clear p2
                                try clear p6
                                obtain ⟨kq, x17_63, x18_63, rfl, rfl, HA, HJ63, BK317, BK318, BK322, BK326, HB⟩ := hcut
                                cases kq with
                                | zero => exact absurd HA.out (by simp [laws_FnStretches.j3])
                                | succ kj63 =>
                                  have H := HA.out
                                  clear HA
                                  simp only [laws_FnStretches.j3] at H
                                  replace H := Option.bind_eq_some_iff.mp H
                                  obtain ⟨⟨t336, t337⟩, A910, H⟩ := H
                                  replace H : ((impl_InStretch.f t319 t320 t336).bind fun bt338 => (if t337 = true then (if bt338.2 = true then (if bt338.1 = true then (laws_FnStretches.l0 kj63 l1 t312 t329 t331 (wrap64 (x16_3 + 1)) t313 t314 t315 t316 t319 t320) else (some false)) else (some false)) else (some false))) = some r := H
                                  have A91 := Aside0.mk A910
                                  clear A910
                                  replace H := Option.bind_eq_some_iff.mp H
                                  obtain ⟨⟨t338, t339⟩, A920, H⟩ := H
                                  replace H : (if t337 = true then (if t339 = true then (if t338 = true then (laws_FnStretches.l0 kj63 l1 t312 t329 t331 (wrap64 (x16_3 + 1)) t313 t314 t315 t316 t319 t320) else (some false)) else (some false)) else (some false)) = some r := H
                                  have A92 := Aside0.mk A920
                                  clear A920
                                  by_cases c93 : t337 = true
                                  · subst c93
                                    have H1 : (if t339 = true then (if t338 = true then (laws_FnStretches.l0 kj63 l1 t312 t329 t331 (wrap64 (x16_3 + 1)) t313 t314 t315 t316 t319 t320) else (some false)) else (some false)) = some r := by rw [if_pos rfl] at H; exact H
                                    clear H
                                    have H := H1
                                    clear H1
                                    by_cases c94 : t339 = true
                                    · subst c94
                                      have H1 : (if t338 = true then (laws_FnStretches.l0 kj63 l1 t312 t329 t331 (wrap64 (x16_3 + 1)) t313 t314 t315 t316 t319 t320) else (some false)) = some r := by rw [if_pos rfl] at H; exact H
                                      clear H
                                      have H := H1
                                      clear H1
                                      by_cases c95 : t338 = true
                                      · subst c95
                                        have H1 : (laws_FnStretches.l0 kj63 l1 t312 t329 t331 (wrap64 (x16_3 + 1)) t313 t314 t315 t316 t319 t320) = some r := by rw [if_pos rfl] at H; exact H
                                        clear H
                                        have H := H1
                                        clear H1
                                        have H' := Aside0.mk H
                                        clear H
                                        go_wp2_with (first | ((with_reducible refine gate_callee (f := 41) rfl ?_); refine goesL_ (some 146) rfl rfl Try.func41 (by kernel_rfl) rfl #[.int .i64 t312, .int .i64 x17_63, .int .i64 x18_63] rfl (by (try simp only [List.map_toArray, List.map_cons, List.map_nil]); first | done | rfl | (simp only [List.length_drop, List.length_take]; rfl)) ?_; (with_reducible refine (impl_DoOp.calls t312 x17_63 x18_63 t336 true _ A91.out).mono ?_); rintro e w' ⟨rfl, ⟨nd, rfl⟩⟩; refine ⟨_, rfl, ?_⟩; have hnb96 := NB322_317.out; have hnc96 := NB317_322.out; have hnb97 := NB322_318.out; have hnc97 := NB318_322.out; have hnb98 := NB322_326.out; have hnc98 := NB326_322.out; have hcz99_0 := cq_ BK322.out 0 (.int .i64 t319); have hcz99_1 := cq_ BK322.out 1 (.int .i64 t320); have hfz99_0 := blk_frozen BK322.out 0; have hfz99_1 := blk_frozen BK322.out 1) | ((with_reducible refine gate_callee (f := 42) rfl ?_); refine goesL_ (some 152) rfl rfl Try.func42 (by kernel_rfl) rfl #[.agg #[.int .i64 t319, .int .i64 t320], .int .i64 t336] rfl (by (try simp only [List.map_toArray, List.map_cons, List.map_nil]); first | done | rfl | (simp only [List.length_drop, List.length_take]; rfl)) ?_; (with_reducible refine (impl_InStretch.calls t319 t320 t336 true true _ A92.out).mono ?_); rintro e w100 ⟨rfl, hb⟩; refine ⟨_, rfl, ?_⟩; have n0_ := Aside0.mk (blk_below (bk_ BK317.out) hb); have n1_ := Aside0.mk (blk_below (bk_ BK318.out) hb); have n2_ := Aside0.mk (blk_below (bk_ BK322.out) hb); have n3_ := Aside0.mk (blk_below (bk_ BK326.out) hb); have n4_ := Aside0.mk (below_step (bq_) hb); clear BK317; clear BK318; clear BK322; clear BK326; clear HB; have BK317 := n0_; have BK318 := n1_; have BK322 := n2_; have BK326 := n3_; have HB := n4_; clear n0_ n1_ n2_ n3_ n4_; (try clear hb); (try clear hb2); (try clear hk); (try clear hi)))
                                        go_roundg kj63
                                        case measure => have := HJ6.out; have := HJ39.out; have := HK3.out; have := HJ63.out; omega
                                        case rel => exact ⟨(wrap64 (x16_3 + 1)), (by first | rfl | (simp; done) | (simp [*]; done)), H', ⟨by have := HJ6.out; have := HJ39.out; have := HK3.out; have := HJ63.out; omega⟩, ⟨bk_ BK317.out⟩, ⟨bk_ BK318.out⟩, ⟨bk_ BK322.out⟩, ⟨bk_ BK326.out⟩, ⟨bq_⟩⟩
                                      · replace c95 := Bool.eq_false_iff.mpr c95
                                        subst c95
                                        have H1 : (some false) = some r := by rw [if_neg (show ¬ (false = true) by decide)] at H; exact H
                                        clear H
                                        have H := H1
                                        clear H1
                                        exact absurd (Option.some.inj H).symm (by rw [hr_.out]; simp)
                                    · replace c94 := Bool.eq_false_iff.mpr c94
                                      subst c94
                                      have H1 : (some false) = some r := by rw [if_neg (show ¬ (false = true) by decide)] at H; exact H
                                      clear H
                                      have H := H1
                                      clear H1
                                      exact absurd (Option.some.inj H).symm (by rw [hr_.out]; simp)
                                  · replace c93 := Bool.eq_false_iff.mpr c93
                                    subst c93
                                    have H1 : (some false) = some r := by rw [if_neg (show ¬ (false = true) by decide)] at H; exact H
                                    clear H
                                    have H := H1
                                    clear H1
                                    exact absurd (Option.some.inj H).symm (by rw [hr_.out]; simp)
                        · rw [if_neg c59] at H
                          have c59b0 : decide (x16_3 < 12) = false := decide_eq_false c59
                          clear c59
                          have H' := Aside0.mk H
                          clear H
                          go_wp2
                          go_meet
                          case rel => exact ⟨_, H', ⟨by have := HJ6.out; have := HJ39.out; have := HK3.out; first | omega | exact Nat.le_refl _⟩, ⟨bk_ BK317.out⟩, ⟨bk_ BK318.out⟩, ⟨bk_ BK322.out⟩, ⟨bk_ BK326.out⟩, ⟨bq_⟩⟩
            · replace c37 := Bool.eq_false_iff.mpr c37
              subst c37
              have H1 : (laws_FnStretches.j4 kj6 l1) = some r := by rw [if_neg (show ¬ (false = true) by decide)] at H; exact H
              clear H
              have H := H1
              clear H1
              have H' := Aside0.mk H
              clear H
              go_wp2
              go_meet
              case rel => exact ⟨_, H', ⟨by have := HJ6.out; first | omega | exact Nat.le_refl _⟩, ⟨bk_ BK317.out⟩, ⟨bk_ BK318.out⟩, ⟨bk_ BK322.out⟩, ⟨bk_ BK326.out⟩, ⟨bq_⟩⟩
          case rest =>
            clear HC36
            try clear c1
            try clear c2
            try clear p2
            try clear c3
            try clear c3b0
            try clear c4
            try clear c5
            try clear c6
            try clear p6
            try clear c7
            try clear c8
            try clear c9
            try clear c11
            try clear c16
            try clear c17
            try clear c21
            try clear c23
            try clear c24
            try clear c25
            try clear c27
            try clear c27b0
            try clear c27b1
            try clear c27b2
            try clear c28
            try clear c28b0
            try clear c33
            try clear c35
            try clear c37
            try clear c38
            try clear c39
            try clear c40
            try clear c41
            try clear c42
            try clear c43
            try clear c46
            try clear c47
            try clear c51
            try clear c52
            try clear c53
            try clear c54
            try clear c55
            try clear c58
            try clear c59
            try clear c59b0
            try clear c61
            try clear c61b0
            try clear c61b1
            try clear c63
            try clear c63b0
            try clear c63b1
            try clear p64
            try clear c67
            try clear c67b0
            try clear c67b1
            try clear c68
            try clear c69
            try clear c70
            try clear c72
            try clear c73
            try clear c75
            try clear c75b0
            try clear c75b1
            try clear c76
            try clear c77
            try clear c78
            try clear c80
            try clear c81
            try clear c83
            try clear c83b0
            try clear c83b1
            try clear c84
            try clear c85
            try clear c86
            try clear c88
            try clear c89
            try clear c93
            try clear c94
            try clear c95
            try clear c96
            try clear c97
            try clear c98
            try clear hcz12_0
            try clear hcz12_1
            try clear hcz13_0
            try clear hcz13_1
            try clear hcz18_0
            try clear hcz18_1
            try clear hcz19_0
            try clear hcz19_1
            try clear hcz20_0
            try clear hcz20_1
            try clear hcz26_0
            try clear hcz26_1
            try clear hcz44_0
            try clear hcz44_1
            try clear hcz48_0
            try clear hcz48_1
            try clear hcz56_0
            try clear hcz56_1
            try clear hcz71_0
            try clear hcz71_1
            try clear hcz74_0
            try clear hcz74_1
            try clear hcz79_0
            try clear hcz79_1
            try clear hcz82_0
            try clear hcz82_1
            try clear hcz87_0
            try clear hcz87_1
            try clear hcz90_0
            try clear hcz90_1
            try clear hcz99_0
            try clear hcz99_1
            try clear hfz12_0
            try clear hfz12_1
            try clear hfz13_0
            try clear hfz13_1
            try clear hfz18_0
            try clear hfz18_1
            try clear hfz19_0
            try clear hfz19_1
            try clear hfz20_0
            try clear hfz20_1
            try clear hfz26_0
            try clear hfz26_1
            try clear hfz44_0
            try clear hfz44_1
            try clear hfz48_0
            try clear hfz48_1
            try clear hfz56_0
            try clear hfz56_1
            try clear hfz71_0
            try clear hfz71_1
            try clear hfz74_0
            try clear hfz74_1
            try clear hfz79_0
            try clear hfz79_1
            try clear hfz82_0
            try clear hfz82_1
            try clear hfz87_0
            try clear hfz87_1
            try clear hfz90_0
            try clear hfz90_1
            try clear hfz99_0
            try clear hfz99_1
            try clear p2
            try clear p6
            try clear p64
            obtain ⟨kq, HA, HJ35, BK317, BK318, BK322, BK326, HB⟩ := hcut
            cases kq with
            | zero => exact absurd HA.out (by simp [laws_FnStretches.j4])
            | succ kj35 =>
              have H := HA.out
              clear HA
              simp only [laws_FnStretches.j4] at H
              replace H := Option.bind_eq_some_iff.mp H
              obtain ⟨⟨t340, t341, t342⟩, A1010, H⟩ := H
              replace H : ((impl_InStretch.f t340 t341 t342).bind fun bt344 => ((spec_InStretch.f t340 t341 t342).bind fun bt346 => ((impl_SizeOf.f t340 t341).bind fun bt348 => ((spec_SizeOf.f t340 t341).bind fun bt350 => (if (bt344.2 == bt346.2) = true then (if (bt344.1 == bt346.1) = true then (if (bt348.2 == bt350.2) = true then (some (bt348.1 == bt350.1)) else (some false)) else (some false)) else (some false)))))) = some r := H
              have A101 := Aside0.mk A1010
              clear A1010
              replace H := Option.bind_eq_some_iff.mp H
              obtain ⟨⟨t344, t345⟩, A1020, H⟩ := H
              replace H : ((spec_InStretch.f t340 t341 t342).bind fun bt346 => ((impl_SizeOf.f t340 t341).bind fun bt348 => ((spec_SizeOf.f t340 t341).bind fun bt350 => (if (t345 == bt346.2) = true then (if (t344 == bt346.1) = true then (if (bt348.2 == bt350.2) = true then (some (bt348.1 == bt350.1)) else (some false)) else (some false)) else (some false))))) = some r := H
              have A102 := Aside0.mk A1020
              clear A1020
              replace H := Option.bind_eq_some_iff.mp H
              obtain ⟨⟨t346, t347⟩, A1030, H⟩ := H
              replace H : ((impl_SizeOf.f t340 t341).bind fun bt348 => ((spec_SizeOf.f t340 t341).bind fun bt350 => (if (t345 == t347) = true then (if (t344 == t346) = true then (if (bt348.2 == bt350.2) = true then (some (bt348.1 == bt350.1)) else (some false)) else (some false)) else (some false)))) = some r := H
              have A103 := Aside0.mk A1030
              clear A1030
              replace H := Option.bind_eq_some_iff.mp H
              obtain ⟨⟨t348, t349⟩, A1040, H⟩ := H
              replace H : ((spec_SizeOf.f t340 t341).bind fun bt350 => (if (t345 == t347) = true then (if (t344 == t346) = true then (if (t349 == bt350.2) = true then (some (t348 == bt350.1)) else (some false)) else (some false)) else (some false))) = some r := H
              have A104 := Aside0.mk A1040
              clear A1040
              replace H := Option.bind_eq_some_iff.mp H
              obtain ⟨⟨t350, t351⟩, A1050, H⟩ := H
              replace H : (if (t345 == t347) = true then (if (t344 == t346) = true then (if (t349 == t351) = true then (some (t348 == t350)) else (some false)) else (some false)) else (some false)) = some r := H
              have A105 := Aside0.mk A1050
              clear A1050
              by_cases c106 : (t345 == t347) = true
              · rw [if_pos c106] at H
                have c106b0 : (t345 == t347) = true := c106
                (try (have c106b1 : decide (t345 = t347) = true := by simpa using c106))
                (try (have c106b2 : (t345 == t347) = true := by simpa using c106))
                clear c106
                by_cases c107 : (t344 == t346) = true
                · rw [if_pos c107] at H
                  have c107b0 : (t344 == t346) = true := c107
                  (try (have c107b1 : decide (t344 = t346) = true := by simpa using c107))
                  (try (have c107b2 : (t344 == t346) = true := by simpa using c107))
                  clear c107
                  by_cases c108 : (t349 == t351) = true
                  · rw [if_pos c108] at H
                    have c108b0 : (t349 == t351) = true := c108
                    (try (have c108b1 : decide (t349 = t351) = true := by simpa using c108))
                    (try (have c108b2 : (t349 == t351) = true := by simpa using c108))
                    clear c108
                    obtain rfl := Option.some.inj H
                    go_wp2_with (first | ((with_reducible refine gate_callee (f := 43) rfl ?_); refine goesL_ (some 167) rfl rfl Try.func43 (by kernel_rfl) rfl #[.slice A1 l1.length c1] rfl (by (try simp only [List.map_toArray, List.map_cons, List.map_nil]); first | done | rfl | (simp only [List.length_drop, List.length_take]; rfl)) ?_; (with_reducible refine (spec_DrawInStretch.calls kj35 _ _ l1 t340 t341 t342 _ ?side1 ?side2 A101.out).mono ?_); (case side1 => repeat (first | exact (Kd.C_below HR1.out HB.out) | (with_reducible refine Kd.C_alloc ?_ _) | (with_reducible refine Kd.C_drewN ?_ _) | (with_reducible refine Kd.C_drew ?_))); (case side2 => exact HC1.out); rintro e w109 ⟨rfl, hb⟩; refine ⟨_, rfl, ?_⟩; have n0_ := Aside0.mk (blk_below (bk_ BK317.out) hb); have n1_ := Aside0.mk (blk_below (bk_ BK318.out) hb); have n2_ := Aside0.mk (blk_below (bk_ BK322.out) hb); have n3_ := Aside0.mk (blk_below (bk_ BK326.out) hb); have n4_ := Aside0.mk (below_step (bq_) hb); clear BK317; clear BK318; clear BK322; clear BK326; clear HB; have BK317 := n0_; have BK318 := n1_; have BK322 := n2_; have BK326 := n3_; have HB := n4_; clear n0_ n1_ n2_ n3_ n4_; (try clear hb); (try clear hb2); (try clear hk); (try clear hi)) | ((with_reducible refine gate_dst (N := 23) rfl ?_); refine boxq_ (N := 23) (cs := #[.int .i64 0, .int .i64 0]) (t := 40) ?_; intro gb343 hg w110 hbox hb; have n0_ := Aside0.mk (blk_below (bk_ BK317.out) hb); have n1_ := Aside0.mk (blk_below (bk_ BK318.out) hb); have n2_ := Aside0.mk (blk_below (bk_ BK322.out) hb); have n3_ := Aside0.mk (blk_below (bk_ BK326.out) hb); have n4_ := Aside0.mk (below_step (bq_) hb); have n5_ := Aside0.mk (hbox); have n6_ := Aside0.mk ((by rw [hg]; exact (below_size (bq_)) : w.heap.size ≤ gb343)); have n7_ := Aside0.mk ((by rw [hg]; exact (below_size (bq_)) : w.heap.size ≤ gb343)); have n8_ := Aside0.mk ((by rw [hg]; exact Nat.ne_of_lt (blk_lt (bk_ BK317.out)) : gb317 ≠ gb343)); have n9_ := Aside0.mk ((by rw [hg]; exact Nat.ne_of_gt (blk_lt (bk_ BK317.out)) : gb343 ≠ gb317)); have n10_ := Aside0.mk ((by rw [hg]; exact Nat.ne_of_lt (blk_lt (bk_ BK318.out)) : gb318 ≠ gb343)); have n11_ := Aside0.mk ((by rw [hg]; exact Nat.ne_of_gt (blk_lt (bk_ BK318.out)) : gb343 ≠ gb318)); have n12_ := Aside0.mk ((by rw [hg]; exact Nat.ne_of_lt (blk_lt (bk_ BK322.out)) : gb322 ≠ gb343)); have n13_ := Aside0.mk ((by rw [hg]; exact Nat.ne_of_gt (blk_lt (bk_ BK322.out)) : gb343 ≠ gb322)); have n14_ := Aside0.mk ((by rw [hg]; exact Nat.ne_of_lt (blk_lt (bk_ BK326.out)) : gb326 ≠ gb343)); have n15_ := Aside0.mk ((by rw [hg]; exact Nat.ne_of_gt (blk_lt (bk_ BK326.out)) : gb343 ≠ gb326)); clear BK317; clear BK318; clear BK322; clear BK326; clear HB; have BK317 := n0_; have BK318 := n1_; have BK322 := n2_; have BK326 := n3_; have HB := n4_; have BK343 := n5_; have GW343 := n6_; have GE343 := n7_; have NB317_343 := n8_; have NB343_317 := n9_; have NB318_343 := n10_; have NB343_318 := n11_; have NB322_343 := n12_; have NB343_322 := n13_; have NB326_343 := n14_; have NB343_326 := n15_; clear n0_ n1_ n2_ n3_ n4_ n5_ n6_ n7_ n8_ n9_ n10_ n11_ n12_ n13_ n14_ n15_; clear hb hbox hg; have hnb111 := NB343_317.out; have hnc111 := NB317_343.out; have hnb112 := NB343_318.out; have hnc112 := NB318_343.out; have hnb113 := NB343_322.out; have hnc113 := NB322_343.out; have hnb114 := NB343_326.out; have hnc114 := NB326_343.out; have hcz115_0 := cq_ BK343.out 0 (.int .i64 0); have hcz115_1 := cq_ BK343.out 1 (.int .i64 0); have hfz115_0 := blk_frozen BK343.out 0; have hfz115_1 := blk_frozen BK343.out 1) | ((with_reducible refine gate_callee (f := 42) rfl ?_); refine goesL_ (some 173) rfl rfl Try.func42 (by kernel_rfl) rfl #[.agg #[.int .i64 t340, .int .i64 t341], .int .i64 t342] rfl (by (try simp only [List.map_toArray, List.map_cons, List.map_nil]); first | done | rfl | (simp only [List.length_drop, List.length_take]; rfl)) ?_; (with_reducible refine (impl_InStretch.calls t340 t341 t342 t344 t345 _ A102.out).mono ?_); rintro e w116 ⟨rfl, hb⟩; refine ⟨_, rfl, ?_⟩; have n0_ := Aside0.mk (blk_below (g := gb317) (o := .cells #[.int .i64 t313, .int .i64 t314] 40 (0, 0)) (by (with_reducible repeat (first | refine blk_drewN ?_ _ | refine blk_drew ?_ | refine blk_alloc ?_ _)); refine blk_far ?_ NB317_343.out _; (with_reducible repeat (first | refine blk_drewN ?_ _ | refine blk_drew ?_ | refine blk_alloc ?_ _)); refine blk_far ?_ NB317_343.out _; (with_reducible repeat (first | refine blk_drewN ?_ _ | refine blk_drew ?_ | refine blk_alloc ?_ _)); exact BK317.out) hb); have n1_ := Aside0.mk (blk_below (g := gb318) (o := .cells #[.int .i64 t315, .int .i64 t316] 40 (0, 0)) (by (with_reducible repeat (first | refine blk_drewN ?_ _ | refine blk_drew ?_ | refine blk_alloc ?_ _)); refine blk_far ?_ NB318_343.out _; (with_reducible repeat (first | refine blk_drewN ?_ _ | refine blk_drew ?_ | refine blk_alloc ?_ _)); refine blk_far ?_ NB318_343.out _; (with_reducible repeat (first | refine blk_drewN ?_ _ | refine blk_drew ?_ | refine blk_alloc ?_ _)); exact BK318.out) hb); have n2_ := Aside0.mk (blk_below (g := gb322) (o := .cells #[.int .i64 t319, .int .i64 t320] 40 (0, 0)) (by (with_reducible repeat (first | refine blk_drewN ?_ _ | refine blk_drew ?_ | refine blk_alloc ?_ _)); refine blk_far ?_ NB322_343.out _; (with_reducible repeat (first | refine blk_drewN ?_ _ | refine blk_drew ?_ | refine blk_alloc ?_ _)); refine blk_far ?_ NB322_343.out _; (with_reducible repeat (first | refine blk_drewN ?_ _ | refine blk_drew ?_ | refine blk_alloc ?_ _)); exact BK322.out) hb); have n3_ := Aside0.mk (blk_below (g := gb326) (o := .cells #[.int .i64 t323, .int .i64 t324] 40 (0, 0)) (by (with_reducible repeat (first | refine blk_drewN ?_ _ | refine blk_drew ?_ | refine blk_alloc ?_ _)); refine blk_far ?_ NB326_343.out _; (with_reducible repeat (first | refine blk_drewN ?_ _ | refine blk_drew ?_ | refine blk_alloc ?_ _)); refine blk_far ?_ NB326_343.out _; (with_reducible repeat (first | refine blk_drewN ?_ _ | refine blk_drew ?_ | refine blk_alloc ?_ _)); exact BK326.out) hb); have n4_ := Aside0.mk (blk_below (g := gb343) (o := .cells #[.int .i64 t340, .int .i64 t341] 40 (0, 0)) (by (with_reducible repeat (first | refine blk_drewN ?_ _ | refine blk_drew ?_ | refine blk_alloc ?_ _)); refine blk_put (cs := #[.int .i64 t340, .int .i64 0]) ?_ 1 _ rfl; (with_reducible repeat (first | refine blk_drewN ?_ _ | refine blk_drew ?_ | refine blk_alloc ?_ _)); refine blk_put (cs := #[.int .i64 0, .int .i64 0]) ?_ 0 _ rfl; (with_reducible repeat (first | refine blk_drewN ?_ _ | refine blk_drew ?_ | refine blk_alloc ?_ _)); exact BK343.out) hb); have n5_ := Aside0.mk (below_step (bq_) hb); clear BK317; clear BK318; clear BK322; clear BK326; clear BK343; clear HB; have BK317 := n0_; have BK318 := n1_; have BK322 := n2_; have BK326 := n3_; have BK343 := n4_; have HB := n5_; clear n0_ n1_ n2_ n3_ n4_ n5_; (try clear hb); (try clear hb2); (try clear hk); (try clear hi); have hcz117_0 := cq_ BK343.out 0 (.int .i64 t340); have hcz117_1 := cq_ BK343.out 1 (.int .i64 t341); have hfz117_0 := blk_frozen BK343.out 0; have hfz117_1 := blk_frozen BK343.out 1) | ((with_reducible refine gate_callee (f := 44) rfl ?_); refine goesL_ (some 179) rfl rfl Try.func44 (by kernel_rfl) rfl #[.agg #[.int .i64 t340, .int .i64 t341], .int .i64 t342] rfl (by (try simp only [List.map_toArray, List.map_cons, List.map_nil]); first | done | rfl | (simp only [List.length_drop, List.length_take]; rfl)) ?_; (with_reducible refine (spec_InStretch.calls t340 t341 t342 t346 t347 _ A103.out).mono ?_); rintro e w118 ⟨rfl, hb⟩; refine ⟨_, rfl, ?_⟩; have n0_ := Aside0.mk (blk_below (bk_ BK317.out) hb); have n1_ := Aside0.mk (blk_below (bk_ BK318.out) hb); have n2_ := Aside0.mk (blk_below (bk_ BK322.out) hb); have n3_ := Aside0.mk (blk_below (bk_ BK326.out) hb); have n4_ := Aside0.mk (blk_below (bk_ BK343.out) hb); have n5_ := Aside0.mk (below_step (bq_) hb); clear BK317; clear BK318; clear BK322; clear BK326; clear BK343; clear HB; have BK317 := n0_; have BK318 := n1_; have BK322 := n2_; have BK326 := n3_; have BK343 := n4_; have HB := n5_; clear n0_ n1_ n2_ n3_ n4_ n5_; (try clear hb); (try clear hb2); (try clear hk); (try clear hi); have hcz119_0 := cq_ BK343.out 0 (.int .i64 t340); have hcz119_1 := cq_ BK343.out 1 (.int .i64 t341); have hfz119_0 := blk_frozen BK343.out 0; have hfz119_1 := blk_frozen BK343.out 1) | ((with_reducible refine gate_callee (f := 40) rfl ?_); refine goesL_ (some 184) rfl rfl Try.func40 (by kernel_rfl) rfl #[.agg #[.int .i64 t340, .int .i64 t341]] rfl (by (try simp only [List.map_toArray, List.map_cons, List.map_nil]); first | done | rfl | (simp only [List.length_drop, List.length_take]; rfl)) ?_; (with_reducible refine (impl_SizeOf.calls t340 t341 t348 t349 _ A104.out).mono ?_); rintro e w120 ⟨rfl, hb⟩; refine ⟨_, rfl, ?_⟩; have n0_ := Aside0.mk (blk_below (bk_ BK317.out) hb); have n1_ := Aside0.mk (blk_below (bk_ BK318.out) hb); have n2_ := Aside0.mk (blk_below (bk_ BK322.out) hb); have n3_ := Aside0.mk (blk_below (bk_ BK326.out) hb); have n4_ := Aside0.mk (blk_below (bk_ BK343.out) hb); have n5_ := Aside0.mk (below_step (bq_) hb); clear BK317; clear BK318; clear BK322; clear BK326; clear BK343; clear HB; have BK317 := n0_; have BK318 := n1_; have BK322 := n2_; have BK326 := n3_; have BK343 := n4_; have HB := n5_; clear n0_ n1_ n2_ n3_ n4_ n5_; (try clear hb); (try clear hb2); (try clear hk); (try clear hi); have hcz121_0 := cq_ BK343.out 0 (.int .i64 t340); have hcz121_1 := cq_ BK343.out 1 (.int .i64 t341); have hfz121_0 := blk_frozen BK343.out 0; have hfz121_1 := blk_frozen BK343.out 1) | ((with_reducible refine gate_callee (f := 45) rfl ?_); refine goesL_ (some 189) rfl rfl Try.func45 (by kernel_rfl) rfl #[.agg #[.int .i64 t340, .int .i64 t341]] rfl (by (try simp only [List.map_toArray, List.map_cons, List.map_nil]); first | done | rfl | (simp only [List.length_drop, List.length_take]; rfl)) ?_; (with_reducible refine (spec_SizeOf.calls t340 t341 t350 t351 _ A105.out).mono ?_); rintro e w122 ⟨rfl, hb⟩; refine ⟨_, rfl, ?_⟩; have n0_ := Aside0.mk (blk_below (bk_ BK317.out) hb); have n1_ := Aside0.mk (blk_below (bk_ BK318.out) hb); have n2_ := Aside0.mk (blk_below (bk_ BK322.out) hb); have n3_ := Aside0.mk (blk_below (bk_ BK326.out) hb); have n4_ := Aside0.mk (blk_below (bk_ BK343.out) hb); have n5_ := Aside0.mk (below_step (bq_) hb); clear BK317; clear BK318; clear BK322; clear BK326; clear BK343; clear HB; have BK317 := n0_; have BK318 := n1_; have BK322 := n2_; have BK326 := n3_; have BK343 := n4_; have HB := n5_; clear n0_ n1_ n2_ n3_ n4_ n5_; (try clear hb); (try clear hb2); (try clear hk); (try clear hi)))
                    go_ret
                    exact ⟨by first | rfl | (simp [errW_none, errW_some] <;> rfl) | (simp [*, errW_none, errW_some] <;> rfl), bq_⟩
                  · rw [if_neg c108] at H
                    have c108b0 : (t349 == t351) = false := by simpa using c108
                    (try (have c108b1 : decide (t349 = t351) = false := by simpa using c108))
                    (try (have c108b2 : (t349 == t351) = false := by simpa using c108))
                    (try (have c108b3 : ¬ (t349 = t351) := by simpa using c108))
                    clear c108
                    exact absurd (Option.some.inj H).symm (by rw [hr_.out]; simp)
                · rw [if_neg c107] at H
                  have c107b0 : (t344 == t346) = false := by simpa using c107
                  (try (have c107b1 : decide (t344 = t346) = false := by simpa using c107))
                  (try (have c107b2 : (t344 == t346) = false := by simpa using c107))
                  (try (have c107b3 : ¬ (t344 = t346) := by simpa using c107))
                  clear c107
                  exact absurd (Option.some.inj H).symm (by rw [hr_.out]; simp)
              · rw [if_neg c106] at H
                have c106b0 : (t345 == t347) = false := by simpa using c106
                (try (have c106b1 : decide (t345 = t347) = false := by simpa using c106))
                (try (have c106b2 : (t345 == t347) = false := by simpa using c106))
                (try (have c106b3 : ¬ (t345 = t347) := by simpa using c106))
                clear c106
                exact absurd (Option.some.inj H).symm (by rw [hr_.out]; simp)

/-- THE ONE PURE STATEMENT of laws_FnStretches: yours. -/
def laws_FnStretches.Pure : Prop := ∀ (l0 : List Int) (l1 : List Int), l0.length ≤ maxLen → l0.length * 1 ≤ 140737488351232 → (∀ x ∈ l0, (Lit.int .u8 x).wf = true) → l1.length ≤ maxLen → l1.length * 1 ≤ 140737488351232 → (∀ x ∈ l1, (Lit.int .u8 x).wf = true) → ∃ k, laws_FnStretches.f k l0 l1 = some true
theorem laws_FnStretches.walk (P : laws_FnStretches.Pure) (a0 : Option Addr) (len0 cap0 : Nat) (z0 : List Int) (a1 : Option Addr) (len1 cap1 : Nat) (z1 : List Int) (w : World) (w0 : (a0 = none ∧ len0 = 0 ∧ cap0 = 0 ∧ z0 = []) ∨ ∃ x, a0 = some x ∧ len0 ≤ cap0 ∧ cap0 ≤ maxLen ∧ z0.length = cap0 ∧ (∀ i, i < z0.length → w.cell? (x.add i) = some (.int .u8 (z0.getD i 0))) ∧ ∀ n ∈ z0, (Lit.int .u8 n).wf = true) (y0 : len0 * 1 ≤ 140737488351232) (w1 : (a1 = none ∧ len1 = 0 ∧ cap1 = 0 ∧ z1 = []) ∨ ∃ x, a1 = some x ∧ len1 ≤ cap1 ∧ cap1 ≤ maxLen ∧ z1.length = cap1 ∧ (∀ i, i < z1.length → w.cell? (x.add i) = some (.int .u8 (z1.getD i 0))) ∧ ∀ n ∈ z1, (Lit.int .u8 n).wf = true) (y1 : len1 * 1 ≤ 140737488351232) :
    Calls Try.prog 9 #[.slice a0 len0 cap0, .slice a1 len1 cap1] w fun e w' => e = .returned (.bool true) ∧ Below w.heap.size w w' := by
  obtain ⟨l0, rfl, hr0, hm0, hw0, hc0⟩ := ReadsInt.ofRowC w0
  obtain ⟨l1, rfl, hr1, hm1, hw1, hc1⟩ := ReadsInt.ofRowC w1
  obtain ⟨k, h⟩ := P l0 l1 hm0 y0 hw0 hm1 y1 hw1
  refine (laws_FnStretches.calls k _ _ l0 _ _ l1 true w (Kd.C_of_reads (d := (0 : Int)) (h1 := fun _ => rfl) hr0) hc0 (Kd.C_of_reads (d := (0 : Int)) (h1 := fun _ => rfl) hr1) hc1 ⟨rfl⟩ h).mono ?_
  rintro e w' ⟨rfl, hd⟩
  exact ⟨rfl, hd⟩

end Go.Proofs.Ytggddmpomdpdjaa.PFS

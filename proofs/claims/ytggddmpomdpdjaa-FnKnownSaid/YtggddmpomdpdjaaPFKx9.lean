-- Made by myprint.py (this session's program, over the kit's print) for this claim. Lean checks it.
import Derived.Test.YtggddmpomdpdjaaPFKx0
import Derived.Test.YtggddmpomdpdjaaPFKx1
import Derived.Test.YtggddmpomdpdjaaPFKx2
import Derived.Test.YtggddmpomdpdjaaPFKx4
import Derived.Test.YtggddmpomdpdjaaPFKx7
import Derived.Test.YtggddmpomdpdjaaPFKx8
namespace Go.Proofs.Ytggddmpomdpdjaa.PFK
open Go.RowKit Go.Proofs.YtggddmpomdpdjaaW.PrintWords Go.Proofs.YtggddmpomdpdjaaW.PrintLast Go.Proofs.YtggddmpomdpdjaaW.PrintMore
attribute [local go_sem] max2_int min2_int max_two min_two max_three min_three max_four min_four   -- for this text's walks alone
set_option linter.unusedVariables false
set_option linter.unusedSimpArgs false

attribute [local go_sem high] eqA26
/-! ### laws_FnKnown: function 10 -/
mutual
def laws_FnKnown.j0 : Nat → List Int → Int → Bool → Bool → Int → Int → Int → Int → Int → Int → Option (Bool)
  | 0, _, _, _, _, _, _, _, _, _, _ => none
  | k + 1, x1, x5, x9, x88, x361000, x361001, x362000, x362001, x366000, x366001 => if x88 = true then (some false) else (if x9 = true then ((impl_WaysOf.f x361000 x361001).bind fun bt372 => ((impl_WaysOf.f x362000 x362001).bind fun bt374 => ((impl_GoodKnown.f x366000 x366001).bind fun t376 => (if t376 = true then (if bt372.2 = true then (laws_FnKnown.j1 k x1 x5 bt372.1 bt374.1 (!bt374.2) x361000 x361001 x362000 x362001 x366000 x366001) else (laws_FnKnown.j1 k x1 x5 bt372.1 bt374.1 true x361000 x361001 x362000 x362001 x366000 x366001)) else (laws_FnKnown.j1 k x1 x5 bt372.1 bt374.1 true x361000 x361001 x362000 x362001 x366000 x366001))))) else (laws_FnKnown.j7 k x1))
def laws_FnKnown.j7 : Nat → List Int → Option (Bool)
  | 0, _ => none
  | k + 1, x1 => (spec_DrawNumberAt.f k x1).bind fun bt391 => ((impl_NumberAt.f k bt391.1 bt391.2.1 bt391.2.2).bind fun bt395 => ((spec_NumberAt.f k bt391.1 bt391.2.1 bt391.2.2).bind fun bt397 => ((spec_DrawMayBe.f k x1).bind fun bt399 => ((impl_MayBe.f bt399.1 bt399.2.1 bt399.2.2).bind fun bt403 => ((spec_MayBe.f bt399.1 bt399.2.1 bt399.2.2).bind fun bt405 => ((impl_WaysOf.f bt399.1 bt399.2.1).bind fun bt407 => ((spec_WaysOf.f k bt399.1 bt399.2.1).bind fun bt409 => (if (bt395.2 == bt397.2) = true then (if bt395.1 = bt397.1 then (if (bt403.2 == bt405.2) = true then (if (bt403.1 == bt405.1) = true then (if (bt407.2 == bt409.2) = true then (some (bt407.1 == bt409.1)) else (some false)) else (some false)) else (some false)) else (some false)) else (some false)))))))))
def laws_FnKnown.j1 : Nat → List Int → Int → Int → Int → Bool → Int → Int → Int → Int → Int → Int → Option (Bool)
  | 0, _, _, _, _, _, _, _, _, _, _, _ => none
  | k + 1, x1, x5, x12, x14, x110, x361000, x361001, x362000, x362001, x366000, x366001 => if x110 = true then (some false) else (laws_FnKnown.l0 k x1 x5 x12 x14 (decide ((wrap64 (x12 * x14)) ≤ 1024)) true 0 x361000 x361001 x362000 x362001 x366000 x366001 0 0)
def laws_FnKnown.l0 : Nat → List Int → Int → Int → Int → Bool → Bool → Int → Int → Int → Int → Int → Int → Int → Int → Int → Option (Bool)
  | 0, _, _, _, _, _, _, _, _, _, _, _, _, _, _, _ => none
  | k + 1, x1, x5, x12, x14, x16, x17, x19, x361000, x361001, x362000, x362001, x366000, x366001, x378000, x378001 => if x19 < x12 then (laws_FnKnown.j3 k x1 x5 x12 x14 x16 x17 x19 (decide (x19 < 64)) x361000 x361001 x362000 x362001 x366000 x366001 x378000 x378001) else (laws_FnKnown.j3 k x1 x5 x12 x14 x16 x17 x19 false x361000 x361001 x362000 x362001 x366000 x366001 x378000 x378001)
def laws_FnKnown.j3 : Nat → List Int → Int → Int → Int → Bool → Bool → Int → Bool → Int → Int → Int → Int → Int → Int → Int → Int → Option (Bool)
  | 0, _, _, _, _, _, _, _, _, _, _, _, _, _, _, _, _ => none
  | k + 1, x1, x5, x12, x14, x16, x17, x19, x121, x361000, x361001, x362000, x362001, x366000, x366001, x378000, x378001 => if x121 = true then (laws_FnKnown.l1 k x1 x5 x12 x14 x16 x17 x19 0 x361000 x361001 x362000 x362001 x366000 x366001 x378000 x378001) else (if x16 = true then (if x12 ≤ 64 then (if x14 ≤ 64 then (if x5 ≤ 2 then (if (!(x378000 == x366000) || (!(x378001 == x366001))) = true then (some false) else (laws_FnKnown.j7 k x1)) else (laws_FnKnown.j7 k x1)) else (laws_FnKnown.j7 k x1)) else (laws_FnKnown.j7 k x1)) else (laws_FnKnown.j7 k x1))
def laws_FnKnown.l1 : Nat → List Int → Int → Int → Int → Bool → Bool → Int → Int → Int → Int → Int → Int → Int → Int → Int → Int → Option (Bool)
  | 0, _, _, _, _, _, _, _, _, _, _, _, _, _, _, _, _ => none
  | k + 1, x1, x5, x12, x14, x16, x17, x19, x20, x361000, x361001, x362000, x362001, x366000, x366001, x378000, x378001 => if x20 < x14 then (laws_FnKnown.j5 k x1 x5 x12 x14 x16 x17 x19 x20 (decide (x20 < 64)) x361000 x361001 x362000 x362001 x366000 x366001 x378000 x378001) else (laws_FnKnown.j5 k x1 x5 x12 x14 x16 x17 x19 x20 false x361000 x361001 x362000 x362001 x366000 x366001 x378000 x378001)
def laws_FnKnown.j5 : Nat → List Int → Int → Int → Int → Bool → Bool → Int → Int → Bool → Int → Int → Int → Int → Int → Int → Int → Int → Option (Bool)
  | 0, _, _, _, _, _, _, _, _, _, _, _, _, _, _, _, _, _ => none
  | k + 1, x1, x5, x12, x14, x16, x17, x19, x20, x130, x361000, x361001, x362000, x362001, x366000, x366001, x378000, x378001 => if x130 = true then ((impl_NumberAt.f k x361000 x361001 x19).bind fun bt378 => ((impl_NumberAt.f k x362000 x362001 x20).bind fun bt380 => ((impl_DoOp.f x5 bt378.1 bt380.1).bind fun bt382 => ((impl_MayBe.f x366000 x366001 bt382.1).bind fun bt384 => (if bt378.2 = true then (if bt380.2 = true then (if bt382.2 = true then (if bt384.2 = true then (laws_FnKnown.j6 k x1 x5 x12 x14 x16 x17 x19 x20 bt382.1 (!bt384.1) x361000 x361001 x362000 x362001 x366000 x366001 x378000 x378001) else (laws_FnKnown.j6 k x1 x5 x12 x14 x16 x17 x19 x20 bt382.1 true x361000 x361001 x362000 x362001 x366000 x366001 x378000 x378001)) else (laws_FnKnown.j6 k x1 x5 x12 x14 x16 x17 x19 x20 bt382.1 true x361000 x361001 x362000 x362001 x366000 x366001 x378000 x378001)) else (laws_FnKnown.j6 k x1 x5 x12 x14 x16 x17 x19 x20 bt382.1 true x361000 x361001 x362000 x362001 x366000 x366001 x378000 x378001)) else (laws_FnKnown.j6 k x1 x5 x12 x14 x16 x17 x19 x20 bt382.1 true x361000 x361001 x362000 x362001 x366000 x366001 x378000 x378001)))))) else (laws_FnKnown.l0 k x1 x5 x12 x14 x16 x17 (wrap64 (x19 + 1)) x361000 x361001 x362000 x362001 x366000 x366001 x378000 x378001)
def laws_FnKnown.j6 : Nat → List Int → Int → Int → Int → Bool → Bool → Int → Int → Int → Bool → Int → Int → Int → Int → Int → Int → Int → Int → Option (Bool)
  | 0, _, _, _, _, _, _, _, _, _, _, _, _, _, _, _, _, _, _ => none
  | k + 1, x1, x5, x12, x14, x16, x17, x19, x20, x25, x175, x361000, x361001, x362000, x362001, x366000, x366001, x378000, x378001 => if x175 = true then (some false) else (if x17 = true then (laws_FnKnown.l1 k x1 x5 x12 x14 x16 false x19 (wrap64 (x20 + 1)) x361000 x361001 x362000 x362001 x366000 x366001 x25 0) else ((impl_JoinKnown.f x378000 x378001 x25 0).bind fun bt387 => (if bt387.2.2 = true then (laws_FnKnown.l1 k x1 x5 x12 x14 x16 false x19 (wrap64 (x20 + 1)) x361000 x361001 x362000 x362001 x366000 x366001 bt387.1 bt387.2.1) else (some false))))
end
def laws_FnKnown.f (k : Nat) (l0 : List Int) (l1 : List Int) : Option (Bool) := if (wrap64 ((l0.length : Int) + (l1.length : Int))) > 1048576 then (some true) else ((spec_DrawDoKnown.f k l0).bind fun bt355 => ((impl_DoKnown.f k bt355.1 bt355.2.1 bt355.2.2.1 bt355.2.2.2.1 bt355.2.2.2.2).bind fun bt362 => ((spec_DoKnown.f k bt355.1 bt355.2.1 bt355.2.2.1 bt355.2.2.2.1 bt355.2.2.2.2).bind fun bt366 => (if (bt362.2.2 != bt366.2.2) = true then (laws_FnKnown.j0 k l1 bt355.1 bt362.2.2 true bt355.2.1 bt355.2.2.1 bt355.2.2.2.1 bt355.2.2.2.2 bt362.1 bt362.2.1) else (if (!(bt362.1 == bt366.1) || (!(bt362.2.1 == bt366.2.1))) = true then (laws_FnKnown.j0 k l1 bt355.1 bt362.2.2 true bt355.2.1 bt355.2.2.1 bt355.2.2.2.1 bt355.2.2.2.2 bt362.1 bt362.2.1) else ((impl_GoodKnown.f bt355.2.1 bt355.2.2.1).bind fun t370 => ((spec_GoodKnown.f bt355.2.1 bt355.2.2.1).bind fun t371 => (laws_FnKnown.j0 k l1 bt355.1 bt362.2.2 (t370 != t371) bt355.2.1 bt355.2.2.1 bt355.2.2.2.1 bt355.2.2.2.2 bt362.1 bt362.2.1))))))))
theorem laws_FnKnown.mono_l : ∀ k, (∀ y0 y1 y2 y3 y4 y5 y6 y7 y8 y9, LeO (laws_FnKnown.j0 k y0 y1 y2 y3 y4 y5 y6 y7 y8 y9) (laws_FnKnown.j0 (k + 1) y0 y1 y2 y3 y4 y5 y6 y7 y8 y9)) ∧ (∀ y0, LeO (laws_FnKnown.j7 k y0) (laws_FnKnown.j7 (k + 1) y0)) ∧ (∀ y0 y1 y2 y3 y4 y5 y6 y7 y8 y9 y10, LeO (laws_FnKnown.j1 k y0 y1 y2 y3 y4 y5 y6 y7 y8 y9 y10) (laws_FnKnown.j1 (k + 1) y0 y1 y2 y3 y4 y5 y6 y7 y8 y9 y10)) ∧ (∀ y0 y1 y2 y3 y4 y5 y6 y7 y8 y9 y10 y11 y12 y13 y14, LeO (laws_FnKnown.l0 k y0 y1 y2 y3 y4 y5 y6 y7 y8 y9 y10 y11 y12 y13 y14) (laws_FnKnown.l0 (k + 1) y0 y1 y2 y3 y4 y5 y6 y7 y8 y9 y10 y11 y12 y13 y14)) ∧ (∀ y0 y1 y2 y3 y4 y5 y6 y7 y8 y9 y10 y11 y12 y13 y14 y15, LeO (laws_FnKnown.j3 k y0 y1 y2 y3 y4 y5 y6 y7 y8 y9 y10 y11 y12 y13 y14 y15) (laws_FnKnown.j3 (k + 1) y0 y1 y2 y3 y4 y5 y6 y7 y8 y9 y10 y11 y12 y13 y14 y15)) ∧ (∀ y0 y1 y2 y3 y4 y5 y6 y7 y8 y9 y10 y11 y12 y13 y14 y15, LeO (laws_FnKnown.l1 k y0 y1 y2 y3 y4 y5 y6 y7 y8 y9 y10 y11 y12 y13 y14 y15) (laws_FnKnown.l1 (k + 1) y0 y1 y2 y3 y4 y5 y6 y7 y8 y9 y10 y11 y12 y13 y14 y15)) ∧ (∀ y0 y1 y2 y3 y4 y5 y6 y7 y8 y9 y10 y11 y12 y13 y14 y15 y16, LeO (laws_FnKnown.j5 k y0 y1 y2 y3 y4 y5 y6 y7 y8 y9 y10 y11 y12 y13 y14 y15 y16) (laws_FnKnown.j5 (k + 1) y0 y1 y2 y3 y4 y5 y6 y7 y8 y9 y10 y11 y12 y13 y14 y15 y16)) ∧ (∀ y0 y1 y2 y3 y4 y5 y6 y7 y8 y9 y10 y11 y12 y13 y14 y15 y16 y17, LeO (laws_FnKnown.j6 k y0 y1 y2 y3 y4 y5 y6 y7 y8 y9 y10 y11 y12 y13 y14 y15 y16 y17) (laws_FnKnown.j6 (k + 1) y0 y1 y2 y3 y4 y5 y6 y7 y8 y9 y10 y11 y12 y13 y14 y15 y16 y17))
  | 0 => ⟨fun _ _ _ _ _ _ _ _ _ _ r h => by simp [laws_FnKnown.j0] at h, fun _ r h => by simp [laws_FnKnown.j7] at h, fun _ _ _ _ _ _ _ _ _ _ _ r h => by simp [laws_FnKnown.j1] at h, fun _ _ _ _ _ _ _ _ _ _ _ _ _ _ _ r h => by simp [laws_FnKnown.l0] at h, fun _ _ _ _ _ _ _ _ _ _ _ _ _ _ _ _ r h => by simp [laws_FnKnown.j3] at h, fun _ _ _ _ _ _ _ _ _ _ _ _ _ _ _ _ r h => by simp [laws_FnKnown.l1] at h, fun _ _ _ _ _ _ _ _ _ _ _ _ _ _ _ _ _ r h => by simp [laws_FnKnown.j5] at h, fun _ _ _ _ _ _ _ _ _ _ _ _ _ _ _ _ _ _ r h => by simp [laws_FnKnown.j6] at h⟩
  | k + 1 => by
    obtain ⟨ih0, ih1, ih2, ih3, ih4, ih5, ih6, ih7⟩ := laws_FnKnown.mono_l k
    refine ⟨?_, ?_, ?_, ?_, ?_, ?_, ?_, ?_⟩
    · intro y0 y1 y2 y3 y4 y5 y6 y7 y8 y9
      unfold laws_FnKnown.j0
      repeat' first
      | (with_reducible exact ih0 _ _ _ _ _ _ _ _ _ _)
      | (with_reducible exact ih1 _)
      | (with_reducible exact ih2 _ _ _ _ _ _ _ _ _ _ _)
      | (with_reducible exact ih3 _ _ _ _ _ _ _ _ _ _ _ _ _ _ _)
      | (with_reducible exact ih4 _ _ _ _ _ _ _ _ _ _ _ _ _ _ _ _)
      | (with_reducible exact ih5 _ _ _ _ _ _ _ _ _ _ _ _ _ _ _ _)
      | (with_reducible exact ih6 _ _ _ _ _ _ _ _ _ _ _ _ _ _ _ _ _)
      | (with_reducible exact ih7 _ _ _ _ _ _ _ _ _ _ _ _ _ _ _ _ _ _)
      | (with_reducible exact impl_DoKnown.mono _ _ _ _ _ _)
      | (with_reducible exact impl_NumberAt.mono _ _ _ _)
      | (with_reducible exact spec_DoKnown.mono _ _ _ _ _ _)
      | (with_reducible exact spec_DrawDoKnown.mono _ _)
      | (with_reducible exact spec_DrawMayBe.mono _ _)
      | (with_reducible exact spec_DrawNumberAt.mono _ _)
      | (with_reducible exact spec_NumberAt.mono _ _ _ _)
      | (with_reducible exact spec_WaysOf.mono _ _ _)
      | (with_reducible exact LeO.refl _)
      | (with_reducible exact LeO.none _)
      | (with_reducible refine LeO.ite ?_ ?_)
      | (with_reducible refine LeO.bind ?_ (fun _ => ?_))
      | exact ih0 _ _ _ _ _ _ _ _ _ _
      | exact ih1 _
      | exact ih2 _ _ _ _ _ _ _ _ _ _ _
      | exact ih3 _ _ _ _ _ _ _ _ _ _ _ _ _ _ _
      | exact ih4 _ _ _ _ _ _ _ _ _ _ _ _ _ _ _ _
      | exact ih5 _ _ _ _ _ _ _ _ _ _ _ _ _ _ _ _
      | exact ih6 _ _ _ _ _ _ _ _ _ _ _ _ _ _ _ _ _
      | exact ih7 _ _ _ _ _ _ _ _ _ _ _ _ _ _ _ _ _ _
      | exact impl_DoKnown.mono _ _ _ _ _ _
      | exact impl_NumberAt.mono _ _ _ _
      | exact spec_DoKnown.mono _ _ _ _ _ _
      | exact spec_DrawDoKnown.mono _ _
      | exact spec_DrawMayBe.mono _ _
      | exact spec_DrawNumberAt.mono _ _
      | exact spec_NumberAt.mono _ _ _ _
      | exact spec_WaysOf.mono _ _ _
      | exact LeO.none _
      | refine LeO.ite ?_ ?_
      | refine LeO.bind ?_ (fun _ => ?_)
    · intro y0
      unfold laws_FnKnown.j7
      repeat' first
      | (with_reducible exact ih0 _ _ _ _ _ _ _ _ _ _)
      | (with_reducible exact ih1 _)
      | (with_reducible exact ih2 _ _ _ _ _ _ _ _ _ _ _)
      | (with_reducible exact ih3 _ _ _ _ _ _ _ _ _ _ _ _ _ _ _)
      | (with_reducible exact ih4 _ _ _ _ _ _ _ _ _ _ _ _ _ _ _ _)
      | (with_reducible exact ih5 _ _ _ _ _ _ _ _ _ _ _ _ _ _ _ _)
      | (with_reducible exact ih6 _ _ _ _ _ _ _ _ _ _ _ _ _ _ _ _ _)
      | (with_reducible exact ih7 _ _ _ _ _ _ _ _ _ _ _ _ _ _ _ _ _ _)
      | (with_reducible exact impl_DoKnown.mono _ _ _ _ _ _)
      | (with_reducible exact impl_NumberAt.mono _ _ _ _)
      | (with_reducible exact spec_DoKnown.mono _ _ _ _ _ _)
      | (with_reducible exact spec_DrawDoKnown.mono _ _)
      | (with_reducible exact spec_DrawMayBe.mono _ _)
      | (with_reducible exact spec_DrawNumberAt.mono _ _)
      | (with_reducible exact spec_NumberAt.mono _ _ _ _)
      | (with_reducible exact spec_WaysOf.mono _ _ _)
      | (with_reducible exact LeO.refl _)
      | (with_reducible exact LeO.none _)
      | (with_reducible refine LeO.ite ?_ ?_)
      | (with_reducible refine LeO.bind ?_ (fun _ => ?_))
      | exact ih0 _ _ _ _ _ _ _ _ _ _
      | exact ih1 _
      | exact ih2 _ _ _ _ _ _ _ _ _ _ _
      | exact ih3 _ _ _ _ _ _ _ _ _ _ _ _ _ _ _
      | exact ih4 _ _ _ _ _ _ _ _ _ _ _ _ _ _ _ _
      | exact ih5 _ _ _ _ _ _ _ _ _ _ _ _ _ _ _ _
      | exact ih6 _ _ _ _ _ _ _ _ _ _ _ _ _ _ _ _ _
      | exact ih7 _ _ _ _ _ _ _ _ _ _ _ _ _ _ _ _ _ _
      | exact impl_DoKnown.mono _ _ _ _ _ _
      | exact impl_NumberAt.mono _ _ _ _
      | exact spec_DoKnown.mono _ _ _ _ _ _
      | exact spec_DrawDoKnown.mono _ _
      | exact spec_DrawMayBe.mono _ _
      | exact spec_DrawNumberAt.mono _ _
      | exact spec_NumberAt.mono _ _ _ _
      | exact spec_WaysOf.mono _ _ _
      | exact LeO.none _
      | refine LeO.ite ?_ ?_
      | refine LeO.bind ?_ (fun _ => ?_)
    · intro y0 y1 y2 y3 y4 y5 y6 y7 y8 y9 y10
      unfold laws_FnKnown.j1
      repeat' first
      | (with_reducible exact ih0 _ _ _ _ _ _ _ _ _ _)
      | (with_reducible exact ih1 _)
      | (with_reducible exact ih2 _ _ _ _ _ _ _ _ _ _ _)
      | (with_reducible exact ih3 _ _ _ _ _ _ _ _ _ _ _ _ _ _ _)
      | (with_reducible exact ih4 _ _ _ _ _ _ _ _ _ _ _ _ _ _ _ _)
      | (with_reducible exact ih5 _ _ _ _ _ _ _ _ _ _ _ _ _ _ _ _)
      | (with_reducible exact ih6 _ _ _ _ _ _ _ _ _ _ _ _ _ _ _ _ _)
      | (with_reducible exact ih7 _ _ _ _ _ _ _ _ _ _ _ _ _ _ _ _ _ _)
      | (with_reducible exact impl_DoKnown.mono _ _ _ _ _ _)
      | (with_reducible exact impl_NumberAt.mono _ _ _ _)
      | (with_reducible exact spec_DoKnown.mono _ _ _ _ _ _)
      | (with_reducible exact spec_DrawDoKnown.mono _ _)
      | (with_reducible exact spec_DrawMayBe.mono _ _)
      | (with_reducible exact spec_DrawNumberAt.mono _ _)
      | (with_reducible exact spec_NumberAt.mono _ _ _ _)
      | (with_reducible exact spec_WaysOf.mono _ _ _)
      | (with_reducible exact LeO.refl _)
      | (with_reducible exact LeO.none _)
      | (with_reducible refine LeO.ite ?_ ?_)
      | (with_reducible refine LeO.bind ?_ (fun _ => ?_))
      | exact ih0 _ _ _ _ _ _ _ _ _ _
      | exact ih1 _
      | exact ih2 _ _ _ _ _ _ _ _ _ _ _
      | exact ih3 _ _ _ _ _ _ _ _ _ _ _ _ _ _ _
      | exact ih4 _ _ _ _ _ _ _ _ _ _ _ _ _ _ _ _
      | exact ih5 _ _ _ _ _ _ _ _ _ _ _ _ _ _ _ _
      | exact ih6 _ _ _ _ _ _ _ _ _ _ _ _ _ _ _ _ _
      | exact ih7 _ _ _ _ _ _ _ _ _ _ _ _ _ _ _ _ _ _
      | exact impl_DoKnown.mono _ _ _ _ _ _
      | exact impl_NumberAt.mono _ _ _ _
      | exact spec_DoKnown.mono _ _ _ _ _ _
      | exact spec_DrawDoKnown.mono _ _
      | exact spec_DrawMayBe.mono _ _
      | exact spec_DrawNumberAt.mono _ _
      | exact spec_NumberAt.mono _ _ _ _
      | exact spec_WaysOf.mono _ _ _
      | exact LeO.none _
      | refine LeO.ite ?_ ?_
      | refine LeO.bind ?_ (fun _ => ?_)
    · intro y0 y1 y2 y3 y4 y5 y6 y7 y8 y9 y10 y11 y12 y13 y14
      unfold laws_FnKnown.l0
      repeat' first
      | (with_reducible exact ih0 _ _ _ _ _ _ _ _ _ _)
      | (with_reducible exact ih1 _)
      | (with_reducible exact ih2 _ _ _ _ _ _ _ _ _ _ _)
      | (with_reducible exact ih3 _ _ _ _ _ _ _ _ _ _ _ _ _ _ _)
      | (with_reducible exact ih4 _ _ _ _ _ _ _ _ _ _ _ _ _ _ _ _)
      | (with_reducible exact ih5 _ _ _ _ _ _ _ _ _ _ _ _ _ _ _ _)
      | (with_reducible exact ih6 _ _ _ _ _ _ _ _ _ _ _ _ _ _ _ _ _)
      | (with_reducible exact ih7 _ _ _ _ _ _ _ _ _ _ _ _ _ _ _ _ _ _)
      | (with_reducible exact impl_DoKnown.mono _ _ _ _ _ _)
      | (with_reducible exact impl_NumberAt.mono _ _ _ _)
      | (with_reducible exact spec_DoKnown.mono _ _ _ _ _ _)
      | (with_reducible exact spec_DrawDoKnown.mono _ _)
      | (with_reducible exact spec_DrawMayBe.mono _ _)
      | (with_reducible exact spec_DrawNumberAt.mono _ _)
      | (with_reducible exact spec_NumberAt.mono _ _ _ _)
      | (with_reducible exact spec_WaysOf.mono _ _ _)
      | (with_reducible exact LeO.refl _)
      | (with_reducible exact LeO.none _)
      | (with_reducible refine LeO.ite ?_ ?_)
      | (with_reducible refine LeO.bind ?_ (fun _ => ?_))
      | exact ih0 _ _ _ _ _ _ _ _ _ _
      | exact ih1 _
      | exact ih2 _ _ _ _ _ _ _ _ _ _ _
      | exact ih3 _ _ _ _ _ _ _ _ _ _ _ _ _ _ _
      | exact ih4 _ _ _ _ _ _ _ _ _ _ _ _ _ _ _ _
      | exact ih5 _ _ _ _ _ _ _ _ _ _ _ _ _ _ _ _
      | exact ih6 _ _ _ _ _ _ _ _ _ _ _ _ _ _ _ _ _
      | exact ih7 _ _ _ _ _ _ _ _ _ _ _ _ _ _ _ _ _ _
      | exact impl_DoKnown.mono _ _ _ _ _ _
      | exact impl_NumberAt.mono _ _ _ _
      | exact spec_DoKnown.mono _ _ _ _ _ _
      | exact spec_DrawDoKnown.mono _ _
      | exact spec_DrawMayBe.mono _ _
      | exact spec_DrawNumberAt.mono _ _
      | exact spec_NumberAt.mono _ _ _ _
      | exact spec_WaysOf.mono _ _ _
      | exact LeO.none _
      | refine LeO.ite ?_ ?_
      | refine LeO.bind ?_ (fun _ => ?_)
    · intro y0 y1 y2 y3 y4 y5 y6 y7 y8 y9 y10 y11 y12 y13 y14 y15
      unfold laws_FnKnown.j3
      repeat' first
      | (with_reducible exact ih0 _ _ _ _ _ _ _ _ _ _)
      | (with_reducible exact ih1 _)
      | (with_reducible exact ih2 _ _ _ _ _ _ _ _ _ _ _)
      | (with_reducible exact ih3 _ _ _ _ _ _ _ _ _ _ _ _ _ _ _)
      | (with_reducible exact ih4 _ _ _ _ _ _ _ _ _ _ _ _ _ _ _ _)
      | (with_reducible exact ih5 _ _ _ _ _ _ _ _ _ _ _ _ _ _ _ _)
      | (with_reducible exact ih6 _ _ _ _ _ _ _ _ _ _ _ _ _ _ _ _ _)
      | (with_reducible exact ih7 _ _ _ _ _ _ _ _ _ _ _ _ _ _ _ _ _ _)
      | (with_reducible exact impl_DoKnown.mono _ _ _ _ _ _)
      | (with_reducible exact impl_NumberAt.mono _ _ _ _)
      | (with_reducible exact spec_DoKnown.mono _ _ _ _ _ _)
      | (with_reducible exact spec_DrawDoKnown.mono _ _)
      | (with_reducible exact spec_DrawMayBe.mono _ _)
      | (with_reducible exact spec_DrawNumberAt.mono _ _)
      | (with_reducible exact spec_NumberAt.mono _ _ _ _)
      | (with_reducible exact spec_WaysOf.mono _ _ _)
      | (with_reducible exact LeO.refl _)
      | (with_reducible exact LeO.none _)
      | (with_reducible refine LeO.ite ?_ ?_)
      | (with_reducible refine LeO.bind ?_ (fun _ => ?_))
      | exact ih0 _ _ _ _ _ _ _ _ _ _
      | exact ih1 _
      | exact ih2 _ _ _ _ _ _ _ _ _ _ _
      | exact ih3 _ _ _ _ _ _ _ _ _ _ _ _ _ _ _
      | exact ih4 _ _ _ _ _ _ _ _ _ _ _ _ _ _ _ _
      | exact ih5 _ _ _ _ _ _ _ _ _ _ _ _ _ _ _ _
      | exact ih6 _ _ _ _ _ _ _ _ _ _ _ _ _ _ _ _ _
      | exact ih7 _ _ _ _ _ _ _ _ _ _ _ _ _ _ _ _ _ _
      | exact impl_DoKnown.mono _ _ _ _ _ _
      | exact impl_NumberAt.mono _ _ _ _
      | exact spec_DoKnown.mono _ _ _ _ _ _
      | exact spec_DrawDoKnown.mono _ _
      | exact spec_DrawMayBe.mono _ _
      | exact spec_DrawNumberAt.mono _ _
      | exact spec_NumberAt.mono _ _ _ _
      | exact spec_WaysOf.mono _ _ _
      | exact LeO.none _
      | refine LeO.ite ?_ ?_
      | refine LeO.bind ?_ (fun _ => ?_)
    · intro y0 y1 y2 y3 y4 y5 y6 y7 y8 y9 y10 y11 y12 y13 y14 y15
      unfold laws_FnKnown.l1
      repeat' first
      | (with_reducible exact ih0 _ _ _ _ _ _ _ _ _ _)
      | (with_reducible exact ih1 _)
      | (with_reducible exact ih2 _ _ _ _ _ _ _ _ _ _ _)
      | (with_reducible exact ih3 _ _ _ _ _ _ _ _ _ _ _ _ _ _ _)
      | (with_reducible exact ih4 _ _ _ _ _ _ _ _ _ _ _ _ _ _ _ _)
      | (with_reducible exact ih5 _ _ _ _ _ _ _ _ _ _ _ _ _ _ _ _)
      | (with_reducible exact ih6 _ _ _ _ _ _ _ _ _ _ _ _ _ _ _ _ _)
      | (with_reducible exact ih7 _ _ _ _ _ _ _ _ _ _ _ _ _ _ _ _ _ _)
      | (with_reducible exact impl_DoKnown.mono _ _ _ _ _ _)
      | (with_reducible exact impl_NumberAt.mono _ _ _ _)
      | (with_reducible exact spec_DoKnown.mono _ _ _ _ _ _)
      | (with_reducible exact spec_DrawDoKnown.mono _ _)
      | (with_reducible exact spec_DrawMayBe.mono _ _)
      | (with_reducible exact spec_DrawNumberAt.mono _ _)
      | (with_reducible exact spec_NumberAt.mono _ _ _ _)
      | (with_reducible exact spec_WaysOf.mono _ _ _)
      | (with_reducible exact LeO.refl _)
      | (with_reducible exact LeO.none _)
      | (with_reducible refine LeO.ite ?_ ?_)
      | (with_reducible refine LeO.bind ?_ (fun _ => ?_))
      | exact ih0 _ _ _ _ _ _ _ _ _ _
      | exact ih1 _
      | exact ih2 _ _ _ _ _ _ _ _ _ _ _
      | exact ih3 _ _ _ _ _ _ _ _ _ _ _ _ _ _ _
      | exact ih4 _ _ _ _ _ _ _ _ _ _ _ _ _ _ _ _
      | exact ih5 _ _ _ _ _ _ _ _ _ _ _ _ _ _ _ _
      | exact ih6 _ _ _ _ _ _ _ _ _ _ _ _ _ _ _ _ _
      | exact ih7 _ _ _ _ _ _ _ _ _ _ _ _ _ _ _ _ _ _
      | exact impl_DoKnown.mono _ _ _ _ _ _
      | exact impl_NumberAt.mono _ _ _ _
      | exact spec_DoKnown.mono _ _ _ _ _ _
      | exact spec_DrawDoKnown.mono _ _
      | exact spec_DrawMayBe.mono _ _
      | exact spec_DrawNumberAt.mono _ _
      | exact spec_NumberAt.mono _ _ _ _
      | exact spec_WaysOf.mono _ _ _
      | exact LeO.none _
      | refine LeO.ite ?_ ?_
      | refine LeO.bind ?_ (fun _ => ?_)
    · intro y0 y1 y2 y3 y4 y5 y6 y7 y8 y9 y10 y11 y12 y13 y14 y15 y16
      unfold laws_FnKnown.j5
      repeat' first
      | (with_reducible exact ih0 _ _ _ _ _ _ _ _ _ _)
      | (with_reducible exact ih1 _)
      | (with_reducible exact ih2 _ _ _ _ _ _ _ _ _ _ _)
      | (with_reducible exact ih3 _ _ _ _ _ _ _ _ _ _ _ _ _ _ _)
      | (with_reducible exact ih4 _ _ _ _ _ _ _ _ _ _ _ _ _ _ _ _)
      | (with_reducible exact ih5 _ _ _ _ _ _ _ _ _ _ _ _ _ _ _ _)
      | (with_reducible exact ih6 _ _ _ _ _ _ _ _ _ _ _ _ _ _ _ _ _)
      | (with_reducible exact ih7 _ _ _ _ _ _ _ _ _ _ _ _ _ _ _ _ _ _)
      | (with_reducible exact impl_DoKnown.mono _ _ _ _ _ _)
      | (with_reducible exact impl_NumberAt.mono _ _ _ _)
      | (with_reducible exact spec_DoKnown.mono _ _ _ _ _ _)
      | (with_reducible exact spec_DrawDoKnown.mono _ _)
      | (with_reducible exact spec_DrawMayBe.mono _ _)
      | (with_reducible exact spec_DrawNumberAt.mono _ _)
      | (with_reducible exact spec_NumberAt.mono _ _ _ _)
      | (with_reducible exact spec_WaysOf.mono _ _ _)
      | (with_reducible exact LeO.refl _)
      | (with_reducible exact LeO.none _)
      | (with_reducible refine LeO.ite ?_ ?_)
      | (with_reducible refine LeO.bind ?_ (fun _ => ?_))
      | exact ih0 _ _ _ _ _ _ _ _ _ _
      | exact ih1 _
      | exact ih2 _ _ _ _ _ _ _ _ _ _ _
      | exact ih3 _ _ _ _ _ _ _ _ _ _ _ _ _ _ _
      | exact ih4 _ _ _ _ _ _ _ _ _ _ _ _ _ _ _ _
      | exact ih5 _ _ _ _ _ _ _ _ _ _ _ _ _ _ _ _
      | exact ih6 _ _ _ _ _ _ _ _ _ _ _ _ _ _ _ _ _
      | exact ih7 _ _ _ _ _ _ _ _ _ _ _ _ _ _ _ _ _ _
      | exact impl_DoKnown.mono _ _ _ _ _ _
      | exact impl_NumberAt.mono _ _ _ _
      | exact spec_DoKnown.mono _ _ _ _ _ _
      | exact spec_DrawDoKnown.mono _ _
      | exact spec_DrawMayBe.mono _ _
      | exact spec_DrawNumberAt.mono _ _
      | exact spec_NumberAt.mono _ _ _ _
      | exact spec_WaysOf.mono _ _ _
      | exact LeO.none _
      | refine LeO.ite ?_ ?_
      | refine LeO.bind ?_ (fun _ => ?_)
    · intro y0 y1 y2 y3 y4 y5 y6 y7 y8 y9 y10 y11 y12 y13 y14 y15 y16 y17
      unfold laws_FnKnown.j6
      repeat' first
      | (with_reducible exact ih0 _ _ _ _ _ _ _ _ _ _)
      | (with_reducible exact ih1 _)
      | (with_reducible exact ih2 _ _ _ _ _ _ _ _ _ _ _)
      | (with_reducible exact ih3 _ _ _ _ _ _ _ _ _ _ _ _ _ _ _)
      | (with_reducible exact ih4 _ _ _ _ _ _ _ _ _ _ _ _ _ _ _ _)
      | (with_reducible exact ih5 _ _ _ _ _ _ _ _ _ _ _ _ _ _ _ _)
      | (with_reducible exact ih6 _ _ _ _ _ _ _ _ _ _ _ _ _ _ _ _ _)
      | (with_reducible exact ih7 _ _ _ _ _ _ _ _ _ _ _ _ _ _ _ _ _ _)
      | (with_reducible exact impl_DoKnown.mono _ _ _ _ _ _)
      | (with_reducible exact impl_NumberAt.mono _ _ _ _)
      | (with_reducible exact spec_DoKnown.mono _ _ _ _ _ _)
      | (with_reducible exact spec_DrawDoKnown.mono _ _)
      | (with_reducible exact spec_DrawMayBe.mono _ _)
      | (with_reducible exact spec_DrawNumberAt.mono _ _)
      | (with_reducible exact spec_NumberAt.mono _ _ _ _)
      | (with_reducible exact spec_WaysOf.mono _ _ _)
      | (with_reducible exact LeO.refl _)
      | (with_reducible exact LeO.none _)
      | (with_reducible refine LeO.ite ?_ ?_)
      | (with_reducible refine LeO.bind ?_ (fun _ => ?_))
      | exact ih0 _ _ _ _ _ _ _ _ _ _
      | exact ih1 _
      | exact ih2 _ _ _ _ _ _ _ _ _ _ _
      | exact ih3 _ _ _ _ _ _ _ _ _ _ _ _ _ _ _
      | exact ih4 _ _ _ _ _ _ _ _ _ _ _ _ _ _ _ _
      | exact ih5 _ _ _ _ _ _ _ _ _ _ _ _ _ _ _ _
      | exact ih6 _ _ _ _ _ _ _ _ _ _ _ _ _ _ _ _ _
      | exact ih7 _ _ _ _ _ _ _ _ _ _ _ _ _ _ _ _ _ _
      | exact impl_DoKnown.mono _ _ _ _ _ _
      | exact impl_NumberAt.mono _ _ _ _
      | exact spec_DoKnown.mono _ _ _ _ _ _
      | exact spec_DrawDoKnown.mono _ _
      | exact spec_DrawMayBe.mono _ _
      | exact spec_DrawNumberAt.mono _ _
      | exact spec_NumberAt.mono _ _ _ _
      | exact spec_WaysOf.mono _ _ _
      | exact LeO.none _
      | refine LeO.ite ?_ ?_
      | refine LeO.bind ?_ (fun _ => ?_)
theorem laws_FnKnown.mono : ∀ a0 a1 k, LeO (laws_FnKnown.f k a0 a1) (laws_FnKnown.f (k + 1) a0 a1) := by
  intro a0 a1 k
  obtain ⟨ih0, ih1, ih2, ih3, ih4, ih5, ih6, ih7⟩ := laws_FnKnown.mono_l k
  unfold laws_FnKnown.f
  repeat' first
      | (with_reducible exact ih0 _ _ _ _ _ _ _ _ _ _)
      | (with_reducible exact ih1 _)
      | (with_reducible exact ih2 _ _ _ _ _ _ _ _ _ _ _)
      | (with_reducible exact ih3 _ _ _ _ _ _ _ _ _ _ _ _ _ _ _)
      | (with_reducible exact ih4 _ _ _ _ _ _ _ _ _ _ _ _ _ _ _ _)
      | (with_reducible exact ih5 _ _ _ _ _ _ _ _ _ _ _ _ _ _ _ _)
      | (with_reducible exact ih6 _ _ _ _ _ _ _ _ _ _ _ _ _ _ _ _ _)
      | (with_reducible exact ih7 _ _ _ _ _ _ _ _ _ _ _ _ _ _ _ _ _ _)
      | (with_reducible exact impl_DoKnown.mono _ _ _ _ _ _)
      | (with_reducible exact impl_NumberAt.mono _ _ _ _)
      | (with_reducible exact spec_DoKnown.mono _ _ _ _ _ _)
      | (with_reducible exact spec_DrawDoKnown.mono _ _)
      | (with_reducible exact spec_DrawMayBe.mono _ _)
      | (with_reducible exact spec_DrawNumberAt.mono _ _)
      | (with_reducible exact spec_NumberAt.mono _ _ _ _)
      | (with_reducible exact spec_WaysOf.mono _ _ _)
      | (with_reducible exact LeO.refl _)
      | (with_reducible exact LeO.none _)
      | (with_reducible refine LeO.ite ?_ ?_)
      | (with_reducible refine LeO.bind ?_ (fun _ => ?_))
      | exact ih0 _ _ _ _ _ _ _ _ _ _
      | exact ih1 _
      | exact ih2 _ _ _ _ _ _ _ _ _ _ _
      | exact ih3 _ _ _ _ _ _ _ _ _ _ _ _ _ _ _
      | exact ih4 _ _ _ _ _ _ _ _ _ _ _ _ _ _ _ _
      | exact ih5 _ _ _ _ _ _ _ _ _ _ _ _ _ _ _ _
      | exact ih6 _ _ _ _ _ _ _ _ _ _ _ _ _ _ _ _ _
      | exact ih7 _ _ _ _ _ _ _ _ _ _ _ _ _ _ _ _ _ _
      | exact impl_DoKnown.mono _ _ _ _ _ _
      | exact impl_NumberAt.mono _ _ _ _
      | exact spec_DoKnown.mono _ _ _ _ _ _
      | exact spec_DrawDoKnown.mono _ _
      | exact spec_DrawMayBe.mono _ _
      | exact spec_DrawNumberAt.mono _ _
      | exact spec_NumberAt.mono _ _ _ _
      | exact spec_WaysOf.mono _ _ _
      | exact LeO.none _
      | refine LeO.ite ?_ ?_
      | refine LeO.bind ?_ (fun _ => ?_)
def laws_FnKnown.T6 : Bool × List (List Nat × List Nat) := (true, [([], []), ([], []), ([0, 1], [0, 1]), ([2], [2]), ([3], [3]), ([3], [3]), ([4, 5, 3], [3, 4, 5]), ([3, 6], [3, 6]), ([7, 3], [7]), ([8], [8]), ([9, 8, 8], [8, 9]), ([8], [8]), ([11, 10, 8], [8, 11]), ([10, 12, 8], [8, 10, 12]), ([8, 13], [8, 13])])
def laws_FnKnown.B6 : List Nat := [0, 0, 3, 7, 15, 15, 63, 127, 255, 511, 1023, 511, 4095, 8191, 16383]
theorem laws_FnKnown.tab6 : rtab .any (opsOf Try.f10 6) = laws_FnKnown.T6 := by kernel_rfl
theorem laws_FnKnown.bits6 : waitsOk laws_FnKnown.T6.2 laws_FnKnown.B6 = true := by kernel_rfl
theorem laws_FnKnown.j0_no_3 {k : Nat} {y0 : List Int} {y1 : Int} {y2 : Bool} {y4 : Int} {y5 : Int} {y6 : Int} {y7 : Int} {y8 : Int} {y9 : Int} (h : laws_FnKnown.j0 k y0 y1 y2 true y4 y5 y6 y7 y8 y9 = some true) : False := by
  cases k <;> simp [laws_FnKnown.j0] at h
theorem laws_FnKnown.j1_no_4 {k : Nat} {y0 : List Int} {y1 : Int} {y2 : Int} {y3 : Int} {y5 : Int} {y6 : Int} {y7 : Int} {y8 : Int} {y9 : Int} {y10 : Int} (h : laws_FnKnown.j1 k y0 y1 y2 y3 true y5 y6 y7 y8 y9 y10 = some true) : False := by
  cases k <;> simp [laws_FnKnown.j1] at h
theorem laws_FnKnown.j6_no_9 {k : Nat} {y0 : List Int} {y1 : Int} {y2 : Int} {y3 : Int} {y4 : Bool} {y5 : Bool} {y6 : Int} {y7 : Int} {y8 : Int} {y10 : Int} {y11 : Int} {y12 : Int} {y13 : Int} {y14 : Int} {y15 : Int} {y16 : Int} {y17 : Int} (h : laws_FnKnown.j6 k y0 y1 y2 y3 y4 y5 y6 y7 y8 true y10 y11 y12 y13 y14 y15 y16 y17 = some true) : False := by
  cases k <;> simp [laws_FnKnown.j6] at h
set_option maxHeartbeats 8000000 in
set_option maxRecDepth 100000 in
theorem laws_FnKnown.calls (k : Nat) (A0 : Option Addr) (c0 : Nat) (l0 : List Int) (A1 : Option Addr) (c1 : Nat) (l1 : List Int) (r : Bool) (w : World) (hr0 : Kd.C (Kd.int .u8) w A0 l0.length l0) (hc0 : l0.length ≤ c0) (hr1 : Kd.C (Kd.int .u8) w A1 l1.length l1) (hc1 : l1.length ≤ c1) (hr_ : Aside0 (r = true)) (h : laws_FnKnown.f k l0 l1 = some r) :
    Calls Try.prog 10 #[.slice A0 l0.length c0, .slice A1 l1.length c1] w fun e w' => e = .returned (.bool r) ∧ Below w.heap.size w w' := by
  have hu26 := Try.underlying26
  have HR0 := Aside0.mk hr0
  have HC0 := Aside0.mk hc0
  clear hr0 hc0
  have HR1 := Aside0.mk hr1
  have HC1 := Aside0.mk hc1
  clear hr1 hc1
  have HB := Aside0.mk (Below.refl w.heap.size w)
  have H : (if (wrap64 ((l0.length : Int) + (l1.length : Int))) > 1048576 then (some true) else ((spec_DrawDoKnown.f k l0).bind fun bt355 => ((impl_DoKnown.f k bt355.1 bt355.2.1 bt355.2.2.1 bt355.2.2.2.1 bt355.2.2.2.2).bind fun bt362 => ((spec_DoKnown.f k bt355.1 bt355.2.1 bt355.2.2.1 bt355.2.2.2.1 bt355.2.2.2.2).bind fun bt366 => (if (bt362.2.2 != bt366.2.2) = true then (laws_FnKnown.j0 k l1 bt355.1 bt362.2.2 true bt355.2.1 bt355.2.2.1 bt355.2.2.2.1 bt355.2.2.2.2 bt362.1 bt362.2.1) else (if (!(bt362.1 == bt366.1) || (!(bt362.2.1 == bt366.2.1))) = true then (laws_FnKnown.j0 k l1 bt355.1 bt362.2.2 true bt355.2.1 bt355.2.2.1 bt355.2.2.2.1 bt355.2.2.2.2 bt362.1 bt362.2.1) else ((impl_GoodKnown.f bt355.2.1 bt355.2.2.1).bind fun t370 => ((spec_GoodKnown.f bt355.2.1 bt355.2.2.1).bind fun t371 => (laws_FnKnown.j0 k l1 bt355.1 bt362.2.2 (t370 != t371) bt355.2.1 bt355.2.2.1 bt355.2.2.2.1 bt355.2.2.2.2 bt362.1 bt362.2.1))))))))) = some r := h
  clear h
  by_cases c3 : (wrap64 ((l0.length : Int) + (l1.length : Int))) > 1048576
  · rw [if_pos c3] at H
    have c3b0 : decide (1048576 < (wrap64 ((l0.length : Int) + (l1.length : Int)))) = true := decide_eq_true c3
    clear c3
    as_aux_lemma =>
      obtain rfl := Option.some.inj H
      go_enter Try.func10, Try.ntmps10
      go_wp2
      go_ret
      exact ⟨by first | rfl | (simp [errW_none, errW_some] <;> rfl) | (simp [*, errW_none, errW_some] <;> rfl), bq_⟩
  · rw [if_neg c3] at H
    have c3b0 : decide (1048576 < (wrap64 ((l0.length : Int) + (l1.length : Int)))) = false := decide_eq_false c3
    clear c3
    replace H := Option.bind_eq_some_iff.mp H
    obtain ⟨⟨t355, t356, t357, t358, t359⟩, A40, H⟩ := H
    replace H : ((impl_DoKnown.f k t355 t356 t357 t358 t359).bind fun bt362 => ((spec_DoKnown.f k t355 t356 t357 t358 t359).bind fun bt366 => (if (bt362.2.2 != bt366.2.2) = true then (laws_FnKnown.j0 k l1 t355 bt362.2.2 true t356 t357 t358 t359 bt362.1 bt362.2.1) else (if (!(bt362.1 == bt366.1) || (!(bt362.2.1 == bt366.2.1))) = true then (laws_FnKnown.j0 k l1 t355 bt362.2.2 true t356 t357 t358 t359 bt362.1 bt362.2.1) else ((impl_GoodKnown.f t356 t357).bind fun t370 => ((spec_GoodKnown.f t356 t357).bind fun t371 => (laws_FnKnown.j0 k l1 t355 bt362.2.2 (t370 != t371) t356 t357 t358 t359 bt362.1 bt362.2.1))))))) = some r := H
    have A4 := Aside0.mk A40
    clear A40
    replace H := Option.bind_eq_some_iff.mp H
    obtain ⟨⟨t362, t363, t364⟩, A50, H⟩ := H
    replace H : ((spec_DoKnown.f k t355 t356 t357 t358 t359).bind fun bt366 => (if (t364 != bt366.2.2) = true then (laws_FnKnown.j0 k l1 t355 t364 true t356 t357 t358 t359 t362 t363) else (if (!(t362 == bt366.1) || (!(t363 == bt366.2.1))) = true then (laws_FnKnown.j0 k l1 t355 t364 true t356 t357 t358 t359 t362 t363) else ((impl_GoodKnown.f t356 t357).bind fun t370 => ((spec_GoodKnown.f t356 t357).bind fun t371 => (laws_FnKnown.j0 k l1 t355 t364 (t370 != t371) t356 t357 t358 t359 t362 t363)))))) = some r := H
    have A5 := Aside0.mk A50
    clear A50
    replace H := Option.bind_eq_some_iff.mp H
    obtain ⟨⟨t366, t367, t368⟩, A60, H⟩ := H
    replace H : (if (t364 != t368) = true then (laws_FnKnown.j0 k l1 t355 t364 true t356 t357 t358 t359 t362 t363) else (if (!(t362 == t366) || (!(t363 == t367))) = true then (laws_FnKnown.j0 k l1 t355 t364 true t356 t357 t358 t359 t362 t363) else ((impl_GoodKnown.f t356 t357).bind fun t370 => ((spec_GoodKnown.f t356 t357).bind fun t371 => (laws_FnKnown.j0 k l1 t355 t364 (t370 != t371) t356 t357 t358 t359 t362 t363))))) = some r := H
    have A6 := Aside0.mk A60
    clear A60
    have HC7 := Aside0.mk H
    clear H
    go_enter Try.func10, Try.ntmps10
    go_upto_region 6 with (first | ((with_reducible refine gate_callee (f := 46) rfl ?_); refine goesL_ (some 56) rfl rfl Try.func46 (by kernel_rfl) rfl #[.slice A0 l0.length c0] rfl (by (try simp only [List.map_toArray, List.map_cons, List.map_nil]); first | done | rfl | (simp only [List.length_drop, List.length_take]; rfl)) ?_; (with_reducible refine (spec_DrawDoKnown.calls k _ _ l0 t355 t356 t357 t358 t359 _ ?side1 ?side2 A4.out).mono ?_); (case side1 => repeat (first | exact HR0.out | (with_reducible refine Kd.C_alloc ?_ _) | (with_reducible refine Kd.C_drewN ?_ _) | (with_reducible refine Kd.C_drew ?_))); (case side2 => exact HC0.out); rintro e w8 ⟨rfl, hb⟩; refine ⟨_, rfl, ?_⟩; have n0_ := Aside0.mk (below_step (bq_) hb); clear HB; have HB := n0_; clear n0_; (try clear hb); (try clear hb2); (try clear hk); (try clear hi)) | ((with_reducible refine gate_dst (N := 6) rfl ?_); refine boxq_ (N := 6) (cs := #[.int .i64 0, .int .i64 0]) (t := 26) ?_; intro gb360 hg w9 hbox hb; have n0_ := Aside0.mk (below_step (bq_) hb); have n1_ := Aside0.mk (hbox); have n2_ := Aside0.mk ((by rw [hg]; exact (below_size (bq_)) : w.heap.size ≤ gb360)); have n3_ := Aside0.mk ((by rw [hg]; exact (below_size (bq_)) : w.heap.size ≤ gb360)); clear HB; have HB := n0_; have BK360 := n1_; have GW360 := n2_; have GE360 := n3_; clear n0_ n1_ n2_ n3_; clear hb hbox hg) | ((with_reducible refine gate_dst (N := 7) rfl ?_); refine boxq_ (N := 7) (cs := #[.int .i64 0, .int .i64 0]) (t := 26) ?_; intro gb361 hg w10 hbox hb; have n0_ := Aside0.mk (blk_below (bk_ BK360.out) hb); have n1_ := Aside0.mk (below_step (bq_) hb); have n2_ := Aside0.mk (hbox); have n3_ := Aside0.mk ((by rw [hg]; exact (below_size (bq_)) : w.heap.size ≤ gb361)); have n4_ := Aside0.mk ((by rw [hg]; exact (below_size (bq_)) : w.heap.size ≤ gb361)); have n5_ := Aside0.mk ((by rw [hg]; exact Nat.ne_of_lt (blk_lt (bk_ BK360.out)) : gb360 ≠ gb361)); have n6_ := Aside0.mk ((by rw [hg]; exact Nat.ne_of_gt (blk_lt (bk_ BK360.out)) : gb361 ≠ gb360)); clear BK360; clear HB; have BK360 := n0_; have HB := n1_; have BK361 := n2_; have GW361 := n3_; have GE361 := n4_; have NB360_361 := n5_; have NB361_360 := n6_; clear n0_ n1_ n2_ n3_ n4_ n5_ n6_; clear hb hbox hg; have hnb11 := NB360_361.out; have hnc11 := NB361_360.out; have hcz12_0 := cq_ BK360.out 0 (.int .i64 0); have hcz12_1 := cq_ BK360.out 1 (.int .i64 0); have hfz12_0 := blk_frozen BK360.out 0; have hfz12_1 := blk_frozen BK360.out 1; have hcz13_0 := cq_ BK361.out 0 (.int .i64 0); have hcz13_1 := cq_ BK361.out 1 (.int .i64 0); have hfz13_0 := blk_frozen BK361.out 0; have hfz13_1 := blk_frozen BK361.out 1) | ((with_reducible refine gate_callee (f := 26) rfl ?_); refine goesL_ (some 64) rfl rfl Try.func26 (by kernel_rfl) rfl #[.int .i64 t355, .agg #[.int .i64 t356, .int .i64 t357], .agg #[.int .i64 t358, .int .i64 t359]] rfl (by (try simp only [List.map_toArray, List.map_cons, List.map_nil]); first | done | rfl | (simp only [List.length_drop, List.length_take]; rfl)) ?_; (with_reducible refine (impl_DoKnown.calls k t355 t356 t357 t358 t359 t362 t363 t364 _ A5.out).mono ?_); rintro e w14 ⟨rfl, hb⟩; refine ⟨_, rfl, ?_⟩; have n0_ := Aside0.mk (blk_below (g := gb360) (o := .cells #[.int .i64 t356, .int .i64 t357] 26 (0, 0)) (by (with_reducible repeat (first | refine blk_drewN ?_ _ | refine blk_drew ?_ | refine blk_alloc ?_ _)); refine blk_far ?_ NB360_361.out _; (with_reducible repeat (first | refine blk_drewN ?_ _ | refine blk_drew ?_ | refine blk_alloc ?_ _)); refine blk_far ?_ NB360_361.out _; (with_reducible repeat (first | refine blk_drewN ?_ _ | refine blk_drew ?_ | refine blk_alloc ?_ _)); refine blk_put (cs := #[.int .i64 t356, .int .i64 0]) ?_ 1 _ rfl; (with_reducible repeat (first | refine blk_drewN ?_ _ | refine blk_drew ?_ | refine blk_alloc ?_ _)); refine blk_put (cs := #[.int .i64 0, .int .i64 0]) ?_ 0 _ rfl; (with_reducible repeat (first | refine blk_drewN ?_ _ | refine blk_drew ?_ | refine blk_alloc ?_ _)); exact BK360.out) hb); have n1_ := Aside0.mk (blk_below (g := gb361) (o := .cells #[.int .i64 t358, .int .i64 t359] 26 (0, 0)) (by (with_reducible repeat (first | refine blk_drewN ?_ _ | refine blk_drew ?_ | refine blk_alloc ?_ _)); refine blk_put (cs := #[.int .i64 t358, .int .i64 0]) ?_ 1 _ rfl; (with_reducible repeat (first | refine blk_drewN ?_ _ | refine blk_drew ?_ | refine blk_alloc ?_ _)); refine blk_put (cs := #[.int .i64 0, .int .i64 0]) ?_ 0 _ rfl; (with_reducible repeat (first | refine blk_drewN ?_ _ | refine blk_drew ?_ | refine blk_alloc ?_ _)); refine blk_far ?_ NB361_360.out _; (with_reducible repeat (first | refine blk_drewN ?_ _ | refine blk_drew ?_ | refine blk_alloc ?_ _)); refine blk_far ?_ NB361_360.out _; (with_reducible repeat (first | refine blk_drewN ?_ _ | refine blk_drew ?_ | refine blk_alloc ?_ _)); exact BK361.out) hb); have n2_ := Aside0.mk (below_step (bq_) hb); clear BK360; clear BK361; clear HB; have BK360 := n0_; have BK361 := n1_; have HB := n2_; clear n0_ n1_ n2_; (try clear hb); (try clear hb2); (try clear hk); (try clear hi)) | ((with_reducible refine gate_dst (N := 8) rfl ?_); refine boxq_ (N := 8) (cs := #[.int .i64 0, .int .i64 0]) (t := 26) ?_; intro gb365 hg w15 hbox hb; have n0_ := Aside0.mk (blk_below (bk_ BK360.out) hb); have n1_ := Aside0.mk (blk_below (bk_ BK361.out) hb); have n2_ := Aside0.mk (below_step (bq_) hb); have n3_ := Aside0.mk (hbox); have n4_ := Aside0.mk ((by rw [hg]; exact (below_size (bq_)) : w.heap.size ≤ gb365)); have n5_ := Aside0.mk ((by rw [hg]; exact (below_size (bq_)) : w.heap.size ≤ gb365)); have n6_ := Aside0.mk ((by rw [hg]; exact Nat.ne_of_lt (blk_lt (bk_ BK360.out)) : gb360 ≠ gb365)); have n7_ := Aside0.mk ((by rw [hg]; exact Nat.ne_of_gt (blk_lt (bk_ BK360.out)) : gb365 ≠ gb360)); have n8_ := Aside0.mk ((by rw [hg]; exact Nat.ne_of_lt (blk_lt (bk_ BK361.out)) : gb361 ≠ gb365)); have n9_ := Aside0.mk ((by rw [hg]; exact Nat.ne_of_gt (blk_lt (bk_ BK361.out)) : gb365 ≠ gb361)); clear BK360; clear BK361; clear HB; have BK360 := n0_; have BK361 := n1_; have HB := n2_; have BK365 := n3_; have GW365 := n4_; have GE365 := n5_; have NB360_365 := n6_; have NB365_360 := n7_; have NB361_365 := n8_; have NB365_361 := n9_; clear n0_ n1_ n2_ n3_ n4_ n5_ n6_ n7_ n8_ n9_; clear hb hbox hg; have hnb16 := NB365_360.out; have hnc16 := NB360_365.out; have hnb17 := NB365_361.out; have hnc17 := NB361_365.out; have hcz18_0 := cq_ BK365.out 0 (.int .i64 0); have hcz18_1 := cq_ BK365.out 1 (.int .i64 0); have hfz18_0 := blk_frozen BK365.out 0; have hfz18_1 := blk_frozen BK365.out 1; have hcz19_0 := cq_ BK360.out 0 (.int .i64 t356); have hcz19_1 := cq_ BK360.out 1 (.int .i64 t357); have hfz19_0 := blk_frozen BK360.out 0; have hfz19_1 := blk_frozen BK360.out 1; have hcz20_0 := cq_ BK361.out 0 (.int .i64 t358); have hcz20_1 := cq_ BK361.out 1 (.int .i64 t359); have hfz20_0 := blk_frozen BK361.out 0; have hfz20_1 := blk_frozen BK361.out 1) | ((with_reducible refine gate_callee (f := 25) rfl ?_); refine goesL_ (some 71) rfl rfl Try.func25 (by kernel_rfl) rfl #[.int .i64 t355, .agg #[.int .i64 t356, .int .i64 t357], .agg #[.int .i64 t358, .int .i64 t359]] rfl (by (try simp only [List.map_toArray, List.map_cons, List.map_nil]); first | done | rfl | (simp only [List.length_drop, List.length_take]; rfl)) ?_; (with_reducible refine (spec_DoKnown.calls k t355 t356 t357 t358 t359 t366 t367 t368 _ A6.out).mono ?_); rintro e w21 ⟨rfl, hb⟩; refine ⟨_, rfl, ?_⟩; have n0_ := Aside0.mk (blk_below (g := gb360) (o := .cells #[.int .i64 t356, .int .i64 t357] 26 (0, 0)) (by (with_reducible repeat (first | refine blk_drewN ?_ _ | refine blk_drew ?_ | refine blk_alloc ?_ _)); refine blk_far ?_ NB360_365.out _; (with_reducible repeat (first | refine blk_drewN ?_ _ | refine blk_drew ?_ | refine blk_alloc ?_ _)); refine blk_far ?_ NB360_365.out _; (with_reducible repeat (first | refine blk_drewN ?_ _ | refine blk_drew ?_ | refine blk_alloc ?_ _)); exact BK360.out) hb); have n1_ := Aside0.mk (blk_below (g := gb361) (o := .cells #[.int .i64 t358, .int .i64 t359] 26 (0, 0)) (by (with_reducible repeat (first | refine blk_drewN ?_ _ | refine blk_drew ?_ | refine blk_alloc ?_ _)); refine blk_far ?_ NB361_365.out _; (with_reducible repeat (first | refine blk_drewN ?_ _ | refine blk_drew ?_ | refine blk_alloc ?_ _)); refine blk_far ?_ NB361_365.out _; (with_reducible repeat (first | refine blk_drewN ?_ _ | refine blk_drew ?_ | refine blk_alloc ?_ _)); exact BK361.out) hb); have n2_ := Aside0.mk (blk_below (g := gb365) (o := .cells #[.int .i64 t362, .int .i64 t363] 26 (0, 0)) (by (with_reducible repeat (first | refine blk_drewN ?_ _ | refine blk_drew ?_ | refine blk_alloc ?_ _)); refine blk_put (cs := #[.int .i64 t362, .int .i64 0]) ?_ 1 _ rfl; (with_reducible repeat (first | refine blk_drewN ?_ _ | refine blk_drew ?_ | refine blk_alloc ?_ _)); refine blk_put (cs := #[.int .i64 0, .int .i64 0]) ?_ 0 _ rfl; (with_reducible repeat (first | refine blk_drewN ?_ _ | refine blk_drew ?_ | refine blk_alloc ?_ _)); exact BK365.out) hb); have n3_ := Aside0.mk (below_step (bq_) hb); clear BK360; clear BK361; clear BK365; clear HB; have BK360 := n0_; have BK361 := n1_; have BK365 := n2_; have HB := n3_; clear n0_ n1_ n2_ n3_; (try clear hb); (try clear hb2); (try clear hk); (try clear hi)) | ((with_reducible refine gate_dst (N := 10) rfl ?_); refine boxq_ (N := 10) (cs := #[.int .i64 0, .int .i64 0]) (t := 26) ?_; intro gb369 hg w22 hbox hb; have n0_ := Aside0.mk (blk_below (bk_ BK360.out) hb); have n1_ := Aside0.mk (blk_below (bk_ BK361.out) hb); have n2_ := Aside0.mk (blk_below (bk_ BK365.out) hb); have n3_ := Aside0.mk (below_step (bq_) hb); have n4_ := Aside0.mk (hbox); have n5_ := Aside0.mk ((by rw [hg]; exact (below_size (bq_)) : w.heap.size ≤ gb369)); have n6_ := Aside0.mk ((by rw [hg]; exact (below_size (bq_)) : w.heap.size ≤ gb369)); have n7_ := Aside0.mk ((by rw [hg]; exact Nat.ne_of_lt (blk_lt (bk_ BK360.out)) : gb360 ≠ gb369)); have n8_ := Aside0.mk ((by rw [hg]; exact Nat.ne_of_gt (blk_lt (bk_ BK360.out)) : gb369 ≠ gb360)); have n9_ := Aside0.mk ((by rw [hg]; exact Nat.ne_of_lt (blk_lt (bk_ BK361.out)) : gb361 ≠ gb369)); have n10_ := Aside0.mk ((by rw [hg]; exact Nat.ne_of_gt (blk_lt (bk_ BK361.out)) : gb369 ≠ gb361)); have n11_ := Aside0.mk ((by rw [hg]; exact Nat.ne_of_lt (blk_lt (bk_ BK365.out)) : gb365 ≠ gb369)); have n12_ := Aside0.mk ((by rw [hg]; exact Nat.ne_of_gt (blk_lt (bk_ BK365.out)) : gb369 ≠ gb365)); clear BK360; clear BK361; clear BK365; clear HB; have BK360 := n0_; have BK361 := n1_; have BK365 := n2_; have HB := n3_; have BK369 := n4_; have GW369 := n5_; have GE369 := n6_; have NB360_369 := n7_; have NB369_360 := n8_; have NB361_369 := n9_; have NB369_361 := n10_; have NB365_369 := n11_; have NB369_365 := n12_; clear n0_ n1_ n2_ n3_ n4_ n5_ n6_ n7_ n8_ n9_ n10_ n11_ n12_; clear hb hbox hg; have hnb23 := NB369_360.out; have hnc23 := NB360_369.out; have hnb24 := NB369_361.out; have hnc24 := NB361_369.out; have hnb25 := NB369_365.out; have hnc25 := NB365_369.out; have hcz26_0 := cq_ BK369.out 0 (.int .i64 0); have hcz26_1 := cq_ BK369.out 1 (.int .i64 0); have hfz26_0 := blk_frozen BK369.out 0; have hfz26_1 := blk_frozen BK369.out 1))
    (try simp only [Act.put, List.setIfInBounds_toArray, List.set_cons_zero, List.set_cons_succ])
    go_cut [88] (fun v88 wc => ∃ (kq : Nat) (x88_6 : Bool), v88 = .bool x88_6 ∧ Aside0 (laws_FnKnown.j0 kq l1 t355 t364 x88_6 t356 t357 t358 t359 t362 t363 = some r) ∧ Aside0 (kq ≤ k) ∧ Aside0 (wc.heap[gb360]? = some (.cells #[.int .i64 t356, .int .i64 t357] 26 (0, 0))) ∧ Aside0 (wc.heap[gb361]? = some (.cells #[.int .i64 t358, .int .i64 t359] 26 (0, 0))) ∧ Aside0 (wc.heap[gb365]? = some (.cells #[.int .i64 t362, .int .i64 t363] 26 (0, 0))) ∧ Aside0 (wc.heap[gb369]? = some (.cells #[.int .i64 t366, .int .i64 t367] 26 (0, 0))) ∧ Aside0 (Below w.heap.size w wc))
    case first =>
      have H := HC7.out
      clear HC7
      by_cases c27 : (t364 != t368) = true
      · rw [if_pos c27] at H
        have c27b0 : (t364 != t368) = true := c27
        (try (have c27b1 : decide (t364 = t368) = false := by simpa using c27))
        (try (have c27b2 : (t364 == t368) = false := by simpa using c27))
        (try (have c27b3 : ¬ (t364 = t368) := by simpa using c27))
        clear c27
        (first | rw [c27b0] | (simp only [i64_w, i32_w]; rw [c27b0]) | skip)
        exact (laws_FnKnown.j0_no_3 (by rw [hr_.out] at H; exact H)).elim
      · rw [if_neg c27] at H
        have c27b0 : (t364 != t368) = false := by simpa using c27
        (try (have c27b1 : decide (t364 = t368) = true := by simpa using c27))
        (try (have c27b2 : (t364 == t368) = true := by simpa using c27))
        clear c27
        (first | rw [c27b0] | (simp only [i64_w, i32_w]; rw [c27b0]) | skip)
        by_cases c28 : (!(t362 == t366) || (!(t363 == t367))) = true
        · rw [if_pos c28] at H
          have c28b0 : (!(t362 == t366) || (!(t363 == t367))) = true := c28
          clear c28
          exact (laws_FnKnown.j0_no_3 (by rw [hr_.out] at H; exact H)).elim
        · rw [if_neg c28] at H
          have c28b0 : (!(t362 == t366) || (!(t363 == t367))) = false := by simpa using c28
          clear c28
          replace H := Option.bind_eq_some_iff.mp H
          obtain ⟨t370, A290, H⟩ := H
          replace H : ((spec_GoodKnown.f t356 t357).bind fun t371 => (laws_FnKnown.j0 k l1 t355 t364 (t370 != t371) t356 t357 t358 t359 t362 t363)) = some r := H
          have A29 := Aside0.mk A290
          clear A290
          replace H := Option.bind_eq_some_iff.mp H
          obtain ⟨t371, A300, H⟩ := H
          replace H : (laws_FnKnown.j0 k l1 t355 t364 (t370 != t371) t356 t357 t358 t359 t362 t363) = some r := H
          have A30 := Aside0.mk A300
          clear A300
          as_aux_lemma =>
            have H' := Aside0.mk H
            clear H
            try go_wp2
            have n0_ : Aside0 (((w22.setCell ⟨gb369, 0, none⟩ (.int .i64 t366)).setCell ⟨gb369, 1, none⟩ (.int .i64 t367)).heap[gb360]? = some (.cells #[.int .i64 t356, .int .i64 t357] 26 (0, 0))) := ⟨by (with_reducible repeat (first | refine blk_drewN ?_ _ | refine blk_drew ?_ | refine blk_alloc ?_ _)); refine blk_far ?_ NB360_369.out _; (with_reducible repeat (first | refine blk_drewN ?_ _ | refine blk_drew ?_ | refine blk_alloc ?_ _)); refine blk_far ?_ NB360_369.out _; (with_reducible repeat (first | refine blk_drewN ?_ _ | refine blk_drew ?_ | refine blk_alloc ?_ _)); exact BK360.out⟩
            have n1_ : Aside0 (((w22.setCell ⟨gb369, 0, none⟩ (.int .i64 t366)).setCell ⟨gb369, 1, none⟩ (.int .i64 t367)).heap[gb361]? = some (.cells #[.int .i64 t358, .int .i64 t359] 26 (0, 0))) := ⟨by (with_reducible repeat (first | refine blk_drewN ?_ _ | refine blk_drew ?_ | refine blk_alloc ?_ _)); refine blk_far ?_ NB361_369.out _; (with_reducible repeat (first | refine blk_drewN ?_ _ | refine blk_drew ?_ | refine blk_alloc ?_ _)); refine blk_far ?_ NB361_369.out _; (with_reducible repeat (first | refine blk_drewN ?_ _ | refine blk_drew ?_ | refine blk_alloc ?_ _)); exact BK361.out⟩
            have n2_ : Aside0 (((w22.setCell ⟨gb369, 0, none⟩ (.int .i64 t366)).setCell ⟨gb369, 1, none⟩ (.int .i64 t367)).heap[gb365]? = some (.cells #[.int .i64 t362, .int .i64 t363] 26 (0, 0))) := ⟨by (with_reducible repeat (first | refine blk_drewN ?_ _ | refine blk_drew ?_ | refine blk_alloc ?_ _)); refine blk_far ?_ NB365_369.out _; (with_reducible repeat (first | refine blk_drewN ?_ _ | refine blk_drew ?_ | refine blk_alloc ?_ _)); refine blk_far ?_ NB365_369.out _; (with_reducible repeat (first | refine blk_drewN ?_ _ | refine blk_drew ?_ | refine blk_alloc ?_ _)); exact BK365.out⟩
            have n3_ : Aside0 (((w22.setCell ⟨gb369, 0, none⟩ (.int .i64 t366)).setCell ⟨gb369, 1, none⟩ (.int .i64 t367)).heap[gb369]? = some (.cells #[.int .i64 t366, .int .i64 t367] 26 (0, 0))) := ⟨by (with_reducible repeat (first | refine blk_drewN ?_ _ | refine blk_drew ?_ | refine blk_alloc ?_ _)); refine blk_put (cs := #[.int .i64 t366, .int .i64 0]) ?_ 1 _ rfl; (with_reducible repeat (first | refine blk_drewN ?_ _ | refine blk_drew ?_ | refine blk_alloc ?_ _)); refine blk_put (cs := #[.int .i64 0, .int .i64 0]) ?_ 0 _ rfl; (with_reducible repeat (first | refine blk_drewN ?_ _ | refine blk_drew ?_ | refine blk_alloc ?_ _)); exact BK369.out⟩
            have n4_ : Aside0 (Below w.heap.size w ((w22.setCell ⟨gb369, 0, none⟩ (.int .i64 t366)).setCell ⟨gb369, 1, none⟩ (.int .i64 t367))) := ⟨bq_⟩
            (try clear BK360)
            (try clear BK361)
            (try clear BK365)
            (try clear BK369)
            (try clear HB)
            generalize ((w22.setCell ⟨gb369, 0, none⟩ (.int .i64 t366)).setCell ⟨gb369, 1, none⟩ (.int .i64 t367)) = w31 at n0_ n1_ n2_ n3_ n4_ ⊢
            have BK360 := n0_
            have BK361 := n1_
            have BK365 := n2_
            have BK369 := n3_
            have HB := n4_
            clear n0_ n1_ n2_ n3_ n4_
            have n0_ := Aside0.mk (blk_drew BK360.out)
            have n1_ := Aside0.mk (blk_drew BK361.out)
            have n2_ := Aside0.mk (blk_drew BK365.out)
            have n3_ := Aside0.mk (blk_drew BK369.out)
            have n4_ := Aside0.mk (below_drew1 HB.out)
            clear BK360
            clear BK361
            clear BK365
            clear BK369
            clear HB
            have BK360 := n0_
            have BK361 := n1_
            have BK365 := n2_
            have BK369 := n3_
            have HB := n4_
            clear n0_ n1_ n2_ n3_ n4_
            refine start_ (n := 15) (S := fun w' => w'.cell? ⟨gb365, 0, none⟩ = some (.int .i64 t362) ∧ w'.cell? ⟨gb365, 1, none⟩ = some (.int .i64 t363) ∧ w'.cell? ⟨gb369, 0, none⟩ = some (.int .i64 t366) ∧ w'.cell? ⟨gb369, 1, none⟩ = some (.int .i64 t367) ∧ w'.cell? ⟨gb360, 0, none⟩ = some (.int .i64 t356) ∧ w'.cell? ⟨gb360, 1, none⟩ = some (.int .i64 t357)) (ds := []) #[false, false, false, false, false, false, false, false, false, false, false, false, false, false, false] (by kernel_rfl) rfl rfl ⟨(blk_cell BK365.out 0).trans rfl, (blk_cell BK365.out 1).trans rfl, (blk_cell BK369.out 0).trans rfl, (blk_cell BK369.out 1).trans rfl, (blk_cell BK360.out 0).trans rfl, (blk_cell BK360.out 1).trans rfl⟩ (fun hHeld => ?_); refine with_tabW laws_FnKnown.tab6 laws_FnKnown.bits6 (fun HT_ HW_ => ?_)
            generalize w31.drew = w32 at BK360 BK361 BK365 BK369 HB hHeld ⊢
            refine pure_ (i := 0) (N := some 74) (v := ?_) (a' := ?_) #[true, false, false, false, false, false, false, false, false, false, false, false, false, false, false] rfl rfl (any_of HT_.out (by kernel_rfl)) (fun _ _ _ h => h) (Or.inl ⟨by rfl, ?_⟩) ?_ ?_
            rotate_left
            · intro w'
              go_simp
              with_reducible rfl
            rotate_left
            · simp only [Act.put, List.setIfInBounds_toArray, List.set_cons_zero, List.set_cons_succ, i64_w, i32_w]
              rfl
            refine pure_ (i := 1) (N := some 75) (v := ?_) (a' := ?_) #[true, true, false, false, false, false, false, false, false, false, false, false, false, false, false] rfl rfl (any_of HT_.out (by kernel_rfl)) (fun _ _ _ h => h) (Or.inl ⟨by rfl, ?_⟩) ?_ ?_
            rotate_left
            · intro w'
              go_simp
              with_reducible rfl
            rotate_left
            · simp only [Act.put, List.setIfInBounds_toArray, List.set_cons_zero, List.set_cons_succ, i64_w, i32_w]
              rfl
            refine pure_ (i := 2) (N := some 76) (v := ?_) (a' := ?_) #[true, true, true, false, false, false, false, false, false, false, false, false, false, false, false] rfl rfl (any_of HT_.out (by kernel_rfl)) (fun _ _ _ h => h) (Or.inl ⟨by rfl, ?_⟩) ?_ ?_
            rotate_left
            · intro w'
              go_simp
              with_reducible rfl
            rotate_left
            · simp only [Act.put, List.setIfInBounds_toArray, List.set_cons_zero, List.set_cons_succ, i64_w, i32_w]
              rfl
            refine pure_ (i := 3) (N := some 77) (v := ?_) (a' := ?_) #[true, true, true, true, false, false, false, false, false, false, false, false, false, false, false] rfl rfl (any_of HT_.out (by kernel_rfl)) (fun _ _ _ h => h) (Or.inl ⟨by rfl, ?_⟩) ?_ ?_
            rotate_left
            · intro w'
              go_simp
              with_reducible rfl
            rotate_left
            · simp only [Act.put, List.setIfInBounds_toArray, List.set_cons_zero, List.set_cons_succ, i64_w, i32_w]
              rfl
            refine take_ (i := 4) (N := some 78) (v := ?_) (a' := ?_) #[true, true, true, true, true, false, false, false, false, false, false, false, false, false, false] rfl rfl (take_ofW HT_.out HW_.out (by kernel_rfl)) (fun _ _ _ h => h) (Or.inl ⟨by rfl, ?_⟩) hHeld ?_ ?_
            rotate_left
            · rintro w' ⟨s0, s1, s2, s3, s4, s5⟩
              go_simp
              with_reducible rfl
            rotate_left
            · simp only [Act.put, List.setIfInBounds_toArray, List.set_cons_zero, List.set_cons_succ, i64_w, i32_w]
              rfl
            refine take_ (i := 5) (N := some 79) (v := ?_) (a' := ?_) #[true, true, true, true, true, true, false, false, false, false, false, false, false, false, false] rfl rfl (take_ofW HT_.out HW_.out (by kernel_rfl)) (fun _ _ _ h => h) (Or.inl ⟨by rfl, ?_⟩) hHeld ?_ ?_
            rotate_left
            · rintro w' ⟨s0, s1, s2, s3, s4, s5⟩
              go_simp
              with_reducible rfl
            rotate_left
            · simp only [Act.put, List.setIfInBounds_toArray, List.set_cons_zero, List.set_cons_succ, i64_w, i32_w]
              rfl
            refine pure_ (i := 6) (N := some 80) (v := ?_) (a' := ?_) #[true, true, true, true, true, true, true, false, false, false, false, false, false, false, false] rfl rfl (any_of HT_.out (by kernel_rfl)) (fun _ _ _ h => h) (Or.inl ⟨by rfl, ?_⟩) ?_ ?_
            rotate_left
            · intro w'
              go_simp
              with_reducible rfl
            rotate_left
            · simp only [Act.put, List.setIfInBounds_toArray, List.set_cons_zero, List.set_cons_succ, i64_w, i32_w]
              rfl
            refine pure_ (i := 7) (N := some 81) (v := ?_) (a' := ?_) #[true, true, true, true, true, true, true, true, false, false, false, false, false, false, false] rfl rfl (any_of HT_.out (by kernel_rfl)) (fun _ _ _ h => h) (Or.inl ⟨by rfl, ?_⟩) ?_ ?_
            rotate_left
            · intro w'
              go_simp
              with_reducible rfl
            rotate_left
            · simp only [Act.put, List.setIfInBounds_toArray, List.set_cons_zero, List.set_cons_succ, i64_w, i32_w]
              rfl
            refine pure_ (i := 8) (N := some 82) (v := ?_) (a' := ?_) #[true, true, true, true, true, true, true, true, true, false, false, false, false, false, false] rfl rfl (any_of HT_.out (by kernel_rfl)) (fun _ _ _ h => h) (Or.inl ⟨by rfl, ?_⟩) ?_ ?_
            rotate_left
            · intro w'
              go_simp
              with_reducible rfl
            rotate_left
            · simp only [Act.put, List.setIfInBounds_toArray, List.set_cons_zero, List.set_cons_succ, i64_w, i32_w]
              rfl
            refine take_ (i := 9) (N := some 83) (v := ?_) (a' := ?_) #[true, true, true, true, true, true, true, true, true, true, false, false, false, false, false] rfl rfl (take_ofW HT_.out HW_.out (by kernel_rfl)) (fun _ _ _ h => h) (Or.inl ⟨by rfl, ?_⟩) hHeld ?_ ?_
            rotate_left
            · rintro w' ⟨s0, s1, s2, s3, s4, s5⟩
              go_simp
              with_reducible rfl
            rotate_left
            · simp only [Act.put, List.setIfInBounds_toArray, List.set_cons_zero, List.set_cons_succ, i64_w, i32_w]
              rfl
            refine take_ (i := 11) (N := some 85) (v := ?_) (a' := ?_) #[true, true, true, true, true, true, true, true, true, true, false, true, false, false, false] rfl rfl (take_ofW HT_.out HW_.out (by kernel_rfl)) (fun _ _ _ h => h) (Or.inl ⟨by rfl, ?_⟩) hHeld ?_ ?_
            rotate_left
            · rintro w' ⟨s0, s1, s2, s3, s4, s5⟩
              go_simp
              with_reducible rfl
            rotate_left
            · simp only [Act.put, List.setIfInBounds_toArray, List.set_cons_zero, List.set_cons_succ, i64_w, i32_w]
              rfl
            refine one_ (i := 10) (N := some 84) #[true, true, true, true, true, true, true, true, true, true, true, true, false, false, false] rfl rfl (one_of HT_.out (by kernel_rfl)) (by decide) (fun K hK => ?_)
            refine goes_ Try.func32 (by kernel_rfl) rfl #[.agg #[.int .i64 t356, .int .i64 t357]] (by rfl) rfl rfl (by (try simp only [List.map_toArray, List.map_cons, List.map_nil]); first | done | rfl | (simp only [List.length_drop, List.length_take]; rfl)) ?_
            with_reducible refine (impl_GoodKnown.calls t356 t357 t370 _ A29.out).mono ?_
            rintro e w33 ⟨rfl, hb⟩
            refine ⟨_, rfl, ?_⟩
            have n0_ := Aside0.mk (blk_below (bk_ BK360.out) hb)
            have n1_ := Aside0.mk (blk_below (bk_ BK361.out) hb)
            have n2_ := Aside0.mk (blk_below (bk_ BK365.out) hb)
            have n3_ := Aside0.mk (blk_below (bk_ BK369.out) hb)
            have n4_ := Aside0.mk (below_step (bq_) hb)
            clear BK360
            clear BK361
            clear BK365
            clear BK369
            clear HB
            have BK360 := n0_
            have BK361 := n1_
            have BK365 := n2_
            have BK369 := n3_
            have HB := n4_
            clear n0_ n1_ n2_ n3_ n4_
            (try clear hb)
            (try clear hb2)
            (try clear hk)
            (try clear hi)
            refine hK.out _ _ ⟨(blk_cell BK365.out 0).trans rfl, (blk_cell BK365.out 1).trans rfl, (blk_cell BK369.out 0).trans rfl, (blk_cell BK369.out 1).trans rfl, (blk_cell BK360.out 0).trans rfl, (blk_cell BK360.out 1).trans rfl⟩ (fun hHeld => ?_)
            clear hK K
            refine norm_ (a' := ?_) ?_ ?_
            rotate_left
            · show Act.put _ (some 84) _ = _
              simp only [Act.put, List.setIfInBounds_toArray, List.set_cons_zero, List.set_cons_succ, i64_w, i32_w]
              rfl
            refine one_ (i := 12) (N := some 86) #[true, true, true, true, true, true, true, true, true, true, true, true, true, false, false] rfl rfl (one_of HT_.out (by kernel_rfl)) (by decide) (fun K hK => ?_)
            refine goes_ Try.func47 (by kernel_rfl) rfl #[.agg #[.int .i64 t356, .int .i64 t357]] (by rfl) rfl rfl (by (try simp only [List.map_toArray, List.map_cons, List.map_nil]); first | done | rfl | (simp only [List.length_drop, List.length_take]; rfl)) ?_
            with_reducible refine (spec_GoodKnown.calls t356 t357 t371 _ A30.out).mono ?_
            rintro e w34 ⟨rfl, hb⟩
            refine ⟨_, rfl, ?_⟩
            have n0_ := Aside0.mk (blk_below (bk_ BK360.out) hb)
            have n1_ := Aside0.mk (blk_below (bk_ BK361.out) hb)
            have n2_ := Aside0.mk (blk_below (bk_ BK365.out) hb)
            have n3_ := Aside0.mk (blk_below (bk_ BK369.out) hb)
            have n4_ := Aside0.mk (below_step (bq_) hb)
            clear BK360
            clear BK361
            clear BK365
            clear BK369
            clear HB
            have BK360 := n0_
            have BK361 := n1_
            have BK365 := n2_
            have BK369 := n3_
            have HB := n4_
            clear n0_ n1_ n2_ n3_ n4_
            (try clear hb)
            (try clear hb2)
            (try clear hk)
            (try clear hi)
            refine hK.out _ _ ⟨(blk_cell BK365.out 0).trans rfl, (blk_cell BK365.out 1).trans rfl, (blk_cell BK369.out 0).trans rfl, (blk_cell BK369.out 1).trans rfl, (blk_cell BK360.out 0).trans rfl, (blk_cell BK360.out 1).trans rfl⟩ (fun hHeld => ?_)
            clear hK K
            refine norm_ (a' := ?_) ?_ ?_
            rotate_left
            · show Act.put _ (some 86) _ = _
              simp only [Act.put, List.setIfInBounds_toArray, List.set_cons_zero, List.set_cons_succ, i64_w, i32_w]
              rfl
            refine pure_ (i := 13) (N := some 87) (v := ?_) (a' := ?_) #[true, true, true, true, true, true, true, true, true, true, true, true, true, true, false] rfl rfl (any_of HT_.out (by kernel_rfl)) (fun _ _ _ h => h) (Or.inl ⟨by rfl, ?_⟩) ?_ ?_
            rotate_left
            · intro w'
              go_simp
              with_reducible rfl
            rotate_left
            · simp only [Act.put, List.setIfInBounds_toArray, List.set_cons_zero, List.set_cons_succ, i64_w, i32_w]
              rfl
            refine pure_ (i := 14) (N := some 88) (v := ?_) (a' := ?_) #[true, true, true, true, true, true, true, true, true, true, true, true, true, true, true] rfl rfl (any_of HT_.out (by kernel_rfl)) (fun _ _ _ h => h) (Or.inl ⟨by rfl, ?_⟩) ?_ ?_
            rotate_left
            · intro w'
              go_simp
              with_reducible rfl
            rotate_left
            · simp only [Act.put, List.setIfInBounds_toArray, List.set_cons_zero, List.set_cons_succ, i64_w, i32_w]
              rfl
            refine done_ (done_of HT_.out (by kernel_rfl)) ?_
            try go_wp2
            go_meet
            case rel => exact ⟨_, ((t370 != t371)), (by first | rfl | (simp; done) | (simp [*]; done)), H', ⟨by first | omega | exact Nat.le_refl _⟩, ⟨bk_ BK360.out⟩, ⟨bk_ BK361.out⟩, ⟨bk_ BK365.out⟩, ⟨bk_ BK369.out⟩, ⟨bq_⟩⟩
    case rest =>
      clear HC7
      try clear c1
      try clear c2
      try clear p2
      try clear c3
      try clear c3b0
      try clear c4
      try clear p6
      try clear c10
      try clear c11
      try clear c16
      try clear c17
      try clear c23
      try clear c24
      try clear c25
      try clear c26
      try clear c27
      try clear c27b0
      try clear c27b1
      try clear c27b2
      try clear c28
      try clear c28b0
      try clear c32
      try clear hcz12_0
      try clear hcz12_1
      try clear hcz13_0
      try clear hcz13_1
      try clear hcz18_0
      try clear hcz18_1
      try clear hcz19_0
      try clear hcz19_1
      try clear hcz20_0
      try clear hcz20_1
      try clear hcz26_0
      try clear hcz26_1
      try clear hfz12_0
      try clear hfz12_1
      try clear hfz13_0
      try clear hfz13_1
      try clear hfz18_0
      try clear hfz18_1
      try clear hfz19_0
      try clear hfz19_1
      try clear hfz20_0
      try clear hfz20_1
      try clear hfz26_0
      try clear hfz26_1
      obtain ⟨kq, x88_6, rfl, HA, HJ6, BK360, BK361, BK365, BK369, HB⟩ := hcut
      cases kq with
      | zero => exact absurd HA.out (by simp [laws_FnKnown.j0])
      | succ kj6 =>
        have H := HA.out
        clear HA
        simp only [laws_FnKnown.j0] at H
        by_cases c35 : x88_6 = true
        · subst c35
          have H1 : (some false) = some r := by rw [if_pos rfl] at H; exact H
          clear H
          have H := H1
          clear H1
          exact absurd (Option.some.inj H).symm (by rw [hr_.out]; simp)
        · replace c35 := Bool.eq_false_iff.mpr c35
          subst c35
          have H1 : (if t364 = true then ((impl_WaysOf.f t356 t357).bind fun bt372 => ((impl_WaysOf.f t358 t359).bind fun bt374 => ((impl_GoodKnown.f t362 t363).bind fun t376 => (if t376 = true then (if bt372.2 = true then (laws_FnKnown.j1 kj6 l1 t355 bt372.1 bt374.1 (!bt374.2) t356 t357 t358 t359 t362 t363) else (laws_FnKnown.j1 kj6 l1 t355 bt372.1 bt374.1 true t356 t357 t358 t359 t362 t363)) else (laws_FnKnown.j1 kj6 l1 t355 bt372.1 bt374.1 true t356 t357 t358 t359 t362 t363))))) else (laws_FnKnown.j7 kj6 l1)) = some r := by rw [if_neg (show ¬ (false = true) by decide)] at H; exact H
          clear H
          have H := H1
          clear H1
          have HC36 := Aside0.mk H
          clear H
          go_upto_if 89 with (fail)
          go_cut [] (fun wc => ∃ (kq : Nat), Aside0 (laws_FnKnown.j7 kq l1 = some r) ∧ Aside0 (kq ≤ kj6) ∧ Aside0 (wc.heap[gb360]? = some (.cells #[.int .i64 t356, .int .i64 t357] 26 (0, 0))) ∧ Aside0 (wc.heap[gb361]? = some (.cells #[.int .i64 t358, .int .i64 t359] 26 (0, 0))) ∧ Aside0 (wc.heap[gb365]? = some (.cells #[.int .i64 t362, .int .i64 t363] 26 (0, 0))) ∧ Aside0 (wc.heap[gb369]? = some (.cells #[.int .i64 t366, .int .i64 t367] 26 (0, 0))) ∧ Aside0 (Below w.heap.size w wc))
          case first =>
            have H := HC36.out
            clear HC36
            by_cases c37 : t364 = true
            · subst c37
              have H1 : ((impl_WaysOf.f t356 t357).bind fun bt372 => ((impl_WaysOf.f t358 t359).bind fun bt374 => ((impl_GoodKnown.f t362 t363).bind fun t376 => (if t376 = true then (if bt372.2 = true then (laws_FnKnown.j1 kj6 l1 t355 bt372.1 bt374.1 (!bt374.2) t356 t357 t358 t359 t362 t363) else (laws_FnKnown.j1 kj6 l1 t355 bt372.1 bt374.1 true t356 t357 t358 t359 t362 t363)) else (laws_FnKnown.j1 kj6 l1 t355 bt372.1 bt374.1 true t356 t357 t358 t359 t362 t363))))) = some r := by rw [if_pos rfl] at H; exact H
              clear H
              have H := H1
              clear H1
              replace H := Option.bind_eq_some_iff.mp H
              obtain ⟨⟨t372, t373⟩, A380, H⟩ := H
              replace H : ((impl_WaysOf.f t358 t359).bind fun bt374 => ((impl_GoodKnown.f t362 t363).bind fun t376 => (if t376 = true then (if t373 = true then (laws_FnKnown.j1 kj6 l1 t355 t372 bt374.1 (!bt374.2) t356 t357 t358 t359 t362 t363) else (laws_FnKnown.j1 kj6 l1 t355 t372 bt374.1 true t356 t357 t358 t359 t362 t363)) else (laws_FnKnown.j1 kj6 l1 t355 t372 bt374.1 true t356 t357 t358 t359 t362 t363)))) = some r := H
              have A38 := Aside0.mk A380
              clear A380
              replace H := Option.bind_eq_some_iff.mp H
              obtain ⟨⟨t374, t375⟩, A390, H⟩ := H
              replace H : ((impl_GoodKnown.f t362 t363).bind fun t376 => (if t376 = true then (if t373 = true then (laws_FnKnown.j1 kj6 l1 t355 t372 t374 (!t375) t356 t357 t358 t359 t362 t363) else (laws_FnKnown.j1 kj6 l1 t355 t372 t374 true t356 t357 t358 t359 t362 t363)) else (laws_FnKnown.j1 kj6 l1 t355 t372 t374 true t356 t357 t358 t359 t362 t363))) = some r := H
              have A39 := Aside0.mk A390
              clear A390
              have HC40 := Aside0.mk H
              clear H
              have hnb41 := NB360_361.out
              have hnc41 := NB361_360.out
              have hnb42 := NB360_365.out
              have hnc42 := NB365_360.out
              have hnb43 := NB360_369.out
              have hnc43 := NB369_360.out
              have hcz44_0 := cq_ BK360.out 0 (.int .i64 t356)
              have hcz44_1 := cq_ BK360.out 1 (.int .i64 t357)
              have hfz44_0 := blk_frozen BK360.out 0
              have hfz44_1 := blk_frozen BK360.out 1
              go_upto_region 11 with (first | ((with_reducible refine gate_callee (f := 13) rfl ?_); refine goesL_ (some 92) rfl rfl Try.func13 (by kernel_rfl) rfl #[.agg #[.int .i64 t356, .int .i64 t357]] rfl (by (try simp only [List.map_toArray, List.map_cons, List.map_nil]); first | done | rfl | (simp only [List.length_drop, List.length_take]; rfl)) ?_; (with_reducible refine (impl_WaysOf.calls t356 t357 t372 t373 _ A38.out).mono ?_); rintro e w45 ⟨rfl, hb⟩; refine ⟨_, rfl, ?_⟩; have n0_ := Aside0.mk (blk_below (bk_ BK360.out) hb); have n1_ := Aside0.mk (blk_below (bk_ BK361.out) hb); have n2_ := Aside0.mk (blk_below (bk_ BK365.out) hb); have n3_ := Aside0.mk (blk_below (bk_ BK369.out) hb); have n4_ := Aside0.mk (below_step (bq_) hb); clear BK360; clear BK361; clear BK365; clear BK369; clear HB; have BK360 := n0_; have BK361 := n1_; have BK365 := n2_; have BK369 := n3_; have HB := n4_; clear n0_ n1_ n2_ n3_ n4_; (try clear hb); (try clear hb2); (try clear hk); (try clear hi); have hnb46 := NB361_365.out; have hnc46 := NB365_361.out; have hnb47 := NB361_369.out; have hnc47 := NB369_361.out; have hcz48_0 := cq_ BK361.out 0 (.int .i64 t358); have hcz48_1 := cq_ BK361.out 1 (.int .i64 t359); have hfz48_0 := blk_frozen BK361.out 0; have hfz48_1 := blk_frozen BK361.out 1) | ((with_reducible refine gate_callee (f := 13) rfl ?_); refine goesL_ (some 97) rfl rfl Try.func13 (by kernel_rfl) rfl #[.agg #[.int .i64 t358, .int .i64 t359]] rfl (by (try simp only [List.map_toArray, List.map_cons, List.map_nil]); first | done | rfl | (simp only [List.length_drop, List.length_take]; rfl)) ?_; (with_reducible refine (impl_WaysOf.calls t358 t359 t374 t375 _ A39.out).mono ?_); rintro e w49 ⟨rfl, hb⟩; refine ⟨_, rfl, ?_⟩; have n0_ := Aside0.mk (blk_below (bk_ BK360.out) hb); have n1_ := Aside0.mk (blk_below (bk_ BK361.out) hb); have n2_ := Aside0.mk (blk_below (bk_ BK365.out) hb); have n3_ := Aside0.mk (blk_below (bk_ BK369.out) hb); have n4_ := Aside0.mk (below_step (bq_) hb); clear BK360; clear BK361; clear BK365; clear BK369; clear HB; have BK360 := n0_; have BK361 := n1_; have BK365 := n2_; have BK369 := n3_; have HB := n4_; clear n0_ n1_ n2_ n3_ n4_; (try clear hb); (try clear hb2); (try clear hk); (try clear hi)))
              (try simp only [Act.put, List.setIfInBounds_toArray, List.set_cons_zero, List.set_cons_succ])
              go_cut [110] (fun v110 wc => ∃ (kq : Nat) (x110_39 : Bool), v110 = .bool x110_39 ∧ Aside0 (laws_FnKnown.j1 kq l1 t355 t372 t374 x110_39 t356 t357 t358 t359 t362 t363 = some r) ∧ Aside0 (kq ≤ kj6) ∧ Aside0 (wc.heap[gb360]? = some (.cells #[.int .i64 t356, .int .i64 t357] 26 (0, 0))) ∧ Aside0 (wc.heap[gb361]? = some (.cells #[.int .i64 t358, .int .i64 t359] 26 (0, 0))) ∧ Aside0 (wc.heap[gb365]? = some (.cells #[.int .i64 t362, .int .i64 t363] 26 (0, 0))) ∧ Aside0 (wc.heap[gb369]? = some (.cells #[.int .i64 t366, .int .i64 t367] 26 (0, 0))) ∧ Aside0 (Below w.heap.size w wc))
              case first =>
                have H := HC40.out
                clear HC40
                replace H := Option.bind_eq_some_iff.mp H
                obtain ⟨t376, A500, H⟩ := H
                replace H : (if t376 = true then (if t373 = true then (laws_FnKnown.j1 kj6 l1 t355 t372 t374 (!t375) t356 t357 t358 t359 t362 t363) else (laws_FnKnown.j1 kj6 l1 t355 t372 t374 true t356 t357 t358 t359 t362 t363)) else (laws_FnKnown.j1 kj6 l1 t355 t372 t374 true t356 t357 t358 t359 t362 t363)) = some r := H
                have A50 := Aside0.mk A500
                clear A500
                by_cases c51 : t376 = true
                · subst c51
                  have H1 : (if t373 = true then (laws_FnKnown.j1 kj6 l1 t355 t372 t374 (!t375) t356 t357 t358 t359 t362 t363) else (laws_FnKnown.j1 kj6 l1 t355 t372 t374 true t356 t357 t358 t359 t362 t363)) = some r := by rw [if_pos rfl] at H; exact H
                  clear H
                  have H := H1
                  clear H1
                  by_cases c52 : t373 = true
                  · subst c52
                    have H1 : (laws_FnKnown.j1 kj6 l1 t355 t372 t374 (!t375) t356 t357 t358 t359 t362 t363) = some r := by rw [if_pos rfl] at H; exact H
                    clear H
                    have H := H1
                    clear H1
                    as_aux_lemma =>
                      have H' := Aside0.mk H
                      clear H
                      have hnb53 := NB365_360.out
                      have hnc53 := NB360_365.out
                      have hnb54 := NB365_361.out
                      have hnc54 := NB361_365.out
                      have hnb55 := NB365_369.out
                      have hnc55 := NB369_365.out
                      have hcz56_0 := cq_ BK365.out 0 (.int .i64 t362)
                      have hcz56_1 := cq_ BK365.out 1 (.int .i64 t363)
                      have hfz56_0 := blk_frozen BK365.out 0
                      have hfz56_1 := blk_frozen BK365.out 1
                      go_wp2_with (first | ((with_reducible refine gate_callee (f := 32) rfl ?_); refine goesL_ (some 101) rfl rfl Try.func32 (by kernel_rfl) rfl #[.agg #[.int .i64 t362, .int .i64 t363]] rfl (by (try simp only [List.map_toArray, List.map_cons, List.map_nil]); first | done | rfl | (simp only [List.length_drop, List.length_take]; rfl)) ?_; (with_reducible refine (impl_GoodKnown.calls t362 t363 true _ A50.out).mono ?_); rintro e w57 ⟨rfl, hb⟩; refine ⟨_, rfl, ?_⟩; have n0_ := Aside0.mk (blk_below (bk_ BK360.out) hb); have n1_ := Aside0.mk (blk_below (bk_ BK361.out) hb); have n2_ := Aside0.mk (blk_below (bk_ BK365.out) hb); have n3_ := Aside0.mk (blk_below (bk_ BK369.out) hb); have n4_ := Aside0.mk (below_step (bq_) hb); clear BK360; clear BK361; clear BK365; clear BK369; clear HB; have BK360 := n0_; have BK361 := n1_; have BK365 := n2_; have BK369 := n3_; have HB := n4_; clear n0_ n1_ n2_ n3_ n4_; (try clear hb); (try clear hb2); (try clear hk); (try clear hi)))
                      go_meet
                      case rel => exact ⟨_, (!t375), (by first | rfl | (simp; done) | (simp [*]; done)), H', ⟨by have := HJ6.out; first | omega | exact Nat.le_refl _⟩, ⟨bk_ BK360.out⟩, ⟨bk_ BK361.out⟩, ⟨bk_ BK365.out⟩, ⟨bk_ BK369.out⟩, ⟨bq_⟩⟩
                  · replace c52 := Bool.eq_false_iff.mpr c52
                    subst c52
                    have H1 : (laws_FnKnown.j1 kj6 l1 t355 t372 t374 true t356 t357 t358 t359 t362 t363) = some r := by rw [if_neg (show ¬ (false = true) by decide)] at H; exact H
                    clear H
                    have H := H1
                    clear H1
                    exact (laws_FnKnown.j1_no_4 (by rw [hr_.out] at H; exact H)).elim
                · replace c51 := Bool.eq_false_iff.mpr c51
                  subst c51
                  have H1 : (laws_FnKnown.j1 kj6 l1 t355 t372 t374 true t356 t357 t358 t359 t362 t363) = some r := by rw [if_neg (show ¬ (false = true) by decide)] at H; exact H
                  clear H
                  have H := H1
                  clear H1
                  exact (laws_FnKnown.j1_no_4 (by rw [hr_.out] at H; exact H)).elim
              case rest =>
                clear HC40
                try clear c1
                try clear c2
                try clear p2
                try clear c3
                try clear c3b0
                try clear c4
                try clear c5
                try clear p6
                try clear c10
                try clear c11
                try clear c13
                try clear c16
                try clear c17
                try clear c23
                try clear c24
                try clear c25
                try clear c26
                try clear c27
                try clear c27b0
                try clear c27b1
                try clear c27b2
                try clear c28
                try clear c28b0
                try clear c32
                try clear c35
                try clear c37
                try clear c41
                try clear c42
                try clear c43
                try clear c46
                try clear c47
                try clear c51
                try clear c52
                try clear c53
                try clear c54
                try clear c55
                try clear hcz12_0
                try clear hcz12_1
                try clear hcz13_0
                try clear hcz13_1
                try clear hcz18_0
                try clear hcz18_1
                try clear hcz19_0
                try clear hcz19_1
                try clear hcz20_0
                try clear hcz20_1
                try clear hcz26_0
                try clear hcz26_1
                try clear hcz44_0
                try clear hcz44_1
                try clear hcz48_0
                try clear hcz48_1
                try clear hcz56_0
                try clear hcz56_1
                try clear hfz12_0
                try clear hfz12_1
                try clear hfz13_0
                try clear hfz13_1
                try clear hfz18_0
                try clear hfz18_1
                try clear hfz19_0
                try clear hfz19_1
                try clear hfz20_0
                try clear hfz20_1
                try clear hfz26_0
                try clear hfz26_1
                try clear hfz44_0
                try clear hfz44_1
                try clear hfz48_0
                try clear hfz48_1
                try clear hfz56_0
                try clear hfz56_1
                try clear p2
                try clear p6
                obtain ⟨kq, x110_39, rfl, HA, HJ39, BK360, BK361, BK365, BK369, HB⟩ := hcut
                cases kq with
                | zero => exact absurd HA.out (by simp [laws_FnKnown.j1])
                | succ kj39 =>
                  have H := HA.out
                  clear HA
                  simp only [laws_FnKnown.j1] at H
                  by_cases c58 : x110_39 = true
                  · subst c58
                    have H1 : (some false) = some r := by rw [if_pos rfl] at H; exact H
                    clear H
                    have H := H1
                    clear H1
                    exact absurd (Option.some.inj H).symm (by rw [hr_.out]; simp)
                  · replace c58 := Bool.eq_false_iff.mpr c58
                    subst c58
                    have H1 : (laws_FnKnown.l0 kj39 l1 t355 t372 t374 (decide ((wrap64 (t372 * t374)) ≤ 1024)) true 0 t356 t357 t358 t359 t362 t363 0 0) = some r := by rw [if_neg (show ¬ (false = true) by decide)] at H; exact H
                    clear H
                    have H := H1
                    clear H1
                    have H' := Aside0.mk H
                    clear H
                    go_wp2_with (first | ((with_reducible refine gate_dst (N := 18) rfl ?_); refine boxq_ (N := 18) (cs := #[.int .i64 0, .int .i64 0]) (t := 26) ?_; intro gb377 hg w59 hbox hb; have n0_ := Aside0.mk (blk_below (bk_ BK360.out) hb); have n1_ := Aside0.mk (blk_below (bk_ BK361.out) hb); have n2_ := Aside0.mk (blk_below (bk_ BK365.out) hb); have n3_ := Aside0.mk (blk_below (bk_ BK369.out) hb); have n4_ := Aside0.mk (below_step (bq_) hb); have n5_ := Aside0.mk (hbox); have n6_ := Aside0.mk ((by rw [hg]; exact (below_size (bq_)) : w.heap.size ≤ gb377)); have n7_ := Aside0.mk ((by rw [hg]; exact (below_size (bq_)) : w.heap.size ≤ gb377)); have n8_ := Aside0.mk ((by rw [hg]; exact Nat.ne_of_lt (blk_lt (bk_ BK360.out)) : gb360 ≠ gb377)); have n9_ := Aside0.mk ((by rw [hg]; exact Nat.ne_of_gt (blk_lt (bk_ BK360.out)) : gb377 ≠ gb360)); have n10_ := Aside0.mk ((by rw [hg]; exact Nat.ne_of_lt (blk_lt (bk_ BK361.out)) : gb361 ≠ gb377)); have n11_ := Aside0.mk ((by rw [hg]; exact Nat.ne_of_gt (blk_lt (bk_ BK361.out)) : gb377 ≠ gb361)); have n12_ := Aside0.mk ((by rw [hg]; exact Nat.ne_of_lt (blk_lt (bk_ BK365.out)) : gb365 ≠ gb377)); have n13_ := Aside0.mk ((by rw [hg]; exact Nat.ne_of_gt (blk_lt (bk_ BK365.out)) : gb377 ≠ gb365)); have n14_ := Aside0.mk ((by rw [hg]; exact Nat.ne_of_lt (blk_lt (bk_ BK369.out)) : gb369 ≠ gb377)); have n15_ := Aside0.mk ((by rw [hg]; exact Nat.ne_of_gt (blk_lt (bk_ BK369.out)) : gb377 ≠ gb369)); clear BK360; clear BK361; clear BK365; clear BK369; clear HB; have BK360 := n0_; have BK361 := n1_; have BK365 := n2_; have BK369 := n3_; have HB := n4_; have BK377 := n5_; have GW377 := n6_; have GE377 := n7_; have NB360_377 := n8_; have NB377_360 := n9_; have NB361_377 := n10_; have NB377_361 := n11_; have NB365_377 := n12_; have NB377_365 := n13_; have NB369_377 := n14_; have NB377_369 := n15_; clear n0_ n1_ n2_ n3_ n4_ n5_ n6_ n7_ n8_ n9_ n10_ n11_ n12_ n13_ n14_ n15_; clear hb hbox hg))
                    go_loopg [17, 19] kj39 (fun kq v17 v19 w' => ∃ (x17_3 : Bool) (x19_3 : Int) (x378000_3 : Int) (x378001_3 : Int), v17 = .bool x17_3 ∧ v19 = .int .i64 x19_3 ∧ Aside0 (laws_FnKnown.l0 kq l1 t355 t372 t374 (decide ((wrap64 (t372 * t374)) ≤ 1024)) x17_3 x19_3 t356 t357 t358 t359 t362 t363 x378000_3 x378001_3 = some r) ∧ Aside0 (kq ≤ kj39) ∧ Aside0 (w'.heap[gb360]? = some (.cells #[.int .i64 t356, .int .i64 t357] 26 (0, 0))) ∧ Aside0 (w'.heap[gb361]? = some (.cells #[.int .i64 t358, .int .i64 t359] 26 (0, 0))) ∧ Aside0 (w'.heap[gb365]? = some (.cells #[.int .i64 t362, .int .i64 t363] 26 (0, 0))) ∧ Aside0 (w'.heap[gb369]? = some (.cells #[.int .i64 t366, .int .i64 t367] 26 (0, 0))) ∧ Aside0 (w'.heap[gb377]? = some (.cells #[.int .i64 x378000_3, .int .i64 x378001_3] 26 (0, 0))) ∧ Aside0 (Below w.heap.size w w'))
                    case atStart => exact ⟨(true), (0), (0), (0), (by first | rfl | (simp; done) | (simp [*]; done)), (by first | rfl | (simp; done) | (simp [*]; done)), H', ⟨Nat.le_refl _⟩, ⟨bk_ BK360.out⟩, ⟨bk_ BK361.out⟩, ⟨bk_ BK365.out⟩, ⟨bk_ BK369.out⟩, ⟨bk_ BK377.out⟩, ⟨bq_⟩⟩
                    case round =>
                      clear H'
                      try clear c1
                      try clear c2
                      try clear p2
                      try clear c3
                      try clear c3b0
                      try clear c4
                      try clear c5
                      try clear p6
                      try clear c10
                      try clear c11
                      try clear c13
                      try clear c16
                      try clear c17
                      try clear c23
                      try clear c24
                      try clear c25
                      try clear c26
                      try clear c27
                      try clear c27b0
                      try clear c27b1
                      try clear c27b2
                      try clear c28
                      try clear c28b0
                      try clear c32
                      try clear c35
                      try clear c37
                      try clear c41
                      try clear c42
                      try clear c43
                      try clear c46
                      try clear c47
                      try clear c51
                      try clear c52
                      try clear c53
                      try clear c54
                      try clear c55
                      try clear c58
                      try clear hcz12_0
                      try clear hcz12_1
                      try clear hcz13_0
                      try clear hcz13_1
                      try clear hcz18_0
                      try clear hcz18_1
                      try clear hcz19_0
                      try clear hcz19_1
                      try clear hcz20_0
                      try clear hcz20_1
                      try clear hcz26_0
                      try clear hcz26_1
                      try clear hcz44_0
                      try clear hcz44_1
                      try clear hcz48_0
                      try clear hcz48_1
                      try clear hcz56_0
                      try clear hcz56_1
                      try clear hfz12_0
                      try clear hfz12_1
                      try clear hfz13_0
                      try clear hfz13_1
                      try clear hfz18_0
                      try clear hfz18_1
                      try clear hfz19_0
                      try clear hfz19_1
                      try clear hfz20_0
                      try clear hfz20_1
                      try clear hfz26_0
                      try clear hfz26_1
                      try clear hfz44_0
                      try clear hfz44_1
                      try clear hfz48_0
                      try clear hfz48_1
                      try clear hfz56_0
                      try clear hfz56_1
                      try clear p2
                      try clear p6
                      obtain ⟨x17_3, x19_3, x378000_3, x378001_3, rfl, rfl, HA, HK3, BK360, BK361, BK365, BK369, BK377, HB⟩ := hrel
                      cases gk with
                      | zero => exact absurd HA.out (by simp [laws_FnKnown.l0])
                      | succ k3 =>
                        have H := HA.out
                        clear HA
                        simp only [laws_FnKnown.l0] at H
                        have HC60 := Aside0.mk H
                        clear H
                        go_upto_region 17 with (fail)
                        go_cut [121] (fun v121 wc => ∃ (kq : Nat) (x121_59 : Bool), v121 = .bool x121_59 ∧ Aside0 (laws_FnKnown.j3 kq l1 t355 t372 t374 (decide ((wrap64 (t372 * t374)) ≤ 1024)) x17_3 x19_3 x121_59 t356 t357 t358 t359 t362 t363 x378000_3 x378001_3 = some r) ∧ Aside0 (kq ≤ k3) ∧ Aside0 (wc.heap[gb360]? = some (.cells #[.int .i64 t356, .int .i64 t357] 26 (0, 0))) ∧ Aside0 (wc.heap[gb361]? = some (.cells #[.int .i64 t358, .int .i64 t359] 26 (0, 0))) ∧ Aside0 (wc.heap[gb365]? = some (.cells #[.int .i64 t362, .int .i64 t363] 26 (0, 0))) ∧ Aside0 (wc.heap[gb369]? = some (.cells #[.int .i64 t366, .int .i64 t367] 26 (0, 0))) ∧ Aside0 (wc.heap[gb377]? = some (.cells #[.int .i64 x378000_3, .int .i64 x378001_3] 26 (0, 0))) ∧ Aside0 (Below w.heap.size w wc))
                        case first =>
                          have H := HC60.out
                          clear HC60
                          by_cases c61 : x19_3 < t372
                          · rw [if_pos c61] at H
                            have c61b0 : decide (x19_3 < t372) = true := decide_eq_true c61
                            clear c61
                            (first | rw [c61b0] | (simp only [i64_w, i32_w]; rw [c61b0]) | skip)
                            as_aux_lemma =>
                              have H' := Aside0.mk H
                              clear H
                              go_wp2
                              go_meet
                              case rel => exact ⟨_, (decide (x19_3 < 64)), (by first | rfl | (simp; done) | (simp [*]; done)), H', ⟨by have := HJ6.out; have := HJ39.out; have := HK3.out; first | omega | exact Nat.le_refl _⟩, ⟨bk_ BK360.out⟩, ⟨bk_ BK361.out⟩, ⟨bk_ BK365.out⟩, ⟨bk_ BK369.out⟩, ⟨bk_ BK377.out⟩, ⟨bq_⟩⟩
                          · rw [if_neg c61] at H
                            have c61b0 : decide (x19_3 < t372) = false := decide_eq_false c61
                            clear c61
                            (first | rw [c61b0] | (simp only [i64_w, i32_w]; rw [c61b0]) | skip)
                            as_aux_lemma =>
                              have H' := Aside0.mk H
                              clear H
                              go_wp2
                              go_meet
                              case rel => exact ⟨_, (false), (by first | rfl | (simp; done) | (simp [*]; done)), H', ⟨by have := HJ6.out; have := HJ39.out; have := HK3.out; first | omega | exact Nat.le_refl _⟩, ⟨bk_ BK360.out⟩, ⟨bk_ BK361.out⟩, ⟨bk_ BK365.out⟩, ⟨bk_ BK369.out⟩, ⟨bk_ BK377.out⟩, ⟨bq_⟩⟩
                        case rest =>
                          clear HC60
                          try clear c1
                          try clear c2
                          try clear p2
                          try clear c3
                          try clear c3b0
                          try clear c4
                          try clear c5
                          try clear c6
                          try clear p6
                          try clear c10
                          try clear c11
                          try clear c13
                          try clear c16
                          try clear c17
                          try clear c23
                          try clear c24
                          try clear c25
                          try clear c26
                          try clear c27
                          try clear c27b0
                          try clear c27b1
                          try clear c27b2
                          try clear c28
                          try clear c28b0
                          try clear c32
                          try clear c35
                          try clear c37
                          try clear c41
                          try clear c42
                          try clear c43
                          try clear c46
                          try clear c47
                          try clear c51
                          try clear c52
                          try clear c53
                          try clear c54
                          try clear c55
                          try clear c58
                          try clear c61
                          try clear c61b0
                          try clear hcz12_0
                          try clear hcz12_1
                          try clear hcz13_0
                          try clear hcz13_1
                          try clear hcz18_0
                          try clear hcz18_1
                          try clear hcz19_0
                          try clear hcz19_1
                          try clear hcz20_0
                          try clear hcz20_1
                          try clear hcz26_0
                          try clear hcz26_1
                          try clear hcz44_0
                          try clear hcz44_1
                          try clear hcz48_0
                          try clear hcz48_1
                          try clear hcz56_0
                          try clear hcz56_1
                          try clear hfz12_0
                          try clear hfz12_1
                          try clear hfz13_0
                          try clear hfz13_1
                          try clear hfz18_0
                          try clear hfz18_1
                          try clear hfz19_0
                          try clear hfz19_1
                          try clear hfz20_0
                          try clear hfz20_1
                          try clear hfz26_0
                          try clear hfz26_1
                          try clear hfz44_0
                          try clear hfz44_1
                          try clear hfz48_0
                          try clear hfz48_1
                          try clear hfz56_0
                          try clear hfz56_1
                          try clear p2
                          try clear p6
                          obtain ⟨kq, x121_59, rfl, HA, HJ59, BK360, BK361, BK365, BK369, BK377, HB⟩ := hcut
                          cases kq with
                          | zero => exact absurd HA.out (by simp [laws_FnKnown.j3])
                          | succ kj59 =>
                            have H := HA.out
                            clear HA
                            simp only [laws_FnKnown.j3] at H
                            by_cases c62 : x121_59 = true
                            · subst c62
                              have H1 : (laws_FnKnown.l1 kj59 l1 t355 t372 t374 (decide ((wrap64 (t372 * t374)) ≤ 1024)) x17_3 x19_3 0 t356 t357 t358 t359 t362 t363 x378000_3 x378001_3) = some r := by rw [if_pos rfl] at H; exact H
                              clear H
                              have H := H1
                              clear H1
                              have H' := Aside0.mk H
                              clear H
                              go_wp2
                              go_loopg [17, 20] kj59 (fun kq v17 v20 w' => ∃ (x17_5 : Bool) (x20_5 : Int) (x378000_5 : Int) (x378001_5 : Int), v17 = .bool x17_5 ∧ v20 = .int .i64 x20_5 ∧ Aside0 (laws_FnKnown.l1 kq l1 t355 t372 t374 (decide ((wrap64 (t372 * t374)) ≤ 1024)) x17_5 x19_3 x20_5 t356 t357 t358 t359 t362 t363 x378000_5 x378001_5 = some r) ∧ Aside0 (kq ≤ kj59) ∧ Aside0 (w'.heap[gb360]? = some (.cells #[.int .i64 t356, .int .i64 t357] 26 (0, 0))) ∧ Aside0 (w'.heap[gb361]? = some (.cells #[.int .i64 t358, .int .i64 t359] 26 (0, 0))) ∧ Aside0 (w'.heap[gb365]? = some (.cells #[.int .i64 t362, .int .i64 t363] 26 (0, 0))) ∧ Aside0 (w'.heap[gb369]? = some (.cells #[.int .i64 t366, .int .i64 t367] 26 (0, 0))) ∧ Aside0 (w'.heap[gb377]? = some (.cells #[.int .i64 x378000_5, .int .i64 x378001_5] 26 (0, 0))) ∧ Aside0 (Below w.heap.size w w'))
                              case atStart => exact ⟨(x17_3), (0), (x378000_3), (x378001_3), (by first | rfl | (simp; done) | (simp [*]; done)), (by first | rfl | (simp; done) | (simp [*]; done)), H', ⟨Nat.le_refl _⟩, ⟨bk_ BK360.out⟩, ⟨bk_ BK361.out⟩, ⟨bk_ BK365.out⟩, ⟨bk_ BK369.out⟩, ⟨bk_ BK377.out⟩, ⟨bq_⟩⟩
                              case round =>
                                clear H'
                                try clear c1
                                try clear c2
                                try clear p2
                                try clear c3
                                try clear c3b0
                                try clear c4
                                try clear c5
                                try clear c6
                                try clear p6
                                try clear c10
                                try clear c11
                                try clear c13
                                try clear c16
                                try clear c17
                                try clear c23
                                try clear c24
                                try clear c25
                                try clear c26
                                try clear c27
                                try clear c27b0
                                try clear c27b1
                                try clear c27b2
                                try clear c28
                                try clear c28b0
                                try clear c32
                                try clear c35
                                try clear c37
                                try clear c41
                                try clear c42
                                try clear c43
                                try clear c46
                                try clear c47
                                try clear c51
                                try clear c52
                                try clear c53
                                try clear c54
                                try clear c55
                                try clear c58
                                try clear c61
                                try clear c61b0
                                try clear c62
                                try clear hcz12_0
                                try clear hcz12_1
                                try clear hcz13_0
                                try clear hcz13_1
                                try clear hcz18_0
                                try clear hcz18_1
                                try clear hcz19_0
                                try clear hcz19_1
                                try clear hcz20_0
                                try clear hcz20_1
                                try clear hcz26_0
                                try clear hcz26_1
                                try clear hcz44_0
                                try clear hcz44_1
                                try clear hcz48_0
                                try clear hcz48_1
                                try clear hcz56_0
                                try clear hcz56_1
                                try clear hfz12_0
                                try clear hfz12_1
                                try clear hfz13_0
                                try clear hfz13_1
                                try clear hfz18_0
                                try clear hfz18_1
                                try clear hfz19_0
                                try clear hfz19_1
                                try clear hfz20_0
                                try clear hfz20_1
                                try clear hfz26_0
                                try clear hfz26_1
                                try clear hfz44_0
                                try clear hfz44_1
                                try clear hfz48_0
                                try clear hfz48_1
                                try clear hfz56_0
                                try clear hfz56_1
                                try clear p2
                                try clear p6
                                obtain ⟨x17_5, x20_5, x378000_5, x378001_5, rfl, rfl, HA, HK5, BK360, BK361, BK365, BK369, BK377, HB⟩ := hrel
                                cases gk with
                                | zero => exact absurd HA.out (by simp [laws_FnKnown.l1])
                                | succ k5 =>
                                  have H := HA.out
                                  clear HA
                                  simp only [laws_FnKnown.l1] at H
                                  have HC63 := Aside0.mk H
                                  clear H
                                  go_upto_region 20 with (fail)
                                  go_cut [130] (fun v130 wc => ∃ (kq : Nat) (x130_62 : Bool), v130 = .bool x130_62 ∧ Aside0 (laws_FnKnown.j5 kq l1 t355 t372 t374 (decide ((wrap64 (t372 * t374)) ≤ 1024)) x17_5 x19_3 x20_5 x130_62 t356 t357 t358 t359 t362 t363 x378000_5 x378001_5 = some r) ∧ Aside0 (kq ≤ k5) ∧ Aside0 (wc.heap[gb360]? = some (.cells #[.int .i64 t356, .int .i64 t357] 26 (0, 0))) ∧ Aside0 (wc.heap[gb361]? = some (.cells #[.int .i64 t358, .int .i64 t359] 26 (0, 0))) ∧ Aside0 (wc.heap[gb365]? = some (.cells #[.int .i64 t362, .int .i64 t363] 26 (0, 0))) ∧ Aside0 (wc.heap[gb369]? = some (.cells #[.int .i64 t366, .int .i64 t367] 26 (0, 0))) ∧ Aside0 (wc.heap[gb377]? = some (.cells #[.int .i64 x378000_5, .int .i64 x378001_5] 26 (0, 0))) ∧ Aside0 (Below w.heap.size w wc))
                                  case first =>
                                    have H := HC63.out
                                    clear HC63
                                    by_cases c64 : x20_5 < t374
                                    · rw [if_pos c64] at H
                                      have c64b0 : decide (x20_5 < t374) = true := decide_eq_true c64
                                      clear c64
                                      (first | rw [c64b0] | (simp only [i64_w, i32_w]; rw [c64b0]) | skip)
                                      as_aux_lemma =>
                                        have H' := Aside0.mk H
                                        clear H
                                        go_wp2
                                        go_meet
                                        case rel => exact ⟨_, (decide (x20_5 < 64)), (by first | rfl | (simp; done) | (simp [*]; done)), H', ⟨by have := HJ6.out; have := HJ39.out; have := HK3.out; have := HJ59.out; have := HK5.out; first | omega | exact Nat.le_refl _⟩, ⟨bk_ BK360.out⟩, ⟨bk_ BK361.out⟩, ⟨bk_ BK365.out⟩, ⟨bk_ BK369.out⟩, ⟨bk_ BK377.out⟩, ⟨bq_⟩⟩
                                    · rw [if_neg c64] at H
                                      have c64b0 : decide (x20_5 < t374) = false := decide_eq_false c64
                                      clear c64
                                      (first | rw [c64b0] | (simp only [i64_w, i32_w]; rw [c64b0]) | skip)
                                      as_aux_lemma =>
                                        have H' := Aside0.mk H
                                        clear H
                                        go_wp2
                                        go_meet
                                        case rel => exact ⟨_, (false), (by first | rfl | (simp; done) | (simp [*]; done)), H', ⟨by have := HJ6.out; have := HJ39.out; have := HK3.out; have := HJ59.out; have := HK5.out; first | omega | exact Nat.le_refl _⟩, ⟨bk_ BK360.out⟩, ⟨bk_ BK361.out⟩, ⟨bk_ BK365.out⟩, ⟨bk_ BK369.out⟩, ⟨bk_ BK377.out⟩, ⟨bq_⟩⟩
                                  case rest =>
                                    clear HC63
                                    try clear c1
                                    try clear c2
                                    try clear p2
                                    try clear c3
                                    try clear c3b0
                                    try clear c4
                                    try clear c5
                                    try clear c6
                                    try clear p6
                                    try clear c10
                                    try clear c11
                                    try clear c13
                                    try clear c16
                                    try clear c17
                                    try clear c23
                                    try clear c24
                                    try clear c25
                                    try clear c26
                                    try clear c27
                                    try clear c27b0
                                    try clear c27b1
                                    try clear c27b2
                                    try clear c28
                                    try clear c28b0
                                    try clear c32
                                    try clear c35
                                    try clear c37
                                    try clear c41
                                    try clear c42
                                    try clear c43
                                    try clear c46
                                    try clear c47
                                    try clear c51
                                    try clear c52
                                    try clear c53
                                    try clear c54
                                    try clear c55
                                    try clear c58
                                    try clear c61
                                    try clear c61b0
                                    try clear c62
                                    try clear c64
                                    try clear c64b0
                                    try clear p64
                                    try clear hcz12_0
                                    try clear hcz12_1
                                    try clear hcz13_0
                                    try clear hcz13_1
                                    try clear hcz18_0
                                    try clear hcz18_1
                                    try clear hcz19_0
                                    try clear hcz19_1
                                    try clear hcz20_0
                                    try clear hcz20_1
                                    try clear hcz26_0
                                    try clear hcz26_1
                                    try clear hcz44_0
                                    try clear hcz44_1
                                    try clear hcz48_0
                                    try clear hcz48_1
                                    try clear hcz56_0
                                    try clear hcz56_1
                                    try clear hfz12_0
                                    try clear hfz12_1
                                    try clear hfz13_0
                                    try clear hfz13_1
                                    try clear hfz18_0
                                    try clear hfz18_1
                                    try clear hfz19_0
                                    try clear hfz19_1
                                    try clear hfz20_0
                                    try clear hfz20_1
                                    try clear hfz26_0
                                    try clear hfz26_1
                                    try clear hfz44_0
                                    try clear hfz44_1
                                    try clear hfz48_0
                                    try clear hfz48_1
                                    try clear hfz56_0
                                    try clear hfz56_1
                                    try clear p2
                                    try clear p6
                                    obtain ⟨kq, x130_62, rfl, HA, HJ62, BK360, BK361, BK365, BK369, BK377, HB⟩ := hcut
                                    cases kq with
                                    | zero => exact absurd HA.out (by simp [laws_FnKnown.j5])
                                    | succ kj62 =>
                                      have H := HA.out
                                      clear HA
                                      simp only [laws_FnKnown.j5] at H
                                      by_cases c65 : x130_62 = true
                                      · subst c65
                                        have H1 : ((impl_NumberAt.f kj62 t356 t357 x19_3).bind fun bt378 => ((impl_NumberAt.f kj62 t358 t359 x20_5).bind fun bt380 => ((impl_DoOp.f t355 bt378.1 bt380.1).bind fun bt382 => ((impl_MayBe.f t362 t363 bt382.1).bind fun bt384 => (if bt378.2 = true then (if bt380.2 = true then (if bt382.2 = true then (if bt384.2 = true then (laws_FnKnown.j6 kj62 l1 t355 t372 t374 (decide ((wrap64 (t372 * t374)) ≤ 1024)) x17_5 x19_3 x20_5 bt382.1 (!bt384.1) t356 t357 t358 t359 t362 t363 x378000_5 x378001_5) else (laws_FnKnown.j6 kj62 l1 t355 t372 t374 (decide ((wrap64 (t372 * t374)) ≤ 1024)) x17_5 x19_3 x20_5 bt382.1 true t356 t357 t358 t359 t362 t363 x378000_5 x378001_5)) else (laws_FnKnown.j6 kj62 l1 t355 t372 t374 (decide ((wrap64 (t372 * t374)) ≤ 1024)) x17_5 x19_3 x20_5 bt382.1 true t356 t357 t358 t359 t362 t363 x378000_5 x378001_5)) else (laws_FnKnown.j6 kj62 l1 t355 t372 t374 (decide ((wrap64 (t372 * t374)) ≤ 1024)) x17_5 x19_3 x20_5 bt382.1 true t356 t357 t358 t359 t362 t363 x378000_5 x378001_5)) else (laws_FnKnown.j6 kj62 l1 t355 t372 t374 (decide ((wrap64 (t372 * t374)) ≤ 1024)) x17_5 x19_3 x20_5 bt382.1 true t356 t357 t358 t359 t362 t363 x378000_5 x378001_5)))))) = some r := by rw [if_pos rfl] at H; exact H
                                        clear H
                                        have H := H1
                                        clear H1
                                        replace H := Option.bind_eq_some_iff.mp H
                                        obtain ⟨⟨t378, t379⟩, A660, H⟩ := H
                                        replace H : ((impl_NumberAt.f kj62 t358 t359 x20_5).bind fun bt380 => ((impl_DoOp.f t355 t378 bt380.1).bind fun bt382 => ((impl_MayBe.f t362 t363 bt382.1).bind fun bt384 => (if t379 = true then (if bt380.2 = true then (if bt382.2 = true then (if bt384.2 = true then (laws_FnKnown.j6 kj62 l1 t355 t372 t374 (decide ((wrap64 (t372 * t374)) ≤ 1024)) x17_5 x19_3 x20_5 bt382.1 (!bt384.1) t356 t357 t358 t359 t362 t363 x378000_5 x378001_5) else (laws_FnKnown.j6 kj62 l1 t355 t372 t374 (decide ((wrap64 (t372 * t374)) ≤ 1024)) x17_5 x19_3 x20_5 bt382.1 true t356 t357 t358 t359 t362 t363 x378000_5 x378001_5)) else (laws_FnKnown.j6 kj62 l1 t355 t372 t374 (decide ((wrap64 (t372 * t374)) ≤ 1024)) x17_5 x19_3 x20_5 bt382.1 true t356 t357 t358 t359 t362 t363 x378000_5 x378001_5)) else (laws_FnKnown.j6 kj62 l1 t355 t372 t374 (decide ((wrap64 (t372 * t374)) ≤ 1024)) x17_5 x19_3 x20_5 bt382.1 true t356 t357 t358 t359 t362 t363 x378000_5 x378001_5)) else (laws_FnKnown.j6 kj62 l1 t355 t372 t374 (decide ((wrap64 (t372 * t374)) ≤ 1024)) x17_5 x19_3 x20_5 bt382.1 true t356 t357 t358 t359 t362 t363 x378000_5 x378001_5))))) = some r := H
                                        have A66 := Aside0.mk A660
                                        clear A660
                                        replace H := Option.bind_eq_some_iff.mp H
                                        obtain ⟨⟨t380, t381⟩, A670, H⟩ := H
                                        replace H : ((impl_DoOp.f t355 t378 t380).bind fun bt382 => ((impl_MayBe.f t362 t363 bt382.1).bind fun bt384 => (if t379 = true then (if t381 = true then (if bt382.2 = true then (if bt384.2 = true then (laws_FnKnown.j6 kj62 l1 t355 t372 t374 (decide ((wrap64 (t372 * t374)) ≤ 1024)) x17_5 x19_3 x20_5 bt382.1 (!bt384.1) t356 t357 t358 t359 t362 t363 x378000_5 x378001_5) else (laws_FnKnown.j6 kj62 l1 t355 t372 t374 (decide ((wrap64 (t372 * t374)) ≤ 1024)) x17_5 x19_3 x20_5 bt382.1 true t356 t357 t358 t359 t362 t363 x378000_5 x378001_5)) else (laws_FnKnown.j6 kj62 l1 t355 t372 t374 (decide ((wrap64 (t372 * t374)) ≤ 1024)) x17_5 x19_3 x20_5 bt382.1 true t356 t357 t358 t359 t362 t363 x378000_5 x378001_5)) else (laws_FnKnown.j6 kj62 l1 t355 t372 t374 (decide ((wrap64 (t372 * t374)) ≤ 1024)) x17_5 x19_3 x20_5 bt382.1 true t356 t357 t358 t359 t362 t363 x378000_5 x378001_5)) else (laws_FnKnown.j6 kj62 l1 t355 t372 t374 (decide ((wrap64 (t372 * t374)) ≤ 1024)) x17_5 x19_3 x20_5 bt382.1 true t356 t357 t358 t359 t362 t363 x378000_5 x378001_5)))) = some r := H
                                        have A67 := Aside0.mk A670
                                        clear A670
                                        replace H := Option.bind_eq_some_iff.mp H
                                        obtain ⟨⟨t382, t383⟩, A680, H⟩ := H
                                        replace H : ((impl_MayBe.f t362 t363 t382).bind fun bt384 => (if t379 = true then (if t381 = true then (if t383 = true then (if bt384.2 = true then (laws_FnKnown.j6 kj62 l1 t355 t372 t374 (decide ((wrap64 (t372 * t374)) ≤ 1024)) x17_5 x19_3 x20_5 t382 (!bt384.1) t356 t357 t358 t359 t362 t363 x378000_5 x378001_5) else (laws_FnKnown.j6 kj62 l1 t355 t372 t374 (decide ((wrap64 (t372 * t374)) ≤ 1024)) x17_5 x19_3 x20_5 t382 true t356 t357 t358 t359 t362 t363 x378000_5 x378001_5)) else (laws_FnKnown.j6 kj62 l1 t355 t372 t374 (decide ((wrap64 (t372 * t374)) ≤ 1024)) x17_5 x19_3 x20_5 t382 true t356 t357 t358 t359 t362 t363 x378000_5 x378001_5)) else (laws_FnKnown.j6 kj62 l1 t355 t372 t374 (decide ((wrap64 (t372 * t374)) ≤ 1024)) x17_5 x19_3 x20_5 t382 true t356 t357 t358 t359 t362 t363 x378000_5 x378001_5)) else (laws_FnKnown.j6 kj62 l1 t355 t372 t374 (decide ((wrap64 (t372 * t374)) ≤ 1024)) x17_5 x19_3 x20_5 t382 true t356 t357 t358 t359 t362 t363 x378000_5 x378001_5))) = some r := H
                                        have A68 := Aside0.mk A680
                                        clear A680
                                        replace H := Option.bind_eq_some_iff.mp H
                                        obtain ⟨⟨t384, t385⟩, A690, H⟩ := H
                                        replace H : (if t379 = true then (if t381 = true then (if t383 = true then (if t385 = true then (laws_FnKnown.j6 kj62 l1 t355 t372 t374 (decide ((wrap64 (t372 * t374)) ≤ 1024)) x17_5 x19_3 x20_5 t382 (!t384) t356 t357 t358 t359 t362 t363 x378000_5 x378001_5) else (laws_FnKnown.j6 kj62 l1 t355 t372 t374 (decide ((wrap64 (t372 * t374)) ≤ 1024)) x17_5 x19_3 x20_5 t382 true t356 t357 t358 t359 t362 t363 x378000_5 x378001_5)) else (laws_FnKnown.j6 kj62 l1 t355 t372 t374 (decide ((wrap64 (t372 * t374)) ≤ 1024)) x17_5 x19_3 x20_5 t382 true t356 t357 t358 t359 t362 t363 x378000_5 x378001_5)) else (laws_FnKnown.j6 kj62 l1 t355 t372 t374 (decide ((wrap64 (t372 * t374)) ≤ 1024)) x17_5 x19_3 x20_5 t382 true t356 t357 t358 t359 t362 t363 x378000_5 x378001_5)) else (laws_FnKnown.j6 kj62 l1 t355 t372 t374 (decide ((wrap64 (t372 * t374)) ≤ 1024)) x17_5 x19_3 x20_5 t382 true t356 t357 t358 t359 t362 t363 x378000_5 x378001_5)) = some r := H
                                        have A69 := Aside0.mk A690
                                        clear A690
                                        have HC70 := Aside0.mk H
                                        clear H
                                        have hnb71 := NB360_361.out
                                        have hnc71 := NB361_360.out
                                        have hnb72 := NB360_365.out
                                        have hnc72 := NB365_360.out
                                        have hnb73 := NB360_369.out
                                        have hnc73 := NB369_360.out
                                        have hnb74 := NB360_377.out
                                        have hnc74 := NB377_360.out
                                        have hcz75_0 := cq_ BK360.out 0 (.int .i64 t356)
                                        have hcz75_1 := cq_ BK360.out 1 (.int .i64 t357)
                                        have hfz75_0 := blk_frozen BK360.out 0
                                        have hfz75_1 := blk_frozen BK360.out 1
                                        go_upto_region 26 with (first | ((with_reducible refine gate_callee (f := 20) rfl ?_); refine goesL_ (some 136) rfl rfl Try.func20 (by kernel_rfl) rfl #[.agg #[.int .i64 t356, .int .i64 t357], .int .i64 x19_3] rfl (by (try simp only [List.map_toArray, List.map_cons, List.map_nil]); first | done | rfl | (simp only [List.length_drop, List.length_take]; rfl)) ?_; (with_reducible refine (impl_NumberAt.calls kj62 t356 t357 x19_3 t378 t379 _ A66.out).mono ?_); rintro e w76 ⟨rfl, hb⟩; refine ⟨_, rfl, ?_⟩; have n0_ := Aside0.mk (blk_below (bk_ BK360.out) hb); have n1_ := Aside0.mk (blk_below (bk_ BK361.out) hb); have n2_ := Aside0.mk (blk_below (bk_ BK365.out) hb); have n3_ := Aside0.mk (blk_below (bk_ BK369.out) hb); have n4_ := Aside0.mk (blk_below (bk_ BK377.out) hb); have n5_ := Aside0.mk (below_step (bq_) hb); clear BK360; clear BK361; clear BK365; clear BK369; clear BK377; clear HB; have BK360 := n0_; have BK361 := n1_; have BK365 := n2_; have BK369 := n3_; have BK377 := n4_; have HB := n5_; clear n0_ n1_ n2_ n3_ n4_ n5_; (try clear hb); (try clear hb2); (try clear hk); (try clear hi); have hnb77 := NB361_365.out; have hnc77 := NB365_361.out; have hnb78 := NB361_369.out; have hnc78 := NB369_361.out; have hnb79 := NB361_377.out; have hnc79 := NB377_361.out; have hcz80_0 := cq_ BK361.out 0 (.int .i64 t358); have hcz80_1 := cq_ BK361.out 1 (.int .i64 t359); have hfz80_0 := blk_frozen BK361.out 0; have hfz80_1 := blk_frozen BK361.out 1) | ((with_reducible refine gate_callee (f := 20) rfl ?_); refine goesL_ (some 142) rfl rfl Try.func20 (by kernel_rfl) rfl #[.agg #[.int .i64 t358, .int .i64 t359], .int .i64 x20_5] rfl (by (try simp only [List.map_toArray, List.map_cons, List.map_nil]); first | done | rfl | (simp only [List.length_drop, List.length_take]; rfl)) ?_; (with_reducible refine (impl_NumberAt.calls kj62 t358 t359 x20_5 t380 t381 _ A67.out).mono ?_); rintro e w81 ⟨rfl, hb⟩; refine ⟨_, rfl, ?_⟩; have n0_ := Aside0.mk (blk_below (bk_ BK360.out) hb); have n1_ := Aside0.mk (blk_below (bk_ BK361.out) hb); have n2_ := Aside0.mk (blk_below (bk_ BK365.out) hb); have n3_ := Aside0.mk (blk_below (bk_ BK369.out) hb); have n4_ := Aside0.mk (blk_below (bk_ BK377.out) hb); have n5_ := Aside0.mk (below_step (bq_) hb); clear BK360; clear BK361; clear BK365; clear BK369; clear BK377; clear HB; have BK360 := n0_; have BK361 := n1_; have BK365 := n2_; have BK369 := n3_; have BK377 := n4_; have HB := n5_; clear n0_ n1_ n2_ n3_ n4_ n5_; (try clear hb); (try clear hb2); (try clear hk); (try clear hi)) | ((with_reducible refine gate_callee (f := 41) rfl ?_); refine goesL_ (some 149) rfl rfl Try.func41 (by kernel_rfl) rfl #[.int .i64 t355, .int .i64 t378, .int .i64 t380] rfl (by (try simp only [List.map_toArray, List.map_cons, List.map_nil]); first | done | rfl | (simp only [List.length_drop, List.length_take]; rfl)) ?_; (with_reducible refine (impl_DoOp.calls t355 t378 t380 t382 t383 _ A68.out).mono ?_); rintro e w' ⟨rfl, ⟨nd, rfl⟩⟩; refine ⟨_, rfl, ?_⟩; have hnb82 := NB365_369.out; have hnc82 := NB369_365.out; have hnb83 := NB365_377.out; have hnc83 := NB377_365.out; have hcz84_0 := cq_ BK365.out 0 (.int .i64 t362); have hcz84_1 := cq_ BK365.out 1 (.int .i64 t363); have hfz84_0 := blk_frozen BK365.out 0; have hfz84_1 := blk_frozen BK365.out 1) | ((with_reducible refine gate_callee (f := 34) rfl ?_); refine goesL_ (some 155) rfl rfl Try.func34 (by kernel_rfl) rfl #[.agg #[.int .i64 t362, .int .i64 t363], .int .i64 t382] rfl (by (try simp only [List.map_toArray, List.map_cons, List.map_nil]); first | done | rfl | (simp only [List.length_drop, List.length_take]; rfl)) ?_; (with_reducible refine (impl_MayBe.calls t362 t363 t382 t384 t385 _ A69.out).mono ?_); rintro e w85 ⟨rfl, hb⟩; refine ⟨_, rfl, ?_⟩; have n0_ := Aside0.mk (blk_below (bk_ BK360.out) hb); have n1_ := Aside0.mk (blk_below (bk_ BK361.out) hb); have n2_ := Aside0.mk (blk_below (bk_ BK365.out) hb); have n3_ := Aside0.mk (blk_below (bk_ BK369.out) hb); have n4_ := Aside0.mk (blk_below (bk_ BK377.out) hb); have n5_ := Aside0.mk (below_step (bq_) hb); clear BK360; clear BK361; clear BK365; clear BK369; clear BK377; clear HB; have BK360 := n0_; have BK361 := n1_; have BK365 := n2_; have BK369 := n3_; have BK377 := n4_; have HB := n5_; clear n0_ n1_ n2_ n3_ n4_ n5_; (try clear hb); (try clear hb2); (try clear hk); (try clear hi)))
                                        (try simp only [Act.put, List.setIfInBounds_toArray, List.set_cons_zero, List.set_cons_succ])
                                        go_cut [175] (fun v175 wc => ∃ (kq : Nat) (x175_69 : Bool), v175 = .bool x175_69 ∧ Aside0 (laws_FnKnown.j6 kq l1 t355 t372 t374 (decide ((wrap64 (t372 * t374)) ≤ 1024)) x17_5 x19_3 x20_5 t382 x175_69 t356 t357 t358 t359 t362 t363 x378000_5 x378001_5 = some r) ∧ Aside0 (kq ≤ kj62) ∧ Aside0 (wc.heap[gb360]? = some (.cells #[.int .i64 t356, .int .i64 t357] 26 (0, 0))) ∧ Aside0 (wc.heap[gb361]? = some (.cells #[.int .i64 t358, .int .i64 t359] 26 (0, 0))) ∧ Aside0 (wc.heap[gb365]? = some (.cells #[.int .i64 t362, .int .i64 t363] 26 (0, 0))) ∧ Aside0 (wc.heap[gb369]? = some (.cells #[.int .i64 t366, .int .i64 t367] 26 (0, 0))) ∧ Aside0 (wc.heap[gb377]? = some (.cells #[.int .i64 x378000_5, .int .i64 x378001_5] 26 (0, 0))) ∧ Aside0 (Below w.heap.size w wc))
                                        case first =>
                                          have H := HC70.out
                                          clear HC70
                                          by_cases c86 : t379 = true
                                          · subst c86
                                            have H1 : (if t381 = true then (if t383 = true then (if t385 = true then (laws_FnKnown.j6 kj62 l1 t355 t372 t374 (decide ((wrap64 (t372 * t374)) ≤ 1024)) x17_5 x19_3 x20_5 t382 (!t384) t356 t357 t358 t359 t362 t363 x378000_5 x378001_5) else (laws_FnKnown.j6 kj62 l1 t355 t372 t374 (decide ((wrap64 (t372 * t374)) ≤ 1024)) x17_5 x19_3 x20_5 t382 true t356 t357 t358 t359 t362 t363 x378000_5 x378001_5)) else (laws_FnKnown.j6 kj62 l1 t355 t372 t374 (decide ((wrap64 (t372 * t374)) ≤ 1024)) x17_5 x19_3 x20_5 t382 true t356 t357 t358 t359 t362 t363 x378000_5 x378001_5)) else (laws_FnKnown.j6 kj62 l1 t355 t372 t374 (decide ((wrap64 (t372 * t374)) ≤ 1024)) x17_5 x19_3 x20_5 t382 true t356 t357 t358 t359 t362 t363 x378000_5 x378001_5)) = some r := by rw [if_pos rfl] at H; exact H
                                            clear H
                                            have H := H1
                                            clear H1
                                            by_cases c87 : t381 = true
                                            · subst c87
                                              have H1 : (if t383 = true then (if t385 = true then (laws_FnKnown.j6 kj62 l1 t355 t372 t374 (decide ((wrap64 (t372 * t374)) ≤ 1024)) x17_5 x19_3 x20_5 t382 (!t384) t356 t357 t358 t359 t362 t363 x378000_5 x378001_5) else (laws_FnKnown.j6 kj62 l1 t355 t372 t374 (decide ((wrap64 (t372 * t374)) ≤ 1024)) x17_5 x19_3 x20_5 t382 true t356 t357 t358 t359 t362 t363 x378000_5 x378001_5)) else (laws_FnKnown.j6 kj62 l1 t355 t372 t374 (decide ((wrap64 (t372 * t374)) ≤ 1024)) x17_5 x19_3 x20_5 t382 true t356 t357 t358 t359 t362 t363 x378000_5 x378001_5)) = some r := by rw [if_pos rfl] at H; exact H
                                              clear H
                                              have H := H1
                                              clear H1
                                              by_cases c88 : t383 = true
                                              · subst c88
                                                have H1 : (if t385 = true then (laws_FnKnown.j6 kj62 l1 t355 t372 t374 (decide ((wrap64 (t372 * t374)) ≤ 1024)) x17_5 x19_3 x20_5 t382 (!t384) t356 t357 t358 t359 t362 t363 x378000_5 x378001_5) else (laws_FnKnown.j6 kj62 l1 t355 t372 t374 (decide ((wrap64 (t372 * t374)) ≤ 1024)) x17_5 x19_3 x20_5 t382 true t356 t357 t358 t359 t362 t363 x378000_5 x378001_5)) = some r := by rw [if_pos rfl] at H; exact H
                                                clear H
                                                have H := H1
                                                clear H1
                                                by_cases c89 : t385 = true
                                                · subst c89
                                                  have H1 : (laws_FnKnown.j6 kj62 l1 t355 t372 t374 (decide ((wrap64 (t372 * t374)) ≤ 1024)) x17_5 x19_3 x20_5 t382 (!t384) t356 t357 t358 t359 t362 t363 x378000_5 x378001_5) = some r := by rw [if_pos rfl] at H; exact H
                                                  clear H
                                                  have H := H1
                                                  clear H1
                                                  as_aux_lemma =>
                                                    have H' := Aside0.mk H
                                                    clear H
                                                    go_wp2
                                                    go_meet
                                                    case rel => exact ⟨_, (!t384), (by first | rfl | (simp; done) | (simp [*]; done)), H', ⟨by have := HJ6.out; have := HJ39.out; have := HK3.out; have := HJ59.out; have := HK5.out; have := HJ62.out; first | omega | exact Nat.le_refl _⟩, ⟨bk_ BK360.out⟩, ⟨bk_ BK361.out⟩, ⟨bk_ BK365.out⟩, ⟨bk_ BK369.out⟩, ⟨bk_ BK377.out⟩, ⟨bq_⟩⟩
                                                · replace c89 := Bool.eq_false_iff.mpr c89
                                                  subst c89
                                                  have H1 : (laws_FnKnown.j6 kj62 l1 t355 t372 t374 (decide ((wrap64 (t372 * t374)) ≤ 1024)) x17_5 x19_3 x20_5 t382 true t356 t357 t358 t359 t362 t363 x378000_5 x378001_5) = some r := by rw [if_neg (show ¬ (false = true) by decide)] at H; exact H
                                                  clear H
                                                  have H := H1
                                                  clear H1
                                                  exact (laws_FnKnown.j6_no_9 (by rw [hr_.out] at H; exact H)).elim
                                              · replace c88 := Bool.eq_false_iff.mpr c88
                                                subst c88
                                                have H1 : (laws_FnKnown.j6 kj62 l1 t355 t372 t374 (decide ((wrap64 (t372 * t374)) ≤ 1024)) x17_5 x19_3 x20_5 t382 true t356 t357 t358 t359 t362 t363 x378000_5 x378001_5) = some r := by rw [if_neg (show ¬ (false = true) by decide)] at H; exact H
                                                clear H
                                                have H := H1
                                                clear H1
                                                exact (laws_FnKnown.j6_no_9 (by rw [hr_.out] at H; exact H)).elim
                                            · replace c87 := Bool.eq_false_iff.mpr c87
                                              subst c87
                                              have H1 : (laws_FnKnown.j6 kj62 l1 t355 t372 t374 (decide ((wrap64 (t372 * t374)) ≤ 1024)) x17_5 x19_3 x20_5 t382 true t356 t357 t358 t359 t362 t363 x378000_5 x378001_5) = some r := by rw [if_neg (show ¬ (false = true) by decide)] at H; exact H
                                              clear H
                                              have H := H1
                                              clear H1
                                              exact (laws_FnKnown.j6_no_9 (by rw [hr_.out] at H; exact H)).elim
                                          · replace c86 := Bool.eq_false_iff.mpr c86
                                            subst c86
                                            have H1 : (laws_FnKnown.j6 kj62 l1 t355 t372 t374 (decide ((wrap64 (t372 * t374)) ≤ 1024)) x17_5 x19_3 x20_5 t382 true t356 t357 t358 t359 t362 t363 x378000_5 x378001_5) = some r := by rw [if_neg (show ¬ (false = true) by decide)] at H; exact H
                                            clear H
                                            have H := H1
                                            clear H1
                                            exact (laws_FnKnown.j6_no_9 (by rw [hr_.out] at H; exact H)).elim
                                        case rest =>
                                          clear HC70
                                          try clear c1
                                          try clear c2
                                          try clear p2
                                          try clear c3
                                          try clear c3b0
                                          try clear c4
                                          try clear c5
                                          try clear c6
                                          try clear p6
                                          try clear c7
                                          try clear c8
                                          try clear c10
                                          try clear c11
                                          try clear c13
                                          try clear c16
                                          try clear c17
                                          try clear c20
                                          try clear c23
                                          try clear c24
                                          try clear c25
                                          try clear c26
                                          try clear c27
                                          try clear c27b0
                                          try clear c27b1
                                          try clear c27b2
                                          try clear c28
                                          try clear c28b0
                                          try clear c32
                                          try clear c34
                                          try clear c35
                                          try clear c37
                                          try clear c41
                                          try clear c42
                                          try clear c43
                                          try clear c46
                                          try clear c47
                                          try clear c51
                                          try clear c52
                                          try clear c53
                                          try clear c54
                                          try clear c55
                                          try clear c58
                                          try clear c61
                                          try clear c61b0
                                          try clear c62
                                          try clear c64
                                          try clear c64b0
                                          try clear p64
                                          try clear c65
                                          try clear c71
                                          try clear c72
                                          try clear c73
                                          try clear c74
                                          try clear c77
                                          try clear c78
                                          try clear c79
                                          try clear c82
                                          try clear c83
                                          try clear c86
                                          try clear c87
                                          try clear c88
                                          try clear c89
                                          try clear hcz12_0
                                          try clear hcz12_1
                                          try clear hcz13_0
                                          try clear hcz13_1
                                          try clear hcz18_0
                                          try clear hcz18_1
                                          try clear hcz19_0
                                          try clear hcz19_1
                                          try clear hcz20_0
                                          try clear hcz20_1
                                          try clear hcz26_0
                                          try clear hcz26_1
                                          try clear hcz44_0
                                          try clear hcz44_1
                                          try clear hcz48_0
                                          try clear hcz48_1
                                          try clear hcz56_0
                                          try clear hcz56_1
                                          try clear hcz75_0
                                          try clear hcz75_1
                                          try clear hcz80_0
                                          try clear hcz80_1
                                          try clear hcz84_0
                                          try clear hcz84_1
                                          try clear hfz12_0
                                          try clear hfz12_1
                                          try clear hfz13_0
                                          try clear hfz13_1
                                          try clear hfz18_0
                                          try clear hfz18_1
                                          try clear hfz19_0
                                          try clear hfz19_1
                                          try clear hfz20_0
                                          try clear hfz20_1
                                          try clear hfz26_0
                                          try clear hfz26_1
                                          try clear hfz44_0
                                          try clear hfz44_1
                                          try clear hfz48_0
                                          try clear hfz48_1
                                          try clear hfz56_0
                                          try clear hfz56_1
                                          try clear hfz75_0
                                          try clear hfz75_1
                                          try clear hfz80_0
                                          try clear hfz80_1
                                          try clear hfz84_0
                                          try clear hfz84_1
                                          try clear p2
                                          try clear p6
                                          try clear p64
                                          obtain ⟨kq, x175_69, rfl, HA, HJ69, BK360, BK361, BK365, BK369, BK377, HB⟩ := hcut
                                          cases kq with
                                          | zero => exact absurd HA.out (by simp [laws_FnKnown.j6])
                                          | succ kj69 =>
                                            have H := HA.out
                                            clear HA
                                            simp only [laws_FnKnown.j6] at H
                                            by_cases c90 : x175_69 = true
                                            · subst c90
                                              have H1 : (some false) = some r := by rw [if_pos rfl] at H; exact H
                                              clear H
                                              have H := H1
                                              clear H1
                                              exact absurd (Option.some.inj H).symm (by rw [hr_.out]; simp)
                                            · replace c90 := Bool.eq_false_iff.mpr c90
                                              subst c90
                                              have H1 : (if x17_5 = true then (laws_FnKnown.l1 kj69 l1 t355 t372 t374 (decide ((wrap64 (t372 * t374)) ≤ 1024)) false x19_3 (wrap64 (x20_5 + 1)) t356 t357 t358 t359 t362 t363 t382 0) else ((impl_JoinKnown.f x378000_5 x378001_5 t382 0).bind fun bt387 => (if bt387.2.2 = true then (laws_FnKnown.l1 kj69 l1 t355 t372 t374 (decide ((wrap64 (t372 * t374)) ≤ 1024)) false x19_3 (wrap64 (x20_5 + 1)) t356 t357 t358 t359 t362 t363 bt387.1 bt387.2.1) else (some false)))) = some r := by rw [if_neg (show ¬ (false = true) by decide)] at H; exact H
                                              clear H
                                              have H := H1
                                              clear H1
                                              by_cases c91 : x17_5 = true
                                              · subst c91
                                                have H1 : (laws_FnKnown.l1 kj69 l1 t355 t372 t374 (decide ((wrap64 (t372 * t374)) ≤ 1024)) false x19_3 (wrap64 (x20_5 + 1)) t356 t357 t358 t359 t362 t363 t382 0) = some r := by rw [if_pos rfl] at H; exact H
                                                clear H
                                                have H := H1
                                                clear H1
                                                as_aux_lemma =>
                                                  have H' := Aside0.mk H
                                                  clear H
                                                  go_wp2_with (first | ((with_reducible refine gate_dst (N := 29) rfl ?_); refine boxq_ (N := 29) (cs := #[.int .i64 0, .int .i64 0]) (t := 26) ?_; intro gb386 hg w92 hbox hb; have n0_ := Aside0.mk (blk_below (bk_ BK360.out) hb); have n1_ := Aside0.mk (blk_below (bk_ BK361.out) hb); have n2_ := Aside0.mk (blk_below (bk_ BK365.out) hb); have n3_ := Aside0.mk (blk_below (bk_ BK369.out) hb); have n4_ := Aside0.mk (blk_below (bk_ BK377.out) hb); have n5_ := Aside0.mk (below_step (bq_) hb); have n6_ := Aside0.mk (hbox); have n7_ := Aside0.mk ((by rw [hg]; exact (below_size (bq_)) : w.heap.size ≤ gb386)); have n8_ := Aside0.mk ((by rw [hg]; exact (below_size (bq_)) : w.heap.size ≤ gb386)); have n9_ := Aside0.mk ((by rw [hg]; exact Nat.ne_of_lt (blk_lt (bk_ BK360.out)) : gb360 ≠ gb386)); have n10_ := Aside0.mk ((by rw [hg]; exact Nat.ne_of_gt (blk_lt (bk_ BK360.out)) : gb386 ≠ gb360)); have n11_ := Aside0.mk ((by rw [hg]; exact Nat.ne_of_lt (blk_lt (bk_ BK361.out)) : gb361 ≠ gb386)); have n12_ := Aside0.mk ((by rw [hg]; exact Nat.ne_of_gt (blk_lt (bk_ BK361.out)) : gb386 ≠ gb361)); have n13_ := Aside0.mk ((by rw [hg]; exact Nat.ne_of_lt (blk_lt (bk_ BK365.out)) : gb365 ≠ gb386)); have n14_ := Aside0.mk ((by rw [hg]; exact Nat.ne_of_gt (blk_lt (bk_ BK365.out)) : gb386 ≠ gb365)); have n15_ := Aside0.mk ((by rw [hg]; exact Nat.ne_of_lt (blk_lt (bk_ BK369.out)) : gb369 ≠ gb386)); have n16_ := Aside0.mk ((by rw [hg]; exact Nat.ne_of_gt (blk_lt (bk_ BK369.out)) : gb386 ≠ gb369)); have n17_ := Aside0.mk ((by rw [hg]; exact Nat.ne_of_lt (blk_lt (bk_ BK377.out)) : gb377 ≠ gb386)); have n18_ := Aside0.mk ((by rw [hg]; exact Nat.ne_of_gt (blk_lt (bk_ BK377.out)) : gb386 ≠ gb377)); clear BK360; clear BK361; clear BK365; clear BK369; clear BK377; clear HB; have BK360 := n0_; have BK361 := n1_; have BK365 := n2_; have BK369 := n3_; have BK377 := n4_; have HB := n5_; have BK386 := n6_; have GW386 := n7_; have GE386 := n8_; have NB360_386 := n9_; have NB386_360 := n10_; have NB361_386 := n11_; have NB386_361 := n12_; have NB365_386 := n13_; have NB386_365 := n14_; have NB369_386 := n15_; have NB386_369 := n16_; have NB377_386 := n17_; have NB386_377 := n18_; clear n0_ n1_ n2_ n3_ n4_ n5_ n6_ n7_ n8_ n9_ n10_ n11_ n12_ n13_ n14_ n15_ n16_ n17_ n18_; clear hb hbox hg; have hnb93 := NB386_360.out; have hnc93 := NB360_386.out; have hnb94 := NB386_361.out; have hnc94 := NB361_386.out; have hnb95 := NB386_365.out; have hnc95 := NB365_386.out; have hnb96 := NB386_369.out; have hnc96 := NB369_386.out; have hnb97 := NB386_377.out; have hnc97 := NB377_386.out; have hcz98_0 := cq_ BK386.out 0 (.int .i64 0); have hcz98_1 := cq_ BK386.out 1 (.int .i64 0); have hfz98_0 := blk_frozen BK386.out 0; have hfz98_1 := blk_frozen BK386.out 1; have hnb99 := NB377_360.out; have hnc99 := NB360_377.out; have hnb100 := NB377_361.out; have hnc100 := NB361_377.out; have hnb101 := NB377_365.out; have hnc101 := NB365_377.out; have hnb102 := NB377_369.out; have hnc102 := NB369_377.out; have hcz103_0 := cq_ BK377.out 0 (.int .i64 x378000_5); have hcz103_1 := cq_ BK377.out 1 (.int .i64 x378001_5); have hfz103_0 := blk_frozen BK377.out 0; have hfz103_1 := blk_frozen BK377.out 1))
                                                  go_roundg kj69
                                                  case measure => have := HJ6.out; have := HJ39.out; have := HK3.out; have := HJ59.out; have := HK5.out; have := HJ62.out; have := HJ69.out; omega
                                                  case rel => exact ⟨(false), (wrap64 (x20_5 + 1)), (t382), (0), (by first | rfl | (simp; done) | (simp [*]; done)), (by first | rfl | (simp; done) | (simp [*]; done)), H', ⟨by have := HJ6.out; have := HJ39.out; have := HK3.out; have := HJ59.out; have := HK5.out; have := HJ62.out; have := HJ69.out; omega⟩, ⟨by (with_reducible repeat (first | refine blk_drewN ?_ _ | refine blk_drew ?_ | refine blk_alloc ?_ _)); refine blk_far ?_ NB360_377.out _; (with_reducible repeat (first | refine blk_drewN ?_ _ | refine blk_drew ?_ | refine blk_alloc ?_ _)); refine blk_far ?_ NB360_377.out _; (with_reducible repeat (first | refine blk_drewN ?_ _ | refine blk_drew ?_ | refine blk_alloc ?_ _)); refine blk_far ?_ NB360_386.out _; (with_reducible repeat (first | refine blk_drewN ?_ _ | refine blk_drew ?_ | refine blk_alloc ?_ _)); refine blk_far ?_ NB360_386.out _; (with_reducible repeat (first | refine blk_drewN ?_ _ | refine blk_drew ?_ | refine blk_alloc ?_ _)); exact BK360.out⟩, ⟨by (with_reducible repeat (first | refine blk_drewN ?_ _ | refine blk_drew ?_ | refine blk_alloc ?_ _)); refine blk_far ?_ NB361_377.out _; (with_reducible repeat (first | refine blk_drewN ?_ _ | refine blk_drew ?_ | refine blk_alloc ?_ _)); refine blk_far ?_ NB361_377.out _; (with_reducible repeat (first | refine blk_drewN ?_ _ | refine blk_drew ?_ | refine blk_alloc ?_ _)); refine blk_far ?_ NB361_386.out _; (with_reducible repeat (first | refine blk_drewN ?_ _ | refine blk_drew ?_ | refine blk_alloc ?_ _)); refine blk_far ?_ NB361_386.out _; (with_reducible repeat (first | refine blk_drewN ?_ _ | refine blk_drew ?_ | refine blk_alloc ?_ _)); exact BK361.out⟩, ⟨by (with_reducible repeat (first | refine blk_drewN ?_ _ | refine blk_drew ?_ | refine blk_alloc ?_ _)); refine blk_far ?_ NB365_377.out _; (with_reducible repeat (first | refine blk_drewN ?_ _ | refine blk_drew ?_ | refine blk_alloc ?_ _)); refine blk_far ?_ NB365_377.out _; (with_reducible repeat (first | refine blk_drewN ?_ _ | refine blk_drew ?_ | refine blk_alloc ?_ _)); refine blk_far ?_ NB365_386.out _; (with_reducible repeat (first | refine blk_drewN ?_ _ | refine blk_drew ?_ | refine blk_alloc ?_ _)); refine blk_far ?_ NB365_386.out _; (with_reducible repeat (first | refine blk_drewN ?_ _ | refine blk_drew ?_ | refine blk_alloc ?_ _)); exact BK365.out⟩, ⟨by (with_reducible repeat (first | refine blk_drewN ?_ _ | refine blk_drew ?_ | refine blk_alloc ?_ _)); refine blk_far ?_ NB369_377.out _; (with_reducible repeat (first | refine blk_drewN ?_ _ | refine blk_drew ?_ | refine blk_alloc ?_ _)); refine blk_far ?_ NB369_377.out _; (with_reducible repeat (first | refine blk_drewN ?_ _ | refine blk_drew ?_ | refine blk_alloc ?_ _)); refine blk_far ?_ NB369_386.out _; (with_reducible repeat (first | refine blk_drewN ?_ _ | refine blk_drew ?_ | refine blk_alloc ?_ _)); refine blk_far ?_ NB369_386.out _; (with_reducible repeat (first | refine blk_drewN ?_ _ | refine blk_drew ?_ | refine blk_alloc ?_ _)); exact BK369.out⟩, ⟨by (with_reducible repeat (first | refine blk_drewN ?_ _ | refine blk_drew ?_ | refine blk_alloc ?_ _)); refine blk_put (cs := #[.int .i64 t382, .int .i64 x378001_5]) ?_ 1 _ rfl; (with_reducible repeat (first | refine blk_drewN ?_ _ | refine blk_drew ?_ | refine blk_alloc ?_ _)); refine blk_put (cs := #[.int .i64 x378000_5, .int .i64 x378001_5]) ?_ 0 _ rfl; (with_reducible repeat (first | refine blk_drewN ?_ _ | refine blk_drew ?_ | refine blk_alloc ?_ _)); refine blk_far ?_ NB377_386.out _; (with_reducible repeat (first | refine blk_drewN ?_ _ | refine blk_drew ?_ | refine blk_alloc ?_ _)); refine blk_far ?_ NB377_386.out _; (with_reducible repeat (first | refine blk_drewN ?_ _ | refine blk_drew ?_ | refine blk_alloc ?_ _)); exact BK377.out⟩, ⟨bq_⟩⟩
                                              · replace c91 := Bool.eq_false_iff.mpr c91
                                                subst c91
                                                have H1 : ((impl_JoinKnown.f x378000_5 x378001_5 t382 0).bind fun bt387 => (if bt387.2.2 = true then (laws_FnKnown.l1 kj69 l1 t355 t372 t374 (decide ((wrap64 (t372 * t374)) ≤ 1024)) false x19_3 (wrap64 (x20_5 + 1)) t356 t357 t358 t359 t362 t363 bt387.1 bt387.2.1) else (some false))) = some r := by rw [if_neg (show ¬ (false = true) by decide)] at H; exact H
                                                clear H
                                                have H := H1
                                                clear H1
                                                replace H := Option.bind_eq_some_iff.mp H
                                                obtain ⟨⟨t387, t388, t389⟩, A1040, H⟩ := H
                                                replace H : (if t389 = true then (laws_FnKnown.l1 kj69 l1 t355 t372 t374 (decide ((wrap64 (t372 * t374)) ≤ 1024)) false x19_3 (wrap64 (x20_5 + 1)) t356 t357 t358 t359 t362 t363 t387 t388) else (some false)) = some r := H
                                                have A104 := Aside0.mk A1040
                                                clear A1040
                                                by_cases c105 : t389 = true
                                                · subst c105
                                                  have H1 : (laws_FnKnown.l1 kj69 l1 t355 t372 t374 (decide ((wrap64 (t372 * t374)) ≤ 1024)) false x19_3 (wrap64 (x20_5 + 1)) t356 t357 t358 t359 t362 t363 t387 t388) = some r := by rw [if_pos rfl] at H; exact H
                                                  clear H
                                                  have H := H1
                                                  clear H1
                                                  as_aux_lemma =>
                                                    have H' := Aside0.mk H
                                                    clear H
                                                    go_wp2_with (first | ((with_reducible refine gate_dst (N := 29) rfl ?_); refine boxq_ (N := 29) (cs := #[.int .i64 0, .int .i64 0]) (t := 26) ?_; intro gb386 hg w106 hbox hb; have n0_ := Aside0.mk (blk_below (bk_ BK360.out) hb); have n1_ := Aside0.mk (blk_below (bk_ BK361.out) hb); have n2_ := Aside0.mk (blk_below (bk_ BK365.out) hb); have n3_ := Aside0.mk (blk_below (bk_ BK369.out) hb); have n4_ := Aside0.mk (blk_below (bk_ BK377.out) hb); have n5_ := Aside0.mk (below_step (bq_) hb); have n6_ := Aside0.mk (hbox); have n7_ := Aside0.mk ((by rw [hg]; exact (below_size (bq_)) : w.heap.size ≤ gb386)); have n8_ := Aside0.mk ((by rw [hg]; exact (below_size (bq_)) : w.heap.size ≤ gb386)); have n9_ := Aside0.mk ((by rw [hg]; exact Nat.ne_of_lt (blk_lt (bk_ BK360.out)) : gb360 ≠ gb386)); have n10_ := Aside0.mk ((by rw [hg]; exact Nat.ne_of_gt (blk_lt (bk_ BK360.out)) : gb386 ≠ gb360)); have n11_ := Aside0.mk ((by rw [hg]; exact Nat.ne_of_lt (blk_lt (bk_ BK361.out)) : gb361 ≠ gb386)); have n12_ := Aside0.mk ((by rw [hg]; exact Nat.ne_of_gt (blk_lt (bk_ BK361.out)) : gb386 ≠ gb361)); have n13_ := Aside0.mk ((by rw [hg]; exact Nat.ne_of_lt (blk_lt (bk_ BK365.out)) : gb365 ≠ gb386)); have n14_ := Aside0.mk ((by rw [hg]; exact Nat.ne_of_gt (blk_lt (bk_ BK365.out)) : gb386 ≠ gb365)); have n15_ := Aside0.mk ((by rw [hg]; exact Nat.ne_of_lt (blk_lt (bk_ BK369.out)) : gb369 ≠ gb386)); have n16_ := Aside0.mk ((by rw [hg]; exact Nat.ne_of_gt (blk_lt (bk_ BK369.out)) : gb386 ≠ gb369)); have n17_ := Aside0.mk ((by rw [hg]; exact Nat.ne_of_lt (blk_lt (bk_ BK377.out)) : gb377 ≠ gb386)); have n18_ := Aside0.mk ((by rw [hg]; exact Nat.ne_of_gt (blk_lt (bk_ BK377.out)) : gb386 ≠ gb377)); clear BK360; clear BK361; clear BK365; clear BK369; clear BK377; clear HB; have BK360 := n0_; have BK361 := n1_; have BK365 := n2_; have BK369 := n3_; have BK377 := n4_; have HB := n5_; have BK386 := n6_; have GW386 := n7_; have GE386 := n8_; have NB360_386 := n9_; have NB386_360 := n10_; have NB361_386 := n11_; have NB386_361 := n12_; have NB365_386 := n13_; have NB386_365 := n14_; have NB369_386 := n15_; have NB386_369 := n16_; have NB377_386 := n17_; have NB386_377 := n18_; clear n0_ n1_ n2_ n3_ n4_ n5_ n6_ n7_ n8_ n9_ n10_ n11_ n12_ n13_ n14_ n15_ n16_ n17_ n18_; clear hb hbox hg; have hnb107 := NB386_360.out; have hnc107 := NB360_386.out; have hnb108 := NB386_361.out; have hnc108 := NB361_386.out; have hnb109 := NB386_365.out; have hnc109 := NB365_386.out; have hnb110 := NB386_369.out; have hnc110 := NB369_386.out; have hnb111 := NB386_377.out; have hnc111 := NB377_386.out; have hcz112_0 := cq_ BK386.out 0 (.int .i64 0); have hcz112_1 := cq_ BK386.out 1 (.int .i64 0); have hfz112_0 := blk_frozen BK386.out 0; have hfz112_1 := blk_frozen BK386.out 1; have hnb113 := NB377_360.out; have hnc113 := NB360_377.out; have hnb114 := NB377_361.out; have hnc114 := NB361_377.out; have hnb115 := NB377_365.out; have hnc115 := NB365_377.out; have hnb116 := NB377_369.out; have hnc116 := NB369_377.out; have hcz117_0 := cq_ BK377.out 0 (.int .i64 x378000_5); have hcz117_1 := cq_ BK377.out 1 (.int .i64 x378001_5); have hfz117_0 := blk_frozen BK377.out 0; have hfz117_1 := blk_frozen BK377.out 1) | ((with_reducible refine gate_callee (f := 30) rfl ?_); refine goesL_ (some 183) rfl rfl Try.func30 (by kernel_rfl) rfl #[.agg #[.int .i64 x378000_5, .int .i64 x378001_5], .agg #[.int .i64 t382, .int .i64 0]] rfl (by (try simp only [List.map_toArray, List.map_cons, List.map_nil]); first | done | rfl | (simp only [List.length_drop, List.length_take]; rfl)) ?_; (with_reducible refine (impl_JoinKnown.calls x378000_5 x378001_5 t382 0 t387 t388 true _ A104.out).mono ?_); rintro e w118 ⟨rfl, hb⟩; refine ⟨_, rfl, ?_⟩; have n0_ := Aside0.mk (blk_below (g := gb360) (o := .cells #[.int .i64 t356, .int .i64 t357] 26 (0, 0)) (by (with_reducible repeat (first | refine blk_drewN ?_ _ | refine blk_drew ?_ | refine blk_alloc ?_ _)); refine blk_far ?_ NB360_386.out _; (with_reducible repeat (first | refine blk_drewN ?_ _ | refine blk_drew ?_ | refine blk_alloc ?_ _)); refine blk_far ?_ NB360_386.out _; (with_reducible repeat (first | refine blk_drewN ?_ _ | refine blk_drew ?_ | refine blk_alloc ?_ _)); exact BK360.out) hb); have n1_ := Aside0.mk (blk_below (g := gb361) (o := .cells #[.int .i64 t358, .int .i64 t359] 26 (0, 0)) (by (with_reducible repeat (first | refine blk_drewN ?_ _ | refine blk_drew ?_ | refine blk_alloc ?_ _)); refine blk_far ?_ NB361_386.out _; (with_reducible repeat (first | refine blk_drewN ?_ _ | refine blk_drew ?_ | refine blk_alloc ?_ _)); refine blk_far ?_ NB361_386.out _; (with_reducible repeat (first | refine blk_drewN ?_ _ | refine blk_drew ?_ | refine blk_alloc ?_ _)); exact BK361.out) hb); have n2_ := Aside0.mk (blk_below (g := gb365) (o := .cells #[.int .i64 t362, .int .i64 t363] 26 (0, 0)) (by (with_reducible repeat (first | refine blk_drewN ?_ _ | refine blk_drew ?_ | refine blk_alloc ?_ _)); refine blk_far ?_ NB365_386.out _; (with_reducible repeat (first | refine blk_drewN ?_ _ | refine blk_drew ?_ | refine blk_alloc ?_ _)); refine blk_far ?_ NB365_386.out _; (with_reducible repeat (first | refine blk_drewN ?_ _ | refine blk_drew ?_ | refine blk_alloc ?_ _)); exact BK365.out) hb); have n3_ := Aside0.mk (blk_below (g := gb369) (o := .cells #[.int .i64 t366, .int .i64 t367] 26 (0, 0)) (by (with_reducible repeat (first | refine blk_drewN ?_ _ | refine blk_drew ?_ | refine blk_alloc ?_ _)); refine blk_far ?_ NB369_386.out _; (with_reducible repeat (first | refine blk_drewN ?_ _ | refine blk_drew ?_ | refine blk_alloc ?_ _)); refine blk_far ?_ NB369_386.out _; (with_reducible repeat (first | refine blk_drewN ?_ _ | refine blk_drew ?_ | refine blk_alloc ?_ _)); exact BK369.out) hb); have n4_ := Aside0.mk (blk_below (g := gb377) (o := .cells #[.int .i64 x378000_5, .int .i64 x378001_5] 26 (0, 0)) (by (with_reducible repeat (first | refine blk_drewN ?_ _ | refine blk_drew ?_ | refine blk_alloc ?_ _)); refine blk_far ?_ NB377_386.out _; (with_reducible repeat (first | refine blk_drewN ?_ _ | refine blk_drew ?_ | refine blk_alloc ?_ _)); refine blk_far ?_ NB377_386.out _; (with_reducible repeat (first | refine blk_drewN ?_ _ | refine blk_drew ?_ | refine blk_alloc ?_ _)); exact BK377.out) hb); have n5_ := Aside0.mk (blk_below (g := gb386) (o := .cells #[.int .i64 t382, .int .i64 0] 26 (0, 0)) (by (with_reducible repeat (first | refine blk_drewN ?_ _ | refine blk_drew ?_ | refine blk_alloc ?_ _)); refine blk_put (cs := #[.int .i64 t382, .int .i64 0]) ?_ 1 _ rfl; (with_reducible repeat (first | refine blk_drewN ?_ _ | refine blk_drew ?_ | refine blk_alloc ?_ _)); refine blk_put (cs := #[.int .i64 0, .int .i64 0]) ?_ 0 _ rfl; (with_reducible repeat (first | refine blk_drewN ?_ _ | refine blk_drew ?_ | refine blk_alloc ?_ _)); exact BK386.out) hb); have n6_ := Aside0.mk (below_step (bq_) hb); clear BK360; clear BK361; clear BK365; clear BK369; clear BK377; clear BK386; clear HB; have BK360 := n0_; have BK361 := n1_; have BK365 := n2_; have BK369 := n3_; have BK377 := n4_; have BK386 := n5_; have HB := n6_; clear n0_ n1_ n2_ n3_ n4_ n5_ n6_; (try clear hb); (try clear hb2); (try clear hk); (try clear hi)) | ((with_reducible refine gate_dst (N := 30) rfl ?_); refine boxq_ (N := 30) (cs := #[.int .i64 0, .int .i64 0]) (t := 26) ?_; intro gb390 hg w119 hbox hb; have n0_ := Aside0.mk (blk_below (bk_ BK360.out) hb); have n1_ := Aside0.mk (blk_below (bk_ BK361.out) hb); have n2_ := Aside0.mk (blk_below (bk_ BK365.out) hb); have n3_ := Aside0.mk (blk_below (bk_ BK369.out) hb); have n4_ := Aside0.mk (blk_below (bk_ BK377.out) hb); have n5_ := Aside0.mk (blk_below (bk_ BK386.out) hb); have n6_ := Aside0.mk (below_step (bq_) hb); have n7_ := Aside0.mk (hbox); have n8_ := Aside0.mk ((by rw [hg]; exact (below_size (bq_)) : w.heap.size ≤ gb390)); have n9_ := Aside0.mk ((by rw [hg]; exact (below_size (bq_)) : w.heap.size ≤ gb390)); have n10_ := Aside0.mk ((by rw [hg]; exact Nat.ne_of_lt (blk_lt (bk_ BK360.out)) : gb360 ≠ gb390)); have n11_ := Aside0.mk ((by rw [hg]; exact Nat.ne_of_gt (blk_lt (bk_ BK360.out)) : gb390 ≠ gb360)); have n12_ := Aside0.mk ((by rw [hg]; exact Nat.ne_of_lt (blk_lt (bk_ BK361.out)) : gb361 ≠ gb390)); have n13_ := Aside0.mk ((by rw [hg]; exact Nat.ne_of_gt (blk_lt (bk_ BK361.out)) : gb390 ≠ gb361)); have n14_ := Aside0.mk ((by rw [hg]; exact Nat.ne_of_lt (blk_lt (bk_ BK365.out)) : gb365 ≠ gb390)); have n15_ := Aside0.mk ((by rw [hg]; exact Nat.ne_of_gt (blk_lt (bk_ BK365.out)) : gb390 ≠ gb365)); have n16_ := Aside0.mk ((by rw [hg]; exact Nat.ne_of_lt (blk_lt (bk_ BK369.out)) : gb369 ≠ gb390)); have n17_ := Aside0.mk ((by rw [hg]; exact Nat.ne_of_gt (blk_lt (bk_ BK369.out)) : gb390 ≠ gb369)); have n18_ := Aside0.mk ((by rw [hg]; exact Nat.ne_of_lt (blk_lt (bk_ BK377.out)) : gb377 ≠ gb390)); have n19_ := Aside0.mk ((by rw [hg]; exact Nat.ne_of_gt (blk_lt (bk_ BK377.out)) : gb390 ≠ gb377)); have n20_ := Aside0.mk ((by rw [hg]; exact Nat.ne_of_lt (blk_lt (bk_ BK386.out)) : gb386 ≠ gb390)); have n21_ := Aside0.mk ((by rw [hg]; exact Nat.ne_of_gt (blk_lt (bk_ BK386.out)) : gb390 ≠ gb386)); clear BK360; clear BK361; clear BK365; clear BK369; clear BK377; clear BK386; clear HB; have BK360 := n0_; have BK361 := n1_; have BK365 := n2_; have BK369 := n3_; have BK377 := n4_; have BK386 := n5_; have HB := n6_; have BK390 := n7_; have GW390 := n8_; have GE390 := n9_; have NB360_390 := n10_; have NB390_360 := n11_; have NB361_390 := n12_; have NB390_361 := n13_; have NB365_390 := n14_; have NB390_365 := n15_; have NB369_390 := n16_; have NB390_369 := n17_; have NB377_390 := n18_; have NB390_377 := n19_; have NB386_390 := n20_; have NB390_386 := n21_; clear n0_ n1_ n2_ n3_ n4_ n5_ n6_ n7_ n8_ n9_ n10_ n11_ n12_ n13_ n14_ n15_ n16_ n17_ n18_ n19_ n20_ n21_; clear hb hbox hg; have hnb120 := NB390_360.out; have hnc120 := NB360_390.out; have hnb121 := NB390_361.out; have hnc121 := NB361_390.out; have hnb122 := NB390_365.out; have hnc122 := NB365_390.out; have hnb123 := NB390_369.out; have hnc123 := NB369_390.out; have hnb124 := NB390_377.out; have hnc124 := NB377_390.out; have hnb125 := NB390_386.out; have hnc125 := NB386_390.out; have hcz126_0 := cq_ BK390.out 0 (.int .i64 0); have hcz126_1 := cq_ BK390.out 1 (.int .i64 0); have hfz126_0 := blk_frozen BK390.out 0; have hfz126_1 := blk_frozen BK390.out 1; have hcz127_0 := cq_ BK386.out 0 (.int .i64 t382); have hcz127_1 := cq_ BK386.out 1 (.int .i64 0); have hfz127_0 := blk_frozen BK386.out 0; have hfz127_1 := blk_frozen BK386.out 1; have hcz128_0 := cq_ BK377.out 0 (.int .i64 x378000_5); have hcz128_1 := cq_ BK377.out 1 (.int .i64 x378001_5); have hfz128_0 := blk_frozen BK377.out 0; have hfz128_1 := blk_frozen BK377.out 1))
                                                    go_roundg kj69
                                                    case measure => have := HJ6.out; have := HJ39.out; have := HK3.out; have := HJ59.out; have := HK5.out; have := HJ62.out; have := HJ69.out; omega
                                                    case rel => exact ⟨(false), (wrap64 (x20_5 + 1)), (t387), (t388), (by first | rfl | (simp; done) | (simp [*]; done)), (by first | rfl | (simp; done) | (simp [*]; done)), H', ⟨by have := HJ6.out; have := HJ39.out; have := HK3.out; have := HJ59.out; have := HK5.out; have := HJ62.out; have := HJ69.out; omega⟩, ⟨by (with_reducible repeat (first | refine blk_drewN ?_ _ | refine blk_drew ?_ | refine blk_alloc ?_ _)); refine blk_far ?_ NB360_377.out _; (with_reducible repeat (first | refine blk_drewN ?_ _ | refine blk_drew ?_ | refine blk_alloc ?_ _)); refine blk_far ?_ NB360_377.out _; (with_reducible repeat (first | refine blk_drewN ?_ _ | refine blk_drew ?_ | refine blk_alloc ?_ _)); refine blk_far ?_ NB360_386.out _; (with_reducible repeat (first | refine blk_drewN ?_ _ | refine blk_drew ?_ | refine blk_alloc ?_ _)); refine blk_far ?_ NB360_386.out _; (with_reducible repeat (first | refine blk_drewN ?_ _ | refine blk_drew ?_ | refine blk_alloc ?_ _)); refine blk_far ?_ NB360_390.out _; (with_reducible repeat (first | refine blk_drewN ?_ _ | refine blk_drew ?_ | refine blk_alloc ?_ _)); refine blk_far ?_ NB360_390.out _; (with_reducible repeat (first | refine blk_drewN ?_ _ | refine blk_drew ?_ | refine blk_alloc ?_ _)); exact BK360.out⟩, ⟨by (with_reducible repeat (first | refine blk_drewN ?_ _ | refine blk_drew ?_ | refine blk_alloc ?_ _)); refine blk_far ?_ NB361_377.out _; (with_reducible repeat (first | refine blk_drewN ?_ _ | refine blk_drew ?_ | refine blk_alloc ?_ _)); refine blk_far ?_ NB361_377.out _; (with_reducible repeat (first | refine blk_drewN ?_ _ | refine blk_drew ?_ | refine blk_alloc ?_ _)); refine blk_far ?_ NB361_386.out _; (with_reducible repeat (first | refine blk_drewN ?_ _ | refine blk_drew ?_ | refine blk_alloc ?_ _)); refine blk_far ?_ NB361_386.out _; (with_reducible repeat (first | refine blk_drewN ?_ _ | refine blk_drew ?_ | refine blk_alloc ?_ _)); refine blk_far ?_ NB361_390.out _; (with_reducible repeat (first | refine blk_drewN ?_ _ | refine blk_drew ?_ | refine blk_alloc ?_ _)); refine blk_far ?_ NB361_390.out _; (with_reducible repeat (first | refine blk_drewN ?_ _ | refine blk_drew ?_ | refine blk_alloc ?_ _)); exact BK361.out⟩, ⟨by (with_reducible repeat (first | refine blk_drewN ?_ _ | refine blk_drew ?_ | refine blk_alloc ?_ _)); refine blk_far ?_ NB365_377.out _; (with_reducible repeat (first | refine blk_drewN ?_ _ | refine blk_drew ?_ | refine blk_alloc ?_ _)); refine blk_far ?_ NB365_377.out _; (with_reducible repeat (first | refine blk_drewN ?_ _ | refine blk_drew ?_ | refine blk_alloc ?_ _)); refine blk_far ?_ NB365_386.out _; (with_reducible repeat (first | refine blk_drewN ?_ _ | refine blk_drew ?_ | refine blk_alloc ?_ _)); refine blk_far ?_ NB365_386.out _; (with_reducible repeat (first | refine blk_drewN ?_ _ | refine blk_drew ?_ | refine blk_alloc ?_ _)); refine blk_far ?_ NB365_390.out _; (with_reducible repeat (first | refine blk_drewN ?_ _ | refine blk_drew ?_ | refine blk_alloc ?_ _)); refine blk_far ?_ NB365_390.out _; (with_reducible repeat (first | refine blk_drewN ?_ _ | refine blk_drew ?_ | refine blk_alloc ?_ _)); exact BK365.out⟩, ⟨by (with_reducible repeat (first | refine blk_drewN ?_ _ | refine blk_drew ?_ | refine blk_alloc ?_ _)); refine blk_far ?_ NB369_377.out _; (with_reducible repeat (first | refine blk_drewN ?_ _ | refine blk_drew ?_ | refine blk_alloc ?_ _)); refine blk_far ?_ NB369_377.out _; (with_reducible repeat (first | refine blk_drewN ?_ _ | refine blk_drew ?_ | refine blk_alloc ?_ _)); refine blk_far ?_ NB369_386.out _; (with_reducible repeat (first | refine blk_drewN ?_ _ | refine blk_drew ?_ | refine blk_alloc ?_ _)); refine blk_far ?_ NB369_386.out _; (with_reducible repeat (first | refine blk_drewN ?_ _ | refine blk_drew ?_ | refine blk_alloc ?_ _)); refine blk_far ?_ NB369_390.out _; (with_reducible repeat (first | refine blk_drewN ?_ _ | refine blk_drew ?_ | refine blk_alloc ?_ _)); refine blk_far ?_ NB369_390.out _; (with_reducible repeat (first | refine blk_drewN ?_ _ | refine blk_drew ?_ | refine blk_alloc ?_ _)); exact BK369.out⟩, ⟨by (with_reducible repeat (first | refine blk_drewN ?_ _ | refine blk_drew ?_ | refine blk_alloc ?_ _)); refine blk_put (cs := #[.int .i64 t387, .int .i64 x378001_5]) ?_ 1 _ rfl; (with_reducible repeat (first | refine blk_drewN ?_ _ | refine blk_drew ?_ | refine blk_alloc ?_ _)); refine blk_put (cs := #[.int .i64 x378000_5, .int .i64 x378001_5]) ?_ 0 _ rfl; (with_reducible repeat (first | refine blk_drewN ?_ _ | refine blk_drew ?_ | refine blk_alloc ?_ _)); refine blk_far ?_ NB377_386.out _; (with_reducible repeat (first | refine blk_drewN ?_ _ | refine blk_drew ?_ | refine blk_alloc ?_ _)); refine blk_far ?_ NB377_386.out _; (with_reducible repeat (first | refine blk_drewN ?_ _ | refine blk_drew ?_ | refine blk_alloc ?_ _)); refine blk_far ?_ NB377_390.out _; (with_reducible repeat (first | refine blk_drewN ?_ _ | refine blk_drew ?_ | refine blk_alloc ?_ _)); refine blk_far ?_ NB377_390.out _; (with_reducible repeat (first | refine blk_drewN ?_ _ | refine blk_drew ?_ | refine blk_alloc ?_ _)); exact BK377.out⟩, ⟨bq_⟩⟩
                                                · replace c105 := Bool.eq_false_iff.mpr c105
                                                  subst c105
                                                  have H1 : (some false) = some r := by rw [if_neg (show ¬ (false = true) by decide)] at H; exact H
                                                  clear H
                                                  have H := H1
                                                  clear H1
                                                  exact absurd (Option.some.inj H).symm (by rw [hr_.out]; simp)
                                      · replace c65 := Bool.eq_false_iff.mpr c65
                                        subst c65
                                        have H1 : (laws_FnKnown.l0 kj62 l1 t355 t372 t374 (decide ((wrap64 (t372 * t374)) ≤ 1024)) x17_5 (wrap64 (x19_3 + 1)) t356 t357 t358 t359 t362 t363 x378000_5 x378001_5) = some r := by rw [if_neg (show ¬ (false = true) by decide)] at H; exact H
                                        clear H
                                        have H := H1
                                        clear H1
                                        as_aux_lemma =>
                                          have H' := Aside0.mk H
                                          clear H
                                          go_wp2
                                          go_roundg kj62
                                          case measure => have := HJ6.out; have := HJ39.out; have := HK3.out; have := HJ59.out; have := HK5.out; have := HJ62.out; omega
                                          case rel => exact ⟨(x17_5), (wrap64 (x19_3 + 1)), (x378000_5), (x378001_5), (by first | rfl | (simp; done) | (simp [*]; done)), (by first | rfl | (simp; done) | (simp [*]; done)), H', ⟨by have := HJ6.out; have := HJ39.out; have := HK3.out; have := HJ59.out; have := HK5.out; have := HJ62.out; omega⟩, ⟨bk_ BK360.out⟩, ⟨bk_ BK361.out⟩, ⟨bk_ BK365.out⟩, ⟨bk_ BK369.out⟩, ⟨bk_ BK377.out⟩, ⟨bq_⟩⟩
                            · replace c62 := Bool.eq_false_iff.mpr c62
                              subst c62
                              have H1 : (if (decide ((wrap64 (t372 * t374)) ≤ 1024)) = true then (if t372 ≤ 64 then (if t374 ≤ 64 then (if t355 ≤ 2 then (if (!(x378000_3 == t362) || (!(x378001_3 == t363))) = true then (some false) else (laws_FnKnown.j7 kj59 l1)) else (laws_FnKnown.j7 kj59 l1)) else (laws_FnKnown.j7 kj59 l1)) else (laws_FnKnown.j7 kj59 l1)) else (laws_FnKnown.j7 kj59 l1)) = some r := by rw [if_neg (show ¬ (false = true) by decide)] at H; exact H
                              clear H
                              have H := H1
                              clear H1
                              by_cases c129 : (decide ((wrap64 (t372 * t374)) ≤ 1024)) = true
                              · rw [if_pos c129] at H
                                have c129b0 : (decide ((wrap64 (t372 * t374)) ≤ 1024)) = true := c129
                                clear c129
                                by_cases c130 : t372 ≤ 64
                                · rw [if_pos c130] at H
                                  have c130b0 : decide (t372 ≤ 64) = true := decide_eq_true c130
                                  clear c130
                                  by_cases c131 : t374 ≤ 64
                                  · rw [if_pos c131] at H
                                    have c131b0 : decide (t374 ≤ 64) = true := decide_eq_true c131
                                    clear c131
                                    by_cases c132 : t355 ≤ 2
                                    · rw [if_pos c132] at H
                                      have c132b0 : decide (t355 ≤ 2) = true := decide_eq_true c132
                                      clear c132
                                      by_cases c133 : (!(x378000_3 == t362) || (!(x378001_3 == t363))) = true
                                      · rw [if_pos c133] at H
                                        have c133b0 : (!(x378000_3 == t362) || (!(x378001_3 == t363))) = true := c133
                                        clear c133
                                        exact absurd (Option.some.inj H).symm (by rw [hr_.out]; simp)
                                      · rw [if_neg c133] at H
                                        have c133b0 : (!(x378000_3 == t362) || (!(x378001_3 == t363))) = false := by simpa using c133
                                        clear c133
                                        as_aux_lemma =>
                                          have H' := Aside0.mk H
                                          clear H
                                          have hnb134 := NB377_360.out
                                          have hnc134 := NB360_377.out
                                          have hnb135 := NB377_361.out
                                          have hnc135 := NB361_377.out
                                          have hnb136 := NB377_365.out
                                          have hnc136 := NB365_377.out
                                          have hnb137 := NB377_369.out
                                          have hnc137 := NB369_377.out
                                          have hcz138_0 := cq_ BK377.out 0 (.int .i64 x378000_3)
                                          have hcz138_1 := cq_ BK377.out 1 (.int .i64 x378001_3)
                                          have hfz138_0 := blk_frozen BK377.out 0
                                          have hfz138_1 := blk_frozen BK377.out 1
                                          have hnb139 := NB365_360.out
                                          have hnc139 := NB360_365.out
                                          have hnb140 := NB365_361.out
                                          have hnc140 := NB361_365.out
                                          have hnb141 := NB365_369.out
                                          have hnc141 := NB369_365.out
                                          have hcz142_0 := cq_ BK365.out 0 (.int .i64 t362)
                                          have hcz142_1 := cq_ BK365.out 1 (.int .i64 t363)
                                          have hfz142_0 := blk_frozen BK365.out 0
                                          have hfz142_1 := blk_frozen BK365.out 1
                                          go_wp2
                                          go_meet
                                          case rel => exact ⟨_, H', ⟨by have := HJ6.out; have := HJ39.out; have := HK3.out; have := HJ59.out; first | omega | exact Nat.le_refl _⟩, ⟨bk_ BK360.out⟩, ⟨bk_ BK361.out⟩, ⟨bk_ BK365.out⟩, ⟨bk_ BK369.out⟩, ⟨bq_⟩⟩
                                    · rw [if_neg c132] at H
                                      have c132b0 : decide (t355 ≤ 2) = false := decide_eq_false c132
                                      clear c132
                                      as_aux_lemma =>
                                        have H' := Aside0.mk H
                                        clear H
                                        go_wp2
                                        go_meet
                                        case rel => exact ⟨_, H', ⟨by have := HJ6.out; have := HJ39.out; have := HK3.out; have := HJ59.out; first | omega | exact Nat.le_refl _⟩, ⟨bk_ BK360.out⟩, ⟨bk_ BK361.out⟩, ⟨bk_ BK365.out⟩, ⟨bk_ BK369.out⟩, ⟨bq_⟩⟩
                                  · rw [if_neg c131] at H
                                    have c131b0 : decide (t374 ≤ 64) = false := decide_eq_false c131
                                    clear c131
                                    as_aux_lemma =>
                                      have H' := Aside0.mk H
                                      clear H
                                      go_wp2
                                      go_meet
                                      case rel => exact ⟨_, H', ⟨by have := HJ6.out; have := HJ39.out; have := HK3.out; have := HJ59.out; first | omega | exact Nat.le_refl _⟩, ⟨bk_ BK360.out⟩, ⟨bk_ BK361.out⟩, ⟨bk_ BK365.out⟩, ⟨bk_ BK369.out⟩, ⟨bq_⟩⟩
                                · rw [if_neg c130] at H
                                  have c130b0 : decide (t372 ≤ 64) = false := decide_eq_false c130
                                  clear c130
                                  as_aux_lemma =>
                                    have H' := Aside0.mk H
                                    clear H
                                    go_wp2
                                    go_meet
                                    case rel => exact ⟨_, H', ⟨by have := HJ6.out; have := HJ39.out; have := HK3.out; have := HJ59.out; first | omega | exact Nat.le_refl _⟩, ⟨bk_ BK360.out⟩, ⟨bk_ BK361.out⟩, ⟨bk_ BK365.out⟩, ⟨bk_ BK369.out⟩, ⟨bq_⟩⟩
                              · rw [if_neg c129] at H
                                have c129b0 : (decide ((wrap64 (t372 * t374)) ≤ 1024)) = false := by simpa using c129
                                clear c129
                                as_aux_lemma =>
                                  have H' := Aside0.mk H
                                  clear H
                                  go_wp2
                                  go_meet
                                  case rel => exact ⟨_, H', ⟨by have := HJ6.out; have := HJ39.out; have := HK3.out; have := HJ59.out; first | omega | exact Nat.le_refl _⟩, ⟨bk_ BK360.out⟩, ⟨bk_ BK361.out⟩, ⟨bk_ BK365.out⟩, ⟨bk_ BK369.out⟩, ⟨bq_⟩⟩
            · replace c37 := Bool.eq_false_iff.mpr c37
              subst c37
              have H1 : (laws_FnKnown.j7 kj6 l1) = some r := by rw [if_neg (show ¬ (false = true) by decide)] at H; exact H
              clear H
              have H := H1
              clear H1
              as_aux_lemma =>
                have H' := Aside0.mk H
                clear H
                go_wp2
                go_meet
                case rel => exact ⟨_, H', ⟨by have := HJ6.out; first | omega | exact Nat.le_refl _⟩, ⟨bk_ BK360.out⟩, ⟨bk_ BK361.out⟩, ⟨bk_ BK365.out⟩, ⟨bk_ BK369.out⟩, ⟨bq_⟩⟩
          case rest =>
            clear HC36
            try clear c1
            try clear c2
            try clear p2
            try clear c3
            try clear c3b0
            try clear c4
            try clear c5
            try clear c6
            try clear p6
            try clear c7
            try clear c8
            try clear c9
            try clear c10
            try clear c11
            try clear c12
            try clear c13
            try clear c14
            try clear c16
            try clear c17
            try clear c20
            try clear c23
            try clear c24
            try clear c25
            try clear c26
            try clear c27
            try clear c27b0
            try clear c27b1
            try clear c27b2
            try clear c28
            try clear c28b0
            try clear c30
            try clear c32
            try clear c34
            try clear c35
            try clear c37
            try clear c41
            try clear c42
            try clear c43
            try clear c46
            try clear c47
            try clear c51
            try clear c52
            try clear c53
            try clear c54
            try clear c55
            try clear c58
            try clear c61
            try clear c61b0
            try clear c62
            try clear c64
            try clear c64b0
            try clear p64
            try clear c65
            try clear c71
            try clear c72
            try clear c73
            try clear c74
            try clear c77
            try clear c78
            try clear c79
            try clear c82
            try clear c83
            try clear c86
            try clear c87
            try clear c88
            try clear c89
            try clear c90
            try clear c91
            try clear c93
            try clear c94
            try clear c95
            try clear c96
            try clear c97
            try clear c99
            try clear c100
            try clear c101
            try clear c102
            try clear c105
            try clear c107
            try clear c108
            try clear c109
            try clear c110
            try clear c111
            try clear c113
            try clear c114
            try clear c115
            try clear c116
            try clear c120
            try clear c121
            try clear c122
            try clear c123
            try clear c124
            try clear c125
            try clear c129
            try clear c129b0
            try clear c130
            try clear c130b0
            try clear c131
            try clear c131b0
            try clear c132
            try clear c132b0
            try clear c133
            try clear c133b0
            try clear c134
            try clear c135
            try clear c136
            try clear c137
            try clear c139
            try clear c140
            try clear c141
            try clear hcz103_0
            try clear hcz103_1
            try clear hcz112_0
            try clear hcz112_1
            try clear hcz117_0
            try clear hcz117_1
            try clear hcz126_0
            try clear hcz126_1
            try clear hcz127_0
            try clear hcz127_1
            try clear hcz128_0
            try clear hcz128_1
            try clear hcz12_0
            try clear hcz12_1
            try clear hcz138_0
            try clear hcz138_1
            try clear hcz13_0
            try clear hcz13_1
            try clear hcz142_0
            try clear hcz142_1
            try clear hcz18_0
            try clear hcz18_1
            try clear hcz19_0
            try clear hcz19_1
            try clear hcz20_0
            try clear hcz20_1
            try clear hcz26_0
            try clear hcz26_1
            try clear hcz44_0
            try clear hcz44_1
            try clear hcz48_0
            try clear hcz48_1
            try clear hcz56_0
            try clear hcz56_1
            try clear hcz75_0
            try clear hcz75_1
            try clear hcz80_0
            try clear hcz80_1
            try clear hcz84_0
            try clear hcz84_1
            try clear hcz98_0
            try clear hcz98_1
            try clear hfz103_0
            try clear hfz103_1
            try clear hfz112_0
            try clear hfz112_1
            try clear hfz117_0
            try clear hfz117_1
            try clear hfz126_0
            try clear hfz126_1
            try clear hfz127_0
            try clear hfz127_1
            try clear hfz128_0
            try clear hfz128_1
            try clear hfz12_0
            try clear hfz12_1
            try clear hfz138_0
            try clear hfz138_1
            try clear hfz13_0
            try clear hfz13_1
            try clear hfz142_0
            try clear hfz142_1
            try clear hfz18_0
            try clear hfz18_1
            try clear hfz19_0
            try clear hfz19_1
            try clear hfz20_0
            try clear hfz20_1
            try clear hfz26_0
            try clear hfz26_1
            try clear hfz44_0
            try clear hfz44_1
            try clear hfz48_0
            try clear hfz48_1
            try clear hfz56_0
            try clear hfz56_1
            try clear hfz75_0
            try clear hfz75_1
            try clear hfz80_0
            try clear hfz80_1
            try clear hfz84_0
            try clear hfz84_1
            try clear hfz98_0
            try clear hfz98_1
            try clear p2
            try clear p6
            try clear p64
            obtain ⟨kq, HA, HJ35, BK360, BK361, BK365, BK369, HB⟩ := hcut
            cases kq with
            | zero => exact absurd HA.out (by simp [laws_FnKnown.j7])
            | succ kj35 =>
              have H := HA.out
              clear HA
              simp only [laws_FnKnown.j7] at H
              replace H := Option.bind_eq_some_iff.mp H
              obtain ⟨⟨t391, t392, t393⟩, A1430, H⟩ := H
              replace H : ((impl_NumberAt.f kj35 t391 t392 t393).bind fun bt395 => ((spec_NumberAt.f kj35 t391 t392 t393).bind fun bt397 => ((spec_DrawMayBe.f kj35 l1).bind fun bt399 => ((impl_MayBe.f bt399.1 bt399.2.1 bt399.2.2).bind fun bt403 => ((spec_MayBe.f bt399.1 bt399.2.1 bt399.2.2).bind fun bt405 => ((impl_WaysOf.f bt399.1 bt399.2.1).bind fun bt407 => ((spec_WaysOf.f kj35 bt399.1 bt399.2.1).bind fun bt409 => (if (bt395.2 == bt397.2) = true then (if bt395.1 = bt397.1 then (if (bt403.2 == bt405.2) = true then (if (bt403.1 == bt405.1) = true then (if (bt407.2 == bt409.2) = true then (some (bt407.1 == bt409.1)) else (some false)) else (some false)) else (some false)) else (some false)) else (some false))))))))) = some r := H
              have A143 := Aside0.mk A1430
              clear A1430
              replace H := Option.bind_eq_some_iff.mp H
              obtain ⟨⟨t395, t396⟩, A1440, H⟩ := H
              replace H : ((spec_NumberAt.f kj35 t391 t392 t393).bind fun bt397 => ((spec_DrawMayBe.f kj35 l1).bind fun bt399 => ((impl_MayBe.f bt399.1 bt399.2.1 bt399.2.2).bind fun bt403 => ((spec_MayBe.f bt399.1 bt399.2.1 bt399.2.2).bind fun bt405 => ((impl_WaysOf.f bt399.1 bt399.2.1).bind fun bt407 => ((spec_WaysOf.f kj35 bt399.1 bt399.2.1).bind fun bt409 => (if (t396 == bt397.2) = true then (if t395 = bt397.1 then (if (bt403.2 == bt405.2) = true then (if (bt403.1 == bt405.1) = true then (if (bt407.2 == bt409.2) = true then (some (bt407.1 == bt409.1)) else (some false)) else (some false)) else (some false)) else (some false)) else (some false)))))))) = some r := H
              have A144 := Aside0.mk A1440
              clear A1440
              replace H := Option.bind_eq_some_iff.mp H
              obtain ⟨⟨t397, t398⟩, A1450, H⟩ := H
              replace H : ((spec_DrawMayBe.f kj35 l1).bind fun bt399 => ((impl_MayBe.f bt399.1 bt399.2.1 bt399.2.2).bind fun bt403 => ((spec_MayBe.f bt399.1 bt399.2.1 bt399.2.2).bind fun bt405 => ((impl_WaysOf.f bt399.1 bt399.2.1).bind fun bt407 => ((spec_WaysOf.f kj35 bt399.1 bt399.2.1).bind fun bt409 => (if (t396 == t398) = true then (if t395 = t397 then (if (bt403.2 == bt405.2) = true then (if (bt403.1 == bt405.1) = true then (if (bt407.2 == bt409.2) = true then (some (bt407.1 == bt409.1)) else (some false)) else (some false)) else (some false)) else (some false)) else (some false))))))) = some r := H
              have A145 := Aside0.mk A1450
              clear A1450
              replace H := Option.bind_eq_some_iff.mp H
              obtain ⟨⟨t399, t400, t401⟩, A1460, H⟩ := H
              replace H : ((impl_MayBe.f t399 t400 t401).bind fun bt403 => ((spec_MayBe.f t399 t400 t401).bind fun bt405 => ((impl_WaysOf.f t399 t400).bind fun bt407 => ((spec_WaysOf.f kj35 t399 t400).bind fun bt409 => (if (t396 == t398) = true then (if t395 = t397 then (if (bt403.2 == bt405.2) = true then (if (bt403.1 == bt405.1) = true then (if (bt407.2 == bt409.2) = true then (some (bt407.1 == bt409.1)) else (some false)) else (some false)) else (some false)) else (some false)) else (some false)))))) = some r := H
              have A146 := Aside0.mk A1460
              clear A1460
              replace H := Option.bind_eq_some_iff.mp H
              obtain ⟨⟨t403, t404⟩, A1470, H⟩ := H
              replace H : ((spec_MayBe.f t399 t400 t401).bind fun bt405 => ((impl_WaysOf.f t399 t400).bind fun bt407 => ((spec_WaysOf.f kj35 t399 t400).bind fun bt409 => (if (t396 == t398) = true then (if t395 = t397 then (if (t404 == bt405.2) = true then (if (t403 == bt405.1) = true then (if (bt407.2 == bt409.2) = true then (some (bt407.1 == bt409.1)) else (some false)) else (some false)) else (some false)) else (some false)) else (some false))))) = some r := H
              have A147 := Aside0.mk A1470
              clear A1470
              replace H := Option.bind_eq_some_iff.mp H
              obtain ⟨⟨t405, t406⟩, A1480, H⟩ := H
              replace H : ((impl_WaysOf.f t399 t400).bind fun bt407 => ((spec_WaysOf.f kj35 t399 t400).bind fun bt409 => (if (t396 == t398) = true then (if t395 = t397 then (if (t404 == t406) = true then (if (t403 == t405) = true then (if (bt407.2 == bt409.2) = true then (some (bt407.1 == bt409.1)) else (some false)) else (some false)) else (some false)) else (some false)) else (some false)))) = some r := H
              have A148 := Aside0.mk A1480
              clear A1480
              replace H := Option.bind_eq_some_iff.mp H
              obtain ⟨⟨t407, t408⟩, A1490, H⟩ := H
              replace H : ((spec_WaysOf.f kj35 t399 t400).bind fun bt409 => (if (t396 == t398) = true then (if t395 = t397 then (if (t404 == t406) = true then (if (t403 == t405) = true then (if (t408 == bt409.2) = true then (some (t407 == bt409.1)) else (some false)) else (some false)) else (some false)) else (some false)) else (some false))) = some r := H
              have A149 := Aside0.mk A1490
              clear A1490
              replace H := Option.bind_eq_some_iff.mp H
              obtain ⟨⟨t409, t410⟩, A1500, H⟩ := H
              replace H : (if (t396 == t398) = true then (if t395 = t397 then (if (t404 == t406) = true then (if (t403 == t405) = true then (if (t408 == t410) = true then (some (t407 == t409)) else (some false)) else (some false)) else (some false)) else (some false)) else (some false)) = some r := H
              have A150 := Aside0.mk A1500
              clear A1500
              by_cases c151 : (t396 == t398) = true
              · rw [if_pos c151] at H
                have c151b0 : (t396 == t398) = true := c151
                (try (have c151b1 : decide (t396 = t398) = true := by simpa using c151))
                (try (have c151b2 : (t396 == t398) = true := by simpa using c151))
                clear c151
                by_cases c152 : t395 = t397
                · rw [if_pos c152] at H
                  have c152b0 : (t395 == t397) = true := beq_iff_eq.mpr c152
                  have c152b1 : (t395 != t397) = false := bne_eq_false_iff_eq.mpr c152
                  clear c152
                  by_cases c153 : (t404 == t406) = true
                  · rw [if_pos c153] at H
                    have c153b0 : (t404 == t406) = true := c153
                    (try (have c153b1 : decide (t404 = t406) = true := by simpa using c153))
                    (try (have c153b2 : (t404 == t406) = true := by simpa using c153))
                    clear c153
                    by_cases c154 : (t403 == t405) = true
                    · rw [if_pos c154] at H
                      have c154b0 : (t403 == t405) = true := c154
                      (try (have c154b1 : decide (t403 = t405) = true := by simpa using c154))
                      (try (have c154b2 : (t403 == t405) = true := by simpa using c154))
                      clear c154
                      by_cases c155 : (t408 == t410) = true
                      · rw [if_pos c155] at H
                        have c155b0 : (t408 == t410) = true := c155
                        (try (have c155b1 : decide (t408 = t410) = true := by simpa using c155))
                        (try (have c155b2 : (t408 == t410) = true := by simpa using c155))
                        clear c155
                        as_aux_lemma =>
                          obtain rfl := Option.some.inj H
                          go_wp2_with (first | ((with_reducible refine gate_callee (f := 48) rfl ?_); refine goesL_ (some 210) rfl rfl Try.func48 (by kernel_rfl) rfl #[.slice A1 l1.length c1] rfl (by (try simp only [List.map_toArray, List.map_cons, List.map_nil]); first | done | rfl | (simp only [List.length_drop, List.length_take]; rfl)) ?_; (with_reducible refine (spec_DrawNumberAt.calls kj35 _ _ l1 t391 t392 t393 _ ?side1 ?side2 A143.out).mono ?_); (case side1 => repeat (first | exact (Kd.C_below HR1.out HB.out) | (with_reducible refine Kd.C_alloc ?_ _) | (with_reducible refine Kd.C_drewN ?_ _) | (with_reducible refine Kd.C_drew ?_))); (case side2 => exact HC1.out); rintro e w156 ⟨rfl, hb⟩; refine ⟨_, rfl, ?_⟩; have n0_ := Aside0.mk (blk_below (bk_ BK360.out) hb); have n1_ := Aside0.mk (blk_below (bk_ BK361.out) hb); have n2_ := Aside0.mk (blk_below (bk_ BK365.out) hb); have n3_ := Aside0.mk (blk_below (bk_ BK369.out) hb); have n4_ := Aside0.mk (below_step (bq_) hb); clear BK360; clear BK361; clear BK365; clear BK369; clear HB; have BK360 := n0_; have BK361 := n1_; have BK365 := n2_; have BK369 := n3_; have HB := n4_; clear n0_ n1_ n2_ n3_ n4_; (try clear hb); (try clear hb2); (try clear hk); (try clear hi)) | ((with_reducible refine gate_dst (N := 32) rfl ?_); refine boxq_ (N := 32) (cs := #[.int .i64 0, .int .i64 0]) (t := 26) ?_; intro gb394 hg w157 hbox hb; have n0_ := Aside0.mk (blk_below (bk_ BK360.out) hb); have n1_ := Aside0.mk (blk_below (bk_ BK361.out) hb); have n2_ := Aside0.mk (blk_below (bk_ BK365.out) hb); have n3_ := Aside0.mk (blk_below (bk_ BK369.out) hb); have n4_ := Aside0.mk (below_step (bq_) hb); have n5_ := Aside0.mk (hbox); have n6_ := Aside0.mk ((by rw [hg]; exact (below_size (bq_)) : w.heap.size ≤ gb394)); have n7_ := Aside0.mk ((by rw [hg]; exact (below_size (bq_)) : w.heap.size ≤ gb394)); have n8_ := Aside0.mk ((by rw [hg]; exact Nat.ne_of_lt (blk_lt (bk_ BK360.out)) : gb360 ≠ gb394)); have n9_ := Aside0.mk ((by rw [hg]; exact Nat.ne_of_gt (blk_lt (bk_ BK360.out)) : gb394 ≠ gb360)); have n10_ := Aside0.mk ((by rw [hg]; exact Nat.ne_of_lt (blk_lt (bk_ BK361.out)) : gb361 ≠ gb394)); have n11_ := Aside0.mk ((by rw [hg]; exact Nat.ne_of_gt (blk_lt (bk_ BK361.out)) : gb394 ≠ gb361)); have n12_ := Aside0.mk ((by rw [hg]; exact Nat.ne_of_lt (blk_lt (bk_ BK365.out)) : gb365 ≠ gb394)); have n13_ := Aside0.mk ((by rw [hg]; exact Nat.ne_of_gt (blk_lt (bk_ BK365.out)) : gb394 ≠ gb365)); have n14_ := Aside0.mk ((by rw [hg]; exact Nat.ne_of_lt (blk_lt (bk_ BK369.out)) : gb369 ≠ gb394)); have n15_ := Aside0.mk ((by rw [hg]; exact Nat.ne_of_gt (blk_lt (bk_ BK369.out)) : gb394 ≠ gb369)); clear BK360; clear BK361; clear BK365; clear BK369; clear HB; have BK360 := n0_; have BK361 := n1_; have BK365 := n2_; have BK369 := n3_; have HB := n4_; have BK394 := n5_; have GW394 := n6_; have GE394 := n7_; have NB360_394 := n8_; have NB394_360 := n9_; have NB361_394 := n10_; have NB394_361 := n11_; have NB365_394 := n12_; have NB394_365 := n13_; have NB369_394 := n14_; have NB394_369 := n15_; clear n0_ n1_ n2_ n3_ n4_ n5_ n6_ n7_ n8_ n9_ n10_ n11_ n12_ n13_ n14_ n15_; clear hb hbox hg; have hnb158 := NB394_360.out; have hnc158 := NB360_394.out; have hnb159 := NB394_361.out; have hnc159 := NB361_394.out; have hnb160 := NB394_365.out; have hnc160 := NB365_394.out; have hnb161 := NB394_369.out; have hnc161 := NB369_394.out; have hcz162_0 := cq_ BK394.out 0 (.int .i64 0); have hcz162_1 := cq_ BK394.out 1 (.int .i64 0); have hfz162_0 := blk_frozen BK394.out 0; have hfz162_1 := blk_frozen BK394.out 1) | ((with_reducible refine gate_callee (f := 20) rfl ?_); refine goesL_ (some 216) rfl rfl Try.func20 (by kernel_rfl) rfl #[.agg #[.int .i64 t391, .int .i64 t392], .int .i64 t393] rfl (by (try simp only [List.map_toArray, List.map_cons, List.map_nil]); first | done | rfl | (simp only [List.length_drop, List.length_take]; rfl)) ?_; (with_reducible refine (impl_NumberAt.calls kj35 t391 t392 t393 t395 t396 _ A144.out).mono ?_); rintro e w163 ⟨rfl, hb⟩; refine ⟨_, rfl, ?_⟩; have n0_ := Aside0.mk (blk_below (g := gb360) (o := .cells #[.int .i64 t356, .int .i64 t357] 26 (0, 0)) (by (with_reducible repeat (first | refine blk_drewN ?_ _ | refine blk_drew ?_ | refine blk_alloc ?_ _)); refine blk_far ?_ NB360_394.out _; (with_reducible repeat (first | refine blk_drewN ?_ _ | refine blk_drew ?_ | refine blk_alloc ?_ _)); refine blk_far ?_ NB360_394.out _; (with_reducible repeat (first | refine blk_drewN ?_ _ | refine blk_drew ?_ | refine blk_alloc ?_ _)); exact BK360.out) hb); have n1_ := Aside0.mk (blk_below (g := gb361) (o := .cells #[.int .i64 t358, .int .i64 t359] 26 (0, 0)) (by (with_reducible repeat (first | refine blk_drewN ?_ _ | refine blk_drew ?_ | refine blk_alloc ?_ _)); refine blk_far ?_ NB361_394.out _; (with_reducible repeat (first | refine blk_drewN ?_ _ | refine blk_drew ?_ | refine blk_alloc ?_ _)); refine blk_far ?_ NB361_394.out _; (with_reducible repeat (first | refine blk_drewN ?_ _ | refine blk_drew ?_ | refine blk_alloc ?_ _)); exact BK361.out) hb); have n2_ := Aside0.mk (blk_below (g := gb365) (o := .cells #[.int .i64 t362, .int .i64 t363] 26 (0, 0)) (by (with_reducible repeat (first | refine blk_drewN ?_ _ | refine blk_drew ?_ | refine blk_alloc ?_ _)); refine blk_far ?_ NB365_394.out _; (with_reducible repeat (first | refine blk_drewN ?_ _ | refine blk_drew ?_ | refine blk_alloc ?_ _)); refine blk_far ?_ NB365_394.out _; (with_reducible repeat (first | refine blk_drewN ?_ _ | refine blk_drew ?_ | refine blk_alloc ?_ _)); exact BK365.out) hb); have n3_ := Aside0.mk (blk_below (g := gb369) (o := .cells #[.int .i64 t366, .int .i64 t367] 26 (0, 0)) (by (with_reducible repeat (first | refine blk_drewN ?_ _ | refine blk_drew ?_ | refine blk_alloc ?_ _)); refine blk_far ?_ NB369_394.out _; (with_reducible repeat (first | refine blk_drewN ?_ _ | refine blk_drew ?_ | refine blk_alloc ?_ _)); refine blk_far ?_ NB369_394.out _; (with_reducible repeat (first | refine blk_drewN ?_ _ | refine blk_drew ?_ | refine blk_alloc ?_ _)); exact BK369.out) hb); have n4_ := Aside0.mk (blk_below (g := gb394) (o := .cells #[.int .i64 t391, .int .i64 t392] 26 (0, 0)) (by (with_reducible repeat (first | refine blk_drewN ?_ _ | refine blk_drew ?_ | refine blk_alloc ?_ _)); refine blk_put (cs := #[.int .i64 t391, .int .i64 0]) ?_ 1 _ rfl; (with_reducible repeat (first | refine blk_drewN ?_ _ | refine blk_drew ?_ | refine blk_alloc ?_ _)); refine blk_put (cs := #[.int .i64 0, .int .i64 0]) ?_ 0 _ rfl; (with_reducible repeat (first | refine blk_drewN ?_ _ | refine blk_drew ?_ | refine blk_alloc ?_ _)); exact BK394.out) hb); have n5_ := Aside0.mk (below_step (bq_) hb); clear BK360; clear BK361; clear BK365; clear BK369; clear BK394; clear HB; have BK360 := n0_; have BK361 := n1_; have BK365 := n2_; have BK369 := n3_; have BK394 := n4_; have HB := n5_; clear n0_ n1_ n2_ n3_ n4_ n5_; (try clear hb); (try clear hb2); (try clear hk); (try clear hi); have hcz164_0 := cq_ BK394.out 0 (.int .i64 t391); have hcz164_1 := cq_ BK394.out 1 (.int .i64 t392); have hfz164_0 := blk_frozen BK394.out 0; have hfz164_1 := blk_frozen BK394.out 1) | ((with_reducible refine gate_callee (f := 19) rfl ?_); refine goesL_ (some 222) rfl rfl Try.func19 (by kernel_rfl) rfl #[.agg #[.int .i64 t391, .int .i64 t392], .int .i64 t393] rfl (by (try simp only [List.map_toArray, List.map_cons, List.map_nil]); first | done | rfl | (simp only [List.length_drop, List.length_take]; rfl)) ?_; (with_reducible refine (spec_NumberAt.calls kj35 t391 t392 t393 t397 t398 _ A145.out).mono ?_); rintro e w165 ⟨rfl, hb⟩; refine ⟨_, rfl, ?_⟩; have n0_ := Aside0.mk (blk_below (bk_ BK360.out) hb); have n1_ := Aside0.mk (blk_below (bk_ BK361.out) hb); have n2_ := Aside0.mk (blk_below (bk_ BK365.out) hb); have n3_ := Aside0.mk (blk_below (bk_ BK369.out) hb); have n4_ := Aside0.mk (blk_below (bk_ BK394.out) hb); have n5_ := Aside0.mk (below_step (bq_) hb); clear BK360; clear BK361; clear BK365; clear BK369; clear BK394; clear HB; have BK360 := n0_; have BK361 := n1_; have BK365 := n2_; have BK369 := n3_; have BK394 := n4_; have HB := n5_; clear n0_ n1_ n2_ n3_ n4_ n5_; (try clear hb); (try clear hb2); (try clear hk); (try clear hi)) | ((with_reducible refine gate_callee (f := 49) rfl ?_); refine goesL_ (some 227) rfl rfl Try.func49 (by kernel_rfl) rfl #[.slice A1 l1.length c1] rfl (by (try simp only [List.map_toArray, List.map_cons, List.map_nil]); first | done | rfl | (simp only [List.length_drop, List.length_take]; rfl)) ?_; (with_reducible refine (spec_DrawMayBe.calls kj35 _ _ l1 t399 t400 t401 _ ?side1 ?side2 A146.out).mono ?_); (case side1 => repeat (first | exact (Kd.C_below HR1.out HB.out) | (with_reducible refine Kd.C_alloc ?_ _) | (with_reducible refine Kd.C_drewN ?_ _) | (with_reducible refine Kd.C_drew ?_))); (case side2 => exact HC1.out); rintro e w166 ⟨rfl, hb⟩; refine ⟨_, rfl, ?_⟩; have n0_ := Aside0.mk (blk_below (bk_ BK360.out) hb); have n1_ := Aside0.mk (blk_below (bk_ BK361.out) hb); have n2_ := Aside0.mk (blk_below (bk_ BK365.out) hb); have n3_ := Aside0.mk (blk_below (bk_ BK369.out) hb); have n4_ := Aside0.mk (blk_below (bk_ BK394.out) hb); have n5_ := Aside0.mk (below_step (bq_) hb); clear BK360; clear BK361; clear BK365; clear BK369; clear BK394; clear HB; have BK360 := n0_; have BK361 := n1_; have BK365 := n2_; have BK369 := n3_; have BK394 := n4_; have HB := n5_; clear n0_ n1_ n2_ n3_ n4_ n5_; (try clear hb); (try clear hb2); (try clear hk); (try clear hi)) | ((with_reducible refine gate_dst (N := 38) rfl ?_); refine boxq_ (N := 38) (cs := #[.int .i64 0, .int .i64 0]) (t := 26) ?_; intro gb402 hg w167 hbox hb; have n0_ := Aside0.mk (blk_below (bk_ BK360.out) hb); have n1_ := Aside0.mk (blk_below (bk_ BK361.out) hb); have n2_ := Aside0.mk (blk_below (bk_ BK365.out) hb); have n3_ := Aside0.mk (blk_below (bk_ BK369.out) hb); have n4_ := Aside0.mk (blk_below (bk_ BK394.out) hb); have n5_ := Aside0.mk (below_step (bq_) hb); have n6_ := Aside0.mk (hbox); have n7_ := Aside0.mk ((by rw [hg]; exact (below_size (bq_)) : w.heap.size ≤ gb402)); have n8_ := Aside0.mk ((by rw [hg]; exact (below_size (bq_)) : w.heap.size ≤ gb402)); have n9_ := Aside0.mk ((by rw [hg]; exact Nat.ne_of_lt (blk_lt (bk_ BK360.out)) : gb360 ≠ gb402)); have n10_ := Aside0.mk ((by rw [hg]; exact Nat.ne_of_gt (blk_lt (bk_ BK360.out)) : gb402 ≠ gb360)); have n11_ := Aside0.mk ((by rw [hg]; exact Nat.ne_of_lt (blk_lt (bk_ BK361.out)) : gb361 ≠ gb402)); have n12_ := Aside0.mk ((by rw [hg]; exact Nat.ne_of_gt (blk_lt (bk_ BK361.out)) : gb402 ≠ gb361)); have n13_ := Aside0.mk ((by rw [hg]; exact Nat.ne_of_lt (blk_lt (bk_ BK365.out)) : gb365 ≠ gb402)); have n14_ := Aside0.mk ((by rw [hg]; exact Nat.ne_of_gt (blk_lt (bk_ BK365.out)) : gb402 ≠ gb365)); have n15_ := Aside0.mk ((by rw [hg]; exact Nat.ne_of_lt (blk_lt (bk_ BK369.out)) : gb369 ≠ gb402)); have n16_ := Aside0.mk ((by rw [hg]; exact Nat.ne_of_gt (blk_lt (bk_ BK369.out)) : gb402 ≠ gb369)); have n17_ := Aside0.mk ((by rw [hg]; exact Nat.ne_of_lt (blk_lt (bk_ BK394.out)) : gb394 ≠ gb402)); have n18_ := Aside0.mk ((by rw [hg]; exact Nat.ne_of_gt (blk_lt (bk_ BK394.out)) : gb402 ≠ gb394)); clear BK360; clear BK361; clear BK365; clear BK369; clear BK394; clear HB; have BK360 := n0_; have BK361 := n1_; have BK365 := n2_; have BK369 := n3_; have BK394 := n4_; have HB := n5_; have BK402 := n6_; have GW402 := n7_; have GE402 := n8_; have NB360_402 := n9_; have NB402_360 := n10_; have NB361_402 := n11_; have NB402_361 := n12_; have NB365_402 := n13_; have NB402_365 := n14_; have NB369_402 := n15_; have NB402_369 := n16_; have NB394_402 := n17_; have NB402_394 := n18_; clear n0_ n1_ n2_ n3_ n4_ n5_ n6_ n7_ n8_ n9_ n10_ n11_ n12_ n13_ n14_ n15_ n16_ n17_ n18_; clear hb hbox hg; have hnb168 := NB402_360.out; have hnc168 := NB360_402.out; have hnb169 := NB402_361.out; have hnc169 := NB361_402.out; have hnb170 := NB402_365.out; have hnc170 := NB365_402.out; have hnb171 := NB402_369.out; have hnc171 := NB369_402.out; have hnb172 := NB402_394.out; have hnc172 := NB394_402.out; have hcz173_0 := cq_ BK402.out 0 (.int .i64 0); have hcz173_1 := cq_ BK402.out 1 (.int .i64 0); have hfz173_0 := blk_frozen BK402.out 0; have hfz173_1 := blk_frozen BK402.out 1) | ((with_reducible refine gate_callee (f := 34) rfl ?_); refine goesL_ (some 233) rfl rfl Try.func34 (by kernel_rfl) rfl #[.agg #[.int .i64 t399, .int .i64 t400], .int .i64 t401] rfl (by (try simp only [List.map_toArray, List.map_cons, List.map_nil]); first | done | rfl | (simp only [List.length_drop, List.length_take]; rfl)) ?_; (with_reducible refine (impl_MayBe.calls t399 t400 t401 t403 t404 _ A147.out).mono ?_); rintro e w174 ⟨rfl, hb⟩; refine ⟨_, rfl, ?_⟩; have n0_ := Aside0.mk (blk_below (g := gb360) (o := .cells #[.int .i64 t356, .int .i64 t357] 26 (0, 0)) (by (with_reducible repeat (first | refine blk_drewN ?_ _ | refine blk_drew ?_ | refine blk_alloc ?_ _)); refine blk_far ?_ NB360_402.out _; (with_reducible repeat (first | refine blk_drewN ?_ _ | refine blk_drew ?_ | refine blk_alloc ?_ _)); refine blk_far ?_ NB360_402.out _; (with_reducible repeat (first | refine blk_drewN ?_ _ | refine blk_drew ?_ | refine blk_alloc ?_ _)); exact BK360.out) hb); have n1_ := Aside0.mk (blk_below (g := gb361) (o := .cells #[.int .i64 t358, .int .i64 t359] 26 (0, 0)) (by (with_reducible repeat (first | refine blk_drewN ?_ _ | refine blk_drew ?_ | refine blk_alloc ?_ _)); refine blk_far ?_ NB361_402.out _; (with_reducible repeat (first | refine blk_drewN ?_ _ | refine blk_drew ?_ | refine blk_alloc ?_ _)); refine blk_far ?_ NB361_402.out _; (with_reducible repeat (first | refine blk_drewN ?_ _ | refine blk_drew ?_ | refine blk_alloc ?_ _)); exact BK361.out) hb); have n2_ := Aside0.mk (blk_below (g := gb365) (o := .cells #[.int .i64 t362, .int .i64 t363] 26 (0, 0)) (by (with_reducible repeat (first | refine blk_drewN ?_ _ | refine blk_drew ?_ | refine blk_alloc ?_ _)); refine blk_far ?_ NB365_402.out _; (with_reducible repeat (first | refine blk_drewN ?_ _ | refine blk_drew ?_ | refine blk_alloc ?_ _)); refine blk_far ?_ NB365_402.out _; (with_reducible repeat (first | refine blk_drewN ?_ _ | refine blk_drew ?_ | refine blk_alloc ?_ _)); exact BK365.out) hb); have n3_ := Aside0.mk (blk_below (g := gb369) (o := .cells #[.int .i64 t366, .int .i64 t367] 26 (0, 0)) (by (with_reducible repeat (first | refine blk_drewN ?_ _ | refine blk_drew ?_ | refine blk_alloc ?_ _)); refine blk_far ?_ NB369_402.out _; (with_reducible repeat (first | refine blk_drewN ?_ _ | refine blk_drew ?_ | refine blk_alloc ?_ _)); refine blk_far ?_ NB369_402.out _; (with_reducible repeat (first | refine blk_drewN ?_ _ | refine blk_drew ?_ | refine blk_alloc ?_ _)); exact BK369.out) hb); have n4_ := Aside0.mk (blk_below (g := gb394) (o := .cells #[.int .i64 t391, .int .i64 t392] 26 (0, 0)) (by (with_reducible repeat (first | refine blk_drewN ?_ _ | refine blk_drew ?_ | refine blk_alloc ?_ _)); refine blk_far ?_ NB394_402.out _; (with_reducible repeat (first | refine blk_drewN ?_ _ | refine blk_drew ?_ | refine blk_alloc ?_ _)); refine blk_far ?_ NB394_402.out _; (with_reducible repeat (first | refine blk_drewN ?_ _ | refine blk_drew ?_ | refine blk_alloc ?_ _)); exact BK394.out) hb); have n5_ := Aside0.mk (blk_below (g := gb402) (o := .cells #[.int .i64 t399, .int .i64 t400] 26 (0, 0)) (by (with_reducible repeat (first | refine blk_drewN ?_ _ | refine blk_drew ?_ | refine blk_alloc ?_ _)); refine blk_put (cs := #[.int .i64 t399, .int .i64 0]) ?_ 1 _ rfl; (with_reducible repeat (first | refine blk_drewN ?_ _ | refine blk_drew ?_ | refine blk_alloc ?_ _)); refine blk_put (cs := #[.int .i64 0, .int .i64 0]) ?_ 0 _ rfl; (with_reducible repeat (first | refine blk_drewN ?_ _ | refine blk_drew ?_ | refine blk_alloc ?_ _)); exact BK402.out) hb); have n6_ := Aside0.mk (below_step (bq_) hb); clear BK360; clear BK361; clear BK365; clear BK369; clear BK394; clear BK402; clear HB; have BK360 := n0_; have BK361 := n1_; have BK365 := n2_; have BK369 := n3_; have BK394 := n4_; have BK402 := n5_; have HB := n6_; clear n0_ n1_ n2_ n3_ n4_ n5_ n6_; (try clear hb); (try clear hb2); (try clear hk); (try clear hi); have hcz175_0 := cq_ BK402.out 0 (.int .i64 t399); have hcz175_1 := cq_ BK402.out 1 (.int .i64 t400); have hfz175_0 := blk_frozen BK402.out 0; have hfz175_1 := blk_frozen BK402.out 1) | ((with_reducible refine gate_callee (f := 50) rfl ?_); refine goesL_ (some 239) rfl rfl Try.func50 (by kernel_rfl) rfl #[.agg #[.int .i64 t399, .int .i64 t400], .int .i64 t401] rfl (by (try simp only [List.map_toArray, List.map_cons, List.map_nil]); first | done | rfl | (simp only [List.length_drop, List.length_take]; rfl)) ?_; (with_reducible refine (spec_MayBe.calls t399 t400 t401 t405 t406 _ A148.out).mono ?_); rintro e w176 ⟨rfl, hb⟩; refine ⟨_, rfl, ?_⟩; have n0_ := Aside0.mk (blk_below (bk_ BK360.out) hb); have n1_ := Aside0.mk (blk_below (bk_ BK361.out) hb); have n2_ := Aside0.mk (blk_below (bk_ BK365.out) hb); have n3_ := Aside0.mk (blk_below (bk_ BK369.out) hb); have n4_ := Aside0.mk (blk_below (bk_ BK394.out) hb); have n5_ := Aside0.mk (blk_below (bk_ BK402.out) hb); have n6_ := Aside0.mk (below_step (bq_) hb); clear BK360; clear BK361; clear BK365; clear BK369; clear BK394; clear BK402; clear HB; have BK360 := n0_; have BK361 := n1_; have BK365 := n2_; have BK369 := n3_; have BK394 := n4_; have BK402 := n5_; have HB := n6_; clear n0_ n1_ n2_ n3_ n4_ n5_ n6_; (try clear hb); (try clear hb2); (try clear hk); (try clear hi); have hcz177_0 := cq_ BK402.out 0 (.int .i64 t399); have hcz177_1 := cq_ BK402.out 1 (.int .i64 t400); have hfz177_0 := blk_frozen BK402.out 0; have hfz177_1 := blk_frozen BK402.out 1) | ((with_reducible refine gate_callee (f := 13) rfl ?_); refine goesL_ (some 244) rfl rfl Try.func13 (by kernel_rfl) rfl #[.agg #[.int .i64 t399, .int .i64 t400]] rfl (by (try simp only [List.map_toArray, List.map_cons, List.map_nil]); first | done | rfl | (simp only [List.length_drop, List.length_take]; rfl)) ?_; (with_reducible refine (impl_WaysOf.calls t399 t400 t407 t408 _ A149.out).mono ?_); rintro e w178 ⟨rfl, hb⟩; refine ⟨_, rfl, ?_⟩; have n0_ := Aside0.mk (blk_below (bk_ BK360.out) hb); have n1_ := Aside0.mk (blk_below (bk_ BK361.out) hb); have n2_ := Aside0.mk (blk_below (bk_ BK365.out) hb); have n3_ := Aside0.mk (blk_below (bk_ BK369.out) hb); have n4_ := Aside0.mk (blk_below (bk_ BK394.out) hb); have n5_ := Aside0.mk (blk_below (bk_ BK402.out) hb); have n6_ := Aside0.mk (below_step (bq_) hb); clear BK360; clear BK361; clear BK365; clear BK369; clear BK394; clear BK402; clear HB; have BK360 := n0_; have BK361 := n1_; have BK365 := n2_; have BK369 := n3_; have BK394 := n4_; have BK402 := n5_; have HB := n6_; clear n0_ n1_ n2_ n3_ n4_ n5_ n6_; (try clear hb); (try clear hb2); (try clear hk); (try clear hi); have hcz179_0 := cq_ BK402.out 0 (.int .i64 t399); have hcz179_1 := cq_ BK402.out 1 (.int .i64 t400); have hfz179_0 := blk_frozen BK402.out 0; have hfz179_1 := blk_frozen BK402.out 1) | ((with_reducible refine gate_callee (f := 11) rfl ?_); refine goesL_ (some 249) rfl rfl Try.func11 (by kernel_rfl) rfl #[.agg #[.int .i64 t399, .int .i64 t400]] rfl (by (try simp only [List.map_toArray, List.map_cons, List.map_nil]); first | done | rfl | (simp only [List.length_drop, List.length_take]; rfl)) ?_; (with_reducible refine (spec_WaysOf.calls kj35 t399 t400 t409 t410 _ A150.out).mono ?_); rintro e w180 ⟨rfl, hb⟩; refine ⟨_, rfl, ?_⟩; have n0_ := Aside0.mk (blk_below (bk_ BK360.out) hb); have n1_ := Aside0.mk (blk_below (bk_ BK361.out) hb); have n2_ := Aside0.mk (blk_below (bk_ BK365.out) hb); have n3_ := Aside0.mk (blk_below (bk_ BK369.out) hb); have n4_ := Aside0.mk (blk_below (bk_ BK394.out) hb); have n5_ := Aside0.mk (blk_below (bk_ BK402.out) hb); have n6_ := Aside0.mk (below_step (bq_) hb); clear BK360; clear BK361; clear BK365; clear BK369; clear BK394; clear BK402; clear HB; have BK360 := n0_; have BK361 := n1_; have BK365 := n2_; have BK369 := n3_; have BK394 := n4_; have BK402 := n5_; have HB := n6_; clear n0_ n1_ n2_ n3_ n4_ n5_ n6_; (try clear hb); (try clear hb2); (try clear hk); (try clear hi)))
                          go_ret
                          exact ⟨by first | rfl | (simp [errW_none, errW_some] <;> rfl) | (simp [*, errW_none, errW_some] <;> rfl), bq_⟩
                      · rw [if_neg c155] at H
                        have c155b0 : (t408 == t410) = false := by simpa using c155
                        (try (have c155b1 : decide (t408 = t410) = false := by simpa using c155))
                        (try (have c155b2 : (t408 == t410) = false := by simpa using c155))
                        (try (have c155b3 : ¬ (t408 = t410) := by simpa using c155))
                        clear c155
                        exact absurd (Option.some.inj H).symm (by rw [hr_.out]; simp)
                    · rw [if_neg c154] at H
                      have c154b0 : (t403 == t405) = false := by simpa using c154
                      (try (have c154b1 : decide (t403 = t405) = false := by simpa using c154))
                      (try (have c154b2 : (t403 == t405) = false := by simpa using c154))
                      (try (have c154b3 : ¬ (t403 = t405) := by simpa using c154))
                      clear c154
                      exact absurd (Option.some.inj H).symm (by rw [hr_.out]; simp)
                  · rw [if_neg c153] at H
                    have c153b0 : (t404 == t406) = false := by simpa using c153
                    (try (have c153b1 : decide (t404 = t406) = false := by simpa using c153))
                    (try (have c153b2 : (t404 == t406) = false := by simpa using c153))
                    (try (have c153b3 : ¬ (t404 = t406) := by simpa using c153))
                    clear c153
                    exact absurd (Option.some.inj H).symm (by rw [hr_.out]; simp)
                · rw [if_neg c152] at H
                  have c152b0 : (t395 == t397) = false := beq_eq_false_iff_ne.mpr c152
                  have c152b1 : (t395 != t397) = true := bne_iff_ne.mpr c152
                  exact absurd (Option.some.inj H).symm (by rw [hr_.out]; simp)
              · rw [if_neg c151] at H
                have c151b0 : (t396 == t398) = false := by simpa using c151
                (try (have c151b1 : decide (t396 = t398) = false := by simpa using c151))
                (try (have c151b2 : (t396 == t398) = false := by simpa using c151))
                (try (have c151b3 : ¬ (t396 = t398) := by simpa using c151))
                clear c151
                exact absurd (Option.some.inj H).symm (by rw [hr_.out]; simp)

/-- THE ONE PURE STATEMENT of laws_FnKnown: yours. -/
def laws_FnKnown.Pure : Prop := ∀ (l0 : List Int) (l1 : List Int), l0.length ≤ maxLen → l0.length * 1 ≤ 140737488351232 → (∀ x ∈ l0, (Lit.int .u8 x).wf = true) → l1.length ≤ maxLen → l1.length * 1 ≤ 140737488351232 → (∀ x ∈ l1, (Lit.int .u8 x).wf = true) → ∃ k, laws_FnKnown.f k l0 l1 = some true
theorem laws_FnKnown.walk (P : laws_FnKnown.Pure) (a0 : Option Addr) (len0 cap0 : Nat) (z0 : List Int) (a1 : Option Addr) (len1 cap1 : Nat) (z1 : List Int) (w : World) (w0 : (a0 = none ∧ len0 = 0 ∧ cap0 = 0 ∧ z0 = []) ∨ ∃ x, a0 = some x ∧ len0 ≤ cap0 ∧ cap0 ≤ maxLen ∧ z0.length = cap0 ∧ (∀ i, i < z0.length → w.cell? (x.add i) = some (.int .u8 (z0.getD i 0))) ∧ ∀ n ∈ z0, (Lit.int .u8 n).wf = true) (y0 : len0 * 1 ≤ 140737488351232) (w1 : (a1 = none ∧ len1 = 0 ∧ cap1 = 0 ∧ z1 = []) ∨ ∃ x, a1 = some x ∧ len1 ≤ cap1 ∧ cap1 ≤ maxLen ∧ z1.length = cap1 ∧ (∀ i, i < z1.length → w.cell? (x.add i) = some (.int .u8 (z1.getD i 0))) ∧ ∀ n ∈ z1, (Lit.int .u8 n).wf = true) (y1 : len1 * 1 ≤ 140737488351232) :
    Calls Try.prog 10 #[.slice a0 len0 cap0, .slice a1 len1 cap1] w fun e w' => e = .returned (.bool true) ∧ Below w.heap.size w w' := by
  obtain ⟨l0, rfl, hr0, hm0, hw0, hc0⟩ := ReadsInt.ofRowC w0
  obtain ⟨l1, rfl, hr1, hm1, hw1, hc1⟩ := ReadsInt.ofRowC w1
  obtain ⟨k, h⟩ := P l0 l1 hm0 y0 hw0 hm1 y1 hw1
  refine (laws_FnKnown.calls k _ _ l0 _ _ l1 true w (Kd.C_of_reads (d := (0 : Int)) (h1 := fun _ => rfl) hr0) hc0 (Kd.C_of_reads (d := (0 : Int)) (h1 := fun _ => rfl) hr1) hc1 ⟨rfl⟩ h).mono ?_
  rintro e w' ⟨rfl, hd⟩
  exact ⟨rfl, hd⟩

end Go.Proofs.Ytggddmpomdpdjaa.PFK

-- Made by myprint.py (this session's program, over the kit's print) for this claim. Lean checks it.
import Derived.Test.YtggddmpomdpdjaaPFBx0
import Derived.Test.YtggddmpomdpdjaaPFBx1
import Derived.Test.YtggddmpomdpdjaaPFBx2
import Derived.Test.YtggddmpomdpdjaaPFBx3
import Derived.Test.YtggddmpomdpdjaaPFBx5
import Derived.Test.YtggddmpomdpdjaaPFBx6
namespace Go.Proofs.Ytggddmpomdpdjaa.PFB
open Go.RowKit Go.Proofs.YtggddmpomdpdjaaW.PrintWords Go.Proofs.YtggddmpomdpdjaaW.PrintLast Go.Proofs.YtggddmpomdpdjaaW.PrintMore
attribute [local go_sem] max2_int min2_int max_two min_two max_three min_three max_four min_four   -- for this text's walks alone
set_option linter.unusedVariables false
set_option linter.unusedSimpArgs false

attribute [local go_sem high] eqA26
/-! ### laws_FnBits: function 8 -/
mutual
def laws_FnBits.j0 : Nat → List Int → Bool → Bool → Bool → Int → Int → Int → Int → Int → Int → Int → Int → Option (Bool)
  | 0, _, _, _, _, _, _, _, _, _, _, _, _ => none
  | k + 1, x1, x8, x12, x93, x329000, x329001, x330000, x330001, x334000, x334001, x342000, x342001 => if x93 = true then (some false) else (if x12 = true then ((impl_WaysOf.f x329000 x329001).bind fun bt346 => (if bt346.2 = true then ((impl_GoodKnown.f x342000 x342001).bind fun t348 => (if t348 = true then (if x8 = true then ((impl_GoodKnown.f x334000 x334001).bind fun t349 => (laws_FnBits.j1 k x1 x8 bt346.1 (!t349) x329000 x329001 x330000 x330001 x334000 x334001 x342000 x342001)) else (laws_FnBits.j1 k x1 x8 bt346.1 false x329000 x329001 x330000 x330001 x334000 x334001 x342000 x342001)) else (laws_FnBits.j1 k x1 x8 bt346.1 true x329000 x329001 x330000 x330001 x334000 x334001 x342000 x342001))) else (laws_FnBits.j1 k x1 x8 bt346.1 true x329000 x329001 x330000 x330001 x334000 x334001 x342000 x342001))) else (laws_FnBits.j4 k x1))
def laws_FnBits.j4 : Nat → List Int → Option (Bool)
  | 0, _ => none
  | k + 1, x1 => (spec_DrawKnownOf.f k x1).bind fun t359 => ((impl_KnownOf.f k t359).bind fun bt362 => ((spec_KnownOf.f k t359).bind fun bt366 => (if (bt362.2.2 != bt366.2.2) = true then (laws_FnBits.j5 k x1 t359 bt362.2.2 true bt362.1 bt362.2.1) else (laws_FnBits.j5 k x1 t359 bt362.2.2 (!(bt362.1 == bt366.1) || (!(bt362.2.1 == bt366.2.1))) bt362.1 bt362.2.1))))
def laws_FnBits.j5 : Nat → List Int → List Int → Bool → Bool → Int → Int → Option (Bool)
  | 0, _, _, _, _, _, _ => none
  | k + 1, x1, x26, x28, x197, x366000, x366001 => if x197 = true then (some false) else (laws_FnBits.l1 k x1 x28 x26 (x26.length : Int) 0 x366000 x366001)
def laws_FnBits.l1 : Nat → List Int → Bool → List Int → Int → Int → Int → Int → Option (Bool)
  | 0, _, _, _, _, _, _, _ => none
  | k + 1, x1, x28, x198, x199, x200, x366000, x366001 => if x200 < x199 then (if 0 ≤ x200 then (if x200 < (x198.length : Int) then (if x28 = true then ((impl_MayBe.f x366000 x366001 (rd x198 x200)).bind fun bt385 => (if bt385.2 = true then (if bt385.1 = true then (laws_FnBits.l1 k x1 x28 x198 x199 (wrap64 (x200 + 1)) x366000 x366001) else (some false)) else (some false))) else (laws_FnBits.l1 k x1 x28 x198 x199 (wrap64 (x200 + 1)) x366000 x366001)) else (none)) else (none)) else ((spec_DrawJoinKnown.f k x1).bind fun bt370 => ((impl_JoinKnown.f bt370.1 bt370.2.1 bt370.2.2.1 bt370.2.2.2).bind fun bt376 => ((spec_JoinKnown.f bt370.1 bt370.2.1 bt370.2.2.1 bt370.2.2.2).bind fun bt380 => (if (bt376.2.2 == bt380.2.2) = true then (some (bt376.1 == bt380.1 && (bt376.2.1 == bt380.2.1))) else (some false)))))
def laws_FnBits.j1 : Nat → List Int → Bool → Int → Bool → Int → Int → Int → Int → Int → Int → Int → Int → Option (Bool)
  | 0, _, _, _, _, _, _, _, _, _, _, _, _ => none
  | k + 1, x1, x8, x15, x114, x329000, x329001, x330000, x330001, x334000, x334001, x342000, x342001 => if x114 = true then (some false) else (laws_FnBits.l0 k x1 x8 x15 0 x329000 x329001 x330000 x330001 x334000 x334001 x342000 x342001)
def laws_FnBits.l0 : Nat → List Int → Bool → Int → Int → Int → Int → Int → Int → Int → Int → Int → Int → Option (Bool)
  | 0, _, _, _, _, _, _, _, _, _, _, _, _ => none
  | k + 1, x1, x8, x15, x17, x329000, x329001, x330000, x330001, x334000, x334001, x342000, x342001 => if x17 < 32 then ((laws_numberOf.f k x1).bind fun t350 => (if x15 = 0 then (none) else ((impl_NumberAt.f k x329000 x329001 (Int.tmod (wrap64 (t350 + (wrap64 (x17 * 31)))) x15)).bind fun bt351 => ((impl_MayBe.f x342000 x342001 bt351.1).bind fun bt353 => ((impl_MayBe.f x330000 x330001 bt351.1).bind fun bt355 => (if bt351.2 = true then (if bt353.2 = true then (if bt353.1 = true then (if bt355.2 = true then (if bt355.1 = true then (laws_FnBits.j3 k x1 x8 x15 x17 bt351.1 bt355.1 (!x8) x329000 x329001 x330000 x330001 x334000 x334001 x342000 x342001) else (laws_FnBits.j3 k x1 x8 x15 x17 bt351.1 bt355.1 false x329000 x329001 x330000 x330001 x334000 x334001 x342000 x342001)) else (laws_FnBits.j3 k x1 x8 x15 x17 bt351.1 bt355.1 true x329000 x329001 x330000 x330001 x334000 x334001 x342000 x342001)) else (laws_FnBits.j3 k x1 x8 x15 x17 bt351.1 bt355.1 true x329000 x329001 x330000 x330001 x334000 x334001 x342000 x342001)) else (laws_FnBits.j3 k x1 x8 x15 x17 bt351.1 bt355.1 true x329000 x329001 x330000 x330001 x334000 x334001 x342000 x342001)) else (laws_FnBits.j3 k x1 x8 x15 x17 bt351.1 bt355.1 true x329000 x329001 x330000 x330001 x334000 x334001 x342000 x342001))))))) else (laws_FnBits.j4 k x1)
def laws_FnBits.j3 : Nat → List Int → Bool → Int → Int → Int → Bool → Bool → Int → Int → Int → Int → Int → Int → Int → Int → Option (Bool)
  | 0, _, _, _, _, _, _, _, _, _, _, _, _, _, _, _ => none
  | k + 1, x1, x8, x15, x17, x18, x22, x163, x329000, x329001, x330000, x330001, x334000, x334001, x342000, x342001 => if x163 = true then (some false) else (if x8 = true then ((impl_MayBe.f x334000 x334001 x18).bind fun bt357 => (if bt357.2 = true then (if (bt357.1 != x22) = true then (some false) else (laws_FnBits.l0 k x1 x8 x15 (wrap64 (x17 + 1)) x329000 x329001 x330000 x330001 x334000 x334001 x342000 x342001)) else (some false))) else (laws_FnBits.l0 k x1 x8 x15 (wrap64 (x17 + 1)) x329000 x329001 x330000 x330001 x334000 x334001 x342000 x342001))
end
def laws_FnBits.f (k : Nat) (l0 : List Int) (l1 : List Int) : Option (Bool) := if (wrap64 ((l0.length : Int) + (l1.length : Int))) > 1048576 then (some true) else ((spec_DrawMeetKnown.f k l0).bind fun bt324 => ((impl_MeetKnown.f bt324.1 bt324.2.1 bt324.2.2.1 bt324.2.2.2).bind fun bt330 => ((spec_MeetKnown.f bt324.1 bt324.2.1 bt324.2.2.1 bt324.2.2.2).bind fun bt334 => ((impl_JoinKnown.f bt324.1 bt324.2.1 bt324.2.2.1 bt324.2.2.2).bind fun bt338 => ((spec_JoinKnown.f bt324.1 bt324.2.1 bt324.2.2.1 bt324.2.2.2).bind fun bt342 => (if (bt330.2.2 != bt334.2.2) = true then (laws_FnBits.j0 k l1 bt330.2.2 bt338.2.2 true bt324.1 bt324.2.1 bt324.2.2.1 bt324.2.2.2 bt330.1 bt330.2.1 bt338.1 bt338.2.1) else (if (!(bt330.1 == bt334.1) || (!(bt330.2.1 == bt334.2.1))) = true then (laws_FnBits.j0 k l1 bt330.2.2 bt338.2.2 true bt324.1 bt324.2.1 bt324.2.2.1 bt324.2.2.2 bt330.1 bt330.2.1 bt338.1 bt338.2.1) else (if (bt338.2.2 != bt342.2.2) = true then (laws_FnBits.j0 k l1 bt330.2.2 bt338.2.2 true bt324.1 bt324.2.1 bt324.2.2.1 bt324.2.2.2 bt330.1 bt330.2.1 bt338.1 bt338.2.1) else (laws_FnBits.j0 k l1 bt330.2.2 bt338.2.2 (!(bt338.1 == bt342.1) || (!(bt338.2.1 == bt342.2.1))) bt324.1 bt324.2.1 bt324.2.2.1 bt324.2.2.2 bt330.1 bt330.2.1 bt338.1 bt338.2.1)))))))))
theorem laws_FnBits.mono_l : ∀ k, (∀ y0 y1 y2 y3 y4 y5 y6 y7 y8 y9 y10 y11, LeO (laws_FnBits.j0 k y0 y1 y2 y3 y4 y5 y6 y7 y8 y9 y10 y11) (laws_FnBits.j0 (k + 1) y0 y1 y2 y3 y4 y5 y6 y7 y8 y9 y10 y11)) ∧ (∀ y0, LeO (laws_FnBits.j4 k y0) (laws_FnBits.j4 (k + 1) y0)) ∧ (∀ y0 y1 y2 y3 y4 y5, LeO (laws_FnBits.j5 k y0 y1 y2 y3 y4 y5) (laws_FnBits.j5 (k + 1) y0 y1 y2 y3 y4 y5)) ∧ (∀ y0 y1 y2 y3 y4 y5 y6, LeO (laws_FnBits.l1 k y0 y1 y2 y3 y4 y5 y6) (laws_FnBits.l1 (k + 1) y0 y1 y2 y3 y4 y5 y6)) ∧ (∀ y0 y1 y2 y3 y4 y5 y6 y7 y8 y9 y10 y11, LeO (laws_FnBits.j1 k y0 y1 y2 y3 y4 y5 y6 y7 y8 y9 y10 y11) (laws_FnBits.j1 (k + 1) y0 y1 y2 y3 y4 y5 y6 y7 y8 y9 y10 y11)) ∧ (∀ y0 y1 y2 y3 y4 y5 y6 y7 y8 y9 y10 y11, LeO (laws_FnBits.l0 k y0 y1 y2 y3 y4 y5 y6 y7 y8 y9 y10 y11) (laws_FnBits.l0 (k + 1) y0 y1 y2 y3 y4 y5 y6 y7 y8 y9 y10 y11)) ∧ (∀ y0 y1 y2 y3 y4 y5 y6 y7 y8 y9 y10 y11 y12 y13 y14, LeO (laws_FnBits.j3 k y0 y1 y2 y3 y4 y5 y6 y7 y8 y9 y10 y11 y12 y13 y14) (laws_FnBits.j3 (k + 1) y0 y1 y2 y3 y4 y5 y6 y7 y8 y9 y10 y11 y12 y13 y14))
  | 0 => ⟨fun _ _ _ _ _ _ _ _ _ _ _ _ r h => by simp [laws_FnBits.j0] at h, fun _ r h => by simp [laws_FnBits.j4] at h, fun _ _ _ _ _ _ r h => by simp [laws_FnBits.j5] at h, fun _ _ _ _ _ _ _ r h => by simp [laws_FnBits.l1] at h, fun _ _ _ _ _ _ _ _ _ _ _ _ r h => by simp [laws_FnBits.j1] at h, fun _ _ _ _ _ _ _ _ _ _ _ _ r h => by simp [laws_FnBits.l0] at h, fun _ _ _ _ _ _ _ _ _ _ _ _ _ _ _ r h => by simp [laws_FnBits.j3] at h⟩
  | k + 1 => by
    obtain ⟨ih0, ih1, ih2, ih3, ih4, ih5, ih6⟩ := laws_FnBits.mono_l k
    refine ⟨?_, ?_, ?_, ?_, ?_, ?_, ?_⟩
    · intro y0 y1 y2 y3 y4 y5 y6 y7 y8 y9 y10 y11
      unfold laws_FnBits.j0
      repeat' first
      | (with_reducible exact ih0 _ _ _ _ _ _ _ _ _ _ _ _)
      | (with_reducible exact ih1 _)
      | (with_reducible exact ih2 _ _ _ _ _ _)
      | (with_reducible exact ih3 _ _ _ _ _ _ _)
      | (with_reducible exact ih4 _ _ _ _ _ _ _ _ _ _ _ _)
      | (with_reducible exact ih5 _ _ _ _ _ _ _ _ _ _ _ _)
      | (with_reducible exact ih6 _ _ _ _ _ _ _ _ _ _ _ _ _ _ _)
      | (with_reducible exact impl_KnownOf.mono _ _)
      | (with_reducible exact impl_NumberAt.mono _ _ _ _)
      | (with_reducible exact laws_numberOf.mono _ _)
      | (with_reducible exact spec_DrawJoinKnown.mono _ _)
      | (with_reducible exact spec_DrawKnownOf.mono _ _)
      | (with_reducible exact spec_DrawMeetKnown.mono _ _)
      | (with_reducible exact spec_KnownOf.mono _ _)
      | (with_reducible exact LeO.refl _)
      | (with_reducible exact LeO.none _)
      | (with_reducible refine LeO.ite ?_ ?_)
      | (with_reducible refine LeO.bind ?_ (fun _ => ?_))
      | exact ih0 _ _ _ _ _ _ _ _ _ _ _ _
      | exact ih1 _
      | exact ih2 _ _ _ _ _ _
      | exact ih3 _ _ _ _ _ _ _
      | exact ih4 _ _ _ _ _ _ _ _ _ _ _ _
      | exact ih5 _ _ _ _ _ _ _ _ _ _ _ _
      | exact ih6 _ _ _ _ _ _ _ _ _ _ _ _ _ _ _
      | exact impl_KnownOf.mono _ _
      | exact impl_NumberAt.mono _ _ _ _
      | exact laws_numberOf.mono _ _
      | exact spec_DrawJoinKnown.mono _ _
      | exact spec_DrawKnownOf.mono _ _
      | exact spec_DrawMeetKnown.mono _ _
      | exact spec_KnownOf.mono _ _
      | exact LeO.none _
      | refine LeO.ite ?_ ?_
      | refine LeO.bind ?_ (fun _ => ?_)
    · intro y0
      unfold laws_FnBits.j4
      repeat' first
      | (with_reducible exact ih0 _ _ _ _ _ _ _ _ _ _ _ _)
      | (with_reducible exact ih1 _)
      | (with_reducible exact ih2 _ _ _ _ _ _)
      | (with_reducible exact ih3 _ _ _ _ _ _ _)
      | (with_reducible exact ih4 _ _ _ _ _ _ _ _ _ _ _ _)
      | (with_reducible exact ih5 _ _ _ _ _ _ _ _ _ _ _ _)
      | (with_reducible exact ih6 _ _ _ _ _ _ _ _ _ _ _ _ _ _ _)
      | (with_reducible exact impl_KnownOf.mono _ _)
      | (with_reducible exact impl_NumberAt.mono _ _ _ _)
      | (with_reducible exact laws_numberOf.mono _ _)
      | (with_reducible exact spec_DrawJoinKnown.mono _ _)
      | (with_reducible exact spec_DrawKnownOf.mono _ _)
      | (with_reducible exact spec_DrawMeetKnown.mono _ _)
      | (with_reducible exact spec_KnownOf.mono _ _)
      | (with_reducible exact LeO.refl _)
      | (with_reducible exact LeO.none _)
      | (with_reducible refine LeO.ite ?_ ?_)
      | (with_reducible refine LeO.bind ?_ (fun _ => ?_))
      | exact ih0 _ _ _ _ _ _ _ _ _ _ _ _
      | exact ih1 _
      | exact ih2 _ _ _ _ _ _
      | exact ih3 _ _ _ _ _ _ _
      | exact ih4 _ _ _ _ _ _ _ _ _ _ _ _
      | exact ih5 _ _ _ _ _ _ _ _ _ _ _ _
      | exact ih6 _ _ _ _ _ _ _ _ _ _ _ _ _ _ _
      | exact impl_KnownOf.mono _ _
      | exact impl_NumberAt.mono _ _ _ _
      | exact laws_numberOf.mono _ _
      | exact spec_DrawJoinKnown.mono _ _
      | exact spec_DrawKnownOf.mono _ _
      | exact spec_DrawMeetKnown.mono _ _
      | exact spec_KnownOf.mono _ _
      | exact LeO.none _
      | refine LeO.ite ?_ ?_
      | refine LeO.bind ?_ (fun _ => ?_)
    · intro y0 y1 y2 y3 y4 y5
      unfold laws_FnBits.j5
      repeat' first
      | (with_reducible exact ih0 _ _ _ _ _ _ _ _ _ _ _ _)
      | (with_reducible exact ih1 _)
      | (with_reducible exact ih2 _ _ _ _ _ _)
      | (with_reducible exact ih3 _ _ _ _ _ _ _)
      | (with_reducible exact ih4 _ _ _ _ _ _ _ _ _ _ _ _)
      | (with_reducible exact ih5 _ _ _ _ _ _ _ _ _ _ _ _)
      | (with_reducible exact ih6 _ _ _ _ _ _ _ _ _ _ _ _ _ _ _)
      | (with_reducible exact impl_KnownOf.mono _ _)
      | (with_reducible exact impl_NumberAt.mono _ _ _ _)
      | (with_reducible exact laws_numberOf.mono _ _)
      | (with_reducible exact spec_DrawJoinKnown.mono _ _)
      | (with_reducible exact spec_DrawKnownOf.mono _ _)
      | (with_reducible exact spec_DrawMeetKnown.mono _ _)
      | (with_reducible exact spec_KnownOf.mono _ _)
      | (with_reducible exact LeO.refl _)
      | (with_reducible exact LeO.none _)
      | (with_reducible refine LeO.ite ?_ ?_)
      | (with_reducible refine LeO.bind ?_ (fun _ => ?_))
      | exact ih0 _ _ _ _ _ _ _ _ _ _ _ _
      | exact ih1 _
      | exact ih2 _ _ _ _ _ _
      | exact ih3 _ _ _ _ _ _ _
      | exact ih4 _ _ _ _ _ _ _ _ _ _ _ _
      | exact ih5 _ _ _ _ _ _ _ _ _ _ _ _
      | exact ih6 _ _ _ _ _ _ _ _ _ _ _ _ _ _ _
      | exact impl_KnownOf.mono _ _
      | exact impl_NumberAt.mono _ _ _ _
      | exact laws_numberOf.mono _ _
      | exact spec_DrawJoinKnown.mono _ _
      | exact spec_DrawKnownOf.mono _ _
      | exact spec_DrawMeetKnown.mono _ _
      | exact spec_KnownOf.mono _ _
      | exact LeO.none _
      | refine LeO.ite ?_ ?_
      | refine LeO.bind ?_ (fun _ => ?_)
    · intro y0 y1 y2 y3 y4 y5 y6
      unfold laws_FnBits.l1
      repeat' first
      | (with_reducible exact ih0 _ _ _ _ _ _ _ _ _ _ _ _)
      | (with_reducible exact ih1 _)
      | (with_reducible exact ih2 _ _ _ _ _ _)
      | (with_reducible exact ih3 _ _ _ _ _ _ _)
      | (with_reducible exact ih4 _ _ _ _ _ _ _ _ _ _ _ _)
      | (with_reducible exact ih5 _ _ _ _ _ _ _ _ _ _ _ _)
      | (with_reducible exact ih6 _ _ _ _ _ _ _ _ _ _ _ _ _ _ _)
      | (with_reducible exact impl_KnownOf.mono _ _)
      | (with_reducible exact impl_NumberAt.mono _ _ _ _)
      | (with_reducible exact laws_numberOf.mono _ _)
      | (with_reducible exact spec_DrawJoinKnown.mono _ _)
      | (with_reducible exact spec_DrawKnownOf.mono _ _)
      | (with_reducible exact spec_DrawMeetKnown.mono _ _)
      | (with_reducible exact spec_KnownOf.mono _ _)
      | (with_reducible exact LeO.refl _)
      | (with_reducible exact LeO.none _)
      | (with_reducible refine LeO.ite ?_ ?_)
      | (with_reducible refine LeO.bind ?_ (fun _ => ?_))
      | exact ih0 _ _ _ _ _ _ _ _ _ _ _ _
      | exact ih1 _
      | exact ih2 _ _ _ _ _ _
      | exact ih3 _ _ _ _ _ _ _
      | exact ih4 _ _ _ _ _ _ _ _ _ _ _ _
      | exact ih5 _ _ _ _ _ _ _ _ _ _ _ _
      | exact ih6 _ _ _ _ _ _ _ _ _ _ _ _ _ _ _
      | exact impl_KnownOf.mono _ _
      | exact impl_NumberAt.mono _ _ _ _
      | exact laws_numberOf.mono _ _
      | exact spec_DrawJoinKnown.mono _ _
      | exact spec_DrawKnownOf.mono _ _
      | exact spec_DrawMeetKnown.mono _ _
      | exact spec_KnownOf.mono _ _
      | exact LeO.none _
      | refine LeO.ite ?_ ?_
      | refine LeO.bind ?_ (fun _ => ?_)
    · intro y0 y1 y2 y3 y4 y5 y6 y7 y8 y9 y10 y11
      unfold laws_FnBits.j1
      repeat' first
      | (with_reducible exact ih0 _ _ _ _ _ _ _ _ _ _ _ _)
      | (with_reducible exact ih1 _)
      | (with_reducible exact ih2 _ _ _ _ _ _)
      | (with_reducible exact ih3 _ _ _ _ _ _ _)
      | (with_reducible exact ih4 _ _ _ _ _ _ _ _ _ _ _ _)
      | (with_reducible exact ih5 _ _ _ _ _ _ _ _ _ _ _ _)
      | (with_reducible exact ih6 _ _ _ _ _ _ _ _ _ _ _ _ _ _ _)
      | (with_reducible exact impl_KnownOf.mono _ _)
      | (with_reducible exact impl_NumberAt.mono _ _ _ _)
      | (with_reducible exact laws_numberOf.mono _ _)
      | (with_reducible exact spec_DrawJoinKnown.mono _ _)
      | (with_reducible exact spec_DrawKnownOf.mono _ _)
      | (with_reducible exact spec_DrawMeetKnown.mono _ _)
      | (with_reducible exact spec_KnownOf.mono _ _)
      | (with_reducible exact LeO.refl _)
      | (with_reducible exact LeO.none _)
      | (with_reducible refine LeO.ite ?_ ?_)
      | (with_reducible refine LeO.bind ?_ (fun _ => ?_))
      | exact ih0 _ _ _ _ _ _ _ _ _ _ _ _
      | exact ih1 _
      | exact ih2 _ _ _ _ _ _
      | exact ih3 _ _ _ _ _ _ _
      | exact ih4 _ _ _ _ _ _ _ _ _ _ _ _
      | exact ih5 _ _ _ _ _ _ _ _ _ _ _ _
      | exact ih6 _ _ _ _ _ _ _ _ _ _ _ _ _ _ _
      | exact impl_KnownOf.mono _ _
      | exact impl_NumberAt.mono _ _ _ _
      | exact laws_numberOf.mono _ _
      | exact spec_DrawJoinKnown.mono _ _
      | exact spec_DrawKnownOf.mono _ _
      | exact spec_DrawMeetKnown.mono _ _
      | exact spec_KnownOf.mono _ _
      | exact LeO.none _
      | refine LeO.ite ?_ ?_
      | refine LeO.bind ?_ (fun _ => ?_)
    · intro y0 y1 y2 y3 y4 y5 y6 y7 y8 y9 y10 y11
      unfold laws_FnBits.l0
      repeat' first
      | (with_reducible exact ih0 _ _ _ _ _ _ _ _ _ _ _ _)
      | (with_reducible exact ih1 _)
      | (with_reducible exact ih2 _ _ _ _ _ _)
      | (with_reducible exact ih3 _ _ _ _ _ _ _)
      | (with_reducible exact ih4 _ _ _ _ _ _ _ _ _ _ _ _)
      | (with_reducible exact ih5 _ _ _ _ _ _ _ _ _ _ _ _)
      | (with_reducible exact ih6 _ _ _ _ _ _ _ _ _ _ _ _ _ _ _)
      | (with_reducible exact impl_KnownOf.mono _ _)
      | (with_reducible exact impl_NumberAt.mono _ _ _ _)
      | (with_reducible exact laws_numberOf.mono _ _)
      | (with_reducible exact spec_DrawJoinKnown.mono _ _)
      | (with_reducible exact spec_DrawKnownOf.mono _ _)
      | (with_reducible exact spec_DrawMeetKnown.mono _ _)
      | (with_reducible exact spec_KnownOf.mono _ _)
      | (with_reducible exact LeO.refl _)
      | (with_reducible exact LeO.none _)
      | (with_reducible refine LeO.ite ?_ ?_)
      | (with_reducible refine LeO.bind ?_ (fun _ => ?_))
      | exact ih0 _ _ _ _ _ _ _ _ _ _ _ _
      | exact ih1 _
      | exact ih2 _ _ _ _ _ _
      | exact ih3 _ _ _ _ _ _ _
      | exact ih4 _ _ _ _ _ _ _ _ _ _ _ _
      | exact ih5 _ _ _ _ _ _ _ _ _ _ _ _
      | exact ih6 _ _ _ _ _ _ _ _ _ _ _ _ _ _ _
      | exact impl_KnownOf.mono _ _
      | exact impl_NumberAt.mono _ _ _ _
      | exact laws_numberOf.mono _ _
      | exact spec_DrawJoinKnown.mono _ _
      | exact spec_DrawKnownOf.mono _ _
      | exact spec_DrawMeetKnown.mono _ _
      | exact spec_KnownOf.mono _ _
      | exact LeO.none _
      | refine LeO.ite ?_ ?_
      | refine LeO.bind ?_ (fun _ => ?_)
    · intro y0 y1 y2 y3 y4 y5 y6 y7 y8 y9 y10 y11 y12 y13 y14
      unfold laws_FnBits.j3
      repeat' first
      | (with_reducible exact ih0 _ _ _ _ _ _ _ _ _ _ _ _)
      | (with_reducible exact ih1 _)
      | (with_reducible exact ih2 _ _ _ _ _ _)
      | (with_reducible exact ih3 _ _ _ _ _ _ _)
      | (with_reducible exact ih4 _ _ _ _ _ _ _ _ _ _ _ _)
      | (with_reducible exact ih5 _ _ _ _ _ _ _ _ _ _ _ _)
      | (with_reducible exact ih6 _ _ _ _ _ _ _ _ _ _ _ _ _ _ _)
      | (with_reducible exact impl_KnownOf.mono _ _)
      | (with_reducible exact impl_NumberAt.mono _ _ _ _)
      | (with_reducible exact laws_numberOf.mono _ _)
      | (with_reducible exact spec_DrawJoinKnown.mono _ _)
      | (with_reducible exact spec_DrawKnownOf.mono _ _)
      | (with_reducible exact spec_DrawMeetKnown.mono _ _)
      | (with_reducible exact spec_KnownOf.mono _ _)
      | (with_reducible exact LeO.refl _)
      | (with_reducible exact LeO.none _)
      | (with_reducible refine LeO.ite ?_ ?_)
      | (with_reducible refine LeO.bind ?_ (fun _ => ?_))
      | exact ih0 _ _ _ _ _ _ _ _ _ _ _ _
      | exact ih1 _
      | exact ih2 _ _ _ _ _ _
      | exact ih3 _ _ _ _ _ _ _
      | exact ih4 _ _ _ _ _ _ _ _ _ _ _ _
      | exact ih5 _ _ _ _ _ _ _ _ _ _ _ _
      | exact ih6 _ _ _ _ _ _ _ _ _ _ _ _ _ _ _
      | exact impl_KnownOf.mono _ _
      | exact impl_NumberAt.mono _ _ _ _
      | exact laws_numberOf.mono _ _
      | exact spec_DrawJoinKnown.mono _ _
      | exact spec_DrawKnownOf.mono _ _
      | exact spec_DrawMeetKnown.mono _ _
      | exact spec_KnownOf.mono _ _
      | exact LeO.none _
      | refine LeO.ite ?_ ?_
      | refine LeO.bind ?_ (fun _ => ?_)
theorem laws_FnBits.mono : ∀ a0 a1 k, LeO (laws_FnBits.f k a0 a1) (laws_FnBits.f (k + 1) a0 a1) := by
  intro a0 a1 k
  obtain ⟨ih0, ih1, ih2, ih3, ih4, ih5, ih6⟩ := laws_FnBits.mono_l k
  unfold laws_FnBits.f
  repeat' first
      | (with_reducible exact ih0 _ _ _ _ _ _ _ _ _ _ _ _)
      | (with_reducible exact ih1 _)
      | (with_reducible exact ih2 _ _ _ _ _ _)
      | (with_reducible exact ih3 _ _ _ _ _ _ _)
      | (with_reducible exact ih4 _ _ _ _ _ _ _ _ _ _ _ _)
      | (with_reducible exact ih5 _ _ _ _ _ _ _ _ _ _ _ _)
      | (with_reducible exact ih6 _ _ _ _ _ _ _ _ _ _ _ _ _ _ _)
      | (with_reducible exact impl_KnownOf.mono _ _)
      | (with_reducible exact impl_NumberAt.mono _ _ _ _)
      | (with_reducible exact laws_numberOf.mono _ _)
      | (with_reducible exact spec_DrawJoinKnown.mono _ _)
      | (with_reducible exact spec_DrawKnownOf.mono _ _)
      | (with_reducible exact spec_DrawMeetKnown.mono _ _)
      | (with_reducible exact spec_KnownOf.mono _ _)
      | (with_reducible exact LeO.refl _)
      | (with_reducible exact LeO.none _)
      | (with_reducible refine LeO.ite ?_ ?_)
      | (with_reducible refine LeO.bind ?_ (fun _ => ?_))
      | exact ih0 _ _ _ _ _ _ _ _ _ _ _ _
      | exact ih1 _
      | exact ih2 _ _ _ _ _ _
      | exact ih3 _ _ _ _ _ _ _
      | exact ih4 _ _ _ _ _ _ _ _ _ _ _ _
      | exact ih5 _ _ _ _ _ _ _ _ _ _ _ _
      | exact ih6 _ _ _ _ _ _ _ _ _ _ _ _ _ _ _
      | exact impl_KnownOf.mono _ _
      | exact impl_NumberAt.mono _ _ _ _
      | exact laws_numberOf.mono _ _
      | exact spec_DrawJoinKnown.mono _ _
      | exact spec_DrawKnownOf.mono _ _
      | exact spec_DrawMeetKnown.mono _ _
      | exact spec_KnownOf.mono _ _
      | exact LeO.none _
      | refine LeO.ite ?_ ?_
      | refine LeO.bind ?_ (fun _ => ?_)
def laws_FnBits.T17 : Bool × List (List Nat × List Nat) := (true, [([], []), ([], []), ([1], [1]), ([], []), ([3], [3]), ([2, 4], [2, 4]), ([], []), ([5, 6], [5, 6]), ([0, 7, 2], [0, 7]), ([8], [8]), ([9], [9]), ([9], [9]), ([10, 8, 0, 1, 2, 3, 4, 5, 6, 7, 8, 9, 10], [10]), ([11, 12, 0, 1, 2, 3, 4, 5, 6, 7, 8, 9, 10, 11, 12], [11])])
def laws_FnBits.B17 : List Nat := [0, 0, 2, 0, 8, 30, 0, 126, 255, 511, 1023, 1023, 2047, 8191]
theorem laws_FnBits.tab17 : rtab .any (opsOf Try.f8 17) = laws_FnBits.T17 := by kernel_rfl
theorem laws_FnBits.bits17 : waitsOk laws_FnBits.T17.2 laws_FnBits.B17 = true := by kernel_rfl
theorem laws_FnBits.j0_no_3 {k : Nat} {y0 : List Int} {y1 : Bool} {y2 : Bool} {y4 : Int} {y5 : Int} {y6 : Int} {y7 : Int} {y8 : Int} {y9 : Int} {y10 : Int} {y11 : Int} (h : laws_FnBits.j0 k y0 y1 y2 true y4 y5 y6 y7 y8 y9 y10 y11 = some true) : False := by
  cases k <;> simp [laws_FnBits.j0] at h
theorem laws_FnBits.j1_no_3 {k : Nat} {y0 : List Int} {y1 : Bool} {y2 : Int} {y4 : Int} {y5 : Int} {y6 : Int} {y7 : Int} {y8 : Int} {y9 : Int} {y10 : Int} {y11 : Int} (h : laws_FnBits.j1 k y0 y1 y2 true y4 y5 y6 y7 y8 y9 y10 y11 = some true) : False := by
  cases k <;> simp [laws_FnBits.j1] at h
theorem laws_FnBits.j3_no_6 {k : Nat} {y0 : List Int} {y1 : Bool} {y2 : Int} {y3 : Int} {y4 : Int} {y5 : Bool} {y7 : Int} {y8 : Int} {y9 : Int} {y10 : Int} {y11 : Int} {y12 : Int} {y13 : Int} {y14 : Int} (h : laws_FnBits.j3 k y0 y1 y2 y3 y4 y5 true y7 y8 y9 y10 y11 y12 y13 y14 = some true) : False := by
  cases k <;> simp [laws_FnBits.j3] at h
theorem laws_FnBits.j5_no_3 {k : Nat} {y0 : List Int} {y1 : List Int} {y2 : Bool} {y4 : Int} {y5 : Int} (h : laws_FnBits.j5 k y0 y1 y2 true y4 y5 = some true) : False := by
  cases k <;> simp [laws_FnBits.j5] at h
set_option maxHeartbeats 8000000 in
set_option maxRecDepth 100000 in
theorem laws_FnBits.calls (k : Nat) (A0 : Option Addr) (c0 : Nat) (l0 : List Int) (A1 : Option Addr) (c1 : Nat) (l1 : List Int) (r : Bool) (w : World) (hr0 : Kd.C (Kd.int .u8) w A0 l0.length l0) (hc0 : l0.length ≤ c0) (hr1 : Kd.C (Kd.int .u8) w A1 l1.length l1) (hc1 : l1.length ≤ c1) (hr_ : Aside0 (r = true)) (h : laws_FnBits.f k l0 l1 = some r) :
    Calls Try.prog 8 #[.slice A0 l0.length c0, .slice A1 l1.length c1] w fun e w' => e = .returned (.bool r) ∧ Below w.heap.size w w' := by
  have hu26 := Try.underlying26
  have HR0 := Aside0.mk hr0
  have HC0 := Aside0.mk hc0
  clear hr0 hc0
  have HR1 := Aside0.mk hr1
  have HC1 := Aside0.mk hc1
  clear hr1 hc1
  have HB := Aside0.mk (Below.refl w.heap.size w)
  have H : (if (wrap64 ((l0.length : Int) + (l1.length : Int))) > 1048576 then (some true) else ((spec_DrawMeetKnown.f k l0).bind fun bt324 => ((impl_MeetKnown.f bt324.1 bt324.2.1 bt324.2.2.1 bt324.2.2.2).bind fun bt330 => ((spec_MeetKnown.f bt324.1 bt324.2.1 bt324.2.2.1 bt324.2.2.2).bind fun bt334 => ((impl_JoinKnown.f bt324.1 bt324.2.1 bt324.2.2.1 bt324.2.2.2).bind fun bt338 => ((spec_JoinKnown.f bt324.1 bt324.2.1 bt324.2.2.1 bt324.2.2.2).bind fun bt342 => (if (bt330.2.2 != bt334.2.2) = true then (laws_FnBits.j0 k l1 bt330.2.2 bt338.2.2 true bt324.1 bt324.2.1 bt324.2.2.1 bt324.2.2.2 bt330.1 bt330.2.1 bt338.1 bt338.2.1) else (if (!(bt330.1 == bt334.1) || (!(bt330.2.1 == bt334.2.1))) = true then (laws_FnBits.j0 k l1 bt330.2.2 bt338.2.2 true bt324.1 bt324.2.1 bt324.2.2.1 bt324.2.2.2 bt330.1 bt330.2.1 bt338.1 bt338.2.1) else (if (bt338.2.2 != bt342.2.2) = true then (laws_FnBits.j0 k l1 bt330.2.2 bt338.2.2 true bt324.1 bt324.2.1 bt324.2.2.1 bt324.2.2.2 bt330.1 bt330.2.1 bt338.1 bt338.2.1) else (laws_FnBits.j0 k l1 bt330.2.2 bt338.2.2 (!(bt338.1 == bt342.1) || (!(bt338.2.1 == bt342.2.1))) bt324.1 bt324.2.1 bt324.2.2.1 bt324.2.2.2 bt330.1 bt330.2.1 bt338.1 bt338.2.1)))))))))) = some r := h
  clear h
  by_cases c3 : (wrap64 ((l0.length : Int) + (l1.length : Int))) > 1048576
  · rw [if_pos c3] at H
    have c3b0 : decide (1048576 < (wrap64 ((l0.length : Int) + (l1.length : Int)))) = true := decide_eq_true c3
    clear c3
    as_aux_lemma =>
      obtain rfl := Option.some.inj H
      go_enter Try.func8, Try.ntmps8
      go_wp2
      go_ret
      exact ⟨by first | rfl | (simp [errW_none, errW_some] <;> rfl) | (simp [*, errW_none, errW_some] <;> rfl), bq_⟩
  · rw [if_neg c3] at H
    have c3b0 : decide (1048576 < (wrap64 ((l0.length : Int) + (l1.length : Int)))) = false := decide_eq_false c3
    clear c3
    replace H := Option.bind_eq_some_iff.mp H
    obtain ⟨⟨t324, t325, t326, t327⟩, A40, H⟩ := H
    replace H : ((impl_MeetKnown.f t324 t325 t326 t327).bind fun bt330 => ((spec_MeetKnown.f t324 t325 t326 t327).bind fun bt334 => ((impl_JoinKnown.f t324 t325 t326 t327).bind fun bt338 => ((spec_JoinKnown.f t324 t325 t326 t327).bind fun bt342 => (if (bt330.2.2 != bt334.2.2) = true then (laws_FnBits.j0 k l1 bt330.2.2 bt338.2.2 true t324 t325 t326 t327 bt330.1 bt330.2.1 bt338.1 bt338.2.1) else (if (!(bt330.1 == bt334.1) || (!(bt330.2.1 == bt334.2.1))) = true then (laws_FnBits.j0 k l1 bt330.2.2 bt338.2.2 true t324 t325 t326 t327 bt330.1 bt330.2.1 bt338.1 bt338.2.1) else (if (bt338.2.2 != bt342.2.2) = true then (laws_FnBits.j0 k l1 bt330.2.2 bt338.2.2 true t324 t325 t326 t327 bt330.1 bt330.2.1 bt338.1 bt338.2.1) else (laws_FnBits.j0 k l1 bt330.2.2 bt338.2.2 (!(bt338.1 == bt342.1) || (!(bt338.2.1 == bt342.2.1))) t324 t325 t326 t327 bt330.1 bt330.2.1 bt338.1 bt338.2.1)))))))) = some r := H
    have A4 := Aside0.mk A40
    clear A40
    replace H := Option.bind_eq_some_iff.mp H
    obtain ⟨⟨t330, t331, t332⟩, A50, H⟩ := H
    replace H : ((spec_MeetKnown.f t324 t325 t326 t327).bind fun bt334 => ((impl_JoinKnown.f t324 t325 t326 t327).bind fun bt338 => ((spec_JoinKnown.f t324 t325 t326 t327).bind fun bt342 => (if (t332 != bt334.2.2) = true then (laws_FnBits.j0 k l1 t332 bt338.2.2 true t324 t325 t326 t327 t330 t331 bt338.1 bt338.2.1) else (if (!(t330 == bt334.1) || (!(t331 == bt334.2.1))) = true then (laws_FnBits.j0 k l1 t332 bt338.2.2 true t324 t325 t326 t327 t330 t331 bt338.1 bt338.2.1) else (if (bt338.2.2 != bt342.2.2) = true then (laws_FnBits.j0 k l1 t332 bt338.2.2 true t324 t325 t326 t327 t330 t331 bt338.1 bt338.2.1) else (laws_FnBits.j0 k l1 t332 bt338.2.2 (!(bt338.1 == bt342.1) || (!(bt338.2.1 == bt342.2.1))) t324 t325 t326 t327 t330 t331 bt338.1 bt338.2.1))))))) = some r := H
    have A5 := Aside0.mk A50
    clear A50
    replace H := Option.bind_eq_some_iff.mp H
    obtain ⟨⟨t334, t335, t336⟩, A60, H⟩ := H
    replace H : ((impl_JoinKnown.f t324 t325 t326 t327).bind fun bt338 => ((spec_JoinKnown.f t324 t325 t326 t327).bind fun bt342 => (if (t332 != t336) = true then (laws_FnBits.j0 k l1 t332 bt338.2.2 true t324 t325 t326 t327 t330 t331 bt338.1 bt338.2.1) else (if (!(t330 == t334) || (!(t331 == t335))) = true then (laws_FnBits.j0 k l1 t332 bt338.2.2 true t324 t325 t326 t327 t330 t331 bt338.1 bt338.2.1) else (if (bt338.2.2 != bt342.2.2) = true then (laws_FnBits.j0 k l1 t332 bt338.2.2 true t324 t325 t326 t327 t330 t331 bt338.1 bt338.2.1) else (laws_FnBits.j0 k l1 t332 bt338.2.2 (!(bt338.1 == bt342.1) || (!(bt338.2.1 == bt342.2.1))) t324 t325 t326 t327 t330 t331 bt338.1 bt338.2.1)))))) = some r := H
    have A6 := Aside0.mk A60
    clear A60
    replace H := Option.bind_eq_some_iff.mp H
    obtain ⟨⟨t338, t339, t340⟩, A70, H⟩ := H
    replace H : ((spec_JoinKnown.f t324 t325 t326 t327).bind fun bt342 => (if (t332 != t336) = true then (laws_FnBits.j0 k l1 t332 t340 true t324 t325 t326 t327 t330 t331 t338 t339) else (if (!(t330 == t334) || (!(t331 == t335))) = true then (laws_FnBits.j0 k l1 t332 t340 true t324 t325 t326 t327 t330 t331 t338 t339) else (if (t340 != bt342.2.2) = true then (laws_FnBits.j0 k l1 t332 t340 true t324 t325 t326 t327 t330 t331 t338 t339) else (laws_FnBits.j0 k l1 t332 t340 (!(t338 == bt342.1) || (!(t339 == bt342.2.1))) t324 t325 t326 t327 t330 t331 t338 t339))))) = some r := H
    have A7 := Aside0.mk A70
    clear A70
    replace H := Option.bind_eq_some_iff.mp H
    obtain ⟨⟨t342, t343, t344⟩, A80, H⟩ := H
    replace H : (if (t332 != t336) = true then (laws_FnBits.j0 k l1 t332 t340 true t324 t325 t326 t327 t330 t331 t338 t339) else (if (!(t330 == t334) || (!(t331 == t335))) = true then (laws_FnBits.j0 k l1 t332 t340 true t324 t325 t326 t327 t330 t331 t338 t339) else (if (t340 != t344) = true then (laws_FnBits.j0 k l1 t332 t340 true t324 t325 t326 t327 t330 t331 t338 t339) else (laws_FnBits.j0 k l1 t332 t340 (!(t338 == t342) || (!(t339 == t343))) t324 t325 t326 t327 t330 t331 t338 t339)))) = some r := H
    have A8 := Aside0.mk A80
    clear A80
    have HC9 := Aside0.mk H
    clear H
    go_enter Try.func8, Try.ntmps8
    go_upto_region 8 with (first | ((with_reducible refine gate_callee (f := 27) rfl ?_); refine goesL_ (some 49) rfl rfl Try.func27 (by kernel_rfl) rfl #[.slice A0 l0.length c0] rfl (by (try simp only [List.map_toArray, List.map_cons, List.map_nil]); first | done | rfl | (simp only [List.length_drop, List.length_take]; rfl)) ?_; (with_reducible refine (spec_DrawMeetKnown.calls k _ _ l0 t324 t325 t326 t327 _ ?side1 ?side2 A4.out).mono ?_); (case side1 => repeat (first | exact HR0.out | (with_reducible refine Kd.C_alloc ?_ _) | (with_reducible refine Kd.C_drewN ?_ _) | (with_reducible refine Kd.C_drew ?_))); (case side2 => exact HC0.out); rintro e w10 ⟨rfl, hb⟩; refine ⟨_, rfl, ?_⟩; have n0_ := Aside0.mk (below_step (bq_) hb); clear HB; have HB := n0_; clear n0_; (try clear hb); (try clear hb2); (try clear hk); (try clear hi)) | ((with_reducible refine gate_dst (N := 5) rfl ?_); refine boxq_ (N := 5) (cs := #[.int .i64 0, .int .i64 0]) (t := 26) ?_; intro gb328 hg w11 hbox hb; have n0_ := Aside0.mk (below_step (bq_) hb); have n1_ := Aside0.mk (hbox); have n2_ := Aside0.mk ((by rw [hg]; exact (below_size (bq_)) : w.heap.size ≤ gb328)); have n3_ := Aside0.mk ((by rw [hg]; exact (below_size (bq_)) : w.heap.size ≤ gb328)); clear HB; have HB := n0_; have BK328 := n1_; have GW328 := n2_; have GE328 := n3_; clear n0_ n1_ n2_ n3_; clear hb hbox hg) | ((with_reducible refine gate_dst (N := 6) rfl ?_); refine boxq_ (N := 6) (cs := #[.int .i64 0, .int .i64 0]) (t := 26) ?_; intro gb329 hg w12 hbox hb; have n0_ := Aside0.mk (blk_below (bk_ BK328.out) hb); have n1_ := Aside0.mk (below_step (bq_) hb); have n2_ := Aside0.mk (hbox); have n3_ := Aside0.mk ((by rw [hg]; exact (below_size (bq_)) : w.heap.size ≤ gb329)); have n4_ := Aside0.mk ((by rw [hg]; exact (below_size (bq_)) : w.heap.size ≤ gb329)); have n5_ := Aside0.mk ((by rw [hg]; exact Nat.ne_of_lt (blk_lt (bk_ BK328.out)) : gb328 ≠ gb329)); have n6_ := Aside0.mk ((by rw [hg]; exact Nat.ne_of_gt (blk_lt (bk_ BK328.out)) : gb329 ≠ gb328)); clear BK328; clear HB; have BK328 := n0_; have HB := n1_; have BK329 := n2_; have GW329 := n3_; have GE329 := n4_; have NB328_329 := n5_; have NB329_328 := n6_; clear n0_ n1_ n2_ n3_ n4_ n5_ n6_; clear hb hbox hg; have hnb13 := NB328_329.out; have hnc13 := NB329_328.out; have hcz14_0 := cq_ BK328.out 0 (.int .i64 0); have hcz14_1 := cq_ BK328.out 1 (.int .i64 0); have hfz14_0 := blk_frozen BK328.out 0; have hfz14_1 := blk_frozen BK328.out 1; have hcz15_0 := cq_ BK329.out 0 (.int .i64 0); have hcz15_1 := cq_ BK329.out 1 (.int .i64 0); have hfz15_0 := blk_frozen BK329.out 0; have hfz15_1 := blk_frozen BK329.out 1) | ((with_reducible refine gate_callee (f := 28) rfl ?_); refine goesL_ (some 55) rfl rfl Try.func28 (by kernel_rfl) rfl #[.agg #[.int .i64 t324, .int .i64 t325], .agg #[.int .i64 t326, .int .i64 t327]] rfl (by (try simp only [List.map_toArray, List.map_cons, List.map_nil]); first | done | rfl | (simp only [List.length_drop, List.length_take]; rfl)) ?_; (with_reducible refine (impl_MeetKnown.calls t324 t325 t326 t327 t330 t331 t332 _ A5.out).mono ?_); rintro e w16 ⟨rfl, hb⟩; refine ⟨_, rfl, ?_⟩; have n0_ := Aside0.mk (blk_below (g := gb328) (o := .cells #[.int .i64 t324, .int .i64 t325] 26 (0, 0)) (by (with_reducible repeat (first | refine blk_drewN ?_ _ | refine blk_drew ?_ | refine blk_alloc ?_ _)); refine blk_far ?_ NB328_329.out _; (with_reducible repeat (first | refine blk_drewN ?_ _ | refine blk_drew ?_ | refine blk_alloc ?_ _)); refine blk_far ?_ NB328_329.out _; (with_reducible repeat (first | refine blk_drewN ?_ _ | refine blk_drew ?_ | refine blk_alloc ?_ _)); refine blk_put (cs := #[.int .i64 t324, .int .i64 0]) ?_ 1 _ rfl; (with_reducible repeat (first | refine blk_drewN ?_ _ | refine blk_drew ?_ | refine blk_alloc ?_ _)); refine blk_put (cs := #[.int .i64 0, .int .i64 0]) ?_ 0 _ rfl; (with_reducible repeat (first | refine blk_drewN ?_ _ | refine blk_drew ?_ | refine blk_alloc ?_ _)); exact BK328.out) hb); have n1_ := Aside0.mk (blk_below (g := gb329) (o := .cells #[.int .i64 t326, .int .i64 t327] 26 (0, 0)) (by (with_reducible repeat (first | refine blk_drewN ?_ _ | refine blk_drew ?_ | refine blk_alloc ?_ _)); refine blk_put (cs := #[.int .i64 t326, .int .i64 0]) ?_ 1 _ rfl; (with_reducible repeat (first | refine blk_drewN ?_ _ | refine blk_drew ?_ | refine blk_alloc ?_ _)); refine blk_put (cs := #[.int .i64 0, .int .i64 0]) ?_ 0 _ rfl; (with_reducible repeat (first | refine blk_drewN ?_ _ | refine blk_drew ?_ | refine blk_alloc ?_ _)); refine blk_far ?_ NB329_328.out _; (with_reducible repeat (first | refine blk_drewN ?_ _ | refine blk_drew ?_ | refine blk_alloc ?_ _)); refine blk_far ?_ NB329_328.out _; (with_reducible repeat (first | refine blk_drewN ?_ _ | refine blk_drew ?_ | refine blk_alloc ?_ _)); exact BK329.out) hb); have n2_ := Aside0.mk (below_step (bq_) hb); clear BK328; clear BK329; clear HB; have BK328 := n0_; have BK329 := n1_; have HB := n2_; clear n0_ n1_ n2_; (try clear hb); (try clear hb2); (try clear hk); (try clear hi)) | ((with_reducible refine gate_dst (N := 7) rfl ?_); refine boxq_ (N := 7) (cs := #[.int .i64 0, .int .i64 0]) (t := 26) ?_; intro gb333 hg w17 hbox hb; have n0_ := Aside0.mk (blk_below (bk_ BK328.out) hb); have n1_ := Aside0.mk (blk_below (bk_ BK329.out) hb); have n2_ := Aside0.mk (below_step (bq_) hb); have n3_ := Aside0.mk (hbox); have n4_ := Aside0.mk ((by rw [hg]; exact (below_size (bq_)) : w.heap.size ≤ gb333)); have n5_ := Aside0.mk ((by rw [hg]; exact (below_size (bq_)) : w.heap.size ≤ gb333)); have n6_ := Aside0.mk ((by rw [hg]; exact Nat.ne_of_lt (blk_lt (bk_ BK328.out)) : gb328 ≠ gb333)); have n7_ := Aside0.mk ((by rw [hg]; exact Nat.ne_of_gt (blk_lt (bk_ BK328.out)) : gb333 ≠ gb328)); have n8_ := Aside0.mk ((by rw [hg]; exact Nat.ne_of_lt (blk_lt (bk_ BK329.out)) : gb329 ≠ gb333)); have n9_ := Aside0.mk ((by rw [hg]; exact Nat.ne_of_gt (blk_lt (bk_ BK329.out)) : gb333 ≠ gb329)); clear BK328; clear BK329; clear HB; have BK328 := n0_; have BK329 := n1_; have HB := n2_; have BK333 := n3_; have GW333 := n4_; have GE333 := n5_; have NB328_333 := n6_; have NB333_328 := n7_; have NB329_333 := n8_; have NB333_329 := n9_; clear n0_ n1_ n2_ n3_ n4_ n5_ n6_ n7_ n8_ n9_; clear hb hbox hg; have hnb18 := NB333_328.out; have hnc18 := NB328_333.out; have hnb19 := NB333_329.out; have hnc19 := NB329_333.out; have hcz20_0 := cq_ BK333.out 0 (.int .i64 0); have hcz20_1 := cq_ BK333.out 1 (.int .i64 0); have hfz20_0 := blk_frozen BK333.out 0; have hfz20_1 := blk_frozen BK333.out 1; have hcz21_0 := cq_ BK328.out 0 (.int .i64 t324); have hcz21_1 := cq_ BK328.out 1 (.int .i64 t325); have hfz21_0 := blk_frozen BK328.out 0; have hfz21_1 := blk_frozen BK328.out 1; have hcz22_0 := cq_ BK329.out 0 (.int .i64 t326); have hcz22_1 := cq_ BK329.out 1 (.int .i64 t327); have hfz22_0 := blk_frozen BK329.out 0; have hfz22_1 := blk_frozen BK329.out 1) | ((with_reducible refine gate_callee (f := 29) rfl ?_); refine goesL_ (some 61) rfl rfl Try.func29 (by kernel_rfl) rfl #[.agg #[.int .i64 t324, .int .i64 t325], .agg #[.int .i64 t326, .int .i64 t327]] rfl (by (try simp only [List.map_toArray, List.map_cons, List.map_nil]); first | done | rfl | (simp only [List.length_drop, List.length_take]; rfl)) ?_; (with_reducible refine (spec_MeetKnown.calls t324 t325 t326 t327 t334 t335 t336 _ A6.out).mono ?_); rintro e w23 ⟨rfl, hb⟩; refine ⟨_, rfl, ?_⟩; have n0_ := Aside0.mk (blk_below (g := gb328) (o := .cells #[.int .i64 t324, .int .i64 t325] 26 (0, 0)) (by (with_reducible repeat (first | refine blk_drewN ?_ _ | refine blk_drew ?_ | refine blk_alloc ?_ _)); refine blk_far ?_ NB328_333.out _; (with_reducible repeat (first | refine blk_drewN ?_ _ | refine blk_drew ?_ | refine blk_alloc ?_ _)); refine blk_far ?_ NB328_333.out _; (with_reducible repeat (first | refine blk_drewN ?_ _ | refine blk_drew ?_ | refine blk_alloc ?_ _)); exact BK328.out) hb); have n1_ := Aside0.mk (blk_below (g := gb329) (o := .cells #[.int .i64 t326, .int .i64 t327] 26 (0, 0)) (by (with_reducible repeat (first | refine blk_drewN ?_ _ | refine blk_drew ?_ | refine blk_alloc ?_ _)); refine blk_far ?_ NB329_333.out _; (with_reducible repeat (first | refine blk_drewN ?_ _ | refine blk_drew ?_ | refine blk_alloc ?_ _)); refine blk_far ?_ NB329_333.out _; (with_reducible repeat (first | refine blk_drewN ?_ _ | refine blk_drew ?_ | refine blk_alloc ?_ _)); exact BK329.out) hb); have n2_ := Aside0.mk (blk_below (g := gb333) (o := .cells #[.int .i64 t330, .int .i64 t331] 26 (0, 0)) (by (with_reducible repeat (first | refine blk_drewN ?_ _ | refine blk_drew ?_ | refine blk_alloc ?_ _)); refine blk_put (cs := #[.int .i64 t330, .int .i64 0]) ?_ 1 _ rfl; (with_reducible repeat (first | refine blk_drewN ?_ _ | refine blk_drew ?_ | refine blk_alloc ?_ _)); refine blk_put (cs := #[.int .i64 0, .int .i64 0]) ?_ 0 _ rfl; (with_reducible repeat (first | refine blk_drewN ?_ _ | refine blk_drew ?_ | refine blk_alloc ?_ _)); exact BK333.out) hb); have n3_ := Aside0.mk (below_step (bq_) hb); clear BK328; clear BK329; clear BK333; clear HB; have BK328 := n0_; have BK329 := n1_; have BK333 := n2_; have HB := n3_; clear n0_ n1_ n2_ n3_; (try clear hb); (try clear hb2); (try clear hk); (try clear hi)) | ((with_reducible refine gate_dst (N := 9) rfl ?_); refine boxq_ (N := 9) (cs := #[.int .i64 0, .int .i64 0]) (t := 26) ?_; intro gb337 hg w24 hbox hb; have n0_ := Aside0.mk (blk_below (bk_ BK328.out) hb); have n1_ := Aside0.mk (blk_below (bk_ BK329.out) hb); have n2_ := Aside0.mk (blk_below (bk_ BK333.out) hb); have n3_ := Aside0.mk (below_step (bq_) hb); have n4_ := Aside0.mk (hbox); have n5_ := Aside0.mk ((by rw [hg]; exact (below_size (bq_)) : w.heap.size ≤ gb337)); have n6_ := Aside0.mk ((by rw [hg]; exact (below_size (bq_)) : w.heap.size ≤ gb337)); have n7_ := Aside0.mk ((by rw [hg]; exact Nat.ne_of_lt (blk_lt (bk_ BK328.out)) : gb328 ≠ gb337)); have n8_ := Aside0.mk ((by rw [hg]; exact Nat.ne_of_gt (blk_lt (bk_ BK328.out)) : gb337 ≠ gb328)); have n9_ := Aside0.mk ((by rw [hg]; exact Nat.ne_of_lt (blk_lt (bk_ BK329.out)) : gb329 ≠ gb337)); have n10_ := Aside0.mk ((by rw [hg]; exact Nat.ne_of_gt (blk_lt (bk_ BK329.out)) : gb337 ≠ gb329)); have n11_ := Aside0.mk ((by rw [hg]; exact Nat.ne_of_lt (blk_lt (bk_ BK333.out)) : gb333 ≠ gb337)); have n12_ := Aside0.mk ((by rw [hg]; exact Nat.ne_of_gt (blk_lt (bk_ BK333.out)) : gb337 ≠ gb333)); clear BK328; clear BK329; clear BK333; clear HB; have BK328 := n0_; have BK329 := n1_; have BK333 := n2_; have HB := n3_; have BK337 := n4_; have GW337 := n5_; have GE337 := n6_; have NB328_337 := n7_; have NB337_328 := n8_; have NB329_337 := n9_; have NB337_329 := n10_; have NB333_337 := n11_; have NB337_333 := n12_; clear n0_ n1_ n2_ n3_ n4_ n5_ n6_ n7_ n8_ n9_ n10_ n11_ n12_; clear hb hbox hg; have hnb25 := NB337_328.out; have hnc25 := NB328_337.out; have hnb26 := NB337_329.out; have hnc26 := NB329_337.out; have hnb27 := NB337_333.out; have hnc27 := NB333_337.out; have hcz28_0 := cq_ BK337.out 0 (.int .i64 0); have hcz28_1 := cq_ BK337.out 1 (.int .i64 0); have hfz28_0 := blk_frozen BK337.out 0; have hfz28_1 := blk_frozen BK337.out 1; have hcz29_0 := cq_ BK328.out 0 (.int .i64 t324); have hcz29_1 := cq_ BK328.out 1 (.int .i64 t325); have hfz29_0 := blk_frozen BK328.out 0; have hfz29_1 := blk_frozen BK328.out 1; have hcz30_0 := cq_ BK329.out 0 (.int .i64 t326); have hcz30_1 := cq_ BK329.out 1 (.int .i64 t327); have hfz30_0 := blk_frozen BK329.out 0; have hfz30_1 := blk_frozen BK329.out 1) | ((with_reducible refine gate_callee (f := 30) rfl ?_); refine goesL_ (some 67) rfl rfl Try.func30 (by kernel_rfl) rfl #[.agg #[.int .i64 t324, .int .i64 t325], .agg #[.int .i64 t326, .int .i64 t327]] rfl (by (try simp only [List.map_toArray, List.map_cons, List.map_nil]); first | done | rfl | (simp only [List.length_drop, List.length_take]; rfl)) ?_; (with_reducible refine (impl_JoinKnown.calls t324 t325 t326 t327 t338 t339 t340 _ A7.out).mono ?_); rintro e w31 ⟨rfl, hb⟩; refine ⟨_, rfl, ?_⟩; have n0_ := Aside0.mk (blk_below (g := gb328) (o := .cells #[.int .i64 t324, .int .i64 t325] 26 (0, 0)) (by (with_reducible repeat (first | refine blk_drewN ?_ _ | refine blk_drew ?_ | refine blk_alloc ?_ _)); refine blk_far ?_ NB328_337.out _; (with_reducible repeat (first | refine blk_drewN ?_ _ | refine blk_drew ?_ | refine blk_alloc ?_ _)); refine blk_far ?_ NB328_337.out _; (with_reducible repeat (first | refine blk_drewN ?_ _ | refine blk_drew ?_ | refine blk_alloc ?_ _)); exact BK328.out) hb); have n1_ := Aside0.mk (blk_below (g := gb329) (o := .cells #[.int .i64 t326, .int .i64 t327] 26 (0, 0)) (by (with_reducible repeat (first | refine blk_drewN ?_ _ | refine blk_drew ?_ | refine blk_alloc ?_ _)); refine blk_far ?_ NB329_337.out _; (with_reducible repeat (first | refine blk_drewN ?_ _ | refine blk_drew ?_ | refine blk_alloc ?_ _)); refine blk_far ?_ NB329_337.out _; (with_reducible repeat (first | refine blk_drewN ?_ _ | refine blk_drew ?_ | refine blk_alloc ?_ _)); exact BK329.out) hb); have n2_ := Aside0.mk (blk_below (g := gb333) (o := .cells #[.int .i64 t330, .int .i64 t331] 26 (0, 0)) (by (with_reducible repeat (first | refine blk_drewN ?_ _ | refine blk_drew ?_ | refine blk_alloc ?_ _)); refine blk_far ?_ NB333_337.out _; (with_reducible repeat (first | refine blk_drewN ?_ _ | refine blk_drew ?_ | refine blk_alloc ?_ _)); refine blk_far ?_ NB333_337.out _; (with_reducible repeat (first | refine blk_drewN ?_ _ | refine blk_drew ?_ | refine blk_alloc ?_ _)); exact BK333.out) hb); have n3_ := Aside0.mk (blk_below (g := gb337) (o := .cells #[.int .i64 t334, .int .i64 t335] 26 (0, 0)) (by (with_reducible repeat (first | refine blk_drewN ?_ _ | refine blk_drew ?_ | refine blk_alloc ?_ _)); refine blk_put (cs := #[.int .i64 t334, .int .i64 0]) ?_ 1 _ rfl; (with_reducible repeat (first | refine blk_drewN ?_ _ | refine blk_drew ?_ | refine blk_alloc ?_ _)); refine blk_put (cs := #[.int .i64 0, .int .i64 0]) ?_ 0 _ rfl; (with_reducible repeat (first | refine blk_drewN ?_ _ | refine blk_drew ?_ | refine blk_alloc ?_ _)); exact BK337.out) hb); have n4_ := Aside0.mk (below_step (bq_) hb); clear BK328; clear BK329; clear BK333; clear BK337; clear HB; have BK328 := n0_; have BK329 := n1_; have BK333 := n2_; have BK337 := n3_; have HB := n4_; clear n0_ n1_ n2_ n3_ n4_; (try clear hb); (try clear hb2); (try clear hk); (try clear hi)) | ((with_reducible refine gate_dst (N := 11) rfl ?_); refine boxq_ (N := 11) (cs := #[.int .i64 0, .int .i64 0]) (t := 26) ?_; intro gb341 hg w32 hbox hb; have n0_ := Aside0.mk (blk_below (bk_ BK328.out) hb); have n1_ := Aside0.mk (blk_below (bk_ BK329.out) hb); have n2_ := Aside0.mk (blk_below (bk_ BK333.out) hb); have n3_ := Aside0.mk (blk_below (bk_ BK337.out) hb); have n4_ := Aside0.mk (below_step (bq_) hb); have n5_ := Aside0.mk (hbox); have n6_ := Aside0.mk ((by rw [hg]; exact (below_size (bq_)) : w.heap.size ≤ gb341)); have n7_ := Aside0.mk ((by rw [hg]; exact (below_size (bq_)) : w.heap.size ≤ gb341)); have n8_ := Aside0.mk ((by rw [hg]; exact Nat.ne_of_lt (blk_lt (bk_ BK328.out)) : gb328 ≠ gb341)); have n9_ := Aside0.mk ((by rw [hg]; exact Nat.ne_of_gt (blk_lt (bk_ BK328.out)) : gb341 ≠ gb328)); have n10_ := Aside0.mk ((by rw [hg]; exact Nat.ne_of_lt (blk_lt (bk_ BK329.out)) : gb329 ≠ gb341)); have n11_ := Aside0.mk ((by rw [hg]; exact Nat.ne_of_gt (blk_lt (bk_ BK329.out)) : gb341 ≠ gb329)); have n12_ := Aside0.mk ((by rw [hg]; exact Nat.ne_of_lt (blk_lt (bk_ BK333.out)) : gb333 ≠ gb341)); have n13_ := Aside0.mk ((by rw [hg]; exact Nat.ne_of_gt (blk_lt (bk_ BK333.out)) : gb341 ≠ gb333)); have n14_ := Aside0.mk ((by rw [hg]; exact Nat.ne_of_lt (blk_lt (bk_ BK337.out)) : gb337 ≠ gb341)); have n15_ := Aside0.mk ((by rw [hg]; exact Nat.ne_of_gt (blk_lt (bk_ BK337.out)) : gb341 ≠ gb337)); clear BK328; clear BK329; clear BK333; clear BK337; clear HB; have BK328 := n0_; have BK329 := n1_; have BK333 := n2_; have BK337 := n3_; have HB := n4_; have BK341 := n5_; have GW341 := n6_; have GE341 := n7_; have NB328_341 := n8_; have NB341_328 := n9_; have NB329_341 := n10_; have NB341_329 := n11_; have NB333_341 := n12_; have NB341_333 := n13_; have NB337_341 := n14_; have NB341_337 := n15_; clear n0_ n1_ n2_ n3_ n4_ n5_ n6_ n7_ n8_ n9_ n10_ n11_ n12_ n13_ n14_ n15_; clear hb hbox hg; have hnb33 := NB341_328.out; have hnc33 := NB328_341.out; have hnb34 := NB341_329.out; have hnc34 := NB329_341.out; have hnb35 := NB341_333.out; have hnc35 := NB333_341.out; have hnb36 := NB341_337.out; have hnc36 := NB337_341.out; have hcz37_0 := cq_ BK341.out 0 (.int .i64 0); have hcz37_1 := cq_ BK341.out 1 (.int .i64 0); have hfz37_0 := blk_frozen BK341.out 0; have hfz37_1 := blk_frozen BK341.out 1; have hcz38_0 := cq_ BK328.out 0 (.int .i64 t324); have hcz38_1 := cq_ BK328.out 1 (.int .i64 t325); have hfz38_0 := blk_frozen BK328.out 0; have hfz38_1 := blk_frozen BK328.out 1; have hcz39_0 := cq_ BK329.out 0 (.int .i64 t326); have hcz39_1 := cq_ BK329.out 1 (.int .i64 t327); have hfz39_0 := blk_frozen BK329.out 0; have hfz39_1 := blk_frozen BK329.out 1) | ((with_reducible refine gate_callee (f := 31) rfl ?_); refine goesL_ (some 73) rfl rfl Try.func31 (by kernel_rfl) rfl #[.agg #[.int .i64 t324, .int .i64 t325], .agg #[.int .i64 t326, .int .i64 t327]] rfl (by (try simp only [List.map_toArray, List.map_cons, List.map_nil]); first | done | rfl | (simp only [List.length_drop, List.length_take]; rfl)) ?_; (with_reducible refine (spec_JoinKnown.calls t324 t325 t326 t327 t342 t343 t344 _ A8.out).mono ?_); rintro e w40 ⟨rfl, hb⟩; refine ⟨_, rfl, ?_⟩; have n0_ := Aside0.mk (blk_below (g := gb328) (o := .cells #[.int .i64 t324, .int .i64 t325] 26 (0, 0)) (by (with_reducible repeat (first | refine blk_drewN ?_ _ | refine blk_drew ?_ | refine blk_alloc ?_ _)); refine blk_far ?_ NB328_341.out _; (with_reducible repeat (first | refine blk_drewN ?_ _ | refine blk_drew ?_ | refine blk_alloc ?_ _)); refine blk_far ?_ NB328_341.out _; (with_reducible repeat (first | refine blk_drewN ?_ _ | refine blk_drew ?_ | refine blk_alloc ?_ _)); exact BK328.out) hb); have n1_ := Aside0.mk (blk_below (g := gb329) (o := .cells #[.int .i64 t326, .int .i64 t327] 26 (0, 0)) (by (with_reducible repeat (first | refine blk_drewN ?_ _ | refine blk_drew ?_ | refine blk_alloc ?_ _)); refine blk_far ?_ NB329_341.out _; (with_reducible repeat (first | refine blk_drewN ?_ _ | refine blk_drew ?_ | refine blk_alloc ?_ _)); refine blk_far ?_ NB329_341.out _; (with_reducible repeat (first | refine blk_drewN ?_ _ | refine blk_drew ?_ | refine blk_alloc ?_ _)); exact BK329.out) hb); have n2_ := Aside0.mk (blk_below (g := gb333) (o := .cells #[.int .i64 t330, .int .i64 t331] 26 (0, 0)) (by (with_reducible repeat (first | refine blk_drewN ?_ _ | refine blk_drew ?_ | refine blk_alloc ?_ _)); refine blk_far ?_ NB333_341.out _; (with_reducible repeat (first | refine blk_drewN ?_ _ | refine blk_drew ?_ | refine blk_alloc ?_ _)); refine blk_far ?_ NB333_341.out _; (with_reducible repeat (first | refine blk_drewN ?_ _ | refine blk_drew ?_ | refine blk_alloc ?_ _)); exact BK333.out) hb); have n3_ := Aside0.mk (blk_below (g := gb337) (o := .cells #[.int .i64 t334, .int .i64 t335] 26 (0, 0)) (by (with_reducible repeat (first | refine blk_drewN ?_ _ | refine blk_drew ?_ | refine blk_alloc ?_ _)); refine blk_far ?_ NB337_341.out _; (with_reducible repeat (first | refine blk_drewN ?_ _ | refine blk_drew ?_ | refine blk_alloc ?_ _)); refine blk_far ?_ NB337_341.out _; (with_reducible repeat (first | refine blk_drewN ?_ _ | refine blk_drew ?_ | refine blk_alloc ?_ _)); exact BK337.out) hb); have n4_ := Aside0.mk (blk_below (g := gb341) (o := .cells #[.int .i64 t338, .int .i64 t339] 26 (0, 0)) (by (with_reducible repeat (first | refine blk_drewN ?_ _ | refine blk_drew ?_ | refine blk_alloc ?_ _)); refine blk_put (cs := #[.int .i64 t338, .int .i64 0]) ?_ 1 _ rfl; (with_reducible repeat (first | refine blk_drewN ?_ _ | refine blk_drew ?_ | refine blk_alloc ?_ _)); refine blk_put (cs := #[.int .i64 0, .int .i64 0]) ?_ 0 _ rfl; (with_reducible repeat (first | refine blk_drewN ?_ _ | refine blk_drew ?_ | refine blk_alloc ?_ _)); exact BK341.out) hb); have n5_ := Aside0.mk (below_step (bq_) hb); clear BK328; clear BK329; clear BK333; clear BK337; clear BK341; clear HB; have BK328 := n0_; have BK329 := n1_; have BK333 := n2_; have BK337 := n3_; have BK341 := n4_; have HB := n5_; clear n0_ n1_ n2_ n3_ n4_ n5_; (try clear hb); (try clear hb2); (try clear hk); (try clear hi)) | ((with_reducible refine gate_dst (N := 13) rfl ?_); refine boxq_ (N := 13) (cs := #[.int .i64 0, .int .i64 0]) (t := 26) ?_; intro gb345 hg w41 hbox hb; have n0_ := Aside0.mk (blk_below (bk_ BK328.out) hb); have n1_ := Aside0.mk (blk_below (bk_ BK329.out) hb); have n2_ := Aside0.mk (blk_below (bk_ BK333.out) hb); have n3_ := Aside0.mk (blk_below (bk_ BK337.out) hb); have n4_ := Aside0.mk (blk_below (bk_ BK341.out) hb); have n5_ := Aside0.mk (below_step (bq_) hb); have n6_ := Aside0.mk (hbox); have n7_ := Aside0.mk ((by rw [hg]; exact (below_size (bq_)) : w.heap.size ≤ gb345)); have n8_ := Aside0.mk ((by rw [hg]; exact (below_size (bq_)) : w.heap.size ≤ gb345)); have n9_ := Aside0.mk ((by rw [hg]; exact Nat.ne_of_lt (blk_lt (bk_ BK328.out)) : gb328 ≠ gb345)); have n10_ := Aside0.mk ((by rw [hg]; exact Nat.ne_of_gt (blk_lt (bk_ BK328.out)) : gb345 ≠ gb328)); have n11_ := Aside0.mk ((by rw [hg]; exact Nat.ne_of_lt (blk_lt (bk_ BK329.out)) : gb329 ≠ gb345)); have n12_ := Aside0.mk ((by rw [hg]; exact Nat.ne_of_gt (blk_lt (bk_ BK329.out)) : gb345 ≠ gb329)); have n13_ := Aside0.mk ((by rw [hg]; exact Nat.ne_of_lt (blk_lt (bk_ BK333.out)) : gb333 ≠ gb345)); have n14_ := Aside0.mk ((by rw [hg]; exact Nat.ne_of_gt (blk_lt (bk_ BK333.out)) : gb345 ≠ gb333)); have n15_ := Aside0.mk ((by rw [hg]; exact Nat.ne_of_lt (blk_lt (bk_ BK337.out)) : gb337 ≠ gb345)); have n16_ := Aside0.mk ((by rw [hg]; exact Nat.ne_of_gt (blk_lt (bk_ BK337.out)) : gb345 ≠ gb337)); have n17_ := Aside0.mk ((by rw [hg]; exact Nat.ne_of_lt (blk_lt (bk_ BK341.out)) : gb341 ≠ gb345)); have n18_ := Aside0.mk ((by rw [hg]; exact Nat.ne_of_gt (blk_lt (bk_ BK341.out)) : gb345 ≠ gb341)); clear BK328; clear BK329; clear BK333; clear BK337; clear BK341; clear HB; have BK328 := n0_; have BK329 := n1_; have BK333 := n2_; have BK337 := n3_; have BK341 := n4_; have HB := n5_; have BK345 := n6_; have GW345 := n7_; have GE345 := n8_; have NB328_345 := n9_; have NB345_328 := n10_; have NB329_345 := n11_; have NB345_329 := n12_; have NB333_345 := n13_; have NB345_333 := n14_; have NB337_345 := n15_; have NB345_337 := n16_; have NB341_345 := n17_; have NB345_341 := n18_; clear n0_ n1_ n2_ n3_ n4_ n5_ n6_ n7_ n8_ n9_ n10_ n11_ n12_ n13_ n14_ n15_ n16_ n17_ n18_; clear hb hbox hg; have hnb42 := NB345_328.out; have hnc42 := NB328_345.out; have hnb43 := NB345_329.out; have hnc43 := NB329_345.out; have hnb44 := NB345_333.out; have hnc44 := NB333_345.out; have hnb45 := NB345_337.out; have hnc45 := NB337_345.out; have hnb46 := NB345_341.out; have hnc46 := NB341_345.out; have hcz47_0 := cq_ BK345.out 0 (.int .i64 0); have hcz47_1 := cq_ BK345.out 1 (.int .i64 0); have hfz47_0 := blk_frozen BK345.out 0; have hfz47_1 := blk_frozen BK345.out 1))
    (try simp only [Act.put, List.setIfInBounds_toArray, List.set_cons_zero, List.set_cons_succ])
    go_cut [93] (fun v93 wc => ∃ (kq : Nat) (x93_8 : Bool), v93 = .bool x93_8 ∧ Aside0 (laws_FnBits.j0 kq l1 t332 t340 x93_8 t324 t325 t326 t327 t330 t331 t338 t339 = some r) ∧ Aside0 (kq ≤ k) ∧ Aside0 (wc.heap[gb328]? = some (.cells #[.int .i64 t324, .int .i64 t325] 26 (0, 0))) ∧ Aside0 (wc.heap[gb329]? = some (.cells #[.int .i64 t326, .int .i64 t327] 26 (0, 0))) ∧ Aside0 (wc.heap[gb333]? = some (.cells #[.int .i64 t330, .int .i64 t331] 26 (0, 0))) ∧ Aside0 (wc.heap[gb337]? = some (.cells #[.int .i64 t334, .int .i64 t335] 26 (0, 0))) ∧ Aside0 (wc.heap[gb341]? = some (.cells #[.int .i64 t338, .int .i64 t339] 26 (0, 0))) ∧ Aside0 (wc.heap[gb345]? = some (.cells #[.int .i64 t342, .int .i64 t343] 26 (0, 0))) ∧ Aside0 (Below w.heap.size w wc))
    case first =>
      have H := HC9.out
      clear HC9
      by_cases c48 : (t332 != t336) = true
      · rw [if_pos c48] at H
        have c48b0 : (t332 != t336) = true := c48
        (try (have c48b1 : decide (t332 = t336) = false := by simpa using c48))
        (try (have c48b2 : (t332 == t336) = false := by simpa using c48))
        (try (have c48b3 : ¬ (t332 = t336) := by simpa using c48))
        clear c48
        (first | rw [c48b0] | (simp only [i64_w, i32_w]; rw [c48b0]) | skip)
        exact (laws_FnBits.j0_no_3 (by rw [hr_.out] at H; exact H)).elim
      · rw [if_neg c48] at H
        have c48b0 : (t332 != t336) = false := by simpa using c48
        (try (have c48b1 : decide (t332 = t336) = true := by simpa using c48))
        (try (have c48b2 : (t332 == t336) = true := by simpa using c48))
        clear c48
        (first | rw [c48b0] | (simp only [i64_w, i32_w]; rw [c48b0]) | skip)
        by_cases c49 : (!(t330 == t334) || (!(t331 == t335))) = true
        · rw [if_pos c49] at H
          have c49b0 : (!(t330 == t334) || (!(t331 == t335))) = true := c49
          clear c49
          exact (laws_FnBits.j0_no_3 (by rw [hr_.out] at H; exact H)).elim
        · rw [if_neg c49] at H
          have c49b0 : (!(t330 == t334) || (!(t331 == t335))) = false := by simpa using c49
          clear c49
          by_cases c50 : (t340 != t344) = true
          · rw [if_pos c50] at H
            have c50b0 : (t340 != t344) = true := c50
            (try (have c50b1 : decide (t340 = t344) = false := by simpa using c50))
            (try (have c50b2 : (t340 == t344) = false := by simpa using c50))
            (try (have c50b3 : ¬ (t340 = t344) := by simpa using c50))
            clear c50
            exact (laws_FnBits.j0_no_3 (by rw [hr_.out] at H; exact H)).elim
          · rw [if_neg c50] at H
            have c50b0 : (t340 != t344) = false := by simpa using c50
            (try (have c50b1 : decide (t340 = t344) = true := by simpa using c50))
            (try (have c50b2 : (t340 == t344) = true := by simpa using c50))
            clear c50
            as_aux_lemma =>
              have H' := Aside0.mk H
              clear H
              have hnb51 := NB333_328.out
              have hnc51 := NB328_333.out
              have hnb52 := NB333_329.out
              have hnc52 := NB329_333.out
              have hnb53 := NB333_337.out
              have hnc53 := NB337_333.out
              have hnb54 := NB333_341.out
              have hnc54 := NB341_333.out
              have hnb55 := NB333_345.out
              have hnc55 := NB345_333.out
              have hcz56_0 := cq_ BK333.out 0 (.int .i64 t330)
              have hcz56_1 := cq_ BK333.out 1 (.int .i64 t331)
              have hfz56_0 := blk_frozen BK333.out 0
              have hfz56_1 := blk_frozen BK333.out 1
              have hnb57 := NB337_328.out
              have hnc57 := NB328_337.out
              have hnb58 := NB337_329.out
              have hnc58 := NB329_337.out
              have hnb59 := NB337_341.out
              have hnc59 := NB341_337.out
              have hnb60 := NB337_345.out
              have hnc60 := NB345_337.out
              have hcz61_0 := cq_ BK337.out 0 (.int .i64 t334)
              have hcz61_1 := cq_ BK337.out 1 (.int .i64 t335)
              have hfz61_0 := blk_frozen BK337.out 0
              have hfz61_1 := blk_frozen BK337.out 1
              have hnb62 := NB341_328.out
              have hnc62 := NB328_341.out
              have hnb63 := NB341_329.out
              have hnc63 := NB329_341.out
              have hnb64 := NB341_345.out
              have hnc64 := NB345_341.out
              have hcz65_0 := cq_ BK341.out 0 (.int .i64 t338)
              have hcz65_1 := cq_ BK341.out 1 (.int .i64 t339)
              have hfz65_0 := blk_frozen BK341.out 0
              have hfz65_1 := blk_frozen BK341.out 1
              have hnb66 := NB345_328.out
              have hnc66 := NB328_345.out
              have hnb67 := NB345_329.out
              have hnc67 := NB329_345.out
              have hcz68_0 := cq_ BK345.out 0 (.int .i64 0)
              have hcz68_1 := cq_ BK345.out 1 (.int .i64 0)
              have hfz68_0 := blk_frozen BK345.out 0
              have hfz68_1 := blk_frozen BK345.out 1
              go_wp2
              go_meet
              case rel => exact ⟨_, ((!(t338 == t342) || (!(t339 == t343)))), (by first | rfl | (simp; done) | (simp [*]; done)), H', ⟨by first | omega | exact Nat.le_refl _⟩, ⟨by (with_reducible repeat (first | refine blk_drewN ?_ _ | refine blk_drew ?_ | refine blk_alloc ?_ _)); refine blk_far ?_ NB328_345.out _; (with_reducible repeat (first | refine blk_drewN ?_ _ | refine blk_drew ?_ | refine blk_alloc ?_ _)); refine blk_far ?_ NB328_345.out _; (with_reducible repeat (first | refine blk_drewN ?_ _ | refine blk_drew ?_ | refine blk_alloc ?_ _)); exact BK328.out⟩, ⟨by (with_reducible repeat (first | refine blk_drewN ?_ _ | refine blk_drew ?_ | refine blk_alloc ?_ _)); refine blk_far ?_ NB329_345.out _; (with_reducible repeat (first | refine blk_drewN ?_ _ | refine blk_drew ?_ | refine blk_alloc ?_ _)); refine blk_far ?_ NB329_345.out _; (with_reducible repeat (first | refine blk_drewN ?_ _ | refine blk_drew ?_ | refine blk_alloc ?_ _)); exact BK329.out⟩, ⟨by (with_reducible repeat (first | refine blk_drewN ?_ _ | refine blk_drew ?_ | refine blk_alloc ?_ _)); refine blk_far ?_ NB333_345.out _; (with_reducible repeat (first | refine blk_drewN ?_ _ | refine blk_drew ?_ | refine blk_alloc ?_ _)); refine blk_far ?_ NB333_345.out _; (with_reducible repeat (first | refine blk_drewN ?_ _ | refine blk_drew ?_ | refine blk_alloc ?_ _)); exact BK333.out⟩, ⟨by (with_reducible repeat (first | refine blk_drewN ?_ _ | refine blk_drew ?_ | refine blk_alloc ?_ _)); refine blk_far ?_ NB337_345.out _; (with_reducible repeat (first | refine blk_drewN ?_ _ | refine blk_drew ?_ | refine blk_alloc ?_ _)); refine blk_far ?_ NB337_345.out _; (with_reducible repeat (first | refine blk_drewN ?_ _ | refine blk_drew ?_ | refine blk_alloc ?_ _)); exact BK337.out⟩, ⟨by (with_reducible repeat (first | refine blk_drewN ?_ _ | refine blk_drew ?_ | refine blk_alloc ?_ _)); refine blk_far ?_ NB341_345.out _; (with_reducible repeat (first | refine blk_drewN ?_ _ | refine blk_drew ?_ | refine blk_alloc ?_ _)); refine blk_far ?_ NB341_345.out _; (with_reducible repeat (first | refine blk_drewN ?_ _ | refine blk_drew ?_ | refine blk_alloc ?_ _)); exact BK341.out⟩, ⟨by (with_reducible repeat (first | refine blk_drewN ?_ _ | refine blk_drew ?_ | refine blk_alloc ?_ _)); refine blk_put (cs := #[.int .i64 t342, .int .i64 0]) ?_ 1 _ rfl; (with_reducible repeat (first | refine blk_drewN ?_ _ | refine blk_drew ?_ | refine blk_alloc ?_ _)); refine blk_put (cs := #[.int .i64 0, .int .i64 0]) ?_ 0 _ rfl; (with_reducible repeat (first | refine blk_drewN ?_ _ | refine blk_drew ?_ | refine blk_alloc ?_ _)); exact BK345.out⟩, ⟨bq_⟩⟩
    case rest =>
      clear HC9
      try clear c1
      try clear c2
      try clear p2
      try clear c3
      try clear c3b0
      try clear c4
      try clear c5
      try clear c6
      try clear p6
      try clear c8
      try clear c13
      try clear c18
      try clear c19
      try clear c25
      try clear c26
      try clear c27
      try clear c28
      try clear c29
      try clear c30
      try clear c31
      try clear c33
      try clear c34
      try clear c35
      try clear c36
      try clear c42
      try clear c43
      try clear c44
      try clear c45
      try clear c46
      try clear c48
      try clear c48b0
      try clear c48b1
      try clear c48b2
      try clear c49
      try clear c49b0
      try clear c50
      try clear c50b0
      try clear c50b1
      try clear c50b2
      try clear c51
      try clear c52
      try clear c53
      try clear c54
      try clear c55
      try clear c57
      try clear c58
      try clear c59
      try clear c60
      try clear c62
      try clear c63
      try clear c64
      try clear p64
      try clear c66
      try clear c67
      try clear hcz14_0
      try clear hcz14_1
      try clear hcz15_0
      try clear hcz15_1
      try clear hcz20_0
      try clear hcz20_1
      try clear hcz21_0
      try clear hcz21_1
      try clear hcz22_0
      try clear hcz22_1
      try clear hcz28_0
      try clear hcz28_1
      try clear hcz29_0
      try clear hcz29_1
      try clear hcz30_0
      try clear hcz30_1
      try clear hcz37_0
      try clear hcz37_1
      try clear hcz38_0
      try clear hcz38_1
      try clear hcz39_0
      try clear hcz39_1
      try clear hcz47_0
      try clear hcz47_1
      try clear hcz56_0
      try clear hcz56_1
      try clear hcz61_0
      try clear hcz61_1
      try clear hcz65_0
      try clear hcz65_1
      try clear hcz68_0
      try clear hcz68_1
      try clear hfz14_0
      try clear hfz14_1
      try clear hfz15_0
      try clear hfz15_1
      try clear hfz20_0
      try clear hfz20_1
      try clear hfz21_0
      try clear hfz21_1
      try clear hfz22_0
      try clear hfz22_1
      try clear hfz28_0
      try clear hfz28_1
      try clear hfz29_0
      try clear hfz29_1
      try clear hfz30_0
      try clear hfz30_1
      try clear hfz37_0
      try clear hfz37_1
      try clear hfz38_0
      try clear hfz38_1
      try clear hfz39_0
      try clear hfz39_1
      try clear hfz47_0
      try clear hfz47_1
      try clear hfz56_0
      try clear hfz56_1
      try clear hfz61_0
      try clear hfz61_1
      try clear hfz65_0
      try clear hfz65_1
      try clear hfz68_0
      try clear hfz68_1
      obtain ⟨kq, x93_8, rfl, HA, HJ8, BK328, BK329, BK333, BK337, BK341, BK345, HB⟩ := hcut
      cases kq with
      | zero => exact absurd HA.out (by simp [laws_FnBits.j0])
      | succ kj8 =>
        have H := HA.out
        clear HA
        simp only [laws_FnBits.j0] at H
        by_cases c69 : x93_8 = true
        · subst c69
          have H1 : (some false) = some r := by rw [if_pos rfl] at H; exact H
          clear H
          have H := H1
          clear H1
          exact absurd (Option.some.inj H).symm (by rw [hr_.out]; simp)
        · replace c69 := Bool.eq_false_iff.mpr c69
          subst c69
          have H1 : (if t340 = true then ((impl_WaysOf.f t324 t325).bind fun bt346 => (if bt346.2 = true then ((impl_GoodKnown.f t338 t339).bind fun t348 => (if t348 = true then (if t332 = true then ((impl_GoodKnown.f t330 t331).bind fun t349 => (laws_FnBits.j1 kj8 l1 t332 bt346.1 (!t349) t324 t325 t326 t327 t330 t331 t338 t339)) else (laws_FnBits.j1 kj8 l1 t332 bt346.1 false t324 t325 t326 t327 t330 t331 t338 t339)) else (laws_FnBits.j1 kj8 l1 t332 bt346.1 true t324 t325 t326 t327 t330 t331 t338 t339))) else (laws_FnBits.j1 kj8 l1 t332 bt346.1 true t324 t325 t326 t327 t330 t331 t338 t339))) else (laws_FnBits.j4 kj8 l1)) = some r := by rw [if_neg (show ¬ (false = true) by decide)] at H; exact H
          clear H
          have H := H1
          clear H1
          have HC70 := Aside0.mk H
          clear H
          go_upto_if 94 with (fail)
          go_cut [] (fun wc => ∃ (kq : Nat), Aside0 (laws_FnBits.j4 kq l1 = some r) ∧ Aside0 (kq ≤ kj8) ∧ Aside0 (wc.heap[gb328]? = some (.cells #[.int .i64 t324, .int .i64 t325] 26 (0, 0))) ∧ Aside0 (wc.heap[gb329]? = some (.cells #[.int .i64 t326, .int .i64 t327] 26 (0, 0))) ∧ Aside0 (wc.heap[gb333]? = some (.cells #[.int .i64 t330, .int .i64 t331] 26 (0, 0))) ∧ Aside0 (wc.heap[gb337]? = some (.cells #[.int .i64 t334, .int .i64 t335] 26 (0, 0))) ∧ Aside0 (wc.heap[gb341]? = some (.cells #[.int .i64 t338, .int .i64 t339] 26 (0, 0))) ∧ Aside0 (wc.heap[gb345]? = some (.cells #[.int .i64 t342, .int .i64 t343] 26 (0, 0))) ∧ Aside0 (Below w.heap.size w wc))
          case first =>
            have H := HC70.out
            clear HC70
            by_cases c71 : t340 = true
            · subst c71
              have H1 : ((impl_WaysOf.f t324 t325).bind fun bt346 => (if bt346.2 = true then ((impl_GoodKnown.f t338 t339).bind fun t348 => (if t348 = true then (if t332 = true then ((impl_GoodKnown.f t330 t331).bind fun t349 => (laws_FnBits.j1 kj8 l1 t332 bt346.1 (!t349) t324 t325 t326 t327 t330 t331 t338 t339)) else (laws_FnBits.j1 kj8 l1 t332 bt346.1 false t324 t325 t326 t327 t330 t331 t338 t339)) else (laws_FnBits.j1 kj8 l1 t332 bt346.1 true t324 t325 t326 t327 t330 t331 t338 t339))) else (laws_FnBits.j1 kj8 l1 t332 bt346.1 true t324 t325 t326 t327 t330 t331 t338 t339))) = some r := by rw [if_pos rfl] at H; exact H
              clear H
              have H := H1
              clear H1
              replace H := Option.bind_eq_some_iff.mp H
              obtain ⟨⟨t346, t347⟩, A720, H⟩ := H
              replace H : (if t347 = true then ((impl_GoodKnown.f t338 t339).bind fun t348 => (if t348 = true then (if t332 = true then ((impl_GoodKnown.f t330 t331).bind fun t349 => (laws_FnBits.j1 kj8 l1 t332 t346 (!t349) t324 t325 t326 t327 t330 t331 t338 t339)) else (laws_FnBits.j1 kj8 l1 t332 t346 false t324 t325 t326 t327 t330 t331 t338 t339)) else (laws_FnBits.j1 kj8 l1 t332 t346 true t324 t325 t326 t327 t330 t331 t338 t339))) else (laws_FnBits.j1 kj8 l1 t332 t346 true t324 t325 t326 t327 t330 t331 t338 t339)) = some r := H
              have A72 := Aside0.mk A720
              clear A720
              have HC73 := Aside0.mk H
              clear H
              have hnb74 := NB328_329.out
              have hnc74 := NB329_328.out
              have hnb75 := NB328_333.out
              have hnc75 := NB333_328.out
              have hnb76 := NB328_337.out
              have hnc76 := NB337_328.out
              have hnb77 := NB328_341.out
              have hnc77 := NB341_328.out
              have hnb78 := NB328_345.out
              have hnc78 := NB345_328.out
              have hcz79_0 := cq_ BK328.out 0 (.int .i64 t324)
              have hcz79_1 := cq_ BK328.out 1 (.int .i64 t325)
              have hfz79_0 := blk_frozen BK328.out 0
              have hfz79_1 := blk_frozen BK328.out 1
              go_upto_region 12 with (first | ((with_reducible refine gate_callee (f := 13) rfl ?_); refine goesL_ (some 97) rfl rfl Try.func13 (by kernel_rfl) rfl #[.agg #[.int .i64 t324, .int .i64 t325]] rfl (by (try simp only [List.map_toArray, List.map_cons, List.map_nil]); first | done | rfl | (simp only [List.length_drop, List.length_take]; rfl)) ?_; (with_reducible refine (impl_WaysOf.calls t324 t325 t346 t347 _ A72.out).mono ?_); rintro e w80 ⟨rfl, hb⟩; refine ⟨_, rfl, ?_⟩; have n0_ := Aside0.mk (blk_below (bk_ BK328.out) hb); have n1_ := Aside0.mk (blk_below (bk_ BK329.out) hb); have n2_ := Aside0.mk (blk_below (bk_ BK333.out) hb); have n3_ := Aside0.mk (blk_below (bk_ BK337.out) hb); have n4_ := Aside0.mk (blk_below (bk_ BK341.out) hb); have n5_ := Aside0.mk (blk_below (bk_ BK345.out) hb); have n6_ := Aside0.mk (below_step (bq_) hb); clear BK328; clear BK329; clear BK333; clear BK337; clear BK341; clear BK345; clear HB; have BK328 := n0_; have BK329 := n1_; have BK333 := n2_; have BK337 := n3_; have BK341 := n4_; have BK345 := n5_; have HB := n6_; clear n0_ n1_ n2_ n3_ n4_ n5_ n6_; (try clear hb); (try clear hb2); (try clear hk); (try clear hi)))
              (try simp only [Act.put, List.setIfInBounds_toArray, List.set_cons_zero, List.set_cons_succ])
              go_cut [114] (fun v114 wc => ∃ (kq : Nat) (x114_72 : Bool), v114 = .bool x114_72 ∧ Aside0 (laws_FnBits.j1 kq l1 t332 t346 x114_72 t324 t325 t326 t327 t330 t331 t338 t339 = some r) ∧ Aside0 (kq ≤ kj8) ∧ Aside0 (wc.heap[gb328]? = some (.cells #[.int .i64 t324, .int .i64 t325] 26 (0, 0))) ∧ Aside0 (wc.heap[gb329]? = some (.cells #[.int .i64 t326, .int .i64 t327] 26 (0, 0))) ∧ Aside0 (wc.heap[gb333]? = some (.cells #[.int .i64 t330, .int .i64 t331] 26 (0, 0))) ∧ Aside0 (wc.heap[gb337]? = some (.cells #[.int .i64 t334, .int .i64 t335] 26 (0, 0))) ∧ Aside0 (wc.heap[gb341]? = some (.cells #[.int .i64 t338, .int .i64 t339] 26 (0, 0))) ∧ Aside0 (wc.heap[gb345]? = some (.cells #[.int .i64 t342, .int .i64 t343] 26 (0, 0))) ∧ Aside0 (Below w.heap.size w wc))
              case first =>
                have H := HC73.out
                clear HC73
                by_cases c81 : t347 = true
                · subst c81
                  have H1 : ((impl_GoodKnown.f t338 t339).bind fun t348 => (if t348 = true then (if t332 = true then ((impl_GoodKnown.f t330 t331).bind fun t349 => (laws_FnBits.j1 kj8 l1 t332 t346 (!t349) t324 t325 t326 t327 t330 t331 t338 t339)) else (laws_FnBits.j1 kj8 l1 t332 t346 false t324 t325 t326 t327 t330 t331 t338 t339)) else (laws_FnBits.j1 kj8 l1 t332 t346 true t324 t325 t326 t327 t330 t331 t338 t339))) = some r := by rw [if_pos rfl] at H; exact H
                  clear H
                  have H := H1
                  clear H1
                  replace H := Option.bind_eq_some_iff.mp H
                  obtain ⟨t348, A820, H⟩ := H
                  replace H : (if t348 = true then (if t332 = true then ((impl_GoodKnown.f t330 t331).bind fun t349 => (laws_FnBits.j1 kj8 l1 t332 t346 (!t349) t324 t325 t326 t327 t330 t331 t338 t339)) else (laws_FnBits.j1 kj8 l1 t332 t346 false t324 t325 t326 t327 t330 t331 t338 t339)) else (laws_FnBits.j1 kj8 l1 t332 t346 true t324 t325 t326 t327 t330 t331 t338 t339)) = some r := H
                  have A82 := Aside0.mk A820
                  clear A820
                  by_cases c83 : t348 = true
                  · subst c83
                    have H1 : (if t332 = true then ((impl_GoodKnown.f t330 t331).bind fun t349 => (laws_FnBits.j1 kj8 l1 t332 t346 (!t349) t324 t325 t326 t327 t330 t331 t338 t339)) else (laws_FnBits.j1 kj8 l1 t332 t346 false t324 t325 t326 t327 t330 t331 t338 t339)) = some r := by rw [if_pos rfl] at H; exact H
                    clear H
                    have H := H1
                    clear H1
                    by_cases c84 : t332 = true
                    · subst c84
                      have H1 : ((impl_GoodKnown.f t330 t331).bind fun t349 => (laws_FnBits.j1 kj8 l1 true t346 (!t349) t324 t325 t326 t327 t330 t331 t338 t339)) = some r := by rw [if_pos rfl] at H; exact H
                      clear H
                      have H := H1
                      clear H1
                      replace H := Option.bind_eq_some_iff.mp H
                      obtain ⟨t349, A850, H⟩ := H
                      replace H : (laws_FnBits.j1 kj8 l1 true t346 (!t349) t324 t325 t326 t327 t330 t331 t338 t339) = some r := H
                      have A85 := Aside0.mk A850
                      clear A850
                      as_aux_lemma =>
                        have H' := Aside0.mk H
                        clear H
                        have hnb86 := NB341_328.out
                        have hnc86 := NB328_341.out
                        have hnb87 := NB341_329.out
                        have hnc87 := NB329_341.out
                        have hnb88 := NB341_333.out
                        have hnc88 := NB333_341.out
                        have hnb89 := NB341_337.out
                        have hnc89 := NB337_341.out
                        have hnb90 := NB341_345.out
                        have hnc90 := NB345_341.out
                        have hcz91_0 := cq_ BK341.out 0 (.int .i64 t338)
                        have hcz91_1 := cq_ BK341.out 1 (.int .i64 t339)
                        have hfz91_0 := blk_frozen BK341.out 0
                        have hfz91_1 := blk_frozen BK341.out 1
                        go_wp2_with (first | (go_at_call 32; (with_reducible refine (impl_GoodKnown.calls t338 t339 true _ A82.out).mono ?_); rintro e w92 ⟨rfl, hb⟩; have n0_ := Aside0.mk (blk_below (bk_ BK328.out) hb); have n1_ := Aside0.mk (blk_below (bk_ BK329.out) hb); have n2_ := Aside0.mk (blk_below (bk_ BK333.out) hb); have n3_ := Aside0.mk (blk_below (bk_ BK337.out) hb); have n4_ := Aside0.mk (blk_below (bk_ BK341.out) hb); have n5_ := Aside0.mk (blk_below (bk_ BK345.out) hb); have n6_ := Aside0.mk (below_step (bq_) hb); clear BK328; clear BK329; clear BK333; clear BK337; clear BK341; clear BK345; clear HB; have BK328 := n0_; have BK329 := n1_; have BK333 := n2_; have BK337 := n3_; have BK341 := n4_; have BK345 := n5_; have HB := n6_; clear n0_ n1_ n2_ n3_ n4_ n5_ n6_; (try clear hb); (try clear hb2); (try clear hk); (try clear hi); have hnb93 := NB333_328.out; have hnc93 := NB328_333.out; have hnb94 := NB333_329.out; have hnc94 := NB329_333.out; have hnb95 := NB333_337.out; have hnc95 := NB337_333.out; have hnb96 := NB333_345.out; have hnc96 := NB345_333.out; have hcz97_0 := cq_ BK333.out 0 (.int .i64 t330); have hcz97_1 := cq_ BK333.out 1 (.int .i64 t331); have hfz97_0 := blk_frozen BK333.out 0; have hfz97_1 := blk_frozen BK333.out 1) | (go_at_call 32; (with_reducible refine (impl_GoodKnown.calls t330 t331 t349 _ A85.out).mono ?_); rintro e w98 ⟨rfl, hb⟩; have n0_ := Aside0.mk (blk_below (bk_ BK328.out) hb); have n1_ := Aside0.mk (blk_below (bk_ BK329.out) hb); have n2_ := Aside0.mk (blk_below (bk_ BK333.out) hb); have n3_ := Aside0.mk (blk_below (bk_ BK337.out) hb); have n4_ := Aside0.mk (blk_below (bk_ BK341.out) hb); have n5_ := Aside0.mk (blk_below (bk_ BK345.out) hb); have n6_ := Aside0.mk (below_step (bq_) hb); clear BK328; clear BK329; clear BK333; clear BK337; clear BK341; clear BK345; clear HB; have BK328 := n0_; have BK329 := n1_; have BK333 := n2_; have BK337 := n3_; have BK341 := n4_; have BK345 := n5_; have HB := n6_; clear n0_ n1_ n2_ n3_ n4_ n5_ n6_; (try clear hb); (try clear hb2); (try clear hk); (try clear hi)))
                        go_meet
                        case rel => exact ⟨_, (!t349), (by first | rfl | (simp; done) | (simp [*]; done)), H', ⟨by have := HJ8.out; first | omega | exact Nat.le_refl _⟩, ⟨bk_ BK328.out⟩, ⟨bk_ BK329.out⟩, ⟨bk_ BK333.out⟩, ⟨bk_ BK337.out⟩, ⟨bk_ BK341.out⟩, ⟨bk_ BK345.out⟩, ⟨bq_⟩⟩
                    · replace c84 := Bool.eq_false_iff.mpr c84
                      subst c84
                      have H1 : (laws_FnBits.j1 kj8 l1 false t346 false t324 t325 t326 t327 t330 t331 t338 t339) = some r := by rw [if_neg (show ¬ (false = true) by decide)] at H; exact H
                      clear H
                      have H := H1
                      clear H1
                      as_aux_lemma =>
                        have H' := Aside0.mk H
                        clear H
                        have hnb99 := NB341_328.out
                        have hnc99 := NB328_341.out
                        have hnb100 := NB341_329.out
                        have hnc100 := NB329_341.out
                        have hnb101 := NB341_333.out
                        have hnc101 := NB333_341.out
                        have hnb102 := NB341_337.out
                        have hnc102 := NB337_341.out
                        have hnb103 := NB341_345.out
                        have hnc103 := NB345_341.out
                        have hcz104_0 := cq_ BK341.out 0 (.int .i64 t338)
                        have hcz104_1 := cq_ BK341.out 1 (.int .i64 t339)
                        have hfz104_0 := blk_frozen BK341.out 0
                        have hfz104_1 := blk_frozen BK341.out 1
                        go_wp2_with (first | (go_at_call 32; (with_reducible refine (impl_GoodKnown.calls t338 t339 true _ A82.out).mono ?_); rintro e w105 ⟨rfl, hb⟩; have n0_ := Aside0.mk (blk_below (bk_ BK328.out) hb); have n1_ := Aside0.mk (blk_below (bk_ BK329.out) hb); have n2_ := Aside0.mk (blk_below (bk_ BK333.out) hb); have n3_ := Aside0.mk (blk_below (bk_ BK337.out) hb); have n4_ := Aside0.mk (blk_below (bk_ BK341.out) hb); have n5_ := Aside0.mk (blk_below (bk_ BK345.out) hb); have n6_ := Aside0.mk (below_step (bq_) hb); clear BK328; clear BK329; clear BK333; clear BK337; clear BK341; clear BK345; clear HB; have BK328 := n0_; have BK329 := n1_; have BK333 := n2_; have BK337 := n3_; have BK341 := n4_; have BK345 := n5_; have HB := n6_; clear n0_ n1_ n2_ n3_ n4_ n5_ n6_; (try clear hb); (try clear hb2); (try clear hk); (try clear hi)))
                        go_meet
                        case rel => exact ⟨_, (false), (by first | rfl | (simp; done) | (simp [*]; done)), H', ⟨by have := HJ8.out; first | omega | exact Nat.le_refl _⟩, ⟨bk_ BK328.out⟩, ⟨bk_ BK329.out⟩, ⟨bk_ BK333.out⟩, ⟨bk_ BK337.out⟩, ⟨bk_ BK341.out⟩, ⟨bk_ BK345.out⟩, ⟨bq_⟩⟩
                  · replace c83 := Bool.eq_false_iff.mpr c83
                    subst c83
                    have H1 : (laws_FnBits.j1 kj8 l1 t332 t346 true t324 t325 t326 t327 t330 t331 t338 t339) = some r := by rw [if_neg (show ¬ (false = true) by decide)] at H; exact H
                    clear H
                    have H := H1
                    clear H1
                    exact (laws_FnBits.j1_no_3 (by rw [hr_.out] at H; exact H)).elim
                · replace c81 := Bool.eq_false_iff.mpr c81
                  subst c81
                  have H1 : (laws_FnBits.j1 kj8 l1 t332 t346 true t324 t325 t326 t327 t330 t331 t338 t339) = some r := by rw [if_neg (show ¬ (false = true) by decide)] at H; exact H
                  clear H
                  have H := H1
                  clear H1
                  exact (laws_FnBits.j1_no_3 (by rw [hr_.out] at H; exact H)).elim
              case rest =>
                clear HC73
                try clear c1
                try clear c2
                try clear p2
                try clear c3
                try clear c3b0
                try clear c4
                try clear c5
                try clear c6
                try clear p6
                try clear c7
                try clear c8
                try clear c9
                try clear c10
                try clear c13
                try clear c18
                try clear c19
                try clear c25
                try clear c26
                try clear c27
                try clear c28
                try clear c29
                try clear c30
                try clear c31
                try clear c33
                try clear c34
                try clear c35
                try clear c36
                try clear c42
                try clear c43
                try clear c44
                try clear c45
                try clear c46
                try clear c48
                try clear c48b0
                try clear c48b1
                try clear c48b2
                try clear c49
                try clear c49b0
                try clear c50
                try clear c50b0
                try clear c50b1
                try clear c50b2
                try clear c51
                try clear c52
                try clear c53
                try clear c54
                try clear c55
                try clear c57
                try clear c58
                try clear c59
                try clear c60
                try clear c62
                try clear c63
                try clear c64
                try clear p64
                try clear c66
                try clear c67
                try clear c69
                try clear c71
                try clear c74
                try clear c75
                try clear c76
                try clear c77
                try clear c78
                try clear c81
                try clear c83
                try clear c84
                try clear c86
                try clear c87
                try clear c88
                try clear c89
                try clear c90
                try clear c93
                try clear c94
                try clear c95
                try clear c96
                try clear c99
                try clear c100
                try clear c101
                try clear c102
                try clear c103
                try clear hcz104_0
                try clear hcz104_1
                try clear hcz14_0
                try clear hcz14_1
                try clear hcz15_0
                try clear hcz15_1
                try clear hcz20_0
                try clear hcz20_1
                try clear hcz21_0
                try clear hcz21_1
                try clear hcz22_0
                try clear hcz22_1
                try clear hcz28_0
                try clear hcz28_1
                try clear hcz29_0
                try clear hcz29_1
                try clear hcz30_0
                try clear hcz30_1
                try clear hcz37_0
                try clear hcz37_1
                try clear hcz38_0
                try clear hcz38_1
                try clear hcz39_0
                try clear hcz39_1
                try clear hcz47_0
                try clear hcz47_1
                try clear hcz56_0
                try clear hcz56_1
                try clear hcz61_0
                try clear hcz61_1
                try clear hcz65_0
                try clear hcz65_1
                try clear hcz68_0
                try clear hcz68_1
                try clear hcz79_0
                try clear hcz79_1
                try clear hcz91_0
                try clear hcz91_1
                try clear hcz97_0
                try clear hcz97_1
                try clear hfz104_0
                try clear hfz104_1
                try clear hfz14_0
                try clear hfz14_1
                try clear hfz15_0
                try clear hfz15_1
                try clear hfz20_0
                try clear hfz20_1
                try clear hfz21_0
                try clear hfz21_1
                try clear hfz22_0
                try clear hfz22_1
                try clear hfz28_0
                try clear hfz28_1
                try clear hfz29_0
                try clear hfz29_1
                try clear hfz30_0
                try clear hfz30_1
                try clear hfz37_0
                try clear hfz37_1
                try clear hfz38_0
                try clear hfz38_1
                try clear hfz39_0
                try clear hfz39_1
                try clear hfz47_0
                try clear hfz47_1
                try clear hfz56_0
                try clear hfz56_1
                try clear hfz61_0
                try clear hfz61_1
                try clear hfz65_0
                try clear hfz65_1
                try clear hfz68_0
                try clear hfz68_1
                try clear hfz79_0
                try clear hfz79_1
                try clear hfz91_0
                try clear hfz91_1
                try clear hfz97_0
                try clear hfz97_1
                try clear p2
                try clear p6
                try clear p64
                obtain ⟨kq, x114_72, rfl, HA, HJ72, BK328, BK329, BK333, BK337, BK341, BK345, HB⟩ := hcut
                cases kq with
                | zero => exact absurd HA.out (by simp [laws_FnBits.j1])
                | succ kj72 =>
                  have H := HA.out
                  clear HA
                  simp only [laws_FnBits.j1] at H
                  by_cases c106 : x114_72 = true
                  · subst c106
                    have H1 : (some false) = some r := by rw [if_pos rfl] at H; exact H
                    clear H
                    have H := H1
                    clear H1
                    exact absurd (Option.some.inj H).symm (by rw [hr_.out]; simp)
                  · replace c106 := Bool.eq_false_iff.mpr c106
                    subst c106
                    have H1 : (laws_FnBits.l0 kj72 l1 t332 t346 0 t324 t325 t326 t327 t330 t331 t338 t339) = some r := by rw [if_neg (show ¬ (false = true) by decide)] at H; exact H
                    clear H
                    have H := H1
                    clear H1
                    have H' := Aside0.mk H
                    clear H
                    go_wp2
                    go_loopg [17] kj72 (fun kq v17 w' => ∃ (x17_3 : Int), v17 = .int .i64 x17_3 ∧ Aside0 (laws_FnBits.l0 kq l1 t332 t346 x17_3 t324 t325 t326 t327 t330 t331 t338 t339 = some r) ∧ Aside0 (kq ≤ kj72) ∧ Aside0 (w'.heap[gb328]? = some (.cells #[.int .i64 t324, .int .i64 t325] 26 (0, 0))) ∧ Aside0 (w'.heap[gb329]? = some (.cells #[.int .i64 t326, .int .i64 t327] 26 (0, 0))) ∧ Aside0 (w'.heap[gb333]? = some (.cells #[.int .i64 t330, .int .i64 t331] 26 (0, 0))) ∧ Aside0 (w'.heap[gb337]? = some (.cells #[.int .i64 t334, .int .i64 t335] 26 (0, 0))) ∧ Aside0 (w'.heap[gb341]? = some (.cells #[.int .i64 t338, .int .i64 t339] 26 (0, 0))) ∧ Aside0 (w'.heap[gb345]? = some (.cells #[.int .i64 t342, .int .i64 t343] 26 (0, 0))) ∧ Aside0 (Below w.heap.size w w'))
                    case atStart => exact ⟨(0), (by first | rfl | (simp; done) | (simp [*]; done)), H', ⟨Nat.le_refl _⟩, ⟨bk_ BK328.out⟩, ⟨bk_ BK329.out⟩, ⟨bk_ BK333.out⟩, ⟨bk_ BK337.out⟩, ⟨bk_ BK341.out⟩, ⟨bk_ BK345.out⟩, ⟨bq_⟩⟩
                    case round =>
                      clear H'
                      try clear c1
                      try clear c2
                      try clear p2
                      try clear c3
                      try clear c3b0
                      try clear c4
                      try clear c5
                      try clear c6
                      try clear p6
                      try clear c7
                      try clear c8
                      try clear c9
                      try clear c10
                      try clear c13
                      try clear c18
                      try clear c19
                      try clear c25
                      try clear c26
                      try clear c27
                      try clear c28
                      try clear c29
                      try clear c30
                      try clear c31
                      try clear c33
                      try clear c34
                      try clear c35
                      try clear c36
                      try clear c42
                      try clear c43
                      try clear c44
                      try clear c45
                      try clear c46
                      try clear c48
                      try clear c48b0
                      try clear c48b1
                      try clear c48b2
                      try clear c49
                      try clear c49b0
                      try clear c50
                      try clear c50b0
                      try clear c50b1
                      try clear c50b2
                      try clear c51
                      try clear c52
                      try clear c53
                      try clear c54
                      try clear c55
                      try clear c57
                      try clear c58
                      try clear c59
                      try clear c60
                      try clear c62
                      try clear c63
                      try clear c64
                      try clear p64
                      try clear c66
                      try clear c67
                      try clear c69
                      try clear c71
                      try clear c74
                      try clear c75
                      try clear c76
                      try clear c77
                      try clear c78
                      try clear c81
                      try clear c83
                      try clear c84
                      try clear c86
                      try clear c87
                      try clear c88
                      try clear c89
                      try clear c90
                      try clear c93
                      try clear c94
                      try clear c95
                      try clear c96
                      try clear c99
                      try clear c100
                      try clear c101
                      try clear c102
                      try clear c103
                      try clear c106
                      try clear hcz104_0
                      try clear hcz104_1
                      try clear hcz14_0
                      try clear hcz14_1
                      try clear hcz15_0
                      try clear hcz15_1
                      try clear hcz20_0
                      try clear hcz20_1
                      try clear hcz21_0
                      try clear hcz21_1
                      try clear hcz22_0
                      try clear hcz22_1
                      try clear hcz28_0
                      try clear hcz28_1
                      try clear hcz29_0
                      try clear hcz29_1
                      try clear hcz30_0
                      try clear hcz30_1
                      try clear hcz37_0
                      try clear hcz37_1
                      try clear hcz38_0
                      try clear hcz38_1
                      try clear hcz39_0
                      try clear hcz39_1
                      try clear hcz47_0
                      try clear hcz47_1
                      try clear hcz56_0
                      try clear hcz56_1
                      try clear hcz61_0
                      try clear hcz61_1
                      try clear hcz65_0
                      try clear hcz65_1
                      try clear hcz68_0
                      try clear hcz68_1
                      try clear hcz79_0
                      try clear hcz79_1
                      try clear hcz91_0
                      try clear hcz91_1
                      try clear hcz97_0
                      try clear hcz97_1
                      try clear hfz104_0
                      try clear hfz104_1
                      try clear hfz14_0
                      try clear hfz14_1
                      try clear hfz15_0
                      try clear hfz15_1
                      try clear hfz20_0
                      try clear hfz20_1
                      try clear hfz21_0
                      try clear hfz21_1
                      try clear hfz22_0
                      try clear hfz22_1
                      try clear hfz28_0
                      try clear hfz28_1
                      try clear hfz29_0
                      try clear hfz29_1
                      try clear hfz30_0
                      try clear hfz30_1
                      try clear hfz37_0
                      try clear hfz37_1
                      try clear hfz38_0
                      try clear hfz38_1
                      try clear hfz39_0
                      try clear hfz39_1
                      try clear hfz47_0
                      try clear hfz47_1
                      try clear hfz56_0
                      try clear hfz56_1
                      try clear hfz61_0
                      try clear hfz61_1
                      try clear hfz65_0
                      try clear hfz65_1
                      try clear hfz68_0
                      try clear hfz68_1
                      try clear hfz79_0
                      try clear hfz79_1
                      try clear hfz91_0
                      try clear hfz91_1
                      try clear hfz97_0
                      try clear hfz97_1
                      try clear p2
                      try clear p6
                      try clear p64
                      obtain ⟨x17_3, rfl, HA, HK3, BK328, BK329, BK333, BK337, BK341, BK345, HB⟩ := hrel
                      cases gk with
                      | zero => exact absurd HA.out (by simp [laws_FnBits.l0])
                      | succ k3 =>
                        have H := HA.out
                        clear HA
                        simp only [laws_FnBits.l0] at H
                        by_cases c107 : x17_3 < 32
                        · rw [if_pos c107] at H
                          have c107b0 : decide (x17_3 < 32) = true := decide_eq_true c107
                          clear c107
                          replace H := Option.bind_eq_some_iff.mp H
                          obtain ⟨t350, A1080, H⟩ := H
                          replace H : (if t346 = 0 then (none) else ((impl_NumberAt.f k3 t324 t325 (Int.tmod (wrap64 (t350 + (wrap64 (x17_3 * 31)))) t346)).bind fun bt351 => ((impl_MayBe.f t338 t339 bt351.1).bind fun bt353 => ((impl_MayBe.f t326 t327 bt351.1).bind fun bt355 => (if bt351.2 = true then (if bt353.2 = true then (if bt353.1 = true then (if bt355.2 = true then (if bt355.1 = true then (laws_FnBits.j3 k3 l1 t332 t346 x17_3 bt351.1 bt355.1 (!t332) t324 t325 t326 t327 t330 t331 t338 t339) else (laws_FnBits.j3 k3 l1 t332 t346 x17_3 bt351.1 bt355.1 false t324 t325 t326 t327 t330 t331 t338 t339)) else (laws_FnBits.j3 k3 l1 t332 t346 x17_3 bt351.1 bt355.1 true t324 t325 t326 t327 t330 t331 t338 t339)) else (laws_FnBits.j3 k3 l1 t332 t346 x17_3 bt351.1 bt355.1 true t324 t325 t326 t327 t330 t331 t338 t339)) else (laws_FnBits.j3 k3 l1 t332 t346 x17_3 bt351.1 bt355.1 true t324 t325 t326 t327 t330 t331 t338 t339)) else (laws_FnBits.j3 k3 l1 t332 t346 x17_3 bt351.1 bt355.1 true t324 t325 t326 t327 t330 t331 t338 t339)))))) = some r := H
                          have A108 := Aside0.mk A1080
                          clear A1080
                          by_cases c109 : t346 = 0
                          · rw [if_pos c109] at H
                            exact absurd H (by simp)
                          · rw [if_neg c109] at H
                            have c109b0 : (t346 == 0) = false := beq_eq_false_iff_ne.mpr c109
                            have c109b1 : (t346 != 0) = true := bne_iff_ne.mpr c109
                            replace H := Option.bind_eq_some_iff.mp H
                            obtain ⟨⟨t351, t352⟩, A1100, H⟩ := H
                            replace H : ((impl_MayBe.f t338 t339 t351).bind fun bt353 => ((impl_MayBe.f t326 t327 t351).bind fun bt355 => (if t352 = true then (if bt353.2 = true then (if bt353.1 = true then (if bt355.2 = true then (if bt355.1 = true then (laws_FnBits.j3 k3 l1 t332 t346 x17_3 t351 bt355.1 (!t332) t324 t325 t326 t327 t330 t331 t338 t339) else (laws_FnBits.j3 k3 l1 t332 t346 x17_3 t351 bt355.1 false t324 t325 t326 t327 t330 t331 t338 t339)) else (laws_FnBits.j3 k3 l1 t332 t346 x17_3 t351 bt355.1 true t324 t325 t326 t327 t330 t331 t338 t339)) else (laws_FnBits.j3 k3 l1 t332 t346 x17_3 t351 bt355.1 true t324 t325 t326 t327 t330 t331 t338 t339)) else (laws_FnBits.j3 k3 l1 t332 t346 x17_3 t351 bt355.1 true t324 t325 t326 t327 t330 t331 t338 t339)) else (laws_FnBits.j3 k3 l1 t332 t346 x17_3 t351 bt355.1 true t324 t325 t326 t327 t330 t331 t338 t339)))) = some r := H
                            have A110 := Aside0.mk A1100
                            clear A1100
                            replace H := Option.bind_eq_some_iff.mp H
                            obtain ⟨⟨t353, t354⟩, A1110, H⟩ := H
                            replace H : ((impl_MayBe.f t326 t327 t351).bind fun bt355 => (if t352 = true then (if t354 = true then (if t353 = true then (if bt355.2 = true then (if bt355.1 = true then (laws_FnBits.j3 k3 l1 t332 t346 x17_3 t351 bt355.1 (!t332) t324 t325 t326 t327 t330 t331 t338 t339) else (laws_FnBits.j3 k3 l1 t332 t346 x17_3 t351 bt355.1 false t324 t325 t326 t327 t330 t331 t338 t339)) else (laws_FnBits.j3 k3 l1 t332 t346 x17_3 t351 bt355.1 true t324 t325 t326 t327 t330 t331 t338 t339)) else (laws_FnBits.j3 k3 l1 t332 t346 x17_3 t351 bt355.1 true t324 t325 t326 t327 t330 t331 t338 t339)) else (laws_FnBits.j3 k3 l1 t332 t346 x17_3 t351 bt355.1 true t324 t325 t326 t327 t330 t331 t338 t339)) else (laws_FnBits.j3 k3 l1 t332 t346 x17_3 t351 bt355.1 true t324 t325 t326 t327 t330 t331 t338 t339))) = some r := H
                            have A111 := Aside0.mk A1110
                            clear A1110
                            replace H := Option.bind_eq_some_iff.mp H
                            obtain ⟨⟨t355, t356⟩, A1120, H⟩ := H
                            replace H : (if t352 = true then (if t354 = true then (if t353 = true then (if t356 = true then (if t355 = true then (laws_FnBits.j3 k3 l1 t332 t346 x17_3 t351 t355 (!t332) t324 t325 t326 t327 t330 t331 t338 t339) else (laws_FnBits.j3 k3 l1 t332 t346 x17_3 t351 t355 false t324 t325 t326 t327 t330 t331 t338 t339)) else (laws_FnBits.j3 k3 l1 t332 t346 x17_3 t351 t355 true t324 t325 t326 t327 t330 t331 t338 t339)) else (laws_FnBits.j3 k3 l1 t332 t346 x17_3 t351 t355 true t324 t325 t326 t327 t330 t331 t338 t339)) else (laws_FnBits.j3 k3 l1 t332 t346 x17_3 t351 t355 true t324 t325 t326 t327 t330 t331 t338 t339)) else (laws_FnBits.j3 k3 l1 t332 t346 x17_3 t351 t355 true t324 t325 t326 t327 t330 t331 t338 t339)) = some r := H
                            have A112 := Aside0.mk A1120
                            clear A1120
                            have HC113 := Aside0.mk H
                            clear H
                            try go_wp2
                            have n0_ := Aside0.mk (blk_drew BK328.out)
                            have n1_ := Aside0.mk (blk_drew BK329.out)
                            have n2_ := Aside0.mk (blk_drew BK333.out)
                            have n3_ := Aside0.mk (blk_drew BK337.out)
                            have n4_ := Aside0.mk (blk_drew BK341.out)
                            have n5_ := Aside0.mk (blk_drew BK345.out)
                            have n6_ := Aside0.mk (below_drew1 HB.out)
                            clear BK328
                            clear BK329
                            clear BK333
                            clear BK337
                            clear BK341
                            clear BK345
                            clear HB
                            have BK328 := n0_
                            have BK329 := n1_
                            have BK333 := n2_
                            have BK337 := n3_
                            have BK341 := n4_
                            have BK345 := n5_
                            have HB := n6_
                            clear n0_ n1_ n2_ n3_ n4_ n5_ n6_
                            refine start_ (n := 14) (S := fun w' => w'.cell? ⟨gb328, 0, none⟩ = some (.int .i64 t324) ∧ w'.cell? ⟨gb328, 1, none⟩ = some (.int .i64 t325)) (ds := []) #[false, false, false, false, false, false, false, false, false, false, false, false, false, false] (by kernel_rfl) rfl rfl ⟨(blk_cell BK328.out 0).trans rfl, (blk_cell BK328.out 1).trans rfl⟩ (fun hHeld => ?_); refine with_tabW laws_FnBits.tab17 laws_FnBits.bits17 (fun HT_ HW_ => ?_)
                            generalize wr.drew = w114 at BK328 BK329 BK333 BK337 BK341 BK345 HB hHeld ⊢
                            refine pure_ (i := 1) (N := some 121) (v := ?_) (a' := ?_) #[false, true, false, false, false, false, false, false, false, false, false, false, false, false] rfl rfl (any_of HT_.out (by kernel_rfl)) (fun _ _ _ h => h) (Or.inl ⟨by rfl, ?_⟩) ?_ ?_
                            rotate_left
                            · intro w'
                              go_simp
                              with_reducible rfl
                            rotate_left
                            · simp only [Act.put, List.setIfInBounds_toArray, List.set_cons_zero, List.set_cons_succ, i64_w, i32_w]
                              rfl
                            refine pure_ (i := 3) (N := some 123) (v := ?_) (a' := ?_) #[false, true, false, true, false, false, false, false, false, false, false, false, false, false] rfl rfl (any_of HT_.out (by kernel_rfl)) (fun _ _ _ h => h) (Or.inl ⟨by rfl, ?_⟩) ?_ ?_
                            rotate_left
                            · intro w'
                              go_simp
                              with_reducible rfl
                            rotate_left
                            · simp only [Act.put, List.setIfInBounds_toArray, List.set_cons_zero, List.set_cons_succ, i64_w, i32_w]
                              rfl
                            refine pure_ (i := 4) (N := some 124) (v := ?_) (a' := ?_) #[false, true, false, true, true, false, false, false, false, false, false, false, false, false] rfl rfl (any_of HT_.out (by kernel_rfl)) (fun _ _ _ h => h) (Or.inl ⟨by rfl, ?_⟩) ?_ ?_
                            rotate_left
                            · intro w'
                              go_simp
                              with_reducible rfl
                            rotate_left
                            · simp only [Act.put, List.setIfInBounds_toArray, List.set_cons_zero, List.set_cons_succ, i64_w, i32_w]
                              rfl
                            refine pure_ (i := 6) (N := some 126) (v := ?_) (a' := ?_) #[false, true, false, true, true, false, true, false, false, false, false, false, false, false] rfl rfl (any_of HT_.out (by kernel_rfl)) (fun _ _ _ h => h) (Or.inl ⟨by rfl, ?_⟩) ?_ ?_
                            rotate_left
                            · intro w'
                              go_simp
                              with_reducible rfl
                            rotate_left
                            · simp only [Act.put, List.setIfInBounds_toArray, List.set_cons_zero, List.set_cons_succ, i64_w, i32_w]
                              rfl
                            refine take_ (i := 0) (N := some 120) (v := ?_) (a' := ?_) #[true, true, false, true, true, false, true, false, false, false, false, false, false, false] rfl rfl (take_ofW HT_.out HW_.out (by kernel_rfl)) (fun _ _ _ h => h) (Or.inl ⟨by rfl, ?_⟩) hHeld ?_ ?_
                            rotate_left
                            · rintro w' ⟨s0, s1⟩
                              go_simp
                              with_reducible rfl
                            rotate_left
                            · simp only [Act.put, List.setIfInBounds_toArray, List.set_cons_zero, List.set_cons_succ, i64_w, i32_w]
                              rfl
                            refine one_ (i := 2) (N := some 122) #[true, true, true, true, true, false, true, false, false, false, false, false, false, false] rfl rfl (one_of HT_.out (by kernel_rfl)) (by decide) (fun K hK => ?_)
                            refine goes_ Try.func33 (by kernel_rfl) rfl #[.slice A1 l1.length c1] (by rfl) rfl rfl (by (try simp only [List.map_toArray, List.map_cons, List.map_nil]); first | done | rfl | (simp only [List.length_drop, List.length_take]; rfl)) ?_
                            with_reducible refine (laws_numberOf.calls k3 _ _ l1 t350 _ ?side1 ?side2 A108.out).mono ?_
                            (case side1 => repeat (first | exact (Kd.C_below HR1.out HB.out) | (with_reducible refine Kd.C_alloc ?_ _) | (with_reducible refine Kd.C_drewN ?_ _) | (with_reducible refine Kd.C_drew ?_)))
                            (case side2 => exact HC1.out)
                            rintro e w' ⟨rfl, ⟨nd, rfl⟩⟩
                            refine ⟨_, rfl, ?_⟩
                            refine hK.out _ _ ⟨(blk_cell BK328.out 0).trans rfl, (blk_cell BK328.out 1).trans rfl⟩ (fun hHeld => ?_)
                            clear hK K
                            refine norm_ (a' := ?_) ?_ ?_
                            rotate_left
                            · show Act.put _ (some 122) _ = _
                              simp only [Act.put, List.setIfInBounds_toArray, List.set_cons_zero, List.set_cons_succ, i64_w, i32_w]
                              rfl
                            refine pure_ (i := 5) (N := some 125) (v := ?_) (a' := ?_) #[true, true, true, true, true, true, true, false, false, false, false, false, false, false] rfl rfl (any_of HT_.out (by kernel_rfl)) (fun _ _ _ h => h) (Or.inl ⟨by rfl, ?_⟩) ?_ ?_
                            rotate_left
                            · intro w'
                              go_simp
                              with_reducible rfl
                            rotate_left
                            · simp only [Act.put, List.setIfInBounds_toArray, List.set_cons_zero, List.set_cons_succ, i64_w, i32_w]
                              rfl
                            refine pure_ (i := 7) (N := some 127) (v := ?_) (a' := ?_) #[true, true, true, true, true, true, true, true, false, false, false, false, false, false] rfl rfl (any_of HT_.out (by kernel_rfl)) (fun _ _ _ h => h) (Or.inl ⟨by rfl, ?_⟩) ?_ ?_
                            rotate_left
                            · intro w'
                              go_simp
                              with_reducible rfl
                            rotate_left
                            · simp only [Act.put, List.setIfInBounds_toArray, List.set_cons_zero, List.set_cons_succ, i64_w, i32_w]
                              rfl
                            refine one_ (i := 8) (N := some 128) #[true, true, true, true, true, true, true, true, true, false, false, false, false, false] rfl rfl (one_of HT_.out (by kernel_rfl)) (by decide) (fun K hK => ?_)
                            refine goes_ Try.func20 (by kernel_rfl) rfl #[.agg #[.int .i64 t324, .int .i64 t325], .int .i64 (Int.tmod (wrap64 (t350 + (wrap64 (x17_3 * 31)))) t346)] (by rfl) rfl rfl (by (try simp only [List.map_toArray, List.map_cons, List.map_nil]); first | done | rfl | (simp only [List.length_drop, List.length_take]; rfl)) ?_
                            with_reducible refine (impl_NumberAt.calls k3 t324 t325 (Int.tmod (wrap64 (t350 + (wrap64 (x17_3 * 31)))) t346) t351 t352 _ A110.out).mono ?_
                            rintro e w115 ⟨rfl, hb⟩
                            refine ⟨_, rfl, ?_⟩
                            have n0_ := Aside0.mk (blk_below (bk_ BK328.out) hb)
                            have n1_ := Aside0.mk (blk_below (bk_ BK329.out) hb)
                            have n2_ := Aside0.mk (blk_below (bk_ BK333.out) hb)
                            have n3_ := Aside0.mk (blk_below (bk_ BK337.out) hb)
                            have n4_ := Aside0.mk (blk_below (bk_ BK341.out) hb)
                            have n5_ := Aside0.mk (blk_below (bk_ BK345.out) hb)
                            have n6_ := Aside0.mk (below_step (bq_) hb)
                            clear BK328
                            clear BK329
                            clear BK333
                            clear BK337
                            clear BK341
                            clear BK345
                            clear HB
                            have BK328 := n0_
                            have BK329 := n1_
                            have BK333 := n2_
                            have BK337 := n3_
                            have BK341 := n4_
                            have BK345 := n5_
                            have HB := n6_
                            clear n0_ n1_ n2_ n3_ n4_ n5_ n6_
                            (try clear hb)
                            (try clear hb2)
                            (try clear hk)
                            (try clear hi)
                            refine hK.out _ _ ⟨(blk_cell BK328.out 0).trans rfl, (blk_cell BK328.out 1).trans rfl⟩ (fun hHeld => ?_)
                            clear hK K
                            refine norm_ (a' := ?_) ?_ ?_
                            rotate_left
                            · show Act.put _ (some 128) _ = _
                              simp only [Act.put, List.setIfInBounds_toArray, List.set_cons_zero, List.set_cons_succ, i64_w, i32_w]
                              rfl
                            refine pure_ (i := 9) (N := some 119) (v := ?_) (a' := ?_) #[true, true, true, true, true, true, true, true, true, true, false, false, false, false] rfl rfl (any_of HT_.out (by kernel_rfl)) (fun _ _ _ h => h) (Or.inl ⟨by rfl, ?_⟩) ?_ ?_
                            rotate_left
                            · intro w'
                              go_simp
                              with_reducible rfl
                            rotate_left
                            · simp only [Act.put, List.setIfInBounds_toArray, List.set_cons_zero, List.set_cons_succ, i64_w, i32_w]
                              rfl
                            refine pure_ (i := 10) (N := some 129) (v := ?_) (a' := ?_) #[true, true, true, true, true, true, true, true, true, true, true, false, false, false] rfl rfl (any_of HT_.out (by kernel_rfl)) (fun _ _ _ h => h) (Or.inl ⟨by rfl, ?_⟩) ?_ ?_
                            rotate_left
                            · intro w'
                              go_simp
                              with_reducible rfl
                            rotate_left
                            · simp only [Act.put, List.setIfInBounds_toArray, List.set_cons_zero, List.set_cons_succ, i64_w, i32_w]
                              rfl
                            refine pure_ (i := 11) (N := some 130) (v := ?_) (a' := ?_) #[true, true, true, true, true, true, true, true, true, true, true, true, false, false] rfl rfl (any_of HT_.out (by kernel_rfl)) (fun _ _ _ h => h) (Or.inl ⟨by rfl, ?_⟩) ?_ ?_
                            rotate_left
                            · intro w'
                              go_simp
                              with_reducible rfl
                            rotate_left
                            · simp only [Act.put, List.setIfInBounds_toArray, List.set_cons_zero, List.set_cons_succ, i64_w, i32_w]
                              rfl
                            refine pure_ (i := 12) (N := some 18) (v := ?_) (a' := ?_) #[true, true, true, true, true, true, true, true, true, true, true, true, true, false] rfl rfl (any_of HT_.out (by kernel_rfl)) (fun _ _ _ h => h) (Or.inl ⟨by rfl, ?_⟩) ?_ ?_
                            rotate_left
                            · intro w'
                              go_simp
                              with_reducible rfl
                            rotate_left
                            · simp only [Act.put, List.setIfInBounds_toArray, List.set_cons_zero, List.set_cons_succ, i64_w, i32_w]
                              rfl
                            refine pure_ (i := 13) (N := some 19) (v := ?_) (a' := ?_) #[true, true, true, true, true, true, true, true, true, true, true, true, true, true] rfl rfl (any_of HT_.out (by kernel_rfl)) (fun _ _ _ h => h) (Or.inl ⟨by rfl, ?_⟩) ?_ ?_
                            rotate_left
                            · intro w'
                              go_simp
                              with_reducible rfl
                            rotate_left
                            · simp only [Act.put, List.setIfInBounds_toArray, List.set_cons_zero, List.set_cons_succ, i64_w, i32_w]
                              rfl
                            refine done_ (done_of HT_.out (by kernel_rfl)) ?_
                            have hnb116 := NB341_328.out
                            have hnc116 := NB328_341.out
                            have hnb117 := NB341_329.out
                            have hnc117 := NB329_341.out
                            have hnb118 := NB341_333.out
                            have hnc118 := NB333_341.out
                            have hnb119 := NB341_337.out
                            have hnc119 := NB337_341.out
                            have hnb120 := NB341_345.out
                            have hnc120 := NB345_341.out
                            have hcz121_0 := cq_ BK341.out 0 (.int .i64 t338)
                            have hcz121_1 := cq_ BK341.out 1 (.int .i64 t339)
                            have hfz121_0 := blk_frozen BK341.out 0
                            have hfz121_1 := blk_frozen BK341.out 1
                            go_upto_region 20 with (first | ((with_reducible refine gate_callee (f := 34) rfl ?_); refine goesL_ (some 134) rfl rfl Try.func34 (by kernel_rfl) rfl #[.agg #[.int .i64 t338, .int .i64 t339], .int .i64 t351] rfl (by (try simp only [List.map_toArray, List.map_cons, List.map_nil]); first | done | rfl | (simp only [List.length_drop, List.length_take]; rfl)) ?_; (with_reducible refine (impl_MayBe.calls t338 t339 t351 t353 t354 _ A111.out).mono ?_); rintro e w122 ⟨rfl, hb⟩; refine ⟨_, rfl, ?_⟩; have n0_ := Aside0.mk (blk_below (bk_ BK328.out) hb); have n1_ := Aside0.mk (blk_below (bk_ BK329.out) hb); have n2_ := Aside0.mk (blk_below (bk_ BK333.out) hb); have n3_ := Aside0.mk (blk_below (bk_ BK337.out) hb); have n4_ := Aside0.mk (blk_below (bk_ BK341.out) hb); have n5_ := Aside0.mk (blk_below (bk_ BK345.out) hb); have n6_ := Aside0.mk (below_step (bq_) hb); clear BK328; clear BK329; clear BK333; clear BK337; clear BK341; clear BK345; clear HB; have BK328 := n0_; have BK329 := n1_; have BK333 := n2_; have BK337 := n3_; have BK341 := n4_; have BK345 := n5_; have HB := n6_; clear n0_ n1_ n2_ n3_ n4_ n5_ n6_; (try clear hb); (try clear hb2); (try clear hk); (try clear hi); have hnb123 := NB329_328.out; have hnc123 := NB328_329.out; have hnb124 := NB329_333.out; have hnc124 := NB333_329.out; have hnb125 := NB329_337.out; have hnc125 := NB337_329.out; have hnb126 := NB329_345.out; have hnc126 := NB345_329.out; have hcz127_0 := cq_ BK329.out 0 (.int .i64 t326); have hcz127_1 := cq_ BK329.out 1 (.int .i64 t327); have hfz127_0 := blk_frozen BK329.out 0; have hfz127_1 := blk_frozen BK329.out 1) | ((with_reducible refine gate_callee (f := 34) rfl ?_); refine goesL_ (some 140) rfl rfl Try.func34 (by kernel_rfl) rfl #[.agg #[.int .i64 t326, .int .i64 t327], .int .i64 t351] rfl (by (try simp only [List.map_toArray, List.map_cons, List.map_nil]); first | done | rfl | (simp only [List.length_drop, List.length_take]; rfl)) ?_; (with_reducible refine (impl_MayBe.calls t326 t327 t351 t355 t356 _ A112.out).mono ?_); rintro e w128 ⟨rfl, hb⟩; refine ⟨_, rfl, ?_⟩; have n0_ := Aside0.mk (blk_below (bk_ BK328.out) hb); have n1_ := Aside0.mk (blk_below (bk_ BK329.out) hb); have n2_ := Aside0.mk (blk_below (bk_ BK333.out) hb); have n3_ := Aside0.mk (blk_below (bk_ BK337.out) hb); have n4_ := Aside0.mk (blk_below (bk_ BK341.out) hb); have n5_ := Aside0.mk (blk_below (bk_ BK345.out) hb); have n6_ := Aside0.mk (below_step (bq_) hb); clear BK328; clear BK329; clear BK333; clear BK337; clear BK341; clear BK345; clear HB; have BK328 := n0_; have BK329 := n1_; have BK333 := n2_; have BK337 := n3_; have BK341 := n4_; have BK345 := n5_; have HB := n6_; clear n0_ n1_ n2_ n3_ n4_ n5_ n6_; (try clear hb); (try clear hb2); (try clear hk); (try clear hi)))
                            (try simp only [Act.put, List.setIfInBounds_toArray, List.set_cons_zero, List.set_cons_succ])
                            go_cut [163] (fun v163 wc => ∃ (kq : Nat) (x163_112 : Bool), v163 = .bool x163_112 ∧ Aside0 (laws_FnBits.j3 kq l1 t332 t346 x17_3 t351 t355 x163_112 t324 t325 t326 t327 t330 t331 t338 t339 = some r) ∧ Aside0 (kq ≤ k3) ∧ Aside0 (wc.heap[gb328]? = some (.cells #[.int .i64 t324, .int .i64 t325] 26 (0, 0))) ∧ Aside0 (wc.heap[gb329]? = some (.cells #[.int .i64 t326, .int .i64 t327] 26 (0, 0))) ∧ Aside0 (wc.heap[gb333]? = some (.cells #[.int .i64 t330, .int .i64 t331] 26 (0, 0))) ∧ Aside0 (wc.heap[gb337]? = some (.cells #[.int .i64 t334, .int .i64 t335] 26 (0, 0))) ∧ Aside0 (wc.heap[gb341]? = some (.cells #[.int .i64 t338, .int .i64 t339] 26 (0, 0))) ∧ Aside0 (wc.heap[gb345]? = some (.cells #[.int .i64 t342, .int .i64 t343] 26 (0, 0))) ∧ Aside0 (Below w.heap.size w wc))
                            case first =>
                              have H := HC113.out
                              clear HC113
                              by_cases c129 : t352 = true
                              · subst c129
                                have H1 : (if t354 = true then (if t353 = true then (if t356 = true then (if t355 = true then (laws_FnBits.j3 k3 l1 t332 t346 x17_3 t351 t355 (!t332) t324 t325 t326 t327 t330 t331 t338 t339) else (laws_FnBits.j3 k3 l1 t332 t346 x17_3 t351 t355 false t324 t325 t326 t327 t330 t331 t338 t339)) else (laws_FnBits.j3 k3 l1 t332 t346 x17_3 t351 t355 true t324 t325 t326 t327 t330 t331 t338 t339)) else (laws_FnBits.j3 k3 l1 t332 t346 x17_3 t351 t355 true t324 t325 t326 t327 t330 t331 t338 t339)) else (laws_FnBits.j3 k3 l1 t332 t346 x17_3 t351 t355 true t324 t325 t326 t327 t330 t331 t338 t339)) = some r := by rw [if_pos rfl] at H; exact H
                                clear H
                                have H := H1
                                clear H1
                                by_cases c130 : t354 = true
                                · subst c130
                                  have H1 : (if t353 = true then (if t356 = true then (if t355 = true then (laws_FnBits.j3 k3 l1 t332 t346 x17_3 t351 t355 (!t332) t324 t325 t326 t327 t330 t331 t338 t339) else (laws_FnBits.j3 k3 l1 t332 t346 x17_3 t351 t355 false t324 t325 t326 t327 t330 t331 t338 t339)) else (laws_FnBits.j3 k3 l1 t332 t346 x17_3 t351 t355 true t324 t325 t326 t327 t330 t331 t338 t339)) else (laws_FnBits.j3 k3 l1 t332 t346 x17_3 t351 t355 true t324 t325 t326 t327 t330 t331 t338 t339)) = some r := by rw [if_pos rfl] at H; exact H
                                  clear H
                                  have H := H1
                                  clear H1
                                  by_cases c131 : t353 = true
                                  · subst c131
                                    have H1 : (if t356 = true then (if t355 = true then (laws_FnBits.j3 k3 l1 t332 t346 x17_3 t351 t355 (!t332) t324 t325 t326 t327 t330 t331 t338 t339) else (laws_FnBits.j3 k3 l1 t332 t346 x17_3 t351 t355 false t324 t325 t326 t327 t330 t331 t338 t339)) else (laws_FnBits.j3 k3 l1 t332 t346 x17_3 t351 t355 true t324 t325 t326 t327 t330 t331 t338 t339)) = some r := by rw [if_pos rfl] at H; exact H
                                    clear H
                                    have H := H1
                                    clear H1
                                    by_cases c132 : t356 = true
                                    · subst c132
                                      have H1 : (if t355 = true then (laws_FnBits.j3 k3 l1 t332 t346 x17_3 t351 t355 (!t332) t324 t325 t326 t327 t330 t331 t338 t339) else (laws_FnBits.j3 k3 l1 t332 t346 x17_3 t351 t355 false t324 t325 t326 t327 t330 t331 t338 t339)) = some r := by rw [if_pos rfl] at H; exact H
                                      clear H
                                      have H := H1
                                      clear H1
                                      by_cases c133 : t355 = true
                                      · subst c133
                                        have H1 : (laws_FnBits.j3 k3 l1 t332 t346 x17_3 t351 true (!t332) t324 t325 t326 t327 t330 t331 t338 t339) = some r := by rw [if_pos rfl] at H; exact H
                                        clear H
                                        have H := H1
                                        clear H1
                                        as_aux_lemma =>
                                          have H' := Aside0.mk H
                                          clear H
                                          go_wp2
                                          go_meet
                                          case rel => exact ⟨_, (!t332), (by first | rfl | (simp; done) | (simp [*]; done)), H', ⟨by have := HJ8.out; have := HJ72.out; have := HK3.out; first | omega | exact Nat.le_refl _⟩, ⟨bk_ BK328.out⟩, ⟨bk_ BK329.out⟩, ⟨bk_ BK333.out⟩, ⟨bk_ BK337.out⟩, ⟨bk_ BK341.out⟩, ⟨bk_ BK345.out⟩, ⟨bq_⟩⟩
                                      · replace c133 := Bool.eq_false_iff.mpr c133
                                        subst c133
                                        have H1 : (laws_FnBits.j3 k3 l1 t332 t346 x17_3 t351 false false t324 t325 t326 t327 t330 t331 t338 t339) = some r := by rw [if_neg (show ¬ (false = true) by decide)] at H; exact H
                                        clear H
                                        have H := H1
                                        clear H1
                                        as_aux_lemma =>
                                          have H' := Aside0.mk H
                                          clear H
                                          go_wp2
                                          go_meet
                                          case rel => exact ⟨_, (false), (by first | rfl | (simp; done) | (simp [*]; done)), H', ⟨by have := HJ8.out; have := HJ72.out; have := HK3.out; first | omega | exact Nat.le_refl _⟩, ⟨bk_ BK328.out⟩, ⟨bk_ BK329.out⟩, ⟨bk_ BK333.out⟩, ⟨bk_ BK337.out⟩, ⟨bk_ BK341.out⟩, ⟨bk_ BK345.out⟩, ⟨bq_⟩⟩
                                    · replace c132 := Bool.eq_false_iff.mpr c132
                                      subst c132
                                      have H1 : (laws_FnBits.j3 k3 l1 t332 t346 x17_3 t351 t355 true t324 t325 t326 t327 t330 t331 t338 t339) = some r := by rw [if_neg (show ¬ (false = true) by decide)] at H; exact H
                                      clear H
                                      have H := H1
                                      clear H1
                                      exact (laws_FnBits.j3_no_6 (by rw [hr_.out] at H; exact H)).elim
                                  · replace c131 := Bool.eq_false_iff.mpr c131
                                    subst c131
                                    have H1 : (laws_FnBits.j3 k3 l1 t332 t346 x17_3 t351 t355 true t324 t325 t326 t327 t330 t331 t338 t339) = some r := by rw [if_neg (show ¬ (false = true) by decide)] at H; exact H
                                    clear H
                                    have H := H1
                                    clear H1
                                    exact (laws_FnBits.j3_no_6 (by rw [hr_.out] at H; exact H)).elim
                                · replace c130 := Bool.eq_false_iff.mpr c130
                                  subst c130
                                  have H1 : (laws_FnBits.j3 k3 l1 t332 t346 x17_3 t351 t355 true t324 t325 t326 t327 t330 t331 t338 t339) = some r := by rw [if_neg (show ¬ (false = true) by decide)] at H; exact H
                                  clear H
                                  have H := H1
                                  clear H1
                                  exact (laws_FnBits.j3_no_6 (by rw [hr_.out] at H; exact H)).elim
                              · replace c129 := Bool.eq_false_iff.mpr c129
                                subst c129
                                have H1 : (laws_FnBits.j3 k3 l1 t332 t346 x17_3 t351 t355 true t324 t325 t326 t327 t330 t331 t338 t339) = some r := by rw [if_neg (show ¬ (false = true) by decide)] at H; exact H
                                clear H
                                have H := H1
                                clear H1
                                exact (laws_FnBits.j3_no_6 (by rw [hr_.out] at H; exact H)).elim
                            case rest =>
                              clear HC113
                              try clear c1
                              try clear c2
                              try clear p2
                              try clear c3
                              try clear c3b0
                              try clear c4
                              try clear c5
                              try clear c6
                              try clear p6
                              try clear c7
                              try clear c8
                              try clear c9
                              try clear c10
                              try clear c11
                              try clear c12
                              try clear c13
                              try clear c18
                              try clear c19
                              try clear c20
                              try clear c25
                              try clear c26
                              try clear c27
                              try clear c28
                              try clear c29
                              try clear c30
                              try clear c31
                              try clear c33
                              try clear c34
                              try clear c35
                              try clear c36
                              try clear c42
                              try clear c43
                              try clear c44
                              try clear c45
                              try clear c46
                              try clear c48
                              try clear c48b0
                              try clear c48b1
                              try clear c48b2
                              try clear c49
                              try clear c49b0
                              try clear c50
                              try clear c50b0
                              try clear c50b1
                              try clear c50b2
                              try clear c51
                              try clear c52
                              try clear c53
                              try clear c54
                              try clear c55
                              try clear c57
                              try clear c58
                              try clear c59
                              try clear c60
                              try clear c62
                              try clear c63
                              try clear c64
                              try clear p64
                              try clear c66
                              try clear c67
                              try clear c69
                              try clear c71
                              try clear c74
                              try clear c75
                              try clear c76
                              try clear c77
                              try clear c78
                              try clear c81
                              try clear c83
                              try clear c84
                              try clear c86
                              try clear c87
                              try clear c88
                              try clear c89
                              try clear c90
                              try clear c93
                              try clear c94
                              try clear c95
                              try clear c96
                              try clear c99
                              try clear c100
                              try clear c101
                              try clear c102
                              try clear c103
                              try clear c106
                              try clear c107
                              try clear c107b0
                              try clear c109
                              try clear c109b0
                              try clear c109b1
                              try clear c116
                              try clear c117
                              try clear c118
                              try clear c119
                              try clear c120
                              try clear c123
                              try clear c124
                              try clear c125
                              try clear c126
                              try clear c129
                              try clear c130
                              try clear c131
                              try clear c132
                              try clear c133
                              try clear hcz104_0
                              try clear hcz104_1
                              try clear hcz121_0
                              try clear hcz121_1
                              try clear hcz127_0
                              try clear hcz127_1
                              try clear hcz14_0
                              try clear hcz14_1
                              try clear hcz15_0
                              try clear hcz15_1
                              try clear hcz20_0
                              try clear hcz20_1
                              try clear hcz21_0
                              try clear hcz21_1
                              try clear hcz22_0
                              try clear hcz22_1
                              try clear hcz28_0
                              try clear hcz28_1
                              try clear hcz29_0
                              try clear hcz29_1
                              try clear hcz30_0
                              try clear hcz30_1
                              try clear hcz37_0
                              try clear hcz37_1
                              try clear hcz38_0
                              try clear hcz38_1
                              try clear hcz39_0
                              try clear hcz39_1
                              try clear hcz47_0
                              try clear hcz47_1
                              try clear hcz56_0
                              try clear hcz56_1
                              try clear hcz61_0
                              try clear hcz61_1
                              try clear hcz65_0
                              try clear hcz65_1
                              try clear hcz68_0
                              try clear hcz68_1
                              try clear hcz79_0
                              try clear hcz79_1
                              try clear hcz91_0
                              try clear hcz91_1
                              try clear hcz97_0
                              try clear hcz97_1
                              try clear hfz104_0
                              try clear hfz104_1
                              try clear hfz121_0
                              try clear hfz121_1
                              try clear hfz127_0
                              try clear hfz127_1
                              try clear hfz14_0
                              try clear hfz14_1
                              try clear hfz15_0
                              try clear hfz15_1
                              try clear hfz20_0
                              try clear hfz20_1
                              try clear hfz21_0
                              try clear hfz21_1
                              try clear hfz22_0
                              try clear hfz22_1
                              try clear hfz28_0
                              try clear hfz28_1
                              try clear hfz29_0
                              try clear hfz29_1
                              try clear hfz30_0
                              try clear hfz30_1
                              try clear hfz37_0
                              try clear hfz37_1
                              try clear hfz38_0
                              try clear hfz38_1
                              try clear hfz39_0
                              try clear hfz39_1
                              try clear hfz47_0
                              try clear hfz47_1
                              try clear hfz56_0
                              try clear hfz56_1
                              try clear hfz61_0
                              try clear hfz61_1
                              try clear hfz65_0
                              try clear hfz65_1
                              try clear hfz68_0
                              try clear hfz68_1
                              try clear hfz79_0
                              try clear hfz79_1
                              try clear hfz91_0
                              try clear hfz91_1
                              try clear hfz97_0
                              try clear hfz97_1
                              try clear p2
                              try clear p6
                              try clear p64
                              obtain ⟨kq, x163_112, rfl, HA, HJ112, BK328, BK329, BK333, BK337, BK341, BK345, HB⟩ := hcut
                              cases kq with
                              | zero => exact absurd HA.out (by simp [laws_FnBits.j3])
                              | succ kj112 =>
                                have H := HA.out
                                clear HA
                                simp only [laws_FnBits.j3] at H
                                by_cases c134 : x163_112 = true
                                · subst c134
                                  have H1 : (some false) = some r := by rw [if_pos rfl] at H; exact H
                                  clear H
                                  have H := H1
                                  clear H1
                                  exact absurd (Option.some.inj H).symm (by rw [hr_.out]; simp)
                                · replace c134 := Bool.eq_false_iff.mpr c134
                                  subst c134
                                  have H1 : (if t332 = true then ((impl_MayBe.f t330 t331 t351).bind fun bt357 => (if bt357.2 = true then (if (bt357.1 != t355) = true then (some false) else (laws_FnBits.l0 kj112 l1 t332 t346 (wrap64 (x17_3 + 1)) t324 t325 t326 t327 t330 t331 t338 t339)) else (some false))) else (laws_FnBits.l0 kj112 l1 t332 t346 (wrap64 (x17_3 + 1)) t324 t325 t326 t327 t330 t331 t338 t339)) = some r := by rw [if_neg (show ¬ (false = true) by decide)] at H; exact H
                                  clear H
                                  have H := H1
                                  clear H1
                                  by_cases c135 : t332 = true
                                  · subst c135
                                    have H1 : ((impl_MayBe.f t330 t331 t351).bind fun bt357 => (if bt357.2 = true then (if (bt357.1 != t355) = true then (some false) else (laws_FnBits.l0 kj112 l1 true t346 (wrap64 (x17_3 + 1)) t324 t325 t326 t327 t330 t331 t338 t339)) else (some false))) = some r := by rw [if_pos rfl] at H; exact H
                                    clear H
                                    have H := H1
                                    clear H1
                                    replace H := Option.bind_eq_some_iff.mp H
                                    obtain ⟨⟨t357, t358⟩, A1360, H⟩ := H
                                    replace H : (if t358 = true then (if (t357 != t355) = true then (some false) else (laws_FnBits.l0 kj112 l1 true t346 (wrap64 (x17_3 + 1)) t324 t325 t326 t327 t330 t331 t338 t339)) else (some false)) = some r := H
                                    have A136 := Aside0.mk A1360
                                    clear A1360
                                    by_cases c137 : t358 = true
                                    · subst c137
                                      have H1 : (if (t357 != t355) = true then (some false) else (laws_FnBits.l0 kj112 l1 true t346 (wrap64 (x17_3 + 1)) t324 t325 t326 t327 t330 t331 t338 t339)) = some r := by rw [if_pos rfl] at H; exact H
                                      clear H
                                      have H := H1
                                      clear H1
                                      by_cases c138 : (t357 != t355) = true
                                      · rw [if_pos c138] at H
                                        have c138b0 : (t357 != t355) = true := c138
                                        (try (have c138b1 : decide (t357 = t355) = false := by simpa using c138))
                                        (try (have c138b2 : (t357 == t355) = false := by simpa using c138))
                                        (try (have c138b3 : ¬ (t357 = t355) := by simpa using c138))
                                        clear c138
                                        exact absurd (Option.some.inj H).symm (by rw [hr_.out]; simp)
                                      · rw [if_neg c138] at H
                                        have c138b0 : (t357 != t355) = false := by simpa using c138
                                        (try (have c138b1 : decide (t357 = t355) = true := by simpa using c138))
                                        (try (have c138b2 : (t357 == t355) = true := by simpa using c138))
                                        clear c138
                                        as_aux_lemma =>
                                          have H' := Aside0.mk H
                                          clear H
                                          have hnb139 := NB333_328.out
                                          have hnc139 := NB328_333.out
                                          have hnb140 := NB333_329.out
                                          have hnc140 := NB329_333.out
                                          have hnb141 := NB333_337.out
                                          have hnc141 := NB337_333.out
                                          have hnb142 := NB333_341.out
                                          have hnc142 := NB341_333.out
                                          have hnb143 := NB333_345.out
                                          have hnc143 := NB345_333.out
                                          have hcz144_0 := cq_ BK333.out 0 (.int .i64 t330)
                                          have hcz144_1 := cq_ BK333.out 1 (.int .i64 t331)
                                          have hfz144_0 := blk_frozen BK333.out 0
                                          have hfz144_1 := blk_frozen BK333.out 1
                                          go_wp2_with (first | ((with_reducible refine gate_callee (f := 34) rfl ?_); refine goesL_ (some 168) rfl rfl Try.func34 (by kernel_rfl) rfl #[.agg #[.int .i64 t330, .int .i64 t331], .int .i64 t351] rfl (by (try simp only [List.map_toArray, List.map_cons, List.map_nil]); first | done | rfl | (simp only [List.length_drop, List.length_take]; rfl)) ?_; (with_reducible refine (impl_MayBe.calls t330 t331 t351 t357 true _ A136.out).mono ?_); rintro e w145 ⟨rfl, hb⟩; refine ⟨_, rfl, ?_⟩; have n0_ := Aside0.mk (blk_below (bk_ BK328.out) hb); have n1_ := Aside0.mk (blk_below (bk_ BK329.out) hb); have n2_ := Aside0.mk (blk_below (bk_ BK333.out) hb); have n3_ := Aside0.mk (blk_below (bk_ BK337.out) hb); have n4_ := Aside0.mk (blk_below (bk_ BK341.out) hb); have n5_ := Aside0.mk (blk_below (bk_ BK345.out) hb); have n6_ := Aside0.mk (below_step (bq_) hb); clear BK328; clear BK329; clear BK333; clear BK337; clear BK341; clear BK345; clear HB; have BK328 := n0_; have BK329 := n1_; have BK333 := n2_; have BK337 := n3_; have BK341 := n4_; have BK345 := n5_; have HB := n6_; clear n0_ n1_ n2_ n3_ n4_ n5_ n6_; (try clear hb); (try clear hb2); (try clear hk); (try clear hi)))
                                          go_roundg kj112
                                          case measure => have := HJ8.out; have := HJ72.out; have := HK3.out; have := HJ112.out; omega
                                          case rel => exact ⟨(wrap64 (x17_3 + 1)), (by first | rfl | (simp; done) | (simp [*]; done)), H', ⟨by have := HJ8.out; have := HJ72.out; have := HK3.out; have := HJ112.out; omega⟩, ⟨bk_ BK328.out⟩, ⟨bk_ BK329.out⟩, ⟨bk_ BK333.out⟩, ⟨bk_ BK337.out⟩, ⟨bk_ BK341.out⟩, ⟨bk_ BK345.out⟩, ⟨bq_⟩⟩
                                    · replace c137 := Bool.eq_false_iff.mpr c137
                                      subst c137
                                      have H1 : (some false) = some r := by rw [if_neg (show ¬ (false = true) by decide)] at H; exact H
                                      clear H
                                      have H := H1
                                      clear H1
                                      exact absurd (Option.some.inj H).symm (by rw [hr_.out]; simp)
                                  · replace c135 := Bool.eq_false_iff.mpr c135
                                    subst c135
                                    have H1 : (laws_FnBits.l0 kj112 l1 false t346 (wrap64 (x17_3 + 1)) t324 t325 t326 t327 t330 t331 t338 t339) = some r := by rw [if_neg (show ¬ (false = true) by decide)] at H; exact H
                                    clear H
                                    have H := H1
                                    clear H1
                                    as_aux_lemma =>
                                      have H' := Aside0.mk H
                                      clear H
                                      go_wp2
                                      go_roundg kj112
                                      case measure => have := HJ8.out; have := HJ72.out; have := HK3.out; have := HJ112.out; omega
                                      case rel => exact ⟨(wrap64 (x17_3 + 1)), (by first | rfl | (simp; done) | (simp [*]; done)), H', ⟨by have := HJ8.out; have := HJ72.out; have := HK3.out; have := HJ112.out; omega⟩, ⟨bk_ BK328.out⟩, ⟨bk_ BK329.out⟩, ⟨bk_ BK333.out⟩, ⟨bk_ BK337.out⟩, ⟨bk_ BK341.out⟩, ⟨bk_ BK345.out⟩, ⟨bq_⟩⟩
                        · rw [if_neg c107] at H
                          have c107b0 : decide (x17_3 < 32) = false := decide_eq_false c107
                          clear c107
                          as_aux_lemma =>
                            have H' := Aside0.mk H
                            clear H
                            go_wp2
                            go_meet
                            case rel => exact ⟨_, H', ⟨by have := HJ8.out; have := HJ72.out; have := HK3.out; first | omega | exact Nat.le_refl _⟩, ⟨bk_ BK328.out⟩, ⟨bk_ BK329.out⟩, ⟨bk_ BK333.out⟩, ⟨bk_ BK337.out⟩, ⟨bk_ BK341.out⟩, ⟨bk_ BK345.out⟩, ⟨bq_⟩⟩
            · replace c71 := Bool.eq_false_iff.mpr c71
              subst c71
              have H1 : (laws_FnBits.j4 kj8 l1) = some r := by rw [if_neg (show ¬ (false = true) by decide)] at H; exact H
              clear H
              have H := H1
              clear H1
              as_aux_lemma =>
                have H' := Aside0.mk H
                clear H
                go_wp2
                go_meet
                case rel => exact ⟨_, H', ⟨by have := HJ8.out; first | omega | exact Nat.le_refl _⟩, ⟨bk_ BK328.out⟩, ⟨bk_ BK329.out⟩, ⟨bk_ BK333.out⟩, ⟨bk_ BK337.out⟩, ⟨bk_ BK341.out⟩, ⟨bk_ BK345.out⟩, ⟨bq_⟩⟩
          case rest =>
            clear HC70
            try clear c1
            try clear c2
            try clear p2
            try clear c3
            try clear c3b0
            try clear c4
            try clear c5
            try clear c6
            try clear p6
            try clear c7
            try clear c8
            try clear c9
            try clear c10
            try clear c11
            try clear c12
            try clear c13
            try clear c14
            try clear c18
            try clear c19
            try clear c20
            try clear c25
            try clear c26
            try clear c27
            try clear c28
            try clear c29
            try clear c30
            try clear c31
            try clear c33
            try clear c34
            try clear c35
            try clear c36
            try clear c42
            try clear c43
            try clear c44
            try clear c45
            try clear c46
            try clear c48
            try clear c48b0
            try clear c48b1
            try clear c48b2
            try clear c49
            try clear c49b0
            try clear c50
            try clear c50b0
            try clear c50b1
            try clear c50b2
            try clear c51
            try clear c52
            try clear c53
            try clear c54
            try clear c55
            try clear c57
            try clear c58
            try clear c59
            try clear c60
            try clear c62
            try clear c63
            try clear c64
            try clear p64
            try clear c66
            try clear c67
            try clear c69
            try clear c71
            try clear c74
            try clear c75
            try clear c76
            try clear c77
            try clear c78
            try clear c81
            try clear c83
            try clear c84
            try clear c86
            try clear c87
            try clear c88
            try clear c89
            try clear c90
            try clear c93
            try clear c94
            try clear c95
            try clear c96
            try clear c99
            try clear c100
            try clear c101
            try clear c102
            try clear c103
            try clear c106
            try clear c107
            try clear c107b0
            try clear c109
            try clear c109b0
            try clear c109b1
            try clear c116
            try clear c117
            try clear c118
            try clear c119
            try clear c120
            try clear c123
            try clear c124
            try clear c125
            try clear c126
            try clear c129
            try clear c130
            try clear c131
            try clear c132
            try clear c133
            try clear c134
            try clear c135
            try clear c137
            try clear c138
            try clear c138b0
            try clear c138b1
            try clear c138b2
            try clear c139
            try clear c140
            try clear c141
            try clear c142
            try clear c143
            try clear hcz104_0
            try clear hcz104_1
            try clear hcz121_0
            try clear hcz121_1
            try clear hcz127_0
            try clear hcz127_1
            try clear hcz144_0
            try clear hcz144_1
            try clear hcz14_0
            try clear hcz14_1
            try clear hcz15_0
            try clear hcz15_1
            try clear hcz20_0
            try clear hcz20_1
            try clear hcz21_0
            try clear hcz21_1
            try clear hcz22_0
            try clear hcz22_1
            try clear hcz28_0
            try clear hcz28_1
            try clear hcz29_0
            try clear hcz29_1
            try clear hcz30_0
            try clear hcz30_1
            try clear hcz37_0
            try clear hcz37_1
            try clear hcz38_0
            try clear hcz38_1
            try clear hcz39_0
            try clear hcz39_1
            try clear hcz47_0
            try clear hcz47_1
            try clear hcz56_0
            try clear hcz56_1
            try clear hcz61_0
            try clear hcz61_1
            try clear hcz65_0
            try clear hcz65_1
            try clear hcz68_0
            try clear hcz68_1
            try clear hcz79_0
            try clear hcz79_1
            try clear hcz91_0
            try clear hcz91_1
            try clear hcz97_0
            try clear hcz97_1
            try clear hfz104_0
            try clear hfz104_1
            try clear hfz121_0
            try clear hfz121_1
            try clear hfz127_0
            try clear hfz127_1
            try clear hfz144_0
            try clear hfz144_1
            try clear hfz14_0
            try clear hfz14_1
            try clear hfz15_0
            try clear hfz15_1
            try clear hfz20_0
            try clear hfz20_1
            try clear hfz21_0
            try clear hfz21_1
            try clear hfz22_0
            try clear hfz22_1
            try clear hfz28_0
            try clear hfz28_1
            try clear hfz29_0
            try clear hfz29_1
            try clear hfz30_0
            try clear hfz30_1
            try clear hfz37_0
            try clear hfz37_1
            try clear hfz38_0
            try clear hfz38_1
            try clear hfz39_0
            try clear hfz39_1
            try clear hfz47_0
            try clear hfz47_1
            try clear hfz56_0
            try clear hfz56_1
            try clear hfz61_0
            try clear hfz61_1
            try clear hfz65_0
            try clear hfz65_1
            try clear hfz68_0
            try clear hfz68_1
            try clear hfz79_0
            try clear hfz79_1
            try clear hfz91_0
            try clear hfz91_1
            try clear hfz97_0
            try clear hfz97_1
            try clear p2
            try clear p6
            try clear p64
            obtain ⟨kq, HA, HJ69, BK328, BK329, BK333, BK337, BK341, BK345, HB⟩ := hcut
            cases kq with
            | zero => exact absurd HA.out (by simp [laws_FnBits.j4])
            | succ kj69 =>
              have H := HA.out
              clear HA
              simp only [laws_FnBits.j4] at H
              replace H := Option.bind_eq_some_iff.mp H
              obtain ⟨t359, A1460, H⟩ := H
              replace H : ((impl_KnownOf.f kj69 t359).bind fun bt362 => ((spec_KnownOf.f kj69 t359).bind fun bt366 => (if (bt362.2.2 != bt366.2.2) = true then (laws_FnBits.j5 kj69 l1 t359 bt362.2.2 true bt362.1 bt362.2.1) else (laws_FnBits.j5 kj69 l1 t359 bt362.2.2 (!(bt362.1 == bt366.1) || (!(bt362.2.1 == bt366.2.1))) bt362.1 bt362.2.1)))) = some r := H
              have A146 := Aside0.mk A1460
              clear A1460
              replace H := Option.bind_eq_some_iff.mp H
              obtain ⟨⟨t362, t363, t364⟩, A1470, H⟩ := H
              replace H : ((spec_KnownOf.f kj69 t359).bind fun bt366 => (if (t364 != bt366.2.2) = true then (laws_FnBits.j5 kj69 l1 t359 t364 true t362 t363) else (laws_FnBits.j5 kj69 l1 t359 t364 (!(t362 == bt366.1) || (!(t363 == bt366.2.1))) t362 t363))) = some r := H
              have A147 := Aside0.mk A1470
              clear A1470
              replace H := Option.bind_eq_some_iff.mp H
              obtain ⟨⟨t366, t367, t368⟩, A1480, H⟩ := H
              replace H : (if (t364 != t368) = true then (laws_FnBits.j5 kj69 l1 t359 t364 true t362 t363) else (laws_FnBits.j5 kj69 l1 t359 t364 (!(t362 == t366) || (!(t363 == t367))) t362 t363)) = some r := H
              have A148 := Aside0.mk A1480
              clear A1480
              have HC149 := Aside0.mk H
              clear H
              go_upto_region 29 with (first | ((with_reducible refine gate_callee (f := 35) rfl ?_); refine goesL_ (some 179) rfl rfl Try.func35 (by kernel_rfl) rfl #[.slice A1 l1.length c1] rfl (by (try simp only [List.map_toArray, List.map_cons, List.map_nil]); first | done | rfl | (simp only [List.length_drop, List.length_take]; rfl)) ?_; (with_reducible refine (spec_DrawKnownOf.calls kj69 _ _ l1 t359 _ ?side1 ?side2 A146.out).mono ?_); (case side1 => repeat (first | exact (Kd.C_below HR1.out HB.out) | (with_reducible refine Kd.C_alloc ?_ _) | (with_reducible refine Kd.C_drewN ?_ _) | (with_reducible refine Kd.C_drew ?_))); (case side2 => exact HC1.out); rintro e w150 ⟨v360, rfl, ho0, hb⟩; refine ⟨_, rfl, ?_⟩; have n0_ := Aside0.mk (Kd.R_lower ho0 (below_size (bq_))); have n1_ := Aside0.mk (blk_below (bk_ BK328.out) hb); have n2_ := Aside0.mk (blk_below (bk_ BK329.out) hb); have n3_ := Aside0.mk (blk_below (bk_ BK333.out) hb); have n4_ := Aside0.mk (blk_below (bk_ BK337.out) hb); have n5_ := Aside0.mk (blk_below (bk_ BK341.out) hb); have n6_ := Aside0.mk (blk_below (bk_ BK345.out) hb); have n7_ := Aside0.mk (below_step (bq_) hb); clear BK328; clear BK329; clear BK333; clear BK337; clear BK341; clear BK345; clear HB; have HO361 := n0_; have BK328 := n1_; have BK329 := n2_; have BK333 := n3_; have BK337 := n4_; have BK341 := n5_; have BK345 := n6_; have HB := n7_; clear n0_ n1_ n2_ n3_ n4_ n5_ n6_ n7_; (try clear hb); (try clear hb2); (try clear hk); (try clear hi); (try clear ho0); obtain ⟨Ao151, co151, eo151⟩ := Kd.R_slice HO361.out; subst eo151) | ((with_reducible refine gate_callee (f := 16) rfl ?_); refine goesL_ (some 182) rfl rfl Try.func16 (by kernel_rfl) rfl #[.slice Ao151 t359.length co151] rfl (by (try simp only [List.map_toArray, List.map_cons, List.map_nil]); first | done | rfl | (simp only [List.length_drop, List.length_take]; rfl)) ?_; (with_reducible refine (impl_KnownOf.calls kj69 _ _ t359 t362 t363 t364 _ ?side1 ?side2 A147.out).mono ?_); (case side1 => repeat (first | exact (Kd.R_reads' HO361.out).2.2 | (with_reducible refine Kd.C_alloc ?_ _) | (with_reducible refine Kd.C_drewN ?_ _) | (with_reducible refine Kd.C_drew ?_))); (case side2 => exact (Kd.R_reads' HO361.out).2.1); rintro e w152 ⟨rfl, hb⟩; refine ⟨_, rfl, ?_⟩; have n0_ := Aside0.mk (Kd.R_below (rq_ HO361.out) hb); have n1_ := Aside0.mk (blk_below (bk_ BK328.out) hb); have n2_ := Aside0.mk (blk_below (bk_ BK329.out) hb); have n3_ := Aside0.mk (blk_below (bk_ BK333.out) hb); have n4_ := Aside0.mk (blk_below (bk_ BK337.out) hb); have n5_ := Aside0.mk (blk_below (bk_ BK341.out) hb); have n6_ := Aside0.mk (blk_below (bk_ BK345.out) hb); have n7_ := Aside0.mk (below_step (bq_) hb); clear HO361; clear BK328; clear BK329; clear BK333; clear BK337; clear BK341; clear BK345; clear HB; have HO361 := n0_; have BK328 := n1_; have BK329 := n2_; have BK333 := n3_; have BK337 := n4_; have BK341 := n5_; have BK345 := n6_; have HB := n7_; clear n0_ n1_ n2_ n3_ n4_ n5_ n6_ n7_; (try clear hb); (try clear hb2); (try clear hk); (try clear hi)) | ((with_reducible refine gate_dst (N := 27) rfl ?_); refine boxq_ (N := 27) (cs := #[.int .i64 0, .int .i64 0]) (t := 26) ?_; intro gb365 hg w153 hbox hb; have n0_ := Aside0.mk (Kd.R_below (rq_ HO361.out) hb); have n1_ := Aside0.mk (blk_below (bk_ BK328.out) hb); have n2_ := Aside0.mk (blk_below (bk_ BK329.out) hb); have n3_ := Aside0.mk (blk_below (bk_ BK333.out) hb); have n4_ := Aside0.mk (blk_below (bk_ BK337.out) hb); have n5_ := Aside0.mk (blk_below (bk_ BK341.out) hb); have n6_ := Aside0.mk (blk_below (bk_ BK345.out) hb); have n7_ := Aside0.mk (below_step (bq_) hb); have n8_ := Aside0.mk (hbox); have n9_ := Aside0.mk ((by rw [hg]; exact (below_size (bq_)) : w.heap.size ≤ gb365)); have n10_ := Aside0.mk ((by rw [hg]; exact (below_size (bq_)) : w.heap.size ≤ gb365)); have n11_ := Aside0.mk ((by rw [hg]; exact Nat.ne_of_lt (blk_lt (bk_ BK328.out)) : gb328 ≠ gb365)); have n12_ := Aside0.mk ((by rw [hg]; exact Nat.ne_of_gt (blk_lt (bk_ BK328.out)) : gb365 ≠ gb328)); have n13_ := Aside0.mk ((by rw [hg]; exact Nat.ne_of_lt (blk_lt (bk_ BK329.out)) : gb329 ≠ gb365)); have n14_ := Aside0.mk ((by rw [hg]; exact Nat.ne_of_gt (blk_lt (bk_ BK329.out)) : gb365 ≠ gb329)); have n15_ := Aside0.mk ((by rw [hg]; exact Nat.ne_of_lt (blk_lt (bk_ BK333.out)) : gb333 ≠ gb365)); have n16_ := Aside0.mk ((by rw [hg]; exact Nat.ne_of_gt (blk_lt (bk_ BK333.out)) : gb365 ≠ gb333)); have n17_ := Aside0.mk ((by rw [hg]; exact Nat.ne_of_lt (blk_lt (bk_ BK337.out)) : gb337 ≠ gb365)); have n18_ := Aside0.mk ((by rw [hg]; exact Nat.ne_of_gt (blk_lt (bk_ BK337.out)) : gb365 ≠ gb337)); have n19_ := Aside0.mk ((by rw [hg]; exact Nat.ne_of_lt (blk_lt (bk_ BK341.out)) : gb341 ≠ gb365)); have n20_ := Aside0.mk ((by rw [hg]; exact Nat.ne_of_gt (blk_lt (bk_ BK341.out)) : gb365 ≠ gb341)); have n21_ := Aside0.mk ((by rw [hg]; exact Nat.ne_of_lt (blk_lt (bk_ BK345.out)) : gb345 ≠ gb365)); have n22_ := Aside0.mk ((by rw [hg]; exact Nat.ne_of_gt (blk_lt (bk_ BK345.out)) : gb365 ≠ gb345)); clear HO361; clear BK328; clear BK329; clear BK333; clear BK337; clear BK341; clear BK345; clear HB; have HO361 := n0_; have BK328 := n1_; have BK329 := n2_; have BK333 := n3_; have BK337 := n4_; have BK341 := n5_; have BK345 := n6_; have HB := n7_; have BK365 := n8_; have GW365 := n9_; have GE365 := n10_; have NB328_365 := n11_; have NB365_328 := n12_; have NB329_365 := n13_; have NB365_329 := n14_; have NB333_365 := n15_; have NB365_333 := n16_; have NB337_365 := n17_; have NB365_337 := n18_; have NB341_365 := n19_; have NB365_341 := n20_; have NB345_365 := n21_; have NB365_345 := n22_; clear n0_ n1_ n2_ n3_ n4_ n5_ n6_ n7_ n8_ n9_ n10_ n11_ n12_ n13_ n14_ n15_ n16_ n17_ n18_ n19_ n20_ n21_ n22_; clear hb hbox hg; have hnb154 := NB365_328.out; have hnc154 := NB328_365.out; have hnb155 := NB365_329.out; have hnc155 := NB329_365.out; have hnb156 := NB365_333.out; have hnc156 := NB333_365.out; have hnb157 := NB365_337.out; have hnc157 := NB337_365.out; have hnb158 := NB365_341.out; have hnc158 := NB341_365.out; have hnb159 := NB365_345.out; have hnc159 := NB345_365.out; have hcz160_0 := cq_ BK365.out 0 (.int .i64 0); have hcz160_1 := cq_ BK365.out 1 (.int .i64 0); have hfz160_0 := blk_frozen BK365.out 0; have hfz160_1 := blk_frozen BK365.out 1) | ((with_reducible refine gate_callee (f := 14) rfl ?_); refine goesL_ (some 187) rfl rfl Try.func14 (by kernel_rfl) rfl #[.slice Ao151 t359.length co151] rfl (by (try simp only [List.map_toArray, List.map_cons, List.map_nil]); first | done | rfl | (simp only [List.length_drop, List.length_take]; rfl)) ?_; (with_reducible refine (spec_KnownOf.calls kj69 _ _ t359 t366 t367 t368 _ ?side1 ?side2 A148.out).mono ?_); (case side1 => refine (Kd.R_reads' (e := 3) (base := w.heap.size) (ok := fun k_ => True) (n := t359.length) (c := co151) ?_).2.2; exact (rq_ ((Kd.R_mono (Kd.R_far (p := ⟨gb365, 1, none⟩) (Kd.R_far (p := ⟨gb365, 0, none⟩) (Kd.R_types HO361.out BK365.out (by decide)) (fun _ hk => hk.2) (.int .i64 t362)) (fun _ hk => hk.2) (.int .i64 t363)) (fun _ h_ => h_.1))))); (case side2 => exact (Kd.R_reads' HO361.out).2.1); rintro e w161 ⟨rfl, hb⟩; refine ⟨_, rfl, ?_⟩; have n0_ := Aside0.mk (Kd.R_below (rq_ ((Kd.R_mono (Kd.R_far (p := ⟨gb365, 1, none⟩) (Kd.R_far (p := ⟨gb365, 0, none⟩) (Kd.R_types HO361.out BK365.out (by decide)) (fun _ hk => hk.2) (.int .i64 t362)) (fun _ hk => hk.2) (.int .i64 t363)) (fun _ h_ => h_.1)))) hb); have n1_ := Aside0.mk (blk_below (g := gb328) (o := .cells #[.int .i64 t324, .int .i64 t325] 26 (0, 0)) (by (with_reducible repeat (first | refine blk_drewN ?_ _ | refine blk_drew ?_ | refine blk_alloc ?_ _)); refine blk_far ?_ NB328_365.out _; (with_reducible repeat (first | refine blk_drewN ?_ _ | refine blk_drew ?_ | refine blk_alloc ?_ _)); refine blk_far ?_ NB328_365.out _; (with_reducible repeat (first | refine blk_drewN ?_ _ | refine blk_drew ?_ | refine blk_alloc ?_ _)); exact BK328.out) hb); have n2_ := Aside0.mk (blk_below (g := gb329) (o := .cells #[.int .i64 t326, .int .i64 t327] 26 (0, 0)) (by (with_reducible repeat (first | refine blk_drewN ?_ _ | refine blk_drew ?_ | refine blk_alloc ?_ _)); refine blk_far ?_ NB329_365.out _; (with_reducible repeat (first | refine blk_drewN ?_ _ | refine blk_drew ?_ | refine blk_alloc ?_ _)); refine blk_far ?_ NB329_365.out _; (with_reducible repeat (first | refine blk_drewN ?_ _ | refine blk_drew ?_ | refine blk_alloc ?_ _)); exact BK329.out) hb); have n3_ := Aside0.mk (blk_below (g := gb333) (o := .cells #[.int .i64 t330, .int .i64 t331] 26 (0, 0)) (by (with_reducible repeat (first | refine blk_drewN ?_ _ | refine blk_drew ?_ | refine blk_alloc ?_ _)); refine blk_far ?_ NB333_365.out _; (with_reducible repeat (first | refine blk_drewN ?_ _ | refine blk_drew ?_ | refine blk_alloc ?_ _)); refine blk_far ?_ NB333_365.out _; (with_reducible repeat (first | refine blk_drewN ?_ _ | refine blk_drew ?_ | refine blk_alloc ?_ _)); exact BK333.out) hb); have n4_ := Aside0.mk (blk_below (g := gb337) (o := .cells #[.int .i64 t334, .int .i64 t335] 26 (0, 0)) (by (with_reducible repeat (first | refine blk_drewN ?_ _ | refine blk_drew ?_ | refine blk_alloc ?_ _)); refine blk_far ?_ NB337_365.out _; (with_reducible repeat (first | refine blk_drewN ?_ _ | refine blk_drew ?_ | refine blk_alloc ?_ _)); refine blk_far ?_ NB337_365.out _; (with_reducible repeat (first | refine blk_drewN ?_ _ | refine blk_drew ?_ | refine blk_alloc ?_ _)); exact BK337.out) hb); have n5_ := Aside0.mk (blk_below (g := gb341) (o := .cells #[.int .i64 t338, .int .i64 t339] 26 (0, 0)) (by (with_reducible repeat (first | refine blk_drewN ?_ _ | refine blk_drew ?_ | refine blk_alloc ?_ _)); refine blk_far ?_ NB341_365.out _; (with_reducible repeat (first | refine blk_drewN ?_ _ | refine blk_drew ?_ | refine blk_alloc ?_ _)); refine blk_far ?_ NB341_365.out _; (with_reducible repeat (first | refine blk_drewN ?_ _ | refine blk_drew ?_ | refine blk_alloc ?_ _)); exact BK341.out) hb); have n6_ := Aside0.mk (blk_below (g := gb345) (o := .cells #[.int .i64 t342, .int .i64 t343] 26 (0, 0)) (by (with_reducible repeat (first | refine blk_drewN ?_ _ | refine blk_drew ?_ | refine blk_alloc ?_ _)); refine blk_far ?_ NB345_365.out _; (with_reducible repeat (first | refine blk_drewN ?_ _ | refine blk_drew ?_ | refine blk_alloc ?_ _)); refine blk_far ?_ NB345_365.out _; (with_reducible repeat (first | refine blk_drewN ?_ _ | refine blk_drew ?_ | refine blk_alloc ?_ _)); exact BK345.out) hb); have n7_ := Aside0.mk (blk_below (g := gb365) (o := .cells #[.int .i64 t362, .int .i64 t363] 26 (0, 0)) (by (with_reducible repeat (first | refine blk_drewN ?_ _ | refine blk_drew ?_ | refine blk_alloc ?_ _)); refine blk_put (cs := #[.int .i64 t362, .int .i64 0]) ?_ 1 _ rfl; (with_reducible repeat (first | refine blk_drewN ?_ _ | refine blk_drew ?_ | refine blk_alloc ?_ _)); refine blk_put (cs := #[.int .i64 0, .int .i64 0]) ?_ 0 _ rfl; (with_reducible repeat (first | refine blk_drewN ?_ _ | refine blk_drew ?_ | refine blk_alloc ?_ _)); exact BK365.out) hb); have n8_ := Aside0.mk (below_step (bq_) hb); clear HO361; clear BK328; clear BK329; clear BK333; clear BK337; clear BK341; clear BK345; clear BK365; clear HB; have HO361 := n0_; have BK328 := n1_; have BK329 := n2_; have BK333 := n3_; have BK337 := n4_; have BK341 := n5_; have BK345 := n6_; have BK365 := n7_; have HB := n8_; clear n0_ n1_ n2_ n3_ n4_ n5_ n6_ n7_ n8_; (try clear hb); (try clear hb2); (try clear hk); (try clear hi)) | ((with_reducible refine gate_dst (N := 29) rfl ?_); refine boxq_ (N := 29) (cs := #[.int .i64 0, .int .i64 0]) (t := 26) ?_; intro gb369 hg w162 hbox hb; have n0_ := Aside0.mk (Kd.R_below (rq_ HO361.out) hb); have n1_ := Aside0.mk (blk_below (bk_ BK328.out) hb); have n2_ := Aside0.mk (blk_below (bk_ BK329.out) hb); have n3_ := Aside0.mk (blk_below (bk_ BK333.out) hb); have n4_ := Aside0.mk (blk_below (bk_ BK337.out) hb); have n5_ := Aside0.mk (blk_below (bk_ BK341.out) hb); have n6_ := Aside0.mk (blk_below (bk_ BK345.out) hb); have n7_ := Aside0.mk (blk_below (bk_ BK365.out) hb); have n8_ := Aside0.mk (below_step (bq_) hb); have n9_ := Aside0.mk (hbox); have n10_ := Aside0.mk ((by rw [hg]; exact (below_size (bq_)) : w.heap.size ≤ gb369)); have n11_ := Aside0.mk ((by rw [hg]; exact (below_size (bq_)) : w.heap.size ≤ gb369)); have n12_ := Aside0.mk ((by rw [hg]; exact Nat.ne_of_lt (blk_lt (bk_ BK328.out)) : gb328 ≠ gb369)); have n13_ := Aside0.mk ((by rw [hg]; exact Nat.ne_of_gt (blk_lt (bk_ BK328.out)) : gb369 ≠ gb328)); have n14_ := Aside0.mk ((by rw [hg]; exact Nat.ne_of_lt (blk_lt (bk_ BK329.out)) : gb329 ≠ gb369)); have n15_ := Aside0.mk ((by rw [hg]; exact Nat.ne_of_gt (blk_lt (bk_ BK329.out)) : gb369 ≠ gb329)); have n16_ := Aside0.mk ((by rw [hg]; exact Nat.ne_of_lt (blk_lt (bk_ BK333.out)) : gb333 ≠ gb369)); have n17_ := Aside0.mk ((by rw [hg]; exact Nat.ne_of_gt (blk_lt (bk_ BK333.out)) : gb369 ≠ gb333)); have n18_ := Aside0.mk ((by rw [hg]; exact Nat.ne_of_lt (blk_lt (bk_ BK337.out)) : gb337 ≠ gb369)); have n19_ := Aside0.mk ((by rw [hg]; exact Nat.ne_of_gt (blk_lt (bk_ BK337.out)) : gb369 ≠ gb337)); have n20_ := Aside0.mk ((by rw [hg]; exact Nat.ne_of_lt (blk_lt (bk_ BK341.out)) : gb341 ≠ gb369)); have n21_ := Aside0.mk ((by rw [hg]; exact Nat.ne_of_gt (blk_lt (bk_ BK341.out)) : gb369 ≠ gb341)); have n22_ := Aside0.mk ((by rw [hg]; exact Nat.ne_of_lt (blk_lt (bk_ BK345.out)) : gb345 ≠ gb369)); have n23_ := Aside0.mk ((by rw [hg]; exact Nat.ne_of_gt (blk_lt (bk_ BK345.out)) : gb369 ≠ gb345)); have n24_ := Aside0.mk ((by rw [hg]; exact Nat.ne_of_lt (blk_lt (bk_ BK365.out)) : gb365 ≠ gb369)); have n25_ := Aside0.mk ((by rw [hg]; exact Nat.ne_of_gt (blk_lt (bk_ BK365.out)) : gb369 ≠ gb365)); clear HO361; clear BK328; clear BK329; clear BK333; clear BK337; clear BK341; clear BK345; clear BK365; clear HB; have HO361 := n0_; have BK328 := n1_; have BK329 := n2_; have BK333 := n3_; have BK337 := n4_; have BK341 := n5_; have BK345 := n6_; have BK365 := n7_; have HB := n8_; have BK369 := n9_; have GW369 := n10_; have GE369 := n11_; have NB328_369 := n12_; have NB369_328 := n13_; have NB329_369 := n14_; have NB369_329 := n15_; have NB333_369 := n16_; have NB369_333 := n17_; have NB337_369 := n18_; have NB369_337 := n19_; have NB341_369 := n20_; have NB369_341 := n21_; have NB345_369 := n22_; have NB369_345 := n23_; have NB365_369 := n24_; have NB369_365 := n25_; clear n0_ n1_ n2_ n3_ n4_ n5_ n6_ n7_ n8_ n9_ n10_ n11_ n12_ n13_ n14_ n15_ n16_ n17_ n18_ n19_ n20_ n21_ n22_ n23_ n24_ n25_; clear hb hbox hg; have hnb163 := NB369_328.out; have hnc163 := NB328_369.out; have hnb164 := NB369_329.out; have hnc164 := NB329_369.out; have hnb165 := NB369_333.out; have hnc165 := NB333_369.out; have hnb166 := NB369_337.out; have hnc166 := NB337_369.out; have hnb167 := NB369_341.out; have hnc167 := NB341_369.out; have hnb168 := NB369_345.out; have hnc168 := NB345_369.out; have hnb169 := NB369_365.out; have hnc169 := NB365_369.out; have hcz170_0 := cq_ BK369.out 0 (.int .i64 0); have hcz170_1 := cq_ BK369.out 1 (.int .i64 0); have hfz170_0 := blk_frozen BK369.out 0; have hfz170_1 := blk_frozen BK369.out 1))
              (try simp only [Act.put, List.setIfInBounds_toArray, List.set_cons_zero, List.set_cons_succ])
              go_cut [197] (fun v197 wc => ∃ (kq : Nat) (x197_148 : Bool), v197 = .bool x197_148 ∧ Aside0 (laws_FnBits.j5 kq l1 t359 t364 x197_148 t362 t363 = some r) ∧ Aside0 (kq ≤ kj69) ∧ Aside0 (Kd.R (Kd.int .i64) 3 wc w.heap.size (fun _ => True) (.slice Ao151 t359.length co151) t359) ∧ Aside0 (wc.heap[gb328]? = some (.cells #[.int .i64 t324, .int .i64 t325] 26 (0, 0))) ∧ Aside0 (wc.heap[gb329]? = some (.cells #[.int .i64 t326, .int .i64 t327] 26 (0, 0))) ∧ Aside0 (wc.heap[gb333]? = some (.cells #[.int .i64 t330, .int .i64 t331] 26 (0, 0))) ∧ Aside0 (wc.heap[gb337]? = some (.cells #[.int .i64 t334, .int .i64 t335] 26 (0, 0))) ∧ Aside0 (wc.heap[gb341]? = some (.cells #[.int .i64 t338, .int .i64 t339] 26 (0, 0))) ∧ Aside0 (wc.heap[gb345]? = some (.cells #[.int .i64 t342, .int .i64 t343] 26 (0, 0))) ∧ Aside0 (wc.heap[gb365]? = some (.cells #[.int .i64 t362, .int .i64 t363] 26 (0, 0))) ∧ Aside0 (wc.heap[gb369]? = some (.cells #[.int .i64 t366, .int .i64 t367] 26 (0, 0))) ∧ Aside0 (Below w.heap.size w wc))
              case first =>
                have H := HC149.out
                clear HC149
                by_cases c171 : (t364 != t368) = true
                · rw [if_pos c171] at H
                  have c171b0 : (t364 != t368) = true := c171
                  (try (have c171b1 : decide (t364 = t368) = false := by simpa using c171))
                  (try (have c171b2 : (t364 == t368) = false := by simpa using c171))
                  (try (have c171b3 : ¬ (t364 = t368) := by simpa using c171))
                  clear c171
                  (first | rw [c171b0] | (simp only [i64_w, i32_w]; rw [c171b0]) | skip)
                  exact (laws_FnBits.j5_no_3 (by rw [hr_.out] at H; exact H)).elim
                · rw [if_neg c171] at H
                  have c171b0 : (t364 != t368) = false := by simpa using c171
                  (try (have c171b1 : decide (t364 = t368) = true := by simpa using c171))
                  (try (have c171b2 : (t364 == t368) = true := by simpa using c171))
                  clear c171
                  (first | rw [c171b0] | (simp only [i64_w, i32_w]; rw [c171b0]) | skip)
                  as_aux_lemma =>
                    have H' := Aside0.mk H
                    clear H
                    have hnb172 := NB365_328.out
                    have hnc172 := NB328_365.out
                    have hnb173 := NB365_329.out
                    have hnc173 := NB329_365.out
                    have hnb174 := NB365_333.out
                    have hnc174 := NB333_365.out
                    have hnb175 := NB365_337.out
                    have hnc175 := NB337_365.out
                    have hnb176 := NB365_341.out
                    have hnc176 := NB341_365.out
                    have hnb177 := NB365_345.out
                    have hnc177 := NB345_365.out
                    have hnb178 := NB365_369.out
                    have hnc178 := NB369_365.out
                    have hcz179_0 := cq_ BK365.out 0 (.int .i64 t362)
                    have hcz179_1 := cq_ BK365.out 1 (.int .i64 t363)
                    have hfz179_0 := blk_frozen BK365.out 0
                    have hfz179_1 := blk_frozen BK365.out 1
                    have hnb180 := NB369_328.out
                    have hnc180 := NB328_369.out
                    have hnb181 := NB369_329.out
                    have hnc181 := NB329_369.out
                    have hnb182 := NB369_333.out
                    have hnc182 := NB333_369.out
                    have hnb183 := NB369_337.out
                    have hnc183 := NB337_369.out
                    have hnb184 := NB369_341.out
                    have hnc184 := NB341_369.out
                    have hnb185 := NB369_345.out
                    have hnc185 := NB345_369.out
                    have hcz186_0 := cq_ BK369.out 0 (.int .i64 0)
                    have hcz186_1 := cq_ BK369.out 1 (.int .i64 0)
                    have hfz186_0 := blk_frozen BK369.out 0
                    have hfz186_1 := blk_frozen BK369.out 1
                    go_wp2
                    go_meet
                    case rel => exact ⟨_, ((!(t362 == t366) || (!(t363 == t367)))), (by first | rfl | (simp; done) | (simp [*]; done)), H', ⟨by have := HJ8.out; have := HJ69.out; first | omega | exact Nat.le_refl _⟩, ⟨rq_ (Kd.R_mono (Kd.R_far (p := ⟨gb369, 1, none⟩) (Kd.R_far (p := ⟨gb369, 0, none⟩) (Kd.R_types HO361.out BK369.out (by decide)) (fun _ hk => hk.2) (.int .i64 t366)) (fun _ hk => hk.2) (.int .i64 t367)) (fun _ hk => trivial))⟩, ⟨by (with_reducible repeat (first | refine blk_drewN ?_ _ | refine blk_drew ?_ | refine blk_alloc ?_ _)); refine blk_far ?_ NB328_369.out _; (with_reducible repeat (first | refine blk_drewN ?_ _ | refine blk_drew ?_ | refine blk_alloc ?_ _)); refine blk_far ?_ NB328_369.out _; (with_reducible repeat (first | refine blk_drewN ?_ _ | refine blk_drew ?_ | refine blk_alloc ?_ _)); exact BK328.out⟩, ⟨by (with_reducible repeat (first | refine blk_drewN ?_ _ | refine blk_drew ?_ | refine blk_alloc ?_ _)); refine blk_far ?_ NB329_369.out _; (with_reducible repeat (first | refine blk_drewN ?_ _ | refine blk_drew ?_ | refine blk_alloc ?_ _)); refine blk_far ?_ NB329_369.out _; (with_reducible repeat (first | refine blk_drewN ?_ _ | refine blk_drew ?_ | refine blk_alloc ?_ _)); exact BK329.out⟩, ⟨by (with_reducible repeat (first | refine blk_drewN ?_ _ | refine blk_drew ?_ | refine blk_alloc ?_ _)); refine blk_far ?_ NB333_369.out _; (with_reducible repeat (first | refine blk_drewN ?_ _ | refine blk_drew ?_ | refine blk_alloc ?_ _)); refine blk_far ?_ NB333_369.out _; (with_reducible repeat (first | refine blk_drewN ?_ _ | refine blk_drew ?_ | refine blk_alloc ?_ _)); exact BK333.out⟩, ⟨by (with_reducible repeat (first | refine blk_drewN ?_ _ | refine blk_drew ?_ | refine blk_alloc ?_ _)); refine blk_far ?_ NB337_369.out _; (with_reducible repeat (first | refine blk_drewN ?_ _ | refine blk_drew ?_ | refine blk_alloc ?_ _)); refine blk_far ?_ NB337_369.out _; (with_reducible repeat (first | refine blk_drewN ?_ _ | refine blk_drew ?_ | refine blk_alloc ?_ _)); exact BK337.out⟩, ⟨by (with_reducible repeat (first | refine blk_drewN ?_ _ | refine blk_drew ?_ | refine blk_alloc ?_ _)); refine blk_far ?_ NB341_369.out _; (with_reducible repeat (first | refine blk_drewN ?_ _ | refine blk_drew ?_ | refine blk_alloc ?_ _)); refine blk_far ?_ NB341_369.out _; (with_reducible repeat (first | refine blk_drewN ?_ _ | refine blk_drew ?_ | refine blk_alloc ?_ _)); exact BK341.out⟩, ⟨by (with_reducible repeat (first | refine blk_drewN ?_ _ | refine blk_drew ?_ | refine blk_alloc ?_ _)); refine blk_far ?_ NB345_369.out _; (with_reducible repeat (first | refine blk_drewN ?_ _ | refine blk_drew ?_ | refine blk_alloc ?_ _)); refine blk_far ?_ NB345_369.out _; (with_reducible repeat (first | refine blk_drewN ?_ _ | refine blk_drew ?_ | refine blk_alloc ?_ _)); exact BK345.out⟩, ⟨by (with_reducible repeat (first | refine blk_drewN ?_ _ | refine blk_drew ?_ | refine blk_alloc ?_ _)); refine blk_far ?_ NB365_369.out _; (with_reducible repeat (first | refine blk_drewN ?_ _ | refine blk_drew ?_ | refine blk_alloc ?_ _)); refine blk_far ?_ NB365_369.out _; (with_reducible repeat (first | refine blk_drewN ?_ _ | refine blk_drew ?_ | refine blk_alloc ?_ _)); exact BK365.out⟩, ⟨by (with_reducible repeat (first | refine blk_drewN ?_ _ | refine blk_drew ?_ | refine blk_alloc ?_ _)); refine blk_put (cs := #[.int .i64 t366, .int .i64 0]) ?_ 1 _ rfl; (with_reducible repeat (first | refine blk_drewN ?_ _ | refine blk_drew ?_ | refine blk_alloc ?_ _)); refine blk_put (cs := #[.int .i64 0, .int .i64 0]) ?_ 0 _ rfl; (with_reducible repeat (first | refine blk_drewN ?_ _ | refine blk_drew ?_ | refine blk_alloc ?_ _)); exact BK369.out⟩, ⟨bq_⟩⟩
              case rest =>
                clear HC149
                try clear c1
                try clear c2
                try clear p2
                try clear c3
                try clear c3b0
                try clear c4
                try clear c5
                try clear c6
                try clear p6
                try clear c7
                try clear c8
                try clear c9
                try clear c10
                try clear c11
                try clear c12
                try clear c13
                try clear c14
                try clear c15
                try clear c16
                try clear c17
                try clear c18
                try clear c19
                try clear c20
                try clear c25
                try clear c26
                try clear c27
                try clear c28
                try clear c29
                try clear c30
                try clear c31
                try clear c33
                try clear c34
                try clear c35
                try clear c36
                try clear c42
                try clear c43
                try clear c44
                try clear c45
                try clear c46
                try clear c48
                try clear c48b0
                try clear c48b1
                try clear c48b2
                try clear c49
                try clear c49b0
                try clear c50
                try clear c50b0
                try clear c50b1
                try clear c50b2
                try clear c51
                try clear c52
                try clear c53
                try clear c54
                try clear c55
                try clear c57
                try clear c58
                try clear c59
                try clear c60
                try clear c62
                try clear c63
                try clear c64
                try clear p64
                try clear c66
                try clear c67
                try clear c69
                try clear c71
                try clear c74
                try clear c75
                try clear c76
                try clear c77
                try clear c78
                try clear c81
                try clear c83
                try clear c84
                try clear c86
                try clear c87
                try clear c88
                try clear c89
                try clear c90
                try clear c93
                try clear c94
                try clear c95
                try clear c96
                try clear c99
                try clear c100
                try clear c101
                try clear c102
                try clear c103
                try clear c106
                try clear c107
                try clear c107b0
                try clear c109
                try clear c109b0
                try clear c109b1
                try clear c116
                try clear c117
                try clear c118
                try clear c119
                try clear c120
                try clear c123
                try clear c124
                try clear c125
                try clear c126
                try clear c129
                try clear c130
                try clear c131
                try clear c132
                try clear c133
                try clear c134
                try clear c135
                try clear c137
                try clear c138
                try clear c138b0
                try clear c138b1
                try clear c138b2
                try clear c139
                try clear c140
                try clear c141
                try clear c142
                try clear c143
                try clear c154
                try clear c155
                try clear c156
                try clear c157
                try clear c158
                try clear c159
                try clear c163
                try clear c164
                try clear c165
                try clear c166
                try clear c167
                try clear c168
                try clear c169
                try clear c171
                try clear c171b0
                try clear c171b1
                try clear c171b2
                try clear c172
                try clear c173
                try clear c174
                try clear c175
                try clear c176
                try clear c177
                try clear c178
                try clear c180
                try clear c181
                try clear c182
                try clear c183
                try clear c184
                try clear c185
                try clear hcz104_0
                try clear hcz104_1
                try clear hcz121_0
                try clear hcz121_1
                try clear hcz127_0
                try clear hcz127_1
                try clear hcz144_0
                try clear hcz144_1
                try clear hcz14_0
                try clear hcz14_1
                try clear hcz15_0
                try clear hcz15_1
                try clear hcz160_0
                try clear hcz160_1
                try clear hcz170_0
                try clear hcz170_1
                try clear hcz179_0
                try clear hcz179_1
                try clear hcz186_0
                try clear hcz186_1
                try clear hcz20_0
                try clear hcz20_1
                try clear hcz21_0
                try clear hcz21_1
                try clear hcz22_0
                try clear hcz22_1
                try clear hcz28_0
                try clear hcz28_1
                try clear hcz29_0
                try clear hcz29_1
                try clear hcz30_0
                try clear hcz30_1
                try clear hcz37_0
                try clear hcz37_1
                try clear hcz38_0
                try clear hcz38_1
                try clear hcz39_0
                try clear hcz39_1
                try clear hcz47_0
                try clear hcz47_1
                try clear hcz56_0
                try clear hcz56_1
                try clear hcz61_0
                try clear hcz61_1
                try clear hcz65_0
                try clear hcz65_1
                try clear hcz68_0
                try clear hcz68_1
                try clear hcz79_0
                try clear hcz79_1
                try clear hcz91_0
                try clear hcz91_1
                try clear hcz97_0
                try clear hcz97_1
                try clear hfz104_0
                try clear hfz104_1
                try clear hfz121_0
                try clear hfz121_1
                try clear hfz127_0
                try clear hfz127_1
                try clear hfz144_0
                try clear hfz144_1
                try clear hfz14_0
                try clear hfz14_1
                try clear hfz15_0
                try clear hfz15_1
                try clear hfz160_0
                try clear hfz160_1
                try clear hfz170_0
                try clear hfz170_1
                try clear hfz179_0
                try clear hfz179_1
                try clear hfz186_0
                try clear hfz186_1
                try clear hfz20_0
                try clear hfz20_1
                try clear hfz21_0
                try clear hfz21_1
                try clear hfz22_0
                try clear hfz22_1
                try clear hfz28_0
                try clear hfz28_1
                try clear hfz29_0
                try clear hfz29_1
                try clear hfz30_0
                try clear hfz30_1
                try clear hfz37_0
                try clear hfz37_1
                try clear hfz38_0
                try clear hfz38_1
                try clear hfz39_0
                try clear hfz39_1
                try clear hfz47_0
                try clear hfz47_1
                try clear hfz56_0
                try clear hfz56_1
                try clear hfz61_0
                try clear hfz61_1
                try clear hfz65_0
                try clear hfz65_1
                try clear hfz68_0
                try clear hfz68_1
                try clear hfz79_0
                try clear hfz79_1
                try clear hfz91_0
                try clear hfz91_1
                try clear hfz97_0
                try clear hfz97_1
                try clear p2
                try clear p6
                try clear p64
                obtain ⟨kq, x197_148, rfl, HA, HJ148, HO_26, BK328, BK329, BK333, BK337, BK341, BK345, BK365, BK369, HB⟩ := hcut
                cases kq with
                | zero => exact absurd HA.out (by simp [laws_FnBits.j5])
                | succ kj148 =>
                  have H := HA.out
                  clear HA
                  simp only [laws_FnBits.j5] at H
                  by_cases c187 : x197_148 = true
                  · subst c187
                    have H1 : (some false) = some r := by rw [if_pos rfl] at H; exact H
                    clear H
                    have H := H1
                    clear H1
                    exact absurd (Option.some.inj H).symm (by rw [hr_.out]; simp)
                  · replace c187 := Bool.eq_false_iff.mpr c187
                    subst c187
                    have H1 : (laws_FnBits.l1 kj148 l1 t364 t359 (t359.length : Int) 0 t362 t363) = some r := by rw [if_neg (show ¬ (false = true) by decide)] at H; exact H
                    clear H
                    have H := H1
                    clear H1
                    have H' := Aside0.mk H
                    clear H
                    go_wp2
                    go_loopg [200] kj148 (fun kq v200 w' => ∃ (x200_4 : Int), v200 = .int .i64 x200_4 ∧ Aside0 (laws_FnBits.l1 kq l1 t364 t359 (t359.length : Int) x200_4 t362 t363 = some r) ∧ Aside0 (kq ≤ kj148) ∧ Aside0 (Kd.R (Kd.int .i64) 3 w' w.heap.size (fun _ => True) (.slice Ao151 t359.length co151) t359) ∧ Aside0 (w'.heap[gb328]? = some (.cells #[.int .i64 t324, .int .i64 t325] 26 (0, 0))) ∧ Aside0 (w'.heap[gb329]? = some (.cells #[.int .i64 t326, .int .i64 t327] 26 (0, 0))) ∧ Aside0 (w'.heap[gb333]? = some (.cells #[.int .i64 t330, .int .i64 t331] 26 (0, 0))) ∧ Aside0 (w'.heap[gb337]? = some (.cells #[.int .i64 t334, .int .i64 t335] 26 (0, 0))) ∧ Aside0 (w'.heap[gb341]? = some (.cells #[.int .i64 t338, .int .i64 t339] 26 (0, 0))) ∧ Aside0 (w'.heap[gb345]? = some (.cells #[.int .i64 t342, .int .i64 t343] 26 (0, 0))) ∧ Aside0 (w'.heap[gb365]? = some (.cells #[.int .i64 t362, .int .i64 t363] 26 (0, 0))) ∧ Aside0 (w'.heap[gb369]? = some (.cells #[.int .i64 t366, .int .i64 t367] 26 (0, 0))) ∧ Aside0 (Below w.heap.size w w'))
                    case atStart => exact ⟨(0), (by first | rfl | (simp; done) | (simp [*]; done)), H', ⟨Nat.le_refl _⟩, ⟨rq_ HO_26.out⟩, ⟨bk_ BK328.out⟩, ⟨bk_ BK329.out⟩, ⟨bk_ BK333.out⟩, ⟨bk_ BK337.out⟩, ⟨bk_ BK341.out⟩, ⟨bk_ BK345.out⟩, ⟨bk_ BK365.out⟩, ⟨bk_ BK369.out⟩, ⟨bq_⟩⟩
                    case round =>
                      clear H'
                      try clear c1
                      try clear c2
                      try clear p2
                      try clear c3
                      try clear c3b0
                      try clear c4
                      try clear c5
                      try clear c6
                      try clear p6
                      try clear c7
                      try clear c8
                      try clear c9
                      try clear c10
                      try clear c11
                      try clear c12
                      try clear c13
                      try clear c14
                      try clear c15
                      try clear c16
                      try clear c17
                      try clear c18
                      try clear c19
                      try clear c20
                      try clear c25
                      try clear c26
                      try clear c27
                      try clear c28
                      try clear c29
                      try clear c30
                      try clear c31
                      try clear c33
                      try clear c34
                      try clear c35
                      try clear c36
                      try clear c42
                      try clear c43
                      try clear c44
                      try clear c45
                      try clear c46
                      try clear c48
                      try clear c48b0
                      try clear c48b1
                      try clear c48b2
                      try clear c49
                      try clear c49b0
                      try clear c50
                      try clear c50b0
                      try clear c50b1
                      try clear c50b2
                      try clear c51
                      try clear c52
                      try clear c53
                      try clear c54
                      try clear c55
                      try clear c57
                      try clear c58
                      try clear c59
                      try clear c60
                      try clear c62
                      try clear c63
                      try clear c64
                      try clear p64
                      try clear c66
                      try clear c67
                      try clear c69
                      try clear c71
                      try clear c74
                      try clear c75
                      try clear c76
                      try clear c77
                      try clear c78
                      try clear c81
                      try clear c83
                      try clear c84
                      try clear c86
                      try clear c87
                      try clear c88
                      try clear c89
                      try clear c90
                      try clear c93
                      try clear c94
                      try clear c95
                      try clear c96
                      try clear c99
                      try clear c100
                      try clear c101
                      try clear c102
                      try clear c103
                      try clear c106
                      try clear c107
                      try clear c107b0
                      try clear c109
                      try clear c109b0
                      try clear c109b1
                      try clear c116
                      try clear c117
                      try clear c118
                      try clear c119
                      try clear c120
                      try clear c123
                      try clear c124
                      try clear c125
                      try clear c126
                      try clear c129
                      try clear c130
                      try clear c131
                      try clear c132
                      try clear c133
                      try clear c134
                      try clear c135
                      try clear c137
                      try clear c138
                      try clear c138b0
                      try clear c138b1
                      try clear c138b2
                      try clear c139
                      try clear c140
                      try clear c141
                      try clear c142
                      try clear c143
                      try clear c154
                      try clear c155
                      try clear c156
                      try clear c157
                      try clear c158
                      try clear c159
                      try clear c163
                      try clear c164
                      try clear c165
                      try clear c166
                      try clear c167
                      try clear c168
                      try clear c169
                      try clear c171
                      try clear c171b0
                      try clear c171b1
                      try clear c171b2
                      try clear c172
                      try clear c173
                      try clear c174
                      try clear c175
                      try clear c176
                      try clear c177
                      try clear c178
                      try clear c180
                      try clear c181
                      try clear c182
                      try clear c183
                      try clear c184
                      try clear c185
                      try clear c187
                      try clear hcz104_0
                      try clear hcz104_1
                      try clear hcz121_0
                      try clear hcz121_1
                      try clear hcz127_0
                      try clear hcz127_1
                      try clear hcz144_0
                      try clear hcz144_1
                      try clear hcz14_0
                      try clear hcz14_1
                      try clear hcz15_0
                      try clear hcz15_1
                      try clear hcz160_0
                      try clear hcz160_1
                      try clear hcz170_0
                      try clear hcz170_1
                      try clear hcz179_0
                      try clear hcz179_1
                      try clear hcz186_0
                      try clear hcz186_1
                      try clear hcz20_0
                      try clear hcz20_1
                      try clear hcz21_0
                      try clear hcz21_1
                      try clear hcz22_0
                      try clear hcz22_1
                      try clear hcz28_0
                      try clear hcz28_1
                      try clear hcz29_0
                      try clear hcz29_1
                      try clear hcz30_0
                      try clear hcz30_1
                      try clear hcz37_0
                      try clear hcz37_1
                      try clear hcz38_0
                      try clear hcz38_1
                      try clear hcz39_0
                      try clear hcz39_1
                      try clear hcz47_0
                      try clear hcz47_1
                      try clear hcz56_0
                      try clear hcz56_1
                      try clear hcz61_0
                      try clear hcz61_1
                      try clear hcz65_0
                      try clear hcz65_1
                      try clear hcz68_0
                      try clear hcz68_1
                      try clear hcz79_0
                      try clear hcz79_1
                      try clear hcz91_0
                      try clear hcz91_1
                      try clear hcz97_0
                      try clear hcz97_1
                      try clear hfz104_0
                      try clear hfz104_1
                      try clear hfz121_0
                      try clear hfz121_1
                      try clear hfz127_0
                      try clear hfz127_1
                      try clear hfz144_0
                      try clear hfz144_1
                      try clear hfz14_0
                      try clear hfz14_1
                      try clear hfz15_0
                      try clear hfz15_1
                      try clear hfz160_0
                      try clear hfz160_1
                      try clear hfz170_0
                      try clear hfz170_1
                      try clear hfz179_0
                      try clear hfz179_1
                      try clear hfz186_0
                      try clear hfz186_1
                      try clear hfz20_0
                      try clear hfz20_1
                      try clear hfz21_0
                      try clear hfz21_1
                      try clear hfz22_0
                      try clear hfz22_1
                      try clear hfz28_0
                      try clear hfz28_1
                      try clear hfz29_0
                      try clear hfz29_1
                      try clear hfz30_0
                      try clear hfz30_1
                      try clear hfz37_0
                      try clear hfz37_1
                      try clear hfz38_0
                      try clear hfz38_1
                      try clear hfz39_0
                      try clear hfz39_1
                      try clear hfz47_0
                      try clear hfz47_1
                      try clear hfz56_0
                      try clear hfz56_1
                      try clear hfz61_0
                      try clear hfz61_1
                      try clear hfz65_0
                      try clear hfz65_1
                      try clear hfz68_0
                      try clear hfz68_1
                      try clear hfz79_0
                      try clear hfz79_1
                      try clear hfz91_0
                      try clear hfz91_1
                      try clear hfz97_0
                      try clear hfz97_1
                      try clear p2
                      try clear p6
                      try clear p64
                      obtain ⟨x200_4, rfl, HA, HK4, HO_198, BK328, BK329, BK333, BK337, BK341, BK345, BK365, BK369, HB⟩ := hrel
                      cases gk with
                      | zero => exact absurd HA.out (by simp [laws_FnBits.l1])
                      | succ k4 =>
                        have H := HA.out
                        clear HA
                        simp only [laws_FnBits.l1] at H
                        by_cases c188 : x200_4 < (t359.length : Int)
                        · rw [if_pos c188] at H
                          have c188b0 : decide (x200_4 < (t359.length : Int)) = true := decide_eq_true c188
                          clear c188
                          by_cases c189 : 0 ≤ x200_4
                          · rw [if_pos c189] at H
                            have c189b0 : decide (0 ≤ x200_4) = true := decide_eq_true c189
                            clear c189
                            by_cases c190 : x200_4 < (t359.length : Int)
                            · rw [if_pos c190] at H
                              have c190b0 : decide (x200_4 < (t359.length : Int)) = true := decide_eq_true c190
                              clear c190
                              by_cases c191 : t364 = true
                              · subst c191
                                have H1 : ((impl_MayBe.f t362 t363 (rd t359 x200_4)).bind fun bt385 => (if bt385.2 = true then (if bt385.1 = true then (laws_FnBits.l1 k4 l1 true t359 (t359.length : Int) (wrap64 (x200_4 + 1)) t362 t363) else (some false)) else (some false))) = some r := by rw [if_pos rfl] at H; exact H
                                clear H
                                have H := H1
                                clear H1
                                replace H := Option.bind_eq_some_iff.mp H
                                obtain ⟨⟨t385, t386⟩, A1920, H⟩ := H
                                replace H : (if t386 = true then (if t385 = true then (laws_FnBits.l1 k4 l1 true t359 (t359.length : Int) (wrap64 (x200_4 + 1)) t362 t363) else (some false)) else (some false)) = some r := H
                                have A192 := Aside0.mk A1920
                                clear A1920
                                by_cases c193 : t386 = true
                                · subst c193
                                  have H1 : (if t385 = true then (laws_FnBits.l1 k4 l1 true t359 (t359.length : Int) (wrap64 (x200_4 + 1)) t362 t363) else (some false)) = some r := by rw [if_pos rfl] at H; exact H
                                  clear H
                                  have H := H1
                                  clear H1
                                  by_cases c194 : t385 = true
                                  · subst c194
                                    have H1 : (laws_FnBits.l1 k4 l1 true t359 (t359.length : Int) (wrap64 (x200_4 + 1)) t362 t363) = some r := by rw [if_pos rfl] at H; exact H
                                    clear H
                                    have H := H1
                                    clear H1
                                    as_aux_lemma =>
                                      have H' := Aside0.mk H
                                      clear H
                                      have p384 : 0 ≤ (x200_4 : Int) := of_decide_eq_true (by first | (with_reducible assumption) | assumption)
                                      have q384 : x200_4 < (t359.length : Int) := of_decide_eq_true (by first | (with_reducible assumption) | assumption)
                                      obtain ⟨ad384, e384, hx384_0⟩ := Kd.at_int (Kd.R_reads' HO_198.out).2.2 x200_4 p384 q384
                                      cases e384
                                      replace p384 := eq_true p384
                                      replace q384 := eq_true q384
                                      have hnb195 := NB365_328.out
                                      have hnc195 := NB328_365.out
                                      have hnb196 := NB365_329.out
                                      have hnc196 := NB329_365.out
                                      have hnb197 := NB365_333.out
                                      have hnc197 := NB333_365.out
                                      have hnb198 := NB365_337.out
                                      have hnc198 := NB337_365.out
                                      have hnb199 := NB365_341.out
                                      have hnc199 := NB341_365.out
                                      have hnb200 := NB365_345.out
                                      have hnc200 := NB345_365.out
                                      have hnb201 := NB365_369.out
                                      have hnc201 := NB369_365.out
                                      have hcz202_0 := cq_ BK365.out 0 (.int .i64 t362)
                                      have hcz202_1 := cq_ BK365.out 1 (.int .i64 t363)
                                      have hfz202_0 := blk_frozen BK365.out 0
                                      have hfz202_1 := blk_frozen BK365.out 1
                                      go_wp2_with (first | ((with_reducible refine gate_callee (f := 34) rfl ?_); refine goesL_ (some 208) rfl rfl Try.func34 (by kernel_rfl) rfl #[.agg #[.int .i64 t362, .int .i64 t363], .int .i64 (rd t359 x200_4)] rfl (by (try simp only [List.map_toArray, List.map_cons, List.map_nil]); first | done | rfl | (simp only [List.length_drop, List.length_take]; rfl)) ?_; (with_reducible refine (impl_MayBe.calls t362 t363 (rd t359 x200_4) true true _ A192.out).mono ?_); rintro e w203 ⟨rfl, hb⟩; refine ⟨_, rfl, ?_⟩; have n0_ := Aside0.mk (Kd.R_below (rq_ HO_198.out) hb); have n1_ := Aside0.mk (blk_below (bk_ BK328.out) hb); have n2_ := Aside0.mk (blk_below (bk_ BK329.out) hb); have n3_ := Aside0.mk (blk_below (bk_ BK333.out) hb); have n4_ := Aside0.mk (blk_below (bk_ BK337.out) hb); have n5_ := Aside0.mk (blk_below (bk_ BK341.out) hb); have n6_ := Aside0.mk (blk_below (bk_ BK345.out) hb); have n7_ := Aside0.mk (blk_below (bk_ BK365.out) hb); have n8_ := Aside0.mk (blk_below (bk_ BK369.out) hb); have n9_ := Aside0.mk (below_step (bq_) hb); clear HO_198; clear BK328; clear BK329; clear BK333; clear BK337; clear BK341; clear BK345; clear BK365; clear BK369; clear HB; have HO_198 := n0_; have BK328 := n1_; have BK329 := n2_; have BK333 := n3_; have BK337 := n4_; have BK341 := n5_; have BK345 := n6_; have BK365 := n7_; have BK369 := n8_; have HB := n9_; clear n0_ n1_ n2_ n3_ n4_ n5_ n6_ n7_ n8_ n9_; (try clear hb); (try clear hb2); (try clear hk); (try clear hi)))
                                      go_roundg k4
                                      case measure => have := HJ8.out; have := HJ69.out; have := HJ148.out; have := HK4.out; omega
                                      case rel => exact ⟨(wrap64 (x200_4 + 1)), (by first | rfl | (simp; done) | (simp [*]; done)), H', ⟨by have := HJ8.out; have := HJ69.out; have := HJ148.out; have := HK4.out; omega⟩, ⟨rq_ HO_198.out⟩, ⟨bk_ BK328.out⟩, ⟨bk_ BK329.out⟩, ⟨bk_ BK333.out⟩, ⟨bk_ BK337.out⟩, ⟨bk_ BK341.out⟩, ⟨bk_ BK345.out⟩, ⟨bk_ BK365.out⟩, ⟨bk_ BK369.out⟩, ⟨bq_⟩⟩
                                  · replace c194 := Bool.eq_false_iff.mpr c194
                                    subst c194
                                    have H1 : (some false) = some r := by rw [if_neg (show ¬ (false = true) by decide)] at H; exact H
                                    clear H
                                    have H := H1
                                    clear H1
                                    exact absurd (Option.some.inj H).symm (by rw [hr_.out]; simp)
                                · replace c193 := Bool.eq_false_iff.mpr c193
                                  subst c193
                                  have H1 : (some false) = some r := by rw [if_neg (show ¬ (false = true) by decide)] at H; exact H
                                  clear H
                                  have H := H1
                                  clear H1
                                  exact absurd (Option.some.inj H).symm (by rw [hr_.out]; simp)
                              · replace c191 := Bool.eq_false_iff.mpr c191
                                subst c191
                                have H1 : (laws_FnBits.l1 k4 l1 false t359 (t359.length : Int) (wrap64 (x200_4 + 1)) t362 t363) = some r := by rw [if_neg (show ¬ (false = true) by decide)] at H; exact H
                                clear H
                                have H := H1
                                clear H1
                                as_aux_lemma =>
                                  have H' := Aside0.mk H
                                  clear H
                                  have p384 : 0 ≤ (x200_4 : Int) := of_decide_eq_true (by first | (with_reducible assumption) | assumption)
                                  have q384 : x200_4 < (t359.length : Int) := of_decide_eq_true (by first | (with_reducible assumption) | assumption)
                                  obtain ⟨ad384, e384, hx384_0⟩ := Kd.at_int (Kd.R_reads' HO_198.out).2.2 x200_4 p384 q384
                                  cases e384
                                  replace p384 := eq_true p384
                                  replace q384 := eq_true q384
                                  go_wp2
                                  go_roundg k4
                                  case measure => have := HJ8.out; have := HJ69.out; have := HJ148.out; have := HK4.out; omega
                                  case rel => exact ⟨(wrap64 (x200_4 + 1)), (by first | rfl | (simp; done) | (simp [*]; done)), H', ⟨by have := HJ8.out; have := HJ69.out; have := HJ148.out; have := HK4.out; omega⟩, ⟨rq_ HO_198.out⟩, ⟨bk_ BK328.out⟩, ⟨bk_ BK329.out⟩, ⟨bk_ BK333.out⟩, ⟨bk_ BK337.out⟩, ⟨bk_ BK341.out⟩, ⟨bk_ BK345.out⟩, ⟨bk_ BK365.out⟩, ⟨bk_ BK369.out⟩, ⟨bq_⟩⟩
                            · rw [if_neg c190] at H
                              exact absurd H (by simp)
                          · rw [if_neg c189] at H
                            exact absurd H (by simp)
                        · rw [if_neg c188] at H
                          have c188b0 : decide (x200_4 < (t359.length : Int)) = false := decide_eq_false c188
                          clear c188
                          replace H := Option.bind_eq_some_iff.mp H
                          obtain ⟨⟨t370, t371, t372, t373⟩, A2040, H⟩ := H
                          replace H : ((impl_JoinKnown.f t370 t371 t372 t373).bind fun bt376 => ((spec_JoinKnown.f t370 t371 t372 t373).bind fun bt380 => (if (bt376.2.2 == bt380.2.2) = true then (some (bt376.1 == bt380.1 && (bt376.2.1 == bt380.2.1))) else (some false)))) = some r := H
                          have A204 := Aside0.mk A2040
                          clear A2040
                          replace H := Option.bind_eq_some_iff.mp H
                          obtain ⟨⟨t376, t377, t378⟩, A2050, H⟩ := H
                          replace H : ((spec_JoinKnown.f t370 t371 t372 t373).bind fun bt380 => (if (t378 == bt380.2.2) = true then (some (t376 == bt380.1 && (t377 == bt380.2.1))) else (some false))) = some r := H
                          have A205 := Aside0.mk A2050
                          clear A2050
                          replace H := Option.bind_eq_some_iff.mp H
                          obtain ⟨⟨t380, t381, t382⟩, A2060, H⟩ := H
                          replace H : (if (t378 == t382) = true then (some (t376 == t380 && (t377 == t381))) else (some false)) = some r := H
                          have A206 := Aside0.mk A2060
                          clear A2060
                          by_cases c207 : (t378 == t382) = true
                          · rw [if_pos c207] at H
                            have c207b0 : (t378 == t382) = true := c207
                            (try (have c207b1 : decide (t378 = t382) = true := by simpa using c207))
                            (try (have c207b2 : (t378 == t382) = true := by simpa using c207))
                            clear c207
                            as_aux_lemma =>
                              obtain rfl := Option.some.inj H
                              go_wp2_with (first | ((with_reducible refine gate_callee (f := 36) rfl ?_); refine goesL_ (some 220) rfl rfl Try.func36 (by kernel_rfl) rfl #[.slice A1 l1.length c1] rfl (by (try simp only [List.map_toArray, List.map_cons, List.map_nil]); first | done | rfl | (simp only [List.length_drop, List.length_take]; rfl)) ?_; (with_reducible refine (spec_DrawJoinKnown.calls k4 _ _ l1 t370 t371 t372 t373 _ ?side1 ?side2 A204.out).mono ?_); (case side1 => repeat (first | exact (Kd.C_below HR1.out HB.out) | (with_reducible refine Kd.C_alloc ?_ _) | (with_reducible refine Kd.C_drewN ?_ _) | (with_reducible refine Kd.C_drew ?_))); (case side2 => exact HC1.out); rintro e w208 ⟨rfl, hb⟩; refine ⟨_, rfl, ?_⟩; have n0_ := Aside0.mk (Kd.R_below (rq_ HO_198.out) hb); have n1_ := Aside0.mk (blk_below (bk_ BK328.out) hb); have n2_ := Aside0.mk (blk_below (bk_ BK329.out) hb); have n3_ := Aside0.mk (blk_below (bk_ BK333.out) hb); have n4_ := Aside0.mk (blk_below (bk_ BK337.out) hb); have n5_ := Aside0.mk (blk_below (bk_ BK341.out) hb); have n6_ := Aside0.mk (blk_below (bk_ BK345.out) hb); have n7_ := Aside0.mk (blk_below (bk_ BK365.out) hb); have n8_ := Aside0.mk (blk_below (bk_ BK369.out) hb); have n9_ := Aside0.mk (below_step (bq_) hb); clear HO_198; clear BK328; clear BK329; clear BK333; clear BK337; clear BK341; clear BK345; clear BK365; clear BK369; clear HB; have HO_198 := n0_; have BK328 := n1_; have BK329 := n2_; have BK333 := n3_; have BK337 := n4_; have BK341 := n5_; have BK345 := n6_; have BK365 := n7_; have BK369 := n8_; have HB := n9_; clear n0_ n1_ n2_ n3_ n4_ n5_ n6_ n7_ n8_ n9_; (try clear hb); (try clear hb2); (try clear hk); (try clear hi)) | ((with_reducible refine gate_dst (N := 35) rfl ?_); refine boxq_ (N := 35) (cs := #[.int .i64 0, .int .i64 0]) (t := 26) ?_; intro gb374 hg w209 hbox hb; have n0_ := Aside0.mk (Kd.R_below (rq_ HO_198.out) hb); have n1_ := Aside0.mk (blk_below (bk_ BK328.out) hb); have n2_ := Aside0.mk (blk_below (bk_ BK329.out) hb); have n3_ := Aside0.mk (blk_below (bk_ BK333.out) hb); have n4_ := Aside0.mk (blk_below (bk_ BK337.out) hb); have n5_ := Aside0.mk (blk_below (bk_ BK341.out) hb); have n6_ := Aside0.mk (blk_below (bk_ BK345.out) hb); have n7_ := Aside0.mk (blk_below (bk_ BK365.out) hb); have n8_ := Aside0.mk (blk_below (bk_ BK369.out) hb); have n9_ := Aside0.mk (below_step (bq_) hb); have n10_ := Aside0.mk (hbox); have n11_ := Aside0.mk ((by rw [hg]; exact (below_size (bq_)) : w.heap.size ≤ gb374)); have n12_ := Aside0.mk ((by rw [hg]; exact (below_size (bq_)) : w.heap.size ≤ gb374)); have n13_ := Aside0.mk ((by rw [hg]; exact Nat.ne_of_lt (blk_lt (bk_ BK328.out)) : gb328 ≠ gb374)); have n14_ := Aside0.mk ((by rw [hg]; exact Nat.ne_of_gt (blk_lt (bk_ BK328.out)) : gb374 ≠ gb328)); have n15_ := Aside0.mk ((by rw [hg]; exact Nat.ne_of_lt (blk_lt (bk_ BK329.out)) : gb329 ≠ gb374)); have n16_ := Aside0.mk ((by rw [hg]; exact Nat.ne_of_gt (blk_lt (bk_ BK329.out)) : gb374 ≠ gb329)); have n17_ := Aside0.mk ((by rw [hg]; exact Nat.ne_of_lt (blk_lt (bk_ BK333.out)) : gb333 ≠ gb374)); have n18_ := Aside0.mk ((by rw [hg]; exact Nat.ne_of_gt (blk_lt (bk_ BK333.out)) : gb374 ≠ gb333)); have n19_ := Aside0.mk ((by rw [hg]; exact Nat.ne_of_lt (blk_lt (bk_ BK337.out)) : gb337 ≠ gb374)); have n20_ := Aside0.mk ((by rw [hg]; exact Nat.ne_of_gt (blk_lt (bk_ BK337.out)) : gb374 ≠ gb337)); have n21_ := Aside0.mk ((by rw [hg]; exact Nat.ne_of_lt (blk_lt (bk_ BK341.out)) : gb341 ≠ gb374)); have n22_ := Aside0.mk ((by rw [hg]; exact Nat.ne_of_gt (blk_lt (bk_ BK341.out)) : gb374 ≠ gb341)); have n23_ := Aside0.mk ((by rw [hg]; exact Nat.ne_of_lt (blk_lt (bk_ BK345.out)) : gb345 ≠ gb374)); have n24_ := Aside0.mk ((by rw [hg]; exact Nat.ne_of_gt (blk_lt (bk_ BK345.out)) : gb374 ≠ gb345)); have n25_ := Aside0.mk ((by rw [hg]; exact Nat.ne_of_lt (blk_lt (bk_ BK365.out)) : gb365 ≠ gb374)); have n26_ := Aside0.mk ((by rw [hg]; exact Nat.ne_of_gt (blk_lt (bk_ BK365.out)) : gb374 ≠ gb365)); have n27_ := Aside0.mk ((by rw [hg]; exact Nat.ne_of_lt (blk_lt (bk_ BK369.out)) : gb369 ≠ gb374)); have n28_ := Aside0.mk ((by rw [hg]; exact Nat.ne_of_gt (blk_lt (bk_ BK369.out)) : gb374 ≠ gb369)); clear HO_198; clear BK328; clear BK329; clear BK333; clear BK337; clear BK341; clear BK345; clear BK365; clear BK369; clear HB; have HO_198 := n0_; have BK328 := n1_; have BK329 := n2_; have BK333 := n3_; have BK337 := n4_; have BK341 := n5_; have BK345 := n6_; have BK365 := n7_; have BK369 := n8_; have HB := n9_; have BK374 := n10_; have GW374 := n11_; have GE374 := n12_; have NB328_374 := n13_; have NB374_328 := n14_; have NB329_374 := n15_; have NB374_329 := n16_; have NB333_374 := n17_; have NB374_333 := n18_; have NB337_374 := n19_; have NB374_337 := n20_; have NB341_374 := n21_; have NB374_341 := n22_; have NB345_374 := n23_; have NB374_345 := n24_; have NB365_374 := n25_; have NB374_365 := n26_; have NB369_374 := n27_; have NB374_369 := n28_; clear n0_ n1_ n2_ n3_ n4_ n5_ n6_ n7_ n8_ n9_ n10_ n11_ n12_ n13_ n14_ n15_ n16_ n17_ n18_ n19_ n20_ n21_ n22_ n23_ n24_ n25_ n26_ n27_ n28_; clear hb hbox hg) | ((with_reducible refine gate_dst (N := 36) rfl ?_); refine boxq_ (N := 36) (cs := #[.int .i64 0, .int .i64 0]) (t := 26) ?_; intro gb375 hg w210 hbox hb; have n0_ := Aside0.mk (Kd.R_below (rq_ HO_198.out) hb); have n1_ := Aside0.mk (blk_below (bk_ BK328.out) hb); have n2_ := Aside0.mk (blk_below (bk_ BK329.out) hb); have n3_ := Aside0.mk (blk_below (bk_ BK333.out) hb); have n4_ := Aside0.mk (blk_below (bk_ BK337.out) hb); have n5_ := Aside0.mk (blk_below (bk_ BK341.out) hb); have n6_ := Aside0.mk (blk_below (bk_ BK345.out) hb); have n7_ := Aside0.mk (blk_below (bk_ BK365.out) hb); have n8_ := Aside0.mk (blk_below (bk_ BK369.out) hb); have n9_ := Aside0.mk (blk_below (bk_ BK374.out) hb); have n10_ := Aside0.mk (below_step (bq_) hb); have n11_ := Aside0.mk (hbox); have n12_ := Aside0.mk ((by rw [hg]; exact (below_size (bq_)) : w.heap.size ≤ gb375)); have n13_ := Aside0.mk ((by rw [hg]; exact (below_size (bq_)) : w.heap.size ≤ gb375)); have n14_ := Aside0.mk ((by rw [hg]; exact Nat.ne_of_lt (blk_lt (bk_ BK328.out)) : gb328 ≠ gb375)); have n15_ := Aside0.mk ((by rw [hg]; exact Nat.ne_of_gt (blk_lt (bk_ BK328.out)) : gb375 ≠ gb328)); have n16_ := Aside0.mk ((by rw [hg]; exact Nat.ne_of_lt (blk_lt (bk_ BK329.out)) : gb329 ≠ gb375)); have n17_ := Aside0.mk ((by rw [hg]; exact Nat.ne_of_gt (blk_lt (bk_ BK329.out)) : gb375 ≠ gb329)); have n18_ := Aside0.mk ((by rw [hg]; exact Nat.ne_of_lt (blk_lt (bk_ BK333.out)) : gb333 ≠ gb375)); have n19_ := Aside0.mk ((by rw [hg]; exact Nat.ne_of_gt (blk_lt (bk_ BK333.out)) : gb375 ≠ gb333)); have n20_ := Aside0.mk ((by rw [hg]; exact Nat.ne_of_lt (blk_lt (bk_ BK337.out)) : gb337 ≠ gb375)); have n21_ := Aside0.mk ((by rw [hg]; exact Nat.ne_of_gt (blk_lt (bk_ BK337.out)) : gb375 ≠ gb337)); have n22_ := Aside0.mk ((by rw [hg]; exact Nat.ne_of_lt (blk_lt (bk_ BK341.out)) : gb341 ≠ gb375)); have n23_ := Aside0.mk ((by rw [hg]; exact Nat.ne_of_gt (blk_lt (bk_ BK341.out)) : gb375 ≠ gb341)); have n24_ := Aside0.mk ((by rw [hg]; exact Nat.ne_of_lt (blk_lt (bk_ BK345.out)) : gb345 ≠ gb375)); have n25_ := Aside0.mk ((by rw [hg]; exact Nat.ne_of_gt (blk_lt (bk_ BK345.out)) : gb375 ≠ gb345)); have n26_ := Aside0.mk ((by rw [hg]; exact Nat.ne_of_lt (blk_lt (bk_ BK365.out)) : gb365 ≠ gb375)); have n27_ := Aside0.mk ((by rw [hg]; exact Nat.ne_of_gt (blk_lt (bk_ BK365.out)) : gb375 ≠ gb365)); have n28_ := Aside0.mk ((by rw [hg]; exact Nat.ne_of_lt (blk_lt (bk_ BK369.out)) : gb369 ≠ gb375)); have n29_ := Aside0.mk ((by rw [hg]; exact Nat.ne_of_gt (blk_lt (bk_ BK369.out)) : gb375 ≠ gb369)); have n30_ := Aside0.mk ((by rw [hg]; exact Nat.ne_of_lt (blk_lt (bk_ BK374.out)) : gb374 ≠ gb375)); have n31_ := Aside0.mk ((by rw [hg]; exact Nat.ne_of_gt (blk_lt (bk_ BK374.out)) : gb375 ≠ gb374)); clear HO_198; clear BK328; clear BK329; clear BK333; clear BK337; clear BK341; clear BK345; clear BK365; clear BK369; clear BK374; clear HB; have HO_198 := n0_; have BK328 := n1_; have BK329 := n2_; have BK333 := n3_; have BK337 := n4_; have BK341 := n5_; have BK345 := n6_; have BK365 := n7_; have BK369 := n8_; have BK374 := n9_; have HB := n10_; have BK375 := n11_; have GW375 := n12_; have GE375 := n13_; have NB328_375 := n14_; have NB375_328 := n15_; have NB329_375 := n16_; have NB375_329 := n17_; have NB333_375 := n18_; have NB375_333 := n19_; have NB337_375 := n20_; have NB375_337 := n21_; have NB341_375 := n22_; have NB375_341 := n23_; have NB345_375 := n24_; have NB375_345 := n25_; have NB365_375 := n26_; have NB375_365 := n27_; have NB369_375 := n28_; have NB375_369 := n29_; have NB374_375 := n30_; have NB375_374 := n31_; clear n0_ n1_ n2_ n3_ n4_ n5_ n6_ n7_ n8_ n9_ n10_ n11_ n12_ n13_ n14_ n15_ n16_ n17_ n18_ n19_ n20_ n21_ n22_ n23_ n24_ n25_ n26_ n27_ n28_ n29_ n30_ n31_; clear hb hbox hg; have hnb211 := NB374_328.out; have hnc211 := NB328_374.out; have hnb212 := NB374_329.out; have hnc212 := NB329_374.out; have hnb213 := NB374_333.out; have hnc213 := NB333_374.out; have hnb214 := NB374_337.out; have hnc214 := NB337_374.out; have hnb215 := NB374_341.out; have hnc215 := NB341_374.out; have hnb216 := NB374_345.out; have hnc216 := NB345_374.out; have hnb217 := NB374_365.out; have hnc217 := NB365_374.out; have hnb218 := NB374_369.out; have hnc218 := NB369_374.out; have hnb219 := NB374_375.out; have hnc219 := NB375_374.out; have hcz220_0 := cq_ BK374.out 0 (.int .i64 0); have hcz220_1 := cq_ BK374.out 1 (.int .i64 0); have hfz220_0 := blk_frozen BK374.out 0; have hfz220_1 := blk_frozen BK374.out 1; have hnb221 := NB375_328.out; have hnc221 := NB328_375.out; have hnb222 := NB375_329.out; have hnc222 := NB329_375.out; have hnb223 := NB375_333.out; have hnc223 := NB333_375.out; have hnb224 := NB375_337.out; have hnc224 := NB337_375.out; have hnb225 := NB375_341.out; have hnc225 := NB341_375.out; have hnb226 := NB375_345.out; have hnc226 := NB345_375.out; have hnb227 := NB375_365.out; have hnc227 := NB365_375.out; have hnb228 := NB375_369.out; have hnc228 := NB369_375.out; have hcz229_0 := cq_ BK375.out 0 (.int .i64 0); have hcz229_1 := cq_ BK375.out 1 (.int .i64 0); have hfz229_0 := blk_frozen BK375.out 0; have hfz229_1 := blk_frozen BK375.out 1) | ((with_reducible refine gate_callee (f := 30) rfl ?_); refine goesL_ (some 226) rfl rfl Try.func30 (by kernel_rfl) rfl #[.agg #[.int .i64 t370, .int .i64 t371], .agg #[.int .i64 t372, .int .i64 t373]] rfl (by (try simp only [List.map_toArray, List.map_cons, List.map_nil]); first | done | rfl | (simp only [List.length_drop, List.length_take]; rfl)) ?_; (with_reducible refine (impl_JoinKnown.calls t370 t371 t372 t373 t376 t377 t378 _ A205.out).mono ?_); rintro e w230 ⟨rfl, hb⟩; refine ⟨_, rfl, ?_⟩; have n0_ := Aside0.mk (Kd.R_below (rq_ ((Kd.R_mono (Kd.R_mono (Kd.R_far (p := ⟨gb375, 1, none⟩) (Kd.R_far (p := ⟨gb375, 0, none⟩) (Kd.R_far (p := ⟨gb374, 1, none⟩) (Kd.R_far (p := ⟨gb374, 0, none⟩) (Kd.R_types (Kd.R_types HO_198.out BK374.out (by decide)) BK375.out (by decide)) (fun _ hk => hk.1.2) (.int .i64 t370)) (fun _ hk => hk.1.2) (.int .i64 t371)) (fun _ hk => hk.2) (.int .i64 t372)) (fun _ hk => hk.2) (.int .i64 t373)) (fun _ h_ => h_.1)) (fun _ h_ => h_.1)))) hb); have n1_ := Aside0.mk (blk_below (g := gb328) (o := .cells #[.int .i64 t324, .int .i64 t325] 26 (0, 0)) (by (with_reducible repeat (first | refine blk_drewN ?_ _ | refine blk_drew ?_ | refine blk_alloc ?_ _)); refine blk_far ?_ NB328_375.out _; (with_reducible repeat (first | refine blk_drewN ?_ _ | refine blk_drew ?_ | refine blk_alloc ?_ _)); refine blk_far ?_ NB328_375.out _; (with_reducible repeat (first | refine blk_drewN ?_ _ | refine blk_drew ?_ | refine blk_alloc ?_ _)); refine blk_far ?_ NB328_374.out _; (with_reducible repeat (first | refine blk_drewN ?_ _ | refine blk_drew ?_ | refine blk_alloc ?_ _)); refine blk_far ?_ NB328_374.out _; (with_reducible repeat (first | refine blk_drewN ?_ _ | refine blk_drew ?_ | refine blk_alloc ?_ _)); exact BK328.out) hb); have n2_ := Aside0.mk (blk_below (g := gb329) (o := .cells #[.int .i64 t326, .int .i64 t327] 26 (0, 0)) (by (with_reducible repeat (first | refine blk_drewN ?_ _ | refine blk_drew ?_ | refine blk_alloc ?_ _)); refine blk_far ?_ NB329_375.out _; (with_reducible repeat (first | refine blk_drewN ?_ _ | refine blk_drew ?_ | refine blk_alloc ?_ _)); refine blk_far ?_ NB329_375.out _; (with_reducible repeat (first | refine blk_drewN ?_ _ | refine blk_drew ?_ | refine blk_alloc ?_ _)); refine blk_far ?_ NB329_374.out _; (with_reducible repeat (first | refine blk_drewN ?_ _ | refine blk_drew ?_ | refine blk_alloc ?_ _)); refine blk_far ?_ NB329_374.out _; (with_reducible repeat (first | refine blk_drewN ?_ _ | refine blk_drew ?_ | refine blk_alloc ?_ _)); exact BK329.out) hb); have n3_ := Aside0.mk (blk_below (g := gb333) (o := .cells #[.int .i64 t330, .int .i64 t331] 26 (0, 0)) (by (with_reducible repeat (first | refine blk_drewN ?_ _ | refine blk_drew ?_ | refine blk_alloc ?_ _)); refine blk_far ?_ NB333_375.out _; (with_reducible repeat (first | refine blk_drewN ?_ _ | refine blk_drew ?_ | refine blk_alloc ?_ _)); refine blk_far ?_ NB333_375.out _; (with_reducible repeat (first | refine blk_drewN ?_ _ | refine blk_drew ?_ | refine blk_alloc ?_ _)); refine blk_far ?_ NB333_374.out _; (with_reducible repeat (first | refine blk_drewN ?_ _ | refine blk_drew ?_ | refine blk_alloc ?_ _)); refine blk_far ?_ NB333_374.out _; (with_reducible repeat (first | refine blk_drewN ?_ _ | refine blk_drew ?_ | refine blk_alloc ?_ _)); exact BK333.out) hb); have n4_ := Aside0.mk (blk_below (g := gb337) (o := .cells #[.int .i64 t334, .int .i64 t335] 26 (0, 0)) (by (with_reducible repeat (first | refine blk_drewN ?_ _ | refine blk_drew ?_ | refine blk_alloc ?_ _)); refine blk_far ?_ NB337_375.out _; (with_reducible repeat (first | refine blk_drewN ?_ _ | refine blk_drew ?_ | refine blk_alloc ?_ _)); refine blk_far ?_ NB337_375.out _; (with_reducible repeat (first | refine blk_drewN ?_ _ | refine blk_drew ?_ | refine blk_alloc ?_ _)); refine blk_far ?_ NB337_374.out _; (with_reducible repeat (first | refine blk_drewN ?_ _ | refine blk_drew ?_ | refine blk_alloc ?_ _)); refine blk_far ?_ NB337_374.out _; (with_reducible repeat (first | refine blk_drewN ?_ _ | refine blk_drew ?_ | refine blk_alloc ?_ _)); exact BK337.out) hb); have n5_ := Aside0.mk (blk_below (g := gb341) (o := .cells #[.int .i64 t338, .int .i64 t339] 26 (0, 0)) (by (with_reducible repeat (first | refine blk_drewN ?_ _ | refine blk_drew ?_ | refine blk_alloc ?_ _)); refine blk_far ?_ NB341_375.out _; (with_reducible repeat (first | refine blk_drewN ?_ _ | refine blk_drew ?_ | refine blk_alloc ?_ _)); refine blk_far ?_ NB341_375.out _; (with_reducible repeat (first | refine blk_drewN ?_ _ | refine blk_drew ?_ | refine blk_alloc ?_ _)); refine blk_far ?_ NB341_374.out _; (with_reducible repeat (first | refine blk_drewN ?_ _ | refine blk_drew ?_ | refine blk_alloc ?_ _)); refine blk_far ?_ NB341_374.out _; (with_reducible repeat (first | refine blk_drewN ?_ _ | refine blk_drew ?_ | refine blk_alloc ?_ _)); exact BK341.out) hb); have n6_ := Aside0.mk (blk_below (g := gb345) (o := .cells #[.int .i64 t342, .int .i64 t343] 26 (0, 0)) (by (with_reducible repeat (first | refine blk_drewN ?_ _ | refine blk_drew ?_ | refine blk_alloc ?_ _)); refine blk_far ?_ NB345_375.out _; (with_reducible repeat (first | refine blk_drewN ?_ _ | refine blk_drew ?_ | refine blk_alloc ?_ _)); refine blk_far ?_ NB345_375.out _; (with_reducible repeat (first | refine blk_drewN ?_ _ | refine blk_drew ?_ | refine blk_alloc ?_ _)); refine blk_far ?_ NB345_374.out _; (with_reducible repeat (first | refine blk_drewN ?_ _ | refine blk_drew ?_ | refine blk_alloc ?_ _)); refine blk_far ?_ NB345_374.out _; (with_reducible repeat (first | refine blk_drewN ?_ _ | refine blk_drew ?_ | refine blk_alloc ?_ _)); exact BK345.out) hb); have n7_ := Aside0.mk (blk_below (g := gb365) (o := .cells #[.int .i64 t362, .int .i64 t363] 26 (0, 0)) (by (with_reducible repeat (first | refine blk_drewN ?_ _ | refine blk_drew ?_ | refine blk_alloc ?_ _)); refine blk_far ?_ NB365_375.out _; (with_reducible repeat (first | refine blk_drewN ?_ _ | refine blk_drew ?_ | refine blk_alloc ?_ _)); refine blk_far ?_ NB365_375.out _; (with_reducible repeat (first | refine blk_drewN ?_ _ | refine blk_drew ?_ | refine blk_alloc ?_ _)); refine blk_far ?_ NB365_374.out _; (with_reducible repeat (first | refine blk_drewN ?_ _ | refine blk_drew ?_ | refine blk_alloc ?_ _)); refine blk_far ?_ NB365_374.out _; (with_reducible repeat (first | refine blk_drewN ?_ _ | refine blk_drew ?_ | refine blk_alloc ?_ _)); exact BK365.out) hb); have n8_ := Aside0.mk (blk_below (g := gb369) (o := .cells #[.int .i64 t366, .int .i64 t367] 26 (0, 0)) (by (with_reducible repeat (first | refine blk_drewN ?_ _ | refine blk_drew ?_ | refine blk_alloc ?_ _)); refine blk_far ?_ NB369_375.out _; (with_reducible repeat (first | refine blk_drewN ?_ _ | refine blk_drew ?_ | refine blk_alloc ?_ _)); refine blk_far ?_ NB369_375.out _; (with_reducible repeat (first | refine blk_drewN ?_ _ | refine blk_drew ?_ | refine blk_alloc ?_ _)); refine blk_far ?_ NB369_374.out _; (with_reducible repeat (first | refine blk_drewN ?_ _ | refine blk_drew ?_ | refine blk_alloc ?_ _)); refine blk_far ?_ NB369_374.out _; (with_reducible repeat (first | refine blk_drewN ?_ _ | refine blk_drew ?_ | refine blk_alloc ?_ _)); exact BK369.out) hb); have n9_ := Aside0.mk (blk_below (g := gb374) (o := .cells #[.int .i64 t370, .int .i64 t371] 26 (0, 0)) (by (with_reducible repeat (first | refine blk_drewN ?_ _ | refine blk_drew ?_ | refine blk_alloc ?_ _)); refine blk_far ?_ NB374_375.out _; (with_reducible repeat (first | refine blk_drewN ?_ _ | refine blk_drew ?_ | refine blk_alloc ?_ _)); refine blk_far ?_ NB374_375.out _; (with_reducible repeat (first | refine blk_drewN ?_ _ | refine blk_drew ?_ | refine blk_alloc ?_ _)); refine blk_put (cs := #[.int .i64 t370, .int .i64 0]) ?_ 1 _ rfl; (with_reducible repeat (first | refine blk_drewN ?_ _ | refine blk_drew ?_ | refine blk_alloc ?_ _)); refine blk_put (cs := #[.int .i64 0, .int .i64 0]) ?_ 0 _ rfl; (with_reducible repeat (first | refine blk_drewN ?_ _ | refine blk_drew ?_ | refine blk_alloc ?_ _)); exact BK374.out) hb); have n10_ := Aside0.mk (blk_below (g := gb375) (o := .cells #[.int .i64 t372, .int .i64 t373] 26 (0, 0)) (by (with_reducible repeat (first | refine blk_drewN ?_ _ | refine blk_drew ?_ | refine blk_alloc ?_ _)); refine blk_put (cs := #[.int .i64 t372, .int .i64 0]) ?_ 1 _ rfl; (with_reducible repeat (first | refine blk_drewN ?_ _ | refine blk_drew ?_ | refine blk_alloc ?_ _)); refine blk_put (cs := #[.int .i64 0, .int .i64 0]) ?_ 0 _ rfl; (with_reducible repeat (first | refine blk_drewN ?_ _ | refine blk_drew ?_ | refine blk_alloc ?_ _)); refine blk_far ?_ NB375_374.out _; (with_reducible repeat (first | refine blk_drewN ?_ _ | refine blk_drew ?_ | refine blk_alloc ?_ _)); refine blk_far ?_ NB375_374.out _; (with_reducible repeat (first | refine blk_drewN ?_ _ | refine blk_drew ?_ | refine blk_alloc ?_ _)); exact BK375.out) hb); have n11_ := Aside0.mk (below_step (bq_) hb); clear HO_198; clear BK328; clear BK329; clear BK333; clear BK337; clear BK341; clear BK345; clear BK365; clear BK369; clear BK374; clear BK375; clear HB; have HO_198 := n0_; have BK328 := n1_; have BK329 := n2_; have BK333 := n3_; have BK337 := n4_; have BK341 := n5_; have BK345 := n6_; have BK365 := n7_; have BK369 := n8_; have BK374 := n9_; have BK375 := n10_; have HB := n11_; clear n0_ n1_ n2_ n3_ n4_ n5_ n6_ n7_ n8_ n9_ n10_ n11_; (try clear hb); (try clear hb2); (try clear hk); (try clear hi)) | ((with_reducible refine gate_dst (N := 37) rfl ?_); refine boxq_ (N := 37) (cs := #[.int .i64 0, .int .i64 0]) (t := 26) ?_; intro gb379 hg w231 hbox hb; have n0_ := Aside0.mk (Kd.R_below (rq_ HO_198.out) hb); have n1_ := Aside0.mk (blk_below (bk_ BK328.out) hb); have n2_ := Aside0.mk (blk_below (bk_ BK329.out) hb); have n3_ := Aside0.mk (blk_below (bk_ BK333.out) hb); have n4_ := Aside0.mk (blk_below (bk_ BK337.out) hb); have n5_ := Aside0.mk (blk_below (bk_ BK341.out) hb); have n6_ := Aside0.mk (blk_below (bk_ BK345.out) hb); have n7_ := Aside0.mk (blk_below (bk_ BK365.out) hb); have n8_ := Aside0.mk (blk_below (bk_ BK369.out) hb); have n9_ := Aside0.mk (blk_below (bk_ BK374.out) hb); have n10_ := Aside0.mk (blk_below (bk_ BK375.out) hb); have n11_ := Aside0.mk (below_step (bq_) hb); have n12_ := Aside0.mk (hbox); have n13_ := Aside0.mk ((by rw [hg]; exact (below_size (bq_)) : w.heap.size ≤ gb379)); have n14_ := Aside0.mk ((by rw [hg]; exact (below_size (bq_)) : w.heap.size ≤ gb379)); have n15_ := Aside0.mk ((by rw [hg]; exact Nat.ne_of_lt (blk_lt (bk_ BK328.out)) : gb328 ≠ gb379)); have n16_ := Aside0.mk ((by rw [hg]; exact Nat.ne_of_gt (blk_lt (bk_ BK328.out)) : gb379 ≠ gb328)); have n17_ := Aside0.mk ((by rw [hg]; exact Nat.ne_of_lt (blk_lt (bk_ BK329.out)) : gb329 ≠ gb379)); have n18_ := Aside0.mk ((by rw [hg]; exact Nat.ne_of_gt (blk_lt (bk_ BK329.out)) : gb379 ≠ gb329)); have n19_ := Aside0.mk ((by rw [hg]; exact Nat.ne_of_lt (blk_lt (bk_ BK333.out)) : gb333 ≠ gb379)); have n20_ := Aside0.mk ((by rw [hg]; exact Nat.ne_of_gt (blk_lt (bk_ BK333.out)) : gb379 ≠ gb333)); have n21_ := Aside0.mk ((by rw [hg]; exact Nat.ne_of_lt (blk_lt (bk_ BK337.out)) : gb337 ≠ gb379)); have n22_ := Aside0.mk ((by rw [hg]; exact Nat.ne_of_gt (blk_lt (bk_ BK337.out)) : gb379 ≠ gb337)); have n23_ := Aside0.mk ((by rw [hg]; exact Nat.ne_of_lt (blk_lt (bk_ BK341.out)) : gb341 ≠ gb379)); have n24_ := Aside0.mk ((by rw [hg]; exact Nat.ne_of_gt (blk_lt (bk_ BK341.out)) : gb379 ≠ gb341)); have n25_ := Aside0.mk ((by rw [hg]; exact Nat.ne_of_lt (blk_lt (bk_ BK345.out)) : gb345 ≠ gb379)); have n26_ := Aside0.mk ((by rw [hg]; exact Nat.ne_of_gt (blk_lt (bk_ BK345.out)) : gb379 ≠ gb345)); have n27_ := Aside0.mk ((by rw [hg]; exact Nat.ne_of_lt (blk_lt (bk_ BK365.out)) : gb365 ≠ gb379)); have n28_ := Aside0.mk ((by rw [hg]; exact Nat.ne_of_gt (blk_lt (bk_ BK365.out)) : gb379 ≠ gb365)); have n29_ := Aside0.mk ((by rw [hg]; exact Nat.ne_of_lt (blk_lt (bk_ BK369.out)) : gb369 ≠ gb379)); have n30_ := Aside0.mk ((by rw [hg]; exact Nat.ne_of_gt (blk_lt (bk_ BK369.out)) : gb379 ≠ gb369)); have n31_ := Aside0.mk ((by rw [hg]; exact Nat.ne_of_lt (blk_lt (bk_ BK374.out)) : gb374 ≠ gb379)); have n32_ := Aside0.mk ((by rw [hg]; exact Nat.ne_of_gt (blk_lt (bk_ BK374.out)) : gb379 ≠ gb374)); have n33_ := Aside0.mk ((by rw [hg]; exact Nat.ne_of_lt (blk_lt (bk_ BK375.out)) : gb375 ≠ gb379)); have n34_ := Aside0.mk ((by rw [hg]; exact Nat.ne_of_gt (blk_lt (bk_ BK375.out)) : gb379 ≠ gb375)); clear HO_198; clear BK328; clear BK329; clear BK333; clear BK337; clear BK341; clear BK345; clear BK365; clear BK369; clear BK374; clear BK375; clear HB; have HO_198 := n0_; have BK328 := n1_; have BK329 := n2_; have BK333 := n3_; have BK337 := n4_; have BK341 := n5_; have BK345 := n6_; have BK365 := n7_; have BK369 := n8_; have BK374 := n9_; have BK375 := n10_; have HB := n11_; have BK379 := n12_; have GW379 := n13_; have GE379 := n14_; have NB328_379 := n15_; have NB379_328 := n16_; have NB329_379 := n17_; have NB379_329 := n18_; have NB333_379 := n19_; have NB379_333 := n20_; have NB337_379 := n21_; have NB379_337 := n22_; have NB341_379 := n23_; have NB379_341 := n24_; have NB345_379 := n25_; have NB379_345 := n26_; have NB365_379 := n27_; have NB379_365 := n28_; have NB369_379 := n29_; have NB379_369 := n30_; have NB374_379 := n31_; have NB379_374 := n32_; have NB375_379 := n33_; have NB379_375 := n34_; clear n0_ n1_ n2_ n3_ n4_ n5_ n6_ n7_ n8_ n9_ n10_ n11_ n12_ n13_ n14_ n15_ n16_ n17_ n18_ n19_ n20_ n21_ n22_ n23_ n24_ n25_ n26_ n27_ n28_ n29_ n30_ n31_ n32_ n33_ n34_; clear hb hbox hg; have hnb232 := NB379_328.out; have hnc232 := NB328_379.out; have hnb233 := NB379_329.out; have hnc233 := NB329_379.out; have hnb234 := NB379_333.out; have hnc234 := NB333_379.out; have hnb235 := NB379_337.out; have hnc235 := NB337_379.out; have hnb236 := NB379_341.out; have hnc236 := NB341_379.out; have hnb237 := NB379_345.out; have hnc237 := NB345_379.out; have hnb238 := NB379_365.out; have hnc238 := NB365_379.out; have hnb239 := NB379_369.out; have hnc239 := NB369_379.out; have hnb240 := NB379_374.out; have hnc240 := NB374_379.out; have hnb241 := NB379_375.out; have hnc241 := NB375_379.out; have hcz242_0 := cq_ BK379.out 0 (.int .i64 0); have hcz242_1 := cq_ BK379.out 1 (.int .i64 0); have hfz242_0 := blk_frozen BK379.out 0; have hfz242_1 := blk_frozen BK379.out 1; have hcz243_0 := cq_ BK374.out 0 (.int .i64 t370); have hcz243_1 := cq_ BK374.out 1 (.int .i64 t371); have hfz243_0 := blk_frozen BK374.out 0; have hfz243_1 := blk_frozen BK374.out 1; have hcz244_0 := cq_ BK375.out 0 (.int .i64 t372); have hcz244_1 := cq_ BK375.out 1 (.int .i64 t373); have hfz244_0 := blk_frozen BK375.out 0; have hfz244_1 := blk_frozen BK375.out 1) | ((with_reducible refine gate_callee (f := 31) rfl ?_); refine goesL_ (some 232) rfl rfl Try.func31 (by kernel_rfl) rfl #[.agg #[.int .i64 t370, .int .i64 t371], .agg #[.int .i64 t372, .int .i64 t373]] rfl (by (try simp only [List.map_toArray, List.map_cons, List.map_nil]); first | done | rfl | (simp only [List.length_drop, List.length_take]; rfl)) ?_; (with_reducible refine (spec_JoinKnown.calls t370 t371 t372 t373 t380 t381 t382 _ A206.out).mono ?_); rintro e w245 ⟨rfl, hb⟩; refine ⟨_, rfl, ?_⟩; have n0_ := Aside0.mk (Kd.R_below (rq_ ((Kd.R_mono (Kd.R_far (p := ⟨gb379, 1, none⟩) (Kd.R_far (p := ⟨gb379, 0, none⟩) (Kd.R_types HO_198.out BK379.out (by decide)) (fun _ hk => hk.2) (.int .i64 t376)) (fun _ hk => hk.2) (.int .i64 t377)) (fun _ h_ => h_.1)))) hb); have n1_ := Aside0.mk (blk_below (g := gb328) (o := .cells #[.int .i64 t324, .int .i64 t325] 26 (0, 0)) (by (with_reducible repeat (first | refine blk_drewN ?_ _ | refine blk_drew ?_ | refine blk_alloc ?_ _)); refine blk_far ?_ NB328_379.out _; (with_reducible repeat (first | refine blk_drewN ?_ _ | refine blk_drew ?_ | refine blk_alloc ?_ _)); refine blk_far ?_ NB328_379.out _; (with_reducible repeat (first | refine blk_drewN ?_ _ | refine blk_drew ?_ | refine blk_alloc ?_ _)); exact BK328.out) hb); have n2_ := Aside0.mk (blk_below (g := gb329) (o := .cells #[.int .i64 t326, .int .i64 t327] 26 (0, 0)) (by (with_reducible repeat (first | refine blk_drewN ?_ _ | refine blk_drew ?_ | refine blk_alloc ?_ _)); refine blk_far ?_ NB329_379.out _; (with_reducible repeat (first | refine blk_drewN ?_ _ | refine blk_drew ?_ | refine blk_alloc ?_ _)); refine blk_far ?_ NB329_379.out _; (with_reducible repeat (first | refine blk_drewN ?_ _ | refine blk_drew ?_ | refine blk_alloc ?_ _)); exact BK329.out) hb); have n3_ := Aside0.mk (blk_below (g := gb333) (o := .cells #[.int .i64 t330, .int .i64 t331] 26 (0, 0)) (by (with_reducible repeat (first | refine blk_drewN ?_ _ | refine blk_drew ?_ | refine blk_alloc ?_ _)); refine blk_far ?_ NB333_379.out _; (with_reducible repeat (first | refine blk_drewN ?_ _ | refine blk_drew ?_ | refine blk_alloc ?_ _)); refine blk_far ?_ NB333_379.out _; (with_reducible repeat (first | refine blk_drewN ?_ _ | refine blk_drew ?_ | refine blk_alloc ?_ _)); exact BK333.out) hb); have n4_ := Aside0.mk (blk_below (g := gb337) (o := .cells #[.int .i64 t334, .int .i64 t335] 26 (0, 0)) (by (with_reducible repeat (first | refine blk_drewN ?_ _ | refine blk_drew ?_ | refine blk_alloc ?_ _)); refine blk_far ?_ NB337_379.out _; (with_reducible repeat (first | refine blk_drewN ?_ _ | refine blk_drew ?_ | refine blk_alloc ?_ _)); refine blk_far ?_ NB337_379.out _; (with_reducible repeat (first | refine blk_drewN ?_ _ | refine blk_drew ?_ | refine blk_alloc ?_ _)); exact BK337.out) hb); have n5_ := Aside0.mk (blk_below (g := gb341) (o := .cells #[.int .i64 t338, .int .i64 t339] 26 (0, 0)) (by (with_reducible repeat (first | refine blk_drewN ?_ _ | refine blk_drew ?_ | refine blk_alloc ?_ _)); refine blk_far ?_ NB341_379.out _; (with_reducible repeat (first | refine blk_drewN ?_ _ | refine blk_drew ?_ | refine blk_alloc ?_ _)); refine blk_far ?_ NB341_379.out _; (with_reducible repeat (first | refine blk_drewN ?_ _ | refine blk_drew ?_ | refine blk_alloc ?_ _)); exact BK341.out) hb); have n6_ := Aside0.mk (blk_below (g := gb345) (o := .cells #[.int .i64 t342, .int .i64 t343] 26 (0, 0)) (by (with_reducible repeat (first | refine blk_drewN ?_ _ | refine blk_drew ?_ | refine blk_alloc ?_ _)); refine blk_far ?_ NB345_379.out _; (with_reducible repeat (first | refine blk_drewN ?_ _ | refine blk_drew ?_ | refine blk_alloc ?_ _)); refine blk_far ?_ NB345_379.out _; (with_reducible repeat (first | refine blk_drewN ?_ _ | refine blk_drew ?_ | refine blk_alloc ?_ _)); exact BK345.out) hb); have n7_ := Aside0.mk (blk_below (g := gb365) (o := .cells #[.int .i64 t362, .int .i64 t363] 26 (0, 0)) (by (with_reducible repeat (first | refine blk_drewN ?_ _ | refine blk_drew ?_ | refine blk_alloc ?_ _)); refine blk_far ?_ NB365_379.out _; (with_reducible repeat (first | refine blk_drewN ?_ _ | refine blk_drew ?_ | refine blk_alloc ?_ _)); refine blk_far ?_ NB365_379.out _; (with_reducible repeat (first | refine blk_drewN ?_ _ | refine blk_drew ?_ | refine blk_alloc ?_ _)); exact BK365.out) hb); have n8_ := Aside0.mk (blk_below (g := gb369) (o := .cells #[.int .i64 t366, .int .i64 t367] 26 (0, 0)) (by (with_reducible repeat (first | refine blk_drewN ?_ _ | refine blk_drew ?_ | refine blk_alloc ?_ _)); refine blk_far ?_ NB369_379.out _; (with_reducible repeat (first | refine blk_drewN ?_ _ | refine blk_drew ?_ | refine blk_alloc ?_ _)); refine blk_far ?_ NB369_379.out _; (with_reducible repeat (first | refine blk_drewN ?_ _ | refine blk_drew ?_ | refine blk_alloc ?_ _)); exact BK369.out) hb); have n9_ := Aside0.mk (blk_below (g := gb374) (o := .cells #[.int .i64 t370, .int .i64 t371] 26 (0, 0)) (by (with_reducible repeat (first | refine blk_drewN ?_ _ | refine blk_drew ?_ | refine blk_alloc ?_ _)); refine blk_far ?_ NB374_379.out _; (with_reducible repeat (first | refine blk_drewN ?_ _ | refine blk_drew ?_ | refine blk_alloc ?_ _)); refine blk_far ?_ NB374_379.out _; (with_reducible repeat (first | refine blk_drewN ?_ _ | refine blk_drew ?_ | refine blk_alloc ?_ _)); exact BK374.out) hb); have n10_ := Aside0.mk (blk_below (g := gb375) (o := .cells #[.int .i64 t372, .int .i64 t373] 26 (0, 0)) (by (with_reducible repeat (first | refine blk_drewN ?_ _ | refine blk_drew ?_ | refine blk_alloc ?_ _)); refine blk_far ?_ NB375_379.out _; (with_reducible repeat (first | refine blk_drewN ?_ _ | refine blk_drew ?_ | refine blk_alloc ?_ _)); refine blk_far ?_ NB375_379.out _; (with_reducible repeat (first | refine blk_drewN ?_ _ | refine blk_drew ?_ | refine blk_alloc ?_ _)); exact BK375.out) hb); have n11_ := Aside0.mk (blk_below (g := gb379) (o := .cells #[.int .i64 t376, .int .i64 t377] 26 (0, 0)) (by (with_reducible repeat (first | refine blk_drewN ?_ _ | refine blk_drew ?_ | refine blk_alloc ?_ _)); refine blk_put (cs := #[.int .i64 t376, .int .i64 0]) ?_ 1 _ rfl; (with_reducible repeat (first | refine blk_drewN ?_ _ | refine blk_drew ?_ | refine blk_alloc ?_ _)); refine blk_put (cs := #[.int .i64 0, .int .i64 0]) ?_ 0 _ rfl; (with_reducible repeat (first | refine blk_drewN ?_ _ | refine blk_drew ?_ | refine blk_alloc ?_ _)); exact BK379.out) hb); have n12_ := Aside0.mk (below_step (bq_) hb); clear HO_198; clear BK328; clear BK329; clear BK333; clear BK337; clear BK341; clear BK345; clear BK365; clear BK369; clear BK374; clear BK375; clear BK379; clear HB; have HO_198 := n0_; have BK328 := n1_; have BK329 := n2_; have BK333 := n3_; have BK337 := n4_; have BK341 := n5_; have BK345 := n6_; have BK365 := n7_; have BK369 := n8_; have BK374 := n9_; have BK375 := n10_; have BK379 := n11_; have HB := n12_; clear n0_ n1_ n2_ n3_ n4_ n5_ n6_ n7_ n8_ n9_ n10_ n11_ n12_; (try clear hb); (try clear hb2); (try clear hk); (try clear hi)) | ((with_reducible refine gate_dst (N := 39) rfl ?_); refine boxq_ (N := 39) (cs := #[.int .i64 0, .int .i64 0]) (t := 26) ?_; intro gb383 hg w246 hbox hb; have n0_ := Aside0.mk (Kd.R_below (rq_ HO_198.out) hb); have n1_ := Aside0.mk (blk_below (bk_ BK328.out) hb); have n2_ := Aside0.mk (blk_below (bk_ BK329.out) hb); have n3_ := Aside0.mk (blk_below (bk_ BK333.out) hb); have n4_ := Aside0.mk (blk_below (bk_ BK337.out) hb); have n5_ := Aside0.mk (blk_below (bk_ BK341.out) hb); have n6_ := Aside0.mk (blk_below (bk_ BK345.out) hb); have n7_ := Aside0.mk (blk_below (bk_ BK365.out) hb); have n8_ := Aside0.mk (blk_below (bk_ BK369.out) hb); have n9_ := Aside0.mk (blk_below (bk_ BK374.out) hb); have n10_ := Aside0.mk (blk_below (bk_ BK375.out) hb); have n11_ := Aside0.mk (blk_below (bk_ BK379.out) hb); have n12_ := Aside0.mk (below_step (bq_) hb); have n13_ := Aside0.mk (hbox); have n14_ := Aside0.mk ((by rw [hg]; exact (below_size (bq_)) : w.heap.size ≤ gb383)); have n15_ := Aside0.mk ((by rw [hg]; exact (below_size (bq_)) : w.heap.size ≤ gb383)); have n16_ := Aside0.mk ((by rw [hg]; exact Nat.ne_of_lt (blk_lt (bk_ BK328.out)) : gb328 ≠ gb383)); have n17_ := Aside0.mk ((by rw [hg]; exact Nat.ne_of_gt (blk_lt (bk_ BK328.out)) : gb383 ≠ gb328)); have n18_ := Aside0.mk ((by rw [hg]; exact Nat.ne_of_lt (blk_lt (bk_ BK329.out)) : gb329 ≠ gb383)); have n19_ := Aside0.mk ((by rw [hg]; exact Nat.ne_of_gt (blk_lt (bk_ BK329.out)) : gb383 ≠ gb329)); have n20_ := Aside0.mk ((by rw [hg]; exact Nat.ne_of_lt (blk_lt (bk_ BK333.out)) : gb333 ≠ gb383)); have n21_ := Aside0.mk ((by rw [hg]; exact Nat.ne_of_gt (blk_lt (bk_ BK333.out)) : gb383 ≠ gb333)); have n22_ := Aside0.mk ((by rw [hg]; exact Nat.ne_of_lt (blk_lt (bk_ BK337.out)) : gb337 ≠ gb383)); have n23_ := Aside0.mk ((by rw [hg]; exact Nat.ne_of_gt (blk_lt (bk_ BK337.out)) : gb383 ≠ gb337)); have n24_ := Aside0.mk ((by rw [hg]; exact Nat.ne_of_lt (blk_lt (bk_ BK341.out)) : gb341 ≠ gb383)); have n25_ := Aside0.mk ((by rw [hg]; exact Nat.ne_of_gt (blk_lt (bk_ BK341.out)) : gb383 ≠ gb341)); have n26_ := Aside0.mk ((by rw [hg]; exact Nat.ne_of_lt (blk_lt (bk_ BK345.out)) : gb345 ≠ gb383)); have n27_ := Aside0.mk ((by rw [hg]; exact Nat.ne_of_gt (blk_lt (bk_ BK345.out)) : gb383 ≠ gb345)); have n28_ := Aside0.mk ((by rw [hg]; exact Nat.ne_of_lt (blk_lt (bk_ BK365.out)) : gb365 ≠ gb383)); have n29_ := Aside0.mk ((by rw [hg]; exact Nat.ne_of_gt (blk_lt (bk_ BK365.out)) : gb383 ≠ gb365)); have n30_ := Aside0.mk ((by rw [hg]; exact Nat.ne_of_lt (blk_lt (bk_ BK369.out)) : gb369 ≠ gb383)); have n31_ := Aside0.mk ((by rw [hg]; exact Nat.ne_of_gt (blk_lt (bk_ BK369.out)) : gb383 ≠ gb369)); have n32_ := Aside0.mk ((by rw [hg]; exact Nat.ne_of_lt (blk_lt (bk_ BK374.out)) : gb374 ≠ gb383)); have n33_ := Aside0.mk ((by rw [hg]; exact Nat.ne_of_gt (blk_lt (bk_ BK374.out)) : gb383 ≠ gb374)); have n34_ := Aside0.mk ((by rw [hg]; exact Nat.ne_of_lt (blk_lt (bk_ BK375.out)) : gb375 ≠ gb383)); have n35_ := Aside0.mk ((by rw [hg]; exact Nat.ne_of_gt (blk_lt (bk_ BK375.out)) : gb383 ≠ gb375)); have n36_ := Aside0.mk ((by rw [hg]; exact Nat.ne_of_lt (blk_lt (bk_ BK379.out)) : gb379 ≠ gb383)); have n37_ := Aside0.mk ((by rw [hg]; exact Nat.ne_of_gt (blk_lt (bk_ BK379.out)) : gb383 ≠ gb379)); clear HO_198; clear BK328; clear BK329; clear BK333; clear BK337; clear BK341; clear BK345; clear BK365; clear BK369; clear BK374; clear BK375; clear BK379; clear HB; have HO_198 := n0_; have BK328 := n1_; have BK329 := n2_; have BK333 := n3_; have BK337 := n4_; have BK341 := n5_; have BK345 := n6_; have BK365 := n7_; have BK369 := n8_; have BK374 := n9_; have BK375 := n10_; have BK379 := n11_; have HB := n12_; have BK383 := n13_; have GW383 := n14_; have GE383 := n15_; have NB328_383 := n16_; have NB383_328 := n17_; have NB329_383 := n18_; have NB383_329 := n19_; have NB333_383 := n20_; have NB383_333 := n21_; have NB337_383 := n22_; have NB383_337 := n23_; have NB341_383 := n24_; have NB383_341 := n25_; have NB345_383 := n26_; have NB383_345 := n27_; have NB365_383 := n28_; have NB383_365 := n29_; have NB369_383 := n30_; have NB383_369 := n31_; have NB374_383 := n32_; have NB383_374 := n33_; have NB375_383 := n34_; have NB383_375 := n35_; have NB379_383 := n36_; have NB383_379 := n37_; clear n0_ n1_ n2_ n3_ n4_ n5_ n6_ n7_ n8_ n9_ n10_ n11_ n12_ n13_ n14_ n15_ n16_ n17_ n18_ n19_ n20_ n21_ n22_ n23_ n24_ n25_ n26_ n27_ n28_ n29_ n30_ n31_ n32_ n33_ n34_ n35_ n36_ n37_; clear hb hbox hg; have hnb247 := NB383_328.out; have hnc247 := NB328_383.out; have hnb248 := NB383_329.out; have hnc248 := NB329_383.out; have hnb249 := NB383_333.out; have hnc249 := NB333_383.out; have hnb250 := NB383_337.out; have hnc250 := NB337_383.out; have hnb251 := NB383_341.out; have hnc251 := NB341_383.out; have hnb252 := NB383_345.out; have hnc252 := NB345_383.out; have hnb253 := NB383_365.out; have hnc253 := NB365_383.out; have hnb254 := NB383_369.out; have hnc254 := NB369_383.out; have hnb255 := NB383_374.out; have hnc255 := NB374_383.out; have hnb256 := NB383_375.out; have hnc256 := NB375_383.out; have hnb257 := NB383_379.out; have hnc257 := NB379_383.out; have hcz258_0 := cq_ BK383.out 0 (.int .i64 0); have hcz258_1 := cq_ BK383.out 1 (.int .i64 0); have hfz258_0 := blk_frozen BK383.out 0; have hfz258_1 := blk_frozen BK383.out 1; have hcz259_0 := cq_ BK379.out 0 (.int .i64 t376); have hcz259_1 := cq_ BK379.out 1 (.int .i64 t377); have hfz259_0 := blk_frozen BK379.out 0; have hfz259_1 := blk_frozen BK379.out 1))
                              go_ret
                              exact ⟨by first | rfl | (simp [errW_none, errW_some] <;> rfl) | (simp [*, errW_none, errW_some] <;> rfl), bq_⟩
                          · rw [if_neg c207] at H
                            have c207b0 : (t378 == t382) = false := by simpa using c207
                            (try (have c207b1 : decide (t378 = t382) = false := by simpa using c207))
                            (try (have c207b2 : (t378 == t382) = false := by simpa using c207))
                            (try (have c207b3 : ¬ (t378 = t382) := by simpa using c207))
                            clear c207
                            exact absurd (Option.some.inj H).symm (by rw [hr_.out]; simp)

/-- THE ONE PURE STATEMENT of laws_FnBits: yours. -/
def laws_FnBits.Pure : Prop := ∀ (l0 : List Int) (l1 : List Int), l0.length ≤ maxLen → l0.length * 1 ≤ 140737488351232 → (∀ x ∈ l0, (Lit.int .u8 x).wf = true) → l1.length ≤ maxLen → l1.length * 1 ≤ 140737488351232 → (∀ x ∈ l1, (Lit.int .u8 x).wf = true) → ∃ k, laws_FnBits.f k l0 l1 = some true
theorem laws_FnBits.walk (P : laws_FnBits.Pure) (a0 : Option Addr) (len0 cap0 : Nat) (z0 : List Int) (a1 : Option Addr) (len1 cap1 : Nat) (z1 : List Int) (w : World) (w0 : (a0 = none ∧ len0 = 0 ∧ cap0 = 0 ∧ z0 = []) ∨ ∃ x, a0 = some x ∧ len0 ≤ cap0 ∧ cap0 ≤ maxLen ∧ z0.length = cap0 ∧ (∀ i, i < z0.length → w.cell? (x.add i) = some (.int .u8 (z0.getD i 0))) ∧ ∀ n ∈ z0, (Lit.int .u8 n).wf = true) (y0 : len0 * 1 ≤ 140737488351232) (w1 : (a1 = none ∧ len1 = 0 ∧ cap1 = 0 ∧ z1 = []) ∨ ∃ x, a1 = some x ∧ len1 ≤ cap1 ∧ cap1 ≤ maxLen ∧ z1.length = cap1 ∧ (∀ i, i < z1.length → w.cell? (x.add i) = some (.int .u8 (z1.getD i 0))) ∧ ∀ n ∈ z1, (Lit.int .u8 n).wf = true) (y1 : len1 * 1 ≤ 140737488351232) :
    Calls Try.prog 8 #[.slice a0 len0 cap0, .slice a1 len1 cap1] w fun e w' => e = .returned (.bool true) ∧ Below w.heap.size w w' := by
  obtain ⟨l0, rfl, hr0, hm0, hw0, hc0⟩ := ReadsInt.ofRowC w0
  obtain ⟨l1, rfl, hr1, hm1, hw1, hc1⟩ := ReadsInt.ofRowC w1
  obtain ⟨k, h⟩ := P l0 l1 hm0 y0 hw0 hm1 y1 hw1
  refine (laws_FnBits.calls k _ _ l0 _ _ l1 true w (Kd.C_of_reads (d := (0 : Int)) (h1 := fun _ => rfl) hr0) hc0 (Kd.C_of_reads (d := (0 : Int)) (h1 := fun _ => rfl) hr1) hc1 ⟨rfl⟩ h).mono ?_
  rintro e w' ⟨rfl, hd⟩
  exact ⟨rfl, hd⟩

end Go.Proofs.Ytggddmpomdpdjaa.PFB

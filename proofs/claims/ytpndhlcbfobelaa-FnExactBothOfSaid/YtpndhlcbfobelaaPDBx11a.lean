import Derived.Test.YtpndhlcbfobelaaPDBx0
import Derived.Test.YtpndhlcbfobelaaPDBx2
import Derived.Test.YtpndhlcbfobelaaPDBx3
import Derived.Test.YtpndhlcbfobelaaPDBx6
import Derived.Test.YtpndhlcbfobelaaPDBx10
namespace Go.Proofs.Ytpndhlcbfobelaa.PDB
open Go.RowKit Go.Proofs.YtpndhlcbfobelaaW.PrintWords Go.Proofs.YtpndhlcbfobelaaW.PrintLast Go.Proofs.YtpndhlcbfobelaaW.PrintMore
attribute [local go_sem] max2_int min2_int max_two min_two max_three min_three max_four min_four   -- for this text's walks alone
set_option linter.unusedVariables false
set_option linter.unusedSimpArgs false
mutual
def laws_FnExactBothOf.j0 : Nat → Bool → Bool → Bool → Int → List (S101) → Int → Int → List (S101) → Int → Int → List (S75) → Int → Int → List (S75) → Int → Int → List (S75) → Int → Int → List (S75) → Int → Option (Bool)
 | 0, _, _, _, _, _, _, _, _, _, _, _, _, _, _, _, _, _, _, _, _, _ => none
 | k + 1, x7, x11, x53, x241000, x241001, x241002, x242000, x242001, x242002, x261000, x261001, x261002, x267000, x267001, x267002, x273000, x273001, x273002, x280000, x280001, x280002 => if x53 = true then (some false) else ((laws_toDiagram.f k x241000 x241001 x241002).bind fun bt281 => ((laws_eqDiagram.f k x267000 x267001 x267002 bt281.1 bt281.2.1 bt281.2.2).bind fun t286 => (if t286 = true then ((laws_toDiagram.f k x242000 x242001 x242002).bind fun bt287 => ((laws_eqDiagram.f k x273000 x273001 x273002 bt287.1 bt287.2.1 bt287.2.2).bind fun t292 => (if t292 = true then ((laws_markDiagram.f k x267000 x267001 x267002 1).bind fun bt293 => ((laws_markDiagram.f k x273000 x273001 x273002 bt293.1).bind fun bt295 => (if bt295.1 < 0 then (laws_FnExactBothOf.j1 k x7 true x241000 x241001 x241002 x242000 x242001 x242002 x261000 x261001 x261002 x280000 x280001 x280002) else ((laws_eqDiagram.f k x280000 x280001 x280002 x261000 x261001 x261002).bind fun t297 => (if t297 = true then (laws_FnExactBothOf.j1 k x7 (x11 != x7) x241000 x241001 x241002 x242000 x242001 x242002 x261000 x261001 x261002 x280000 x280001 x280002) else (laws_FnExactBothOf.j1 k x7 true x241000 x241001 x241002 x242000 x242001 x242002 x261000 x261001 x261002 x280000 x280001 x280002)))))) else (some false)))) else (some false))))
def laws_FnExactBothOf.j1 : Nat → Bool → Bool → Int → List (S101) → Int → Int → List (S101) → Int → Int → List (S75) → Int → Int → List (S75) → Int → Option (Bool)
 | 0, _, _, _, _, _, _, _, _, _, _, _, _, _, _ => none
 | k + 1, x7, x82, x241000, x241001, x241002, x242000, x242001, x242002, x261000, x261001, x261002, x280000, x280001, x280002 => if x82 = true then (some false) else ((laws_markDiagram.f k x280000 x280001 x280002 1).bind fun bt298 => ((laws_heldDiagram.f k x280000 bt298.2 x280002 1).bind fun t300 => (if t300 < 0 then (some false) else (if t300 = bt298.1 then ((laws_toDiagram.f k x241000 x241001 x241002).bind fun bt301 => ((laws_toDiagram.f k x242000 x242001 x242002).bind fun bt306 => ((impl_BothOf.f k bt301.1 bt301.2.1 bt301.2.2 bt306.1 bt306.2.1 bt306.2.2).bind fun bt311 => ((laws_eqDiagram.f k bt311.1 bt311.2.1 bt311.2.2.1 x261000 x261001 x261002).bind fun t318 => (if t318 = true then (laws_FnExactBothOf.j2 k bt298.1 (bt311.2.2.2 != x7) x280000 bt298.2 x280002) else (laws_FnExactBothOf.j2 k bt298.1 true x280000 bt298.2 x280002)))))) else (some false)))))
def laws_FnExactBothOf.j2 : Nat → Int → Bool → Int → List (S75) → Int → Option (Bool)
 | 0, _, _, _, _, _ => none
 | k + 1, x13, x110, x280000, x280001, x280002 => if x110 = true then (some false) else ((laws_heldDiagram.f k x280000 x280001 x280002 1).bind fun t319 => (if t319 < 0 then (some false) else (if t319 = x13 then (some true) else (some false))))
end
def laws_FnExactBothOf.f (k : Nat) (a0_0 : Int) (l0_1 : List (S101)) (a0_2 : Int) (a1_0 : Int) (l1_1 : List (S101)) (a1_2 : Int) : Option (Bool) := (laws_szDiagram.f a0_0 l0_1 a0_2 1048576).bind fun t242 => (if t242 < 0 then (some true) else ((laws_szDiagram.f a1_0 l1_1 a1_2 t242).bind fun t243 => (if t243 < 0 then (some true) else ((laws_toDiagram.f k a0_0 l0_1 a0_2).bind fun bt244 => ((laws_toDiagram.f k a1_0 l1_1 a1_2).bind fun bt249 => ((spec_BothOf.f k bt244.1 bt244.2.1 bt244.2.2 bt249.1 bt249.2.1 bt249.2.2).bind fun bt254 => ((laws_toDiagram.f k a0_0 l0_1 a0_2).bind fun bt261 => ((laws_toDiagram.f k a1_0 l1_1 a1_2).bind fun bt267 => ((impl_BothOf.f k bt261.1 bt261.2.1 bt261.2.2 bt267.1 bt267.2.1 bt267.2.2).bind fun bt273 => ((laws_eqDiagram.f k bt273.1 bt273.2.1 bt273.2.2.1 bt254.1 bt254.2.1 bt254.2.2.1).bind fun t280 => (if t280 = true then (laws_FnExactBothOf.j0 k bt254.2.2.2 bt273.2.2.2 (bt273.2.2.2 != bt254.2.2.2) a0_0 l0_1 a0_2 a1_0 l1_1 a1_2 bt254.1 bt254.2.1 bt254.2.2.1 bt261.1 bt261.2.1 bt261.2.2 bt267.1 bt267.2.1 bt267.2.2 bt273.1 bt273.2.1 bt273.2.2.1) else (laws_FnExactBothOf.j0 k bt254.2.2.2 bt273.2.2.2 true a0_0 l0_1 a0_2 a1_0 l1_1 a1_2 bt254.1 bt254.2.1 bt254.2.2.1 bt261.1 bt261.2.1 bt261.2.2 bt267.1 bt267.2.1 bt267.2.2 bt273.1 bt273.2.1 bt273.2.2.1))))))))))))
def laws_FnExactBothOf.T8 : Bool × List (List Nat × List Nat) := (true, [([], []), ([0], [0]), ([], []), ([2, 1], [2]), ([1, 3, 3], [1, 3]), ([4], [4]), ([5], [5]), ([5], [5]), ([], []), ([8, 6, 4, 0, 1, 2, 3, 4, 5, 6, 8], [6, 8]), ([7, 9, 0, 1, 2, 3, 4, 5, 6, 7, 8, 9], [7])])
def laws_FnExactBothOf.B8 : List Nat := [0, 1, 0, 7, 15, 31, 63, 63, 0, 383, 1023]
theorem laws_FnExactBothOf.tab8 : rtab .any (opsOf Try.f7 8) = laws_FnExactBothOf.T8 := by kernel_rfl
theorem laws_FnExactBothOf.bits8 : waitsOk laws_FnExactBothOf.T8.2 laws_FnExactBothOf.B8 = true := by kernel_rfl
def laws_FnExactBothOf.T31 : Bool × List (List Nat × List Nat) := (true, [([], []), ([0], [0]), ([], []), ([2, 1], [2]), ([1, 3, 3], [1, 3]), ([4], [4]), ([5], [5]), ([5], [5]), ([], []), ([8, 6, 4, 0, 1, 2, 3, 4, 5, 6, 8], [6, 8]), ([7, 9, 0, 1, 2, 3, 4, 5, 6, 7, 8, 9], [7])])
def laws_FnExactBothOf.B31 : List Nat := [0, 1, 0, 7, 15, 31, 63, 63, 0, 383, 1023]
theorem laws_FnExactBothOf.tab31 : rtab .any (opsOf Try.f7 31) = laws_FnExactBothOf.T31 := by kernel_rfl
theorem laws_FnExactBothOf.bits31 : waitsOk laws_FnExactBothOf.T31.2 laws_FnExactBothOf.B31 = true := by kernel_rfl
theorem laws_FnExactBothOf.j0_no_2 {k : Nat} {y0 : Bool} {y1 : Bool} {y3 : Int} {y4 : List (S101)} {y5 : Int} {y6 : Int} {y7 : List (S101)} {y8 : Int} {y9 : Int} {y10 : List (S75)} {y11 : Int} {y12 : Int} {y13 : List (S75)} {y14 : Int} {y15 : Int} {y16 : List (S75)} {y17 : Int} {y18 : Int} {y19 : List (S75)} {y20 : Int} (h : laws_FnExactBothOf.j0 k y0 y1 true y3 y4 y5 y6 y7 y8 y9 y10 y11 y12 y13 y14 y15 y16 y17 y18 y19 y20 = some true) : False := by
 cases k <;> simp [laws_FnExactBothOf.j0] at h
theorem laws_FnExactBothOf.j1_no_1 {k : Nat} {y0 : Bool} {y2 : Int} {y3 : List (S101)} {y4 : Int} {y5 : Int} {y6 : List (S101)} {y7 : Int} {y8 : Int} {y9 : List (S75)} {y10 : Int} {y11 : Int} {y12 : List (S75)} {y13 : Int} (h : laws_FnExactBothOf.j1 k y0 true y2 y3 y4 y5 y6 y7 y8 y9 y10 y11 y12 y13 = some true) : False := by
 cases k <;> simp [laws_FnExactBothOf.j1] at h
theorem laws_FnExactBothOf.j2_no_1 {k : Nat} {y0 : Int} {y2 : Int} {y3 : List (S75)} {y4 : Int} (h : laws_FnExactBothOf.j2 k y0 true y2 y3 y4 = some true) : False := by
 cases k <;> simp [laws_FnExactBothOf.j2] at h
end Go.Proofs.Ytpndhlcbfobelaa.PDB

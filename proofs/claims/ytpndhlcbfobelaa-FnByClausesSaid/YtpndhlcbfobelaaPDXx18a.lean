import Derived.Test.YtpndhlcbfobelaaPDXx0
import Derived.Test.YtpndhlcbfobelaaPDXx5
import Derived.Test.YtpndhlcbfobelaaPDXx8
import Derived.Test.YtpndhlcbfobelaaPDXx9
import Derived.Test.YtpndhlcbfobelaaPDXx11
import Derived.Test.YtpndhlcbfobelaaPDXx12
import Derived.Test.YtpndhlcbfobelaaPDXx13
import Derived.Test.YtpndhlcbfobelaaPDXx15
import Derived.Test.YtpndhlcbfobelaaPDXx16
import Derived.Test.YtpndhlcbfobelaaPDXx17
namespace Go.Proofs.Ytpndhlcbfobelaa.PDX
open Go.RowKit Go.Proofs.YtpndhlcbfobelaaW.PrintWords Go.Proofs.YtpndhlcbfobelaaW.PrintLast Go.Proofs.YtpndhlcbfobelaaW.PrintMore
attribute [local go_sem] max2_int min2_int max_two min_two max_three min_three max_four min_four   -- for this text's walks alone
set_option linter.unusedVariables false
set_option linter.unusedSimpArgs false
mutual
def laws_FnByClauses.j0 : Nat → List Int → Int → List (List Int) → Bool → Bool → Int → List (S75) → Int → Option (Bool)
 | 0, _, _, _, _, _, _, _, _ => none
 | k + 1, x1, x5, x6, x8, x76, x457000, x457001, x457002 => if x76 = true then (some false) else (if x8 = true then ((impl_OnesOf.f k x457000 x457001 x457002).bind fun bt465 => ((impl_CountModels.f k x5 x6).bind fun bt467 => ((laws_numberOf.f k x1).bind fun t469 => (if (wrap64 ((x6.length : Int) + 1)) = 0 then (none) else (if 0 ≤ (Int.tmod t469 (wrap64 ((x6.length : Int) + 1))) then (if (Int.tmod t469 (wrap64 ((x6.length : Int) + 1))) ≤ (x6.length : Int) then ((impl_ByClauses.f k x5 (x6.take ((Int.tmod t469 (wrap64 ((x6.length : Int) + 1))) : Int).toNat)).bind fun bt474 => ((impl_ByClauses.f k x5 (x6.drop ((Int.tmod t469 (wrap64 ((x6.length : Int) + 1))) : Int).toNat)).bind fun bt485 => ((impl_BothOf.f k bt474.1 bt474.2.1 bt474.2.2.1 bt485.1 bt485.2.1 bt485.2.2.1).bind fun bt492 => (if bt465.2 = true then (if bt467.2 = true then (if bt465.1 = bt467.1 then (if bt474.2.2.2 = true then (if bt485.2.2.2 = true then (if bt492.2.2.2 = true then ((laws_sameDiagram.f k bt492.1 bt492.2.1 bt492.2.2.1 x457000 x457001 x457002).bind fun t499 => (if t499 = true then (laws_FnByClauses.j1 k x1) else (some false))) else (some false)) else (some false)) else (some false)) else (some false)) else (some false)) else (some false))))) else (none)) else (none)))))) else (laws_FnByClauses.j1 k x1))
def laws_FnByClauses.j1 : Nat → List Int → Option (Bool)
 | 0, _ => none
 | k + 1, x1 => (spec_DrawFixVar.f k x1).bind fun bt500 => ((impl_FixVar.f k bt500.1 bt500.2.1 bt500.2.2.1 bt500.2.2.2.1 bt500.2.2.2.2).bind fun bt508 => ((spec_FixVar.f k bt500.1 bt500.2.1 bt500.2.2.1 bt500.2.2.2.1 bt500.2.2.2.2).bind fun bt515 => ((spec_DrawBothOf.f k x1).bind fun bt522 => ((impl_BothOf.f k bt522.1 bt522.2.1 bt522.2.2.1 bt522.2.2.2.1 bt522.2.2.2.2.1 bt522.2.2.2.2.2).bind fun bt534 => ((spec_BothOf.f k bt522.1 bt522.2.1 bt522.2.2.1 bt522.2.2.2.1 bt522.2.2.2.2.1 bt522.2.2.2.2.2).bind fun bt541 => (if (bt508.2.2.2 != bt515.2.2.2) = true then (laws_FnByClauses.j2 k bt500.2.2.2.1 bt500.2.2.2.2 bt508.2.2.2 true bt500.1 bt500.2.1 bt500.2.2.1 bt508.1 bt508.2.1 bt508.2.2.1) else ((laws_sameDiagram.f k bt508.1 bt508.2.1 bt508.2.2.1 bt515.1 bt515.2.1 bt515.2.2.1).bind fun t548 => (if t548 = true then (if (bt534.2.2.2 != bt541.2.2.2) = true then (laws_FnByClauses.j2 k bt500.2.2.2.1 bt500.2.2.2.2 bt508.2.2.2 true bt500.1 bt500.2.1 bt500.2.2.1 bt508.1 bt508.2.1 bt508.2.2.1) else ((laws_sameDiagram.f k bt534.1 bt534.2.1 bt534.2.2.1 bt541.1 bt541.2.1 bt541.2.2.1).bind fun t549 => (laws_FnByClauses.j2 k bt500.2.2.2.1 bt500.2.2.2.2 bt508.2.2.2 (!t549) bt500.1 bt500.2.1 bt500.2.2.1 bt508.1 bt508.2.1 bt508.2.2.1))) else (laws_FnByClauses.j2 k bt500.2.2.2.1 bt500.2.2.2.2 bt508.2.2.2 true bt500.1 bt500.2.1 bt500.2.2.1 bt508.1 bt508.2.1 bt508.2.2.1)))))))))
def laws_FnByClauses.j2 : Nat → Int → Bool → Bool → Bool → Int → List (S75) → Int → Int → List (S75) → Int → Option (Bool)
 | 0, _, _, _, _, _, _, _, _, _, _ => none
 | k + 1, x23, x24, x26, x202, x508000, x508001, x508002, x515000, x515001, x515002 => if x202 = true then (some false) else (if x26 = true then (laws_FnByClauses.l0 k x23 x24 x515001 (x515001.length : Int) 0 x508000 x508001 x508002 x515000 x515001 x515002) else (some true))
def laws_FnByClauses.l0 : Nat → Int → Bool → List (S75) → Int → Int → Int → List (S75) → Int → Int → List (S75) → Int → Option (Bool)
 | 0, _, _, _, _, _, _, _, _, _, _, _ => none
 | k + 1, x23, x24, x205, x206, x207, x508000, x508001, x508002, x515000, x515001, x515002 => if x207 < x206 then (if 0 ≤ x207 then (if x207 < (x205.length : Int) then (if ((rd_T75 x205 x207).f0) = x23 then (some false) else (laws_FnByClauses.l0 k x23 x24 x205 x206 (wrap64 (x207 + 1)) x508000 x508001 x508002 x515000 x515001 x515002)) else (none)) else (none)) else ((impl_FixVar.f k x508000 x508001 x508002 x23 (!x24)).bind fun bt552 => ((impl_OnesOf.f k x515000 x515001 x515002).bind fun bt559 => ((impl_OnesOf.f k bt552.1 bt552.2.1 bt552.2.2.1).bind fun bt561 => ((impl_OnesOf.f k x508000 x508001 x508002).bind fun bt563 => (if bt552.2.2.2 = true then (if bt559.2 = true then (if bt561.2 = true then (if bt563.2 = true then (some ((wrap64 (bt559.1 + bt561.1)) == (wrap64 (2 * bt563.1)))) else (some false)) else (some false)) else (some false)) else (some false))))))
end
def laws_FnByClauses.f (k : Nat) (l0 : List Int) (l1 : List Int) : Option (Bool) := if (wrap64 ((l0.length : Int) + (l1.length : Int))) > 1048576 then (some true) else ((spec_DrawByClauses.f k l0).bind fun bt446 => ((impl_ByClauses.f k bt446.1 bt446.2).bind fun bt450 => ((spec_ByClauses.f k bt446.1 bt446.2).bind fun bt457 => (if (bt450.2.2.2 != bt457.2.2.2) = true then (laws_FnByClauses.j0 k l1 bt446.1 bt446.2 bt450.2.2.2 true bt450.1 bt450.2.1 bt450.2.2.1) else ((laws_sameDiagram.f k bt450.1 bt450.2.1 bt450.2.2.1 bt457.1 bt457.2.1 bt457.2.2.1).bind fun t464 => (laws_FnByClauses.j0 k l1 bt446.1 bt446.2 bt450.2.2.2 (!t464) bt450.1 bt450.2.1 bt450.2.2.1))))))
theorem laws_FnByClauses.j0_no_4 {k : Nat} {y0 : List Int} {y1 : Int} {y2 : List (List Int)} {y3 : Bool} {y5 : Int} {y6 : List (S75)} {y7 : Int} (h : laws_FnByClauses.j0 k y0 y1 y2 y3 true y5 y6 y7 = some true) : False := by
 cases k <;> simp [laws_FnByClauses.j0] at h
theorem laws_FnByClauses.j2_no_3 {k : Nat} {y0 : Int} {y1 : Bool} {y2 : Bool} {y4 : Int} {y5 : List (S75)} {y6 : Int} {y7 : Int} {y8 : List (S75)} {y9 : Int} (h : laws_FnByClauses.j2 k y0 y1 y2 true y4 y5 y6 y7 y8 y9 = some true) : False := by
 cases k <;> simp [laws_FnByClauses.j2] at h
end Go.Proofs.Ytpndhlcbfobelaa.PDX

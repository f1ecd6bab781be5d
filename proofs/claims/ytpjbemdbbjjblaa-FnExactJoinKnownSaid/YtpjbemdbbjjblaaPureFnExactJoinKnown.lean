/- Proved here: the pure statement of the law FnExactJoinKnown: what the printed functions compute answers true. Conditions: the statement's own bounds. -/
import Derived.Test.YtpjbemdbbjjblaaPG2x1
import Derived.Test.YtpjbemdbbjjblaaPG2x2
import Derived.Test.YtpjbemdbbjjblaaPG2x3
import Derived.Test.YtpjbemdbbjjblaaPG2x4
namespace Go.Proofs.Ytpjbemdbbjjblaa.Pure
open Go Go.RowKit Go.Proofs.Ytpjbemdbbjjblaa.PG2 Go.Proofs.YtpjbemdbbjjblaaW.PrintWords Go.Proofs.YtpjbemdbbjjblaaW.PrintLast Go.Proofs.YtpjbemdbbjjblaaW.PrintMore
set_option linter.unusedVariables false
set_option linter.unusedSimpArgs false

/-- A number lies between two. -/
def In (a lo hi : Int) : Bool := decide (lo ≤ a) && decide (a ≤ hi)
theorem In_true {a lo hi : Int} : In a lo hi = true ↔ lo ≤ a ∧ a ≤ hi := by simp [In]
theorem In_false {a lo hi : Int} : In a lo hi = false ↔ ¬ (lo ≤ a ∧ a ≤ hi) := by rw [← In_true]; simp
theorem In_ite {a lo hi : Int} : (if a ≥ lo then some (decide (a ≤ hi)) else some false) = some (In a lo hi) := by
  unfold In; by_cases h : lo ≤ a <;> simp [h]
theorem ite_some {α : Type} {c : Prop} [Decidable c] (a b : α) : (if c then some a else some b) = some (if c then a else b) := by split <;> rfl
theorem ne_self_bool (b : Bool) : ((b != b) = true) = False := by simp

theorem spec_l1In_eq (a b c : Int) : spec_l1In.f a b c = some (In a b c) := by unfold spec_l1In.f; exact In_ite

theorem impl_in_eq (a b c : Int) : impl_in.f a b c = some (In a b c) := by unfold impl_in.f; exact In_ite

theorem spec_l1Word_eq (a : Int) : spec_l1Word.f a = some (In a 0 65535) := by unfold spec_l1Word.f; rw [spec_l1In_eq]; rfl

theorem impl_isWord_eq (a : Int) : impl_isWord.f a = some (In a 0 65535) := by unfold impl_isWord.f; rw [impl_in_eq]; rfl

def GoodK (v m : Int) : Bool := In v 0 65535 && In m 0 65535 && (Go.bits .and .i64 v m == 0)
def GoodS (lo hi : Int) : Bool := In lo 0 65535 && In hi 0 65535 && decide (lo ≤ hi)

theorem toKnown_eq (a b : Int) : laws_toKnown.f a b = some (a, b) := rfl

theorem eqKnown_self (a b : Int) : laws_eqKnown.f a b a b = some true := by unfold laws_eqKnown.f; simp

theorem spec_GoodKnown_eq (a b : Int) : spec_GoodKnown.f a b = some (GoodK a b) := by
  unfold spec_GoodKnown.f GoodK; simp only [spec_l1Word_eq, Option.bind_some]
  cases In a 0 65535 <;> cases In b 0 65535 <;> simp

theorem impl_GoodKnown_eq (a b : Int) : impl_GoodKnown.f a b = some (GoodK a b) := by
  unfold impl_GoodKnown.f GoodK; simp only [impl_isWord_eq, Option.bind_some]
  cases In a 0 65535 <;> cases In b 0 65535 <;> simp

theorem impl_bothKnown_eq (a b c d : Int) : impl_bothKnown.f a b c d = some (GoodK a b && GoodK c d) := by
  unfold impl_bothKnown.f; simp only [impl_GoodKnown_eq, Option.bind_some]; cases GoodK a b <;> simp

def JoinK (a b c d : Int) : Int × Int := (Go.bits .andNot .i64 a (Go.bits .or .i64 (Go.bits .or .i64 b d) (Go.bits .xor .i64 a c)), Go.bits .or .i64 (Go.bits .or .i64 b d) (Go.bits .xor .i64 a c))

theorem spec_l10Join_eq (a b c d : Int) : spec_l10Join.f a b c d = some (JoinK a b c d) := rfl

theorem impl_joinKnown_eq (a b c d : Int) : impl_joinKnown.f a b c d = some (JoinK a b c d) := rfl

theorem spec_JoinKnown_eq (a b c d : Int) : spec_JoinKnown.f a b c d = some (if GoodK a b && GoodK c d then ((JoinK a b c d).1, (JoinK a b c d).2, true) else (0, 0, false)) := by
  unfold spec_JoinKnown.f; simp only [spec_GoodKnown_eq, spec_l10Join_eq, Option.bind_some]; cases GoodK a b <;> cases GoodK c d <;> simp

theorem impl_JoinKnown_eq (a b c d : Int) : impl_JoinKnown.f a b c d = some (if GoodK a b && GoodK c d then ((JoinK a b c d).1, (JoinK a b c d).2, true) else (0, 0, false)) := by
  unfold impl_JoinKnown.f; simp only [impl_bothKnown_eq, impl_joinKnown_eq, Option.bind_some]; cases GoodK a b <;> cases GoodK c d <;> simp

def JoinS (a b c d : Int) : Int × Int := (mn a c, mx b d)

def MeetS (a b c d : Int) : Int × Int × Bool := if mx a c > mn b d then (0, 0, false) else (mx a c, mn b d, true)

def LessS (a b c d : Int) : Int × Int × Int × Int × Bool := if a ≥ d then (0, 0, 0, 0, false) else (a, mn b (wrap64 (d - 1)), mx c (wrap64 (a + 1)), d, true)

theorem FnExactJoinKnown : laws_FnExactJoinKnown.Pure := by
  intro a b c d _ _ _ _
  unfold laws_FnExactJoinKnown.f
  simp [toKnown_eq, spec_JoinKnown_eq, impl_JoinKnown_eq, eqKnown_self]

end Go.Proofs.Ytpjbemdbbjjblaa.Pure

/- Proved here: the pure statement of the law FnExactMeetStretch: what the printed functions compute answers true. Conditions: the statement's own bounds. -/
import Derived.Test.YtpjbemdbbjjblaaPG2x1
import Derived.Test.YtpjbemdbbjjblaaPG2x10
import Derived.Test.YtpjbemdbbjjblaaPG2x11
import Derived.Test.YtpjbemdbbjjblaaPG2x2
import Derived.Test.YtpjbemdbbjjblaaPG2x7
import Derived.Test.YtpjbemdbbjjblaaPG2x9
namespace Go.Proofs.Ytpjbemdbbjjblaa.Pure
open Go Go.RowKit Go.Proofs.Ytpjbemdbbjjblaa.PG2 Go.Proofs.YtpjbemdbbjjblaaW.PrintWords Go.Proofs.YtpjbemdbbjjblaaW.PrintLast Go.Proofs.YtpjbemdbbjjblaaW.PrintMore
set_option linter.unusedVariables false
set_option linter.unusedSimpArgs false

/-- A number lies between two. -/
def In (a lo hi : Int) : Bool := decide (lo ≤ a) && decide (a ≤ hi)
theorem In_true {a lo hi : Int} : In a lo hi = true ↔ lo ≤ a ∧ a ≤ hi := by simp [In]
theorem In_false {a lo hi : Int} : In a lo hi = false ↔ ¬ (lo ≤ a ∧ a ≤ hi) := by rw [← In_true]; simp
theorem In_ite {a lo hi : Int} : (if a ≥ lo then some (decide (a ≤ hi)) else some false) = some (In a lo hi) := by
  unfold In; by_cases h : lo ≤ a <;> simp [h]
theorem ite_some {α : Type} {c : Prop} [Decidable c] (a b : α) : (if c then some a else some b) = some (if c then a else b) := by split <;> rfl
theorem ne_self_bool (b : Bool) : ((b != b) = true) = False := by simp

theorem spec_l1In_eq (a b c : Int) : spec_l1In.f a b c = some (In a b c) := by unfold spec_l1In.f; exact In_ite

theorem impl_in_eq (a b c : Int) : impl_in.f a b c = some (In a b c) := by unfold impl_in.f; exact In_ite

theorem spec_l1Word_eq (a : Int) : spec_l1Word.f a = some (In a 0 65535) := by unfold spec_l1Word.f; rw [spec_l1In_eq]; rfl

theorem impl_isWord_eq (a : Int) : impl_isWord.f a = some (In a 0 65535) := by unfold impl_isWord.f; rw [impl_in_eq]; rfl

theorem spec_l1Least_eq (a b : Int) : spec_l1Least.f a b = some (mn a b) := by
  unfold spec_l1Least.f mn; (repeat' split) <;> first | rfl | (congr 1; omega)

theorem spec_l1Most_eq (a b : Int) : spec_l1Most.f a b = some (mx a b) := by
  unfold spec_l1Most.f mx; (repeat' split) <;> first | rfl | (congr 1; omega)

def GoodK (v m : Int) : Bool := In v 0 65535 && In m 0 65535 && (Go.bits .and .i64 v m == 0)
def GoodS (lo hi : Int) : Bool := In lo 0 65535 && In hi 0 65535 && decide (lo ≤ hi)

theorem toStretch_eq (a b : Int) : laws_toStretch.f a b = some (a, b) := rfl

theorem eqStretch_self (a b : Int) : laws_eqStretch.f a b a b = some true := by unfold laws_eqStretch.f; simp

theorem spec_GoodStretch_eq (a b : Int) : spec_GoodStretch.f a b = some (GoodS a b) := by
  unfold spec_GoodStretch.f GoodS; simp only [spec_l1Word_eq, Option.bind_some]
  cases In a 0 65535 <;> cases In b 0 65535 <;> simp

theorem impl_GoodStretch_eq (a b : Int) : impl_GoodStretch.f a b = some (GoodS a b) := by
  unfold impl_GoodStretch.f GoodS; simp only [impl_isWord_eq, Option.bind_some]
  cases In a 0 65535 <;> cases In b 0 65535 <;> simp

theorem spec_l9Two_eq (a b c d : Int) : spec_l9Two.f a b c d = some (GoodS a b && GoodS c d) := by
  unfold spec_l9Two.f; simp only [spec_GoodStretch_eq, Option.bind_some]; cases GoodS a b <;> simp

theorem impl_two_eq (a b c d : Int) : impl_two.f a b c d = some (GoodS a b && GoodS c d) := by
  unfold impl_two.f; simp only [impl_GoodStretch_eq, Option.bind_some]; cases GoodS a b <;> simp

def JoinK (a b c d : Int) : Int × Int := (Go.bits .andNot .i64 a (Go.bits .or .i64 (Go.bits .or .i64 b d) (Go.bits .xor .i64 a c)), Go.bits .or .i64 (Go.bits .or .i64 b d) (Go.bits .xor .i64 a c))

def JoinS (a b c d : Int) : Int × Int := (mn a c, mx b d)

def MeetS (a b c d : Int) : Int × Int × Bool := if mx a c > mn b d then (0, 0, false) else (mx a c, mn b d, true)

theorem spec_l9Meet_eq (a b c d : Int) : spec_l9Meet.f a b c d = some (MeetS a b c d) := by unfold spec_l9Meet.f MeetS; rw [spec_l1Least_eq, spec_l1Most_eq]; simp only [Option.bind_some]; exact ite_some _ _

theorem spec_MeetStretch_eq (a b c d : Int) : spec_MeetStretch.f a b c d = some (if GoodS a b && GoodS c d then MeetS a b c d else (0, 0, false)) := by
  unfold spec_MeetStretch.f; simp only [spec_l9Two_eq, spec_l9Meet_eq, Option.bind_some]; cases (GoodS a b && GoodS c d) <;> simp

theorem impl_meetStretch_eq (a b c d : Int) : impl_meetStretch.f a b c d = some (MeetS a b c d) := by unfold impl_meetStretch.f MeetS; exact ite_some _ _

theorem impl_MeetStretch_eq (a b c d : Int) : impl_MeetStretch.f a b c d = some (if GoodS a b && GoodS c d then MeetS a b c d else (0, 0, false)) := by
  unfold impl_MeetStretch.f; simp only [impl_two_eq, impl_meetStretch_eq, Option.bind_some]; cases (GoodS a b && GoodS c d) <;> simp

def LessS (a b c d : Int) : Int × Int × Int × Int × Bool := if a ≥ d then (0, 0, 0, 0, false) else (a, mn b (wrap64 (d - 1)), mx c (wrap64 (a + 1)), d, true)

theorem FnExactMeetStretch : laws_FnExactMeetStretch.Pure := by
  intro a b c d _ _ _ _
  unfold laws_FnExactMeetStretch.f
  simp [toStretch_eq, spec_MeetStretch_eq, impl_MeetStretch_eq, eqStretch_self]

end Go.Proofs.Ytpjbemdbbjjblaa.Pure

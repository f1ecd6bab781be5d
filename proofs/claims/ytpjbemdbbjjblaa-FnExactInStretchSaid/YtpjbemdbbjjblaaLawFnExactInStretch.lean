/- Proved here: the law FnExactInStretch answers true for every input that its row speaks of, and its arguments read behind the call as before. Conditions: none beyond the row's own. -/
import Derived.Test.YtpjbemdbbjjblaaRows
import Derived.Test.YtpjbemdbbjjblaaPG2x1
import Derived.Test.YtpjbemdbbjjblaaPureFnExactInStretch
import Derived.Test.YtpjbemdbbjjblaaOpen
import Derived.WalkKit
import Derived.ProofKit
import Derived.OpenShut
import Derived.ShutString
import Derived.ChangeOld
import Derived.Below
import Derived.SizedLaws
namespace Go.Proofs.Ytpjbemdbbjjblaa.fnExactInStretch
open Go.ChangeShapes Go.WideShapes Go.ChangeAt Go.RowKit Go.Proofs.Ytpjbemdbbjjblaa.PG2 Go.Proofs.YtpjbemdbbjjblaaW.PrintWords
open Go.ChangeMaps (open_string shut_string)
set_option linter.unusedVariables false
theorem own : ownKnob Try.prog.godebug = none := by kernel_rfl
theorem laidOut : laidOutB Try.prog = true := by kernel_rfl
instance : Inhabited S29 := ⟨z29⟩
theorem opensS29 : Opn.Opens Try.prog 29 k29 (fun x : S29 => ((Lit.int .i64 x.f0).wf = true) ∧ ((Lit.int .i64 x.f1).wf = true)) := by
  have h := Opn.opens_iso (fun x : S29 => (x.f0, x.f1)) (fun p : (Int) × (Int) => (⟨p.1, p.2⟩ : S29)) (fun _ => rfl) (Opn.opens_struct Try.underlying29 rfl (by kernel_rfl) (Opn.opensF_cons (Opn.opens_int Try.underlying3) rfl (by kernel_rfl) rfl (Opn.opensF_one (Opn.opens_int Try.underlying3) rfl (by kernel_rfl))))
  exact h
set_option maxRecDepth 100000 in
theorem lifted (os : Os) (started : os.Started) (H : Type) (enc : TypeId × Value → H) :
    ReturnsInHanded {} Try.checked os 5 .any (Rows.fnExactInStretchSpec.pre6 enc Try.prog Try.f5 Rows.fnExactInStretchRow.domain false) (Rows.fnExactInStretchSpec.post enc Try.prog Try.f5 false true false false) := by
  refine returnsInHanded_of_change_sized (C := Try.checked) own started (by kernel_rfl) Try.func5
    (ChangeSpec.witness6 (enc := enc) (C := Try.checked) false ⟨#[], #[.agg #[.int .i64 0, .int .i64 0], .int .i64 0], []⟩ 8 (by kernel_rfl) (by kernel_rfl) (by kernel_rfl) (by kernel_rfl)) ?_
  intro W base args ds gs before hval0 hW hcnd hsz0 _
  have hsz : (DataW.weightsEach Try.prog (Try.f5.params.toList ++ Rows.fnExactInStretchSpec.plain.varTypes Try.prog) (ds ++ gs)).all (· ≤ reachBytes) = true := hsz0
  have hval : ∀ (j : Nat) t v, Try.f5.params[j]? = some t → args[j]? = some v → Value.okWide Try.prog W .any base t v := hval0
  have hW' := hW
  obtain ⟨p, q, hA0, hV, rfl, hfz, hnd⟩ := hW
  have hA : DataW.TrodAll enc Try.prog W 0 (fun _ => true) true Try.f5.params.toList args.toList ds p := hA0
  rw [Try.params5] at hA hval hsz
  obtain ⟨v0, vs0, d0, ds0, p0, q0, hargs, rfl, rfl, h0, r0⟩ := trodAll_cons hA
  obtain ⟨v1, vs1, d1, ds1, p1, q1, rfl, rfl, rfl, h1, r1⟩ := trodAll_cons r0
  obtain ⟨rfl, rfl, rfl⟩ := trodAll_nil r1
  obtain rfl : args = #[v0, v1] := by cases args; simp_all
  obtain ⟨rfl, rfl⟩ := trodVars_none hV
  have k0 := h0
  have lt0 : ∀ x ∈ p0, x.block < W.heap.size := by obtain ⟨m, hm⟩ := k0; exact DataW.trod_lt m _ _ _ hm
  obtain ⟨x0, hK0, g0⟩ := Opn.opened opensS29 h0
  obtain ⟨cs0, rfl, _⟩ := okWide_struct Try.underlying29 (hval 0 29 v0 rfl rfl)
  obtain e0 := k29_open hK0
  obtain rfl : cs0 = #[.int .i64 x0.f0, .int .i64 x0.f1] := by apply Array.ext'; exact e0
  obtain ⟨a1, rfl, rfl, rfl, w1⟩ := open_int Try.underlying3 (hval 1 3 v1 rfl rfl) h1
  clear hA0 hval0 hsz0 hsz
  refine (laws_FnExactInStretch.walk Pure.FnExactInStretch W x0.f0 g0.1 x0.f1 g0.2 a1 w1).mono fun e W' ⟨he, bel⟩ => ?_
  subst he
  exact ⟨_, rfl, _, _, _, [], _, [], hW', trodAll_mk1 (shut_bool Try.underlying4 _), (trodAll_cons_mk (Below.trod laidOut (by kernel_rfl) (of_decide_eq_true (by kernel_rfl)) k0 bel lt0) (trodAll_cons_mk (shut_int Try.underlying3 w1) trodAll_mk0)), rfl, bel.frame _, fun h => by cases h⟩
theorem over : Rows.fnExactInStretchRow.holds Try.pinned (OpenSpec.ofChange Rows.fnExactInStretchSpec) :=
  OpenClaim.holds_of_wide 5 Try.f5 rfl rfl rfl rfl rfl rfl rfl ⟨rfl, rfl, rfl, rfl, rfl⟩ rfl rfl rfl rfl rfl (by kernel_rfl) Try.func5 (by kernel_rfl)
    (of_decide_eq_true (by kernel_rfl)) (by unfold Func.isWrapper; first | (rw [if_pos (by decide +kernel)]; kernel_rfl) | (rw [if_neg (by decide +kernel)]; exact ⟨rfl, rfl⟩))
    (fun os started H enc _ => lifted os started H enc)
theorem proved : Rows.FnExactInStretchSaid := over
#print axioms proved
end Go.Proofs.Ytpjbemdbbjjblaa.fnExactInStretch
namespace Go.Proofs.Ytpjbemdbbjjblaa
/-- The row, under a short name, for the claim. -/
theorem fnExactInStretch_holds : Rows.FnExactInStretchSaid := fnExactInStretch.proved
end Go.Proofs.Ytpjbemdbbjjblaa

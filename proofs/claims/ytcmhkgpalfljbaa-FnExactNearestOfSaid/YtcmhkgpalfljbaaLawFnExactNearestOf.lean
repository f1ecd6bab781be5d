/- Proved here: the law FnExactNearestOf answers true for every input that its row speaks of, and its arguments read behind the call as before. Conditions: none beyond the row's own. -/
import Derived.Test.YtcmhkgpalfljbaaRows
import Derived.Test.YtcmhkgpalfljbaaPINx9
import Derived.Test.YtcmhkgpalfljbaaPureFnExactNearestOf
import Derived.Test.YtcmhkgpalfljbaaOpen
import Derived.WalkKit
import Derived.ProofKit
import Derived.OpenShut
import Derived.ShutString
import Derived.ChangeOld
import Derived.Below
import Derived.SizedLaws
namespace Go.Proofs.Ytcmhkgpalfljbaa.fnExactNearestOf
open Go.ChangeShapes Go.WideShapes Go.ChangeAt Go.RowKit Go.Proofs.Ytcmhkgpalfljbaa.PIN Go.Proofs.YtcmhkgpalfljbaaW.PrintWords
open Go.ChangeMaps (open_string shut_string)
set_option linter.unusedVariables false
theorem own : ownKnob Try.prog.godebug = none := by kernel_rfl
theorem laidOut : laidOutB Try.prog = true := by kernel_rfl
instance : Inhabited S53 := ⟨z53⟩
theorem opensS53 : Opn.Opens Try.prog 53 k53 (fun x : S53 => ((Lit.int .i64 x.f0).wf = true) ∧ ((Lit.int .i64 x.f1).wf = true) ∧ ((Lit.int .i64 x.f2).wf = true) ∧ ((Lit.int .i64 x.f3).wf = true) ∧ ((Lit.int .i64 x.f4).wf = true) ∧ ((Lit.int .i64 x.f5).wf = true)) := by
  have h := Opn.opens_iso (fun x : S53 => (x.f0, x.f1, x.f2, x.f3, x.f4, x.f5)) (fun p : (Int) × (Int) × (Int) × (Int) × (Int) × (Int) => (⟨p.1, p.2.1, p.2.2.1, p.2.2.2.1, p.2.2.2.2.1, p.2.2.2.2.2⟩ : S53)) (fun _ => rfl) (Opn.opens_struct Try.underlying53 rfl (by kernel_rfl) (Opn.opensF_cons (Opn.opens_int Try.underlying3) rfl (by kernel_rfl) rfl (Opn.opensF_cons (Opn.opens_int Try.underlying3) rfl (by kernel_rfl) rfl (Opn.opensF_cons (Opn.opens_int Try.underlying3) rfl (by kernel_rfl) rfl (Opn.opensF_cons (Opn.opens_int Try.underlying3) rfl (by kernel_rfl) rfl (Opn.opensF_cons (Opn.opens_int Try.underlying3) rfl (by kernel_rfl) rfl (Opn.opensF_one (Opn.opens_int Try.underlying3) rfl (by kernel_rfl))))))))
  exact h
set_option maxRecDepth 100000 in
theorem lifted (os : Os) (started : os.Started) (H : Type) (enc : TypeId × Value → H) :
    ReturnsInHanded {} Try.checked os 9 .any (Rows.fnExactNearestOfSpec.pre6 enc Try.prog Try.f9 Rows.fnExactNearestOfRow.domain false) (Rows.fnExactNearestOfSpec.post enc Try.prog Try.f9 false true false false) := by
  refine returnsInHanded_of_change_sized (C := Try.checked) own started (by kernel_rfl) Try.func9
    (ChangeSpec.witness6 (enc := enc) (C := Try.checked) false ⟨#[], #[.slice none 0 0], []⟩ 8 (by kernel_rfl) (by kernel_rfl) (by kernel_rfl) (by kernel_rfl)) ?_
  intro W base args ds gs before hval0 hW hcnd hsz0 _
  have hsz : (DataW.weightsEach Try.prog (Try.f9.params.toList ++ Rows.fnExactNearestOfSpec.plain.varTypes Try.prog) (ds ++ gs)).all (· ≤ reachBytes) = true := hsz0
  have hval : ∀ (j : Nat) t v, Try.f9.params[j]? = some t → args[j]? = some v → Value.okWide Try.prog W .any base t v := hval0
  have hW' := hW
  obtain ⟨p, q, hA0, hV, rfl, hfz, hnd⟩ := hW
  have hA : DataW.TrodAll enc Try.prog W 0 (fun _ => true) true Try.f9.params.toList args.toList ds p := hA0
  rw [Try.params9] at hA hval hsz
  obtain ⟨v0, vs0, d0, ds0, p0, q0, hargs, rfl, rfl, h0, r0⟩ := trodAll_cons hA
  obtain ⟨rfl, rfl, rfl⟩ := trodAll_nil r0
  obtain rfl : args = #[v0] := by cases args; simp_all
  obtain ⟨rfl, rfl⟩ := trodVars_none hV
  have k0 := h0
  have lt0 : ∀ x ∈ p0, x.block < W.heap.size := by obtain ⟨m, hm⟩ := k0; exact DataW.trod_lt m _ _ _ hm
  obtain ⟨z0, hK0, g0⟩ := Opn.opened (Opn.opens_slice (P := Try.prog) Try.underlying22 (by kernel_rfl) opensS53) h0
  obtain ⟨a0, len0, cap0, rfl⟩ := okWide_slice Try.underlying22 (hval 0 22 v0 rfl rfl)
  obtain ⟨A0, c0, he0, hl0, hC0⟩ := hK0
  simp [Value.cells] at he0
  obtain ⟨rfl, rfl, rfl⟩ := he0
  clear hA0 hval0 hsz0 hsz
  refine (laws_FnExactNearestOf.walk Pure.FnExactNearestOf W _ _ z0 hC0 hl0 g0).mono fun e W' ⟨he, bel⟩ => ?_
  subst he
  exact ⟨_, rfl, _, _, _, [], _, [], hW', trodAll_mk1 (shut_bool Try.underlying4 _), (trodAll_cons_mk (Below.trod laidOut (by kernel_rfl) (of_decide_eq_true (by kernel_rfl)) k0 bel lt0) trodAll_mk0), rfl, bel.frame _, fun h => by cases h⟩
theorem over : Rows.fnExactNearestOfRow.holds Try.pinned (OpenSpec.ofChange Rows.fnExactNearestOfSpec) :=
  OpenClaim.holds_of_wide 9 Try.f9 rfl rfl rfl rfl rfl rfl rfl ⟨rfl, rfl, rfl, rfl, rfl⟩ rfl rfl rfl rfl rfl (by kernel_rfl) Try.func9 (by kernel_rfl)
    (of_decide_eq_true (by kernel_rfl)) (by unfold Func.isWrapper; first | (rw [if_pos (by decide +kernel)]; kernel_rfl) | (rw [if_neg (by decide +kernel)]; exact ⟨rfl, rfl⟩))
    (fun os started H enc _ => lifted os started H enc)
theorem proved : Rows.FnExactNearestOfSaid := over
#print axioms proved
end Go.Proofs.Ytcmhkgpalfljbaa.fnExactNearestOf
namespace Go.Proofs.Ytcmhkgpalfljbaa
/-- The row, under a short name, for the claim. -/
theorem fnExactNearestOf_holds : Rows.FnExactNearestOfSaid := fnExactNearestOf.proved
end Go.Proofs.Ytcmhkgpalfljbaa

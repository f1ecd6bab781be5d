import Derived.Test.YtpndhlcbfobelaaRows
import Derived.Test.YtpndhlcbfobelaaPDBx11
import Derived.Test.YtpndhlcbfobelaaPureFnExactBothOf
import Derived.Test.YtpndhlcbfobelaaOpen
import Derived.WalkKit
import Derived.ProofKit
import Derived.OpenShut
import Derived.ShutString
import Derived.ChangeOld
import Derived.Below
import Derived.SizedLaws
namespace Go.Proofs.Ytpndhlcbfobelaa.fnExactBothOf
open Go.ChangeShapes Go.WideShapes Go.ChangeAt Go.RowKit Go.Proofs.Ytpndhlcbfobelaa.PDB Go.Proofs.YtpndhlcbfobelaaW.PrintWords
open Go.ChangeMaps (open_string shut_string)
set_option linter.unusedVariables false
theorem own : ownKnob Try.prog.godebug = none := by kernel_rfl
theorem laidOut : laidOutB Try.prog = true := by kernel_rfl
instance : Inhabited S24 := ⟨z24⟩
instance : Inhabited S101 := ⟨z101⟩
theorem opensS101 : Opn.Opens Try.prog 101 k101 (fun x : S101 => ((Lit.int .i64 x.f0).wf = true) ∧ ((Lit.int .i64 x.f1).wf = true) ∧ ((Lit.int .i64 x.f2).wf = true)) := by
  have h := Opn.opens_iso (fun x : S101 => (x.f0, x.f1, x.f2)) (fun p : (Int) × (Int) × (Int) => (⟨p.1, p.2.1, p.2.2⟩ : S101)) (fun _ => rfl) (Opn.opens_struct Try.underlying101 rfl (by kernel_rfl) (Opn.opensF_cons (Opn.opens_int Try.underlying3) rfl (by kernel_rfl) rfl (Opn.opensF_cons (Opn.opens_int Try.underlying3) rfl (by kernel_rfl) rfl (Opn.opensF_one (Opn.opens_int Try.underlying3) rfl (by kernel_rfl)))))
  exact h
theorem opensS24 : Opn.Opens Try.prog 24 k24 (fun x : S24 => ((Lit.int .i64 x.f0).wf = true) ∧ (x.f1.length ≤ maxLen ∧ ∀ y0_ ∈ x.f1, ((Lit.int .i64 y0_.f0).wf = true) ∧ ((Lit.int .i64 y0_.f1).wf = true) ∧ ((Lit.int .i64 y0_.f2).wf = true)) ∧ ((Lit.int .i64 x.f2).wf = true)) := by
  have h := Opn.opens_iso (fun x : S24 => (x.f0, x.f1, x.f2)) (fun p : (Int) × (List (S101)) × (Int) => (⟨p.1, p.2.1, p.2.2⟩ : S24)) (fun _ => rfl) (Opn.opens_struct Try.underlying24 rfl (by kernel_rfl) (Opn.opensF_cons (Opn.opens_int Try.underlying3) rfl (by kernel_rfl) rfl (Opn.opensF_cons (Opn.opens_slice (P := Try.prog) Try.underlying22 (by kernel_rfl) opensS101) rfl (by kernel_rfl) rfl (Opn.opensF_one (Opn.opens_int Try.underlying3) rfl (by kernel_rfl)))))
  exact h
set_option maxRecDepth 100000 in
theorem lifted (os : Os) (started : os.Started) (H : Type) (enc : TypeId × Value → H) :
    ReturnsInHanded {} Try.checked os 7 .any (Rows.fnExactBothOfSpec.pre6 enc Try.prog Try.f7 Rows.fnExactBothOfRow.domain false) (Rows.fnExactBothOfSpec.post enc Try.prog Try.f7 false true false false) := by
  refine returnsInHanded_of_change_sized (C := Try.checked) own started (by kernel_rfl) Try.func7
    (ChangeSpec.witness6 (enc := enc) (C := Try.checked) false ⟨#[], #[.agg #[.int .i64 0, .slice none 0 0, .int .i64 0], .agg #[.int .i64 0, .slice none 0 0, .int .i64 0]], []⟩ 8 (by kernel_rfl) (by kernel_rfl) (by kernel_rfl) (by kernel_rfl)) ?_
  intro W base args ds gs before hval0 hW hcnd hsz0 _
  have hsz : (DataW.weightsEach Try.prog (Try.f7.params.toList ++ Rows.fnExactBothOfSpec.plain.varTypes Try.prog) (ds ++ gs)).all (· ≤ reachBytes) = true := hsz0
  have hval : ∀ (j : Nat) t v, Try.f7.params[j]? = some t → args[j]? = some v → Value.okWide Try.prog W .any base t v := hval0
  have hW' := hW
  obtain ⟨p, q, hA0, hV, rfl, hfz, hnd⟩ := hW
  have hA : DataW.TrodAll enc Try.prog W 0 (fun _ => true) true Try.f7.params.toList args.toList ds p := hA0
  rw [Try.params7] at hA hval hsz
  obtain ⟨v0, vs0, d0, ds0, p0, q0, hargs, rfl, rfl, h0, r0⟩ := trodAll_cons hA
  obtain ⟨v1, vs1, d1, ds1, p1, q1, rfl, rfl, rfl, h1, r1⟩ := trodAll_cons r0
  obtain ⟨rfl, rfl, rfl⟩ := trodAll_nil r1
  obtain rfl : args = #[v0, v1] := by cases args; simp_all
  obtain ⟨rfl, rfl⟩ := trodVars_none hV
  have k0 := h0
  have lt0 : ∀ x ∈ p0, x.block < W.heap.size := by obtain ⟨m, hm⟩ := k0; exact DataW.trod_lt m _ _ _ hm
  obtain ⟨x0, hK0, g0⟩ := Opn.opened opensS24 h0
  obtain ⟨cs0, rfl, _⟩ := okWide_struct Try.underlying24 (hval 0 24 v0 rfl rfl)
  obtain ⟨A0_1, c0_1, e0, hl0_1, hC0_1⟩ := k24_open hK0
  obtain rfl : cs0 = #[.int .i64 x0.f0, .slice A0_1 x0.f1.length c0_1, .int .i64 x0.f2] := by apply Array.ext'; exact e0
  have k1 := h1
  have lt1 : ∀ x ∈ p1, x.block < W.heap.size := by obtain ⟨m, hm⟩ := k1; exact DataW.trod_lt m _ _ _ hm
  obtain ⟨x1, hK1, g1⟩ := Opn.opened opensS24 h1
  obtain ⟨cs1, rfl, _⟩ := okWide_struct Try.underlying24 (hval 1 24 v1 rfl rfl)
  obtain ⟨A1_1, c1_1, e1, hl1_1, hC1_1⟩ := k24_open hK1
  obtain rfl : cs1 = #[.int .i64 x1.f0, .slice A1_1 x1.f1.length c1_1, .int .i64 x1.f2] := by apply Array.ext'; exact e1
  clear hA0 hval0 hsz0 hsz
  refine (laws_FnExactBothOf.walk Pure.FnExactBothOf W x0.f0 g0.1 _ _ x0.f1 hC0_1 hl0_1 g0.2.1 x0.f2 g0.2.2 x1.f0 g1.1 _ _ x1.f1 hC1_1 hl1_1 g1.2.1 x1.f2 g1.2.2).mono fun e W' ⟨he, bel⟩ => ?_
  subst he
  exact ⟨_, rfl, _, _, _, [], _, [], hW', trodAll_mk1 (shut_bool Try.underlying4 _), (trodAll_cons_mk (Below.trod laidOut (by kernel_rfl) (of_decide_eq_true (by kernel_rfl)) k0 bel lt0) (trodAll_cons_mk (Below.trod laidOut (by kernel_rfl) (of_decide_eq_true (by kernel_rfl)) k1 bel lt1) trodAll_mk0)), rfl, bel.frame _, fun h => by cases h⟩
theorem over : Rows.fnExactBothOfRow.holds Try.pinned (OpenSpec.ofChange Rows.fnExactBothOfSpec) :=
  OpenClaim.holds_of_wide 7 Try.f7 rfl rfl rfl rfl rfl rfl rfl ⟨rfl, rfl, rfl, rfl, rfl⟩ rfl rfl rfl rfl rfl (by kernel_rfl) Try.func7 (by kernel_rfl)
    (of_decide_eq_true (by kernel_rfl)) (by unfold Func.isWrapper; first | (rw [if_pos (by decide +kernel)]; kernel_rfl) | (rw [if_neg (by decide +kernel)]; exact ⟨rfl, rfl⟩))
    (fun os started H enc _ => lifted os started H enc)
theorem proved : Rows.FnExactBothOfSaid := over
#print axioms proved
end Go.Proofs.Ytpndhlcbfobelaa.fnExactBothOf
namespace Go.Proofs.Ytpndhlcbfobelaa
theorem fnExactBothOf_holds : Rows.FnExactBothOfSaid := fnExactBothOf.proved
end Go.Proofs.Ytpndhlcbfobelaa

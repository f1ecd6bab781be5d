/-
  No cell of these rows narrows 'for every input' (looked for: loops, veiled, ifaces, maps, wideKeys, modest, calm, conditions, laid).
  DERIVED. THE GIVEN ROWS OF THIS SEAT. 9 by the template 'for every input the law returns true; each argument reads behind the call as it read before'; 0 by the template 'total and deterministic' (their statements: YtpndhlcbfobelaaTotals.lean).
  GIVEN WITH THE SEED: the statements are not yours to turn. If you find one false, say at which input.
  Laid BY PROGRAM, IN A SANDBOX (cutbox-rows.mjs): the forced cells as the released guide's own fill.sh prints them over the translation 8048636c54c64eaf… (all of the seat's roots in one cut). By AI agents, Wed Nov 11 2026. No macro, syntax, notation, axiom, sorry.
-/
import Derived.Test.YtpndhlcbfobelaaChecked
import GoSem.Claim
import GoSem.ClaimJoined
import GoSem.ClaimMapViews
import Derived.JoinedTies
import Derived.KernelRfl
namespace Go.Proofs.Ytpndhlcbfobelaa
/- THE CELL 'sum', in the pinned program and in every row, IS THE sha256 OF THE DUMP (.gsa) THAT YtpndhlcbfobelaaProg.lean LOADS. Nothing in Lean hashes anything: it is a label: what it is worth is what the hold of that sum in a sandbox is worth. -/
noncomputable def Try.pinned : Pinned := { name := "ytpndhlcbfobelaa", sum := "8048636c54c64eaf897247492e7196740356320dc112298b1c96a9c206d6e74e", checked := Try.checked }
namespace Rows
def none {H : Type} : Left H := { results := [], args := [] }

/-- 'laws.FnExactOnesOf': WHATEVER THE INPUT: true; the input reads as it did. -/
def fnExactOnesOfSpec : ChangeSpec := { name := "fnExactOnesOf", fn := fun _ => fun
  | [d] => { results := [.lit (.bool true)], args := [d] }
  | _ => none }
def fnExactOnesOfRow : OpenClaim := { program := "ytpndhlcbfobelaa", sum := "8048636c54c64eaf897247492e7196740356320dc112298b1c96a9c206d6e74e", func := "loop.example/g00605/laws.FnExactOnesOf", spec := "fnExactOnesOf", recurses := true, apart := false }
def FnExactOnesOfSaid : Prop := fnExactOnesOfRow.holds Try.pinned (OpenSpec.ofChange fnExactOnesOfSpec)

/-- ITS FALSE NEIGHBOUR: 'it returns false'. Refute it at one input. -/
def fnExactOnesOfWrong : ChangeSpec := { name := "fnExactOnesOf", fn := fun _ => fun
  | [d] => { results := [.lit (.bool false)], args := [d] }
  | _ => none }
def FnExactOnesOfWrongFalsely : Prop := fnExactOnesOfRow.holds Try.pinned (OpenSpec.ofChange fnExactOnesOfWrong)

/-- 'laws.FnExactEvalDiagram': WHATEVER THE INPUT: true; the input reads as it did. -/
def fnExactEvalDiagramSpec : ChangeSpec := { name := "fnExactEvalDiagram", fn := fun _ => fun
  | [d1, d2] => { results := [.lit (.bool true)], args := [d1, d2] }
  | _ => none }
def fnExactEvalDiagramRow : OpenClaim := { program := "ytpndhlcbfobelaa", sum := "8048636c54c64eaf897247492e7196740356320dc112298b1c96a9c206d6e74e", func := "loop.example/g00605/laws.FnExactEvalDiagram", spec := "fnExactEvalDiagram", recurses := true, apart := false }
def FnExactEvalDiagramSaid : Prop := fnExactEvalDiagramRow.holds Try.pinned (OpenSpec.ofChange fnExactEvalDiagramSpec)

/-- ITS FALSE NEIGHBOUR: 'it returns false'. Refute it at one input. -/
def fnExactEvalDiagramWrong : ChangeSpec := { name := "fnExactEvalDiagram", fn := fun _ => fun
  | [d1, d2] => { results := [.lit (.bool false)], args := [d1, d2] }
  | _ => none }
def FnExactEvalDiagramWrongFalsely : Prop := fnExactEvalDiagramRow.holds Try.pinned (OpenSpec.ofChange fnExactEvalDiagramWrong)

/-- 'laws.FnExactTableOf': WHATEVER THE INPUT: true; the input reads as it did. -/
def fnExactTableOfSpec : ChangeSpec := { name := "fnExactTableOf", fn := fun _ => fun
  | [d] => { results := [.lit (.bool true)], args := [d] }
  | _ => none }
def fnExactTableOfRow : OpenClaim := { program := "ytpndhlcbfobelaa", sum := "8048636c54c64eaf897247492e7196740356320dc112298b1c96a9c206d6e74e", func := "loop.example/g00605/laws.FnExactTableOf", spec := "fnExactTableOf", recurses := true, apart := false }
def FnExactTableOfSaid : Prop := fnExactTableOfRow.holds Try.pinned (OpenSpec.ofChange fnExactTableOfSpec)

/-- ITS FALSE NEIGHBOUR: 'it returns false'. Refute it at one input. -/
def fnExactTableOfWrong : ChangeSpec := { name := "fnExactTableOf", fn := fun _ => fun
  | [d] => { results := [.lit (.bool false)], args := [d] }
  | _ => none }
def FnExactTableOfWrongFalsely : Prop := fnExactTableOfRow.holds Try.pinned (OpenSpec.ofChange fnExactTableOfWrong)

/-- 'laws.FnExactNotOf': WHATEVER THE INPUT: true; the input reads as it did. -/
def fnExactNotOfSpec : ChangeSpec := { name := "fnExactNotOf", fn := fun _ => fun
  | [d] => { results := [.lit (.bool true)], args := [d] }
  | _ => none }
def fnExactNotOfRow : OpenClaim := { program := "ytpndhlcbfobelaa", sum := "8048636c54c64eaf897247492e7196740356320dc112298b1c96a9c206d6e74e", func := "loop.example/g00605/laws.FnExactNotOf", spec := "fnExactNotOf", unfollowed := true, recurses := true, apart := false }
def FnExactNotOfSaid : Prop := fnExactNotOfRow.holds Try.pinned (OpenSpec.ofChange fnExactNotOfSpec)

/-- ITS FALSE NEIGHBOUR: 'it returns false'. Refute it at one input. -/
def fnExactNotOfWrong : ChangeSpec := { name := "fnExactNotOf", fn := fun _ => fun
  | [d] => { results := [.lit (.bool false)], args := [d] }
  | _ => none }
def FnExactNotOfWrongFalsely : Prop := fnExactNotOfRow.holds Try.pinned (OpenSpec.ofChange fnExactNotOfWrong)

/-- 'laws.FnExactBothOf': WHATEVER THE INPUT: true; the input reads as it did. -/
def fnExactBothOfSpec : ChangeSpec := { name := "fnExactBothOf", fn := fun _ => fun
  | [d1, d2] => { results := [.lit (.bool true)], args := [d1, d2] }
  | _ => none }
def fnExactBothOfRow : OpenClaim := { program := "ytpndhlcbfobelaa", sum := "8048636c54c64eaf897247492e7196740356320dc112298b1c96a9c206d6e74e", func := "loop.example/g00605/laws.FnExactBothOf", spec := "fnExactBothOf", unfollowed := true, recurses := true, apart := false }
def FnExactBothOfSaid : Prop := fnExactBothOfRow.holds Try.pinned (OpenSpec.ofChange fnExactBothOfSpec)

/-- ITS FALSE NEIGHBOUR: 'it returns false'. Refute it at one input. -/
def fnExactBothOfWrong : ChangeSpec := { name := "fnExactBothOf", fn := fun _ => fun
  | [d1, d2] => { results := [.lit (.bool false)], args := [d1, d2] }
  | _ => none }
def FnExactBothOfWrongFalsely : Prop := fnExactBothOfRow.holds Try.pinned (OpenSpec.ofChange fnExactBothOfWrong)

/-- 'laws.FnExactFixVar': WHATEVER THE INPUT: true; the input reads as it did. -/
def fnExactFixVarSpec : ChangeSpec := { name := "fnExactFixVar", fn := fun _ => fun
  | [d1, d2, d3] => { results := [.lit (.bool true)], args := [d1, d2, d3] }
  | _ => none }
def fnExactFixVarRow : OpenClaim := { program := "ytpndhlcbfobelaa", sum := "8048636c54c64eaf897247492e7196740356320dc112298b1c96a9c206d6e74e", func := "loop.example/g00605/laws.FnExactFixVar", spec := "fnExactFixVar", unfollowed := true, recurses := true, apart := false }
def FnExactFixVarSaid : Prop := fnExactFixVarRow.holds Try.pinned (OpenSpec.ofChange fnExactFixVarSpec)

/-- ITS FALSE NEIGHBOUR: 'it returns false'. Refute it at one input. -/
def fnExactFixVarWrong : ChangeSpec := { name := "fnExactFixVar", fn := fun _ => fun
  | [d1, d2, d3] => { results := [.lit (.bool false)], args := [d1, d2, d3] }
  | _ => none }
def FnExactFixVarWrongFalsely : Prop := fnExactFixVarRow.holds Try.pinned (OpenSpec.ofChange fnExactFixVarWrong)

/-- 'laws.FnExactByClauses': WHATEVER THE INPUT: true; the input reads as it did. -/
def fnExactByClausesSpec : ChangeSpec := { name := "fnExactByClauses", fn := fun _ => fun
  | [d1, d2] => { results := [.lit (.bool true)], args := [d1, d2] }
  | _ => none }
def fnExactByClausesRow : OpenClaim := { program := "ytpndhlcbfobelaa", sum := "8048636c54c64eaf897247492e7196740356320dc112298b1c96a9c206d6e74e", func := "loop.example/g00605/laws.FnExactByClauses", spec := "fnExactByClauses", unfollowed := true, recurses := true, apart := false }
def FnExactByClausesSaid : Prop := fnExactByClausesRow.holds Try.pinned (OpenSpec.ofChange fnExactByClausesSpec)

/-- ITS FALSE NEIGHBOUR: 'it returns false'. Refute it at one input. -/
def fnExactByClausesWrong : ChangeSpec := { name := "fnExactByClauses", fn := fun _ => fun
  | [d1, d2] => { results := [.lit (.bool false)], args := [d1, d2] }
  | _ => none }
def FnExactByClausesWrongFalsely : Prop := fnExactByClausesRow.holds Try.pinned (OpenSpec.ofChange fnExactByClausesWrong)

/-- 'laws.FnDiagrams': WHATEVER THE INPUT: true; the input reads as it did. -/
def fnDiagramsSpec : ChangeSpec := { name := "fnDiagrams", fn := fun _ => fun
  | [d1, d2] => { results := [.lit (.bool true)], args := [d1, d2] }
  | _ => none }
def fnDiagramsRow : OpenClaim := { program := "ytpndhlcbfobelaa", sum := "8048636c54c64eaf897247492e7196740356320dc112298b1c96a9c206d6e74e", func := "loop.example/g00605/laws.FnDiagrams", spec := "fnDiagrams", unfollowed := true, recurses := true, apart := false }
def FnDiagramsSaid : Prop := fnDiagramsRow.holds Try.pinned (OpenSpec.ofChange fnDiagramsSpec)

/-- ITS FALSE NEIGHBOUR: 'it returns false'. Refute it at one input. -/
def fnDiagramsWrong : ChangeSpec := { name := "fnDiagrams", fn := fun _ => fun
  | [d1, d2] => { results := [.lit (.bool false)], args := [d1, d2] }
  | _ => none }
def FnDiagramsWrongFalsely : Prop := fnDiagramsRow.holds Try.pinned (OpenSpec.ofChange fnDiagramsWrong)

/-- 'laws.FnByClauses': WHATEVER THE INPUT: true; the input reads as it did. -/
def fnByClausesSpec : ChangeSpec := { name := "fnByClauses", fn := fun _ => fun
  | [d1, d2] => { results := [.lit (.bool true)], args := [d1, d2] }
  | _ => none }
def fnByClausesRow : OpenClaim := { program := "ytpndhlcbfobelaa", sum := "8048636c54c64eaf897247492e7196740356320dc112298b1c96a9c206d6e74e", func := "loop.example/g00605/laws.FnByClauses", spec := "fnByClauses", unfollowed := true, recurses := true, apart := false }
def FnByClausesSaid : Prop := fnByClausesRow.holds Try.pinned (OpenSpec.ofChange fnByClausesSpec)

/-- ITS FALSE NEIGHBOUR: 'it returns false'. Refute it at one input. -/
def fnByClausesWrong : ChangeSpec := { name := "fnByClauses", fn := fun _ => fun
  | [d1, d2] => { results := [.lit (.bool false)], args := [d1, d2] }
  | _ => none }
def FnByClausesWrongFalsely : Prop := fnByClausesRow.holds Try.pinned (OpenSpec.ofChange fnByClausesWrong)

/- THE SECOND FORM. 'bulk': how many values and letters a reading holds, each counted each time it is reached (what is shared counts as often as it is met; a slice's spare places count too). A statement '..UptoSaid' is the law's where the arguments, and the package variables that the reading takes, are together of bulk at most 1048576: NARROWER than '..Said'. Prove '..Said' where nothing that the law and all that it calls make is longer than what came in: it says more and counts as full. Else prove '..UptoSaid'. A law counts once. -/
mutual
def uptoBulk {H : Type} : DataW H → Nat
  | .lit (.string bytes) => bytes.length + 1
  | .lit _ => 1
  | .nil => 1
  | .ptr d => uptoBulk d + 1
  | .slice elems spare => uptoBulkAll elems + uptoBulkAll spare + 1
  | .agg parts => uptoBulkAll parts + 1
  | .iface _ d => uptoBulk d + 1
  | .map entries => uptoBulkEntries entries + 1
  | .held _ => 1
def uptoBulkAll {H : Type} : List (DataW H) → Nat
  | [] => 0
  | d :: r => uptoBulk d + uptoBulkAll r
def uptoBulkEntries {H : Type} : List (Lit × DataW H) → Nat
  | [] => 0
  | x :: r => uptoBulkEntry x + uptoBulkEntries r
def uptoBulkEntry {H : Type} : Lit × DataW H → Nat
  | (.string bytes, d) => bytes.length + uptoBulk d + 1
  | (_, d) => uptoBulk d + 1
 end
def uptoSmall : (H : Type) → List (DataW H) → Bool := fun _ ds => decide (uptoBulkAll ds ≤ 1048576)
def OpenSpec.upto (s : _root_.Go.ChangeSpec) : _root_.Go.OpenSpec := { _root_.Go.OpenSpec.ofChange s with cond := some uptoSmall }

/-- 'laws.FnExactOnesOf', WHERE WHAT IT READS IS OF BULK AT MOST 1048576: true; the input reads as it did. -/
def fnExactOnesOfUptoRow : OpenClaim := { program := "ytpndhlcbfobelaa", sum := "8048636c54c64eaf897247492e7196740356320dc112298b1c96a9c206d6e74e", func := "loop.example/g00605/laws.FnExactOnesOf", spec := "fnExactOnesOf", recurses := true, apart := false, narrowed := true }
def FnExactOnesOfUptoSaid : Prop := fnExactOnesOfUptoRow.holds Try.pinned (OpenSpec.upto fnExactOnesOfSpec)

/-- 'laws.FnExactEvalDiagram', WHERE WHAT IT READS IS OF BULK AT MOST 1048576: true; the input reads as it did. -/
def fnExactEvalDiagramUptoRow : OpenClaim := { program := "ytpndhlcbfobelaa", sum := "8048636c54c64eaf897247492e7196740356320dc112298b1c96a9c206d6e74e", func := "loop.example/g00605/laws.FnExactEvalDiagram", spec := "fnExactEvalDiagram", recurses := true, apart := false, narrowed := true }
def FnExactEvalDiagramUptoSaid : Prop := fnExactEvalDiagramUptoRow.holds Try.pinned (OpenSpec.upto fnExactEvalDiagramSpec)

/-- 'laws.FnExactTableOf', WHERE WHAT IT READS IS OF BULK AT MOST 1048576: true; the input reads as it did. -/
def fnExactTableOfUptoRow : OpenClaim := { program := "ytpndhlcbfobelaa", sum := "8048636c54c64eaf897247492e7196740356320dc112298b1c96a9c206d6e74e", func := "loop.example/g00605/laws.FnExactTableOf", spec := "fnExactTableOf", recurses := true, apart := false, narrowed := true }
def FnExactTableOfUptoSaid : Prop := fnExactTableOfUptoRow.holds Try.pinned (OpenSpec.upto fnExactTableOfSpec)

/-- 'laws.FnExactNotOf', WHERE WHAT IT READS IS OF BULK AT MOST 1048576: true; the input reads as it did. -/
def fnExactNotOfUptoRow : OpenClaim := { program := "ytpndhlcbfobelaa", sum := "8048636c54c64eaf897247492e7196740356320dc112298b1c96a9c206d6e74e", func := "loop.example/g00605/laws.FnExactNotOf", spec := "fnExactNotOf", unfollowed := true, recurses := true, apart := false, narrowed := true }
def FnExactNotOfUptoSaid : Prop := fnExactNotOfUptoRow.holds Try.pinned (OpenSpec.upto fnExactNotOfSpec)

/-- 'laws.FnExactBothOf', WHERE WHAT IT READS IS OF BULK AT MOST 1048576: true; the input reads as it did. -/
def fnExactBothOfUptoRow : OpenClaim := { program := "ytpndhlcbfobelaa", sum := "8048636c54c64eaf897247492e7196740356320dc112298b1c96a9c206d6e74e", func := "loop.example/g00605/laws.FnExactBothOf", spec := "fnExactBothOf", unfollowed := true, recurses := true, apart := false, narrowed := true }
def FnExactBothOfUptoSaid : Prop := fnExactBothOfUptoRow.holds Try.pinned (OpenSpec.upto fnExactBothOfSpec)

/-- 'laws.FnExactFixVar', WHERE WHAT IT READS IS OF BULK AT MOST 1048576: true; the input reads as it did. -/
def fnExactFixVarUptoRow : OpenClaim := { program := "ytpndhlcbfobelaa", sum := "8048636c54c64eaf897247492e7196740356320dc112298b1c96a9c206d6e74e", func := "loop.example/g00605/laws.FnExactFixVar", spec := "fnExactFixVar", unfollowed := true, recurses := true, apart := false, narrowed := true }
def FnExactFixVarUptoSaid : Prop := fnExactFixVarUptoRow.holds Try.pinned (OpenSpec.upto fnExactFixVarSpec)

/-- 'laws.FnExactByClauses', WHERE WHAT IT READS IS OF BULK AT MOST 1048576: true; the input reads as it did. -/
def fnExactByClausesUptoRow : OpenClaim := { program := "ytpndhlcbfobelaa", sum := "8048636c54c64eaf897247492e7196740356320dc112298b1c96a9c206d6e74e", func := "loop.example/g00605/laws.FnExactByClauses", spec := "fnExactByClauses", unfollowed := true, recurses := true, apart := false, narrowed := true }
def FnExactByClausesUptoSaid : Prop := fnExactByClausesUptoRow.holds Try.pinned (OpenSpec.upto fnExactByClausesSpec)

/-- 'laws.FnDiagrams', WHERE WHAT IT READS IS OF BULK AT MOST 1048576: true; the input reads as it did. -/
def fnDiagramsUptoRow : OpenClaim := { program := "ytpndhlcbfobelaa", sum := "8048636c54c64eaf897247492e7196740356320dc112298b1c96a9c206d6e74e", func := "loop.example/g00605/laws.FnDiagrams", spec := "fnDiagrams", unfollowed := true, recurses := true, apart := false, narrowed := true }
def FnDiagramsUptoSaid : Prop := fnDiagramsUptoRow.holds Try.pinned (OpenSpec.upto fnDiagramsSpec)

/-- 'laws.FnByClauses', WHERE WHAT IT READS IS OF BULK AT MOST 1048576: true; the input reads as it did. -/
def fnByClausesUptoRow : OpenClaim := { program := "ytpndhlcbfobelaa", sum := "8048636c54c64eaf897247492e7196740356320dc112298b1c96a9c206d6e74e", func := "loop.example/g00605/laws.FnByClauses", spec := "fnByClauses", unfollowed := true, recurses := true, apart := false, narrowed := true }
def FnByClausesUptoSaid : Prop := fnByClausesUptoRow.holds Try.pinned (OpenSpec.upto fnByClausesSpec)

end Rows
end Go.Proofs.Ytpndhlcbfobelaa

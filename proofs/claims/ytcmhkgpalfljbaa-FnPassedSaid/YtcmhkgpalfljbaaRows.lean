/-
  No cell of these rows narrows 'for every input' (looked for: loops, veiled, ifaces, maps, wideKeys, modest, calm, conditions, laid).
  DERIVED. THE GIVEN ROWS OF THIS SEAT. 9 by the template 'for every input the law returns true; each argument reads behind the call as it read before'; 0 by the template 'total and deterministic' (their statements: YtcmhkgpalfljbaaTotals.lean).
  GIVEN WITH THE SEED: the statements are not yours to turn. If you find one false, say at which input.
  Laid BY PROGRAM, IN A SANDBOX (cutbox-rows.mjs): the forced cells as the released guide's own fill.sh prints them over the translation f65803bf7d45a261… (all of the seat's roots in one cut). By AI agents, Wed Nov 11 2026. No macro, syntax, notation, axiom, sorry.
-/
import Derived.Test.YtcmhkgpalfljbaaChecked
import GoSem.Claim
import GoSem.ClaimJoined
import GoSem.ClaimMapViews
import Derived.JoinedTies
import Derived.KernelRfl
namespace Go.Proofs.Ytcmhkgpalfljbaa
/- THE CELL 'sum', in the pinned program and in every row, IS THE sha256 OF THE DUMP (.gsa) THAT YtcmhkgpalfljbaaProg.lean LOADS. Nothing in Lean hashes anything: it is a label: what it is worth is what the hold of that sum in a sandbox is worth. -/
noncomputable def Try.pinned : Pinned := { name := "ytcmhkgpalfljbaa", sum := "f65803bf7d45a26196541e372ec637618d04f16cfa878f33693a388db35370b4", checked := Try.checked }
namespace Rows
def none {H : Type} : Left H := { results := [], args := [] }

/-- 'laws.FnExactWayCount': WHATEVER THE INPUT: true; the input reads as it did. -/
def fnExactWayCountSpec : ChangeSpec := { name := "fnExactWayCount", fn := fun _ => fun
  | [d1, d2] => { results := [.lit (.bool true)], args := [d1, d2] }
  | _ => none }
def fnExactWayCountRow : OpenClaim := { program := "ytcmhkgpalfljbaa", sum := "f65803bf7d45a26196541e372ec637618d04f16cfa878f33693a388db35370b4", func := "loop.example/g00605/laws.FnExactWayCount", spec := "fnExactWayCount", apart := false }
def FnExactWayCountSaid : Prop := fnExactWayCountRow.holds Try.pinned (OpenSpec.ofChange fnExactWayCountSpec)

/-- ITS FALSE NEIGHBOUR: 'it returns false'. Refute it at one input. -/
def fnExactWayCountWrong : ChangeSpec := { name := "fnExactWayCount", fn := fun _ => fun
  | [d1, d2] => { results := [.lit (.bool false)], args := [d1, d2] }
  | _ => none }
def FnExactWayCountWrongFalsely : Prop := fnExactWayCountRow.holds Try.pinned (OpenSpec.ofChange fnExactWayCountWrong)

/-- 'laws.FnExactReachedIn': WHATEVER THE INPUT: true; the input reads as it did. -/
def fnExactReachedInSpec : ChangeSpec := { name := "fnExactReachedIn", fn := fun _ => fun
  | [d] => { results := [.lit (.bool true)], args := [d] }
  | _ => none }
def fnExactReachedInRow : OpenClaim := { program := "ytcmhkgpalfljbaa", sum := "f65803bf7d45a26196541e372ec637618d04f16cfa878f33693a388db35370b4", func := "loop.example/g00605/laws.FnExactReachedIn", spec := "fnExactReachedIn", unfollowed := true, recurses := true, apart := false }
def FnExactReachedInSaid : Prop := fnExactReachedInRow.holds Try.pinned (OpenSpec.ofChange fnExactReachedInSpec)

/-- ITS FALSE NEIGHBOUR: 'it returns false'. Refute it at one input. -/
def fnExactReachedInWrong : ChangeSpec := { name := "fnExactReachedIn", fn := fun _ => fun
  | [d] => { results := [.lit (.bool false)], args := [d] }
  | _ => none }
def FnExactReachedInWrongFalsely : Prop := fnExactReachedInRow.holds Try.pinned (OpenSpec.ofChange fnExactReachedInWrong)

/-- 'laws.FnExactEndsFrom': WHATEVER THE INPUT: true; the input reads as it did. -/
def fnExactEndsFromSpec : ChangeSpec := { name := "fnExactEndsFrom", fn := fun _ => fun
  | [d1, d2] => { results := [.lit (.bool true)], args := [d1, d2] }
  | _ => none }
def fnExactEndsFromRow : OpenClaim := { program := "ytcmhkgpalfljbaa", sum := "f65803bf7d45a26196541e372ec637618d04f16cfa878f33693a388db35370b4", func := "loop.example/g00605/laws.FnExactEndsFrom", spec := "fnExactEndsFrom", unfollowed := true, recurses := true, apart := false }
def FnExactEndsFromSaid : Prop := fnExactEndsFromRow.holds Try.pinned (OpenSpec.ofChange fnExactEndsFromSpec)

/-- ITS FALSE NEIGHBOUR: 'it returns false'. Refute it at one input. -/
def fnExactEndsFromWrong : ChangeSpec := { name := "fnExactEndsFrom", fn := fun _ => fun
  | [d1, d2] => { results := [.lit (.bool false)], args := [d1, d2] }
  | _ => none }
def FnExactEndsFromWrongFalsely : Prop := fnExactEndsFromRow.holds Try.pinned (OpenSpec.ofChange fnExactEndsFromWrong)

/-- 'laws.FnExactLeadersOf': WHATEVER THE INPUT: true; the input reads as it did. -/
def fnExactLeadersOfSpec : ChangeSpec := { name := "fnExactLeadersOf", fn := fun _ => fun
  | [d] => { results := [.lit (.bool true)], args := [d] }
  | _ => none }
def fnExactLeadersOfRow : OpenClaim := { program := "ytcmhkgpalfljbaa", sum := "f65803bf7d45a26196541e372ec637618d04f16cfa878f33693a388db35370b4", func := "loop.example/g00605/laws.FnExactLeadersOf", spec := "fnExactLeadersOf", unfollowed := true, recurses := true, apart := false }
def FnExactLeadersOfSaid : Prop := fnExactLeadersOfRow.holds Try.pinned (OpenSpec.ofChange fnExactLeadersOfSpec)

/-- ITS FALSE NEIGHBOUR: 'it returns false'. Refute it at one input. -/
def fnExactLeadersOfWrong : ChangeSpec := { name := "fnExactLeadersOf", fn := fun _ => fun
  | [d] => { results := [.lit (.bool false)], args := [d] }
  | _ => none }
def FnExactLeadersOfWrongFalsely : Prop := fnExactLeadersOfRow.holds Try.pinned (OpenSpec.ofChange fnExactLeadersOfWrong)

/-- 'laws.FnExactAheadOf': WHATEVER THE INPUT: true; the input reads as it did. -/
def fnExactAheadOfSpec : ChangeSpec := { name := "fnExactAheadOf", fn := fun _ => fun
  | [d1, d2] => { results := [.lit (.bool true)], args := [d1, d2] }
  | _ => none }
def fnExactAheadOfRow : OpenClaim := { program := "ytcmhkgpalfljbaa", sum := "f65803bf7d45a26196541e372ec637618d04f16cfa878f33693a388db35370b4", func := "loop.example/g00605/laws.FnExactAheadOf", spec := "fnExactAheadOf", unfollowed := true, recurses := true, apart := false }
def FnExactAheadOfSaid : Prop := fnExactAheadOfRow.holds Try.pinned (OpenSpec.ofChange fnExactAheadOfSpec)

/-- ITS FALSE NEIGHBOUR: 'it returns false'. Refute it at one input. -/
def fnExactAheadOfWrong : ChangeSpec := { name := "fnExactAheadOf", fn := fun _ => fun
  | [d1, d2] => { results := [.lit (.bool false)], args := [d1, d2] }
  | _ => none }
def FnExactAheadOfWrongFalsely : Prop := fnExactAheadOfRow.holds Try.pinned (OpenSpec.ofChange fnExactAheadOfWrong)

/-- 'laws.FnExactMustPass': WHATEVER THE INPUT: true; the input reads as it did. -/
def fnExactMustPassSpec : ChangeSpec := { name := "fnExactMustPass", fn := fun _ => fun
  | [d1, d2] => { results := [.lit (.bool true)], args := [d1, d2] }
  | _ => none }
def fnExactMustPassRow : OpenClaim := { program := "ytcmhkgpalfljbaa", sum := "f65803bf7d45a26196541e372ec637618d04f16cfa878f33693a388db35370b4", func := "loop.example/g00605/laws.FnExactMustPass", spec := "fnExactMustPass", unfollowed := true, recurses := true, apart := false }
def FnExactMustPassSaid : Prop := fnExactMustPassRow.holds Try.pinned (OpenSpec.ofChange fnExactMustPassSpec)

/-- ITS FALSE NEIGHBOUR: 'it returns false'. Refute it at one input. -/
def fnExactMustPassWrong : ChangeSpec := { name := "fnExactMustPass", fn := fun _ => fun
  | [d1, d2] => { results := [.lit (.bool false)], args := [d1, d2] }
  | _ => none }
def FnExactMustPassWrongFalsely : Prop := fnExactMustPassRow.holds Try.pinned (OpenSpec.ofChange fnExactMustPassWrong)

/-- 'laws.FnExactNearestOf': WHATEVER THE INPUT: true; the input reads as it did. -/
def fnExactNearestOfSpec : ChangeSpec := { name := "fnExactNearestOf", fn := fun _ => fun
  | [d] => { results := [.lit (.bool true)], args := [d] }
  | _ => none }
def fnExactNearestOfRow : OpenClaim := { program := "ytcmhkgpalfljbaa", sum := "f65803bf7d45a26196541e372ec637618d04f16cfa878f33693a388db35370b4", func := "loop.example/g00605/laws.FnExactNearestOf", spec := "fnExactNearestOf", unfollowed := true, recurses := true, apart := false }
def FnExactNearestOfSaid : Prop := fnExactNearestOfRow.holds Try.pinned (OpenSpec.ofChange fnExactNearestOfSpec)

/-- ITS FALSE NEIGHBOUR: 'it returns false'. Refute it at one input. -/
def fnExactNearestOfWrong : ChangeSpec := { name := "fnExactNearestOf", fn := fun _ => fun
  | [d] => { results := [.lit (.bool false)], args := [d] }
  | _ => none }
def FnExactNearestOfWrongFalsely : Prop := fnExactNearestOfRow.holds Try.pinned (OpenSpec.ofChange fnExactNearestOfWrong)

/-- 'laws.FnCounted': WHATEVER THE INPUT: true; the input reads as it did. -/
def fnCountedSpec : ChangeSpec := { name := "fnCounted", fn := fun _ => fun
  | [d1, d2] => { results := [.lit (.bool true)], args := [d1, d2] }
  | _ => none }
def fnCountedRow : OpenClaim := { program := "ytcmhkgpalfljbaa", sum := "f65803bf7d45a26196541e372ec637618d04f16cfa878f33693a388db35370b4", func := "loop.example/g00605/laws.FnCounted", spec := "fnCounted", unfollowed := true, recurses := true, apart := false }
def FnCountedSaid : Prop := fnCountedRow.holds Try.pinned (OpenSpec.ofChange fnCountedSpec)

/-- ITS FALSE NEIGHBOUR: 'it returns false'. Refute it at one input. -/
def fnCountedWrong : ChangeSpec := { name := "fnCounted", fn := fun _ => fun
  | [d1, d2] => { results := [.lit (.bool false)], args := [d1, d2] }
  | _ => none }
def FnCountedWrongFalsely : Prop := fnCountedRow.holds Try.pinned (OpenSpec.ofChange fnCountedWrong)

/-- 'laws.FnPassed': WHATEVER THE INPUT: true; the input reads as it did. -/
def fnPassedSpec : ChangeSpec := { name := "fnPassed", fn := fun _ => fun
  | [d1, d2] => { results := [.lit (.bool true)], args := [d1, d2] }
  | _ => none }
def fnPassedRow : OpenClaim := { program := "ytcmhkgpalfljbaa", sum := "f65803bf7d45a26196541e372ec637618d04f16cfa878f33693a388db35370b4", func := "loop.example/g00605/laws.FnPassed", spec := "fnPassed", unfollowed := true, recurses := true, apart := false }
def FnPassedSaid : Prop := fnPassedRow.holds Try.pinned (OpenSpec.ofChange fnPassedSpec)

/-- ITS FALSE NEIGHBOUR: 'it returns false'. Refute it at one input. -/
def fnPassedWrong : ChangeSpec := { name := "fnPassed", fn := fun _ => fun
  | [d1, d2] => { results := [.lit (.bool false)], args := [d1, d2] }
  | _ => none }
def FnPassedWrongFalsely : Prop := fnPassedRow.holds Try.pinned (OpenSpec.ofChange fnPassedWrong)

/- THE SECOND FORM. 'bulk': how many values and letters a reading holds, each counted each time it is reached (what is shared counts as often as it is met; a slice's spare places count too). A statement '..UptoSaid' is the law's where the arguments, and the package variables that the reading takes, are together of bulk at most 1048576: NARROWER than '..Said'. Prove '..Said' where nothing that the law and all that it calls make is longer than what came in: it says more and counts as full. Else prove '..UptoSaid'. A law counts once. -/
mutual
def uptoBulk {H : Type} : DataW H → Nat
  | .lit (.string bytes) => bytes.length + 1
  | .lit _ => 1
  | .nil => 1
  | .ptr d => uptoBulk d + 1
  | .slice elems spare => uptoBulkAll elems + uptoBulkAll spare + 1
  | .agg parts => uptoBulkAll parts + 1
  | .iface _ d => uptoBulk d + 1
  | .map entries => uptoBulkEntries entries + 1
  | .held _ => 1
def uptoBulkAll {H : Type} : List (DataW H) → Nat
  | [] => 0
  | d :: r => uptoBulk d + uptoBulkAll r
def uptoBulkEntries {H : Type} : List (Lit × DataW H) → Nat
  | [] => 0
  | x :: r => uptoBulkEntry x + uptoBulkEntries r
def uptoBulkEntry {H : Type} : Lit × DataW H → Nat
  | (.string bytes, d) => bytes.length + uptoBulk d + 1
  | (_, d) => uptoBulk d + 1
 end
def uptoSmall : (H : Type) → List (DataW H) → Bool := fun _ ds => decide (uptoBulkAll ds ≤ 1048576)
def OpenSpec.upto (s : _root_.Go.ChangeSpec) : _root_.Go.OpenSpec := { _root_.Go.OpenSpec.ofChange s with cond := some uptoSmall }

/-- 'laws.FnExactWayCount', WHERE WHAT IT READS IS OF BULK AT MOST 1048576: true; the input reads as it did. -/
def fnExactWayCountUptoRow : OpenClaim := { program := "ytcmhkgpalfljbaa", sum := "f65803bf7d45a26196541e372ec637618d04f16cfa878f33693a388db35370b4", func := "loop.example/g00605/laws.FnExactWayCount", spec := "fnExactWayCount", apart := false, narrowed := true }
def FnExactWayCountUptoSaid : Prop := fnExactWayCountUptoRow.holds Try.pinned (OpenSpec.upto fnExactWayCountSpec)

/-- 'laws.FnExactReachedIn', WHERE WHAT IT READS IS OF BULK AT MOST 1048576: true; the input reads as it did. -/
def fnExactReachedInUptoRow : OpenClaim := { program := "ytcmhkgpalfljbaa", sum := "f65803bf7d45a26196541e372ec637618d04f16cfa878f33693a388db35370b4", func := "loop.example/g00605/laws.FnExactReachedIn", spec := "fnExactReachedIn", unfollowed := true, recurses := true, apart := false, narrowed := true }
def FnExactReachedInUptoSaid : Prop := fnExactReachedInUptoRow.holds Try.pinned (OpenSpec.upto fnExactReachedInSpec)

/-- 'laws.FnExactEndsFrom', WHERE WHAT IT READS IS OF BULK AT MOST 1048576: true; the input reads as it did. -/
def fnExactEndsFromUptoRow : OpenClaim := { program := "ytcmhkgpalfljbaa", sum := "f65803bf7d45a26196541e372ec637618d04f16cfa878f33693a388db35370b4", func := "loop.example/g00605/laws.FnExactEndsFrom", spec := "fnExactEndsFrom", unfollowed := true, recurses := true, apart := false, narrowed := true }
def FnExactEndsFromUptoSaid : Prop := fnExactEndsFromUptoRow.holds Try.pinned (OpenSpec.upto fnExactEndsFromSpec)

/-- 'laws.FnExactLeadersOf', WHERE WHAT IT READS IS OF BULK AT MOST 1048576: true; the input reads as it did. -/
def fnExactLeadersOfUptoRow : OpenClaim := { program := "ytcmhkgpalfljbaa", sum := "f65803bf7d45a26196541e372ec637618d04f16cfa878f33693a388db35370b4", func := "loop.example/g00605/laws.FnExactLeadersOf", spec := "fnExactLeadersOf", unfollowed := true, recurses := true, apart := false, narrowed := true }
def FnExactLeadersOfUptoSaid : Prop := fnExactLeadersOfUptoRow.holds Try.pinned (OpenSpec.upto fnExactLeadersOfSpec)

/-- 'laws.FnExactAheadOf', WHERE WHAT IT READS IS OF BULK AT MOST 1048576: true; the input reads as it did. -/
def fnExactAheadOfUptoRow : OpenClaim := { program := "ytcmhkgpalfljbaa", sum := "f65803bf7d45a26196541e372ec637618d04f16cfa878f33693a388db35370b4", func := "loop.example/g00605/laws.FnExactAheadOf", spec := "fnExactAheadOf", unfollowed := true, recurses := true, apart := false, narrowed := true }
def FnExactAheadOfUptoSaid : Prop := fnExactAheadOfUptoRow.holds Try.pinned (OpenSpec.upto fnExactAheadOfSpec)

/-- 'laws.FnExactMustPass', WHERE WHAT IT READS IS OF BULK AT MOST 1048576: true; the input reads as it did. -/
def fnExactMustPassUptoRow : OpenClaim := { program := "ytcmhkgpalfljbaa", sum := "f65803bf7d45a26196541e372ec637618d04f16cfa878f33693a388db35370b4", func := "loop.example/g00605/laws.FnExactMustPass", spec := "fnExactMustPass", unfollowed := true, recurses := true, apart := false, narrowed := true }
def FnExactMustPassUptoSaid : Prop := fnExactMustPassUptoRow.holds Try.pinned (OpenSpec.upto fnExactMustPassSpec)

/-- 'laws.FnExactNearestOf', WHERE WHAT IT READS IS OF BULK AT MOST 1048576: true; the input reads as it did. -/
def fnExactNearestOfUptoRow : OpenClaim := { program := "ytcmhkgpalfljbaa", sum := "f65803bf7d45a26196541e372ec637618d04f16cfa878f33693a388db35370b4", func := "loop.example/g00605/laws.FnExactNearestOf", spec := "fnExactNearestOf", unfollowed := true, recurses := true, apart := false, narrowed := true }
def FnExactNearestOfUptoSaid : Prop := fnExactNearestOfUptoRow.holds Try.pinned (OpenSpec.upto fnExactNearestOfSpec)

/-- 'laws.FnCounted', WHERE WHAT IT READS IS OF BULK AT MOST 1048576: true; the input reads as it did. -/
def fnCountedUptoRow : OpenClaim := { program := "ytcmhkgpalfljbaa", sum := "f65803bf7d45a26196541e372ec637618d04f16cfa878f33693a388db35370b4", func := "loop.example/g00605/laws.FnCounted", spec := "fnCounted", unfollowed := true, recurses := true, apart := false, narrowed := true }
def FnCountedUptoSaid : Prop := fnCountedUptoRow.holds Try.pinned (OpenSpec.upto fnCountedSpec)

/-- 'laws.FnPassed', WHERE WHAT IT READS IS OF BULK AT MOST 1048576: true; the input reads as it did. -/
def fnPassedUptoRow : OpenClaim := { program := "ytcmhkgpalfljbaa", sum := "f65803bf7d45a26196541e372ec637618d04f16cfa878f33693a388db35370b4", func := "loop.example/g00605/laws.FnPassed", spec := "fnPassed", unfollowed := true, recurses := true, apart := false, narrowed := true }
def FnPassedUptoSaid : Prop := fnPassedUptoRow.holds Try.pinned (OpenSpec.upto fnPassedSpec)

end Rows
end Go.Proofs.Ytcmhkgpalfljbaa

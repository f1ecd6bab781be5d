/-
  No cell of these rows narrows 'for every input' (looked for: loops, veiled, ifaces, maps, wideKeys, modest, calm, conditions, laid).
  DERIVED. THE GIVEN ROWS OF THIS SEAT. 12 by the template 'for every input the law returns true; each argument reads behind the call as it read before'; 0 by the template 'total and deterministic' (their statements: YtalikhegkfmdhaaTotals.lean).
  GIVEN WITH THE SEED: the statements are not yours to turn. If you find one false, say at which input.
  Laid BY PROGRAM, IN A SANDBOX (cutbox-rows.mjs): the forced cells as the released guide's own fill.sh prints them over the translation f696d9aa28386aaf… (all of the seat's roots in one cut). By AI agents, Wed Nov 11 2026. No macro, syntax, notation, axiom, sorry.
-/
import Derived.Test.YtalikhegkfmdhaaChecked
import GoSem.Claim
import GoSem.ClaimJoined
import GoSem.ClaimMapViews
import Derived.JoinedTies
import Derived.KernelRfl
namespace Go.Proofs.Ytalikhegkfmdhaa
/- THE CELL 'sum', in the pinned program and in every row, IS THE sha256 OF THE DUMP (.gsa) THAT YtalikhegkfmdhaaProg.lean LOADS. Nothing in Lean hashes anything: it is a label: what it is worth is what the hold of that sum in a sandbox is worth. -/
noncomputable def Try.pinned : Pinned := { name := "ytalikhegkfmdhaa", sum := "f696d9aa28386aafcd96749ee06d8f5caf389cbabebcb8a9072852a9c68092c3", checked := Try.checked }
namespace Rows
def none {H : Type} : Left H := { results := [], args := [] }

/-- 'laws.FnExactGoodArcs': WHATEVER THE INPUT: true; the input reads as it did. -/
def fnExactGoodArcsSpec : ChangeSpec := { name := "fnExactGoodArcs", fn := fun _ => fun
  | [d1, d2] => { results := [.lit (.bool true)], args := [d1, d2] }
  | _ => none }
def fnExactGoodArcsRow : OpenClaim := { program := "ytalikhegkfmdhaa", sum := "f696d9aa28386aafcd96749ee06d8f5caf389cbabebcb8a9072852a9c68092c3", func := "loop.example/g00605/laws.FnExactGoodArcs", spec := "fnExactGoodArcs", apart := false }
def FnExactGoodArcsSaid : Prop := fnExactGoodArcsRow.holds Try.pinned (OpenSpec.ofChange fnExactGoodArcsSpec)

/-- ITS FALSE NEIGHBOUR: 'it returns false'. Refute it at one input. -/
def fnExactGoodArcsWrong : ChangeSpec := { name := "fnExactGoodArcs", fn := fun _ => fun
  | [d1, d2] => { results := [.lit (.bool false)], args := [d1, d2] }
  | _ => none }
def FnExactGoodArcsWrongFalsely : Prop := fnExactGoodArcsRow.holds Try.pinned (OpenSpec.ofChange fnExactGoodArcsWrong)

/-- 'laws.FnExactLaidWalk': WHATEVER THE INPUT: true; the input reads as it did. -/
def fnExactLaidWalkSpec : ChangeSpec := { name := "fnExactLaidWalk", fn := fun _ => fun
  | [d1, d2] => { results := [.lit (.bool true)], args := [d1, d2] }
  | _ => none }
def fnExactLaidWalkRow : OpenClaim := { program := "ytalikhegkfmdhaa", sum := "f696d9aa28386aafcd96749ee06d8f5caf389cbabebcb8a9072852a9c68092c3", func := "loop.example/g00605/laws.FnExactLaidWalk", spec := "fnExactLaidWalk", unfollowed := true, recurses := true, apart := false }
def FnExactLaidWalkSaid : Prop := fnExactLaidWalkRow.holds Try.pinned (OpenSpec.ofChange fnExactLaidWalkSpec)

/-- ITS FALSE NEIGHBOUR: 'it returns false'. Refute it at one input. -/
def fnExactLaidWalkWrong : ChangeSpec := { name := "fnExactLaidWalk", fn := fun _ => fun
  | [d1, d2] => { results := [.lit (.bool false)], args := [d1, d2] }
  | _ => none }
def FnExactLaidWalkWrongFalsely : Prop := fnExactLaidWalkRow.holds Try.pinned (OpenSpec.ofChange fnExactLaidWalkWrong)

/-- 'laws.FnExactWalksOf': WHATEVER THE INPUT: true; the input reads as it did. -/
def fnExactWalksOfSpec : ChangeSpec := { name := "fnExactWalksOf", fn := fun _ => fun
  | [d1, d2, d3, d4, d5] => { results := [.lit (.bool true)], args := [d1, d2, d3, d4, d5] }
  | _ => none }
def fnExactWalksOfRow : OpenClaim := { program := "ytalikhegkfmdhaa", sum := "f696d9aa28386aafcd96749ee06d8f5caf389cbabebcb8a9072852a9c68092c3", func := "loop.example/g00605/laws.FnExactWalksOf", spec := "fnExactWalksOf", apart := false }
def FnExactWalksOfSaid : Prop := fnExactWalksOfRow.holds Try.pinned (OpenSpec.ofChange fnExactWalksOfSpec)

/-- ITS FALSE NEIGHBOUR: 'it returns false'. Refute it at one input. -/
def fnExactWalksOfWrong : ChangeSpec := { name := "fnExactWalksOf", fn := fun _ => fun
  | [d1, d2, d3, d4, d5] => { results := [.lit (.bool false)], args := [d1, d2, d3, d4, d5] }
  | _ => none }
def FnExactWalksOfWrongFalsely : Prop := fnExactWalksOfRow.holds Try.pinned (OpenSpec.ofChange fnExactWalksOfWrong)

/-- 'laws.FnExactLayOut': WHATEVER THE INPUT: true; the input reads as it did. -/
def fnExactLayOutSpec : ChangeSpec := { name := "fnExactLayOut", fn := fun _ => fun
  | [d1, d2, d3] => { results := [.lit (.bool true)], args := [d1, d2, d3] }
  | _ => none }
def fnExactLayOutRow : OpenClaim := { program := "ytalikhegkfmdhaa", sum := "f696d9aa28386aafcd96749ee06d8f5caf389cbabebcb8a9072852a9c68092c3", func := "loop.example/g00605/laws.FnExactLayOut", spec := "fnExactLayOut", apart := false }
def FnExactLayOutSaid : Prop := fnExactLayOutRow.holds Try.pinned (OpenSpec.ofChange fnExactLayOutSpec)

/-- ITS FALSE NEIGHBOUR: 'it returns false'. Refute it at one input. -/
def fnExactLayOutWrong : ChangeSpec := { name := "fnExactLayOut", fn := fun _ => fun
  | [d1, d2, d3] => { results := [.lit (.bool false)], args := [d1, d2, d3] }
  | _ => none }
def FnExactLayOutWrongFalsely : Prop := fnExactLayOutRow.holds Try.pinned (OpenSpec.ofChange fnExactLayOutWrong)

/-- 'laws.FnExactIsWalk': WHATEVER THE INPUT: true; the input reads as it did. -/
def fnExactIsWalkSpec : ChangeSpec := { name := "fnExactIsWalk", fn := fun _ => fun
  | [d1, d2, d3] => { results := [.lit (.bool true)], args := [d1, d2, d3] }
  | _ => none }
def fnExactIsWalkRow : OpenClaim := { program := "ytalikhegkfmdhaa", sum := "f696d9aa28386aafcd96749ee06d8f5caf389cbabebcb8a9072852a9c68092c3", func := "loop.example/g00605/laws.FnExactIsWalk", spec := "fnExactIsWalk", unfollowed := true, recurses := true, apart := false }
def FnExactIsWalkSaid : Prop := fnExactIsWalkRow.holds Try.pinned (OpenSpec.ofChange fnExactIsWalkSpec)

/-- ITS FALSE NEIGHBOUR: 'it returns false'. Refute it at one input. -/
def fnExactIsWalkWrong : ChangeSpec := { name := "fnExactIsWalk", fn := fun _ => fun
  | [d1, d2, d3] => { results := [.lit (.bool false)], args := [d1, d2, d3] }
  | _ => none }
def FnExactIsWalkWrongFalsely : Prop := fnExactIsWalkRow.holds Try.pinned (OpenSpec.ofChange fnExactIsWalkWrong)

/-- 'laws.FnExactEnoughFor': WHATEVER THE INPUT: true; the input reads as it did. -/
def fnExactEnoughForSpec : ChangeSpec := { name := "fnExactEnoughFor", fn := fun _ => fun
  | [d1, d2, d3] => { results := [.lit (.bool true)], args := [d1, d2, d3] }
  | _ => none }
def fnExactEnoughForRow : OpenClaim := { program := "ytalikhegkfmdhaa", sum := "f696d9aa28386aafcd96749ee06d8f5caf389cbabebcb8a9072852a9c68092c3", func := "loop.example/g00605/laws.FnExactEnoughFor", spec := "fnExactEnoughFor", apart := false }
def FnExactEnoughForSaid : Prop := fnExactEnoughForRow.holds Try.pinned (OpenSpec.ofChange fnExactEnoughForSpec)

/-- ITS FALSE NEIGHBOUR: 'it returns false'. Refute it at one input. -/
def fnExactEnoughForWrong : ChangeSpec := { name := "fnExactEnoughFor", fn := fun _ => fun
  | [d1, d2, d3] => { results := [.lit (.bool false)], args := [d1, d2, d3] }
  | _ => none }
def FnExactEnoughForWrongFalsely : Prop := fnExactEnoughForRow.holds Try.pinned (OpenSpec.ofChange fnExactEnoughForWrong)

/-- 'laws.FnExactGoodGates': WHATEVER THE INPUT: true; the input reads as it did. -/
def fnExactGoodGatesSpec : ChangeSpec := { name := "fnExactGoodGates", fn := fun _ => fun
  | [d] => { results := [.lit (.bool true)], args := [d] }
  | _ => none }
def fnExactGoodGatesRow : OpenClaim := { program := "ytalikhegkfmdhaa", sum := "f696d9aa28386aafcd96749ee06d8f5caf389cbabebcb8a9072852a9c68092c3", func := "loop.example/g00605/laws.FnExactGoodGates", spec := "fnExactGoodGates", apart := false }
def FnExactGoodGatesSaid : Prop := fnExactGoodGatesRow.holds Try.pinned (OpenSpec.ofChange fnExactGoodGatesSpec)

/-- ITS FALSE NEIGHBOUR: 'it returns false'. Refute it at one input. -/
def fnExactGoodGatesWrong : ChangeSpec := { name := "fnExactGoodGates", fn := fun _ => fun
  | [d] => { results := [.lit (.bool false)], args := [d] }
  | _ => none }
def FnExactGoodGatesWrongFalsely : Prop := fnExactGoodGatesRow.holds Try.pinned (OpenSpec.ofChange fnExactGoodGatesWrong)

/-- 'laws.FnExactInputsOf': WHATEVER THE INPUT: true; the input reads as it did. -/
def fnExactInputsOfSpec : ChangeSpec := { name := "fnExactInputsOf", fn := fun _ => fun
  | [d] => { results := [.lit (.bool true)], args := [d] }
  | _ => none }
def fnExactInputsOfRow : OpenClaim := { program := "ytalikhegkfmdhaa", sum := "f696d9aa28386aafcd96749ee06d8f5caf389cbabebcb8a9072852a9c68092c3", func := "loop.example/g00605/laws.FnExactInputsOf", spec := "fnExactInputsOf", apart := false }
def FnExactInputsOfSaid : Prop := fnExactInputsOfRow.holds Try.pinned (OpenSpec.ofChange fnExactInputsOfSpec)

/-- ITS FALSE NEIGHBOUR: 'it returns false'. Refute it at one input. -/
def fnExactInputsOfWrong : ChangeSpec := { name := "fnExactInputsOf", fn := fun _ => fun
  | [d] => { results := [.lit (.bool false)], args := [d] }
  | _ => none }
def FnExactInputsOfWrongFalsely : Prop := fnExactInputsOfRow.holds Try.pinned (OpenSpec.ofChange fnExactInputsOfWrong)

/-- 'laws.FnExactInputsBy': WHATEVER THE INPUT: true; the input reads as it did. -/
def fnExactInputsBySpec : ChangeSpec := { name := "fnExactInputsBy", fn := fun _ => fun
  | [d1, d2] => { results := [.lit (.bool true)], args := [d1, d2] }
  | _ => none }
def fnExactInputsByRow : OpenClaim := { program := "ytalikhegkfmdhaa", sum := "f696d9aa28386aafcd96749ee06d8f5caf389cbabebcb8a9072852a9c68092c3", func := "loop.example/g00605/laws.FnExactInputsBy", spec := "fnExactInputsBy", apart := false }
def FnExactInputsBySaid : Prop := fnExactInputsByRow.holds Try.pinned (OpenSpec.ofChange fnExactInputsBySpec)

/-- ITS FALSE NEIGHBOUR: 'it returns false'. Refute it at one input. -/
def fnExactInputsByWrong : ChangeSpec := { name := "fnExactInputsBy", fn := fun _ => fun
  | [d1, d2] => { results := [.lit (.bool false)], args := [d1, d2] }
  | _ => none }
def FnExactInputsByWrongFalsely : Prop := fnExactInputsByRow.holds Try.pinned (OpenSpec.ofChange fnExactInputsByWrong)

/-- 'laws.FnExactEvalGates': WHATEVER THE INPUT: true; the input reads as it did. -/
def fnExactEvalGatesSpec : ChangeSpec := { name := "fnExactEvalGates", fn := fun _ => fun
  | [d1, d2] => { results := [.lit (.bool true)], args := [d1, d2] }
  | _ => none }
def fnExactEvalGatesRow : OpenClaim := { program := "ytalikhegkfmdhaa", sum := "f696d9aa28386aafcd96749ee06d8f5caf389cbabebcb8a9072852a9c68092c3", func := "loop.example/g00605/laws.FnExactEvalGates", spec := "fnExactEvalGates", apart := false }
def FnExactEvalGatesSaid : Prop := fnExactEvalGatesRow.holds Try.pinned (OpenSpec.ofChange fnExactEvalGatesSpec)

/-- ITS FALSE NEIGHBOUR: 'it returns false'. Refute it at one input. -/
def fnExactEvalGatesWrong : ChangeSpec := { name := "fnExactEvalGates", fn := fun _ => fun
  | [d1, d2] => { results := [.lit (.bool false)], args := [d1, d2] }
  | _ => none }
def FnExactEvalGatesWrongFalsely : Prop := fnExactEvalGatesRow.holds Try.pinned (OpenSpec.ofChange fnExactEvalGatesWrong)

/-- 'laws.FnExactAlwaysSame': WHATEVER THE INPUT: true; the input reads as it did. -/
def fnExactAlwaysSameSpec : ChangeSpec := { name := "fnExactAlwaysSame", fn := fun _ => fun
  | [d1, d2] => { results := [.lit (.bool true)], args := [d1, d2] }
  | _ => none }
def fnExactAlwaysSameRow : OpenClaim := { program := "ytalikhegkfmdhaa", sum := "f696d9aa28386aafcd96749ee06d8f5caf389cbabebcb8a9072852a9c68092c3", func := "loop.example/g00605/laws.FnExactAlwaysSame", spec := "fnExactAlwaysSame", apart := false }
def FnExactAlwaysSameSaid : Prop := fnExactAlwaysSameRow.holds Try.pinned (OpenSpec.ofChange fnExactAlwaysSameSpec)

/-- ITS FALSE NEIGHBOUR: 'it returns false'. Refute it at one input. -/
def fnExactAlwaysSameWrong : ChangeSpec := { name := "fnExactAlwaysSame", fn := fun _ => fun
  | [d1, d2] => { results := [.lit (.bool false)], args := [d1, d2] }
  | _ => none }
def FnExactAlwaysSameWrongFalsely : Prop := fnExactAlwaysSameRow.holds Try.pinned (OpenSpec.ofChange fnExactAlwaysSameWrong)

/-- 'laws.FnExactCanBe': WHATEVER THE INPUT: true; the input reads as it did. -/
def fnExactCanBeSpec : ChangeSpec := { name := "fnExactCanBe", fn := fun _ => fun
  | [d] => { results := [.lit (.bool true)], args := [d] }
  | _ => none }
def fnExactCanBeRow : OpenClaim := { program := "ytalikhegkfmdhaa", sum := "f696d9aa28386aafcd96749ee06d8f5caf389cbabebcb8a9072852a9c68092c3", func := "loop.example/g00605/laws.FnExactCanBe", spec := "fnExactCanBe", apart := false }
def FnExactCanBeSaid : Prop := fnExactCanBeRow.holds Try.pinned (OpenSpec.ofChange fnExactCanBeSpec)

/-- ITS FALSE NEIGHBOUR: 'it returns false'. Refute it at one input. -/
def fnExactCanBeWrong : ChangeSpec := { name := "fnExactCanBe", fn := fun _ => fun
  | [d] => { results := [.lit (.bool false)], args := [d] }
  | _ => none }
def FnExactCanBeWrongFalsely : Prop := fnExactCanBeRow.holds Try.pinned (OpenSpec.ofChange fnExactCanBeWrong)

/- THE SECOND FORM. 'bulk': how many values and letters a reading holds, each counted each time it is reached (what is shared counts as often as it is met; a slice's spare places count too). A statement '..UptoSaid' is the law's where the arguments, and the package variables that the reading takes, are together of bulk at most 1048576: NARROWER than '..Said'. Prove '..Said' where nothing that the law and all that it calls make is longer than what came in: it says more and counts as full. Else prove '..UptoSaid'. A law counts once. -/
mutual
def uptoBulk {H : Type} : DataW H → Nat
  | .lit (.string bytes) => bytes.length + 1
  | .lit _ => 1
  | .nil => 1
  | .ptr d => uptoBulk d + 1
  | .slice elems spare => uptoBulkAll elems + uptoBulkAll spare + 1
  | .agg parts => uptoBulkAll parts + 1
  | .iface _ d => uptoBulk d + 1
  | .map entries => uptoBulkEntries entries + 1
  | .held _ => 1
def uptoBulkAll {H : Type} : List (DataW H) → Nat
  | [] => 0
  | d :: r => uptoBulk d + uptoBulkAll r
def uptoBulkEntries {H : Type} : List (Lit × DataW H) → Nat
  | [] => 0
  | x :: r => uptoBulkEntry x + uptoBulkEntries r
def uptoBulkEntry {H : Type} : Lit × DataW H → Nat
  | (.string bytes, d) => bytes.length + uptoBulk d + 1
  | (_, d) => uptoBulk d + 1
 end
def uptoSmall : (H : Type) → List (DataW H) → Bool := fun _ ds => decide (uptoBulkAll ds ≤ 1048576)
def OpenSpec.upto (s : _root_.Go.ChangeSpec) : _root_.Go.OpenSpec := { _root_.Go.OpenSpec.ofChange s with cond := some uptoSmall }

/-- 'laws.FnExactGoodArcs', WHERE WHAT IT READS IS OF BULK AT MOST 1048576: true; the input reads as it did. -/
def fnExactGoodArcsUptoRow : OpenClaim := { program := "ytalikhegkfmdhaa", sum := "f696d9aa28386aafcd96749ee06d8f5caf389cbabebcb8a9072852a9c68092c3", func := "loop.example/g00605/laws.FnExactGoodArcs", spec := "fnExactGoodArcs", apart := false, narrowed := true }
def FnExactGoodArcsUptoSaid : Prop := fnExactGoodArcsUptoRow.holds Try.pinned (OpenSpec.upto fnExactGoodArcsSpec)

/-- 'laws.FnExactLaidWalk', WHERE WHAT IT READS IS OF BULK AT MOST 1048576: true; the input reads as it did. -/
def fnExactLaidWalkUptoRow : OpenClaim := { program := "ytalikhegkfmdhaa", sum := "f696d9aa28386aafcd96749ee06d8f5caf389cbabebcb8a9072852a9c68092c3", func := "loop.example/g00605/laws.FnExactLaidWalk", spec := "fnExactLaidWalk", unfollowed := true, recurses := true, apart := false, narrowed := true }
def FnExactLaidWalkUptoSaid : Prop := fnExactLaidWalkUptoRow.holds Try.pinned (OpenSpec.upto fnExactLaidWalkSpec)

/-- 'laws.FnExactWalksOf', WHERE WHAT IT READS IS OF BULK AT MOST 1048576: true; the input reads as it did. -/
def fnExactWalksOfUptoRow : OpenClaim := { program := "ytalikhegkfmdhaa", sum := "f696d9aa28386aafcd96749ee06d8f5caf389cbabebcb8a9072852a9c68092c3", func := "loop.example/g00605/laws.FnExactWalksOf", spec := "fnExactWalksOf", apart := false, narrowed := true }
def FnExactWalksOfUptoSaid : Prop := fnExactWalksOfUptoRow.holds Try.pinned (OpenSpec.upto fnExactWalksOfSpec)

/-- 'laws.FnExactLayOut', WHERE WHAT IT READS IS OF BULK AT MOST 1048576: true; the input reads as it did. -/
def fnExactLayOutUptoRow : OpenClaim := { program := "ytalikhegkfmdhaa", sum := "f696d9aa28386aafcd96749ee06d8f5caf389cbabebcb8a9072852a9c68092c3", func := "loop.example/g00605/laws.FnExactLayOut", spec := "fnExactLayOut", apart := false, narrowed := true }
def FnExactLayOutUptoSaid : Prop := fnExactLayOutUptoRow.holds Try.pinned (OpenSpec.upto fnExactLayOutSpec)

/-- 'laws.FnExactIsWalk', WHERE WHAT IT READS IS OF BULK AT MOST 1048576: true; the input reads as it did. -/
def fnExactIsWalkUptoRow : OpenClaim := { program := "ytalikhegkfmdhaa", sum := "f696d9aa28386aafcd96749ee06d8f5caf389cbabebcb8a9072852a9c68092c3", func := "loop.example/g00605/laws.FnExactIsWalk", spec := "fnExactIsWalk", unfollowed := true, recurses := true, apart := false, narrowed := true }
def FnExactIsWalkUptoSaid : Prop := fnExactIsWalkUptoRow.holds Try.pinned (OpenSpec.upto fnExactIsWalkSpec)

/-- 'laws.FnExactEnoughFor', WHERE WHAT IT READS IS OF BULK AT MOST 1048576: true; the input reads as it did. -/
def fnExactEnoughForUptoRow : OpenClaim := { program := "ytalikhegkfmdhaa", sum := "f696d9aa28386aafcd96749ee06d8f5caf389cbabebcb8a9072852a9c68092c3", func := "loop.example/g00605/laws.FnExactEnoughFor", spec := "fnExactEnoughFor", apart := false, narrowed := true }
def FnExactEnoughForUptoSaid : Prop := fnExactEnoughForUptoRow.holds Try.pinned (OpenSpec.upto fnExactEnoughForSpec)

/-- 'laws.FnExactGoodGates', WHERE WHAT IT READS IS OF BULK AT MOST 1048576: true; the input reads as it did. -/
def fnExactGoodGatesUptoRow : OpenClaim := { program := "ytalikhegkfmdhaa", sum := "f696d9aa28386aafcd96749ee06d8f5caf389cbabebcb8a9072852a9c68092c3", func := "loop.example/g00605/laws.FnExactGoodGates", spec := "fnExactGoodGates", apart := false, narrowed := true }
def FnExactGoodGatesUptoSaid : Prop := fnExactGoodGatesUptoRow.holds Try.pinned (OpenSpec.upto fnExactGoodGatesSpec)

/-- 'laws.FnExactInputsOf', WHERE WHAT IT READS IS OF BULK AT MOST 1048576: true; the input reads as it did. -/
def fnExactInputsOfUptoRow : OpenClaim := { program := "ytalikhegkfmdhaa", sum := "f696d9aa28386aafcd96749ee06d8f5caf389cbabebcb8a9072852a9c68092c3", func := "loop.example/g00605/laws.FnExactInputsOf", spec := "fnExactInputsOf", apart := false, narrowed := true }
def FnExactInputsOfUptoSaid : Prop := fnExactInputsOfUptoRow.holds Try.pinned (OpenSpec.upto fnExactInputsOfSpec)

/-- 'laws.FnExactInputsBy', WHERE WHAT IT READS IS OF BULK AT MOST 1048576: true; the input reads as it did. -/
def fnExactInputsByUptoRow : OpenClaim := { program := "ytalikhegkfmdhaa", sum := "f696d9aa28386aafcd96749ee06d8f5caf389cbabebcb8a9072852a9c68092c3", func := "loop.example/g00605/laws.FnExactInputsBy", spec := "fnExactInputsBy", apart := false, narrowed := true }
def FnExactInputsByUptoSaid : Prop := fnExactInputsByUptoRow.holds Try.pinned (OpenSpec.upto fnExactInputsBySpec)

/-- 'laws.FnExactEvalGates', WHERE WHAT IT READS IS OF BULK AT MOST 1048576: true; the input reads as it did. -/
def fnExactEvalGatesUptoRow : OpenClaim := { program := "ytalikhegkfmdhaa", sum := "f696d9aa28386aafcd96749ee06d8f5caf389cbabebcb8a9072852a9c68092c3", func := "loop.example/g00605/laws.FnExactEvalGates", spec := "fnExactEvalGates", apart := false, narrowed := true }
def FnExactEvalGatesUptoSaid : Prop := fnExactEvalGatesUptoRow.holds Try.pinned (OpenSpec.upto fnExactEvalGatesSpec)

/-- 'laws.FnExactAlwaysSame', WHERE WHAT IT READS IS OF BULK AT MOST 1048576: true; the input reads as it did. -/
def fnExactAlwaysSameUptoRow : OpenClaim := { program := "ytalikhegkfmdhaa", sum := "f696d9aa28386aafcd96749ee06d8f5caf389cbabebcb8a9072852a9c68092c3", func := "loop.example/g00605/laws.FnExactAlwaysSame", spec := "fnExactAlwaysSame", apart := false, narrowed := true }
def FnExactAlwaysSameUptoSaid : Prop := fnExactAlwaysSameUptoRow.holds Try.pinned (OpenSpec.upto fnExactAlwaysSameSpec)

/-- 'laws.FnExactCanBe', WHERE WHAT IT READS IS OF BULK AT MOST 1048576: true; the input reads as it did. -/
def fnExactCanBeUptoRow : OpenClaim := { program := "ytalikhegkfmdhaa", sum := "f696d9aa28386aafcd96749ee06d8f5caf389cbabebcb8a9072852a9c68092c3", func := "loop.example/g00605/laws.FnExactCanBe", spec := "fnExactCanBe", apart := false, narrowed := true }
def FnExactCanBeUptoSaid : Prop := fnExactCanBeUptoRow.holds Try.pinned (OpenSpec.upto fnExactCanBeSpec)

end Rows
end Go.Proofs.Ytalikhegkfmdhaa

/-
  No cell of these rows narrows 'for every input' (looked for: loops, veiled, ifaces, maps, wideKeys, modest, calm, conditions, laid).
  DERIVED. THE GIVEN ROWS OF THIS SEAT. 12 by the template 'for every input the law returns true; each argument reads behind the call as it read before'; 0 by the template 'total and deterministic' (their statements: YtpjbemdbbjjblaaTotals.lean).
  GIVEN WITH THE SEED: the statements are not yours to turn. If you find one false, say at which input.
  Laid BY PROGRAM, IN A SANDBOX (cutbox-rows.mjs): the forced cells as the released guide's own fill.sh prints them over the translation bf6e99eca1f427da… (all of the seat's roots in one cut). By AI agents, Wed Nov 11 2026. No macro, syntax, notation, axiom, sorry.
-/
import Derived.Test.YtpjbemdbbjjblaaChecked
import GoSem.Claim
import GoSem.ClaimJoined
import GoSem.ClaimMapViews
import Derived.JoinedTies
import Derived.KernelRfl
namespace Go.Proofs.Ytpjbemdbbjjblaa
/- THE CELL 'sum', in the pinned program and in every row, IS THE sha256 OF THE DUMP (.gsa) THAT YtpjbemdbbjjblaaProg.lean LOADS. Nothing in Lean hashes anything: it is a label: what it is worth is what the hold of that sum in a sandbox is worth. -/
noncomputable def Try.pinned : Pinned := { name := "ytpjbemdbbjjblaa", sum := "bf6e99eca1f427da5d906dfb69a5f3c36a54df9aaba45a63465bc1591cda6e7f", checked := Try.checked }
namespace Rows
def none {H : Type} : Left H := { results := [], args := [] }

/-- 'laws.FnExactGoodKnown': WHATEVER THE INPUT: true; the input reads as it did. -/
def fnExactGoodKnownSpec : ChangeSpec := { name := "fnExactGoodKnown", fn := fun _ => fun
  | [d] => { results := [.lit (.bool true)], args := [d] }
  | _ => none }
def fnExactGoodKnownRow : OpenClaim := { program := "ytpjbemdbbjjblaa", sum := "bf6e99eca1f427da5d906dfb69a5f3c36a54df9aaba45a63465bc1591cda6e7f", func := "loop.example/g00605/laws.FnExactGoodKnown", spec := "fnExactGoodKnown", apart := false }
def FnExactGoodKnownSaid : Prop := fnExactGoodKnownRow.holds Try.pinned (OpenSpec.ofChange fnExactGoodKnownSpec)

/-- ITS FALSE NEIGHBOUR: 'it returns false'. Refute it at one input. -/
def fnExactGoodKnownWrong : ChangeSpec := { name := "fnExactGoodKnown", fn := fun _ => fun
  | [d] => { results := [.lit (.bool false)], args := [d] }
  | _ => none }
def FnExactGoodKnownWrongFalsely : Prop := fnExactGoodKnownRow.holds Try.pinned (OpenSpec.ofChange fnExactGoodKnownWrong)

/-- 'laws.FnExactGoodStretch': WHATEVER THE INPUT: true; the input reads as it did. -/
def fnExactGoodStretchSpec : ChangeSpec := { name := "fnExactGoodStretch", fn := fun _ => fun
  | [d] => { results := [.lit (.bool true)], args := [d] }
  | _ => none }
def fnExactGoodStretchRow : OpenClaim := { program := "ytpjbemdbbjjblaa", sum := "bf6e99eca1f427da5d906dfb69a5f3c36a54df9aaba45a63465bc1591cda6e7f", func := "loop.example/g00605/laws.FnExactGoodStretch", spec := "fnExactGoodStretch", apart := false }
def FnExactGoodStretchSaid : Prop := fnExactGoodStretchRow.holds Try.pinned (OpenSpec.ofChange fnExactGoodStretchSpec)

/-- ITS FALSE NEIGHBOUR: 'it returns false'. Refute it at one input. -/
def fnExactGoodStretchWrong : ChangeSpec := { name := "fnExactGoodStretch", fn := fun _ => fun
  | [d] => { results := [.lit (.bool false)], args := [d] }
  | _ => none }
def FnExactGoodStretchWrongFalsely : Prop := fnExactGoodStretchRow.holds Try.pinned (OpenSpec.ofChange fnExactGoodStretchWrong)

/-- 'laws.FnExactInStretch': WHATEVER THE INPUT: true; the input reads as it did. -/
def fnExactInStretchSpec : ChangeSpec := { name := "fnExactInStretch", fn := fun _ => fun
  | [d1, d2] => { results := [.lit (.bool true)], args := [d1, d2] }
  | _ => none }
def fnExactInStretchRow : OpenClaim := { program := "ytpjbemdbbjjblaa", sum := "bf6e99eca1f427da5d906dfb69a5f3c36a54df9aaba45a63465bc1591cda6e7f", func := "loop.example/g00605/laws.FnExactInStretch", spec := "fnExactInStretch", apart := false }
def FnExactInStretchSaid : Prop := fnExactInStretchRow.holds Try.pinned (OpenSpec.ofChange fnExactInStretchSpec)

/-- ITS FALSE NEIGHBOUR: 'it returns false'. Refute it at one input. -/
def fnExactInStretchWrong : ChangeSpec := { name := "fnExactInStretch", fn := fun _ => fun
  | [d1, d2] => { results := [.lit (.bool false)], args := [d1, d2] }
  | _ => none }
def FnExactInStretchWrongFalsely : Prop := fnExactInStretchRow.holds Try.pinned (OpenSpec.ofChange fnExactInStretchWrong)

/-- 'laws.FnExactSizeOf': WHATEVER THE INPUT: true; the input reads as it did. -/
def fnExactSizeOfSpec : ChangeSpec := { name := "fnExactSizeOf", fn := fun _ => fun
  | [d] => { results := [.lit (.bool true)], args := [d] }
  | _ => none }
def fnExactSizeOfRow : OpenClaim := { program := "ytpjbemdbbjjblaa", sum := "bf6e99eca1f427da5d906dfb69a5f3c36a54df9aaba45a63465bc1591cda6e7f", func := "loop.example/g00605/laws.FnExactSizeOf", spec := "fnExactSizeOf", apart := false }
def FnExactSizeOfSaid : Prop := fnExactSizeOfRow.holds Try.pinned (OpenSpec.ofChange fnExactSizeOfSpec)

/-- ITS FALSE NEIGHBOUR: 'it returns false'. Refute it at one input. -/
def fnExactSizeOfWrong : ChangeSpec := { name := "fnExactSizeOf", fn := fun _ => fun
  | [d] => { results := [.lit (.bool false)], args := [d] }
  | _ => none }
def FnExactSizeOfWrongFalsely : Prop := fnExactSizeOfRow.holds Try.pinned (OpenSpec.ofChange fnExactSizeOfWrong)

/-- 'laws.FnExactMayBe': WHATEVER THE INPUT: true; the input reads as it did. -/
def fnExactMayBeSpec : ChangeSpec := { name := "fnExactMayBe", fn := fun _ => fun
  | [d1, d2] => { results := [.lit (.bool true)], args := [d1, d2] }
  | _ => none }
def fnExactMayBeRow : OpenClaim := { program := "ytpjbemdbbjjblaa", sum := "bf6e99eca1f427da5d906dfb69a5f3c36a54df9aaba45a63465bc1591cda6e7f", func := "loop.example/g00605/laws.FnExactMayBe", spec := "fnExactMayBe", apart := false }
def FnExactMayBeSaid : Prop := fnExactMayBeRow.holds Try.pinned (OpenSpec.ofChange fnExactMayBeSpec)

/-- ITS FALSE NEIGHBOUR: 'it returns false'. Refute it at one input. -/
def fnExactMayBeWrong : ChangeSpec := { name := "fnExactMayBe", fn := fun _ => fun
  | [d1, d2] => { results := [.lit (.bool false)], args := [d1, d2] }
  | _ => none }
def FnExactMayBeWrongFalsely : Prop := fnExactMayBeRow.holds Try.pinned (OpenSpec.ofChange fnExactMayBeWrong)

/-- 'laws.FnExactWithinStretch': WHATEVER THE INPUT: true; the input reads as it did. -/
def fnExactWithinStretchSpec : ChangeSpec := { name := "fnExactWithinStretch", fn := fun _ => fun
  | [d1, d2] => { results := [.lit (.bool true)], args := [d1, d2] }
  | _ => none }
def fnExactWithinStretchRow : OpenClaim := { program := "ytpjbemdbbjjblaa", sum := "bf6e99eca1f427da5d906dfb69a5f3c36a54df9aaba45a63465bc1591cda6e7f", func := "loop.example/g00605/laws.FnExactWithinStretch", spec := "fnExactWithinStretch", apart := false }
def FnExactWithinStretchSaid : Prop := fnExactWithinStretchRow.holds Try.pinned (OpenSpec.ofChange fnExactWithinStretchSpec)

/-- ITS FALSE NEIGHBOUR: 'it returns false'. Refute it at one input. -/
def fnExactWithinStretchWrong : ChangeSpec := { name := "fnExactWithinStretch", fn := fun _ => fun
  | [d1, d2] => { results := [.lit (.bool false)], args := [d1, d2] }
  | _ => none }
def FnExactWithinStretchWrongFalsely : Prop := fnExactWithinStretchRow.holds Try.pinned (OpenSpec.ofChange fnExactWithinStretchWrong)

/-- 'laws.FnExactJoinKnown': WHATEVER THE INPUT: true; the input reads as it did. -/
def fnExactJoinKnownSpec : ChangeSpec := { name := "fnExactJoinKnown", fn := fun _ => fun
  | [d1, d2] => { results := [.lit (.bool true)], args := [d1, d2] }
  | _ => none }
def fnExactJoinKnownRow : OpenClaim := { program := "ytpjbemdbbjjblaa", sum := "bf6e99eca1f427da5d906dfb69a5f3c36a54df9aaba45a63465bc1591cda6e7f", func := "loop.example/g00605/laws.FnExactJoinKnown", spec := "fnExactJoinKnown", apart := false }
def FnExactJoinKnownSaid : Prop := fnExactJoinKnownRow.holds Try.pinned (OpenSpec.ofChange fnExactJoinKnownSpec)

/-- ITS FALSE NEIGHBOUR: 'it returns false'. Refute it at one input. -/
def fnExactJoinKnownWrong : ChangeSpec := { name := "fnExactJoinKnown", fn := fun _ => fun
  | [d1, d2] => { results := [.lit (.bool false)], args := [d1, d2] }
  | _ => none }
def FnExactJoinKnownWrongFalsely : Prop := fnExactJoinKnownRow.holds Try.pinned (OpenSpec.ofChange fnExactJoinKnownWrong)

/-- 'laws.FnExactMeetKnown': WHATEVER THE INPUT: true; the input reads as it did. -/
def fnExactMeetKnownSpec : ChangeSpec := { name := "fnExactMeetKnown", fn := fun _ => fun
  | [d1, d2] => { results := [.lit (.bool true)], args := [d1, d2] }
  | _ => none }
def fnExactMeetKnownRow : OpenClaim := { program := "ytpjbemdbbjjblaa", sum := "bf6e99eca1f427da5d906dfb69a5f3c36a54df9aaba45a63465bc1591cda6e7f", func := "loop.example/g00605/laws.FnExactMeetKnown", spec := "fnExactMeetKnown", apart := false }
def FnExactMeetKnownSaid : Prop := fnExactMeetKnownRow.holds Try.pinned (OpenSpec.ofChange fnExactMeetKnownSpec)

/-- ITS FALSE NEIGHBOUR: 'it returns false'. Refute it at one input. -/
def fnExactMeetKnownWrong : ChangeSpec := { name := "fnExactMeetKnown", fn := fun _ => fun
  | [d1, d2] => { results := [.lit (.bool false)], args := [d1, d2] }
  | _ => none }
def FnExactMeetKnownWrongFalsely : Prop := fnExactMeetKnownRow.holds Try.pinned (OpenSpec.ofChange fnExactMeetKnownWrong)

/-- 'laws.FnExactJoinStretch': WHATEVER THE INPUT: true; the input reads as it did. -/
def fnExactJoinStretchSpec : ChangeSpec := { name := "fnExactJoinStretch", fn := fun _ => fun
  | [d1, d2] => { results := [.lit (.bool true)], args := [d1, d2] }
  | _ => none }
def fnExactJoinStretchRow : OpenClaim := { program := "ytpjbemdbbjjblaa", sum := "bf6e99eca1f427da5d906dfb69a5f3c36a54df9aaba45a63465bc1591cda6e7f", func := "loop.example/g00605/laws.FnExactJoinStretch", spec := "fnExactJoinStretch", apart := false }
def FnExactJoinStretchSaid : Prop := fnExactJoinStretchRow.holds Try.pinned (OpenSpec.ofChange fnExactJoinStretchSpec)

/-- ITS FALSE NEIGHBOUR: 'it returns false'. Refute it at one input. -/
def fnExactJoinStretchWrong : ChangeSpec := { name := "fnExactJoinStretch", fn := fun _ => fun
  | [d1, d2] => { results := [.lit (.bool false)], args := [d1, d2] }
  | _ => none }
def FnExactJoinStretchWrongFalsely : Prop := fnExactJoinStretchRow.holds Try.pinned (OpenSpec.ofChange fnExactJoinStretchWrong)

/-- 'laws.FnExactSplitLess': WHATEVER THE INPUT: true; the input reads as it did. -/
def fnExactSplitLessSpec : ChangeSpec := { name := "fnExactSplitLess", fn := fun _ => fun
  | [d1, d2] => { results := [.lit (.bool true)], args := [d1, d2] }
  | _ => none }
def fnExactSplitLessRow : OpenClaim := { program := "ytpjbemdbbjjblaa", sum := "bf6e99eca1f427da5d906dfb69a5f3c36a54df9aaba45a63465bc1591cda6e7f", func := "loop.example/g00605/laws.FnExactSplitLess", spec := "fnExactSplitLess", apart := false }
def FnExactSplitLessSaid : Prop := fnExactSplitLessRow.holds Try.pinned (OpenSpec.ofChange fnExactSplitLessSpec)

/-- ITS FALSE NEIGHBOUR: 'it returns false'. Refute it at one input. -/
def fnExactSplitLessWrong : ChangeSpec := { name := "fnExactSplitLess", fn := fun _ => fun
  | [d1, d2] => { results := [.lit (.bool false)], args := [d1, d2] }
  | _ => none }
def FnExactSplitLessWrongFalsely : Prop := fnExactSplitLessRow.holds Try.pinned (OpenSpec.ofChange fnExactSplitLessWrong)

/-- 'laws.FnExactMeetStretch': WHATEVER THE INPUT: true; the input reads as it did. -/
def fnExactMeetStretchSpec : ChangeSpec := { name := "fnExactMeetStretch", fn := fun _ => fun
  | [d1, d2] => { results := [.lit (.bool true)], args := [d1, d2] }
  | _ => none }
def fnExactMeetStretchRow : OpenClaim := { program := "ytpjbemdbbjjblaa", sum := "bf6e99eca1f427da5d906dfb69a5f3c36a54df9aaba45a63465bc1591cda6e7f", func := "loop.example/g00605/laws.FnExactMeetStretch", spec := "fnExactMeetStretch", apart := false }
def FnExactMeetStretchSaid : Prop := fnExactMeetStretchRow.holds Try.pinned (OpenSpec.ofChange fnExactMeetStretchSpec)

/-- ITS FALSE NEIGHBOUR: 'it returns false'. Refute it at one input. -/
def fnExactMeetStretchWrong : ChangeSpec := { name := "fnExactMeetStretch", fn := fun _ => fun
  | [d1, d2] => { results := [.lit (.bool false)], args := [d1, d2] }
  | _ => none }
def FnExactMeetStretchWrongFalsely : Prop := fnExactMeetStretchRow.holds Try.pinned (OpenSpec.ofChange fnExactMeetStretchWrong)

/-- 'laws.FnMet': WHATEVER THE INPUT: true; the input reads as it did. -/
def fnMetSpec : ChangeSpec := { name := "fnMet", fn := fun _ => fun
  | [d1, d2] => { results := [.lit (.bool true)], args := [d1, d2] }
  | _ => none }
def fnMetRow : OpenClaim := { program := "ytpjbemdbbjjblaa", sum := "bf6e99eca1f427da5d906dfb69a5f3c36a54df9aaba45a63465bc1591cda6e7f", func := "loop.example/g00605/laws.FnMet", spec := "fnMet", apart := false }
def FnMetSaid : Prop := fnMetRow.holds Try.pinned (OpenSpec.ofChange fnMetSpec)

/-- ITS FALSE NEIGHBOUR: 'it returns false'. Refute it at one input. -/
def fnMetWrong : ChangeSpec := { name := "fnMet", fn := fun _ => fun
  | [d1, d2] => { results := [.lit (.bool false)], args := [d1, d2] }
  | _ => none }
def FnMetWrongFalsely : Prop := fnMetRow.holds Try.pinned (OpenSpec.ofChange fnMetWrong)

/- THE SECOND FORM. 'bulk': how many values and letters a reading holds, each counted each time it is reached (what is shared counts as often as it is met; a slice's spare places count too). A statement '..UptoSaid' is the law's where the arguments, and the package variables that the reading takes, are together of bulk at most 1048576: NARROWER than '..Said'. Prove '..Said' where nothing that the law and all that it calls make is longer than what came in: it says more and counts as full. Else prove '..UptoSaid'. A law counts once. -/
mutual
def uptoBulk {H : Type} : DataW H → Nat
  | .lit (.string bytes) => bytes.length + 1
  | .lit _ => 1
  | .nil => 1
  | .ptr d => uptoBulk d + 1
  | .slice elems spare => uptoBulkAll elems + uptoBulkAll spare + 1
  | .agg parts => uptoBulkAll parts + 1
  | .iface _ d => uptoBulk d + 1
  | .map entries => uptoBulkEntries entries + 1
  | .held _ => 1
def uptoBulkAll {H : Type} : List (DataW H) → Nat
  | [] => 0
  | d :: r => uptoBulk d + uptoBulkAll r
def uptoBulkEntries {H : Type} : List (Lit × DataW H) → Nat
  | [] => 0
  | x :: r => uptoBulkEntry x + uptoBulkEntries r
def uptoBulkEntry {H : Type} : Lit × DataW H → Nat
  | (.string bytes, d) => bytes.length + uptoBulk d + 1
  | (_, d) => uptoBulk d + 1
 end
def uptoSmall : (H : Type) → List (DataW H) → Bool := fun _ ds => decide (uptoBulkAll ds ≤ 1048576)
def OpenSpec.upto (s : _root_.Go.ChangeSpec) : _root_.Go.OpenSpec := { _root_.Go.OpenSpec.ofChange s with cond := some uptoSmall }

/-- 'laws.FnExactGoodKnown', WHERE WHAT IT READS IS OF BULK AT MOST 1048576: true; the input reads as it did. -/
def fnExactGoodKnownUptoRow : OpenClaim := { program := "ytpjbemdbbjjblaa", sum := "bf6e99eca1f427da5d906dfb69a5f3c36a54df9aaba45a63465bc1591cda6e7f", func := "loop.example/g00605/laws.FnExactGoodKnown", spec := "fnExactGoodKnown", apart := false, narrowed := true }
def FnExactGoodKnownUptoSaid : Prop := fnExactGoodKnownUptoRow.holds Try.pinned (OpenSpec.upto fnExactGoodKnownSpec)

/-- 'laws.FnExactGoodStretch', WHERE WHAT IT READS IS OF BULK AT MOST 1048576: true; the input reads as it did. -/
def fnExactGoodStretchUptoRow : OpenClaim := { program := "ytpjbemdbbjjblaa", sum := "bf6e99eca1f427da5d906dfb69a5f3c36a54df9aaba45a63465bc1591cda6e7f", func := "loop.example/g00605/laws.FnExactGoodStretch", spec := "fnExactGoodStretch", apart := false, narrowed := true }
def FnExactGoodStretchUptoSaid : Prop := fnExactGoodStretchUptoRow.holds Try.pinned (OpenSpec.upto fnExactGoodStretchSpec)

/-- 'laws.FnExactInStretch', WHERE WHAT IT READS IS OF BULK AT MOST 1048576: true; the input reads as it did. -/
def fnExactInStretchUptoRow : OpenClaim := { program := "ytpjbemdbbjjblaa", sum := "bf6e99eca1f427da5d906dfb69a5f3c36a54df9aaba45a63465bc1591cda6e7f", func := "loop.example/g00605/laws.FnExactInStretch", spec := "fnExactInStretch", apart := false, narrowed := true }
def FnExactInStretchUptoSaid : Prop := fnExactInStretchUptoRow.holds Try.pinned (OpenSpec.upto fnExactInStretchSpec)

/-- 'laws.FnExactSizeOf', WHERE WHAT IT READS IS OF BULK AT MOST 1048576: true; the input reads as it did. -/
def fnExactSizeOfUptoRow : OpenClaim := { program := "ytpjbemdbbjjblaa", sum := "bf6e99eca1f427da5d906dfb69a5f3c36a54df9aaba45a63465bc1591cda6e7f", func := "loop.example/g00605/laws.FnExactSizeOf", spec := "fnExactSizeOf", apart := false, narrowed := true }
def FnExactSizeOfUptoSaid : Prop := fnExactSizeOfUptoRow.holds Try.pinned (OpenSpec.upto fnExactSizeOfSpec)

/-- 'laws.FnExactMayBe', WHERE WHAT IT READS IS OF BULK AT MOST 1048576: true; the input reads as it did. -/
def fnExactMayBeUptoRow : OpenClaim := { program := "ytpjbemdbbjjblaa", sum := "bf6e99eca1f427da5d906dfb69a5f3c36a54df9aaba45a63465bc1591cda6e7f", func := "loop.example/g00605/laws.FnExactMayBe", spec := "fnExactMayBe", apart := false, narrowed := true }
def FnExactMayBeUptoSaid : Prop := fnExactMayBeUptoRow.holds Try.pinned (OpenSpec.upto fnExactMayBeSpec)

/-- 'laws.FnExactWithinStretch', WHERE WHAT IT READS IS OF BULK AT MOST 1048576: true; the input reads as it did. -/
def fnExactWithinStretchUptoRow : OpenClaim := { program := "ytpjbemdbbjjblaa", sum := "bf6e99eca1f427da5d906dfb69a5f3c36a54df9aaba45a63465bc1591cda6e7f", func := "loop.example/g00605/laws.FnExactWithinStretch", spec := "fnExactWithinStretch", apart := false, narrowed := true }
def FnExactWithinStretchUptoSaid : Prop := fnExactWithinStretchUptoRow.holds Try.pinned (OpenSpec.upto fnExactWithinStretchSpec)

/-- 'laws.FnExactJoinKnown', WHERE WHAT IT READS IS OF BULK AT MOST 1048576: true; the input reads as it did. -/
def fnExactJoinKnownUptoRow : OpenClaim := { program := "ytpjbemdbbjjblaa", sum := "bf6e99eca1f427da5d906dfb69a5f3c36a54df9aaba45a63465bc1591cda6e7f", func := "loop.example/g00605/laws.FnExactJoinKnown", spec := "fnExactJoinKnown", apart := false, narrowed := true }
def FnExactJoinKnownUptoSaid : Prop := fnExactJoinKnownUptoRow.holds Try.pinned (OpenSpec.upto fnExactJoinKnownSpec)

/-- 'laws.FnExactMeetKnown', WHERE WHAT IT READS IS OF BULK AT MOST 1048576: true; the input reads as it did. -/
def fnExactMeetKnownUptoRow : OpenClaim := { program := "ytpjbemdbbjjblaa", sum := "bf6e99eca1f427da5d906dfb69a5f3c36a54df9aaba45a63465bc1591cda6e7f", func := "loop.example/g00605/laws.FnExactMeetKnown", spec := "fnExactMeetKnown", apart := false, narrowed := true }
def FnExactMeetKnownUptoSaid : Prop := fnExactMeetKnownUptoRow.holds Try.pinned (OpenSpec.upto fnExactMeetKnownSpec)

/-- 'laws.FnExactJoinStretch', WHERE WHAT IT READS IS OF BULK AT MOST 1048576: true; the input reads as it did. -/
def fnExactJoinStretchUptoRow : OpenClaim := { program := "ytpjbemdbbjjblaa", sum := "bf6e99eca1f427da5d906dfb69a5f3c36a54df9aaba45a63465bc1591cda6e7f", func := "loop.example/g00605/laws.FnExactJoinStretch", spec := "fnExactJoinStretch", apart := false, narrowed := true }
def FnExactJoinStretchUptoSaid : Prop := fnExactJoinStretchUptoRow.holds Try.pinned (OpenSpec.upto fnExactJoinStretchSpec)

/-- 'laws.FnExactSplitLess', WHERE WHAT IT READS IS OF BULK AT MOST 1048576: true; the input reads as it did. -/
def fnExactSplitLessUptoRow : OpenClaim := { program := "ytpjbemdbbjjblaa", sum := "bf6e99eca1f427da5d906dfb69a5f3c36a54df9aaba45a63465bc1591cda6e7f", func := "loop.example/g00605/laws.FnExactSplitLess", spec := "fnExactSplitLess", apart := false, narrowed := true }
def FnExactSplitLessUptoSaid : Prop := fnExactSplitLessUptoRow.holds Try.pinned (OpenSpec.upto fnExactSplitLessSpec)

/-- 'laws.FnExactMeetStretch', WHERE WHAT IT READS IS OF BULK AT MOST 1048576: true; the input reads as it did. -/
def fnExactMeetStretchUptoRow : OpenClaim := { program := "ytpjbemdbbjjblaa", sum := "bf6e99eca1f427da5d906dfb69a5f3c36a54df9aaba45a63465bc1591cda6e7f", func := "loop.example/g00605/laws.FnExactMeetStretch", spec := "fnExactMeetStretch", apart := false, narrowed := true }
def FnExactMeetStretchUptoSaid : Prop := fnExactMeetStretchUptoRow.holds Try.pinned (OpenSpec.upto fnExactMeetStretchSpec)

/-- 'laws.FnMet', WHERE WHAT IT READS IS OF BULK AT MOST 1048576: true; the input reads as it did. -/
def fnMetUptoRow : OpenClaim := { program := "ytpjbemdbbjjblaa", sum := "bf6e99eca1f427da5d906dfb69a5f3c36a54df9aaba45a63465bc1591cda6e7f", func := "loop.example/g00605/laws.FnMet", spec := "fnMet", apart := false, narrowed := true }
def FnMetUptoSaid : Prop := fnMetUptoRow.holds Try.pinned (OpenSpec.upto fnMetSpec)

end Rows
end Go.Proofs.Ytpjbemdbbjjblaa

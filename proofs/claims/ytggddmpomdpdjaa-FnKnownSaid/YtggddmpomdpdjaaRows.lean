/-
  No cell of these rows narrows 'for every input' (looked for: loops, veiled, ifaces, maps, wideKeys, modest, calm, conditions, laid).
  DERIVED. THE GIVEN ROWS OF THIS SEAT. 8 by the template 'for every input the law returns true; each argument reads behind the call as it read before'; 0 by the template 'total and deterministic' (their statements: YtggddmpomdpdjaaTotals.lean).
  GIVEN WITH THE SEED: the statements are not yours to turn. If you find one false, say at which input.
  Laid BY PROGRAM, IN A SANDBOX (cutbox-rows.mjs): the forced cells as the released guide's own fill.sh prints them over the translation 5988eed0dbf4fdbd… (all of the seat's roots in one cut). By AI agents, Wed Nov 11 2026. No macro, syntax, notation, axiom, sorry.
-/
import Derived.Test.YtggddmpomdpdjaaChecked
import GoSem.Claim
import GoSem.ClaimJoined
import GoSem.ClaimMapViews
import Derived.JoinedTies
import Derived.KernelRfl
namespace Go.Proofs.Ytggddmpomdpdjaa
/- THE CELL 'sum', in the pinned program and in every row, IS THE sha256 OF THE DUMP (.gsa) THAT YtggddmpomdpdjaaProg.lean LOADS. Nothing in Lean hashes anything: it is a label: what it is worth is what the hold of that sum in a sandbox is worth. -/
noncomputable def Try.pinned : Pinned := { name := "ytggddmpomdpdjaa", sum := "5988eed0dbf4fdbd1ce1b1b957be2b7e12ef679ee3f938af8509e7bb4d0c3a4f", checked := Try.checked }
namespace Rows
def none {H : Type} : Left H := { results := [], args := [] }

/-- 'laws.FnExactWaysOf': WHATEVER THE INPUT: true; the input reads as it did. -/
def fnExactWaysOfSpec : ChangeSpec := { name := "fnExactWaysOf", fn := fun _ => fun
  | [d] => { results := [.lit (.bool true)], args := [d] }
  | _ => none }
def fnExactWaysOfRow : OpenClaim := { program := "ytggddmpomdpdjaa", sum := "5988eed0dbf4fdbd1ce1b1b957be2b7e12ef679ee3f938af8509e7bb4d0c3a4f", func := "loop.example/g00605/laws.FnExactWaysOf", spec := "fnExactWaysOf", apart := false }
def FnExactWaysOfSaid : Prop := fnExactWaysOfRow.holds Try.pinned (OpenSpec.ofChange fnExactWaysOfSpec)

/-- ITS FALSE NEIGHBOUR: 'it returns false'. Refute it at one input. -/
def fnExactWaysOfWrong : ChangeSpec := { name := "fnExactWaysOf", fn := fun _ => fun
  | [d] => { results := [.lit (.bool false)], args := [d] }
  | _ => none }
def FnExactWaysOfWrongFalsely : Prop := fnExactWaysOfRow.holds Try.pinned (OpenSpec.ofChange fnExactWaysOfWrong)

/-- 'laws.FnExactKnownOf': WHATEVER THE INPUT: true; the input reads as it did. -/
def fnExactKnownOfSpec : ChangeSpec := { name := "fnExactKnownOf", fn := fun _ => fun
  | [d] => { results := [.lit (.bool true)], args := [d] }
  | _ => none }
def fnExactKnownOfRow : OpenClaim := { program := "ytggddmpomdpdjaa", sum := "5988eed0dbf4fdbd1ce1b1b957be2b7e12ef679ee3f938af8509e7bb4d0c3a4f", func := "loop.example/g00605/laws.FnExactKnownOf", spec := "fnExactKnownOf", unfollowed := true, recurses := true, apart := false }
def FnExactKnownOfSaid : Prop := fnExactKnownOfRow.holds Try.pinned (OpenSpec.ofChange fnExactKnownOfSpec)

/-- ITS FALSE NEIGHBOUR: 'it returns false'. Refute it at one input. -/
def fnExactKnownOfWrong : ChangeSpec := { name := "fnExactKnownOf", fn := fun _ => fun
  | [d] => { results := [.lit (.bool false)], args := [d] }
  | _ => none }
def FnExactKnownOfWrongFalsely : Prop := fnExactKnownOfRow.holds Try.pinned (OpenSpec.ofChange fnExactKnownOfWrong)

/-- 'laws.FnExactNumberAt': WHATEVER THE INPUT: true; the input reads as it did. -/
def fnExactNumberAtSpec : ChangeSpec := { name := "fnExactNumberAt", fn := fun _ => fun
  | [d1, d2] => { results := [.lit (.bool true)], args := [d1, d2] }
  | _ => none }
def fnExactNumberAtRow : OpenClaim := { program := "ytggddmpomdpdjaa", sum := "5988eed0dbf4fdbd1ce1b1b957be2b7e12ef679ee3f938af8509e7bb4d0c3a4f", func := "loop.example/g00605/laws.FnExactNumberAt", spec := "fnExactNumberAt", apart := false }
def FnExactNumberAtSaid : Prop := fnExactNumberAtRow.holds Try.pinned (OpenSpec.ofChange fnExactNumberAtSpec)

/-- ITS FALSE NEIGHBOUR: 'it returns false'. Refute it at one input. -/
def fnExactNumberAtWrong : ChangeSpec := { name := "fnExactNumberAt", fn := fun _ => fun
  | [d1, d2] => { results := [.lit (.bool false)], args := [d1, d2] }
  | _ => none }
def FnExactNumberAtWrongFalsely : Prop := fnExactNumberAtRow.holds Try.pinned (OpenSpec.ofChange fnExactNumberAtWrong)

/-- 'laws.FnExactDoStretch': WHATEVER THE INPUT: true; the input reads as it did. -/
def fnExactDoStretchSpec : ChangeSpec := { name := "fnExactDoStretch", fn := fun _ => fun
  | [d1, d2, d3] => { results := [.lit (.bool true)], args := [d1, d2, d3] }
  | _ => none }
def fnExactDoStretchRow : OpenClaim := { program := "ytggddmpomdpdjaa", sum := "5988eed0dbf4fdbd1ce1b1b957be2b7e12ef679ee3f938af8509e7bb4d0c3a4f", func := "loop.example/g00605/laws.FnExactDoStretch", spec := "fnExactDoStretch", apart := false }
def FnExactDoStretchSaid : Prop := fnExactDoStretchRow.holds Try.pinned (OpenSpec.ofChange fnExactDoStretchSpec)

/-- ITS FALSE NEIGHBOUR: 'it returns false'. Refute it at one input. -/
def fnExactDoStretchWrong : ChangeSpec := { name := "fnExactDoStretch", fn := fun _ => fun
  | [d1, d2, d3] => { results := [.lit (.bool false)], args := [d1, d2, d3] }
  | _ => none }
def FnExactDoStretchWrongFalsely : Prop := fnExactDoStretchRow.holds Try.pinned (OpenSpec.ofChange fnExactDoStretchWrong)

/-- 'laws.FnExactDoKnown': WHATEVER THE INPUT: true; the input reads as it did. -/
def fnExactDoKnownSpec : ChangeSpec := { name := "fnExactDoKnown", fn := fun _ => fun
  | [d1, d2, d3] => { results := [.lit (.bool true)], args := [d1, d2, d3] }
  | _ => none }
def fnExactDoKnownRow : OpenClaim := { program := "ytggddmpomdpdjaa", sum := "5988eed0dbf4fdbd1ce1b1b957be2b7e12ef679ee3f938af8509e7bb4d0c3a4f", func := "loop.example/g00605/laws.FnExactDoKnown", spec := "fnExactDoKnown", apart := false }
def FnExactDoKnownSaid : Prop := fnExactDoKnownRow.holds Try.pinned (OpenSpec.ofChange fnExactDoKnownSpec)

/-- ITS FALSE NEIGHBOUR: 'it returns false'. Refute it at one input. -/
def fnExactDoKnownWrong : ChangeSpec := { name := "fnExactDoKnown", fn := fun _ => fun
  | [d1, d2, d3] => { results := [.lit (.bool false)], args := [d1, d2, d3] }
  | _ => none }
def FnExactDoKnownWrongFalsely : Prop := fnExactDoKnownRow.holds Try.pinned (OpenSpec.ofChange fnExactDoKnownWrong)

/-- 'laws.FnBits': WHATEVER THE INPUT: true; the input reads as it did. -/
def fnBitsSpec : ChangeSpec := { name := "fnBits", fn := fun _ => fun
  | [d1, d2] => { results := [.lit (.bool true)], args := [d1, d2] }
  | _ => none }
def fnBitsRow : OpenClaim := { program := "ytggddmpomdpdjaa", sum := "5988eed0dbf4fdbd1ce1b1b957be2b7e12ef679ee3f938af8509e7bb4d0c3a4f", func := "loop.example/g00605/laws.FnBits", spec := "fnBits", unfollowed := true, recurses := true, apart := false }
def FnBitsSaid : Prop := fnBitsRow.holds Try.pinned (OpenSpec.ofChange fnBitsSpec)

/-- ITS FALSE NEIGHBOUR: 'it returns false'. Refute it at one input. -/
def fnBitsWrong : ChangeSpec := { name := "fnBits", fn := fun _ => fun
  | [d1, d2] => { results := [.lit (.bool false)], args := [d1, d2] }
  | _ => none }
def FnBitsWrongFalsely : Prop := fnBitsRow.holds Try.pinned (OpenSpec.ofChange fnBitsWrong)

/-- 'laws.FnStretches': WHATEVER THE INPUT: true; the input reads as it did. -/
def fnStretchesSpec : ChangeSpec := { name := "fnStretches", fn := fun _ => fun
  | [d1, d2] => { results := [.lit (.bool true)], args := [d1, d2] }
  | _ => none }
def fnStretchesRow : OpenClaim := { program := "ytggddmpomdpdjaa", sum := "5988eed0dbf4fdbd1ce1b1b957be2b7e12ef679ee3f938af8509e7bb4d0c3a4f", func := "loop.example/g00605/laws.FnStretches", spec := "fnStretches", apart := false }
def FnStretchesSaid : Prop := fnStretchesRow.holds Try.pinned (OpenSpec.ofChange fnStretchesSpec)

/-- ITS FALSE NEIGHBOUR: 'it returns false'. Refute it at one input. -/
def fnStretchesWrong : ChangeSpec := { name := "fnStretches", fn := fun _ => fun
  | [d1, d2] => { results := [.lit (.bool false)], args := [d1, d2] }
  | _ => none }
def FnStretchesWrongFalsely : Prop := fnStretchesRow.holds Try.pinned (OpenSpec.ofChange fnStretchesWrong)

/-- 'laws.FnKnown': WHATEVER THE INPUT: true; the input reads as it did. -/
def fnKnownSpec : ChangeSpec := { name := "fnKnown", fn := fun _ => fun
  | [d1, d2] => { results := [.lit (.bool true)], args := [d1, d2] }
  | _ => none }
def fnKnownRow : OpenClaim := { program := "ytggddmpomdpdjaa", sum := "5988eed0dbf4fdbd1ce1b1b957be2b7e12ef679ee3f938af8509e7bb4d0c3a4f", func := "loop.example/g00605/laws.FnKnown", spec := "fnKnown", apart := false }
def FnKnownSaid : Prop := fnKnownRow.holds Try.pinned (OpenSpec.ofChange fnKnownSpec)

/-- ITS FALSE NEIGHBOUR: 'it returns false'. Refute it at one input. -/
def fnKnownWrong : ChangeSpec := { name := "fnKnown", fn := fun _ => fun
  | [d1, d2] => { results := [.lit (.bool false)], args := [d1, d2] }
  | _ => none }
def FnKnownWrongFalsely : Prop := fnKnownRow.holds Try.pinned (OpenSpec.ofChange fnKnownWrong)

/- THE SECOND FORM. 'bulk': how many values and letters a reading holds, each counted each time it is reached (what is shared counts as often as it is met; a slice's spare places count too). A statement '..UptoSaid' is the law's where the arguments, and the package variables that the reading takes, are together of bulk at most 1048576: NARROWER than '..Said'. Prove '..Said' where nothing that the law and all that it calls make is longer than what came in: it says more and counts as full. Else prove '..UptoSaid'. A law counts once. -/
mutual
def uptoBulk {H : Type} : DataW H → Nat
  | .lit (.string bytes) => bytes.length + 1
  | .lit _ => 1
  | .nil => 1
  | .ptr d => uptoBulk d + 1
  | .slice elems spare => uptoBulkAll elems + uptoBulkAll spare + 1
  | .agg parts => uptoBulkAll parts + 1
  | .iface _ d => uptoBulk d + 1
  | .map entries => uptoBulkEntries entries + 1
  | .held _ => 1
def uptoBulkAll {H : Type} : List (DataW H) → Nat
  | [] => 0
  | d :: r => uptoBulk d + uptoBulkAll r
def uptoBulkEntries {H : Type} : List (Lit × DataW H) → Nat
  | [] => 0
  | x :: r => uptoBulkEntry x + uptoBulkEntries r
def uptoBulkEntry {H : Type} : Lit × DataW H → Nat
  | (.string bytes, d) => bytes.length + uptoBulk d + 1
  | (_, d) => uptoBulk d + 1
 end
def uptoSmall : (H : Type) → List (DataW H) → Bool := fun _ ds => decide (uptoBulkAll ds ≤ 1048576)
def OpenSpec.upto (s : _root_.Go.ChangeSpec) : _root_.Go.OpenSpec := { _root_.Go.OpenSpec.ofChange s with cond := some uptoSmall }

/-- 'laws.FnExactWaysOf', WHERE WHAT IT READS IS OF BULK AT MOST 1048576: true; the input reads as it did. -/
def fnExactWaysOfUptoRow : OpenClaim := { program := "ytggddmpomdpdjaa", sum := "5988eed0dbf4fdbd1ce1b1b957be2b7e12ef679ee3f938af8509e7bb4d0c3a4f", func := "loop.example/g00605/laws.FnExactWaysOf", spec := "fnExactWaysOf", apart := false, narrowed := true }
def FnExactWaysOfUptoSaid : Prop := fnExactWaysOfUptoRow.holds Try.pinned (OpenSpec.upto fnExactWaysOfSpec)

/-- 'laws.FnExactKnownOf', WHERE WHAT IT READS IS OF BULK AT MOST 1048576: true; the input reads as it did. -/
def fnExactKnownOfUptoRow : OpenClaim := { program := "ytggddmpomdpdjaa", sum := "5988eed0dbf4fdbd1ce1b1b957be2b7e12ef679ee3f938af8509e7bb4d0c3a4f", func := "loop.example/g00605/laws.FnExactKnownOf", spec := "fnExactKnownOf", unfollowed := true, recurses := true, apart := false, narrowed := true }
def FnExactKnownOfUptoSaid : Prop := fnExactKnownOfUptoRow.holds Try.pinned (OpenSpec.upto fnExactKnownOfSpec)

/-- 'laws.FnExactNumberAt', WHERE WHAT IT READS IS OF BULK AT MOST 1048576: true; the input reads as it did. -/
def fnExactNumberAtUptoRow : OpenClaim := { program := "ytggddmpomdpdjaa", sum := "5988eed0dbf4fdbd1ce1b1b957be2b7e12ef679ee3f938af8509e7bb4d0c3a4f", func := "loop.example/g00605/laws.FnExactNumberAt", spec := "fnExactNumberAt", apart := false, narrowed := true }
def FnExactNumberAtUptoSaid : Prop := fnExactNumberAtUptoRow.holds Try.pinned (OpenSpec.upto fnExactNumberAtSpec)

/-- 'laws.FnExactDoStretch', WHERE WHAT IT READS IS OF BULK AT MOST 1048576: true; the input reads as it did. -/
def fnExactDoStretchUptoRow : OpenClaim := { program := "ytggddmpomdpdjaa", sum := "5988eed0dbf4fdbd1ce1b1b957be2b7e12ef679ee3f938af8509e7bb4d0c3a4f", func := "loop.example/g00605/laws.FnExactDoStretch", spec := "fnExactDoStretch", apart := false, narrowed := true }
def FnExactDoStretchUptoSaid : Prop := fnExactDoStretchUptoRow.holds Try.pinned (OpenSpec.upto fnExactDoStretchSpec)

/-- 'laws.FnExactDoKnown', WHERE WHAT IT READS IS OF BULK AT MOST 1048576: true; the input reads as it did. -/
def fnExactDoKnownUptoRow : OpenClaim := { program := "ytggddmpomdpdjaa", sum := "5988eed0dbf4fdbd1ce1b1b957be2b7e12ef679ee3f938af8509e7bb4d0c3a4f", func := "loop.example/g00605/laws.FnExactDoKnown", spec := "fnExactDoKnown", apart := false, narrowed := true }
def FnExactDoKnownUptoSaid : Prop := fnExactDoKnownUptoRow.holds Try.pinned (OpenSpec.upto fnExactDoKnownSpec)

/-- 'laws.FnBits', WHERE WHAT IT READS IS OF BULK AT MOST 1048576: true; the input reads as it did. -/
def fnBitsUptoRow : OpenClaim := { program := "ytggddmpomdpdjaa", sum := "5988eed0dbf4fdbd1ce1b1b957be2b7e12ef679ee3f938af8509e7bb4d0c3a4f", func := "loop.example/g00605/laws.FnBits", spec := "fnBits", unfollowed := true, recurses := true, apart := false, narrowed := true }
def FnBitsUptoSaid : Prop := fnBitsUptoRow.holds Try.pinned (OpenSpec.upto fnBitsSpec)

/-- 'laws.FnStretches', WHERE WHAT IT READS IS OF BULK AT MOST 1048576: true; the input reads as it did. -/
def fnStretchesUptoRow : OpenClaim := { program := "ytggddmpomdpdjaa", sum := "5988eed0dbf4fdbd1ce1b1b957be2b7e12ef679ee3f938af8509e7bb4d0c3a4f", func := "loop.example/g00605/laws.FnStretches", spec := "fnStretches", apart := false, narrowed := true }
def FnStretchesUptoSaid : Prop := fnStretchesUptoRow.holds Try.pinned (OpenSpec.upto fnStretchesSpec)

/-- 'laws.FnKnown', WHERE WHAT IT READS IS OF BULK AT MOST 1048576: true; the input reads as it did. -/
def fnKnownUptoRow : OpenClaim := { program := "ytggddmpomdpdjaa", sum := "5988eed0dbf4fdbd1ce1b1b957be2b7e12ef679ee3f938af8509e7bb4d0c3a4f", func := "loop.example/g00605/laws.FnKnown", spec := "fnKnown", apart := false, narrowed := true }
def FnKnownUptoSaid : Prop := fnKnownUptoRow.holds Try.pinned (OpenSpec.upto fnKnownSpec)

end Rows
end Go.Proofs.Ytggddmpomdpdjaa

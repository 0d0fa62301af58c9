/-
  No cell of these rows narrows 'for every input' (looked for: loops, veiled, ifaces, maps, wideKeys, modest, calm, conditions, laid).
  DERIVED. THE GIVEN ROWS OF THIS SEAT. 4 by the template 'for every input the law returns true; each argument reads behind the call as it read before'; 0 by the template 'total and deterministic' (their statements: YtiggikalagohaaaTotals.lean).
  GIVEN WITH THE SEED: the statements are not yours to turn. If you find one false, say at which input.
  Laid BY PROGRAM, IN A SANDBOX (cutbox-rows.mjs): the forced cells as the released guide's own fill.sh prints them over the translation 004bfcc6ebe6219f… (all of the seat's roots in one cut). By AI agents, Wed Nov 11 2026. No macro, syntax, notation, axiom, sorry.
-/
import Derived.Test.YtiggikalagohaaaChecked
import GoSem.Claim
import GoSem.ClaimJoined
import GoSem.ClaimMapViews
import Derived.JoinedTies
import Derived.KernelRfl
namespace Go.Proofs.Ytiggikalagohaaa
/- THE CELL 'sum', in the pinned program and in every row, IS THE sha256 OF THE DUMP (.gsa) THAT YtiggikalagohaaaProg.lean LOADS. Nothing in Lean hashes anything: it is a label: what it is worth is what the hold of that sum in a sandbox is worth. -/
noncomputable def Try.pinned : Pinned := { name := "ytiggikalagohaaa", sum := "004bfcc6ebe6219fb1c8de2f8925b8f7e764969d6be07edc1c057dffbe8ae7e4", checked := Try.checked }
namespace Rows
def none {H : Type} : Left H := { results := [], args := [] }

/-- 'arbourlaw13.MergeSlack': WHATEVER THE INPUT: true; the input reads as it did. -/
def mergeSlackSpec : ChangeSpec := { name := "mergeSlack", fn := fun _ => fun
  | [d1, d2, d3, d4] => { results := [.lit (.bool true)], args := [d1, d2, d3, d4] }
  | _ => none }
def mergeSlackRow : OpenClaim := { program := "ytiggikalagohaaa", sum := "004bfcc6ebe6219fb1c8de2f8925b8f7e764969d6be07edc1c057dffbe8ae7e4", func := "arbour/arbourlaw13.MergeSlack", spec := "mergeSlack", unfollowed := true, recurses := true, apart := false }
def MergeSlackSaid : Prop := mergeSlackRow.holds Try.pinned (OpenSpec.ofChange mergeSlackSpec)

/-- ITS FALSE NEIGHBOUR: 'it returns false'. Refute it at one input. -/
def mergeSlackWrong : ChangeSpec := { name := "mergeSlack", fn := fun _ => fun
  | [d1, d2, d3, d4] => { results := [.lit (.bool false)], args := [d1, d2, d3, d4] }
  | _ => none }
def MergeSlackWrongFalsely : Prop := mergeSlackRow.holds Try.pinned (OpenSpec.ofChange mergeSlackWrong)

/-- 'arbourlaw13.MergeThree': WHATEVER THE INPUT: true; the input reads as it did. -/
def mergeThreeSpec : ChangeSpec := { name := "mergeThree", fn := fun _ => fun
  | [d1, d2, d3, d4, d5] => { results := [.lit (.bool true)], args := [d1, d2, d3, d4, d5] }
  | _ => none }
def mergeThreeRow : OpenClaim := { program := "ytiggikalagohaaa", sum := "004bfcc6ebe6219fb1c8de2f8925b8f7e764969d6be07edc1c057dffbe8ae7e4", func := "arbour/arbourlaw13.MergeThree", spec := "mergeThree", unfollowed := true, recurses := true, apart := false }
def MergeThreeSaid : Prop := mergeThreeRow.holds Try.pinned (OpenSpec.ofChange mergeThreeSpec)

/-- ITS FALSE NEIGHBOUR: 'it returns false'. Refute it at one input. -/
def mergeThreeWrong : ChangeSpec := { name := "mergeThree", fn := fun _ => fun
  | [d1, d2, d3, d4, d5] => { results := [.lit (.bool false)], args := [d1, d2, d3, d4, d5] }
  | _ => none }
def MergeThreeWrongFalsely : Prop := mergeThreeRow.holds Try.pinned (OpenSpec.ofChange mergeThreeWrong)

/-- 'arbourlaw13.MergeTurns': WHATEVER THE INPUT: true; the input reads as it did. -/
def mergeTurnsSpec : ChangeSpec := { name := "mergeTurns", fn := fun _ => fun
  | [d1, d2] => { results := [.lit (.bool true)], args := [d1, d2] }
  | _ => none }
def mergeTurnsRow : OpenClaim := { program := "ytiggikalagohaaa", sum := "004bfcc6ebe6219fb1c8de2f8925b8f7e764969d6be07edc1c057dffbe8ae7e4", func := "arbour/arbourlaw13.MergeTurns", spec := "mergeTurns", unfollowed := true, recurses := true, apart := false }
def MergeTurnsSaid : Prop := mergeTurnsRow.holds Try.pinned (OpenSpec.ofChange mergeTurnsSpec)

/-- ITS FALSE NEIGHBOUR: 'it returns false'. Refute it at one input. -/
def mergeTurnsWrong : ChangeSpec := { name := "mergeTurns", fn := fun _ => fun
  | [d1, d2] => { results := [.lit (.bool false)], args := [d1, d2] }
  | _ => none }
def MergeTurnsWrongFalsely : Prop := mergeTurnsRow.holds Try.pinned (OpenSpec.ofChange mergeTurnsWrong)

/-- 'arbourlaw13.MergeZero': WHATEVER THE INPUT: true; the input reads as it did. -/
def mergeZeroSpec : ChangeSpec := { name := "mergeZero", fn := fun _ => fun
  | [d1, d2] => { results := [.lit (.bool true)], args := [d1, d2] }
  | _ => none }
def mergeZeroRow : OpenClaim := { program := "ytiggikalagohaaa", sum := "004bfcc6ebe6219fb1c8de2f8925b8f7e764969d6be07edc1c057dffbe8ae7e4", func := "arbour/arbourlaw13.MergeZero", spec := "mergeZero", unfollowed := true, recurses := true, apart := false }
def MergeZeroSaid : Prop := mergeZeroRow.holds Try.pinned (OpenSpec.ofChange mergeZeroSpec)

/-- ITS FALSE NEIGHBOUR: 'it returns false'. Refute it at one input. -/
def mergeZeroWrong : ChangeSpec := { name := "mergeZero", fn := fun _ => fun
  | [d1, d2] => { results := [.lit (.bool false)], args := [d1, d2] }
  | _ => none }
def MergeZeroWrongFalsely : Prop := mergeZeroRow.holds Try.pinned (OpenSpec.ofChange mergeZeroWrong)

/- THE SECOND FORM. 'bulk': how many values and letters a reading holds, each counted each time it is reached (what is shared counts as often as it is met; a slice's spare places count too). A statement '..UptoSaid' is the law's where the arguments, and the package variables that the reading takes, are together of bulk at most 1048576: NARROWER than '..Said'. Prove '..Said' where nothing that the law and all that it calls make is longer than what came in: it says more and counts as full. Else prove '..UptoSaid'. A law counts once. -/
mutual
def uptoBulk {H : Type} : DataW H → Nat
  | .lit (.string bytes) => bytes.length + 1
  | .lit _ => 1
  | .nil => 1
  | .ptr d => uptoBulk d + 1
  | .slice elems spare => uptoBulkAll elems + uptoBulkAll spare + 1
  | .agg parts => uptoBulkAll parts + 1
  | .iface _ d => uptoBulk d + 1
  | .map entries => uptoBulkEntries entries + 1
  | .held _ => 1
def uptoBulkAll {H : Type} : List (DataW H) → Nat
  | [] => 0
  | d :: r => uptoBulk d + uptoBulkAll r
def uptoBulkEntries {H : Type} : List (Lit × DataW H) → Nat
  | [] => 0
  | x :: r => uptoBulkEntry x + uptoBulkEntries r
def uptoBulkEntry {H : Type} : Lit × DataW H → Nat
  | (.string bytes, d) => bytes.length + uptoBulk d + 1
  | (_, d) => uptoBulk d + 1
 end
def uptoSmall : (H : Type) → List (DataW H) → Bool := fun _ ds => decide (uptoBulkAll ds ≤ 1048576)
def OpenSpec.upto (s : _root_.Go.ChangeSpec) : _root_.Go.OpenSpec := { _root_.Go.OpenSpec.ofChange s with cond := some uptoSmall }

/-- 'arbourlaw13.MergeSlack', WHERE WHAT IT READS IS OF BULK AT MOST 1048576: true; the input reads as it did. -/
def mergeSlackUptoRow : OpenClaim := { program := "ytiggikalagohaaa", sum := "004bfcc6ebe6219fb1c8de2f8925b8f7e764969d6be07edc1c057dffbe8ae7e4", func := "arbour/arbourlaw13.MergeSlack", spec := "mergeSlack", unfollowed := true, recurses := true, apart := false, narrowed := true }
def MergeSlackUptoSaid : Prop := mergeSlackUptoRow.holds Try.pinned (OpenSpec.upto mergeSlackSpec)

/-- 'arbourlaw13.MergeThree', WHERE WHAT IT READS IS OF BULK AT MOST 1048576: true; the input reads as it did. -/
def mergeThreeUptoRow : OpenClaim := { program := "ytiggikalagohaaa", sum := "004bfcc6ebe6219fb1c8de2f8925b8f7e764969d6be07edc1c057dffbe8ae7e4", func := "arbour/arbourlaw13.MergeThree", spec := "mergeThree", unfollowed := true, recurses := true, apart := false, narrowed := true }
def MergeThreeUptoSaid : Prop := mergeThreeUptoRow.holds Try.pinned (OpenSpec.upto mergeThreeSpec)

/-- 'arbourlaw13.MergeTurns', WHERE WHAT IT READS IS OF BULK AT MOST 1048576: true; the input reads as it did. -/
def mergeTurnsUptoRow : OpenClaim := { program := "ytiggikalagohaaa", sum := "004bfcc6ebe6219fb1c8de2f8925b8f7e764969d6be07edc1c057dffbe8ae7e4", func := "arbour/arbourlaw13.MergeTurns", spec := "mergeTurns", unfollowed := true, recurses := true, apart := false, narrowed := true }
def MergeTurnsUptoSaid : Prop := mergeTurnsUptoRow.holds Try.pinned (OpenSpec.upto mergeTurnsSpec)

/-- 'arbourlaw13.MergeZero', WHERE WHAT IT READS IS OF BULK AT MOST 1048576: true; the input reads as it did. -/
def mergeZeroUptoRow : OpenClaim := { program := "ytiggikalagohaaa", sum := "004bfcc6ebe6219fb1c8de2f8925b8f7e764969d6be07edc1c057dffbe8ae7e4", func := "arbour/arbourlaw13.MergeZero", spec := "mergeZero", unfollowed := true, recurses := true, apart := false, narrowed := true }
def MergeZeroUptoSaid : Prop := mergeZeroUptoRow.holds Try.pinned (OpenSpec.upto mergeZeroSpec)

end Rows
end Go.Proofs.Ytiggikalagohaaa

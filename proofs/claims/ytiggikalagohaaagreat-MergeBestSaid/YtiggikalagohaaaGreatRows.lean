/-
  No cell of these rows narrows 'for every input' (looked for: loops, veiled, ifaces, maps, wideKeys, modest, calm, conditions, laid).
  DERIVED. THE GIVEN ROWS OF THIS SEAT. 3 by the template 'for every input the law returns true; each argument reads behind the call as it read before'; 0 by the template 'total and deterministic' (their statements: YtiggikalagohaaaGreatTotals.lean).
  GIVEN WITH THE SEED: the statements are not yours to turn. If you find one false, say at which input.
  Laid BY PROGRAM, IN A SANDBOX (cutbox-rows.mjs): the forced cells as the released guide's own fill.sh prints them over the translation 86f4ebeb72fe7e86… (all of the seat's roots in one cut). By AI agents, Wed Nov 11 2026. No macro, syntax, notation, axiom, sorry.
-/
import Derived.Test.YtiggikalagohaaaGreatChecked
import GoSem.Claim
import GoSem.ClaimJoined
import GoSem.ClaimMapViews
import Derived.JoinedTies
import Derived.KernelRfl
namespace Go.Proofs.YtiggikalagohaaaGreat
/- THE CELL 'sum', in the pinned program and in every row, IS THE sha256 OF THE DUMP (.gsa) THAT YtiggikalagohaaaGreatProg.lean LOADS. Nothing in Lean hashes anything: it is a label: what it is worth is what the hold of that sum in a sandbox is worth. -/
noncomputable def Tryz.pinned : Pinned := { name := "ytiggikalagohaaagreat", sum := "86f4ebeb72fe7e86a39bc60e93b8835dc7d3e26329ba3ffd2a92a5f65958a3fd", checked := Tryz.checked }
namespace Rows
def none {H : Type} : Left H := { results := [], args := [] }

/-- 'arbourlaw13.MergeTells': WHATEVER THE INPUT: true; the input reads as it did. -/
def mergeTellsSpec : ChangeSpec := { name := "mergeTells", fn := fun _ => fun
  | [d1, d2, d3] => { results := [.lit (.bool true)], args := [d1, d2, d3] }
  | _ => none }
def mergeTellsRow : OpenClaim := { program := "ytiggikalagohaaagreat", sum := "86f4ebeb72fe7e86a39bc60e93b8835dc7d3e26329ba3ffd2a92a5f65958a3fd", func := "arbour/arbourlaw13.MergeTells", spec := "mergeTells", unfollowed := true, recurses := true, apart := false }
def MergeTellsSaid : Prop := mergeTellsRow.holds Tryz.pinned (OpenSpec.ofChange mergeTellsSpec)

/-- ITS FALSE NEIGHBOUR: 'it returns false'. Refute it at one input. -/
def mergeTellsWrong : ChangeSpec := { name := "mergeTells", fn := fun _ => fun
  | [d1, d2, d3] => { results := [.lit (.bool false)], args := [d1, d2, d3] }
  | _ => none }
def MergeTellsWrongFalsely : Prop := mergeTellsRow.holds Tryz.pinned (OpenSpec.ofChange mergeTellsWrong)

/-- 'arbourlaw13.MergePerfect': WHATEVER THE INPUT: true; the input reads as it did. -/
def mergePerfectSpec : ChangeSpec := { name := "mergePerfect", fn := fun _ => fun
  | [d1, d2, d3] => { results := [.lit (.bool true)], args := [d1, d2, d3] }
  | _ => none }
def mergePerfectRow : OpenClaim := { program := "ytiggikalagohaaagreat", sum := "86f4ebeb72fe7e86a39bc60e93b8835dc7d3e26329ba3ffd2a92a5f65958a3fd", func := "arbour/arbourlaw13.MergePerfect", spec := "mergePerfect", unfollowed := true, recurses := true, apart := false }
def MergePerfectSaid : Prop := mergePerfectRow.holds Tryz.pinned (OpenSpec.ofChange mergePerfectSpec)

/-- ITS FALSE NEIGHBOUR: 'it returns false'. Refute it at one input. -/
def mergePerfectWrong : ChangeSpec := { name := "mergePerfect", fn := fun _ => fun
  | [d1, d2, d3] => { results := [.lit (.bool false)], args := [d1, d2, d3] }
  | _ => none }
def MergePerfectWrongFalsely : Prop := mergePerfectRow.holds Tryz.pinned (OpenSpec.ofChange mergePerfectWrong)

/-- 'arbourlaw13.MergeBest': WHATEVER THE INPUT: true; the input reads as it did. -/
def mergeBestSpec : ChangeSpec := { name := "mergeBest", fn := fun _ => fun
  | [d1, d2] => { results := [.lit (.bool true)], args := [d1, d2] }
  | _ => none }
def mergeBestRow : OpenClaim := { program := "ytiggikalagohaaagreat", sum := "86f4ebeb72fe7e86a39bc60e93b8835dc7d3e26329ba3ffd2a92a5f65958a3fd", func := "arbour/arbourlaw13.MergeBest", spec := "mergeBest", unfollowed := true, recurses := true, apart := false }
def MergeBestSaid : Prop := mergeBestRow.holds Tryz.pinned (OpenSpec.ofChange mergeBestSpec)

/-- ITS FALSE NEIGHBOUR: 'it returns false'. Refute it at one input. -/
def mergeBestWrong : ChangeSpec := { name := "mergeBest", fn := fun _ => fun
  | [d1, d2] => { results := [.lit (.bool false)], args := [d1, d2] }
  | _ => none }
def MergeBestWrongFalsely : Prop := mergeBestRow.holds Tryz.pinned (OpenSpec.ofChange mergeBestWrong)

/- THE SECOND FORM. 'bulk': how many values and letters a reading holds, each counted each time it is reached (what is shared counts as often as it is met; a slice's spare places count too). A statement '..UptoSaid' is the law's where the arguments, and the package variables that the reading takes, are together of bulk at most 1048576: NARROWER than '..Said'. Prove '..Said' where nothing that the law and all that it calls make is longer than what came in: it says more and counts as full. Else prove '..UptoSaid'. A law counts once. -/
mutual
def uptoBulk {H : Type} : DataW H → Nat
  | .lit (.string bytes) => bytes.length + 1
  | .lit _ => 1
  | .nil => 1
  | .ptr d => uptoBulk d + 1
  | .slice elems spare => uptoBulkAll elems + uptoBulkAll spare + 1
  | .agg parts => uptoBulkAll parts + 1
  | .iface _ d => uptoBulk d + 1
  | .map entries => uptoBulkEntries entries + 1
  | .held _ => 1
def uptoBulkAll {H : Type} : List (DataW H) → Nat
  | [] => 0
  | d :: r => uptoBulk d + uptoBulkAll r
def uptoBulkEntries {H : Type} : List (Lit × DataW H) → Nat
  | [] => 0
  | x :: r => uptoBulkEntry x + uptoBulkEntries r
def uptoBulkEntry {H : Type} : Lit × DataW H → Nat
  | (.string bytes, d) => bytes.length + uptoBulk d + 1
  | (_, d) => uptoBulk d + 1
 end
def uptoSmall : (H : Type) → List (DataW H) → Bool := fun _ ds => decide (uptoBulkAll ds ≤ 1048576)
def OpenSpec.upto (s : _root_.Go.ChangeSpec) : _root_.Go.OpenSpec := { _root_.Go.OpenSpec.ofChange s with cond := some uptoSmall }

/-- 'arbourlaw13.MergeTells', WHERE WHAT IT READS IS OF BULK AT MOST 1048576: true; the input reads as it did. -/
def mergeTellsUptoRow : OpenClaim := { program := "ytiggikalagohaaagreat", sum := "86f4ebeb72fe7e86a39bc60e93b8835dc7d3e26329ba3ffd2a92a5f65958a3fd", func := "arbour/arbourlaw13.MergeTells", spec := "mergeTells", unfollowed := true, recurses := true, apart := false, narrowed := true }
def MergeTellsUptoSaid : Prop := mergeTellsUptoRow.holds Tryz.pinned (OpenSpec.upto mergeTellsSpec)

/-- 'arbourlaw13.MergePerfect', WHERE WHAT IT READS IS OF BULK AT MOST 1048576: true; the input reads as it did. -/
def mergePerfectUptoRow : OpenClaim := { program := "ytiggikalagohaaagreat", sum := "86f4ebeb72fe7e86a39bc60e93b8835dc7d3e26329ba3ffd2a92a5f65958a3fd", func := "arbour/arbourlaw13.MergePerfect", spec := "mergePerfect", unfollowed := true, recurses := true, apart := false, narrowed := true }
def MergePerfectUptoSaid : Prop := mergePerfectUptoRow.holds Tryz.pinned (OpenSpec.upto mergePerfectSpec)

/-- 'arbourlaw13.MergeBest', WHERE WHAT IT READS IS OF BULK AT MOST 1048576: true; the input reads as it did. -/
def mergeBestUptoRow : OpenClaim := { program := "ytiggikalagohaaagreat", sum := "86f4ebeb72fe7e86a39bc60e93b8835dc7d3e26329ba3ffd2a92a5f65958a3fd", func := "arbour/arbourlaw13.MergeBest", spec := "mergeBest", unfollowed := true, recurses := true, apart := false, narrowed := true }
def MergeBestUptoSaid : Prop := mergeBestUptoRow.holds Tryz.pinned (OpenSpec.upto mergeBestSpec)

end Rows
end Go.Proofs.YtiggikalagohaaaGreat

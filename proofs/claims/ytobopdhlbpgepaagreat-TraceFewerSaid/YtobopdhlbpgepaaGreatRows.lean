/-
  NARROWER THAN 'FOR EVERY INPUT', by the rows' own cells (each row's printed sentence says how): TraceSafe: loops · TraceFewer: loops · TraceNone: loops · FloodNil: loops.
  DERIVED. THE GIVEN ROWS OF THIS SEAT. 4 by the template 'for every input the law returns true; each argument reads behind the call as it read before'; 0 by the template 'total and deterministic' (their statements: YtobopdhlbpgepaaGreatTotals.lean).
  GIVEN WITH THE SEED: the statements are not yours to turn. If you find one false, say at which input.
  Laid BY PROGRAM, IN A SANDBOX (cutbox-rows.mjs): the forced cells as the released guide's own fill.sh prints them over the translation 29cfbd6556311ab8… (all of the seat's roots in one cut). By AI agents, Wed Nov 11 2026. No macro, syntax, notation, axiom, sorry.
-/
import Derived.Test.YtobopdhlbpgepaaGreatChecked
import GoSem.Claim
import GoSem.ClaimJoined
import GoSem.ClaimMapViews
import Derived.JoinedTies
import Derived.KernelRfl
namespace Go.Proofs.YtobopdhlbpgepaaGreat
/- THE CELL 'sum', in the pinned program and in every row, IS THE sha256 OF THE DUMP (.gsa) THAT YtobopdhlbpgepaaGreatProg.lean LOADS. Nothing in Lean hashes anything: it is a label: what it is worth is what the hold of that sum in a sandbox is worth. -/
noncomputable def Tryz.pinned : Pinned := { name := "ytobopdhlbpgepaagreat", sum := "29cfbd6556311ab8f8d819777ef88d1df92fb2fc5de8d9bcaaa0a3ac4195523a", checked := Tryz.checked }
namespace Rows
def none {H : Type} : Left H := { results := [], args := [] }

/-- 'arbourlaw22.TraceSafe': WHATEVER THE INPUT: true; the input reads as it did. -/
def traceSafeSpec : ChangeSpec := { name := "traceSafe", fn := fun _ => fun
  | [d1, d2, d3] => { results := [.lit (.bool true)], args := [d1, d2, d3] }
  | _ => none }
def traceSafeRow : OpenClaim := { program := "ytobopdhlbpgepaagreat", sum := "29cfbd6556311ab8f8d819777ef88d1df92fb2fc5de8d9bcaaa0a3ac4195523a", func := "arbour/arbourlaw22.TraceSafe", spec := "traceSafe", unfollowed := true, recurses := true, loops := true, plainKeys := false, apart := false }
def TraceSafeSaid : Prop := traceSafeRow.holds Tryz.pinned (OpenSpec.ofChange traceSafeSpec)

/-- ITS FALSE NEIGHBOUR: 'it returns false'. Refute it at one input. -/
def traceSafeWrong : ChangeSpec := { name := "traceSafe", fn := fun _ => fun
  | [d1, d2, d3] => { results := [.lit (.bool false)], args := [d1, d2, d3] }
  | _ => none }
def TraceSafeWrongFalsely : Prop := traceSafeRow.holds Tryz.pinned (OpenSpec.ofChange traceSafeWrong)

/-- 'arbourlaw22.TraceFewer': WHATEVER THE INPUT: true; the input reads as it did. -/
def traceFewerSpec : ChangeSpec := { name := "traceFewer", fn := fun _ => fun
  | [d1, d2, d3, d4, d5] => { results := [.lit (.bool true)], args := [d1, d2, d3, d4, d5] }
  | _ => none }
def traceFewerRow : OpenClaim := { program := "ytobopdhlbpgepaagreat", sum := "29cfbd6556311ab8f8d819777ef88d1df92fb2fc5de8d9bcaaa0a3ac4195523a", func := "arbour/arbourlaw22.TraceFewer", spec := "traceFewer", unfollowed := true, recurses := true, loops := true, plainKeys := false, apart := false }
def TraceFewerSaid : Prop := traceFewerRow.holds Tryz.pinned (OpenSpec.ofChange traceFewerSpec)

/-- ITS FALSE NEIGHBOUR: 'it returns false'. Refute it at one input. -/
def traceFewerWrong : ChangeSpec := { name := "traceFewer", fn := fun _ => fun
  | [d1, d2, d3, d4, d5] => { results := [.lit (.bool false)], args := [d1, d2, d3, d4, d5] }
  | _ => none }
def TraceFewerWrongFalsely : Prop := traceFewerRow.holds Tryz.pinned (OpenSpec.ofChange traceFewerWrong)

/-- 'arbourlaw22.TraceNone': WHATEVER THE INPUT: true; the input reads as it did. -/
def traceNoneSpec : ChangeSpec := { name := "traceNone", fn := fun _ => fun
  | [d1, d2] => { results := [.lit (.bool true)], args := [d1, d2] }
  | _ => none }
def traceNoneRow : OpenClaim := { program := "ytobopdhlbpgepaagreat", sum := "29cfbd6556311ab8f8d819777ef88d1df92fb2fc5de8d9bcaaa0a3ac4195523a", func := "arbour/arbourlaw22.TraceNone", spec := "traceNone", unfollowed := true, recurses := true, loops := true, plainKeys := false, apart := false }
def TraceNoneSaid : Prop := traceNoneRow.holds Tryz.pinned (OpenSpec.ofChange traceNoneSpec)

/-- ITS FALSE NEIGHBOUR: 'it returns false'. Refute it at one input. -/
def traceNoneWrong : ChangeSpec := { name := "traceNone", fn := fun _ => fun
  | [d1, d2] => { results := [.lit (.bool false)], args := [d1, d2] }
  | _ => none }
def TraceNoneWrongFalsely : Prop := traceNoneRow.holds Tryz.pinned (OpenSpec.ofChange traceNoneWrong)

/-- 'arbourlaw21.FloodNil': WHATEVER THE INPUT: true; the input reads as it did. -/
def floodNilSpec : ChangeSpec := { name := "floodNil", fn := fun _ => fun
  | [d] => { results := [.lit (.bool true)], args := [d] }
  | _ => none }
def floodNilRow : OpenClaim := { program := "ytobopdhlbpgepaagreat", sum := "29cfbd6556311ab8f8d819777ef88d1df92fb2fc5de8d9bcaaa0a3ac4195523a", func := "arbour/arbourlaw21.FloodNil", spec := "floodNil", inPlace := ["internal/abi.NoEscape", "sync/atomic.AddInt64", "sync/atomic.LoadInt64"], unfollowed := true, recurses := true, loops := true, plainKeys := false, apart := false }
def FloodNilSaid : Prop := floodNilRow.holds Tryz.pinned (OpenSpec.ofChange floodNilSpec)

/-- ITS FALSE NEIGHBOUR: 'it returns false'. Refute it at one input. -/
def floodNilWrong : ChangeSpec := { name := "floodNil", fn := fun _ => fun
  | [d] => { results := [.lit (.bool false)], args := [d] }
  | _ => none }
def FloodNilWrongFalsely : Prop := floodNilRow.holds Tryz.pinned (OpenSpec.ofChange floodNilWrong)

/- THE SECOND FORM. 'bulk': how many values and letters a reading holds, each counted each time it is reached (what is shared counts as often as it is met; a slice's spare places count too). A statement '..UptoSaid' is the law's where the arguments, and the package variables that the reading takes, are together of bulk at most 1048576: NARROWER than '..Said'. Prove '..Said' where nothing that the law and all that it calls make is longer than what came in: it says more and counts as full. Else prove '..UptoSaid'. A law counts once. -/
mutual
def uptoBulk {H : Type} : DataW H → Nat
  | .lit (.string bytes) => bytes.length + 1
  | .lit _ => 1
  | .nil => 1
  | .ptr d => uptoBulk d + 1
  | .slice elems spare => uptoBulkAll elems + uptoBulkAll spare + 1
  | .agg parts => uptoBulkAll parts + 1
  | .iface _ d => uptoBulk d + 1
  | .map entries => uptoBulkEntries entries + 1
  | .held _ => 1
def uptoBulkAll {H : Type} : List (DataW H) → Nat
  | [] => 0
  | d :: r => uptoBulk d + uptoBulkAll r
def uptoBulkEntries {H : Type} : List (Lit × DataW H) → Nat
  | [] => 0
  | x :: r => uptoBulkEntry x + uptoBulkEntries r
def uptoBulkEntry {H : Type} : Lit × DataW H → Nat
  | (.string bytes, d) => bytes.length + uptoBulk d + 1
  | (_, d) => uptoBulk d + 1
 end
def uptoSmall : (H : Type) → List (DataW H) → Bool := fun _ ds => decide (uptoBulkAll ds ≤ 1048576)
def OpenSpec.upto (s : _root_.Go.ChangeSpec) : _root_.Go.OpenSpec := { _root_.Go.OpenSpec.ofChange s with cond := some uptoSmall }

/-- 'arbourlaw22.TraceSafe', WHERE WHAT IT READS IS OF BULK AT MOST 1048576: true; the input reads as it did. -/
def traceSafeUptoRow : OpenClaim := { program := "ytobopdhlbpgepaagreat", sum := "29cfbd6556311ab8f8d819777ef88d1df92fb2fc5de8d9bcaaa0a3ac4195523a", func := "arbour/arbourlaw22.TraceSafe", spec := "traceSafe", unfollowed := true, recurses := true, loops := true, plainKeys := false, apart := false, narrowed := true }
def TraceSafeUptoSaid : Prop := traceSafeUptoRow.holds Tryz.pinned (OpenSpec.upto traceSafeSpec)

/-- 'arbourlaw22.TraceFewer', WHERE WHAT IT READS IS OF BULK AT MOST 1048576: true; the input reads as it did. -/
def traceFewerUptoRow : OpenClaim := { program := "ytobopdhlbpgepaagreat", sum := "29cfbd6556311ab8f8d819777ef88d1df92fb2fc5de8d9bcaaa0a3ac4195523a", func := "arbour/arbourlaw22.TraceFewer", spec := "traceFewer", unfollowed := true, recurses := true, loops := true, plainKeys := false, apart := false, narrowed := true }
def TraceFewerUptoSaid : Prop := traceFewerUptoRow.holds Tryz.pinned (OpenSpec.upto traceFewerSpec)

/-- 'arbourlaw22.TraceNone', WHERE WHAT IT READS IS OF BULK AT MOST 1048576: true; the input reads as it did. -/
def traceNoneUptoRow : OpenClaim := { program := "ytobopdhlbpgepaagreat", sum := "29cfbd6556311ab8f8d819777ef88d1df92fb2fc5de8d9bcaaa0a3ac4195523a", func := "arbour/arbourlaw22.TraceNone", spec := "traceNone", unfollowed := true, recurses := true, loops := true, plainKeys := false, apart := false, narrowed := true }
def TraceNoneUptoSaid : Prop := traceNoneUptoRow.holds Tryz.pinned (OpenSpec.upto traceNoneSpec)

/-- 'arbourlaw21.FloodNil', WHERE WHAT IT READS IS OF BULK AT MOST 1048576: true; the input reads as it did. -/
def floodNilUptoRow : OpenClaim := { program := "ytobopdhlbpgepaagreat", sum := "29cfbd6556311ab8f8d819777ef88d1df92fb2fc5de8d9bcaaa0a3ac4195523a", func := "arbour/arbourlaw21.FloodNil", spec := "floodNil", inPlace := ["internal/abi.NoEscape", "sync/atomic.AddInt64", "sync/atomic.LoadInt64"], unfollowed := true, recurses := true, loops := true, plainKeys := false, apart := false, narrowed := true }
def FloodNilUptoSaid : Prop := floodNilUptoRow.holds Tryz.pinned (OpenSpec.upto floodNilSpec)

end Rows
end Go.Proofs.YtobopdhlbpgepaaGreat

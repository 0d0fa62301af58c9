/-
  WHATEVER THE INPUT, the law answers true, and what came in reads behind the call as it read before. No condition: the statement as it was given.
-/
import Derived.Test.YtngjdhmpcgifbaaGreatRows
import Derived.WalkKit
import Derived.ProofKit
import Derived.OpenShut
import Derived.ShutString
import Derived.ChangeOld
import Derived.Below
import Derived.Carry
import Derived.Test.YtngjdhmpcgifbaaGreatArbA
import Derived.Test.YtngjdhmpcgifbaaGreatArbB
import Derived.Test.YtngjdhmpcgifbaaGreatArbC
import Derived.Test.YtngjdhmpcgifbaaGreatArbD
import Derived.Test.YtngjdhmpcgifbaaGreatArbE
import Derived.Test.YtngjdhmpcgifbaaGreatArbF
import Derived.Test.YtngjdhmpcgifbaaGreatArbG
import Derived.Test.YtngjdhmpcgifbaaGreatArbH
import Derived.Test.YtngjdhmpcgifbaaGreatArbI
import Derived.Test.YtngjdhmpcgifbaaGreatArbJ
import Derived.Test.YtngjdhmpcgifbaaGreatArbK
namespace Go.Proofs.YtngjdhmpcgifbaaGreat
open Go.ChangeShapes Go.WideShapes Go.ChangeAt Go.RowKit

theorem own6 : ownKnob Tryz.prog.godebug = none := by kernel_rfl
theorem laid6 : laidOutB Tryz.prog = true := by kernel_rfl

set_option maxRecDepth 100000 in
theorem lifted6 (os : Os) (started : os.Started) (H : Type) (enc : TypeId × Value → H) :
    ReturnsInHanded {} Tryz.checked os 6 .any (Rows.floodNilSpec.pre6 enc Tryz.prog Tryz.f6 Rows.floodNilRow.domain false) (Rows.floodNilSpec.post enc Tryz.prog Tryz.f6 false true false false) := by
  refine returnsInHanded_of_change (C := Tryz.checked) own6 started (by kernel_rfl) Tryz.func6
    (ChangeSpec.witness6 (enc := enc) (C := Tryz.checked) false ⟨#[], #[.agg #[.int .i64 0, .int .i64 0, .int .i64 0, .int .i64 0, .int .i64 0, .int .i64 0, .int .i64 0, .bool false, .slice none 0 0, .bool false, .slice none 0 0, .slice none 0 0, .int .i64 0, .int .i64 0, .string .empty, .int .i64 0, .int .i64 0, .string .empty, .int .i64 0, .int .i64 0, .string .empty, .int .i64 0, .int .i64 0, .string .empty]], []⟩ 8 (by kernel_rfl) (by kernel_rfl) (by kernel_rfl) (by kernel_rfl)) ?_
  intro W base args ds gs before hval0 hW hcnd _
  have hval : ∀ (j : Nat) t v, Tryz.f6.params[j]? = some t → args[j]? = some v → Value.okWide Tryz.prog W .any base t v := hval0
  have hW' := hW
  obtain ⟨p, q, hA0, hV, rfl, hfz, hnd⟩ := hW
  have hA : DataW.TrodAll enc Tryz.prog W 0 (fun _ => true) true Tryz.f6.params.toList args.toList ds p := hA0
  rw [Tryz.params6] at hA hval
  obtain ⟨v0, vs0, d0, ds0, p0, q0, hargs, rfl, rfl, h0, r0⟩ := trodAll_cons hA
  obtain ⟨rfl, rfl, rfl⟩ := trodAll_nil r0
  obtain rfl : args = #[v0] := by cases args; simp_all
  obtain ⟨rfl, rfl⟩ := trodVars_none hV
  have lt0 : ∀ x ∈ p0, x.block < W.heap.size := by obtain ⟨m, hm⟩ := h0; exact DataW.trod_lt m _ _ _ hm
  obtain ⟨x0, a0, e0⟩ := Arx.arg_read (ν := Arx.Tied.nu) (eT := 65) (agg := true) (ss := Arx.shOp) (by kernel_rfl) (hval 0 67 v0 rfl rfl) h0 (g := Arx.start W) rfl rfl
  refine (Arx.law_true (f := 275) (cargs := #[v0]) (xs := [x0]) Arx.Tied.mixed Arx.Tied.tie1 Arx.Tied.tie2 (.cons e0 .nil) (Arx.floodNil_top a0)).mono fun e W' ⟨he, bel⟩ => ?_
  subst he
  exact ⟨_, rfl, _, _, _, [], _, [], hW', trodAll_mk1 (shut_bool Tryz.underlying4 _), (trodAll_cons_mk (Below.trod laid6 (by kernel_rfl) (of_decide_eq_true (by kernel_rfl)) h0 bel lt0) trodAll_mk0), rfl, bel.frame _, fun h => by cases h⟩

theorem over6 : Rows.floodNilRow.holds Tryz.pinned (OpenSpec.ofChange Rows.floodNilSpec) :=
  OpenClaim.holds_of_wide 6 Tryz.f6 rfl rfl rfl rfl rfl rfl rfl ⟨rfl, rfl, rfl, rfl, rfl⟩ rfl rfl rfl rfl rfl (by kernel_rfl) Tryz.func6 (by kernel_rfl)
    (of_decide_eq_true (by kernel_rfl)) (by unfold Func.isWrapper; first | (rw [if_pos (by decide +kernel)]; kernel_rfl) | (rw [if_neg (by decide +kernel)]; exact ⟨rfl, rfl⟩))
    (fun os started H enc _ => lifted6 os started H enc)

theorem proved : Rows.FloodNilSaid := over6
#print axioms proved
end Go.Proofs.YtngjdhmpcgifbaaGreat

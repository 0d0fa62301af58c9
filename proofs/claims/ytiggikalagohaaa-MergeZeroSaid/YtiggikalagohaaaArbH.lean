/-
  WHATEVER THE INPUT, the law answers true, and what came in reads behind the call as it read before. No condition: the statement as it was given.
-/
import Derived.Test.YtiggikalagohaaaRows
import Derived.WalkKit
import Derived.ProofKit
import Derived.OpenShut
import Derived.ShutString
import Derived.ChangeOld
import Derived.Below
import Derived.Carry
import Derived.Test.YtiggikalagohaaaArbA
import Derived.Test.YtiggikalagohaaaArbB
import Derived.Test.YtiggikalagohaaaArbC
import Derived.Test.YtiggikalagohaaaArbD
import Derived.Test.YtiggikalagohaaaArbE
import Derived.Test.YtiggikalagohaaaArbF
import Derived.Test.YtiggikalagohaaaArbG
namespace Go.Proofs.Ytiggikalagohaaa
open Go.ChangeShapes Go.WideShapes Go.ChangeAt Go.RowKit

theorem own6 : ownKnob Try.prog.godebug = none := by kernel_rfl
theorem laid6 : laidOutB Try.prog = true := by kernel_rfl

set_option maxRecDepth 100000 in
theorem lifted6 (os : Os) (started : os.Started) (H : Type) (enc : TypeId × Value → H) :
    ReturnsInHanded {} Try.checked os 6 .any (Rows.mergeZeroSpec.pre6 enc Try.prog Try.f6 Rows.mergeZeroRow.domain false) (Rows.mergeZeroSpec.post enc Try.prog Try.f6 false true false false) := by
  refine returnsInHanded_of_change (C := Try.checked) own6 started (by kernel_rfl) Try.func6
    (ChangeSpec.witness6 (enc := enc) (C := Try.checked) false ⟨#[], #[.slice none 0 0, .slice none 0 0], []⟩ 8 (by kernel_rfl) (by kernel_rfl) (by kernel_rfl) (by kernel_rfl)) ?_
  intro W base args ds gs before hval0 hW hcnd _
  have hval : ∀ (j : Nat) t v, Try.f6.params[j]? = some t → args[j]? = some v → Value.okWide Try.prog W .any base t v := hval0
  have hW' := hW
  obtain ⟨p, q, hA0, hV, rfl, hfz, hnd⟩ := hW
  have hA : DataW.TrodAll enc Try.prog W 0 (fun _ => true) true Try.f6.params.toList args.toList ds p := hA0
  rw [Try.params6] at hA hval
  obtain ⟨v0, vs0, d0, ds0, p0, q0, hargs, rfl, rfl, h0, r0⟩ := trodAll_cons hA
  obtain ⟨v1, vs1, d1, ds1, p1, q1, rfl, rfl, rfl, h1, r1⟩ := trodAll_cons r0
  obtain ⟨rfl, rfl, rfl⟩ := trodAll_nil r1
  obtain rfl : args = #[v0, v1] := by cases args; simp_all
  obtain ⟨rfl, rfl⟩ := trodVars_none hV
  have lt0 : ∀ x ∈ p0, x.block < W.heap.size := by obtain ⟨m, hm⟩ := h0; exact DataW.trod_lt m _ _ _ hm
  have lt1 : ∀ x ∈ p1, x.block < W.heap.size := by obtain ⟨m, hm⟩ := h1; exact DataW.trod_lt m _ _ _ hm
  obtain ⟨x0, a0, e0⟩ := Arb.arg_read (ν := Arb.Tied.nu) (agg := false) (ss := Arb.shFilter) (by kernel_rfl) (hval 0 22 v0 rfl rfl) h0 (g := Arb.start W) rfl rfl
  obtain ⟨x1, a1, e1⟩ := Arb.arg_read (ν := Arb.Tied.nu) (agg := false) (ss := Arb.shFilter) (by kernel_rfl) (hval 1 22 v1 rfl rfl) h1 (g := Arb.start W) rfl rfl
  refine (Arb.law_true (f := 3) (cargs := #[v0, v1]) (xs := [x0, x1]) Arb.Tied.mixed Arb.Tied.tie (.cons e0 (.cons e1 .nil)) (Arb.mergeZero_law a0 a1)).mono fun e W' ⟨he, bel⟩ => ?_
  subst he
  exact ⟨_, rfl, _, _, _, [], _, [], hW', trodAll_mk1 (shut_bool Try.underlying4 _), (trodAll_cons_mk (Below.trod laid6 (by kernel_rfl) (of_decide_eq_true (by kernel_rfl)) h0 bel lt0) (trodAll_cons_mk (Below.trod laid6 (by kernel_rfl) (of_decide_eq_true (by kernel_rfl)) h1 bel lt1) trodAll_mk0)), rfl, bel.frame _, fun h => by cases h⟩

theorem over6 : Rows.mergeZeroRow.holds Try.pinned (OpenSpec.ofChange Rows.mergeZeroSpec) :=
  OpenClaim.holds_of_wide 6 Try.f6 rfl rfl rfl rfl rfl rfl rfl ⟨rfl, rfl, rfl, rfl, rfl⟩ rfl rfl rfl rfl rfl (by kernel_rfl) Try.func6 (by kernel_rfl)
    (of_decide_eq_true (by kernel_rfl)) (by unfold Func.isWrapper; first | (rw [if_pos (by decide +kernel)]; kernel_rfl) | (rw [if_neg (by decide +kernel)]; exact ⟨rfl, rfl⟩))
    (fun os started H enc _ => lifted6 os started H enc)

theorem proved : Rows.MergeZeroSaid := over6
#print axioms proved
end Go.Proofs.Ytiggikalagohaaa

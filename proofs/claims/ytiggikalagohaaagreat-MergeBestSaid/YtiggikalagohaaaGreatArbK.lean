/-
  WHATEVER THE INPUT, the law answers true, and what came in reads behind the call as it read before. No condition: the statement as it was given.
-/
import Derived.Test.YtiggikalagohaaaGreatRows
import Derived.WalkKit
import Derived.ProofKit
import Derived.OpenShut
import Derived.ShutString
import Derived.ChangeOld
import Derived.Below
import Derived.Carry
import Derived.Test.YtiggikalagohaaaGreatArbA
import Derived.Test.YtiggikalagohaaaGreatArbB
import Derived.Test.YtiggikalagohaaaGreatArbC
import Derived.Test.YtiggikalagohaaaGreatArbD
import Derived.Test.YtiggikalagohaaaGreatArbE
import Derived.Test.YtiggikalagohaaaGreatArbF
import Derived.Test.YtiggikalagohaaaGreatArbG
import Derived.Test.YtiggikalagohaaaGreatArbH
import Derived.Test.YtiggikalagohaaaGreatArbI
import Derived.Test.YtiggikalagohaaaGreatArbJ
namespace Go.Proofs.YtiggikalagohaaaGreat
open Go.ChangeShapes Go.WideShapes Go.ChangeAt Go.RowKit

theorem own5 : ownKnob Tryz.prog.godebug = none := by kernel_rfl
theorem laid5 : laidOutB Tryz.prog = true := by kernel_rfl

set_option maxRecDepth 100000 in
theorem lifted5 (os : Os) (started : os.Started) (H : Type) (enc : TypeId × Value → H) :
    ReturnsInHanded {} Tryz.checked os 5 .any (Rows.mergeBestSpec.pre6 enc Tryz.prog Tryz.f5 Rows.mergeBestRow.domain false) (Rows.mergeBestSpec.post enc Tryz.prog Tryz.f5 false true false false) := by
  refine returnsInHanded_of_change (C := Tryz.checked) own5 started (by kernel_rfl) Tryz.func5
    (ChangeSpec.witness6 (enc := enc) (C := Tryz.checked) false ⟨#[], #[.slice none 0 0, .int .u64 0], []⟩ 8 (by kernel_rfl) (by kernel_rfl) (by kernel_rfl) (by kernel_rfl)) ?_
  intro W base args ds gs before hval0 hW hcnd _
  have hval : ∀ (j : Nat) t v, Tryz.f5.params[j]? = some t → args[j]? = some v → Value.okWide Tryz.prog W .any base t v := hval0
  have hW' := hW
  obtain ⟨p, q, hA0, hV, rfl, hfz, hnd⟩ := hW
  have hA : DataW.TrodAll enc Tryz.prog W 0 (fun _ => true) true Tryz.f5.params.toList args.toList ds p := hA0
  rw [Tryz.params5] at hA hval
  obtain ⟨v0, vs0, d0, ds0, p0, q0, hargs, rfl, rfl, h0, r0⟩ := trodAll_cons hA
  obtain ⟨v1, vs1, d1, ds1, p1, q1, rfl, rfl, rfl, h1, r1⟩ := trodAll_cons r0
  obtain ⟨rfl, rfl, rfl⟩ := trodAll_nil r1
  obtain rfl : args = #[v0, v1] := by cases args; simp_all
  obtain ⟨rfl, rfl⟩ := trodVars_none hV
  have lt0 : ∀ x ∈ p0, x.block < W.heap.size := by obtain ⟨m, hm⟩ := h0; exact DataW.trod_lt m _ _ _ hm
  have lt1 : ∀ x ∈ p1, x.block < W.heap.size := by obtain ⟨m, hm⟩ := h1; exact DataW.trod_lt m _ _ _ hm
  obtain ⟨x0, a0, e0⟩ := Arb.arg_read (ν := Arb.Tied.nu) (agg := false) (ss := [.sl Arb.shEntry]) (by kernel_rfl) (hval 0 45 v0 rfl rfl) h0 (g := Arb.start W) rfl rfl
  obtain ⟨x1, a1, e1⟩ := Arb.arg_read (ν := Arb.Tied.nu) (agg := false) (ss := [.int .u64]) (by kernel_rfl) (hval 1 24 v1 rfl rfl) h1 (g := Arb.start W) rfl rfl
  refine (Arb.law_true (f := 91) (cargs := #[v0, v1]) (xs := [x0, x1]) Arb.Tied.mixed Arb.Tied.tie (.cons e0 (.cons e1 .nil)) (Arb.mergeBest_law a0 a1)).mono fun e W' ⟨he, bel⟩ => ?_
  subst he
  exact ⟨_, rfl, _, _, _, [], _, [], hW', trodAll_mk1 (shut_bool Tryz.underlying4 _), (trodAll_cons_mk (Below.trod laid5 (by kernel_rfl) (of_decide_eq_true (by kernel_rfl)) h0 bel lt0) (trodAll_cons_mk (Below.trod laid5 (by kernel_rfl) (of_decide_eq_true (by kernel_rfl)) h1 bel lt1) trodAll_mk0)), rfl, bel.frame _, fun h => by cases h⟩

theorem over5 : Rows.mergeBestRow.holds Tryz.pinned (OpenSpec.ofChange Rows.mergeBestSpec) :=
  OpenClaim.holds_of_wide 5 Tryz.f5 rfl rfl rfl rfl rfl rfl rfl ⟨rfl, rfl, rfl, rfl, rfl⟩ rfl rfl rfl rfl rfl (by kernel_rfl) Tryz.func5 (by kernel_rfl)
    (of_decide_eq_true (by kernel_rfl)) (by unfold Func.isWrapper; first | (rw [if_pos (by decide +kernel)]; kernel_rfl) | (rw [if_neg (by decide +kernel)]; exact ⟨rfl, rfl⟩))
    (fun os started H enc _ => lifted5 os started H enc)

theorem proved : Rows.MergeBestSaid := over5
#print axioms proved
end Go.Proofs.YtiggikalagohaaaGreat

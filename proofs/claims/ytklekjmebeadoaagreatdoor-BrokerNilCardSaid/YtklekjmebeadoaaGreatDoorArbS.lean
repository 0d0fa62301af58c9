/-
  A part of the proof: two abstract machines for the code, and what the program does on them. No condition.
-/
import Derived.Test.YtklekjmebeadoaaGreatDoorArbR
set_option linter.all false
namespace Go.Proofs.YtklekjmebeadoaaGreatDoor
open Go.ChangeShapes Go.WideShapes Go.ChangeAt Go.RowKit
theorem Cc:joinedFacts Tryz.pinned.checked.prog 3 Tryz.f3 Rows.brokerNilSpec Rows.brokerNilRow=true:=by
 unfold joinedFacts;rw[A0,vT,zJ,EU]
 kernel_rfl
theorem FH:Rows.brokerNilRow.holds Tryz.pinned (OpenSpec.ofChange Rows.brokerNilSpec):=
 OpenClaim.holds_of_wide 3 Tryz.f3 rfl rfl rfl rfl rfl rfl rfl ⟨rfl,rfl,rfl,rfl,rfl⟩ rfl rfl rfl rfl rfl (by kernel_rfl) Tryz.func3 Cc
  (of_decide_eq_true (by kernel_rfl)) (by unfold Func.isWrapper;first | (rw[if_pos (by decide +kernel)];kernel_rfl) | (rw[if_neg (by decide +kernel)];exact⟨rfl,rfl⟩))
  (λos started H enc _=>Cb os started H enc)
end Go.Proofs.YtklekjmebeadoaaGreatDoor

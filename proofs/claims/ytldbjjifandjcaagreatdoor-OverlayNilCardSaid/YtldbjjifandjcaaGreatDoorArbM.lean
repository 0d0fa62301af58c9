/-
  A part of the proof: two abstract machines for the code, and what the program does on them. No condition.
-/
import Derived.Test.YtldbjjifandjcaaGreatDoorArbL
set_option linter.all false
namespace Go.Proofs.YtldbjjifandjcaaGreatDoor
open Go.ChangeShapes Go.WideShapes Go.ChangeAt Go.RowKit
theorem BO:joinedFacts Tryz.pinned.checked.prog 3 Tryz.f3 Rows.overlayNilSpec Rows.overlayNilRow=true:=by
 unfold joinedFacts;rw[Ax,vM,zz,Es]
 kernel_rfl
theorem FD:Rows.overlayNilRow.holds Tryz.pinned (OpenSpec.ofChange Rows.overlayNilSpec):=
 OpenClaim.holds_of_wide 3 Tryz.f3 rfl rfl rfl rfl rfl rfl rfl ⟨rfl,rfl,rfl,rfl,rfl⟩ rfl rfl rfl rfl rfl (by kernel_rfl) Tryz.func3 BO
  (of_decide_eq_true (by kernel_rfl)) (by unfold Func.isWrapper;first | (rw[if_pos (by decide +kernel)];kernel_rfl) | (rw[if_neg (by decide +kernel)];exact⟨rfl,rfl⟩))
  (λos started H enc _=>BN os started H enc)
end Go.Proofs.YtldbjjifandjcaaGreatDoor

/-
  A part of the proof: two abstract machines for the code, and what the program does on them. No condition.
-/
import Derived.Test.YtldbjjifandjcaaGreatDoorArbJ
set_option linter.all false
namespace Go.Proofs.YtldbjjifandjcaaGreatDoor
theorem Ax:(Rows.overlayNilRow.inPlace==Tryz.pinned.checked.prog.inPlace 3)=true:=by kernel_rfl
theorem vM:(Rows.overlayNilRow.unfollowed==Tryz.pinned.checked.prog.unfollowed 3)=true:=by kernel_rfl
end Go.Proofs.YtldbjjifandjcaaGreatDoor

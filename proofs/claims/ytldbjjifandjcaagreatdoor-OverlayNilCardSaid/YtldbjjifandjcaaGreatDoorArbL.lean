/-
  A part of the proof: two abstract machines for the code, and what the program does on them. No condition.
-/
import Derived.Test.YtldbjjifandjcaaGreatDoorArbK
set_option linter.all false
namespace Go.Proofs.YtldbjjifandjcaaGreatDoor
theorem zz:(Rows.overlayNilRow.recurses==Tryz.pinned.checked.prog.recurses 3)=true:=by kernel_rfl
theorem Es:(Rows.overlayNilRow.named==Tryz.pinned.checked.prog.varsNamed 3)=true:=by kernel_rfl
end Go.Proofs.YtldbjjifandjcaaGreatDoor

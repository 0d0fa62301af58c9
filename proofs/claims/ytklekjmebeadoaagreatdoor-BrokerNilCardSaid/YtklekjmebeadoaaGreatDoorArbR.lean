/-
  A part of the proof: two abstract machines for the code, and what the program does on them. No condition.
-/
import Derived.Test.YtklekjmebeadoaaGreatDoorArbQ
set_option linter.all false
namespace Go.Proofs.YtklekjmebeadoaaGreatDoor
theorem zJ:(Rows.brokerNilRow.recurses==Tryz.pinned.checked.prog.recurses 3)=true:=by kernel_rfl
theorem EU:(Rows.brokerNilRow.named==Tryz.pinned.checked.prog.varsNamed 3)=true:=by kernel_rfl
end Go.Proofs.YtklekjmebeadoaaGreatDoor

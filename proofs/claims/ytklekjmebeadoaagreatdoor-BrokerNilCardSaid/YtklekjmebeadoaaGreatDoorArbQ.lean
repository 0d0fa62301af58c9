/-
  A part of the proof: two abstract machines for the code, and what the program does on them. No condition.
-/
import Derived.Test.YtklekjmebeadoaaGreatDoorArbP
set_option linter.all false
namespace Go.Proofs.YtklekjmebeadoaaGreatDoor
theorem A0:(Rows.brokerNilRow.inPlace==Tryz.pinned.checked.prog.inPlace 3)=true:=by kernel_rfl
theorem vT:(Rows.brokerNilRow.unfollowed==Tryz.pinned.checked.prog.unfollowed 3)=true:=by kernel_rfl
end Go.Proofs.YtklekjmebeadoaaGreatDoor

/-
  A part of the proof: two abstract machines for the code, and what the program does on them. No condition.
-/
import Derived.Test.YtklekjmebeadoaaGreatDoorArbG
set_option linter.all false
namespace au
open al Go
theorem KT:sh (al.get bT.fS) (au.get bT.fB) [(nC 17 68)] 60 424 17 15938=true:=by kernel_rfl
end au

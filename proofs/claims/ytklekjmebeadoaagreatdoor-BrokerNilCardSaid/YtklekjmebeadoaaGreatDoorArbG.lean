/-
  A part of the proof: two abstract machines for the code, and what the program does on them. No condition.
-/
import Derived.Test.YtklekjmebeadoaaGreatDoorArbF
set_option linter.all false
namespace au
open al Go
theorem KS:pA (al.get bT.fS) (au.get bT.fB) [(nA 17 68),(nB 17 68)] 60 (nC 17 68)=true:=by kernel_rfl
end au

/-
  A part of the proof: two abstract machines for the code, and what the program does on them. No condition.
-/
import Derived.Test.YtklekjmebeadoaaGreatDoorArbI
set_option linter.all false
namespace au
open al Go
theorem KW:pA (al.get bT.fS) (au.get bT.fB) [(nA 15940 63760),(nB 15940 63760)] 60 (nC 15940 63760)=true:=by kernel_rfl
end au

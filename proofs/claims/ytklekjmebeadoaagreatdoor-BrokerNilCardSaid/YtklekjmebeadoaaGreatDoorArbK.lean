/-
  A part of the proof: two abstract machines for the code, and what the program does on them. No condition.
-/
import Derived.Test.YtklekjmebeadoaaGreatDoorArbJ
set_option linter.all false
namespace au
open al Go
theorem KX:sh (al.get bT.fS) (au.get bT.fB) [(nC 15940 63760)] 60 424 15940 31861=true:=by kernel_rfl
end au

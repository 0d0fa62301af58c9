/-
  A part of the proof: two abstract machines for the code, and what the program does on them. No condition.
-/
import Derived.Test.YtklekjmebeadoaaGreatDoorArbE
set_option linter.all false
namespace au
open al Go
theorem KQ:pA (al.get bT.fS) (au.get bT.fB) [] 60 (nA 17 68)=true:=by kernel_rfl
theorem KR:pA (al.get bT.fS) (au.get bT.fB) [] 60 (nB 17 68)=true:=by kernel_rfl
end au

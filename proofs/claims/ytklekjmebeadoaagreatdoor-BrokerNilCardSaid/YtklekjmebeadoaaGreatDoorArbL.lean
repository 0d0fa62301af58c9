/-
  A part of the proof: two abstract machines for the code, and what the program does on them. No condition.
-/
import Derived.Test.YtklekjmebeadoaaGreatDoorArbK
set_option linter.all false
namespace au
open al Go
theorem KY:pA (al.get bT.fS) (au.get bT.fB) [] 60 (nA 15984 63936)=true:=by kernel_rfl
theorem KZ:pA (al.get bT.fS) (au.get bT.fB) [] 60 (nB 15984 63936)=true:=by kernel_rfl
end au

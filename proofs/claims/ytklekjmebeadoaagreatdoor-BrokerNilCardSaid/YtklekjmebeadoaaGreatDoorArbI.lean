/-
  A part of the proof: two abstract machines for the code, and what the program does on them. No condition.
-/
import Derived.Test.YtklekjmebeadoaaGreatDoorArbH
set_option linter.all false
namespace au
open al Go
theorem KU:pA (al.get bT.fS) (au.get bT.fB) [] 60 (nA 15940 63760)=true:=by kernel_rfl
theorem KV:pA (al.get bT.fS) (au.get bT.fB) [] 60 (nB 15940 63760)=true:=by kernel_rfl
end au

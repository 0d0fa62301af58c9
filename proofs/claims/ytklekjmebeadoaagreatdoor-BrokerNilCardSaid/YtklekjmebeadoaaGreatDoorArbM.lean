/-
  A part of the proof: two abstract machines for the code, and what the program does on them. No condition.
-/
import Derived.Test.YtklekjmebeadoaaGreatDoorArbL
set_option linter.all false
namespace au
open al Go
theorem K0:pA (al.get bT.fS) (au.get bT.fB) [(nA 15984 63936),(nB 15984 63936)] 60 (nC 15984 63936)=true:=by kernel_rfl
end au

/-
  A part of the proof: two abstract machines for the code, and what the program does on them. No condition.
-/
import Derived.Test.YtklekjmebeadoaaGreatDoorArbM
set_option linter.all false
namespace au
open al Go
theorem La:sh (al.get bT.fS) (au.get bT.fB) [(nC 15984 63936)] 60 424 15984 31905=true:=by kernel_rfl
end au

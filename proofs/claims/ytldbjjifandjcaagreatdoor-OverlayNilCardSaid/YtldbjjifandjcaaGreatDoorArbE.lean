/-
  A part of the proof: two abstract machines for the code, and what the program does on them. No condition.
-/
import Derived.Test.YtldbjjifandjcaaGreatDoorArbD
set_option linter.all false
namespace aB
open ao Go
theorem Kr:part (ao.get ej.lZ) (aB.get ej.kU) 59 (j1 5 nR.body) ⟨[],.nil,12⟩ (xG 12 48)=true:=by kernel_rfl
theorem Ks:last (ao.get ej.lZ) (aB.get ej.kU) 59 0 (j3 1 (j3 5 nR.body)) (xH 12 48) 12 13108=true:=by kernel_rfl
end aB

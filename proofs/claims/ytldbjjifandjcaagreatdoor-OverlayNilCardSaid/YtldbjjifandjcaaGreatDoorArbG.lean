/-
  A part of the proof: two abstract machines for the code, and what the program does on them. No condition.
-/
import Derived.Test.YtldbjjifandjcaaGreatDoorArbF
set_option linter.all false
namespace aB
open ao Go
theorem Ku:part (ao.get ej.lZ) (aB.get ej.kU) 59 (j1 5 nR.body) ⟨[],.nil,13110⟩ (xG 13110 52440)=true:=by kernel_rfl
theorem Kv:last (ao.get ej.lZ) (aB.get ej.kU) 59 0 (j3 1 (j3 5 nR.body)) (xH 13110 52440) 13110 26206=true:=by kernel_rfl
end aB

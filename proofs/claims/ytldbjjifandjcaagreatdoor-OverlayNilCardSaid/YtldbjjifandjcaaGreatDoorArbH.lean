/-
  A part of the proof: two abstract machines for the code, and what the program does on them. No condition.
-/
import Derived.Test.YtldbjjifandjcaaGreatDoorArbG
set_option linter.all false
namespace aB
open ao Go
theorem Kw:part (ao.get ej.lZ) (aB.get ej.kU) 59 (j1 1 (j3 5 nR.body)) (xG 13110 52440) (xH 13110 52440)=true:=by kernel_rfl
end aB

/-
  A part of the proof: two abstract machines for the code, and what the program does on them. No condition.
-/
import Derived.Test.YtldbjjifandjcaaGreatDoorArbH
set_option linter.all false
namespace aB
open Go ao
theorem vL:∃h n h2 n2,cm (ao.get ej.lZ) (aB.get ej.kU) 60 295 [] .nil 12=some (.bI true,h,n)/\free h n=true/\cm (ao.get ej.lZ) (aB.get ej.kU) 60 295 [] h (n+2)=some (.bI true,h2,n2)/\free h2 n2=true:=by
 obtain⟨L,e,h⟩:=Er (g:=295) (fn:=nR) rfl rfl rfl rfl Kr Kt Ks;obtain⟨L2,e2,h2⟩:=Er (g:=295) (fn:=nR) rfl rfl rfl rfl Ku Kw Kv;exact xF ej.Bf e e2 h h2 rfl (by decide) (by decide) (by decide)
theorem sX {x:AV} (h:xv true xD x):∃n p,cm (ao.get ej.lZ) (aB.get ej.kU) n 414 [x] .nil 1=some (.bI true,p):=by
 obtain⟨o,rfl,ho⟩:=Em h;exact sW ej.J9 ej.Bf rfl rfl rfl rfl rfl rfl rfl
  { DX:=rfl,DY:=rfl,DZ:=rfl,D0:=rfl,D1:=rfl,D2:=rfl,D3:=rfl,D4:=rfl,D5:=rfl,D6:=rfl,D7:=rfl,D8:=rfl,D9:=rfl,Ea:=rfl,Eb:=rfl,Ec:=rfl,Ed:=rfl,Ee:=rfl,Ef:=rfl,Eg:=rfl } vL o ho.x
end aB

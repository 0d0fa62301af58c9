/-
  A part of the proof: two abstract machines for the code, and what the program does on them. No condition.
-/
import Derived.Test.YtolpagjajaknbaaGreatArbF
set_option linter.all false
namespace ay
open Go ao
theorem XS:(ao.aZ (ao.get fY.kl) 30 42 [] []).bind shut=some bL.av:=by kernel_rfl
theorem XT:a8 (ao.get fY.kl) 42 [] bL.av:=by
 have h:=XS;cases e:ao.aZ (ao.get fY.kl) 30 42 [] []with
 |none=>rw[e]at h;cases h
 |some p=>rw[e]at h;exact ao.Ev.X6 (ao.Ev.at e) h
theorem V5:(ao.aZ (ao.get fY.kl) 30 280 [] []).bind shut=some bL.av:=by kernel_rfl
theorem V6:a8 (ao.get fY.kl) 280 [] bL.av:=by
 have h:=V5;cases e:ao.aZ (ao.get fY.kl) 30 280 [] []with
 |none=>rw[e]at h;cases h
 |some p=>rw[e]at h;exact ao.Ev.X6 (ao.Ev.at e) h
theorem Pj:Bh 12 (ao.get fY.kl) (ay.get fY.uU) 60=true:=by kernel_rfl
theorem aa4:tl (ao.get fY.kl):=⟨rfl,rfl,rfl,rfl,rfl,rfl,rfl,rfl,rfl,rfl,rfl,rfl,rfl⟩
theorem aa5:JO (ao.get fY.kl):={ aa4 with P2:=rfl,TY:=rfl,w7:=rfl,P3:=rfl,Yg:=rfl,yu:=rfl,yx:=rfl,AU:=rfl,gq:=rfl }
theorem aa6:xd (ao.get fY.kl):={ aa5 with Ub:=rfl,Uc:=rfl,Ud:=rfl,FI:=rfl,AK:=rfl,AM:=rfl,Hz:=rfl,P7:=rfl,Yk:=rfl,Yl:=rfl,Ym:=rfl,Yn:=rfl }
theorem aa7:Oq (ao.get fY.kl) (ay.get fY.uU):={ FI:=rfl,AK:=rfl,AM:=rfl,FJ:=rfl,AN:=rfl,Uw:=rfl,Ux:=rfl,Uy:=rfl,Uz:=rfl,UA:=rfl,L9:=aa6,JX:=rfl,UI:=rfl,Yv:=rfl,P9:=rfl,hA:=XT,UJ:=rfl,UK:=rfl,FW:=rfl,h46:=rfl,Qa:=rfl,YA:=rfl,UP:=rfl }
theorem aa8:Uo (ao.get fY.kl):=⟨rfl,rfl,rfl,rfl,rfl,rfl⟩
theorem aa9:UQ (ao.get fY.kl) (ay.get fY.uU):=⟨aa8,rfl,rfl,rfl,rfl,rfl,rfl,rfl⟩
theorem abb:B6 (ao.get fY.kl):=⟨rfl,rfl,rfl,rfl,rfl,rfl,rfl,rfl,rfl,rfl,rfl,rfl,rfl⟩
theorem abd:jF (ao.get fY.kl) (ay.get fY.uU):=⟨aa7,aa9,abb,rfl,rfl,rfl,rfl,rfl,rfl,rfl,rfl,rfl,rfl,rfl,rfl,rfl,rfl,rfl,rfl,rfl,rfl,rfl,rfl⟩
theorem abe:Vh (ao.get fY.kl):=⟨rfl,rfl,rfl,rfl,rfl,rfl,rfl,rfl⟩
theorem abf:zL (ao.get fY.kl):={ Ys:=rfl,Yt:=rfl,UD:=rfl,UE:=rfl,Ol:=rfl,u7:=rfl,u9:=rfl,FV:=rfl,Yq:=rfl,HM:=rfl,h48:=rfl,tZ:=rfl,Vm:=rfl,Vn:=rfl,Vo:=rfl,Kk:=rfl,Cc:=rfl,xB:=rfl,Im:=rfl,Vz:=rfl,VA:=rfl,VB:=rfl,Kq:=rfl,Kp:=rfl,qv:=rfl,qw:=rfl,VC:=rfl,Kr:=rfl,Cd:=rfl,VD:=rfl,OV:=V6 }
theorem abg:nF (ao.get fY.kl) (ay.get fY.uU):=⟨abf,rfl,rfl,rfl,rfl,rfl,rfl,rfl,rfl,rfl⟩
theorem Dn {x0 x1 x2:AV} (h0:xV true Oj x0) (h1:xV false [.sl Oi] x1) (h2:xV false [.sl [.int .i64,.int .i64,.int .i64]] x2) :
  ∃n p,fH (ao.get fY.kl) (ay.get fY.uU) n 278 [x0,x1,x2] .nil 1=some (.bI true,p):=by
 obtain⟨x,rfl⟩:=Vj h0;obtain⟨l,rfl,hl,cg⟩:=Ge (enc:=ao.Op.enc) (ok:=ao.Op.ok) (λr h=>Uv h) h1;obtain⟨d,rfl, -,hd⟩:=Ge (enc:=Dv.enc) (ok:=λv=>dE v.p) (λr h=>Vk h) h2;exact Ph fY.le2 fY.WS abd abg abe rfl rfl rfl rfl rfl Pj x l hl cg d hd
end ay

/-
  A part of the proof of the statement that the last text of this claim holds: two abstract machines for the code, proved sound once, and what the program does on them. No condition.
-/
import Derived.Test.YtolpagjajaknbaaGreatArbF
set_option linter.all false
namespace Arx
open Go Arb
theorem all42:(Arb.evalF (Arb.get Tied.fns1) 30 42 [] []).bind shut=some allBx.av:=by kernel_rfl
theorem ans42:Ans (Arb.get Tied.fns1) 42 [] allBx.av:=by
 have h:=all42;cases e:Arb.evalF (Arb.get Tied.fns1) 30 42 [] []with
 |none=>rw[e]at h;cases h
 |some p=>rw[e]at h;exact Arb.Ev.ans (Arb.Ev.at e) h
theorem all280:(Arb.evalF (Arb.get Tied.fns1) 30 280 [] []).bind shut=some allBx.av:=by kernel_rfl
theorem ans280:Ans (Arb.get Tied.fns1) 280 [] allBx.av:=by
 have h:=all280;cases e:Arb.evalF (Arb.get Tied.fns1) 30 280 [] []with
 |none=>rw[e]at h;cases h
 |some p=>rw[e]at h;exact Arb.Ev.ans (Arb.Ev.at e) h
theorem twice_ok:twiceT 16 (Arb.get Tied.fns1) (Arx.get Tied.fns2) 60=true:=by kernel_rfl
theorem lib2:Lib2 (Arb.get Tied.fns1):=⟨rfl,rfl,rfl,rfl,rfl,rfl,rfl,rfl,rfl,rfl,rfl,rfl,rfl⟩
theorem lib3:Lib3 (Arb.get Tied.fns1):={ lib2 with h23:=rfl,h37:=rfl,h38:=rfl,h39:=rfl,h40:=rfl,h53:=rfl,h54:=rfl,h56:=rfl,h64:=rfl }
theorem lib9:Lib9 (Arb.get Tied.fns1):={ lib3 with h129:=rfl,h130:=rfl,h126:=rfl,h17:=rfl,h32:=rfl,h33:=rfl,h66:=rfl,h59:=rfl,h60:=rfl,h67:=rfl,h73:=rfl,h47:=rfl }
theorem libO:LibO (Arb.get Tied.fns1) (Arx.get Tied.fns2):={ h17:=rfl,h32:=rfl,h33:=rfl,h58:=rfl,h24:=rfl,h192:=rfl,h191:=rfl,h190:=rfl,h189:=rfl,h186:=rfl,L9:=lib9,h115:=rfl,h121:=rfl,h26:=rfl,h19:=rfl,hA:=ans42,h185:=rfl,h187:=rfl,h188:=rfl,h46:=rfl,h45:=rfl,h30:=rfl,h184:=rfl }
theorem libT:LibT (Arb.get Tied.fns1):=⟨rfl,rfl,rfl,rfl,rfl,rfl⟩
theorem libW:LibW (Arb.get Tied.fns1) (Arx.get Tied.fns2):=⟨libT,rfl,rfl,rfl,rfl,rfl,rfl,rfl⟩
theorem libH:LibH (Arb.get Tied.fns1):=⟨rfl,rfl,rfl,rfl,rfl,rfl,rfl,rfl,rfl,rfl,rfl,rfl,rfl⟩
theorem libL:LibL (Arb.get Tied.fns1) (Arx.get Tied.fns2):=⟨libO,libW,libH,rfl,rfl,rfl,rfl,rfl,rfl,rfl,rfl,rfl,rfl,rfl,rfl,rfl,rfl,rfl,rfl,rfl,rfl,rfl,rfl⟩
theorem few1:Few (Arb.get Tied.fns1):=⟨rfl,rfl,rfl,rfl,rfl,rfl,rfl,rfl⟩
theorem libD:LibD (Arb.get Tied.fns1):={ h98:=rfl,h99:=rfl,h100:=rfl,h101:=rfl,h103:=rfl,h105:=rfl,h106:=rfl,h108:=rfl,h35:=rfl,h43:=rfl,h48:=rfl,h49:=rfl,h104:=rfl,h109:=rfl,h110:=rfl,h111:=rfl,h113:=rfl,h114:=rfl,h41:=rfl,h164:=rfl,h165:=rfl,h166:=rfl,h167:=rfl,h168:=rfl,h169:=rfl,h170:=rfl,h279:=rfl,h281:=rfl,h282:=rfl,h283:=rfl,hAll:=ans280 }
theorem libR:LibR (Arb.get Tied.fns1) (Arx.get Tied.fns2):=⟨libD,rfl,rfl,rfl,rfl,rfl,rfl,rfl,rfl,rfl⟩
theorem traceNone_top {x0 x1:AV} (h0:ArgIs true shHd x0) (h1:ArgIs false [.sl shOp] x1) :
  ∃n p,run2 (Arb.get Tied.fns1) (Arx.get Tied.fns2) n 277 [x0,x1] .nil 1=some (.bI true,p):=by
 obtain⟨x,rfl⟩:=arg_hd h0;obtain⟨l,rfl,hl,hok⟩:=arg_rows (enc:=Arb.Op.enc) (ok:=Arb.Op.ok) (λr h=>fit_op h) h1;exact none_law Tied.le2 Tied.more2 libL libR few1 rfl twice_ok x l hl hok
end Arx

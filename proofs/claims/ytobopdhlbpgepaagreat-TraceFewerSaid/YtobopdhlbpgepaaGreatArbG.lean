/-
  A part of the proof of the statement that the last text of this claim holds: two abstract machines for the code, proved sound once, and what the program does on them. No condition.
-/
import Derived.Test.YtobopdhlbpgepaaGreatArbF
set_option linter.all false
namespace Arx
open Go Arb
theorem fit_ints {r:List IV} (h:FitL [.sl [.int .i64],.sl [.int .i64],.int .i64,.int .u64] r):∃x:Hd,r=x.enc:=by
 obtain⟨a,_,rfl,ha,h⟩:=h.one;obtain⟨b,_,rfl,hb,h⟩:=h.one;obtain⟨c,_,rfl,hc,h⟩:=h.one;obtain⟨d,_,rfl,hd,h⟩:=h.one;obtain rfl:=h.none;obtain⟨ra,rfl, -,ha'⟩:=fit_sl ha;obtain⟨rb,rfl, -,hb'⟩:=fit_sl hb;obtain⟨n,rfl, -⟩:=fit_int hc;obtain⟨m,rfl, -⟩:=fit_int hd;have key:∀l:List (List IV),(∀r ∈ l,FitL [.int .i64] r)->∃q:List Int,l=q.map num1:=by
  intro l
  induction l with
  |nil=>exact fun _=>⟨[],rfl⟩
  |cons r l ih=>
   intro hl;obtain⟨q,rfl⟩:=ih fun r hr=>hl r (List.mem_cons_of_mem _ hr)
   obtain⟨k,rfl, -⟩:=fit_num (hl r (List.mem_cons_self ..));exact⟨k::q,rfl⟩
 obtain⟨p,rfl⟩:=key ra ha';obtain⟨q,rfl⟩:=key rb hb';exact⟨⟨p,q,n,m⟩,rfl⟩
theorem arg_hd {x:AV} (h:ArgIs true shHd x):∃q:Hd,x = .agg (hdC q):=by
 obtain⟨xs,h,rfl⟩:=h;obtain⟨q,rfl⟩:=fit_ints h;exact⟨q,rfl⟩
theorem fit_rows {α:Type} {enc:α->List IV} {ok:α->Prop} {ss:List Sh} (hf:∀r,FitL ss r->∃a,r=enc a/\ok a):∀l:List (List IV),(∀r ∈ l,FitL ss r)->∃q:List α,l=q.map enc/\∀a ∈ q,ok a
 |[],_=>⟨[],rfl,fun a h=>by cases h⟩
 |r::l,h=>by
  obtain⟨a,rfl,ha⟩:=hf r (h r (List.mem_cons_self ..));obtain⟨q,rfl,hq⟩:=fit_rows hf l fun r hr=>h r (List.mem_cons_of_mem _ hr)
  refine⟨a::q,rfl,fun b hb=>?_⟩;rcases List.mem_cons.1 hb with rfl | hb
  ·exact ha
  ·exact hq b hb
theorem arg_rows {α:Type} {enc:α->List IV} {ok:α->Prop} {ss:List Sh} (hf:∀r,FitL ss r->∃a,r=enc a/\ok a) {x:AV} (h:ArgIs false [.sl ss] x):∃q:List α,x = .iv (.sl ss.length (q.map enc))/\q.length<=maxLen/\∀a ∈ q,ok a:=by
 obtain⟨xs,h,y,rfl,rfl⟩:=h;obtain⟨z,_,e,hz,h⟩:=h.one;obtain rfl:=h.none;simp only[List.cons.injEq,and_true]at e;subst e;obtain⟨rows,rfl,hl,hr⟩:=fit_sl hz;obtain⟨q,rfl,hq⟩:=fit_rows hf rows hr;exact⟨q,rfl,by rw[List.length_map]at hl;exact hl,hq⟩
theorem fit_dv {r:List IV} (h:FitL [.int .i64,.int .i64,.int .i64] r):∃v:Dv,r=v.enc/\in64 v.p:=by
 obtain⟨a,_,rfl,ha,h⟩:=h.one;obtain⟨b,_,rfl,hb,h⟩:=h.one;obtain⟨c,_,rfl,hc,h⟩:=h.one;obtain rfl:=h.none;obtain⟨a,rfl, -⟩:=fit_int ha;obtain⟨b,rfl,hb'⟩:=fit_int hb;obtain⟨c,rfl, -⟩:=fit_int hc;exact⟨⟨a,b,c⟩,rfl,wf64 hb'⟩
theorem fit_cr {r:List IV} (h:FitL [.int .i64,.int .i64,.int .i64,.int .i64] r):∃v:Cr,r=v.enc/\in64 v.p:=by
 obtain⟨a,_,rfl,ha,h⟩:=h.one;obtain⟨b,_,rfl,hb,h⟩:=h.one;obtain⟨c,_,rfl,hc,h⟩:=h.one;obtain⟨d,_,rfl,hd,h⟩:=h.one;obtain rfl:=h.none;obtain⟨a,rfl, -⟩:=fit_int ha;obtain⟨b,rfl, -⟩:=fit_int hb;obtain⟨c,rfl,hc'⟩:=fit_int hc;obtain⟨d,rfl, -⟩:=fit_int hd;exact⟨⟨a,b,c,d⟩,rfl,wf64 hc'⟩
theorem arg_int {x:AV} (h:ArgIs false [.int .i64] x):∃n,x = .nI n:=by
 obtain⟨xs,h,y,rfl,rfl⟩:=h;obtain⟨z,_,e,hz,h⟩:=h.one;obtain rfl:=h.none;simp only[List.cons.injEq,and_true]at e;subst e;obtain⟨n,rfl, -⟩:=fit_int hz;exact⟨n,rfl⟩
theorem all42:(Arb.evalF (Arb.get Tied.fns1) 30 42 [] []).bind shut=some allBx.av:=by kernel_rfl
theorem ans42:Ans (Arb.get Tied.fns1) 42 [] allBx.av:=by
 have h:=all42;cases e:Arb.evalF (Arb.get Tied.fns1) 30 42 [] []with
 |none=>rw[e]at h;cases h
 |some p=>rw[e]at h;exact Arb.Ev.ans (Arb.Ev.at e) h
theorem twice_ok:twiceT (Arb.get Tied.fns1) (Arx.get Tied.fns2) 60=true:=by kernel_rfl
theorem lib2:Lib2 (Arb.get Tied.fns1):=⟨rfl,rfl,rfl,rfl,rfl,rfl,rfl,rfl,rfl,rfl,rfl,rfl,rfl⟩
theorem lib3:Lib3 (Arb.get Tied.fns1):={ lib2 with h23:=rfl,h37:=rfl,h38:=rfl,h39:=rfl,h40:=rfl,h53:=rfl,h54:=rfl,h56:=rfl,h64:=rfl }
theorem lib9:Lib9 (Arb.get Tied.fns1):={ lib3 with h129:=rfl,h130:=rfl,h126:=rfl,h17:=rfl,h32:=rfl,h33:=rfl,h66:=rfl,h59:=rfl,h60:=rfl,h67:=rfl,h73:=rfl,h47:=rfl }
theorem libO:LibO (Arb.get Tied.fns1) (Arx.get Tied.fns2):={ h17:=rfl,h32:=rfl,h33:=rfl,h58:=rfl,h24:=rfl,h192:=rfl,h191:=rfl,h190:=rfl,h189:=rfl,h186:=rfl,L9:=lib9,h115:=rfl,h121:=rfl,h26:=rfl,h19:=rfl,hA:=ans42,h185:=rfl,h187:=rfl,h188:=rfl,h46:=rfl,h45:=rfl,h30:=rfl,h184:=rfl }
theorem libT:LibT (Arb.get Tied.fns1):=⟨rfl,rfl,rfl,rfl,rfl,rfl⟩
theorem libW:LibW (Arb.get Tied.fns1) (Arx.get Tied.fns2):=⟨libT,rfl,rfl,rfl,rfl,rfl,rfl,rfl⟩
theorem libH:LibH (Arb.get Tied.fns1):=⟨rfl,rfl,rfl,rfl,rfl,rfl,rfl,rfl,rfl,rfl,rfl,rfl,rfl⟩
theorem libL:LibL (Arb.get Tied.fns1) (Arx.get Tied.fns2):=⟨libO,libW,libH,rfl,rfl,rfl,rfl,rfl,rfl,rfl,rfl,rfl,rfl,rfl,rfl,rfl,rfl,rfl,rfl,rfl,rfl,rfl,rfl,rfl⟩
theorem few1:Few (Arb.get Tied.fns1):=⟨rfl,rfl,rfl,rfl,rfl,rfl,rfl,rfl⟩
theorem traceFewer_top {x0 x1 x2 x3 x4:AV} (h0:ArgIs true shHd x0) (h1:ArgIs false [.sl shOp] x1) (h2:ArgIs false [.sl [.int .i64,.int .i64,.int .i64]] x2) (h3:ArgIs false [.sl [.int .i64,.int .i64,.int .i64,.int .i64]] x3) (h4:ArgIs false [.int .i64] x4) :
  ∃n p,run2 (Arb.get Tied.fns1) (Arx.get Tied.fns2) n 276 [x0,x1,x2,x3,x4] .nil 1=some (.bI true,p):=by
 obtain⟨x,rfl⟩:=arg_hd h0;obtain⟨l,rfl,hl,hok⟩:=arg_rows (enc:=Arb.Op.enc) (ok:=Arb.Op.ok) (fun r h=>fit_op h) h1;obtain⟨d,rfl, -,hd⟩:=arg_rows (enc:=Dv.enc) (ok:=fun v=>in64 v.p) (fun r h=>fit_dv h) h2;obtain⟨c,rfl, -,hc⟩:=arg_rows (enc:=Cr.enc) (ok:=fun v=>in64 v.p) (fun r h=>fit_cr h) h3;obtain⟨cut,rfl⟩:=arg_int h4;exact fewer_law Tied.le2 Tied.more2 libL few1 rfl twice_ok x l hl hok d hd c hc cut
end Arx

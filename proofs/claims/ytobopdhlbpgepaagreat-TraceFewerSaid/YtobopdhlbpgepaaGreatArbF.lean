/-
  A part of the proof of the statement that the last text of this claim holds: two abstract machines for the code, proved sound once, and what the program does on them. No condition.
-/
import Derived.Test.YtobopdhlbpgepaaGreatArbE
set_option linter.all false
namespace Arx
open Go Arb
def NoPut {α:Type}:M α->Prop
 |.ret _=>True
 |.fail=>True
 |.get _ k=>∀o,NoPut (k o)
 |.put _ _ _=>False
theorem NoPut.foot {α:Type}:∀(m:M α) (h:Hp),NoPut m->(m.foot h).2=[]
 |.ret _,_,_=>rfl
 |.fail,_,_=>rfl
 |.get id k,h,hm=>by simp only[M.foot];exact NoPut.foot (k _) h (hm _)
theorem NoPut.bind {α β:Type}:∀{m:M α} {f:α->M β},NoPut m->(∀a,NoPut (f a))->NoPut (m.bind f)
 |.ret a,f,_,hf=>hf a
 |.fail,_,_,_=>trivial
 |.get id k,f,hm,hf=>fun o=>NoPut.bind (hm o) hf
theorem NoPut.ok (b:Bool):NoPut (M.ok b):=by unfold M.ok;split<;>trivial
theorem NoPut.lift {α:Type} (o:Option α):NoPut (M.lift o):=by cases o<;>trivial
theorem NoPut.look (id:Nat):NoPut (M.look id):=fun o=>by cases o<;>trivial
theorem NoPut.mapL {α β:Type} {f:α->M β} (hf:∀x,NoPut (f x)):∀l:List α,NoPut (M.mapL f l)
 |[]=>trivial
 |x::r=>NoPut.bind (hf x) fun y=>NoPut.bind (NoPut.mapL hf r) fun ys=>trivial
theorem NoPut.mk_ (agg:Bool) (l:List AV):NoPut (Arx.mk agg l):=by unfold mk;split;trivial;split<;>trivial
theorem NoPut.idx_ (a:AV):NoPut (Arx.idx a):=by unfold idx;split<;>trivial
theorem NoPut.bound_ (y:Nat) (o:Option AV):NoPut (Arx.bound y o):=by
 unfold bound;split
 ·trivial
 ·exact NoPut.bind (NoPut.ok _) fun _=>trivial
 ·trivial
theorem NoPut.fz_:∀(n:Nat) (a:AV),NoPut (fz false n a)
 |0,_=>trivial
 |n+1,a=>by
  unfold fz;split
  ·trivial
  ·trivial
  ·refine NoPut.bind (NoPut.look _) fun o=>?_
   split
   ·refine NoPut.bind (NoPut.ok _) fun _=>?_
    rw[if_neg (by simp)];exact NoPut.bind (NoPut.mapL (NoPut.mapL (NoPut.fz_ n)) _) fun _=>trivial
   ·exact NoPut.bind (NoPut.ok _) fun _=>trivial
   ·trivial
  ·refine NoPut.bind (NoPut.look _) fun o=>?_
   split
   ·refine NoPut.bind (NoPut.ok _) fun _=>?_
    rw[if_neg (by simp)];exact NoPut.bind (NoPut.lift _) fun _=>NoPut.bind (NoPut.mapL (NoPut.fz_ n) _) fun _=>trivial
   ·exact NoPut.bind (NoPut.ok _) fun _=>NoPut.bind (NoPut.lift _) fun _=>trivial
   ·refine NoPut.bind (NoPut.ok _) fun _=>NoPut.bind (NoPut.mapL (NoPut.fz_ n) _) fun _=>?_
    rw[if_neg (by simp)];trivial
   ·exact NoPut.bind (NoPut.ok _) fun _=>trivial
   ·trivial
  ·exact NoPut.bind (NoPut.mapL (NoPut.fz_ n) _) fun _=>trivial
  ·trivial
theorem NoPut.fz1_ (a:AV):NoPut (fz1 false a):=by
 unfold fz1;split
 ·exact NoPut.bind (NoPut.mapL (NoPut.fz_ 8) _) fun _=>trivial
 ·exact NoPut.bind (NoPut.fz_ 8 _) fun _=>trivial
def cls:IOp->Nat
 |.mov _ | .pick _ _ _ | .un _ _ | .cvi _ _ | .ext _ _ | .mkf _ _ _=>0
 |.build _ _ | .mx _ _ | .mn _ _ | .eqc _ _ _ _=>0
 |.bin _ q _ _=>if q=0\/q=1 then 0 else 1
 |.load _ _ _ | .fadr _ _ | .isl _ _ _ | .len _ _ | .nchk _ | .slc _ _ _ _ | .mget _ _ _ _ _ _=>1
 |.call 0 _ _=>1
 |.alloc _ _ | .bsl _ _ _ _=>2
 |_=>3
def Nix {α:Type} (m:M α):Prop:=∀h,m.foot h=([],[])
theorem Nix.ret {α:Type} (a:α):Nix (M.ret a):=fun _=>rfl
theorem Nix.fail {α:Type}:Nix (M.fail:M α):=fun _=>rfl
theorem Nix.lift {α:Type} (o:Option α):Nix (M.lift o):=by cases o;exact Nix.fail;exact Nix.ret _
theorem Nix.ok (b:Bool):Nix (M.ok b):=by unfold M.ok;split;exact Nix.ret _;exact Nix.fail
theorem Nix.bind {α β:Type} {m:M α} {f:α->M β} (hm:Nix m) (hf:∀a,Nix (f a)):Nix (m.bind f):=by
 cases m with
 |ret a=>exact hf a
 |fail=>exact Nix.fail
 |get id k=>intro h;have:=hm h;simp[M.foot]at this
 |put id o k=>intro h;have:=hm h;simp[M.foot]at this
theorem Nix.mapL {α β:Type} {f:α->M β} (hf:∀x,Nix (f x)):∀l:List α,Nix (M.mapL f l)
 |[]=>Nix.ret _
 |x::r=>Nix.bind (hf x) fun y=>Nix.bind (Nix.mapL hf r) fun ys=>Nix.ret _
theorem Nix.cells (a:AV):Nix (cellsM a):=by unfold cellsM;split<;>first | exact Nix.ret _ | exact Nix.fail
theorem Nix.idx_ (a:AV):Nix (Arx.idx a):=by unfold idx;split<;>first | exact Nix.ret _ | exact Nix.fail
variable (c1:Call1)
theorem cls0 {slot:Nat} {ρ:Opd->AV} {op:IOp} (h:cls op=0):Nix (osem c1 slot ρ op):=by
 cases op<;>first | (simp[cls]at h;done) | skip
 case mov=>exact Nix.ret _
 case pick=>simp only[osem];split<;>first | exact Nix.ret _ | exact Nix.fail
 case build=>exact Nix.bind (Nix.mapL (fun p=>Nix.bind (Nix.cells _) fun _=>Nix.bind (Nix.ok _) fun _=>Nix.ret _) _) fun _=>Nix.ret _
 case bin op q x y=>
  have hq:q=0\/q=1:=by
   simp only[cls]at h;by_cases hq:q=0\/q=1
   ·exact hq
   ·rw[if_neg hq]at h;cases h
  simp only[osem];rcases hq with rfl | rfl<;>exact Nix.bind (Nix.lift _) fun _=>Nix.ret _
 case un=>exact Nix.bind (Nix.lift _) fun _=>Nix.ret _
 case cvi=>exact Nix.bind (Nix.idx_ _) fun _=>Nix.ret _
 case ext=>simp only[osem];split<;>first | exact Nix.lift _ | exact Nix.fail
 case mkf=>exact Nix.ret _
 case mx=>simp only[osem];split<;>first | exact Nix.bind (Nix.lift _) fun _=>Nix.ret _ | exact Nix.fail
 case mn=>simp only[osem];split<;>first | exact Nix.bind (Nix.lift _) fun _=>Nix.ret _ | exact Nix.fail
 case eqc=>simp only[osem];split<;>first | exact Nix.bind (Nix.lift _) fun _=>Nix.ret _ | exact Nix.fail
 case call mode f args=>cases mode<;>simp[cls]at h
theorem cls1 {slot:Nat} {ρ:Opd->AV} {op:IOp} (h:cls op=1):NoPut (osem c1 slot ρ op):=by
 cases op<;>first | (simp[cls]at h;done) | skip
 case bin op q x y=>
  simp only[osem,binM];split
  ·exact NoPut.bind (NoPut.look _) fun _=>NoPut.bind (NoPut.ok _) fun _=>by split<;>trivial
  ·exact NoPut.bind (NoPut.look _) fun _=>NoPut.bind (NoPut.ok _) fun _=>by split<;>trivial
  ·exact NoPut.bind (NoPut.look _) fun _=>NoPut.bind (NoPut.ok _) fun _=>by split<;>trivial
  ·exact NoPut.bind (NoPut.lift _) fun _=>trivial
 case load=>
  simp only[osem,Arx.load];split
  ·exact NoPut.bind (NoPut.look _) fun _=>NoPut.bind (NoPut.lift _) fun _=>NoPut.bind (NoPut.ok _) fun _=>NoPut.mk_ _ _
  ·exact NoPut.bind (NoPut.ok _) fun _=>NoPut.mk_ _ _
  ·trivial
 case fadr=>
  simp only[osem,Arx.fadr];split
  ·exact NoPut.bind (NoPut.look _) fun _=>NoPut.bind (NoPut.ok _) fun _=>trivial
  ·exact NoPut.bind (NoPut.ok _) fun _=>trivial
  ·trivial
 case isl=>
  simp only[osem,Arx.isl];refine NoPut.bind (NoPut.idx_ _) fun n=>NoPut.bind (NoPut.ok _) fun _=>?_
  split
  ·refine NoPut.bind (NoPut.ok _) fun _=>NoPut.bind (NoPut.look _) fun o=>?_
   split<;>first | exact NoPut.bind (NoPut.ok _) fun _=>trivial | trivial
  ·exact NoPut.bind (NoPut.ok _) fun _=>NoPut.bind (NoPut.lift _) fun _=>trivial
  ·trivial
 case len=>
  simp only[osem,Arx.len];split
  ·refine NoPut.bind (NoPut.look _) fun o=>?_
   split<;>first | exact NoPut.bind (NoPut.ok _) fun _=>trivial | trivial
  ·trivial
  ·trivial
  ·trivial
  ·trivial
 case nchk=>
  simp only[osem];split
  ·exact NoPut.bind (NoPut.look _) fun _=>NoPut.bind (NoPut.ok _) fun _=>trivial
  ·trivial
  ·trivial
  ·trivial
  ·trivial
 case slc=>
  simp only[osem,Arx.slc];split
  ·exact NoPut.bind (NoPut.look _) fun _=>NoPut.bind (NoPut.lift _) fun _=>NoPut.bind (NoPut.bound_ _ _) fun _=>NoPut.bind (NoPut.bound_ _ _) fun _=>trivial
  ·exact NoPut.bind (NoPut.ok _) fun _=>NoPut.bind (NoPut.bound_ _ _) fun _=>NoPut.bind (NoPut.bound_ _ _) fun _=>trivial
  ·exact NoPut.bind (NoPut.bound_ _ _) fun _=>NoPut.bind (NoPut.bound_ _ _) fun _=>trivial
  ·trivial
 case call mode f args=>
  have hm:mode=0:=by cases mode with
   |zero=>rfl
   |succ m=>simp[cls]at h
  subst hm;exact NoPut.bind (NoPut.lift _) fun q=>NoPut.bind (NoPut.mapL NoPut.fz1_ _) fun _=>NoPut.bind (NoPut.lift _) fun _=>NoPut.bind (NoPut.ok _) fun _=>NoPut.lift _
 case mget=>
  simp only[osem,Arx.mget];refine NoPut.bind (NoPut.ok _) fun _=>NoPut.bind ?_ fun x=>NoPut.bind (NoPut.lift _) fun p=>?_
  ·unfold lookMap;split
   ·refine NoPut.bind (NoPut.look _) fun o=>?_
    split<;>trivial
   ·trivial
  ·split
   ·trivial
   ·exact NoPut.bind (NoPut.mk_ _ _) fun _=>trivial
theorem fresh_foot {α:Type} {id:Nat} {o:Ob} {a:α} (h:Hp) {r:α} {h':Hp} (e:((M.fresh id).bind fun _=>(M.write id o).bind fun _=>.ret a).run h=some (r,h')) :
  ∀n ∈ (((M.fresh id).bind fun _=>(M.write id o).bind fun _=>.ret a).foot h).2,Arx.get h n=none:=by
 intro n hn;simp only[M.fresh,M.write,M.bind,M.run]at e;cases hg:Arx.get h id with
 |some x=>rw[hg]at e;simp[M.bind,M.run]at e
 |none=>
  simp only[M.fresh,M.write,M.bind,M.foot,hg,List.nil_append,List.mem_singleton]at hn;subst hn;exact hg
theorem cls2 {slot:Nat} {ρ:Opd->AV} {op:IOp} (h:cls op=2) {hp:Hp} {r:AV} {h':Hp} (e:(osem c1 slot ρ op).run hp=some (r,h')):∀n ∈ ((osem c1 slot ρ op).foot hp).2,Arx.get hp n=none:=by
 cases op<;>first | (simp[cls]at h;done) | skip
 case alloc tag z=>
  simp only[osem]at e ⊢;unfold M.ok at e ⊢;split at e
  ·rename_i ht;rw[if_pos ht];exact fresh_foot hp e
  ·simp[M.bind,M.run]at e
 case bsl e0 z n ps=>
  simp only[osem]at e ⊢;generalize hm:M.mapL (fun p:Nat×Opd=>(cellsM (ρ p.2)).bind fun xs=>(M.ok (xs.length==e0&&Nat.blt p.1 n)).bind fun _=>.ret (p.1,xs)) ps=m at *;have hnix:Nix m:=by rw[<-hm];exact Nix.mapL (fun p=>Nix.bind (Nix.cells _) fun _=>Nix.bind (Nix.ok _) fun _=>Nix.ret _) _
  unfold M.ok at e ⊢;split at e
  ·rename_i ht;rw[if_pos ht];simp only[M.bind]at e ⊢;cases m with
   |ret l=>exact fresh_foot hp e
   |fail=>simp[M.bind,M.run]at e
   |get id k=>have:=hnix hp;simp[M.foot]at this
   |put id o k=>have:=hnix hp;simp[M.foot]at this
  ·simp[M.bind,M.run]at e
 case bin op q x y=>simp only[cls]at h;split at h<;>cases h
 case call mode f args=>cases mode<;>simp[cls]at h
def sPair (al:Bool) (x y:IOp):Bool:=cls x==0||cls y==0||(Nat.ble (cls x) 1&&Nat.ble (cls y) 1)||(al&&Nat.ble (cls x) 1&&cls y==2)
def sA1 (al:Bool) (x:IOp) (i:Nat):List IOper->Bool
 |[]=>true
 |y::r=>(y.aft.contains i||sPair al x y.op)&&sA1 al x i r
def sAll (al:Bool):Nat->List IOper->Bool
 |_,[]=>true
 |i,x::r=>sA1 al x.op i r&&sAll al (i+1) r
def nCall (ops:List IOper):Bool:=ops.all fun o=>(isS o.op).isNone
def sOk (ops:List IOper):Bool:=sAll (nCall ops) 0 ops
def Kn (al:Bool) (op:IOp) (f:Feet) (h:Hp):Prop:=(cls op=0->f = .m ([],[]))/\(cls op=1->∃l,f = .m (l,[])/\(al=true->∀n ∈ l,On h n))
theorem isS_cls {op:IOp} {p:Opd×List Opd} (h:isS op=some p):cls op=3:=by cases op<;>first | (simp[isS]at h;done) | rfl
variable {c1} {cx:CallX}
theorem step_kn {al:Bool} {slot:Nat} {o:IOper} {s t:St} (e:step c1 cx slot o s=some t) (ha:al=true->(isS o.op).isNone=true):Kn al o.op (footOf c1 slot o s t.hp) t.hp/\
  (cls o.op=2->∃l w,footOf c1 slot o s t.hp = .m (l,w)/\∀n ∈ w,Arx.get s.hp n=none)/\(al=true->∀n,On s.hp n->On t.hp n):=by
 unfold step at e;unfold footOf Kn;cases hw:wants s.fr o.gd with
 |none=>rw[hw]at e;cases e
 |some b=>
  rw[hw]at e;cases b with
  |false=>
   simp only[Option.some.injEq]at e;subst e;exact⟨⟨fun _=>rfl,fun _=>⟨[],rfl,fun _ n hn=>by simp at hn⟩⟩,fun _=>⟨[],[],rfl,fun n hn=>by simp at hn⟩,fun _ n h=>h⟩
  |true=>
   simp only[]at e ⊢;cases hs:isS o.op with
   |some fa=>
    have hc:=isS_cls hs;rw[hc];refine⟨⟨fun h=>?_,fun h=>?_⟩,fun h=>?_,fun h=>?_⟩
    ·cases h
    ·cases h
    ·cases h
    ·have:=ha h;rw[hs]at this;simp at this
   |none=>
    rw[hs]at e;simp only[]at e ⊢;cases hr:(osem c1 slot (ev s.fr) o.op).run s.hp with
    |none=>rw[hr]at e;cases e
    |some q=>
     rw[hr]at e;obtain⟨v,h⟩:=q;simp only[Option.some.injEq]at e;subst e;refine⟨⟨fun h0=>by rw[cls0 c1 h0],fun h1=>⟨_,?_,fun _ n hn=>nr_osem c1 slot _ o.op _ _ _ hr n hn⟩⟩,fun h2=>⟨_,_,rfl,cls2 c1 h2 hr⟩,fun _ n hn=>M.stay _ _ _ _ n hr hn⟩;have:=NoPut.foot _ s.hp (cls1 c1 (slot:=slot) (ρ:=ev s.fr) h1);rw[<-this]
theorem feet_of {ops:List IOper}:∀{slot:Nat} {s s1:St},evalOps c1 cx ops slot s=some s1->∃fs,evalFeet c1 cx ops slot s=some (s1,fs):=by
 induction ops with
 |nil=>intro slot s s1 e;simp only[evalOps,Option.some.injEq]at e;subst e;exact⟨[],rfl⟩
 |cons o r ih=>
  intro slot s s1 e;simp only[evalOps]at e;cases h1:step c1 cx slot o s with
  |none=>rw[h1]at e;cases e
  |some t=>
   rw[h1]at e;obtain⟨fs,h⟩:=ih e;exact⟨footOf c1 slot o s t.hp::fs,by simp only[evalFeet,h1,h]⟩
theorem clash_s {al:Bool} {x y:IOp} {fx fy:Feet} {h:Hp} (hx:Kn al x fx h) (hy:Kn al y fy h\/True) (h0:cls y=0->fy = .m ([],[])) (h1:cls y=1->∃l,fy = .m (l,[])) (h2:cls y=2->∃l w,fy = .m (l,w)/\∀n ∈ w,Arx.get h n=none) (hs:sPair al x y=true):clash fx fy=false:=by
 unfold sPair at hs;simp only[Bool.or_eq_true,Bool.and_eq_true,beq_iff_eq,Nat.ble_eq]at hs;have hq:∀l l',clash (.m (l,[])) (.m (l',[]))=false:=fun l l'=>by simp[clash,meets]
 have hn:∀f,clash (.m ([],[])) f=false:=fun f=>by
  cases f with
  |m y=>simp[clash,meets]
  |c h0 h1=>simp[clash]
 have hn':∀f,clash f (.m ([],[]))=false:=fun f=>by
  cases f with
  |m y=>simp[clash,meets]
  |c h0 h1=>simp[clash]
 have hqx:cls x<=1->∃l,fx = .m (l,[])/\(al=true->∀n ∈ l,On h n):=fun hle=>by
  rcases(show cls x=0\/cls x=1 by omega)with q | q
  ·exact⟨[],hx.1 q,fun _ n hn=>by simp at hn⟩
  ·exact hx.2 q
 rcases hs with((hs | hs) | hs) | hs
 ·rw[hx.1 hs];exact hn _
 ·rw[h0 hs];exact hn' _
 ·obtain⟨l,rfl, -⟩:=hqx hs.1;rcases(show cls y=0\/cls y=1 by omega)with q | q
  ·rw[h0 q];exact hn' _
  ·obtain⟨l',rfl⟩:=h1 q;exact hq _ _
 ·obtain⟨⟨ha,hle⟩,hc⟩:=hs;obtain⟨l,rfl,hon⟩:=hqx hle;obtain⟨l',w,rfl,hw⟩:=h2 hc;have:∀n ∈ w,l.contains n=false:=fun n hn=>by
   rw[Bool.eq_false_iff];intro hc;have:=hon ha n (by simpa using hc);unfold On at this;rw[hw n hn]at this;simp at this
  simp only[clash,meets,List.any_nil,List.append_nil,Bool.false_or];rw[Bool.eq_false_iff];intro hc;obtain⟨n,hn,hc⟩:=List.any_eq_true.1 hc;rw[this n hn]at hc;cases hc
theorem Kn.mono {al:Bool} {op:IOp} {f:Feet} {h h':Hp} (k:Kn al op f h) (hs:al=true->∀n,On h n->On h' n):Kn al op f h':=
 ⟨k.1,fun h1=>by obtain⟨l,e,q⟩:=k.2 h1;exact⟨l,e,fun ha n hn=>hs ha n (q ha n hn)⟩⟩
theorem apart_s {al:Bool} {x:IOp} {fx:Feet} {i:Nat}:∀{ops:List IOper} {slot:Nat} {s s1:St} {fs:List Feet},evalFeet c1 cx ops slot s=some (s1,fs)->(al=true->nCall ops=true)->Kn al x fx s.hp->sA1 al x i ops=true->apart1 fx i fs (ops.map (·.aft))=true
 |[],slot,s,s1,fs,e,_,_,_=>by simp only[evalFeet,Option.some.injEq,Prod.mk.injEq]at e;rw[<-e.2];rfl
 |y::r,slot,s,s1,fs,e,ha,hk,hs=>by
  simp only[evalFeet]at e;cases h1:step c1 cx slot y s with
  |none=>rw[h1]at e;cases e
  |some t=>
   rw[h1]at e;simp only[]at e;cases h2:evalFeet c1 cx r (slot+1) t with
   |none=>rw[h2]at e;cases e
   |some p=>
    rw[h2]at e;simp only[Option.some.injEq,Prod.mk.injEq]at e;obtain⟨-,rfl⟩:=e;simp only[sA1,Bool.and_eq_true,Bool.or_eq_true]at hs;have ha':al=true->(isS y.op).isNone=true/\nCall r=true:=fun h=>by have:=ha h;simpa[nCall]using this
    obtain⟨k1,k2,k3⟩:=step_kn h1 fun h=>(ha' h).1
    simp only[List.map_cons,apart1,Bool.and_eq_true,Bool.or_eq_true,Bool.not_eq_true'];refine⟨?_,apart_s (s1:=p.1) (fs:=p.2) h2 (fun h=>(ha' h).2) (hk.mono k3) hs.2⟩;rcases hs.1 with q | q
    ·exact .inr q
    ·exact .inl (clash_s hk (.inr trivial) k1.1 (fun h=>by obtain⟨l,e, -⟩:=k1.2 h;exact⟨l,e⟩) k2 q)
theorem all_s {al:Bool}:∀{ops:List IOper} {slot i:Nat} {s s1:St} {fs:List Feet},evalFeet c1 cx ops slot s=some (s1,fs)->(al=true->nCall ops=true)->sAll al i ops=true->apartAll fs i (ops.map (·.aft))=true
 |[],slot,i,s,s1,fs,e,_,_=>by simp only[evalFeet,Option.some.injEq,Prod.mk.injEq]at e;rw[<-e.2];rfl
 |x::r,slot,i,s,s1,fs,e,ha,hs=>by
  simp only[evalFeet]at e;cases h1:step c1 cx slot x s with
  |none=>rw[h1]at e;cases e
  |some t=>
   rw[h1]at e;simp only[]at e;cases h2:evalFeet c1 cx r (slot+1) t with
   |none=>rw[h2]at e;cases e
   |some p=>
    rw[h2]at e;simp only[Option.some.injEq,Prod.mk.injEq]at e;obtain⟨-,rfl⟩:=e;simp only[sAll,Bool.and_eq_true]at hs;have ha':al=true->(isS x.op).isNone=true/\nCall r=true:=fun h=>by have:=ha h;simpa[nCall]using this
    obtain⟨k1, -, -⟩:=step_kn h1 fun h=>(ha' h).1
    simp only[List.map_cons,apartAll,Bool.and_eq_true];exact⟨apart_s (s1:=p.1) (fs:=p.2) h2 (fun h=>(ha' h).2) k1 hs.1,all_s (s1:=p.1) (fs:=p.2) h2 (fun h=>(ha' h).2) hs.2⟩
theorem rgn_s {ops:List IOper} {keep:List Nat} {s s':St} (hs:sOk ops=true) (h:evalRgn c1 cx false ops keep s=some s'):evalRgn c1 cx true ops keep s=some s':=by
 unfold evalRgn at h ⊢;simp only[Bool.false_eq_true,if_false,if_true]at h ⊢;cases he:evalOps c1 cx ops s.nx { s with nx:=s.nx+ops.length } with
 |none=>rw[he]at h;cases h
 |some t=>
  rw[he]at h;obtain⟨fs,hf⟩:=feet_of he;have ho:orderOk ops fs=true:=by unfold orderOk;rw[all_s hf (fun h=>h) hs,Bool.or_true]
  rw[hf];simp only[ho,if_true];exact h
theorem Wp.drawn {p1:Nat->Option Arb.IFn} {p2:Nat->Option IFn} {ops:List IOper} {keep:List Nat} {s:St} {Q:Ex->St->Prop} (hs:sOk ops=true) (h:Wp p1 p2 (.rgn false ops keep) s Q):Wp p1 p2 (.rgn true ops keep) s Q:=by
 obtain⟨K,ex,s',h,q⟩:=h;refine⟨K,ex,s',fun n hn=>?_,q⟩;have h1:=h n hn;simp only[evalC]at h1 ⊢;cases he:evalRgn (one p1 n) (run2 p1 p2 n) false ops keep s with
 |none=>rw[he]at h1;cases h1
 |some t=>rw[he]at h1;rw[rgn_s hs he];exact h1
def numV (n:Int):AV:=.iv (.int .i64 n)
structure Act where
 c:Int
 u:Int
 b:List B
 f:Int
 t:Int
structure Pb where
 c:Int
 e:E
 s:Int
structure Lg where
 acts:List Act
 pubs:List Pb
 drains:List Int
def Act.fits (a:Act):Prop:=a.b.length<=1000/\∀b ∈ a.b,b.lim 1000 400
def AR (H:Hp) (n:Nat) (r:List AV) (a:Act):Prop:=∃y,r=[numV a.c,numV a.u,y,numV a.f,numV a.t]/\LB H n y a.b
def AL (H:Hp) (n:Nat) (rs:List (List AV)) (l:List Act):Prop:=rs.length=l.length/\∀(i:Nat) (r:List AV) (a:Act),rs[i]?=some r->l[i]?=some a->AR H n r a
def pbC (i:Nat) (p:Pb):List AV:=[numV ((i:Int)+1),numV p.c]++(p.e.enc.map AV.iv++[numV p.s])
def PL (rs:List (List AV)) (l:List Pb):Prop:=rs.length=l.length/\∀(i:Nat) (p:Pb),l[i]?=some p->rs[i]?=some (pbC i p)
theorem AL.nil (H:Hp) (n:Nat):AL H n [] []:=⟨rfl,fun i r a h=>by simp at h⟩
theorem AL.get {H:Hp} {n:Nat} {rs:List (List AV)} {l:List Act} (h:AL H n rs l) {i:Nat} {a:Act} (ha:l[i]?=some a):∃r,rs[i]?=some r/\AR H n r a:=by
 have hi:i<l.length:=(List.getElem?_eq_some_iff.1 ha).1;have:i<rs.length:=by rw[h.1];exact hi
 exact⟨_,List.getElem?_eq_getElem this,h.2 i _ a (List.getElem?_eq_getElem this) ha⟩
theorem AL.mono {H H':Hp} {n n':Nat} {rs:List (List AV)} {l:List Act} (h:AL H n rs l) (hb:∀y b,LB H n y b->LB H' n' y b):AL H' n' rs l:=
 ⟨h.1,fun i r a h1 h2=>by obtain⟨y,e,q⟩:=h.2 i r a h1 h2;exact⟨y,e,hb _ _ q⟩⟩
theorem AL.push {H:Hp} {n:Nat} {rs:List (List AV)} {l:List Act} (h:AL H n rs l) {r:List AV} {a:Act} (hr:AR H n r a):AL H n (rs++[r]) (l++[a]):=by
 refine⟨by simp[h.1],fun i r' a' h1 h2=>?_⟩;by_cases hi:i<rs.length
 ·rw[List.getElem?_append_left hi]at h1;rw[List.getElem?_append_left (by rw[<-h.1];exact hi)]at h2;exact h.2 i r' a' h1 h2
 ·rw[List.getElem?_append_right (by omega)]at h1;rw[List.getElem?_append_right (by rw[<-h.1];omega)]at h2;rw[<-h.1]at h2;cases hj:i - rs.length with
  |zero=>
   rw[hj]at h1 h2;simp only[List.getElem?_cons_zero,Option.some.injEq]at h1 h2;rw[<-h1,<-h2];exact hr
  |succ j=>rw[hj]at h1;simp at h1
theorem AL.set {H:Hp} {n:Nat} {rs:List (List AV)} {l:List Act} (h:AL H n rs l) {i:Nat} {r:List AV} {a:Act} (hr:AR H n r a):AL H n (rs.set i r) (l.set i a):=by
 refine⟨by simp[h.1],fun j r' a' h1 h2=>?_⟩;by_cases hij:i=j
 ·subst hij;have hi:i<rs.length:=by have:=(List.getElem?_eq_some_iff.1 h1).1;simpa using this
  rw[List.getElem?_set_self hi]at h1;rw[List.getElem?_set_self (by rw[<-h.1];exact hi)]at h2;simp only[Option.some.injEq]at h1 h2;rw[<-h1,<-h2];exact hr
 ·rw[List.getElem?_set_ne hij]at h1 h2;exact h.2 j r' a' h1 h2
theorem PL.nil:PL [] []:=⟨rfl,fun i p h=>by simp at h⟩
theorem PL.push {rs:List (List AV)} {l:List Pb} (h:PL rs l) (p:Pb):PL (rs++[pbC l.length p]) (l++[p]):=by
 refine⟨by simp[h.1],fun i q hq=>?_⟩;by_cases hi:i<l.length
 ·rw[List.getElem?_append_left hi]at hq;rw[List.getElem?_append_left (by rw[h.1];exact hi)];exact h.2 i q hq
 ·rw[List.getElem?_append_right (by omega)]at hq;rw[List.getElem?_append_right (by rw[h.1];omega),h.1];cases hj:i - l.length with
  |zero=>
   rw[hj]at hq;simp only[List.getElem?_cons_zero,Option.some.injEq]at hq;have:i=l.length:=by omega
   subst this;subst hq;simp
  |succ j=>rw[hj]at hq;simp at hq
structure LG (lo:Nat) (H:Hp) (n lid:Nat) (h:Hd) (g:Lg) (ya yp yd:AV) (ra rp:List (List AV)):Prop where
 li:4*lo<=lid/\lid<4*n
 at_:get H lid=some (.cells (hdC h++[ya,yp,yd]))
 a:QE 5 H n ya ra
 al:AL H n ra g.acts
 p:QE 15 H n yp rp
 pl:PL rp g.pubs
 d:QI H n yd g.drains
 la:∀k o m w,ya = .own k o m w->4*lo<=k
 lp:∀k o m w,yp = .own k o m w->4*lo<=k
 ld:∀k o m w,yd = .own k o m w->4*lo<=k
 fits:∀a ∈ g.acts,a.fits
theorem LG.ext {lo:Nat} {H H':Hp} {n n' lid:Nat} {h:Hd} {g:Lg} {ya yp yd:AV} {ra rp:List (List AV)} (L:LG lo H n lid h g ya yp yd ra rp) (e:Ext H n H' n'):LG lo H' n' lid h g ya yp yd ra rp:=
 ⟨⟨L.li.1,by have:=L.li.2;have:=e.le;omega⟩,by rw[e.old _ L.li.2];exact L.at_,L.a.mono e.le e.old,L.al.mono fun _ _ q=>q.ext e,L.p.mono e.le e.old,L.pl,QE.mono L.d e.le e.old,L.la,L.lp,L.ld,L.fits⟩
theorem cellsM_iv (x:IV):cellsM (.iv x) = .ret [.iv x]:=rfl
theorem cellsM_agg (cs:List AV):cellsM (.agg cs) = .ret cs:=rfl
theorem QE.cell {e:Nat} {H:Hp} {n:Nat} {y:AV} {rows:List (List AV)} (h:QE e H n y rows):cellsM y = .ret [y]:=by
 rcases h with⟨rfl, -⟩|⟨id,v, -, -,rfl, -⟩<;>rfl
theorem QE.at_ {e:Nat} {H:Hp} {n:Nat} {y:AV} {rows:List (List AV)} (h:QE e H n y rows) {i:Nat} {r:List AV} (hr:rows[i]?=some r):∃id v,id<4*n/\id % 4=0/\y = .own id 0 rows.length v/\get H id=some (.buf v e rows):=by
 rcases h with⟨rfl,rfl⟩|h
 ·simp at hr
 ·exact h
theorem QE.not_ {e:Nat} {H:Hp} {n:Nat} {y:AV} {rows:List (List AV)} (h:QE e H n y rows) {k:Nat} {ob:Ob} (hk:get H k=some ob) (hne:∀v es,ob≠.buf v e es):∀o n w,y≠.own k o n w:=by
 intro o n w e;rcases h with⟨rfl, -⟩|⟨id,v, -, -,rfl,h4⟩
 ·cases e
 ·cases e;rw[hk]at h4;cases h4;exact hne _ _ rfl
theorem QE.push2 {e:Nat} {H:Hp} {n:Nat} {y:AV} {rows:List (List AV)} (h:QE e H n y rows) (hf:Fresh H n) (r:List AV) {g slot:Nat} {H1:Hp} (hg:get H1 g=some (.buf 0 e [r])) (hg0:∀k,k≠g->get H1 k=get H k) (hgn:4*n<=g) (hs:n<=slot) (hgs:g<4*slot) (hr:rows.length+1<=1073741824) :
  ∃y' H',(app e slot false y (.own g 0 1 0)).run H1=some (y',H')/\Fresh H' (slot+1)/\QE e H' (slot+1) y' (rows++[r])/\(∀k,k<4*n->(∀o n w,y≠.own k o n w)->get H' k=get H k)/\(∀k o n w,y' = .own k o n w->k=4*slot\/∃o n w,y = .own k o n w):=by
 have hfs:get H1 (4*slot)=none:=by rw[hg0 _ (by omega)];exact hf _ (by omega)
 have hy1:QE e H1 n y rows:=h.mono (Nat.le_refl _) fun k hk=>hg0 k (by omega)
 obtain⟨y',H',h1,h2,h3,h4⟩:=hy1.push r hg hgn hs hfs hr;have hyo:∀k o n' w,y = .own k o n' w->k<4*n:=fun k o n' w e=>by
  rcases h with⟨rfl, -⟩|⟨id,v,i1, -,rfl, -⟩
  ·cases e
  ·cases e;exact i1
 refine⟨y',H',h1,fun k hk=>?_,h2 _ (by omega),fun k hk hne=>?_,h4⟩
 ·rw[h3 k (fun o n' w e=>by have:=hyo _ _ _ _ e;omega) (by omega),hg0 _ (by omega)];exact hf k (by omega)
 ·rw[h3 k hne (by omega),hg0 _ (by omega)]
theorem bpush {e:Nat} {H H':Hp} {n n' m:Nat} {y:AV} {rows:List (List AV)} (h:QE e H n y rows) (hn:n<=n') {z:AV} (ho:∀k,k<4*n->(∀o n w,z≠.own k o n w)->get H' k=get H k) {e2:Nat} {rz:List (List AV)} (hz:QE e2 H m z rz) (hne:e≠e2):QE e H' n' y rows:=by
 rcases h with h | ⟨id,v,i1,i2,i3,i4⟩
 ·exact .inl h
 ·exact .inr ⟨id,v,by omega,i2,i3,by rw[ho id i1 (hz.not_ i4 fun v' es h=>by cases h;exact hne rfl)];exact i4⟩
theorem lbpush {H H':Hp} {n n' m:Nat} {y:AV} {l:List B} (h:LB H n y l) (hn:n<=n') {z:AV} (ho:∀k,k<4*n->(∀o n w,z≠.own k o n w)->get H' k=get H k) {e2:Nat} {rz:List (List AV)} (hz:QE e2 H m z rz) (hne:16≠e2):LB H' n' y l:=by
 rcases h with h | h | ⟨id,h1,h2,h3⟩
 ·exact .inl h
 ·exact .inr (.inl h)
 ·refine .inr (.inr ⟨id,by omega,h2,?_⟩);rcases h3 with h3 | h3
  ·left;rw[ho id h1 (hz.not_ h3 fun v' es h=>by cases h;exact hne rfl)];exact h3
  ·right;rw[ho id h1 (hz.not_ h3 fun v' es h=>by cases h)];exact h3
theorem QE.setC {e:Nat} {H:Hp} {n:Nat} {y:AV} {rows:List (List AV)} (h:QE e H n y rows) {k:Nat} {cs:List AV} (hk:get H k=some (.cells cs)) (ob:Ob):QE e (Arx.set H k ob) n y rows:=by
 rcases h with h | ⟨id,v,i1,i2,i3,i4⟩
 ·exact .inl h
 ·exact .inr ⟨id,v,i1,i2,i3,by rw[get_set_ne _ _ (fun e=>by subst e;rw[hk]at i4;cases i4)];exact i4⟩
theorem LB.setC {H:Hp} {n:Nat} {y:AV} {l:List B} (h:LB H n y l) {k:Nat} {cs:List AV} (hk:get H k=some (.cells cs)) (ob:Ob):LB (Arx.set H k ob) n y l:=by
 rcases h with h | h | ⟨id,h1,h2,h3⟩
 ·exact .inl h
 ·exact .inr (.inl h)
 ·refine .inr (.inr ⟨id,h1,h2,?_⟩);rw[get_set_ne _ _ (fun e=>by subst e;rw[hk]at h3;rcases h3 with h3 | h3<;>cases h3)];exact h3
theorem LG.pushA {lo:Nat} {H:Hp} {n lid:Nat} {h:Hd} {g:Lg} {ya yp yd:AV} {ra rp:List (List AV)} (L:LG lo H n lid h g ya yp yd ra rp) (hf:Fresh H n) {a:Act} {r:List AV} (hr:AR H n r a) (ha:a.fits) {gid slot n':Nat} (h1:4*n<=gid) (h2:n<=slot) (h3:gid<4*slot) (hn:slot<n') (hlen:ra.length<=1000000) :
  ∃y' H4,(app 5 slot false ya (.own gid 0 1 0)).run (Arx.set H gid (.buf 0 5 [r]))=some (y',H4)/\get H4 lid=some (.cells (hdC h++[ya,yp,yd]))/\Fresh (Arx.set H4 lid (.cells (hdC h++[y',yp,yd]))) n'/\
   LG lo (Arx.set H4 lid (.cells (hdC h++[y',yp,yd]))) n' lid h { g with acts:=g.acts++[a] } y' yp yd (ra++[r]) rp/\(∀k,k<4*lo->get (Arx.set H4 lid (.cells (hdC h++[y',yp,yd]))) k=get H k):=by
 obtain⟨y',H4,p1,p2,p3,p4,p5⟩:=QE.push2 (e:=5) L.a hf r (g:=gid) (slot:=slot) (get_set_same _ _ _) (fun k hk=>get_set_ne _ _ (Ne.symm hk)) h1 h2 h3 (by first | omega | (rw[List.length_map];omega));have hl4:get H4 lid=some (.cells (hdC h++[ya,yp,yd])):=by rw[p4 lid L.li.2 (QE.not_ (e:=5) L.a L.at_ fun v es h=>by cases h)];exact L.at_
 have ho:∀k,k<4*lo->get H4 k=get H k:=fun k hk=>p4 k (by have:=L.li;omega) fun o m w e=>by have:=L.la k o m w e;omega
 refine⟨y',H4,p1,hl4,fun k hk=>?_,?_,fun k hk=>?_⟩
 ·rw[get_set_ne _ _ (by have:=L.li;omega)];exact p2 k (by omega)
 ·have hlb:∀y b,LB H n y b->LB (Arx.set H4 lid (.cells (hdC h++[y',yp,yd]))) n' y b:=fun y b q=>(lbpush q (show n<=n' by omega) p4 L.a (by decide)).setC hl4 _
  exact⟨⟨L.li.1,by have:=L.li;omega⟩,get_set_same _ _ _,(QE.setC (e:=5) (p3.mono (show slot+1<=n' by omega) fun _ _=>rfl) hl4 _),((L.al.mono hlb).push (by obtain⟨y,e,q⟩:=hr;exact⟨y,e,hlb _ _ q⟩)),(QE.setC (bpush (e:=15) L.p (show n<=n' by omega) p4 L.a (by decide)) hl4 _),L.pl,(QE.setC (bpush (e:=1) L.d (show n<=n' by omega) p4 L.a (by decide)) hl4 _),(fun k o m w e=>by rcases p5 k o m w e with q | ⟨o,m,w,q⟩;(have:=L.li;omega);exact L.la k o m w q),L.lp,L.ld,(fun b hb=>by rcases List.mem_append.1 hb with q | q;exact L.fits b q;rw[List.mem_singleton.1 q];exact ha)⟩
 ·rw[get_set_ne _ _ (by have:=L.li;omega)];exact ho k hk
theorem LG.pushP {lo:Nat} {H:Hp} {n lid:Nat} {h:Hd} {g:Lg} {ya yp yd:AV} {ra rp:List (List AV)} (L:LG lo H n lid h g ya yp yd ra rp) (hf:Fresh H n) (p:Pb) {gid slot n':Nat} (h1:4*n<=gid) (h2:n<=slot) (h3:gid<4*slot) (hn:slot<n') (hlen:rp.length<=1000000) :
  ∃y' H4,(app 15 slot false yp (.own gid 0 1 0)).run (Arx.set H gid (.buf 0 15 [(pbC g.pubs.length p)]))=some (y',H4)/\get H4 lid=some (.cells (hdC h++[ya,yp,yd]))/\Fresh (Arx.set H4 lid (.cells (hdC h++[ya,y',yd]))) n'/\
   LG lo (Arx.set H4 lid (.cells (hdC h++[ya,y',yd]))) n' lid h { g with pubs:=g.pubs++[p] } ya y' yd ra (rp++[pbC g.pubs.length p])/\(∀k,k<4*lo->get (Arx.set H4 lid (.cells (hdC h++[ya,y',yd]))) k=get H k):=by
 obtain⟨y',H4,p1,p2,p3,p4,p5⟩:=QE.push2 (e:=15) L.p hf (pbC g.pubs.length p) (g:=gid) (slot:=slot) (get_set_same _ _ _) (fun k hk=>get_set_ne _ _ (Ne.symm hk)) h1 h2 h3 (by first | omega | (rw[List.length_map];omega));have hl4:get H4 lid=some (.cells (hdC h++[ya,yp,yd])):=by rw[p4 lid L.li.2 (QE.not_ (e:=15) L.p L.at_ fun v es h=>by cases h)];exact L.at_
 have ho:∀k,k<4*lo->get H4 k=get H k:=fun k hk=>p4 k (by have:=L.li;omega) fun o m w e=>by have:=L.lp k o m w e;omega
 refine⟨y',H4,p1,hl4,fun k hk=>?_,?_,fun k hk=>?_⟩
 ·rw[get_set_ne _ _ (by have:=L.li;omega)];exact p2 k (by omega)
 ·have hlb:∀y b,LB H n y b->LB (Arx.set H4 lid (.cells (hdC h++[ya,y',yd]))) n' y b:=fun y b q=>(lbpush q (show n<=n' by omega) p4 L.p (by decide)).setC hl4 _
  exact⟨⟨L.li.1,by have:=L.li;omega⟩,get_set_same _ _ _,(QE.setC (bpush (e:=5) L.a (show n<=n' by omega) p4 L.p (by decide)) hl4 _),(L.al.mono hlb),(QE.setC (e:=15) (p3.mono (show slot+1<=n' by omega) fun _ _=>rfl) hl4 _),(L.pl.push p),(QE.setC (bpush (e:=1) L.d (show n<=n' by omega) p4 L.p (by decide)) hl4 _),L.la,(fun k o m w e=>by rcases p5 k o m w e with q | ⟨o,m,w,q⟩;(have:=L.li;omega);exact L.lp k o m w q),L.ld,L.fits⟩
 ·rw[get_set_ne _ _ (by have:=L.li;omega)];exact ho k hk
theorem LG.pushD {lo:Nat} {H:Hp} {n lid:Nat} {h:Hd} {g:Lg} {ya yp yd:AV} {ra rp:List (List AV)} (L:LG lo H n lid h g ya yp yd ra rp) (hf:Fresh H n) (t:Int) {gid slot n':Nat} (h1:4*n<=gid) (h2:n<=slot) (h3:gid<4*slot) (hn:slot<n') (hlen:g.drains.length<=1000000) :
  ∃y' H4,(app 1 slot false yd (.own gid 0 1 0)).run (Arx.set H gid (.buf 0 1 [(numC t)]))=some (y',H4)/\get H4 lid=some (.cells (hdC h++[ya,yp,yd]))/\Fresh (Arx.set H4 lid (.cells (hdC h++[ya,yp,y']))) n'/\
   LG lo (Arx.set H4 lid (.cells (hdC h++[ya,yp,y']))) n' lid h { g with drains:=g.drains++[t] } ya yp y' ra rp/\(∀k,k<4*lo->get (Arx.set H4 lid (.cells (hdC h++[ya,yp,y']))) k=get H k):=by
 obtain⟨y',H4,p1,p2,p3,p4,p5⟩:=QE.push2 (e:=1) L.d hf (numC t) (g:=gid) (slot:=slot) (get_set_same _ _ _) (fun k hk=>get_set_ne _ _ (Ne.symm hk)) h1 h2 h3 (by first | omega | (rw[List.length_map];omega));have hl4:get H4 lid=some (.cells (hdC h++[ya,yp,yd])):=by rw[p4 lid L.li.2 (QE.not_ (e:=1) L.d L.at_ fun v es h=>by cases h)];exact L.at_
 have ho:∀k,k<4*lo->get H4 k=get H k:=fun k hk=>p4 k (by have:=L.li;omega) fun o m w e=>by have:=L.ld k o m w e;omega
 refine⟨y',H4,p1,hl4,fun k hk=>?_,?_,fun k hk=>?_⟩
 ·rw[get_set_ne _ _ (by have:=L.li;omega)];exact p2 k (by omega)
 ·have hlb:∀y b,LB H n y b->LB (Arx.set H4 lid (.cells (hdC h++[ya,yp,y']))) n' y b:=fun y b q=>(lbpush q (show n<=n' by omega) p4 L.d (by decide)).setC hl4 _
  exact⟨⟨L.li.1,by have:=L.li;omega⟩,get_set_same _ _ _,(QE.setC (bpush (e:=5) L.a (show n<=n' by omega) p4 L.d (by decide)) hl4 _),(L.al.mono hlb),(QE.setC (bpush (e:=15) L.p (show n<=n' by omega) p4 L.d (by decide)) hl4 _),L.pl,(by show QE 1 _ _ _ ((g.drains++[t]).map numC);rw[List.map_append];exact QE.setC (p3.mono (show slot+1<=n' by omega) fun _ _=>rfl) hl4 _),L.la,L.lp,(fun k o m w e=>by rcases p5 k o m w e with q | ⟨o,m,w,q⟩;(have:=L.li;omega);exact L.ld k o m w q),L.fits⟩
 ·rw[get_set_ne _ _ (by have:=L.li;omega)];exact ho k hk
end Arx
namespace Arx
open Go Arb
attribute [local simp] evalRgn Option.map_some evalOps step wants isS osem M.run_bind M.mapL M.run M.ok M.fresh M.write M.look M.lift putD ev fr_cons fr_nil keepFr lset_nil lset_cons get_set_same bin binM intBin strBin mk params cellsM load obRead fadr fld isl iarr xarr idx len valid slc rowLen bound store splice un callee Option.bind_some M.bind putAll oo om ol oa oc ob on og od oe ci cb
def aliveN (c:Int) (l:List Act):Nat:=(l.filter fun a=>a.c==c&&a.t==0).length
def ofN (c:Int) (l:List Act):Nat:=(l.filter fun a=>a.c==c).length
def subX (g:Lg) (o:Arb.Op) (now:Int):Lg:=if(ofX o.x).2=0/\aliveN o.c g.acts<6 then { g with acts:=g.acts++[⟨o.c,(ofN o.c g.acts:Int)+1,(ofX o.x).1,now,0⟩] } else g
theorem ofX_fits {x:Xp} (hx:x.ok):(ofX x).1.length<=1000/\∀b ∈ (ofX x).1,b.lim 1000 400:=by
 unfold ofX;split
 ·rename_i hr;obtain⟨hcn,hall⟩:=right_cnt hr;obtain⟨b1,b2⟩:=boxes_lim hx false hall;split
  ·exact⟨by show(boxesX false x).1.length<=1000;omega,fun b hb=>limM (b1 b hb) (by omega) (by omega)⟩
  ·exact⟨by simp,fun b hb=>by simp at hb⟩
 ·exact⟨by simp,fun b hb=>by simp at hb⟩
theorem aliveN_le (c:Int) (l:List Act):aliveN c l<=l.length:=List.length_filter_le _ _
theorem ofN_le (c:Int) (l:List Act):ofN c l<=l.length:=List.length_filter_le _ _
theorem aliveN_take {c:Int} {l:List Act} {i:Nat} {a:Act} (h:l[i]?=some a):aliveN c (l.take (i+1))=aliveN c (l.take i)+if(a.c==c&&a.t==0)=true then 1 else 0:=by
 unfold aliveN;rw[List.take_add_one,h,List.filter_append,List.length_append];cases hb:(a.c==c&&a.t==0)<;>simp[hb]
theorem ofN_take {c:Int} {l:List Act} {i:Nat} {a:Act} (h:l[i]?=some a):ofN c (l.take (i+1))=ofN c (l.take i)+if(a.c==c)=true then 1 else 0:=by
 unfold ofN;rw[List.take_add_one,h,List.filter_append,List.length_append];cases hb:(a.c==c)<;>simp[hb]
structure LibL (p1:Nat->Option Arb.IFn) (p2:Nat->Option IFn):Prop where
 O:LibO p1 p2
 W:LibW p1 p2
 h:LibH p1
 h183:p2 183=some F183
 h177:p2 177=some F177
 h176:p2 176=some F176
 h174:p2 174=some F174
 h196:p2 196=some F196
 h142:p2 142=some F142
 h149:p2 149=some F149
 h195:p2 195=some F195
 h154:p2 154=some F154
 h155:p2 155=some F155
 h199:p2 199=some F199
 h200:p2 200=some F200
 h143:p2 143=some F143
 h150:p2 150=some F150
 h139:p2 139=some F139
 h146:p2 146=some F146
 h197:p2 197=some F197
 h198:p2 198=some F198
 h153:p2 153=some F153
 h205:p2 205=some F205
 h159:p2 159=some F159
section
variable {p1:Nat->Option Arb.IFn} {p2:Nat->Option IFn}
theorem op_at (o:Arb.Op):o.enc.length=24/\o.enc.take 1=[.int .i64 o.k]/\(o.enc.drop 1).take 1=[.int .i64 o.c]/\o.enc.tail.take 1=[.int .i64 o.c]/\(o.enc.drop 2).take 1=[.int .i64 o.u]/\(o.enc.drop 5).take 7=o.x.enc/\(o.enc.drop 12).take 12=o.e.enc:=by
 obtain⟨_,_,_,_,_,x,e⟩:=o;cases x;exact⟨rfl,rfl,rfl,rfl,rfl,rfl,rfl⟩
set_option maxHeartbeats 4000000 in
theorem ev183 (hp2:PrimsLe p2) (L:LibL p1 p2) (x:Hd) (o:Arb.Op) (ho:o.ok) (now lo lid:Nat) (g:Lg) (H:Hp) (nx:Nat) (hf:Fresh H nx) {ya yp yd:AV} {ra rp:List (List AV)} (G:LG lo H nx lid x g ya yp yd ra rp) (hl:g.acts.length<=1000) :
  ∃H' nx' ya' yp' yd' ra' rp',nx<=nx'/\Fresh H' nx'/\LG lo H' nx' lid x (subX g o now) ya' yp' yd' ra' rp'/\(∀k,k<4*lo->get H' k=get H k)/\Ev p1 p2 183 [.ref lid 0 0 0,.iv (.ptr o.enc),.nI now] H nx (.tup [],H',nx'):=by
 obtain⟨o0,o1,o2,o3, -,o5, -⟩:=op_at o;obtain⟨H1,n1,yb,hE1,hyb,hybo,K1,hK1⟩:=ev184 (p1:=p1) hp2 L.O ho.x H (nx+10) (fun k hk=>hf k (by omega));have hbf:=ofX_fits ho.x;have hxl:(o.x.enc).length=7:=o.x.len_enc;unfold subX;generalize ofX o.x=r at *;obtain⟨bs,er⟩:=r;simp only[]at hyb hK1 hbf;generalize o.enc=oe at *;generalize o.x.enc=xe at *;generalize hoc:o.c=c at *;have hE01:Ext H nx H1 n1:=⟨by have:=hE1.le;omega,hE1.fresh,fun k hk=>hE1.old k (by omega)⟩;have G1:=G.ext hE01;have key:Wp p1 p2 F183.body ⟨params [.ref lid 0 0 0,.iv (.ptr oe),.nI now] 0,H,nx⟩ (fun e st=>∃r:AV×Hp×Nat,(r.1 = .tup []/\∃ya' yp' yd' ra' rp',nx<=r.2.2/\Fresh r.2.1 r.2.2/\LG lo r.2.1 r.2.2 lid x (if er=0/\aliveN c g.acts<6 then { g with acts:=g.acts++[⟨c,(ofN c g.acts:Int)+1,bs,now,0⟩] } else g) ya' yp' yd' ra' rp'/\(∀k,k<4*lo->get r.2.1 k=get H k))/\Fin F183.res r e st):=by
  refine Wp.seq ?_;refine Wp.rgn (K:=K1) (s':=⟨[(0,.ref lid 0 0 0),(1,.iv (.ptr oe)),(2,.nI now),(6,yb),(7,.nI er)],H1,n1⟩) (fun n hn=>by
   have hc:=hK1 n hn;simp[o0,o5,hxl,hc]) ?_
  refine Wp.seq ?_;refine Wp.rg ?_;refine Wp.seq (Wp.seq ?_);have hla:=G1.a.len;have hat:=G1.at_;have hral:ra.length=g.acts.length:=G1.al.1;rw[hral]at hla;refine Wp.rgn (K:=0) (s':=⟨[(0,.ref lid 0 0 0),(1,.iv (.ptr oe)),(2,.nI now),(6,yb),(7,.nI er),(8,.nI 0),(9,.nI 0),(23,ya),(24,.nI g.acts.length),(25,.nI 0)],H1,n1+8⟩) (fun n _=>by
   simp[-len,hat,hdC_eq,hla]) ?_
  refine Wp.block ?_;refine Wp.loop (fun m s1=>∃(i n2:Nat) (H2:Hp),i+m=g.acts.length/\Ext H1 n1 H2 n2/\
   s1=⟨[(0,.ref lid 0 0 0),(1,.iv (.ptr oe)),(2,.nI now),(6,yb),(7,.nI er),(8,.nI (aliveN c (g.acts.take i))),(9,.nI (ofN c (g.acts.take i))),(23,ya),(24,.nI g.acts.length),(25,.nI i)],H2,n2⟩) (m:=g.acts.length)
   ⟨0,n1+8,H1,by omega,Ext.refl hE1.fresh (by omega),by simp[fr_cons,keepFr,aliveN,ofN]⟩ ?_
  rintro m s1 ⟨i,n2,H2,him,hE2,rfl⟩;refine Wp.seq ?_;by_cases hi:i<g.acts.length
  ·obtain⟨a,ha⟩:∃a,g.acts[i]?=some a:=⟨_,List.getElem?_eq_getElem hi⟩;have hw1:IntKind.i64.wrap ((i:Int)+1)=(i:Int)+1:=IntWalk.i64_in _ (by omega);have G2:=G1.ext hE2;obtain⟨row,hrow,yrow,rfl,hyrow⟩:=G2.al.get ha;obtain⟨ida,va,i1, -,hya,i4⟩:=G2.a.at_ hrow;rw[hral]at hya;subst hya;have hal:=aliveN_take (c:=c) ha;have hof:=ofN_take (c:=c) ha;have hal9:aliveN c (g.acts.take i)<=1000:=by have:=aliveN_le c (g.acts.take i);rw[List.length_take]at this;omega
   have hof9:ofN c (g.acts.take i)<=1000:=by have:=ofN_le c (g.acts.take i);rw[List.length_take]at this;omega
   generalize aliveN c (g.acts.take i)=A at *;generalize ofN c (g.acts.take i)=N at *;have hwA:IntKind.i64.wrap ((A:Int)+1)=(A:Int)+1:=IntWalk.i64_in _ (by omega);have hwN:IntKind.i64.wrap ((N:Int)+1)=(N:Int)+1:=IntWalk.i64_in _ (by omega);simp only[numV]at hrow;have hfr:get H2 (4*(n2+1+2))=none:=hE2.fresh _ (by omega);have hE3:Ext H1 n1 (Arx.set (Arx.set H2 (4*(n2+1+2)) (.cells [.nI 0,.nI 0,.iv (.nsl 16),.nI 0,.nI 0])) (4*(n2+1+2)) (.cells [.nI a.c,.nI a.u,yrow,.nI a.f,.nI a.t])) (n2+1+4):=
    ((hE2.up (show n2<=n2+1+4 by omega)).set (by have:=hE2.le;omega) (by omega) _).set (by have:=hE2.le;omega) (by omega) _
   generalize hH3:(Arx.set (Arx.set H2 (4*(n2+1+2)) (Ob.cells [.nI 0,.nI 0,.iv (.nsl 16),.nI 0,.nI 0])) (4*(n2+1+2)) (Ob.cells [.nI a.c,.nI a.u,yrow,.nI a.f,.nI a.t]))=H3 at hE3;have h3g:get H3 (4*(n2+1+2))=some (.cells [.nI a.c,.nI a.u,yrow,.nI a.f,.nI a.t]):=by rw[<-hH3];exact get_set_same _ _ _
   refine Wp.rgn (K:=0) (fun n _=>by simp[hi];rfl) ?_;refine Wp.seq (Wp.cond (t:=true) rfl (Wp.skip (Wp.seq (Wp.block (Wp.seq ?_)))));refine Wp.rgn (K:=0) (s':=⟨[(0,.ref lid 0 0 0),(1,.iv (.ptr oe)),(2,.nI now),(6,yb),(7,.nI er),(8,.nI A),(9,.nI N),(11,.ref (4*(n2+1+2)) 0 0 0),(23,.own ida 0 g.acts.length va),(24,.nI g.acts.length),(25,.nI i)],H3,n2+1+4⟩) (fun n _=>by
    rw[<-hH3];simp[i4,hi,hrow,hfr]) ?_
   refine Wp.seq (Wp.drawn rfl ?_);refine Wp.rgn (K:=0) (s':=⟨[(0,.ref lid 0 0 0),(1,.iv (.ptr oe)),(2,.nI now),(6,yb),(7,.nI er),(8,.nI A),(9,.nI N),(11,.ref (4*(n2+1+2)) 0 0 0),(23,.own ida 0 g.acts.length va),(24,.nI g.acts.length),(25,.nI i),(35,.bI (a.c==c))],H3,n2+1+4+7⟩) (fun n _=>by
    simp[h3g,o0,o2,o3]) ?_
   refine Wp.cond rfl ?_;cases hac:a.c==c with
   |false=>
    rw[hac]at hal hof;simp only[Bool.false_and,Bool.false_eq_true,if_false,Nat.add_zero]at hal hof ⊢;refine Wp.skip ?_;simp only[Ex.then,Ex.inBlock];refine Wp.rgn (K:=0) (fun n _=>by simp[hw1];rfl) ?_;exact⟨m - 1,by omega,i+1,_,H3,by omega,hE3.up (show n2+1+4<=n2+1+4+7+2 by omega),by simp[fr_cons,keepFr,hal,hof]⟩
   |true=>
    rw[hac]at hal hof;simp only[Bool.true_and,if_true]at hal hof ⊢;refine Wp.seq ?_;refine Wp.rgn (K:=0) (fun n _=>by simp[hwN];rfl) ?_;refine Wp.seq ?_;refine Wp.rgn (K:=0) (s':=⟨[(0,.ref lid 0 0 0),(1,.iv (.ptr oe)),(2,.nI now),(6,yb),(7,.nI er),(8,.nI A),(9,.nI ((N:Int)+1)),(23,.own ida 0 g.acts.length va),(24,.nI g.acts.length),(25,.nI i),(40,.bI (a.t==0))],H3,n2+1+4+7+3+3⟩) (fun n _=>by
     simp[h3g]) ?_
    refine Wp.cond rfl ?_;cases hat0:a.t==0 with
    |false=>
     rw[hat0]at hal;simp only[Bool.false_eq_true,if_false,Nat.add_zero]at hal ⊢;refine Wp.skip ?_;simp only[Ex.then,Ex.inBlock];refine Wp.rgn (K:=0) (fun n _=>by simp[hw1];rfl) ?_;exact⟨m - 1,by omega,i+1,_,H3,by omega,hE3.up (show n2+1+4<=n2+1+4+7+3+3+2 by omega),by simp[fr_cons,keepFr,hal,hof]⟩
    |true=>
     rw[hat0]at hal;simp only[if_true]at hal ⊢;refine Wp.rgn (K:=0) (fun n _=>by simp[hwA];rfl) ?_;simp only[Ex.then,Ex.inBlock];refine Wp.rgn (K:=0) (fun n _=>by simp[hw1];rfl) ?_;exact⟨m - 1,by omega,i+1,_,H3,by omega,hE3.up (show n2+1+4<=n2+1+4+7+3+3+3+2 by omega),by simp[fr_cons,keepFr,hal,hof]⟩
  ·obtain rfl:i=g.acts.length:=by omega
   refine Wp.rg ?_;refine Wp.seq (Wp.cond (t:=false) rfl (Wp.exit ?_));simp only[Ex.then,Ex.inBlock,if_true];have G2:=G1.ext hE2;have hN9:=ofN_le c g.acts;generalize ofN c g.acts=N at *;generalize aliveN c g.acts=A at *;refine Wp.seq ?_;refine Wp.rgn (K:=0) (s':=⟨[(0,.ref lid 0 0 0),(1,.iv (.ptr oe)),(2,.nI now),(6,yb),(9,.nI N),(49,.bI (decide (er=0)&&decide (A<6)))],H2,n2+1+6⟩) (fun n _=>by
    have h1:(er==0)=decide (er=0):=by by_cases h:er=0<;>simp[h]
    have h2:decide ((A:Int)<6)=decide (A<6):=decide_eq_decide.2 (by omega);cases h0:decide (er=0)<;>simp[h1,h2,h0]) ?_
   refine Wp.cond rfl ?_;by_cases hc:er=0/\A<6
   ·rw[if_pos hc];have:(decide (er=0)&&decide (A<6))=true:=by simp[hc]
    rw[this];simp only[if_true];have hwN:IntKind.i64.wrap ((N:Int)+1)=(N:Int)+1:=IntWalk.i64_in _ (by omega);have G3:=G2.ext (Ext.refl hE2.fresh (show n2<=n2+1+6 by omega));have hf3:Fresh H2 (n2+1+6):=fun k hk=>hE2.fresh k (by omega)
    have hE4:=hE01.trans (hE2.up (show n2<=n2+1+6 by omega));obtain⟨y',H4,q1,q2,q3,q4,q5⟩:=G3.pushA hf3 (a:=⟨c,(N:Int)+1,bs,now,0⟩) (r:=[.nI c,.nI ((N:Int)+1),yb,.nI now,.nI 0]) ⟨yb,rfl,hyb.mono (show n1<=n2+1+6 by have:=hE2.le;omega) hE2.old⟩ hbf (gid:=4*(n2+1+6+14)) (slot:=n2+1+6+15) (n':=n2+1+6+19) (by omega) (by omega) (by omega) (by omega) (by omega);have hat2:=G2.at_;have hfg:get H2 (4*(n2+1+6+14))=none:=hf3 _ (by omega);have hlg:get (Arx.set H2 (4*(n2+1+6+14)) (.buf 0 5 [[.nI c,.nI ((N:Int)+1),yb,.nI now,.nI 0]])) lid=get H2 lid:=get_set_ne _ _ (by have:=G2.li;omega);have hcell:cellsM yb = .ret [yb]:=hyb.cell
    have hcell':cellsM y' = .ret [y']:=q4.a.cell;rw[hdC_eq]at q2 q3 q4 q5 hat2;simp only[List.cons_append,List.nil_append]at q2 q3 q4 q5 hat2;refine Wp.drawn rfl ?_;refine Wp.rgn (K:=0) (s':=⟨[],_,n2+1+6+19⟩) (fun n _=>by
     simp only[Nat.add_assoc]at q1 q2 hfg hlg;simp[-cellsM,cellsM_iv,cellsM_agg,hat2,o0,o2,o3,hwN,hfg,hlg,hcell,hcell',setAll,putAll,Nat.add_assoc,q1,q2];rfl) ?_
    exact⟨(_,_,_),⟨rfl,y',yp,yd,_,rp,by have:=hE4.le;show nx<=n2+1+6+19;omega,q3,q4,fun k hk=>by rw[q5 k hk];exact hE4.old k (by have:=G.li;omega)⟩,rfl,rfl⟩
   ·rw[if_neg hc];have:(decide (er=0)&&decide (A<6))=false:=by
     rw[Bool.eq_false_iff];intro h;exact hc (by simpa using h)
    rw[this];simp only[Bool.false_eq_true,if_false];refine Wp.skip ?_;have hE4:=hE01.trans (hE2.up (show n2<=n2+1+6 by omega));exact⟨(_,_,_),⟨rfl,ya,yp,yd,ra,rp,hE4.le,hE4.fresh,G.ext hE4,fun k hk=>hE4.old k (by have:=G.li;omega)⟩,rfl,rfl⟩
 obtain⟨⟨y,H',nx'⟩,⟨rfl,ya',yp',yd',ra',rp',h1,h2,h3,h4⟩,h5⟩:=Ev.ofx hp2 L.h183 rfl rfl _ key;exact⟨H',nx',ya',yp',yd',ra',rp',h1,h2,h3,h4,h5⟩
end
end Arx
namespace Arx
open Go Arb
def SubOK (x:IV):Prop:=∃sub:List Xp,x = .sl 7 (sub.map Xp.enc)/\sub.length<=maxLen/\∀y ∈ sub,y.ok
theorem fit_int {k:IntKind} {x:IV} (h:Fit (.int k) x):∃n,x = .int k n/\(Lit.int k n).wf=true:=by cases h;exact⟨_,rfl,by assumption⟩
theorem fit_str {x:IV} (h:Fit .str x):∃s,x = .str s/\s.size<=maxLen:=by cases h;exact⟨_,rfl,by assumption⟩
theorem fit_bool {x:IV} (h:Fit .bool x):∃s,x = .bool s:=by cases h;exact⟨_,rfl⟩
theorem fit_sl {es:List Sh} {x:IV} (h:Fit (.sl es) x):∃rows,x = .sl es.length rows/\rows.length<=maxLen/\∀r ∈ rows,FitL es r:=by cases h;exact⟨_,rfl,by assumption,by assumption⟩
theorem FitL.one {a:Sh} {ss:List Sh} {xs:List IV} (h:FitL (a::ss) xs):∃x r,xs=x::r/\Fit a x/\FitL ss r:=by cases h;exact⟨_,_,rfl,by assumption,by assumption⟩
theorem FitL.none {xs:List IV} (h:FitL [] xs):xs=[]:=by cases h;rfl
theorem FitL.split:∀{ss ts:List Sh} {xs:List IV},FitL (ss++ts) xs->∃a b,xs=a++b/\FitL ss a/\FitL ts b
 |[],_,xs,h=>⟨[],xs,rfl,.nil,h⟩
 |_::_,_,_,.cons h hs=>by
  obtain⟨a,b,rfl,ha,hb⟩:=FitL.split hs;exact⟨_::a,b,rfl,.cons h ha,hb⟩
def shSet:List Sh:=[.bool,.sl [.int .i64,.int .i64],.bool,.sl [.str]]
def shVal:List Sh:=[.int .i64,.int .i64,.str]
def shEv:List Sh:=shVal++(shVal++(shVal++shVal))
def shOp:List Sh:=[.int .i64,.int .i64,.int .i64,.int .i64,.int .i64]++(shExpr++shEv)
def shHd:List Sh:=[.sl [.int .i64],.sl [.int .i64],.int .i64,.int .u64]
theorem fit_rng {r:List IV} (h:FitL [.int .i64,.int .i64] r):∃p,r=rng p/\(in64 p.1/\in64 p.2):=by
 obtain⟨x,r,rfl,hx,h⟩:=h.one;obtain⟨y,r,rfl,hy,h⟩:=h.one;obtain rfl:=h.none;obtain⟨n,rfl,hn⟩:=fit_int hx;obtain⟨m,rfl,hm⟩:=fit_int hy;exact⟨(n,m),rfl,wf64 hn,wf64 hm⟩
theorem fit_st1 {r:List IV} (h:FitL [.str] r):∃p,r=st1 p/\p.size<=maxLen:=by
 obtain⟨x,r,rfl,hx,h⟩:=h.one;obtain rfl:=h.none;obtain⟨n,rfl,hn⟩:=fit_str hx;exact⟨n,rfl,hn⟩
theorem fit_set {xs:List IV} (h:FitL shSet xs):∃s:S,xs=s.enc/\s.ok:=by
 obtain⟨a,_,rfl,ha,h⟩:=h.one;obtain⟨b,_,rfl,hb,h⟩:=h.one;obtain⟨c,_,rfl,hc,h⟩:=h.one;obtain⟨d,_,rfl,hd,h⟩:=h.one;obtain rfl:=h.none;obtain⟨va,rfl⟩:=fit_bool ha;obtain⟨vc,rfl⟩:=fit_bool hc;obtain⟨rows,rfl,hr1,hr2⟩:=fit_sl hb;obtain⟨strs,rfl,hs1,hs2⟩:=fit_sl hd;obtain⟨l,rfl,hl⟩:=rows_map rng (fun p=>in64 p.1/\in64 p.2) rows fun r hr=>fit_rng (hr2 r hr)
 obtain⟨t,rfl,ht⟩:=rows_map st1 (fun p=>p.size<=maxLen) strs fun r hr=>fit_st1 (hs2 r hr)
 exact⟨⟨va,l,vc,t⟩,rfl,by rwa [List.length_map]at hr1,by rwa [List.length_map]at hs1,hl,ht⟩
theorem exp_of {r:List IV} (h:FitL shExpr r) (hs:∃x,r[6]?=some x/\SubOK x):∃X:Xp,r=X.enc/\X.ok:=by
 obtain⟨k,_,rfl,hk,h⟩:=FitL.one h;obtain⟨a,_,rfl,ha,h⟩:=FitL.one h;obtain⟨c1,_,rfl,h1,h⟩:=FitL.one h;obtain⟨c2,_,rfl,h2,h⟩:=FitL.one h;obtain⟨c3,_,rfl,h3,h⟩:=FitL.one h;obtain⟨c4,_,rfl,h4,h⟩:=FitL.one h;obtain⟨c5,_,rfl,h5,h⟩:=FitL.one h;obtain rfl:=FitL.none h;obtain⟨k,rfl,hk'⟩:=fit_int hk;obtain⟨a,rfl,ha'⟩:=fit_int ha;obtain⟨x,hx,sub,rfl,hl,hok⟩:=hs;simp at hx;subst hx;obtain⟨s,hs,hsok⟩:=fit_set (.cons h1 (.cons h2 (.cons h3 (.cons h4 .nil))));refine⟨.mk k a s sub,?_,.mk (wf64 hk') (wf64 ha') hsok hl hok⟩;simp only[S.enc,List.cons.injEq,and_true]at hs;obtain⟨rfl,rfl,rfl,rfl⟩:=hs;simp[Xp.enc,Xp.encs_map]
theorem sub_of_fit {s:Sh} {x:IV} (h:Fit s x):s = .ex->SubOK x:=by
 refine Fit.rec (motive_1:=fun s x _=>s=Sh.ex->SubOK x) (motive_2:=fun ss xs _=>∀i:Nat,ss[i]?=some Sh.ex->∃x,xs[i]?=some x/\SubOK x) ?_ ?_ ?_ ?_ ?_ ?_ ?_ h
 ·intro b h;cases h
 ·intro k n hw h;cases h
 ·intro s hs h;cases h
 ·intro es rows hl hr ih h;cases h
 ·intro rows hl hr ih _;obtain⟨sub,rfl,hok⟩:=rows_map Xp.enc Xp.ok rows fun r hr'=>exp_of (hr r hr') (ih r hr' 6 rfl)
  exact⟨sub,rfl,by rwa [List.length_map]at hl,hok⟩
 ·intro i hi;simp at hi
 ·intro s ss x xs h hs ih1 ih2 i hi;cases i with
  |zero=>
   simp at hi;exact⟨x,rfl,ih1 hi⟩
  |succ i=>exact ih2 i (by simpa using hi)
theorem fit_exp {r:List IV} (h:FitL shExpr r):∃X:Xp,r=X.enc/\X.ok:=by
 refine exp_of h ?_;obtain⟨_,_,rfl,_,h⟩:=FitL.one h;obtain⟨_,_,rfl,_,h⟩:=FitL.one h;obtain⟨_,_,rfl,_,h⟩:=FitL.one h;obtain⟨_,_,rfl,_,h⟩:=FitL.one h;obtain⟨_,_,rfl,_,h⟩:=FitL.one h;obtain⟨_,_,rfl,_,h⟩:=FitL.one h;obtain⟨x,_,rfl,h6,h⟩:=FitL.one h;exact⟨x,rfl,sub_of_fit h6 rfl⟩
theorem fit_val {xs:List IV} (h:FitL shVal xs):∃v:V,xs=v.enc/\(in64 v.k/\in64 v.n/\v.s.size<=maxLen):=by
 obtain⟨a,_,rfl,ha,h⟩:=h.one;obtain⟨b,_,rfl,hb,h⟩:=h.one;obtain⟨c,_,rfl,hc,h⟩:=h.one;obtain rfl:=h.none;obtain⟨k,rfl,hk⟩:=fit_int ha;obtain⟨n,rfl,hn⟩:=fit_int hb;obtain⟨s,rfl,hs⟩:=fit_str hc;exact⟨⟨k,n,s⟩,rfl,wf64 hk,wf64 hn,hs⟩
theorem fit_ev {xs:List IV} (h:FitL shEv xs):∃e:E,xs=e.enc/\∀i,i<4->in64 (e.get i).k/\in64 (e.get i).n/\(e.get i).s.size<=maxLen:=by
 obtain⟨_,r1,rfl,h0,h⟩:=FitL.split h;obtain⟨_,r2,rfl,h1,h⟩:=FitL.split h;obtain⟨_,_,rfl,h2,h3⟩:=FitL.split h;obtain⟨v0,rfl,k0⟩:=fit_val h0;obtain⟨v1,rfl,k1⟩:=fit_val h1;obtain⟨v2,rfl,k2⟩:=fit_val h2;obtain⟨v3,rfl,k3⟩:=fit_val h3;refine⟨⟨v0,v1,v2,v3⟩,rfl,fun i hi=>?_⟩
 match i,hi with
 |0,_=>exact k0
 |1,_=>exact k1
 |2,_=>exact k2
 |3,_=>exact k3
theorem fit_op {xs:List IV} (h:FitL shOp xs):∃o:Arb.Op,xs=o.enc/\o.ok:=by
 obtain⟨a,_,rfl,ha,h⟩:=FitL.one h;obtain⟨b,_,rfl,hb,h⟩:=FitL.one h;obtain⟨c,_,rfl,hc,h⟩:=FitL.one h;obtain⟨d,_,rfl,hd,h⟩:=FitL.one h;obtain⟨e,_,rfl,he,h⟩:=FitL.one h;obtain⟨x,v,rfl,hx,hv⟩:=FitL.split (ss:=shExpr) (ts:=shEv) h;obtain⟨a,rfl,ha'⟩:=fit_int ha;obtain⟨b,rfl,hb'⟩:=fit_int hb;obtain⟨c,rfl,hc'⟩:=fit_int hc;obtain⟨d,rfl,hd'⟩:=fit_int hd;obtain⟨e,rfl,he'⟩:=fit_int he;obtain⟨X,rfl,hX⟩:=fit_exp hx;obtain⟨E,rfl,hE⟩:=fit_ev hv;exact⟨⟨a,b,c,d,e,X,E⟩,rfl,wf64 ha',wf64 hb',wf64 hc',wf64 hd',wf64 he',hX,hE⟩
theorem fit_num {r:List IV} (h:FitL [.int .i64] r):∃n:Int,r=num1 n/\in64 n:=by
 obtain⟨x,r,rfl,hx,h⟩:=h.one;obtain rfl:=h.none;obtain⟨n,rfl,hn⟩:=fit_int hx;exact⟨n,rfl,wf64 hn⟩
theorem fz_ivs (w:Bool) (n:Nat):∀l:List IV,l.all notNil=true->M.mapL (fz w (n+1)) (l.map AV.iv) = .ret l
 |[],_=>by simp[M.mapL]
 |x::r,h=>by
  simp only[List.all_cons,Bool.and_eq_true]at h;have ih:=fz_ivs w n r h.2;cases x with
  |nsl e=>simp[notNil]at h
  |_=>rw[List.map_cons,M.mapL,ih];rfl
def endM (c u:Int) (a:Act):Bool:=a.c==c&&(a.u==u&&a.t==0)
def endX (c u now:Int) (l:List Act):List Act:=if 0<=idxF (endM c u) l 0 then l.modify (idxF (endM c u) l 0).toNat (fun a=>{ a with t:=now }) else l
theorem endX_len (c u now:Int) (l:List Act):(endX c u now l).length=l.length:=by unfold endX;split<;>simp
def outC (h:Hd) (c:Int):Bool:=decide (c<0)||decide ((h.hs.length:Int)<=c)
def stepX (h:Hd) (g:Lg) (i:Nat) (o:Arb.Op):Lg:=
 let g1:Lg:=if o.k=5 then { g with drains:=g.drains++[(i:Int)+1] } else g
 if outC h o.c=true then g1
 else if o.k=1 then subX g1 o ((i:Int)+1)
 else if o.k=2 then { g1 with acts:=endX o.c o.u ((i:Int)+1) g1.acts }
 else if o.k=3 then(if rightE o.e=true then { g1 with pubs:=g1.pubs++[⟨o.c,o.e,(i:Int)+1⟩] } else g1)
 else g1
def readTo (h:Hd) (l:List Arb.Op):Nat->Lg
 |0=>⟨[],[],[]⟩
 |t+1=>match l[t]? with
  |some o=>stepX h (readTo h l t) t o
  |none=>readTo h l t
def readX (h:Hd) (l:List Arb.Op):Lg:=if checkH h=0 then readTo h l l.length else⟨[],[],[]⟩
theorem subX_len (g:Lg) (o:Arb.Op) (now:Int):(subX g o now).acts.length<=g.acts.length+1/\(subX g o now).pubs=g.pubs/\(subX g o now).drains=g.drains:=by
 unfold subX;split<;>simp
theorem stepX_len (h:Hd) (g:Lg) (i:Nat) (o:Arb.Op):(stepX h g i o).acts.length<=g.acts.length+1/\(stepX h g i o).pubs.length<=g.pubs.length+1/\(stepX h g i o).drains.length<=g.drains.length+1:=by
 unfold stepX;simp only[];have h1:(if o.k=5 then { g with drains:=g.drains++[(i:Int)+1] } else g).acts.length=g.acts.length:=by split<;>rfl
 have h2:(if o.k=5 then { g with drains:=g.drains++[(i:Int)+1] } else g).pubs.length=g.pubs.length:=by split<;>rfl
 have h3:(if o.k=5 then { g with drains:=g.drains++[(i:Int)+1] } else g).drains.length<=g.drains.length+1:=by split<;>simp
 generalize(if o.k=5 then { g with drains:=g.drains++[(i:Int)+1] } else g)=g1 at *;have hs:=subX_len g1 o ((i:Int)+1);split
 ·omega
 ·split
  ·rw[hs.2.1,hs.2.2];omega
  ·split
   ·simp only[endX_len];omega
   ·split
    ·split
     ·simp only[List.length_append,List.length_cons,List.length_nil];omega
     ·omega
    ·omega
theorem readTo_len (h:Hd) (l:List Arb.Op):∀t,(readTo h l t).acts.length<=t/\(readTo h l t).pubs.length<=t/\(readTo h l t).drains.length<=t
 |0=>by simp[readTo]
 |t+1=>by
  have ih:=readTo_len h l t;unfold readTo;split
  ·rename_i o _;have:=stepX_len h (readTo h l t) t o;omega
  ·omega
theorem QE.setB {e:Nat} {H:Hp} {n:Nat} {y:AV} {rows:List (List AV)} (h:QE e H n y rows) {k v e':Nat} {es:List (List AV)} (hk:get H k=some (.buf v e' es)) (hne:e≠e') (ob:Ob):QE e (Arx.set H k ob) n y rows:=by
 rcases h with h | ⟨id,v,i1,i2,i3,i4⟩
 ·exact .inl h
 ·exact .inr ⟨id,v,i1,i2,i3,by rw[get_set_ne _ _ (fun e=>by subst e;rw[hk]at i4;cases i4;exact hne rfl)];exact i4⟩
theorem LB.setB {H:Hp} {n:Nat} {y:AV} {l:List B} (h:LB H n y l) {k v e':Nat} {es:List (List AV)} (hk:get H k=some (.buf v e' es)) (hne:16≠e') (ob:Ob):LB (Arx.set H k ob) n y l:=by
 rcases h with h | h | ⟨id,h1,h2,h3⟩
 ·exact .inl h
 ·exact .inr (.inl h)
 ·refine .inr (.inr ⟨id,h1,h2,?_⟩);rw[get_set_ne _ _ (fun e=>by
   subst e;rw[hk]at h3;rcases h3 with h3 | h3
   ·cases h3;exact hne rfl
   ·cases h3)]
  exact h3
theorem LG.setA {lo:Nat} {H:Hp} {n lid:Nat} {h:Hd} {g:Lg} {yp yd:AV} {ra rp:List (List AV)} {ida va:Nat} (L:LG lo H n lid h g (.own ida 0 ra.length va) yp yd ra rp) (hid:get H ida=some (.buf va 5 ra)) (hlt:ida<4*n) (hm:ida % 4=0) {i:Nat} {a:Act} {r:List AV} (hr:AR H n r a) (ha:a.fits) :
  LG lo (Arx.set H ida (.buf va 5 (ra.set i r))) n lid h { g with acts:=g.acts.set i a } (.own ida 0 ra.length va) yp yd (ra.set i r) rp:=by
 have hlb:∀y b,LB H n y b->LB (Arx.set H ida (.buf va 5 (ra.set i r))) n y b:=fun y b q=>q.setB hid (by decide) _
 refine⟨L.li,?_,?_,(L.al.mono hlb).set (by obtain⟨y,e,q⟩:=hr;exact⟨y,e,hlb _ _ q⟩),L.p.setB hid (by decide) _,L.pl,QE.setB L.d hid (by decide) _,L.la,L.lp,L.ld,fun b hb=>?_⟩
 ·rw[get_set_ne _ _ (fun e=>by rw[e]at hid;have:=L.at_;rw[hid]at this;cases this)];exact L.at_
 ·exact .inr ⟨ida,va,hlt,hm,by simp,get_set_same _ _ _⟩
 ·rcases List.mem_or_eq_of_mem_set hb with q | q
  ·exact L.fits b q
  ·rw[q];exact ha
section
variable {p1:Nat->Option Arb.IFn} {p2:Nat->Option IFn}
theorem callCheck (L:LibL p1 p2) (x:Hd) (hp:x.ps.length<=100) (hh:x.hs.length<=100):∃K,∀m,K<=m->∀(H:Hp),(callM (one p1 m) (.iv (.fn 131 [])) [.agg (hdC x)]).run H=some (.nI (checkH x),H):=by
 obtain⟨K1,hK1⟩:=x_check L.W.T.h131 x (by unfold maxLen;omega) (by unfold maxLen;omega);refine⟨K1,fun m hm H=>?_⟩;have e1:(one p1 m 131 [.agg (x.enc.map Arb.AV.iv)] []).bind shut=some (.nI (checkH x)):=hK1 m (by omega);have hz:∀w,fz1 w (.agg (hdC x)) = .ret (.agg (x.enc.map Arb.AV.iv)):=fun w=>by
  unfold fz1;simp only[];rw[hd_fz8];rfl
 simp[callM,callee,M.run_bind,M.lift,M.run,M.mapL,hz,e1,ofA,of1,M.ok,flat,flat1,flat0,flatI,M.bind]
theorem callEvent (L:LibL p1 p2) (e:E):∃K,∀m,K<=m->∀(H:Hp),(callM (one p1 m) (.iv (.fn 137 [])) [.agg (e.enc.map AV.iv)]).run H=some (.bI (rightE e),H):=by
 obtain⟨K1,hK1⟩:=x_event L.h.h138 L.h.h137 e;refine⟨K1,fun m hm H=>?_⟩;have e1:(one p1 m 137 [.agg (e.enc.map Arb.AV.iv)] []).bind shut=some (.bI (rightE e)):=hK1 m (by omega);have hz:fz1 false (.agg (e.enc.map AV.iv)) = .ret (.agg (e.enc.map Arb.AV.iv)):=by
  unfold fz1;simp only[];rw[fz_ivs false 7 e.enc e.enc_all];rfl
 simp[callM,callee,M.run_bind,M.lift,M.run,M.mapL,hz,e1,ofA,of1,M.ok,flat,flat1,flat0,flatI,M.bind]
end
end Arx
namespace Arx
open Go Arb
attribute [local simp] evalRgn Option.map_some evalOps step wants isS osem M.run_bind M.mapL M.run M.ok M.fresh M.write M.look M.lift putD ev fr_cons fr_nil keepFr lset_nil lset_cons get_set_same bin binM intBin strBin mk params cellsM load obRead fadr fld isl iarr xarr idx len valid slc rowLen bound store splice un callee Option.bind_some M.bind putAll oo om ol oa oc ob on og od oe ci cb
def opBlk:IC:=match F177.body with
 |.seq _ (.scope (.seq _ (.seq _ (.seq _ (.seq (.seq _ (.block _ (.loop _ (.seq _ (.seq _ (.seq (.block _ (.seq _ (.seq _ c))) _)))))) _)))))=>c
 |_=>.skip
def endBlk:IC:=match opBlk with
 |.seq _ (.seq _ (.seq _ (.block _ (.seq _ (.cond _ _ (.seq _ (.cond _ e _)))))))=>e
 |_=>.skip
structure FRB (fr:Fr) (scr box:AV) (lid:Nat) (N i:Int):Prop where
 g1:get fr 1=some scr
 g2:get fr 2=some box
 g5:get fr 5=some (.ref lid 0 0 0)
 g19:get fr 19=some (.iv (.int .i64 N))
 g20:get fr 20=some (.iv (.int .i64 i))
section
variable {p1:Nat->Option Arb.IFn} {p2:Nat->Option IFn}
set_option maxHeartbeats 4000000 in
theorem read_end (scr box:AV) (N i:Int) (x:Hd) (o:Arb.Op) (now lo lid:Nat) (g:Lg) (H:Hp) (nx:Nat) (hf:Fresh H nx) {ya yp yd:AV} {ra rp:List (List AV)} (G:LG lo H nx lid x g ya yp yd ra rp) (hl:g.acts.length<=1000) :
  Wp p1 p2 endBlk ⟨[(1,scr),(2,box),(5,.ref lid 0 0 0),(7,.iv (.ptr o.enc)),(8,.nI now),(19,.nI N),(20,.nI i),(61,.nI o.k),(68,.bI true)],H,nx⟩
   (fun e st=>(e = .norm\/e = .exit 1)/\∃ya' yp' yd' ra' rp',FRB st.fr scr box lid N i/\nx<=st.nx/\Fresh st.hp st.nx/\LG lo st.hp st.nx lid x { g with acts:=endX o.c o.u now g.acts } ya' yp' yd' ra' rp'/\(∀k,k<4*lo->get st.hp k=get H k)):=by
 obtain⟨o0,o1,o2,o3,o4, -, -⟩:=op_at o;unfold endX;generalize o.enc=oe at *;generalize o.c=c at *;generalize o.u=u at *;have hla:=G.a.len;have hat:=G.at_;have hral:ra.length=g.acts.length:=G.al.1;rw[hral]at hla;refine Wp.seq ?_;refine Wp.rgn (K:=0) (s':=⟨[(1,scr),(2,box),(5,.ref lid 0 0 0),(7,.iv (.ptr oe)),(8,.nI now),(19,.nI N),(20,.nI i),(74,.nI g.acts.length),(75,.nI 0)],H,nx+6⟩) (fun n _=>by
  simp[-len,hat,hdC_eq,hla]) ?_
 refine Wp.block ?_;refine Wp.loop (fun m s1=>∃(j n2:Nat),j+m=g.acts.length/\nx<=n2/\idxF (endM c u) (g.acts.drop j) j=idxF (endM c u) g.acts 0/\
  s1=⟨[(1,scr),(2,box),(5,.ref lid 0 0 0),(7,.iv (.ptr oe)),(8,.nI now),(19,.nI N),(20,.nI i),(74,.nI g.acts.length),(75,.nI j)],H,n2⟩) (m:=g.acts.length)
  ⟨0,nx+6,by omega,by omega,rfl,by simp[fr_cons,keepFr]⟩ ?_
 rintro m s1 ⟨j,n2,hjm,hn2,hidx,rfl⟩;refine Wp.seq ?_;by_cases hj:j<g.acts.length
 ·obtain⟨a,ha⟩:∃a,g.acts[j]?=some a:=⟨_,List.getElem?_eq_getElem hj⟩;have hw1:IntKind.i64.wrap ((j:Int)+1)=(j:Int)+1:=IntWalk.i64_in _ (by omega);rw[idxF_cons ha]at hidx;obtain⟨row,hrow,yrow,rfl,hyrow⟩:=G.al.get ha;obtain⟨ida,va,i1,i2,hya,i4⟩:=G.a.at_ hrow;have G0:=G;rw[hya]at G0;rw[hral]at hya;have hgE:{ g with acts:=g.acts.set j { a with t:=now } }=({ acts:=g.acts.set j { a with t:=now },pubs:=g.pubs,drains:=g.drains }:Lg):=rfl;simp only[numV]at hrow;refine Wp.rgn (K:=0) (fun n _=>by simp[hj];rfl) ?_;refine Wp.seq (Wp.cond (t:=true) rfl (Wp.skip (Wp.seq (Wp.block (Wp.seq ?_)))));refine Wp.rg ?_
  refine Wp.seq ?_;rw[hya,hdC_eq]at hat;refine Wp.rgn (K:=0) (s':=⟨[(1,scr),(2,box),(5,.ref lid 0 0 0),(7,.iv (.ptr oe)),(8,.nI now),(10,.ref ida va j 0),(19,.nI N),(20,.nI i),(74,.nI g.acts.length),(75,.nI j)],H,n2+1+2+7⟩) (fun n _=>by
   simp[hat,i4,hj]) ?_
  refine Wp.seq (Wp.drawn rfl ?_);refine Wp.rgn (K:=0) (s':=⟨[(1,scr),(2,box),(5,.ref lid 0 0 0),(7,.iv (.ptr oe)),(8,.nI now),(10,.ref ida va j 0),(19,.nI N),(20,.nI i),(74,.nI g.acts.length),(75,.nI j),(110,.bI (endM c u a))],H,n2+1+2+7+27⟩) (fun n _=>by
   unfold endM;cases h1:a.c==c<;>cases h2:a.u==u<;>simp[i4,hrow,o0,o2,o3,o4,h1,h2]) ?_
  refine Wp.cond rfl ?_;cases hm:endM c u a with
  |true=>
   rw[hm]at hidx;simp only[if_true]at hidx ⊢;have hsp:splice [AV.iv (IV.int IntKind.i64 a.c),AV.iv (IV.int IntKind.i64 a.u),yrow,AV.iv (IV.int IntKind.i64 a.f),AV.iv (IV.int IntKind.i64 a.t)] 4 [.nI now]=[AV.iv (IV.int IntKind.i64 a.c),AV.iv (IV.int IntKind.i64 a.u),yrow,AV.iv (IV.int IntKind.i64 a.f),AV.iv (IV.int IntKind.i64 now)]:=rfl;refine Wp.seq ?_;refine Wp.rgn (K:=0) (s':=⟨[(1,scr),(2,box),(5,.ref lid 0 0 0),(19,.nI N),(20,.nI i)],Arx.set H ida (.buf va 5 (ra.set j [AV.iv (IV.int IntKind.i64 a.c),AV.iv (IV.int IntKind.i64 a.u),yrow,AV.iv (IV.int IntKind.i64 a.f),AV.iv (IV.int IntKind.i64 now)])),n2+1+2+7+27+5⟩) (fun n _=>by
    simp[i4,hrow]) ?_
   refine Wp.exit ?_;simp only[Ex.then,Ex.inBlock,if_true,if_false,reduceIte,show ¬(1=4) by decide,show ¬(1=3) by decide];have G1:=G0.ext (Ext.refl hf (show nx<=n2+1+2+7+27+5 by omega));have haf:a.fits:=G.fits a (List.mem_of_getElem? ha);have G2:=G1.setA i4 (by omega) i2 (i:=j) (a:={ a with t:=now }) (r:=[AV.iv (IV.int IntKind.i64 a.c),AV.iv (IV.int IntKind.i64 a.u),yrow,AV.iv (IV.int IntKind.i64 a.f),AV.iv (IV.int IntKind.i64 now)]) ⟨yrow,rfl,hyrow.mono (by omega) fun _ _=>rfl⟩ haf;rw[<-hidx];have hmod:g.acts.modify (j:Int).toNat (fun a=>{ a with t:=now })=g.acts.set j { a with t:=now }:=by
    rw[Int.toNat_natCast];apply List.ext_getElem?;intro k;rw[List.getElem?_modify];by_cases hk:j=k
    ·subst hk;rw[List.getElem?_set_self hj,ha];simp
    ·rw[List.getElem?_set_ne hk];simp[hk]
   rw[if_pos (show(0:Int)<=(j:Int) by omega),hmod];have hlo:4*lo<=ida:=G0.la _ _ _ _ rfl;have hidn:ida<4*nx:=by rcases G0.a with⟨h, -⟩|⟨id',v',q1, -,q3, -⟩;(cases h);(cases q3;exact q1)
   exact⟨by simp,_,_,_,_,_,⟨rfl,rfl,rfl,rfl,rfl⟩,by show nx<=n2+1+2+7+27+5;omega,fun k hk=>by
    show get (Arx.set H ida _) k=none
    rw[get_set_ne _ _ (by have:4*(n2+1+2+7+27+5)<=k:=hk;omega)];exact hf k (by have:4*(n2+1+2+7+27+5)<=k:=hk;omega),G2,fun k hk=>get_set_ne _ _ (by omega)⟩
  |false=>
   rw[hm]at hidx;simp only[Bool.false_eq_true,if_false]at hidx ⊢;refine Wp.skip ?_;simp only[Ex.then,Ex.inBlock];refine Wp.rgn (K:=0) (fun n _=>by simp[hw1];rfl) ?_;exact⟨m - 1,by omega,j+1,_,by omega,by show nx<=n2+1+2+7+27+2;omega,hidx,by simp[fr_cons,keepFr]⟩
 ·obtain rfl:j=g.acts.length:=by omega
  refine Wp.rg ?_;refine Wp.seq (Wp.cond (t:=false) rfl (Wp.exit ?_));simp only[Ex.then,Ex.inBlock,if_true];rw[List.drop_length]at hidx;have:¬0<=idxF (endM c u) g.acts 0:=by rw[<-hidx];simp[idxF]
  rw[if_neg this];have hE:=Ext.refl hf (show nx<=n2+1 by omega);exact⟨by simp,_,_,_,_,_,⟨rfl,rfl,rfl,rfl,rfl⟩,by show nx<=n2+1;omega,hE.fresh,G.ext hE,by simp⟩
end
structure FR7 (fr:Fr) (scr box:AV) (lid:Nat) (N i:Int) (oe:List IV) (now:Nat):Prop extends FRB fr scr box lid N i where
 g7:get fr 7=some (.iv (.ptr oe))
 g8:get fr 8=some (.iv (.int .i64 now))
def drainC:IC:=match opBlk with
 |.seq c _=>c
 |_=>.skip
section
variable {p1:Nat->Option Arb.IFn} {p2:Nat->Option IFn}
set_option maxHeartbeats 4000000 in
theorem read_drain (scr box:AV) (N i:Int) (x:Hd) (o:Arb.Op) (now lo lid:Nat) (g:Lg) (H:Hp) (nx:Nat) (hf:Fresh H nx) {ya yp yd:AV} {ra rp:List (List AV)} (G:LG lo H nx lid x g ya yp yd ra rp) (hl:g.drains.length<=1000) :
  Wp p1 p2 drainC ⟨[(1,scr),(2,box),(5,.ref lid 0 0 0),(7,.iv (.ptr o.enc)),(8,.nI now),(19,.nI N),(20,.nI i)],H,nx⟩
   (fun e st=>e = .norm/\∃ya' yp' yd' ra' rp',FR7 st.fr scr box lid N i o.enc now/\nx<=st.nx/\Fresh st.hp st.nx/\LG lo st.hp st.nx lid x (if o.k=5 then { g with drains:=g.drains++[(now:Int)] } else g) ya' yp' yd' ra' rp'/\(∀k,k<4*lo->get st.hp k=get H k)):=by
 obtain⟨o0,o1,o2,o3,o4, -, -⟩:=op_at o;generalize o.enc=oe at *;generalize o.k=k at *;refine Wp.seq ?_;refine Wp.rgn (K:=0) (s':=⟨[(1,scr),(2,box),(5,.ref lid 0 0 0),(7,.iv (.ptr oe)),(8,.nI now),(19,.nI N),(20,.nI i),(32,.bI (decide (k=5)))],H,nx+5⟩) (fun n _=>by
  have:(k==5)=decide (k=5):=by by_cases h:k=5<;>simp[h]
  simp[o0,o1,this]) ?_
 refine Wp.cond rfl ?_;by_cases hk:k=5
 ·rw[decide_eq_true hk,if_pos hk];simp only[if_true];have G1:=G.ext (Ext.refl hf (show nx<=nx+5 by omega));obtain⟨y',H4,q1,q2,q3,q4,q5⟩:=G1.pushD (fun k hk=>hf k (by omega)) (now:Int) (gid:=4*(nx+5+6)) (slot:=nx+5+7) (n':=nx+5+11) (by omega) (by omega) (by omega) (by omega) (by omega);have hat2:=G.at_;have hfg:get H (4*(nx+5+6))=none:=hf _ (by omega);have hlg:get (Arx.set H (4*(nx+5+6)) (.buf 0 1 [numC now])) lid=get H lid:=get_set_ne _ _ (by have:=G.li;omega);have hcell':cellsM y' = .ret [y']:=QE.cell (e:=1) q4.d;rw[hdC_eq]at q2 q3 q4 q5 hat2;simp only[List.cons_append,List.nil_append]at q2 q3 q4 q5 hat2
  simp only[numC]at q1 hlg;refine Wp.rgn (K:=0) (s':=⟨[(1,scr),(2,box),(5,.ref lid 0 0 0),(7,.iv (.ptr oe)),(8,.nI now),(19,.nI N),(20,.nI i)],_,nx+5+11⟩) (fun n _=>by
   simp only[Nat.add_assoc]at q1 q2 hfg hlg;simp[-cellsM,cellsM_iv,cellsM_agg,hat2,hfg,hlg,hcell',setAll,putAll,Nat.add_assoc,q1,q2];rfl) ?_
  exact⟨rfl,ya,yp,y',ra,rp,⟨⟨rfl,rfl,rfl,rfl,rfl⟩,rfl,rfl⟩,by show nx<=nx+5+11;omega,q3,q4,q5⟩
 ·rw[decide_eq_false hk,if_neg hk];simp only[Bool.false_eq_true,if_false];refine Wp.skip ?_;have hE:=Ext.refl hf (show nx<=nx+5 by omega);exact⟨rfl,_,_,_,_,_,⟨⟨rfl,rfl,rfl,rfl,rfl⟩,rfl,rfl⟩,by show nx<=nx+5;omega,hE.fresh,G.ext hE,fun _ _=>rfl⟩
set_option maxHeartbeats 8000000 in
theorem read_op (hp2:PrimsLe p2) (L:LibL p1 p2) (scr:AV) (N i:Nat) (x:Hd) (o:Arb.Op) (ho:o.ok) (lo lid bid:Nat) (g:Lg) (H:Hp) (nx:Nat) (hf:Fresh H nx) {ya yp yd:AV} {ra rp:List (List AV)} (G:LG lo H nx lid x g ya yp yd ra rp) (hla:g.acts.length<=1000) (hlp:g.pubs.length<=1000) (hld:g.drains.length<=1000)
  (hb:get H bid=some (.cells (hdC x))) (hbl:bid<4*lo) :
  Wp p1 p2 opBlk ⟨[(1,scr),(2,.ref bid 0 0 0),(5,.ref lid 0 0 0),(7,.iv (.ptr o.enc)),(8,.nI (i+1:Nat)),(19,.nI N),(20,.nI i)],H,nx⟩
   (fun e st=>(e = .norm\/e = .exit 1)/\∃ya' yp' yd' ra' rp',FRB st.fr scr (.ref bid 0 0 0) lid N i/\nx<=st.nx/\Fresh st.hp st.nx/\LG lo st.hp st.nx lid x (stepX x g i o) ya' yp' yd' ra' rp'/\(∀k,k<4*lo->get st.hp k=get H k)):=by
 refine Wp.seq (Wp.mono (read_drain scr (.ref bid 0 0 0) N i x o (i+1) lo lid g H nx hf G hld) ?_);rintro e ⟨fr,H1,n1⟩ ⟨rfl,ya1,yp1,yd1,ra1,rp1,F,hn1,hf1,G1,ho1⟩;simp only[Ex.then];unfold stepX;simp only[]at *;have hcast:((i+1:Nat):Int)=(i:Int)+1:=by omega
 rw[hcast]at G1;have hla1:(if o.k=5 then { g with drains:=g.drains++[(i:Int)+1] } else g).acts.length<=1000:=by split<;>exact hla
 have hlp1:(if o.k=5 then { g with drains:=g.drains++[(i:Int)+1] } else g).pubs.length<=1000:=by split<;>exact hlp
 generalize(if o.k=5 then { g with drains:=g.drains++[(i:Int)+1] } else g)=g1 at *;obtain⟨o0,o1,o2,o3,o4,o5,o6⟩:=op_at o;have hb1:get H1 bid=some (.cells (hdC x)):=by rw[ho1 _ hbl];exact hb
 obtain⟨⟨f1,f2,f5,f19,f20⟩,f7,f8⟩:=F;refine Wp.seq (Wp.seq (Wp.drawn rfl ?_));refine Wp.rgn (K:=0) (s':=⟨[(1,scr),(2,.ref bid 0 0 0),(5,.ref lid 0 0 0),(7,.iv (.ptr o.enc)),(8,.nI (i+1:Nat)),(19,.nI N),(20,.nI i),(57,.bI (outC x o.c))],H1,n1+15⟩) (fun n _=>by
  unfold outC;rw[hdC_eq]at hb1;generalize o.enc=oe at *;generalize o.c=c at *;cases h1:decide (c<0)<;>simp[get_set,f1,f2,f5,f7,f8,f19,f20,o0,o2,o3,hb1,h1]) ?_
 refine Wp.cond rfl ?_;cases hout:outC x o.c with
 |true=>
  simp only[if_true];refine Wp.exit ?_;have hE:=Ext.refl hf1 (show n1<=n1+15 by omega);exact⟨.inr rfl,_,_,_,_,_,⟨rfl,rfl,rfl,rfl,rfl⟩,by show nx<=n1+15;omega,hE.fresh,G1.ext hE,ho1⟩
 |false=>
  simp only[Bool.false_eq_true,if_false];refine Wp.skip ?_;simp only[Ex.then];refine Wp.seq ?_;have hox:=ho.x;generalize hoe:o.enc=oe at *;refine Wp.rgn (K:=0) (s':=⟨[(1,scr),(2,.ref bid 0 0 0),(5,.ref lid 0 0 0),(7,.iv (.ptr oe)),(8,.nI (i+1:Nat)),(19,.nI N),(20,.nI i),(61,.nI o.k)],H1,n1+15+4⟩) (fun n _=>by
   simp[o0,o1]) ?_
  refine Wp.block (Wp.seq ?_);refine Wp.rgn (K:=0) (s':=⟨[(1,scr),(2,.ref bid 0 0 0),(5,.ref lid 0 0 0),(7,.iv (.ptr oe)),(8,.nI (i+1:Nat)),(19,.nI N),(20,.nI i),(61,.nI o.k),(62,.bI (decide (o.k=1)))],H1,n1+15+4+2⟩) (fun n _=>by
   have:(o.k==1)=decide (o.k=1):=by by_cases h:o.k=1<;>simp[h]
   simp[this]) ?_
  refine Wp.cond rfl ?_;by_cases k1:o.k=1
  ·rw[decide_eq_true k1,if_pos k1];simp only[if_true];have hE:=Ext.refl hf1 (show n1<=n1+15+4+2+4 by omega);obtain⟨H2,n2,ya',yp',yd',ra',rp',b1,b2,b3,b4,K,hK⟩:=ev183 (p1:=p1) hp2 L x o ho (i+1) lo lid g1 H1 (n1+15+4+2+4) hE.fresh (G1.ext hE) hla1;rw[hoe]at hK;rw[hcast]at b3;refine Wp.rgn (K:=K) (s':=⟨[(1,scr),(2,.ref bid 0 0 0),(5,.ref lid 0 0 0),(19,.nI N),(20,.nI i)],H2,n2⟩) (fun n hn=>by
    have c:=hK n hn;simp at c ⊢;simp[c]) ?_
   exact⟨.inl rfl,_,_,_,_,_,⟨rfl,rfl,rfl,rfl,rfl⟩,by show nx<=n2;omega,b2,b3,fun k hk=>(b4 k hk).trans (ho1 k hk)⟩
  ·rw[decide_eq_false k1,if_neg k1];simp only[Bool.false_eq_true,if_false];refine Wp.seq ?_;refine Wp.rgn (K:=0) (s':=⟨[(1,scr),(2,.ref bid 0 0 0),(5,.ref lid 0 0 0),(7,.iv (.ptr oe)),(8,.nI (i+1:Nat)),(19,.nI N),(20,.nI i),(61,.nI o.k),(68,.bI (decide (o.k=2)))],H1,n1+15+4+2+2⟩) (fun n _=>by
    have:(o.k==2)=decide (o.k=2):=by by_cases h:o.k=2<;>simp[h]
    simp[this]) ?_
   refine Wp.cond rfl ?_;by_cases k2:o.k=2
   ·rw[decide_eq_true k2,if_pos k2];simp only[if_true];have hE:=Ext.refl hf1 (show n1<=n1+15+4+2+2 by omega);have q:=read_end (p1:=p1) (p2:=p2) scr (.ref bid 0 0 0) N i x o (i+1) lo lid g1 H1 (n1+15+4+2+2) hE.fresh (G1.ext hE) hla1;rw[k2,hoe,hcast]at q;rw[k2];refine Wp.mono q ?_;rintro e ⟨fr',H2,n2⟩ ⟨he,ya',yp',yd',ra',rp',b0,b1,b2,b3,b4⟩;simp only[]at b1 b2 b3 b4;rcases he with rfl | rfl
    ·exact⟨.inl rfl,_,_,_,_,_,b0,by show nx<=n2;omega,b2,b3,fun k hk=>(b4 k hk).trans (ho1 k hk)⟩
    ·simp only[Ex.inBlock,show ¬(1=2) by decide,if_false];exact⟨.inr trivial,_,_,_,_,_,b0,by show nx<=n2;omega,b2,b3,fun k hk=>(b4 k hk).trans (ho1 k hk)⟩
   ·rw[decide_eq_false k2,if_neg k2];simp only[Bool.false_eq_true,if_false];refine Wp.seq ?_;refine Wp.rgn (K:=0) (s':=⟨[(1,scr),(2,.ref bid 0 0 0),(5,.ref lid 0 0 0),(7,.iv (.ptr oe)),(8,.nI (i+1:Nat)),(19,.nI N),(20,.nI i),(116,.bI (decide (o.k=3)))],H1,n1+15+4+2+2+2⟩) (fun n _=>by
     have:(o.k==3)=decide (o.k=3):=by by_cases h:o.k=3<;>simp[h]
     simp[this]) ?_
    refine Wp.cond rfl ?_;by_cases k3:o.k=3
    ·rw[decide_eq_true k3,if_pos k3];simp only[if_true];obtain⟨K,hK⟩:=callEvent (p1:=p1) L o.e;have hel:(o.e.enc).length=12:=rfl;refine Wp.seq ?_;refine Wp.rgn (K:=K) (s':=⟨[(1,scr),(2,.ref bid 0 0 0),(5,.ref lid 0 0 0),(7,.iv (.ptr oe)),(8,.nI (i+1:Nat)),(19,.nI N),(20,.nI i),(122,.bI (rightE o.e))],H1,n1+15+4+2+2+2+5⟩) (fun n hn=>by
      have c:=hK n hn H1;generalize rightE o.e=re at *;generalize o.e.enc=ee at *;simp[o0,o6,hel,c]) ?_
     refine Wp.cond rfl ?_;cases hre:rightE o.e with
     |true=>
      simp only[if_true];refine Wp.drawn rfl ?_;have hwl:IntKind.i64.wrap ((g1.pubs.length:Int)+1)=(g1.pubs.length:Int)+1:=IntWalk.i64_in _ (by omega);have hE:=Ext.refl hf1 (show n1<=n1+15+4+2+2+2+5 by omega);have hpl:rp1.length=g1.pubs.length:=G1.pl.1;obtain⟨y',H4,q1,q2,q3,q4,q5⟩:=(G1.ext hE).pushP hE.fresh ⟨o.c,o.e,(i:Int)+1⟩ (gid:=4*(n1+15+4+2+2+2+5+22)) (slot:=n1+15+4+2+2+2+5+23) (n':=n1+15+4+2+2+2+5+27) (by omega) (by omega) (by omega) (by omega) (by omega);have hat2:=G1.at_;have hplen:=G1.p.len;rw[hpl]at hplen;have hfg:get H1 (4*(n1+15+4+2+2+2+5+22))=none:=hf1 _ (by omega);have hlg:∀ob,get (Arx.set H1 (4*(n1+15+4+2+2+2+5+22)) ob) lid=get H1 lid:=fun ob=>get_set_ne _ _ (by have:=G1.li;omega)
      have hcell':cellsM y' = .ret [y']:=q4.p.cell;rw[hdC_eq]at q2 q3 q4 q5 hat2;simp only[List.cons_append,List.nil_append]at q2 q3 q4 q5 hat2;refine Wp.rgn (K:=0) (s':=⟨[(1,scr),(2,.ref bid 0 0 0),(5,.ref lid 0 0 0),(19,.nI N),(20,.nI i)],_,n1+15+4+2+2+2+5+27⟩) (fun n _=>by
       simp only[Nat.add_assoc]at q1 q2 hfg hlg;simp only[pbC,numV,E.enc,V.enc,List.map_cons,List.map_nil,List.map_append,List.cons_append,List.nil_append]at q1;simp only[E.enc,V.enc,List.cons_append,List.nil_append]at o6;simp[-cellsM, -len,cellsM_iv,cellsM_agg,hat2,o0,o2,o3,o6,hplen,hwl,hfg,hlg,hcell',setAll,putAll,Nat.add_assoc,q1,q2];rfl) ?_
      exact⟨.inl rfl,_,_,_,_,_,⟨rfl,rfl,rfl,rfl,rfl⟩,by show nx<=n1+15+4+2+2+2+5+27;omega,q3,q4,fun k hk=>(q5 k hk).trans (ho1 k hk)⟩
     |false=>
      simp only[Bool.false_eq_true,if_false];refine Wp.skip ?_;have hE:=Ext.refl hf1 (show n1<=n1+15+4+2+2+2+5 by omega);exact⟨.inl rfl,_,_,_,_,_,⟨rfl,rfl,rfl,rfl,rfl⟩,by show nx<=n1+15+4+2+2+2+5;omega,hE.fresh,G1.ext hE,ho1⟩
    ·rw[decide_eq_false k3,if_neg k3];simp only[Bool.false_eq_true,if_false];refine Wp.skip ?_;have hE:=Ext.refl hf1 (show n1<=n1+15+4+2+2+2 by omega);exact⟨.inl rfl,_,_,_,_,_,⟨rfl,rfl,rfl,rfl,rfl⟩,by show nx<=n1+15+4+2+2+2;omega,hE.fresh,G1.ext hE,ho1⟩
end
theorem readTo_succ {h:Hd} {l:List Arb.Op} {t:Nat} {o:Arb.Op} (ho:l[t]?=some o):readTo h l (t+1)=stepX h (readTo h l t) t o:=by
 rw[readTo,ho]
section
variable {p1:Nat->Option Arb.IFn} {p2:Nat->Option IFn}
set_option maxHeartbeats 4000000 in
theorem ev177 (hp2:PrimsLe p2) (L:LibL p1 p2) (x:Hd) (hp:x.ps.length<=100) (hh:x.hs.length<=100) (l:List Arb.Op) (hl:l.length<=1000) (hok:∀o ∈ l,o.ok) (H:Hp) (nx:Nat) (hf:Fresh H nx) :
  ∃H' nx' lid ya yp yd ra rp,Ext H nx H' nx'/\LG (nx+1) H' nx' lid x (readX x l) ya yp yd ra rp/\Ev p1 p2 177 [.agg (hdC x),.iv (.sl 24 (l.map Arb.Op.enc))] H nx (.ref lid 0 0 0,H',nx'):=by
 have hfr:get H (4*nx)=none:=hf _ (by omega);have hfr2:get H (4*(nx+4))=none:=hf _ (by omega);have hE1:Ext H nx (Arx.set H (4*nx) (.cells (hdC x))) (nx+2):=(Ext.refl hf (by omega)).set (by omega) (by omega) _;have hfr3:get (Arx.set H (4*nx) (.cells (hdC x))) (4*(nx+4))=none:=by rw[get_set_ne _ _ (by omega)];exact hfr2
 have hE2:Ext H nx (Arx.set (Arx.set H (4*nx) (.cells (hdC x))) (4*(nx+4)) (.cells (hdC x++[.iv (.nsl 5),.iv (.nsl 15),.iv (.nsl 1)]))) (nx+6):=(hE1.up (show nx+2<=nx+6 by omega)).set (by omega) (by omega) _;have hbx:get (Arx.set (Arx.set H (4*nx) (.cells (hdC x))) (4*(nx+4)) (.cells (hdC x++[.iv (.nsl 5),.iv (.nsl 15),.iv (.nsl 1)]))) (4*nx)=some (.cells (hdC x)):=by rw[get_set_ne _ _ (by omega)];exact get_set_same _ _ _
 have hlx:get (Arx.set (Arx.set H (4*nx) (.cells (hdC x))) (4*(nx+4)) (.cells (hdC x++[.iv (.nsl 5),.iv (.nsl 15),.iv (.nsl 1)]))) (4*(nx+4))=some (.cells (hdC x++[.iv (.nsl 5),.iv (.nsl 15),.iv (.nsl 1)])):=get_set_same _ _ _;have hdef:Arx.set (Arx.set H (4*nx) (.cells (hdC x))) (4*(nx+4)) (.cells (hdC x++[.iv (.nsl 5),.iv (.nsl 15),.iv (.nsl 1)]))=Arx.set (Arx.set H (4*nx) (.cells (hdC x))) (4*(nx+4)) (.cells (hdC x++[.iv (.nsl 5),.iv (.nsl 15),.iv (.nsl 1)])):=rfl;generalize hH1:Arx.set (Arx.set H (4*nx) (.cells (hdC x))) (4*(nx+4)) (.cells (hdC x++[.iv (.nsl 5),.iv (.nsl 15),.iv (.nsl 1)]))=H1 at hE2 hbx hlx
 have G1:LG (nx+1) H1 (nx+6) (4*(nx+4)) x ⟨[],[],[]⟩ (.iv (.nsl 5)) (.iv (.nsl 15)) (.iv (.nsl 1)) [] []:=
  ⟨⟨by omega,by omega⟩,hlx,QE.nil _ _ _,AL.nil _ _,QE.nil _ _ _,PL.nil,QE.nil _ _ _,(fun k o m w h=>by cases h),(fun k o m w h=>by cases h),(fun k o m w h=>by cases h),fun a ha=>by cases ha⟩
 obtain⟨K1,hK1⟩:=callCheck (p1:=p1) L x hp hh;have key:Wp p1 p2 F177.body ⟨params [.agg (hdC x),.iv (.sl 24 (l.map Arb.Op.enc))] 0,H,nx⟩ (fun e st=>∃r:AV×Hp×Nat,(∃lid ya yp yd ra rp,r.1 = .ref lid 0 0 0/\Ext H nx r.2.1 r.2.2/\LG (nx+1) r.2.1 r.2.2 lid x (readX x l) ya yp yd ra rp)/\Fin F177.res r e st):=by
  refine Wp.seq ?_;refine Wp.rgn (K:=0) (s':=⟨[(1,.iv (.sl 24 (l.map Arb.Op.enc))),(2,.ref (4*nx) 0 0 0)],Arx.set H (4*nx) (.cells (hdC x)),nx+2⟩) (fun n _=>by simp[hfr]) ?_;refine Wp.scope (Wp.seq ?_);refine Wp.rgn (K:=0) (s':=⟨[(1,.iv (.sl 24 (l.map Arb.Op.enc))),(2,.ref (4*nx) 0 0 0),(5,.ref (4*(nx+4)) 0 0 0)],H1,nx+6⟩) (fun n _=>by
   rw[<-hH1];rw[hdC_eq]at hfr3 ⊢;simp[hfr3,putAll,Nat.add_assoc]) ?_
  refine Wp.seq (Wp.seq ?_);unfold readX;refine Wp.rgn (K:=K1) (s':=⟨[(1,.iv (.sl 24 (l.map Arb.Op.enc))),(2,.ref (4*nx) 0 0 0),(5,.ref (4*(nx+4)) 0 0 0),(16,.bI (!decide (checkH x=0)))],H1,nx+9⟩) (fun n hn=>by
   have c:=hK1 n hn H1;have hb:(checkH x != 0)=!decide (checkH x=0):=by by_cases h:checkH x=0<;>simp[h]
   generalize checkH x=q at *;simp[hbx,hd_take,hd_len,c,hb]) ?_
  refine Wp.cond rfl ?_;by_cases hc:checkH x=0
  ·rw[decide_eq_true hc,if_pos hc];simp only[Bool.not_true,Bool.false_eq_true,if_false];refine Wp.skip ?_;simp only[Ex.then];refine Wp.seq (Wp.skip ?_);simp only[Ex.then];refine Wp.seq (Wp.seq ?_);refine Wp.rgn (K:=0) (s':=⟨[(1,.iv (.sl 24 (l.map Arb.Op.enc))),(2,.ref (4*nx) 0 0 0),(5,.ref (4*(nx+4)) 0 0 0),(19,.nI l.length),(20,.nI 0)],H1,nx+12⟩) (fun n _=>by simp) ?_;refine Wp.block ?_;refine Wp.loop (fun m s1=>∃(i n2:Nat) (H2:Hp) (ya yp yd:AV) (ra rp:List (List AV)),i+m=l.length/\nx+6<=n2/\Fresh H2 n2/\LG (nx+1) H2 n2 (4*(nx+4)) x (readTo x l i) ya yp yd ra rp/\(∀k,k<4*(nx+1)->get H2 k=get H1 k)/\
    s1=⟨[(1,.iv (.sl 24 (l.map Arb.Op.enc))),(2,.ref (4*nx) 0 0 0),(5,.ref (4*(nx+4)) 0 0 0),(19,.nI l.length),(20,.nI i)],H2,n2⟩) (m:=l.length)
    ⟨0,nx+12,H1,_,_,_,_,_,by omega,by omega,fun k hk=>hE2.fresh k (by omega),G1.ext (Ext.refl hE2.fresh (by omega)),fun _ _=>rfl,by simp[fr_cons,keepFr]⟩ ?_
   rintro m s1 ⟨i,n2,H2,ya,yp,yd,ra,rp,him,hn2,hf2,G2,ho2,rfl⟩;refine Wp.seq ?_;by_cases hi:i<l.length
   ·obtain⟨o,ho⟩:∃o,l[i]?=some o:=⟨_,List.getElem?_eq_getElem hi⟩;have hrow:(l.map Arb.Op.enc)[i]?=some o.enc:=by rw[List.getElem?_map,ho];rfl
    have hw1:IntKind.i64.wrap ((i:Int)+1)=(i:Int)+1:=IntWalk.i64_in _ (by omega);have hlen:=readTo_len x l i;have hnext:=readTo_succ (h:=x) ho;generalize hscr:l.map Arb.Op.enc=scr at *;refine Wp.rgn (K:=0) (fun n _=>by simp[hi];rfl) ?_;refine Wp.seq (Wp.cond (t:=true) rfl (Wp.skip (Wp.seq (Wp.block (Wp.seq ?_)))));refine Wp.rg ?_;refine Wp.seq ?_;refine Wp.rgn (K:=0) (s':=⟨[(1,.iv (.sl 24 scr)),(2,.ref (4*nx) 0 0 0),(5,.ref (4*(nx+4)) 0 0 0),(7,.iv (.ptr o.enc)),(8,.nI (i+1:Nat)),(19,.nI l.length),(20,.nI i)],H2,n2+1+2+7⟩) (fun n _=>by
     simp[hrow,hw1]) ?_
    have hE3:=Ext.refl hf2 (show n2<=n2+1+2+7 by omega);have hop:=read_op hp2 L (.iv (.sl 24 scr)) l.length i x o (hok o (List.mem_of_getElem? ho)) (nx+1) (4*(nx+4)) (4*nx) (readTo x l i) H2 (n2+1+2+7) hE3.fresh (G2.ext hE3) (by omega) (by omega) (by omega) (by rw[ho2 _ (by omega)];exact hbx) (by omega);refine Wp.mono hop ?_;rintro e ⟨fr,H4,n4⟩ ⟨he,ya',yp',yd',ra',rp',⟨f1,f2,f5,f19,f20⟩,b1,b2,b3,b4⟩;simp only[]at f1 f2 f5 f19 f20 b1 b2 b3 b4;have hcont:∀Q:Ex->St->Prop,(∀H5 n5,H5=H4->n5=n4+2->Q .norm ⟨[(1,.iv (.sl 24 scr)),(2,.ref (4*nx) 0 0 0),(5,.ref (4*(nx+4)) 0 0 0),(19,.nI l.length),(20,.nI (i+1:Nat))],H5,n5⟩)->
      Wp p1 p2 (.rgn false [⟨some 149,.bin .add 0 (.t 20) (.c (.nI (1))),none,[]⟩,⟨some 20,.mov (.t 149),none,[]⟩] [1,2,5,19,20]) ⟨fr,H4,n4⟩ Q:=fun Q hQ=>by
     refine Wp.rgn (K:=0) (s':=⟨[(1,.iv (.sl 24 scr)),(2,.ref (4*nx) 0 0 0),(5,.ref (4*(nx+4)) 0 0 0),(19,.nI l.length),(20,.nI (i+1:Nat))],H4,n4+2⟩) (fun n _=>by
      simp[get_set,f1,f2,f5,f19,f20,hw1]) ?_
     exact hQ _ _ rfl rfl
    rcases he with rfl | rfl
    ·simp only[Ex.then,Ex.inBlock];refine hcont _ ?_;rintro H5 n5 rfl rfl;refine⟨m - 1,by omega,i+1,n4+2,H5,ya',yp',yd',ra',rp',by omega,by omega,fun k hk=>b2 k (by omega),?_,fun k hk=>(b4 k hk).trans (ho2 k hk),by simp[fr_cons,keepFr]⟩;rw[hnext];exact b3.ext (Ext.refl b2 (by omega))
    ·simp only[Ex.then,Ex.inBlock,if_true];refine hcont _ ?_;rintro H5 n5 rfl rfl;refine⟨m - 1,by omega,i+1,n4+2,H5,ya',yp',yd',ra',rp',by omega,by omega,fun k hk=>b2 k (by omega),?_,fun k hk=>(b4 k hk).trans (ho2 k hk),by simp[fr_cons,keepFr]⟩;rw[hnext];exact b3.ext (Ext.refl b2 (by omega))
   ·obtain rfl:i=l.length:=by omega
    refine Wp.rg ?_;refine Wp.seq (Wp.cond (t:=false) rfl (Wp.exit ?_));simp only[Ex.then,Ex.inBlock,if_true];refine Wp.seq ?_;refine Wp.rg ?_;have hE3:=Ext.refl hf2 (show n2<=n2+1+2 by omega);exact Wp.ret ⟨(_,H2,n2+1+2),⟨_,ya,yp,yd,ra,rp,rfl,⟨by show nx<=n2+1+2;omega,hE3.fresh,fun k hk=>by show get H2 k=get H k;rw[ho2 k (by omega)];exact hE2.old k hk⟩,G2.ext hE3⟩,rfl,rfl⟩
  ·rw[decide_eq_false hc,if_neg hc];simp only[Bool.not_false,if_true];refine Wp.seq ?_;refine Wp.rg ?_;have hE3:=Ext.refl hE2.fresh (show nx+6<=nx+9+2 by omega);exact Wp.ret ⟨(_,H1,nx+9+2),⟨_,_,_,_,_,_,rfl,hE2.trans hE3,G1.ext hE3⟩,rfl,rfl⟩
 obtain⟨⟨y,H',nx'⟩,⟨lid,ya,yp,yd,ra,rp,rfl,h1,h2⟩,h4⟩:=Ev.ofx hp2 L.h177 rfl rfl _ key;exact⟨H',nx',lid,ya,yp,yd,ra,rp,h1,h2,h4⟩
end
def pubAt (g:Lg) (id:Int):Option Pb:=if 1<=id then g.pubs[(id - 1).toNat]? else none
def PP (H:Hp) (n:Nat) (v:AV) (id:Int):Option Pb->Prop
 |none=>v = .iv .nilp
 |some p=>∃(idp vp j:Nat) (rows:List (List AV)),v = .ref idp vp j 0/\idp<4*n/\get H idp=some (.buf vp 15 rows)/\rows[j]?=some (pbC j p)/\id=(j:Int)+1
theorem PP.ext {H H':Hp} {n n':Nat} {v:AV} {id:Int} {p:Option Pb} (h:PP H n v id p) (e:Ext H n H' n'):PP H' n' v id p:=by
 cases p with
 |none=>exact h
 |some p=>
  obtain⟨idp,vp,j,rows,h1,h2,h3,h4,h5⟩:=h;exact⟨idp,vp,j,rows,h1,by have:=e.le;omega,by rw[e.old _ h2];exact h3,h4,h5⟩
def activeX (a:Act) (s:Int):Bool:=decide (a.f<=s)&&(a.t==0||decide (s<a.t))
def wantX (c s:Int) (e:E) (a:Act):Bool:=(a.c==c&&activeX a s)&&hasF a.b e
def wantsX (g:Lg) (c s:Int) (e:E):Bool:=g.acts.any (wantX c s e)
def actC (a:Act) (y:AV):List AV:=[.iv (.int .i64 a.c),.iv (.int .i64 a.u),y,.iv (.int .i64 a.f),.iv (.int .i64 a.t)]
section
variable {p1:Nat->Option Arb.IFn} {p2:Nat->Option IFn}
theorem ev176 (hp2:PrimsLe p2) (L:LibL p1 p2) {lo lid:Nat} {x:Hd} {g:Lg} {H:Hp} {nx:Nat} {ya yp yd:AV} {ra rp:List (List AV)} (G:LG lo H nx lid x g ya yp yd ra rp) (hl:g.pubs.length<=1000) (id:Int) (hid:in64 id) :
  ∃v nx',nx<=nx'/\nx'<=nx+20/\PP H nx v id (pubAt g id)/\Ev p1 p2 176 [.ref lid 0 0 0,.nI id] H nx (v,H,nx'):=by
 have hlp:=G.p.len;have hat:=G.at_;have hrpl:rp.length=g.pubs.length:=G.pl.1;rw[hrpl]at hlp;rw[hdC_eq]at hat;have hq:(decide (id<1)||decide ((g.pubs.length:Int)<id))=(pubAt g id).isNone:=by
  unfold pubAt;by_cases h1:1<=id
  ·rw[if_pos h1];by_cases h2:(id - 1).toNat<g.pubs.length
   ·rw[List.getElem?_eq_getElem h2];simp;omega
   ·rw[List.getElem?_eq_none (by omega)];simp;omega
  ·rw[if_neg h1];simp;omega
 have key:Wp p1 p2 F176.body ⟨params [.ref lid 0 0 0,.nI id] 0,H,nx⟩ (fun e st=>∃r:AV×Hp×Nat,(nx<=r.2.2/\r.2.2<=nx+20/\r.2.1=H/\PP H nx r.1 id (pubAt g id))/\Fin F176.res r e st):=by
  refine Wp.seq ?_;refine Wp.rg ?_;refine Wp.seq (Wp.seq ?_);refine Wp.rgn (K:=0) (s':=⟨[(0,.ref lid 0 0 0),(1,.nI id),(15,.iv (.bool (pubAt g id).isNone))],H,nx+1+11⟩) (fun n _=>by
   rw[<-hq];cases h1:decide (id<1)<;>simp[-len,hat,hlp,h1]) ?_
  refine Wp.cond rfl ?_;cases hpa:pubAt g id with
  |none=>
   simp only[Option.isNone_none,if_true];refine Wp.seq ?_;refine Wp.rg ?_;exact Wp.ret ⟨(_,_,_),⟨by show nx<=nx+1+11+1;omega,by show nx+1+11+1<=nx+20;omega,rfl,rfl⟩,rfl,rfl⟩
  |some p=>
   simp only[Option.isNone_some,Bool.false_eq_true,if_false];refine Wp.skip ?_;simp only[Ex.then];have hpa':=hpa;unfold pubAt at hpa';split at hpa'
   ·rename_i h1;obtain⟨j,hj⟩:∃j:Nat,id=(j:Int)+1:=⟨(id - 1).toNat,by omega⟩;subst hj;rw[show((j:Int)+1 - 1).toNat=j by omega]at hpa';have hrow:=G.pl.2 j p hpa';have hjl:j<g.pubs.length:=(List.getElem?_eq_some_iff.1 hpa').1;obtain⟨idp,vp,i1, -,hyp,i4⟩:=G.p.at_ hrow;rw[hrpl]at hyp;subst hyp;have hw:IntKind.i64.wrap (j:Int)=(j:Int):=IntWalk.i64_in _ (by omega);refine Wp.seq ?_;refine Wp.rgn (K:=0) (s':=⟨[(4,.ref idp vp j 0)],H,nx+1+11+8⟩) (fun n _=>by
     simp[hat,i4,hw,hjl]) ?_
    exact Wp.ret ⟨(_,_,_),⟨by show nx<=nx+1+11+8;omega,by show nx+1+11+8<=nx+20;omega,rfl,⟨idp,vp,j,rp,rfl,i1,i4,hrow,rfl⟩⟩,rfl,rfl⟩
   ·cases hpa'
 obtain⟨⟨y,H',nx'⟩,⟨h1,h2,rfl,h3⟩,h4⟩:=Ev.ofx hp2 L.h176 rfl rfl _ key;exact⟨y,nx',h1,h2,h3,h4⟩
theorem ev174 (hp2:PrimsLe p2) (L:LibL p1 p2) (a:Act) (y:AV) (bid:Nat) (s:Int) (H:Hp) (nx:Nat) (hb:get H bid=some (.cells (actC a y))) :
  Ev p1 p2 174 [.ref bid 0 0 0,.nI s] H nx (.bI (activeX a s),H,nx+23):=by
 refine Ev.of hp2 L.h174 rfl rfl ?_;unfold activeX;unfold actC at hb;refine Wp.seq ?_;refine Wp.rg ?_;refine Wp.seq ?_;refine Wp.rgn (K:=0) (s':=⟨[(4,.bI (decide (a.f<=s)&&(a.t==0||decide (s<a.t))))],H,nx+23⟩) (fun n _=>by
  cases h1:decide (a.f<=s)<;>cases h2:a.t==0<;>simp[hb,h1,h2]) ?_
 exact Wp.ret ⟨rfl,rfl⟩
theorem fits_of {bs:List B} (h:∀b ∈ bs,b.lim 1000 400):∀b ∈ bs,b.fits:=fun b hb i hi=>by
 have:=h b hb i hi;have h1:=this.i;have h2:=this.s;unfold maxLen;omega
theorem callHas (L:LibL p1 p2) (bs:List B) (hl:bs.length<=1000) (hb:∀b ∈ bs,b.lim 1000 400) (e:E):∃K,∀m,K<=m->∀(H:Hp) (n:Nat) (y:AV),LB H n y bs->(callM (one p1 m) (.iv (.fn 119 [])) [y,.agg (e.enc.map AV.iv)]).run H=some (.bI (hasF bs e),H):=by
 obtain⟨K,hK⟩:=x_hasF L.h bs e (by unfold maxLen;omega) (fits_of hb);refine⟨K,fun m hm H n y hy=>?_⟩;have e1:(one p1 m 119 [.iv (.sl 16 (bs.map B.enc)),.agg (e.enc.map Arb.AV.iv)] []).bind shut=some (.bI (hasF bs e)):=hK m hm;have hz:=hy.fz0;have hz2:fz1 false (.agg (e.enc.map AV.iv)) = .ret (.agg (e.enc.map Arb.AV.iv)):=by
  unfold fz1;simp only[];rw[fz_ivs false 7 e.enc e.enc_all];rfl
 generalize hasF bs e=q at *;simp[callM,callee,M.run_bind,M.lift,M.run,M.mapL,hz,hz2,e1,ofA,of1,M.ok,flat,flat1,flat0,flatI,M.bind]
set_option maxHeartbeats 1000000 in
theorem ev196 (hp2:PrimsLe p2) (L:LibL p1 p2) (a:Act) (ha:a.fits) (y:AV) (c s:Int) (e:E) (ic is ie:Nat) (H:Hp) (nx:Nat) (hf:Fresh H nx) (hy:LB H nx y a.b) (hc:get H ic=some (.cells [.nI c])) (hs:get H is=some (.cells [.nI s])) (he:get H ie=some (.cells (e.enc.map AV.iv))) :
  ∃H' nx',Ext H nx H' nx'/\Ev p1 p2 196 [.agg (actC a y),.ref ic 0 0 0,.ref is 0 0 0,.ref ie 0 0 0] H nx (.bI (wantX c s e a),H',nx'):=by
 have hfr:get H (4*nx)=none:=hf _ (by omega);have hE1:Ext H nx (Arx.set H (4*nx) (.cells (actC a y))) (nx+2):=(Ext.refl hf (by omega)).set (by omega) (by omega) _;have hg1:get (Arx.set H (4*nx) (Ob.cells (actC a y))) (4*nx)=some (.cells (actC a y)):=get_set_same _ _ _;have hlt:∀{k:Nat} {ob:Ob},get H k=some ob->k<4*nx:=fun {k ob} h=>by
  rcases Nat.lt_or_ge k (4*nx)with h1 | h1
  ·exact h1
  ·rw[hf k h1]at h;cases h
 have hc1:=(hE1.old _ (hlt hc)).trans hc;have hs1:=(hE1.old _ (hlt hs)).trans hs;have he1:=(hE1.old _ (hlt he)).trans he;have hy1:=hy.ext hE1;generalize hH1:Arx.set H (4*nx) (Ob.cells (actC a y))=H1 at hE1 hg1 hc1 hs1 he1 hy1;obtain⟨K1,hK1⟩:=ev174 (p1:=p1) hp2 L a y (4*nx) s H1 (nx+2+15) hg1;obtain⟨K2,hK2⟩:=callHas (p1:=p1) L a.b ha.1 ha.2 e;have hel:(e.enc.map AV.iv).length=12:=rfl;have htk:(e.enc.map AV.iv).take 12=e.enc.map AV.iv:=rfl;have key:Wp p1 p2 F196.body ⟨params [.agg (actC a y),.ref ic 0 0 0,.ref is 0 0 0,.ref ie 0 0 0] 0,H,nx⟩ (fun ex st=>∃r:AV×Hp×Nat,(r.1 = .bI (wantX c s e a)/\Ext H nx r.2.1 r.2.2)/\Fin F196.res r ex st):=by
  refine Wp.seq ?_;refine Wp.rgn (K:=0) (s':=⟨[(1,.ref ic 0 0 0),(2,.ref is 0 0 0),(3,.ref ie 0 0 0),(4,.ref (4*nx) 0 0 0)],H1,nx+2⟩) (fun n _=>by
   rw[<-hH1];simp[hfr]) ?_
  refine Wp.seq ?_;unfold wantX;have hg2:=hg1;unfold actC at hg2;generalize activeX a s=ac at *;generalize hasF a.b e=hs2 at *;generalize e.enc.map AV.iv=ee at *;refine Wp.rgn (K:=max K1 K2) (s':=⟨[(5,.bI ((a.c==c&&ac)&&hs2))],H1,if(a.c==c)=true then nx+2+15+23 else nx+2+15⟩) (fun n hn=>by
   have c1:=hK1 n (by omega);have c2:=hK2 n (by omega) H1 _ y hy1;cases h1:a.c==c
   ·simp[hg2,hc1,hs1,he1,hel,htk,h1]
   ·cases ac
    ·simp[hg2,hc1,hs1,he1,hel,htk,h1,c1]
    ·simp[hg2,hc1,hs1,he1,hel,htk,h1,c1,c2]) ?_
  exact Wp.ret ⟨(_,_,_),⟨rfl,hE1.up (by show nx+2<=if(a.c==c)=true then nx+2+15+23 else nx+2+15;split<;>omega)⟩,rfl,rfl⟩
 obtain⟨⟨y,H',nx'⟩,⟨rfl,h1⟩,h4⟩:=Ev.ofx hp2 L.h196 rfl rfl _ key;exact⟨H',nx',h1,h4⟩
end
def idxB (e:Nat) (agg:Bool):IC:=
  .seq (.rgn false [⟨some 4,.mov (.c (.iv (.int .i64 (0)))),none,[]⟩] [0,1])
  (.seq (.seq (.rgn false [⟨some 6,.mov (.t 0),none,[]⟩,
  ⟨some 7,.len false (.t 6),none,[]⟩,
  ⟨some 8,.mov (.c (.iv (.int .i64 (0)))),none,[]⟩] [0,1,7,8])
  (.block 0 (.loop [0,1,7,8] (.seq (.rgn false [⟨some 9,.bin .lss 0 (.t 8) (.t 7),none,[]⟩] [0,1,7,8,9])
  (.seq (.cond (.t 9) (.skip)
  (.exit 0))
  (.seq (.block 1 (.seq (.rgn false [⟨some 10,.mov (.t 8),none,[]⟩,
  ⟨some 5,.mov (.t 10),none,[]⟩] [0,1,5,7,8])
  (.seq (.rgn false [⟨some 11,.mov (.t 1),none,[]⟩,
  ⟨some 12,.mov (.t 0),none,[]⟩,
  ⟨some 13,.mov (.t 5),none,[]⟩,
  ⟨some 14,.isl e (.t 12) (.t 13),none,[]⟩,
  ⟨some 15,.load agg e (.t 14),none,[]⟩,
  ⟨some 16,.scall (.t 11) [.t 15],none,[]⟩] [0,1,5,7,8,16])
  (.cond (.t 16) (.seq (.rgn false [⟨some 17,.mov (.t 5),none,[]⟩,
  ⟨some 4,.mov (.t 17),none,[]⟩] [4])
  (.ret))
  (.skip)))))
  (.rgn false [⟨some 18,.bin .add 0 (.t 8) (.c (.iv (.int .i64 (1)))),none,[]⟩,
  ⟨some 8,.mov (.t 18),none,[]⟩] [0,1,7,8])))))))
  (.seq (.rgn false [⟨some 4,.mov (.c (.iv (.int .i64 (-1)))),none,[]⟩] [4])
  (.ret)))
def conB (f:Nat):IC:=
  .seq (.rgn false [⟨some 4,.mov (.c (.iv (.bool false))),none,[]⟩] [0,1])
  (.seq (.rgn false [⟨some 5,.mov (.t 0),none,[]⟩,
  ⟨some 6,.mov (.t 1),none,[]⟩,
  ⟨some 7,.scall (.c (.iv (.fn f []))) [.t 5,.t 6],none,[]⟩,
  ⟨some 8,.bin .geq 0 (.t 7) (.c (.iv (.int .i64 (0)))),none,[]⟩,
  ⟨some 4,.mov (.t 8),none,[]⟩] [4])
  (.ret))
section
variable {p1:Nat->Option Arb.IFn} {p2:Nat->Option IFn}
def Says (p1:Nat->Option Arb.IFn) (p2:Nat->Option IFn) {α:Type} (e:Nat) (agg:Bool) (y fv:AV) (l:List α) (f:α->Bool) (H:Hp) (nx:Nat):Prop:=
 (∀H2 n2,Ext H nx H2 n2->(Arx.len false y).run H2=some (.iv (.int .i64 l.length),H2))/\
 ∃fid caps,callee fv=some (fid,[],caps)/\∀(j:Nat) (a:α),l[j]?=some a->∀H2 n2,Ext H nx H2 n2->∃ptr v,(Arx.isl e y (.iv (.int .i64 j))).run H2=some (ptr,H2)/\(Arx.load agg e ptr).run H2=some (v,H2)/\
  ∃H3 n3,Ext H2 n2 H3 n3/\Ev p1 p2 fid (v::caps) H2 n2 (.iv (.bool (f a)),H3,n3)
set_option maxHeartbeats 1000000 in
theorem wpIdx {α:Type} (e:Nat) (agg:Bool) (y fv:AV) (l:List α) (hl:l.length<=1000000) (f:α->Bool) (H:Hp) (nx:Nat) (hf:Fresh H nx) (S:Says p1 p2 e agg y fv l f H nx) :
  Wp p1 p2 (idxB e agg) ⟨params [y,fv] 0,H,nx⟩ (fun ex st=>∃r:AV×Hp×Nat,(r.1 = .nI (idxF f l 0)/\Ext H nx r.2.1 r.2.2)/\Fin [.t 4] r ex st):=by
 obtain⟨hlen,fid,caps,hcal,hsay⟩:=S;refine Wp.seq ?_;refine Wp.rg ?_;refine Wp.seq (Wp.seq ?_);have hl0:=hlen H nx (Ext.refl hf (Nat.le_refl _));refine Wp.rgn (K:=0) (s':=⟨[(0,y),(1,fv),(7,.nI l.length),(8,.nI 0)],H,nx+4⟩) (fun n _=>by simp[-len,hl0]) ?_;refine Wp.block ?_;refine Wp.loop (fun m s1=>∃(i n2:Nat) (H2:Hp),i+m=l.length/\idxF f (l.drop i) i=idxF f l 0/\Ext H nx H2 n2/\s1=⟨[(0,y),(1,fv),(7,.nI l.length),(8,.nI i)],H2,n2⟩) (m:=l.length)
  ⟨0,nx+4,H,by omega,rfl,Ext.refl hf (by omega),by simp[fr_cons,keepFr]⟩ ?_
 rintro m s1 ⟨i,n2,H2,him,hidx,hE2,rfl⟩;refine Wp.seq ?_;by_cases hi:i<l.length
 ·obtain⟨a,ha⟩:∃a,l[i]?=some a:=⟨_,List.getElem?_eq_getElem hi⟩;have hw1:IntKind.i64.wrap ((i:Int)+1)=(i:Int)+1:=IntWalk.i64_in _ (by omega);rw[idxF_cons ha]at hidx;refine Wp.rgn (K:=0) (fun n _=>by simp[hi];rfl) ?_;refine Wp.seq (Wp.cond (t:=true) rfl (Wp.skip (Wp.seq (Wp.block (Wp.seq ?_)))));refine Wp.rg ?_;refine Wp.seq ?_;obtain⟨ptr,v,h1,h2,H3,n3,hE3,K,hK⟩:=hsay i a ha H2 (n2+1+2+6) (hE2.up (by omega));have hE4:Ext H nx H3 n3:=(hE2.up (show n2<=n2+1+2+6 by omega)).trans hE3;generalize f a=q at *;refine Wp.rgn (K:=K) (s':=⟨[(0,y),(1,fv),(5,.nI i),(7,.nI l.length),(8,.nI i),(16,.bI q)],H3,n3⟩) (fun n hn=>by
   have c:=hK n hn;simp[-isl, -load, -callee,h1,h2,hcal,c]) ?_
  refine Wp.cond rfl ?_;cases q with
  |true=>
   simp only[if_true]at hidx ⊢;refine Wp.seq ?_;refine Wp.rg ?_;refine Wp.ret ?_;exact⟨(_,_,_),⟨by rw[<-hidx],hE4.up (show n3<=n3+2 by omega)⟩,rfl,rfl⟩
  |false=>
   simp only[Bool.false_eq_true,if_false]at hidx ⊢;refine Wp.skip ?_;simp only[Ex.then,Ex.inBlock];refine Wp.rgn (K:=0) (fun n _=>by simp[hw1];rfl) ?_;exact⟨m - 1,by omega,i+1,_,H3,by omega,hidx,hE4.up (show n3<=n3+2 by omega),by simp[fr_cons,keepFr]⟩
 ·obtain rfl:i=l.length:=by omega
  refine Wp.rg ?_;refine Wp.seq (Wp.cond (t:=false) rfl (Wp.exit ?_));simp only[Ex.then,Ex.inBlock,if_true];refine Wp.seq ?_;refine Wp.rg ?_;rw[List.drop_length]at hidx;exact Wp.ret ⟨(_,_,_),⟨by rw[<-hidx];rfl,hE2.up (show n2<=n2+1+1 by omega)⟩,rfl,rfl⟩
theorem evIdx (hp2:PrimsLe p2) {k:Nat} {fn:IFn} (hk:p2 k=some fn) {α:Type} {e:Nat} {agg:Bool} (hfn:fn=⟨2,[.t 4],idxB e agg,none⟩) {y fv:AV} {l:List α} (hl:l.length<=1000000) {f:α->Bool} {H:Hp} {nx:Nat} (hf:Fresh H nx) (S:Says p1 p2 e agg y fv l f H nx) :
  ∃H' nx',Ext H nx H' nx'/\Ev p1 p2 k [y,fv] H nx (.nI (idxF f l 0),H',nx'):=by
 subst hfn;obtain⟨⟨y,H',nx'⟩,⟨rfl,h1⟩,h4⟩:=Ev.ofx hp2 hk rfl rfl _ (wpIdx e agg y fv l hl f H nx hf S);exact⟨H',nx',h1,h4⟩
theorem evCon (hp2:PrimsLe p2) {k k':Nat} {fn fn':IFn} (hk:p2 k=some fn) (hk':p2 k'=some fn') {α:Type} {e:Nat} {agg:Bool} (hfn:fn=⟨2,[.t 4],idxB e agg,none⟩) (hfn':fn'=⟨2,[.t 4],conB k,none⟩) {y fv:AV} {l:List α} (hl:l.length<=1000000) {f:α->Bool} {H:Hp} {nx:Nat} (hf:Fresh H nx) (S:∀H2 n2,Ext H nx H2 n2->Says p1 p2 e agg y fv l f H2 n2) :
  ∃H' nx',Ext H nx H' nx'/\Ev p1 p2 k' [y,fv] H nx (.bI (l.any f),H',nx'):=by
 subst hfn';have hE:=Ext.refl hf (show nx<=nx+6 by omega);obtain⟨H1,n1,hE1,K,hK⟩:=evIdx (p1:=p1) hp2 hk hfn hl (fun j hj=>hf j (by omega)) (S H (nx+1+5) hE);have hE2:Ext H nx H1 n1:=⟨by have:=hE1.le;omega,hE1.fresh,fun j hj=>hE1.old j (by omega)⟩;have key:Wp p1 p2 (conB k) ⟨params [y,fv] 0,H,nx⟩ (fun ex st=>∃r:AV×Hp×Nat,(r.1 = .bI (l.any f)/\Ext H nx r.2.1 r.2.2)/\Fin [.t 4] r ex st):=by
  refine Wp.seq ?_;refine Wp.rg ?_;refine Wp.seq ?_;rw[<-idxF_any f l 0];generalize idxF f l 0=q at *;refine Wp.rgn (K:=K) (s':=⟨[(4,.bI (decide (0<=q)))],H1,n1⟩) (fun n hn=>by
   have c:=hK n hn;simp[c]) ?_
  exact Wp.ret ⟨(_,_,_),⟨rfl,hE2⟩,rfl,rfl⟩
 obtain⟨⟨y,H',nx'⟩,⟨rfl,h1⟩,h4⟩:=Ev.ofx hp2 hk' rfl rfl _ key;exact⟨H',nx',h1,h4⟩
set_option maxHeartbeats 1000000 in
theorem ev195 (hp2:PrimsLe p2) (L:LibL p1 p2) {lo lid:Nat} {x:Hd} {g:Lg} {H:Hp} {nx:Nat} {ya yp yd:AV} {ra rp:List (List AV)} (G:LG lo H nx lid x g ya yp yd ra rp) (hl:g.acts.length<=1000) (hf:Fresh H nx) (c s:Int) (e:E) :
  ∃H' nx',Ext H nx H' nx'/\Ev p1 p2 195 [.ref lid 0 0 0,.nI c,.nI s,.agg (e.enc.map AV.iv)] H nx (.bI (wantsX g c s e),H',nx'):=by
 have f0:get H (4*nx)=none:=hf _ (by omega);have f1:get (Arx.set H (4*nx) (.cells [.nI c])) (4*(nx+1))=none:=by rw[get_set_ne _ _ (by omega)];exact hf _ (by omega)
 have f2:get (Arx.set (Arx.set H (4*nx) (.cells [.nI c])) (4*(nx+1)) (.cells [.nI s])) (4*(nx+2))=none:=by rw[get_set_ne _ _ (by omega),get_set_ne _ _ (by omega)];exact hf _ (by omega)
 have hE1:Ext H nx (Arx.set (Arx.set (Arx.set H (4*nx) (.cells [.nI c])) (4*(nx+1)) (.cells [.nI s])) (4*(nx+2)) (.cells (e.enc.map AV.iv))) (nx+4):=
  (((Ext.refl hf (show nx<=nx+4 by omega)).set (by omega) (by omega) _).set (by omega) (by omega) _).set (by omega) (by omega) _
 have g0:get (Arx.set (Arx.set (Arx.set H (4*nx) (.cells [.nI c])) (4*(nx+1)) (.cells [.nI s])) (4*(nx+2)) (.cells (e.enc.map AV.iv))) (4*nx)=some (.cells [.nI c]):=by
  rw[get_set_ne _ _ (by omega),get_set_ne _ _ (by omega)];exact get_set_same _ _ _
 have g1:get (Arx.set (Arx.set (Arx.set H (4*nx) (.cells [.nI c])) (4*(nx+1)) (.cells [.nI s])) (4*(nx+2)) (.cells (e.enc.map AV.iv))) (4*(nx+1))=some (.cells [.nI s]):=by
  rw[get_set_ne _ _ (by omega)];exact get_set_same _ _ _
 have g2:get (Arx.set (Arx.set (Arx.set H (4*nx) (.cells [.nI c])) (4*(nx+1)) (.cells [.nI s])) (4*(nx+2)) (.cells (e.enc.map AV.iv))) (4*(nx+2))=some (.cells (e.enc.map AV.iv)):=get_set_same _ _ _;generalize hH1:(Arx.set (Arx.set (Arx.set H (4*nx) (Ob.cells [.nI c])) (4*(nx+1)) (Ob.cells [.nI s])) (4*(nx+2)) (Ob.cells (e.enc.map AV.iv)))=H1 at hE1 g0 g1 g2;have G1:=G.ext hE1;have hral:=G1.al.1;obtain⟨H2,n2,hE2,K,hK⟩:=evCon (p1:=p1) (p2:=p2) (y:=ya) (fv:=.clo 196 [] [.ref (4*nx) 0 0 0,.ref (4*(nx+1)) 0 0 0,.ref (4*(nx+2)) 0 0 0]) (l:=g.acts) (f:=wantX c s e) (e:=5) (agg:=true) hp2 L.h149 L.h142 rfl rfl (by omega) (H:=H1) (nx:=nx+4+7) (fun j hj=>hE1.fresh j (by omega)) (by
  intro H3 n3 hE3;have hE13:Ext H1 (nx+4) H3 n3:=(Ext.refl hE1.fresh (show nx+4<=nx+4+7 by omega)).trans hE3;refine⟨fun H4 n4 hE4=>?_,196,_,rfl,fun j a ha H4 n4 hE4=>?_⟩
  ·have:=(G1.ext (hE13.trans hE4)).a.len;rw[hral]at this;exact this
  ·have hE14:=hE13.trans hE4;have G4:=G1.ext hE14;obtain⟨row,hrow,yrow,rfl,hyrow⟩:=G4.al.get ha;obtain⟨ida,va,i1, -,hya,i4⟩:=G4.a.at_ hrow;have hjl:j<ra.length:=(List.getElem?_eq_some_iff.1 hrow).1;obtain⟨H5,n5,hE5,hev⟩:=ev196 (p1:=p1) hp2 L a (G4.fits a (List.mem_of_getElem? ha)) yrow c s e (4*nx) (4*(nx+1)) (4*(nx+2)) H4 n4 hE4.fresh hyrow (by rw[hE14.old _ (by omega)];exact g0) (by rw[hE14.old _ (by omega)];exact g1) (by rw[hE14.old _ (by omega)];exact g2);refine⟨.ref ida va j 0,.agg (actC a yrow),?_,?_,H5,n5,hE5,hev⟩
   ·rw[hya];generalize ra.length=R at *;simp[Arx.isl,idx,M.run_bind,M.ok,M.bind,M.look,M.run,i4,hjl]
   ·simp only[numV]at hrow;generalize ra=ra' at *;clear hjl;simp[Arx.load,M.run_bind,M.look,M.run,M.lift,i4,obRead,hrow,M.ok,Arx.mk,M.bind,actC])
 have hE3:Ext H nx H2 n2:=(hE1.up (show nx+4<=nx+4+7 by omega)).trans hE2;have key:Wp p1 p2 F195.body ⟨params [.ref lid 0 0 0,.nI c,.nI s,.agg (e.enc.map AV.iv)] 0,H,nx⟩ (fun ex st=>∃r:AV×Hp×Nat,(r.1 = .bI (wantsX g c s e)/\Ext H nx r.2.1 r.2.2)/\Fin F195.res r ex st):=by
  have hat:=G1.at_;rw[hdC_eq]at hat;refine Wp.seq ?_;unfold wantsX;generalize e.enc.map AV.iv=ee at *;refine Wp.rgn (K:=0) (s':=⟨[(0,.ref lid 0 0 0),(5,.ref (4*nx) 0 0 0),(6,.ref (4*(nx+1)) 0 0 0),(7,.ref (4*(nx+2)) 0 0 0)],H1,nx+4⟩) (fun n _=>by
   rw[<-hH1];simp[f0,f1,f2]) ?_
  refine Wp.seq ?_;generalize(g.acts.any (wantX c s e))=q at *;refine Wp.rgn (K:=K) (s':=⟨[(8,.bI q)],H2,n2⟩) (fun n hn=>by
   have c:=hK n hn;simp[hat,c]) ?_
  exact Wp.ret ⟨(_,_,_),⟨rfl,hE3⟩,rfl,rfl⟩
 obtain⟨⟨y,H',nx'⟩,⟨rfl,h1⟩,h4⟩:=Ev.ofx hp2 L.h195 rfl rfl _ key;exact⟨H',nx',h1,h4⟩
end
end Arx
namespace Arx
open Go Arb
def mfI {β:Type} (k:List Int):List (List Int×β)->Nat->Option (Nat×β)
 |[],_=>none
 |q::r,i=>if k==q.1 then some (i,q.2) else mfI k r (i+1)
def encM {β:Type} (enc:β->AV) (m:List (List Int×β)):List (AV×AV):=m.map fun q=>(.agg (q.1.map numV),enc q.2)
def mputX {β:Type} (m:List (List Int×β)) (k:List Int) (v:β):List (List Int×β):=match mfI k m 0 with
 |some r=>m.set r.1 (k,v)
 |none=>m++[(k,v)]
def mgetX {β:Type} (m:List (List Int×β)) (k:List Int) (z:β):β:=match mfI k m 0 with
 |some r=>r.2
 |none=>z
def KL {β:Type} (n:Nat) (m:List (List Int×β)):Prop:=∀q ∈ m,q.1.length=n
theorem KL.nil {β:Type} (n:Nat):KL n ([]:List (List Int×β)):=fun q h=>by cases h
theorem KL.put {β:Type} {n:Nat} {m:List (List Int×β)} (h:KL n m) {k:List Int} (hk:k.length=n) (v:β):KL n (mputX m k v):=by
 unfold mputX;split
 ·intro q hq;rcases List.mem_or_eq_of_mem_set hq with e | e
  ·exact h q e
  ·rw[e];exact hk
 ·intro q hq;rcases List.mem_append.1 hq with e | e
  ·exact h q e
  ·rw[List.mem_singleton.1 e];exact hk
theorem eqs_num:∀(n:Nat) (a b:List Int),a.length=n->b.length=n->eqs (List.replicate n 0) (a.map numV) (b.map numV)=some (a==b)
 |0,a,b,ha,hb=>by
  have:a=[]:=List.length_eq_zero_iff.1 ha;have:b=[]:=List.length_eq_zero_iff.1 hb;subst a;subst b;rfl
 |n+1,[],b,ha,hb=>by simp at ha
 |n+1,x::a,[],ha,hb=>by simp at hb
 |n+1,x::a,y::b,ha,hb=>by
  have ih:=eqs_num n a b (by simpa using ha) (by simpa using hb);rw[List.replicate_succ,List.map_cons,List.map_cons];change((eqs (List.replicate n 0) (a.map numV) (b.map numV)).bind fun c=>some (x==y&&c))=_;rw[ih];rfl
theorem mfind_enc {β:Type} (enc:β->AV) {n:Nat} (hn:n≠1) {k:List Int} (hk:k.length=n):∀(m:List (List Int×β)) (i:Nat),KL n m->mfind (List.replicate n 0) (.agg (k.map numV)) (encM enc m) i=some ((mfI k m i).map fun r=>(r.1,enc r.2))
 |[],i,_=>rfl
 |q::r,i,h=>by
  have ih:=mfind_enc enc hn hk r (i+1) fun q hq=>h q (List.mem_cons_of_mem _ hq)
  have hq:=eqs_num n k q.1 hk (h q (List.mem_cons_self ..));simp only[encM,List.map_cons,mfind,eqk,List.length_replicate,if_neg hn,hq,mfI]at ih ⊢;cases hb:k==q.1 with
  |true=>simp
  |false=>simpa using ih
theorem mget_run {β:Type} (enc:β->AV) {n:Nat} (hn:n≠1) {k:List Int} (hk:k.length=n) {m:List (List Int×β)} (hm:KL n m) {H:Hp} {mid:Nat} (hg:get H mid=some (.map (encM enc m))) (z:β) :
  (mget false false (List.replicate n 0) [enc z] (.ref mid 0 0 0) (.agg (k.map numV))).run H=some (enc (mgetX m k z),H):=by
 have h1:=mfind_enc enc hn hk m 0 hm;unfold mgetX;cases hf:mfI k m 0 with
 |none=>
  rw[hf]at h1;simp[mget,keyOk,hk,hn,M.ok,M.run_bind,M.run,lookMap,M.look,hg,M.bind,h1,M.lift,mk]
 |some r=>
  rw[hf]at h1;simp[mget,keyOk,hk,hn,M.ok,M.run_bind,M.run,lookMap,M.look,hg,M.bind,h1,M.lift]
theorem mput_run {β:Type} (enc:β->AV) {n:Nat} (hn:n≠1) {k:List Int} (hk:k.length=n) {m:List (List Int×β)} (hm:KL n m) {H:Hp} {mid:Nat} (h4:mid % 4=0) (hg:get H mid=some (.map (encM enc m))) (v:β) :
  (mput (List.replicate n 0) (.ref mid 0 0 0) (.agg (k.map numV)) (enc v)).run H=some (.tup [],Arx.set H mid (.map (encM enc (mputX m k v)))):=by
 have h1:=mfind_enc enc hn hk m 0 hm;unfold mputX;cases hf:mfI k m 0 with
 |none=>
  rw[hf]at h1;have e:encM enc (m++[(k,v)])=encM enc m++[(.agg (k.map numV),enc v)]:=by simp[encM]
  simp[mput,keyOk,hk,hn,M.ok,M.run_bind,M.run,lookMap,M.look,hg,M.bind,h1,M.lift,h4,M.write,e]
 |some r=>
  rw[hf]at h1;have e:encM enc (m.set r.1 (k,v))=(encM enc m).set r.1 (.agg (k.map numV),enc v):=by simp[encM,List.map_set]
  simp[mput,keyOk,hk,hn,M.ok,M.run_bind,M.run,lookMap,M.look,hg,M.bind,h1,M.lift,h4,M.write,e]
theorem QE.setO {e:Nat} {H:Hp} {n:Nat} {y:AV} {rows:List (List AV)} (h:QE e H n y rows) {k:Nat} {o0:Ob} (hk:get H k=some o0) (hne:∀v es,o0≠.buf v e es) (ob:Ob):QE e (Arx.set H k ob) n y rows:=by
 rcases h with h | ⟨id,v,i1,i2,i3,i4⟩
 ·exact .inl h
 ·exact .inr ⟨id,v,i1,i2,i3,by rw[get_set_ne _ _ (fun e=>by subst e;rw[hk]at i4;cases i4;exact hne _ _ rfl)];exact i4⟩
end Arx
namespace Arx
open Go Arb
attribute [local simp] evalRgn Option.map_some evalOps step wants isS osem M.run_bind M.mapL M.run M.ok M.fresh M.write M.look M.lift putD ev fr_cons fr_nil keepFr lset_nil lset_cons get_set_same bin binM intBin strBin mk params cellsM load obRead fadr fld isl iarr xarr idx len valid slc rowLen bound store splice un callee Option.bind_some M.bind putAll oo om ol oa oc ob on og od oe ci cb
structure Dv where
 c:Int
 p:Int
 s:Int
def Dv.enc (d:Dv):List IV:=[.int .i64 d.c,.int .i64 d.p,.int .i64 d.s]
abbrev SM:=List (List Int×Int)
def hiX (m:SM) (k:List Int) (p:Int):Int:=if mgetX m k 0<p then p else mgetX m k 0
def safeB (g:Lg) (N:Nat) (m:SM) (x:Dv) (p:Pb):Bool:=decide (x.p<=mgetX m [x.c,p.c] 0)||(decide (x.s<p.s)||(decide ((N:Int)<x.s)||!wantsX g x.c x.s p.e))
def safeS (g:Lg) (N t:Nat) (x:Dv) (q:SM×List Int):SM×List Int:=match pubAt g x.p with
 |none=>(q.1,q.2++[(t:Int)])
 |some p=>(mputX q.1 [x.c,p.c] (hiX q.1 [x.c,p.c] x.p),if safeB g N q.1 x p=true then q.2++[(t:Int)] else q.2)
def safeTo (g:Lg) (N:Nat) (d:List Dv):Nat->SM×List Int
 |0=>([],[])
 |t+1=>match d[t]? with
  |some x=>safeS g N t x (safeTo g N d t)
  |none=>safeTo g N d t
def safeX (g:Lg) (N:Nat) (d:List Dv):List Int:=(safeTo g N d d.length).2
theorem safeTo_succ {g:Lg} {N:Nat} {d:List Dv} {t:Nat} {x:Dv} (h:d[t]?=some x):safeTo g N d (t+1)=safeS g N t x (safeTo g N d t):=by rw[safeTo,h]
theorem safeS_KL {g:Lg} {N t:Nat} {x:Dv} {q:SM×List Int} (h:KL 2 q.1):KL 2 (safeS g N t x q).1:=by
 unfold safeS;split
 ·exact h
 ·exact h.put rfl _
theorem safeTo_KL (g:Lg) (N:Nat) (d:List Dv):∀t,KL 2 (safeTo g N d t).1
 |0=>KL.nil 2
 |t+1=>by
  unfold safeTo;split
  ·exact safeS_KL (safeTo_KL g N d t)
  ·exact safeTo_KL g N d t
theorem safeTo_len (g:Lg) (N:Nat) (d:List Dv):∀t,(safeTo g N d t).2.length<=t
 |0=>by simp[safeTo]
 |t+1=>by
  have ih:=safeTo_len g N d t;unfold safeTo;split
  ·unfold safeS;split
   ·simp only[List.length_append,List.length_cons,List.length_nil];omega
   ·simp only[];split
    ·simp only[List.length_append,List.length_cons,List.length_nil];omega
    ·omega
  ·omega
theorem QI.push3 {H:Hp} {n lo:Nat} {y:AV} {l:List Int} (h:QI H n y l) (hf:Fresh H n) (t:Int) {gid slot n':Nat} (h1:4*n<=gid) (h2:n<=slot) (h3:gid<4*slot) (hn:slot<n') (hlen:l.length<=1000000) (hlo:∀k o m w,y = .own k o m w->4*lo<=k) (hln:lo<=n) :
  ∃y' H4,(app 1 slot false y (.own gid 0 1 0)).run (Arx.set H gid (.buf 0 1 [numC t]))=some (y',H4)/\Fresh H4 n'/\QI H4 n' y' (l++[t])/\(∀k o m w,y' = .own k o m w->4*lo<=k)/\(∀k,k<4*lo->get H4 k=get H k)/\
   (∀k ob,get H k=some ob->(∀v es,ob≠.buf v 1 es)->get H4 k=some ob):=by
 obtain⟨y',H4,p1,p2,p3,p4,p5⟩:=QE.push2 (e:=1) h hf (numC t) (g:=gid) (slot:=slot) (get_set_same _ _ _) (fun k hk=>get_set_ne _ _ (Ne.symm hk)) h1 h2 h3 (by rw[List.length_map];omega);refine⟨y',H4,p1,fun k hk=>p2 k (by omega),?_,fun k o m w e=>?_,fun k hk=>p4 k (by omega) fun o m w e=>by have:=hlo k o m w e;omega,fun k ob hk hne=>?_⟩
 ·show QE 1 _ _ _ ((l++[t]).map numC)
  rw[List.map_append];exact p3.mono (by omega) fun _ _=>rfl
 ·rcases p5 k o m w e with q | ⟨o,m,w,q⟩
  ·omega
  ·exact hlo k o m w q
 ·have hkn:k<4*n:=by
   rcases Nat.lt_or_ge k (4*n)with q | q
   ·exact q
   ·rw[hf k q]at hk;cases hk
  rw[p4 k hkn (QE.not_ (e:=1) h hk hne)];exact hk
section
variable {p1:Nat->Option Arb.IFn} {p2:Nat->Option IFn}
theorem binM_ptr {H:Hp} {n:Nat} {v:AV} {id:Int} {p:Option Pb} (h:PP H n v id p):(binM .eql 2 v (.iv .nilp)).run H=some (.bI p.isNone,H):=by
 cases p with
 |none=>rw[show v = .iv .nilp from h];rfl
 |some p=>
  obtain⟨idp,vp,j,rows,rfl,h2,h3,h4,h5⟩:=h;simp[binM,M.look,M.run_bind,M.run,h3,valid,M.ok,M.bind]
def safeBlk:IC:=match F154.body with
 |.seq _ (.seq _ (.seq _ (.seq (.seq _ (.block _ (.loop _ (.seq _ (.seq _ (.seq (.block _ c) _)))))) _)))=>c
 |_=>.skip
theorem pbC_at (j:Nat) (p:Pb):((pbC j p).drop 1).take 1=[.nI p.c]/\(pbC j p).tail.take 1=[.nI p.c]/\((pbC j p).drop 14).take 1=[.nI p.s]/\((pbC j p).drop 2).take 12=p.e.enc.map AV.iv:=⟨rfl,rfl,rfl,rfl⟩
set_option maxHeartbeats 8000000 in
theorem safe_one (hp2:PrimsLe p2) (L:LibL p1 p2) {lo lid:Nat} {x:Hd} {g:Lg} {H1:Hp} {n1:Nat} {ya yp yd:AV} {ra rp:List (List AV)} (G:LG lo H1 n1 lid x g ya yp yd ra rp) (hla:g.acts.length<=1000) (hlp:g.pubs.length<=1000)
  (scr:List (List IV)) (rows:List (List IV)) (t:Nat) (ht:t<=1000) (dv:Dv) (hin:in64 dv.p) (hrow:rows[t]?=some dv.enc) (q:SM×List Int) (hq:KL 2 q.1) (hql:q.2.length<=t)
  (H2:Hp) (n2:Nat) (hE:Ext H1 n1 H2 n2) (yb:AV) (hyb:QI H2 n2 yb q.2) (hybo:∀k o m w,yb = .own k o m w->4*n1<=k) (hm:get H2 (4*n1)=some (.map (encM numV q.1))) (lnv:AV) :
  Wp p1 p2 safeBlk ⟨[(1,.iv (.sl 24 scr)),(6,yb),(7,.ref lid 0 0 0),(8,.ref (4*n1) 0 0 0),(17,.iv (.sl 3 rows)),(18,lnv),(19,.nI t),(20,.bI true)],H2,n2⟩
   (fun e st=>(e = .norm\/e = .exit 1)/\∃yb',st.fr=[(1,.iv (.sl 24 scr)),(6,yb'),(7,.ref lid 0 0 0),(8,.ref (4*n1) 0 0 0),(17,.iv (.sl 3 rows)),(18,lnv),(19,.nI t)]/\Ext H1 n1 st.hp st.nx/\QI st.hp st.nx yb' (safeS g scr.length t dv q).2/\(∀k o m w,yb' = .own k o m w->4*n1<=k)/\get st.hp (4*n1)=some (.map (encM numV (safeS g scr.length t dv q).1))):=by
 have hn12:=hE.le;have hmlt:4*n1<4*n2:=by
  rcases Nat.lt_or_ge (4*n1) (4*n2)with h | h
  ·exact h
  ·rw[hE.fresh _ h]at hm;cases hm
 have hfr:get H2 (4*(n2+3))=none:=hE.fresh _ (by omega);have hE3:Ext H2 n2 (Arx.set (Arx.set H2 (4*(n2+3)) (.cells [.nI 0,.nI 0,.nI 0])) (4*(n2+3)) (.cells [.nI dv.c,.nI dv.p,.nI dv.s])) (n2+6):=
  ((Ext.refl hE.fresh (show n2<=n2+6 by omega)).set (by omega) (by omega) _).set (by omega) (by omega) _
 have hg3:get (Arx.set (Arx.set H2 (4*(n2+3)) (Ob.cells [.nI 0,.nI 0,.nI 0])) (4*(n2+3)) (Ob.cells [.nI dv.c,.nI dv.p,.nI dv.s])) (4*(n2+3))=some (.cells [.nI dv.c,.nI dv.p,.nI dv.s]):=get_set_same _ _ _;generalize hH3:(Arx.set (Arx.set H2 (4*(n2+3)) (Ob.cells [.nI 0,.nI 0,.nI 0])) (4*(n2+3)) (Ob.cells [.nI dv.c,.nI dv.p,.nI dv.s]))=H3 at hE3 hg3;have hm3:get H3 (4*n1)=some (.map (encM numV q.1)):=by rw[hE3.old _ hmlt];exact hm
 have hyb3:QI H3 (n2+6) yb q.2:=QE.mono hyb (by omega) hE3.old;have hE13:=hE.trans hE3;obtain⟨pv,n4,hn4,hn4',hpp,K1,hK1⟩:=ev176 (p1:=p1) hp2 L (G.ext (hE13.up (show n2+6<=n2+6+5 by omega))) hlp dv.p hin;have henc:dv.enc=[.int .i64 dv.c,.int .i64 dv.p,.int .i64 dv.s]:=rfl;rw[henc]at hrow;refine Wp.seq ?_;refine Wp.rgn (K:=0) (s':=⟨[(1,.iv (.sl 24 scr)),(6,yb),(7,.ref lid 0 0 0),(8,.ref (4*n1) 0 0 0),(9,.nI t),(10,.ref (4*(n2+3)) 0 0 0),(17,.iv (.sl 3 rows)),(18,lnv),(19,.nI t)],H3,n2+6⟩) (fun n _=>by
  rw[<-hH3];simp[hfr,hrow]) ?_
 refine Wp.seq ?_;refine Wp.rgn (K:=K1) (s':=⟨[(1,.iv (.sl 24 scr)),(6,yb),(7,.ref lid 0 0 0),(8,.ref (4*n1) 0 0 0),(9,.nI t),(10,.ref (4*(n2+3)) 0 0 0),(11,pv),(17,.iv (.sl 3 rows)),(18,lnv),(19,.nI t)],H3,n4⟩) (fun n hn=>by
  have c:=hK1 n hn;simp[hg3,c]) ?_
 refine Wp.seq (Wp.seq ?_);have hbp:=binM_ptr hpp;refine Wp.rgn (K:=0) (s':=⟨[(1,.iv (.sl 24 scr)),(6,yb),(7,.ref lid 0 0 0),(8,.ref (4*n1) 0 0 0),(9,.nI t),(10,.ref (4*(n2+3)) 0 0 0),(11,pv),(17,.iv (.sl 3 rows)),(18,lnv),(19,.nI t),(29,.iv (.bool (pubAt g dv.p).isNone))],H3,n4+2⟩) (fun n hn=>by
  generalize(pubAt g dv.p).isNone=b at *;simp[-binM,hbp]) ?_
 refine Wp.cond rfl ?_;unfold safeS;have hfr4:Fresh H3 (n4+2):=fun k hk=>hE3.fresh k (by omega)
 have hE14:Ext H1 n1 H3 (n4+2):=hE13.up (by omega);have hyb4:QI H3 (n4+2) yb q.2:=hyb3.mono (by omega) fun _ _=>rfl
 cases hpa:pubAt g dv.p with
 |none=>
  simp only[Option.isNone_none,if_true];have hfg:get H3 (4*(n4+2+2))=none:=hfr4 _ (by omega);obtain⟨y',H5,r1,r2,r3,r4,r5,r6⟩:=hyb4.push3 hfr4 (t:Int) (lo:=n1) (gid:=4*(n4+2+2)) (slot:=n4+2+3) (n':=n4+2+5) (by omega) (by omega) (by omega) (by omega) (by omega) hybo (by omega);refine Wp.seq ?_;refine Wp.rgn (K:=0) (s':=⟨[(1,.iv (.sl 24 scr)),(6,y'),(7,.ref lid 0 0 0),(8,.ref (4*n1) 0 0 0),(17,.iv (.sl 3 rows)),(18,lnv),(19,.nI t)],H5,n4+2+5⟩) (fun n hn=>by
   simp only[numC,Nat.add_assoc]at r1 hfg;simp[hfg,r1,setAll,Nat.add_assoc]) ?_
  refine Wp.exit ?_;exact⟨.inr rfl,y',rfl,⟨by show n1<=n4+2+5;omega,r2,fun k hk=>(r5 k hk).trans (hE13.old k hk)⟩,r3,r4,r6 _ _ hm3 fun v es h=>by cases h⟩
 |some p=>
  simp only[Option.isNone_some,Bool.false_eq_true,if_false];refine Wp.skip ?_;simp only[Ex.then];rw[hpa]at hpp;obtain⟨idp,vp,j,prows,rfl,i1,i3,i4,i5⟩:=hpp;obtain⟨a1,a1',a14,a2⟩:=pbC_at j p;have hel:(p.e.enc.map AV.iv).length=12:=rfl;have hfk:get H3 (4*(n4+2+8))=none:=hfr4 _ (by omega);have hE5:Ext H1 n1 (Arx.set (Arx.set H3 (4*(n4+2+8)) (.cells [.nI 0,.nI 0])) (4*(n4+2+8)) (.cells [.nI dv.c,.nI p.c])) (n4+2+10):=
   ((hE14.up (show n4+2<=n4+2+10 by omega)).set (by omega) (by omega) _).set (by omega) (by omega) _
  have hE35:Ext H3 (n4+2) (Arx.set (Arx.set H3 (4*(n4+2+8)) (.cells [.nI 0,.nI 0])) (4*(n4+2+8)) (.cells [.nI dv.c,.nI p.c])) (n4+2+10):=
   ((Ext.refl hfr4 (show n4+2<=n4+2+10 by omega)).set (by omega) (by omega) _).set (by omega) (by omega) _
  have hg5:get (Arx.set (Arx.set H3 (4*(n4+2+8)) (Ob.cells [.nI 0,.nI 0])) (4*(n4+2+8)) (Ob.cells [.nI dv.c,.nI p.c])) (4*(n4+2+8))=some (.cells [.nI dv.c,.nI p.c]):=get_set_same _ _ _;generalize hH5:(Arx.set (Arx.set H3 (4*(n4+2+8)) (Ob.cells [.nI 0,.nI 0])) (4*(n4+2+8)) (Ob.cells [.nI dv.c,.nI p.c]))=H5 at hE5 hE35 hg5;refine Wp.seq (Wp.drawn rfl ?_);refine Wp.rgn (K:=0) (s':=⟨[(1,.iv (.sl 24 scr)),(6,yb),(7,.ref lid 0 0 0),(8,.ref (4*n1) 0 0 0),(9,.nI t),(10,.ref (4*(n2+3)) 0 0 0),(11,.ref idp vp j 0),(12,.ref (4*(n4+2+8)) 0 0 0),(17,.iv (.sl 3 rows)),(18,lnv),(19,.nI t)],H5,n4+2+10⟩) (fun n hn=>by
   rw[<-hH5];generalize pbC j p=pr at *;simp[hg3,i3,i4,a1,a1',hfk,putAll]) ?_
  have hi5:get H5 idp=some (.buf vp 15 prows):=by rw[hE35.old _ (by omega)];exact i3
  have hg35:get H5 (4*(n2+3))=some (.cells [.nI dv.c,.nI dv.p,.nI dv.s]):=by rw[hE35.old _ (by omega)];exact hg3
  have hm5:get H5 (4*n1)=some (.map (encM numV q.1)):=by rw[hE35.old _ (by omega)];exact hm3
  have hyb5:QI H5 (n4+2+10) yb q.2:=QE.mono hyb4 (by omega) hE35.old;have hget:=mget_run numV (n:=2) (by decide) (k:=[dv.c,p.c]) rfl hq hm5 0;simp only[List.map_cons,List.map_nil,numV]at hget;change(mget false false [0,0] _ _ _).run _=_ at hget;obtain⟨H6,n6,hE6,K2,hK2⟩:=ev195 (p1:=p1) hp2 L (G.ext (hE5.up (show n4+2+10<=n4+2+10+36 by omega))) hla (fun k hk=>hE5.fresh k (by omega)) dv.c dv.s p.e;obtain⟨H7,n7,hE7,hreg⟩:∃H7 n7,Ext H5 (n4+2+10) H7 n7/\∀n,K2<=n->∀(ops:List IOper),ops=(match safeBlk with | .seq _ (.seq _ (.seq _ (.seq _ (.seq (.seq (.rgn _ o _) _) _))))=>o | _=>[])->evalRgn (one p1 n) (run2 p1 p2 n) false ops [1,6,7,8,9,10,12,17,18,19,77]
    ⟨[(1,.iv (.sl 24 scr)),(6,yb),(7,.ref lid 0 0 0),(8,.ref (4*n1) 0 0 0),(9,.nI t),(10,.ref (4*(n2+3)) 0 0 0),(11,.ref idp vp j 0),(12,.ref (4*(n4+2+8)) 0 0 0),(17,.iv (.sl 3 rows)),(18,lnv),(19,.nI t)],H5,n4+2+10⟩ =
    some ⟨[(1,.iv (.sl 24 scr)),(6,yb),(7,.ref lid 0 0 0),(8,.ref (4*n1) 0 0 0),(9,.nI t),(10,.ref (4*(n2+3)) 0 0 0),(12,.ref (4*(n4+2+8)) 0 0 0),(17,.iv (.sl 3 rows)),(18,lnv),(19,.nI t),(77,.bI (safeB g scr.length q.1 dv p))],H7,n7⟩:=by
   unfold safeB;generalize mgetX q.1 [dv.c,p.c] 0=last at *;generalize wantsX g dv.c dv.s p.e=w at *;generalize pbC j p=pr at *;generalize p.e.enc.map AV.iv=ee at *;by_cases h0:dv.p<=last
   ·refine⟨H5,n4+2+10+36,Ext.refl hE5.fresh (by omega),fun n hn ops ho=>?_⟩;subst ho;simp[safeBlk,F154,hg35,hg5,hget,hi5,i4,a14,a2,hel,h0]
   ·by_cases h1:dv.s<p.s
    ·refine⟨H5,n4+2+10+36,Ext.refl hE5.fresh (by omega),fun n hn ops ho=>?_⟩;subst ho;simp[safeBlk,F154,hg35,hg5,hget,hi5,i4,a14,a2,hel,h0,h1]
    ·by_cases h2:(scr.length:Int)<dv.s
     ·refine⟨H5,n4+2+10+36,Ext.refl hE5.fresh (by omega),fun n hn ops ho=>?_⟩;subst ho;simp[safeBlk,F154,hg35,hg5,hget,hi5,i4,a14,a2,hel,h0,h1,h2]
     ·refine⟨H6,n6,(Ext.refl hE5.fresh (show n4+2+10<=n4+2+10+36 by omega)).trans hE6,fun n hn ops ho=>?_⟩;subst ho;have c:=hK2 n hn;simp[safeBlk,F154,hg35,hg5,hget,hi5,i4,a14,a2,hel,h0,h1,h2,c]
  refine Wp.seq (Wp.seq (Wp.drawn rfl ?_));refine Wp.rgn (K:=K2) (fun n hn=>hreg n hn _ rfl) ?_;refine Wp.cond rfl ?_;have hE17:=hE5.trans hE7;have hg57:get H7 (4*(n4+2+8))=some (.cells [.nI dv.c,.nI p.c]):=by rw[hE7.old _ (by omega)];exact hg5
  have hg37:get H7 (4*(n2+3))=some (.cells [.nI dv.c,.nI dv.p,.nI dv.s]):=by rw[hE7.old _ (by omega)];exact hg35
  have hm7:get H7 (4*n1)=some (.map (encM numV q.1)):=by rw[hE7.old _ (by omega)];exact hm5
  have hyb7:QI H7 n7 yb q.2:=QE.mono hyb5 hE7.le hE7.old;have hle7:=hE7.le;have hlast:∀(H8:Hp) (n8:Nat) (y8:AV) (z:Fr) (l8:List Int),Ext H1 n1 H8 n8->QI H8 n8 y8 l8->(∀k o m w,y8 = .own k o m w->4*n1<=k)->get H8 (4*(n4+2+8))=some (.cells [.nI dv.c,.nI p.c])->get H8 (4*(n2+3))=some (.cells [.nI dv.c,.nI dv.p,.nI dv.s])->
    get H8 (4*n1)=some (.map (encM numV q.1))->4*n1<4*n8->∀fr:Fr,get fr 1=some (.iv (.sl 24 scr))->get fr 6=some y8->get fr 7=some (.ref lid 0 0 0)->get fr 8=some (.ref (4*n1) 0 0 0)->get fr 10=some (.ref (4*(n2+3)) 0 0 0)->get fr 12=some (.ref (4*(n4+2+8)) 0 0 0)->get fr 17=some (.iv (.sl 3 rows))->get fr 18=some lnv->get fr 19=some (.nI t)->
    Wp p1 p2 (match safeBlk with | .seq _ (.seq _ (.seq _ (.seq _ (.seq _ c))))=>c | _=>.skip) ⟨fr,H8,n8⟩ (fun e st=>(e = .norm\/e = .exit 1)/\∃yb',st.fr=[(1,.iv (.sl 24 scr)),(6,yb'),(7,.ref lid 0 0 0),(8,.ref (4*n1) 0 0 0),(17,.iv (.sl 3 rows)),(18,lnv),(19,.nI t)]/\Ext H1 n1 st.hp st.nx/\QI st.hp st.nx yb' l8/\(∀k o m w,yb' = .own k o m w->4*n1<=k)/\get st.hp (4*n1)=some (.map (encM numV (mputX q.1 [dv.c,p.c] (hiX q.1 [dv.c,p.c] dv.p))))):=by
   intro H8 n8 y8 z l8 hE8 hy8 hy8o hk8 hd8 hm8 hlt8 fr f1 f6 f7 f8 f10 f12 f17 f18 f19;have hget8:=mget_run numV (n:=2) (by decide) (k:=[dv.c,p.c]) rfl hq hm8 0;have hput8:=mput_run numV (n:=2) (by decide) (k:=[dv.c,p.c]) rfl hq (by omega) hm8 (hiX q.1 [dv.c,p.c] dv.p);simp only[List.map_cons,List.map_nil,numV]at hget8 hput8;change(mget false false [0,0] _ _ _).run _=_ at hget8;change(mput [0,0] _ _ _).run _=_ at hput8;refine Wp.drawn rfl ?_;refine Wp.rgn (K:=0) (s':=⟨[(1,.iv (.sl 24 scr)),(6,y8),(7,.ref lid 0 0 0),(8,.ref (4*n1) 0 0 0),(17,.iv (.sl 3 rows)),(18,lnv),(19,.nI t)],Arx.set H8 (4*n1) (.map (encM numV (mputX q.1 [dv.c,p.c] (hiX q.1 [dv.c,p.c] dv.p)))),n8+9⟩) (fun n _=>by
    unfold hiX at hput8 ⊢;generalize mgetX q.1 [dv.c,p.c] 0=last at *;simp[get_set,f1,f6,f7,f8,f10,f12,f17,f18,f19,hk8,hd8,hget8,mxI,hput8]) ?_
   refine⟨.inl rfl,y8,rfl,?_,?_,hy8o,get_set_same _ _ _⟩
   ·exact(hE8.up (show n8<=n8+9 by omega)).set (by omega) (by omega) _
   ·exact(QE.setO (hy8.mono (show n8<=n8+9 by omega) fun _ _=>rfl) hm8 (fun v es h=>by cases h) _)
  cases hsb:safeB g scr.length q.1 dv p with
  |false=>
   simp only[Bool.false_eq_true,if_false];refine Wp.skip ?_;simp only[Ex.then];exact hlast H7 n7 yb [] q.2 hE17 hyb7 hybo hg57 hg37 hm7 (by omega) _ rfl rfl rfl rfl rfl rfl rfl rfl rfl
  |true=>
   simp only[if_true];have hfr7:Fresh H7 n7:=hE7.fresh;have hfg:get H7 (4*(n7+2))=none:=hfr7 _ (by omega);obtain⟨y',H8,r1,r2,r3,r4,r5,r6⟩:=hyb7.push3 hfr7 (t:Int) (lo:=n1) (gid:=4*(n7+2)) (slot:=n7+3) (n':=n7+5) (by omega) (by omega) (by omega) (by omega) (by omega) hybo (by omega);refine Wp.rgn (K:=0) (s':=⟨[(1,.iv (.sl 24 scr)),(6,y'),(7,.ref lid 0 0 0),(8,.ref (4*n1) 0 0 0),(10,.ref (4*(n2+3)) 0 0 0),(12,.ref (4*(n4+2+8)) 0 0 0),(17,.iv (.sl 3 rows)),(18,lnv),(19,.nI t)],H8,n7+5⟩) (fun n hn=>by
    simp only[numC]at r1;simp[hfg,r1,setAll]) ?_
   simp only[Ex.then];exact hlast H8 (n7+5) y' [] _ ⟨by omega,r2,fun k hk=>(r5 k hk).trans (hE17.old k hk)⟩ r3 r4 (r6 _ _ hg57 fun v es h=>by cases h) (r6 _ _ hg37 fun v es h=>by cases h) (r6 _ _ hm7 fun v es h=>by cases h) (by omega) _ rfl rfl rfl rfl rfl rfl rfl rfl rfl
end
theorem QI.nil (H:Hp) (n:Nat):QI H n (.iv (.nsl 1)) []:=QE.nil 1 H n
section
variable {p1:Nat->Option Arb.IFn} {p2:Nat->Option IFn}
set_option maxHeartbeats 4000000 in
theorem ev154 (hp2:PrimsLe p2) (L:LibL p1 p2) (x:Hd) (hp:x.ps.length<=100) (hh:x.hs.length<=100) (l:List Arb.Op) (hl:l.length<=1000) (hok:∀o ∈ l,o.ok) (d:List Dv) (hd:d.length<=1000) (hdi:∀v ∈ d,in64 v.p) (H:Hp) (nx:Nat) (hf:Fresh H nx) :
  ∃H' nx' y,Ext H nx H' nx'/\QI H' nx' y (safeX (readX x l) l.length d)/\Ev p1 p2 154 [.agg (hdC x),.iv (.sl 24 (l.map Arb.Op.enc)),.iv (.sl 3 (d.map Dv.enc))] H nx (y,H',nx'):=by
 have hfr:get H (4*nx)=none:=hf _ (by omega);have hE1:Ext H nx (Arx.set H (4*nx) (.cells (hdC x))) (nx+2):=(Ext.refl hf (by omega)).set (by omega) (by omega) _;have hb:get (Arx.set H (4*nx) (Ob.cells (hdC x))) (4*nx)=some (.cells (hdC x)):=get_set_same _ _ _;generalize hH0:Arx.set H (4*nx) (Ob.cells (hdC x))=H0 at hE1 hb;obtain⟨H1,n1,lid,ya,yp,yd,ra,rp,hE2,G,K1,hK1⟩:=ev177 (p1:=p1) hp2 L x hp hh l hl hok H0 (nx+2+4) (fun k hk=>hE1.fresh k (by omega));have hE01:Ext H nx H1 n1:=(hE1.up (show nx+2<=nx+2+4 by omega)).trans hE2;have hlen:=readTo_len x l l.length;have hgl:(readX x l).acts.length<=1000/\(readX x l).pubs.length<=1000:=by
  unfold readX;split
  ·omega
  ·simp
 generalize readX x l=g at *;have hfm:get H1 (4*n1)=none:=hE2.fresh _ (by omega);have key:Wp p1 p2 F154.body ⟨params [.agg (hdC x),.iv (.sl 24 (l.map Arb.Op.enc)),.iv (.sl 3 (d.map Dv.enc))] 0,H,nx⟩ (fun e st=>∃r:AV×Hp×Nat,(Ext H nx r.2.1 r.2.2/\QI r.2.1 r.2.2 r.1 (safeX g l.length d))/\Fin F154.res r e st):=by
  have hsl:(l.map Arb.Op.enc).length=l.length:=by simp
  have hdl:(d.map Dv.enc).length=d.length:=by simp
  have hrows:∀{t:Nat} {v:Dv},d[t]?=some v->(d.map Dv.enc)[t]?=some v.enc:=fun h=>by rw[List.getElem?_map,h];rfl
  generalize l.map Arb.Op.enc=scr at *;generalize d.map Dv.enc=rows at *;refine Wp.seq ?_;refine Wp.rgn (K:=0) (s':=⟨[(1,.iv (.sl 24 scr)),(2,.iv (.sl 3 rows)),(3,.ref (4*nx) 0 0 0),(6,.iv (.nsl 1))],H0,nx+2⟩) (fun n _=>by
   rw[<-hH0];simp[hfr]) ?_
  refine Wp.seq ?_;refine Wp.rgn (K:=K1) (s':=⟨[(1,.iv (.sl 24 scr)),(2,.iv (.sl 3 rows)),(6,.iv (.nsl 1)),(7,.ref lid 0 0 0)],H1,n1⟩) (fun n hn=>by
   have c:=hK1 n hn;simp[hb,hd_take,hd_len,c]) ?_
  refine Wp.seq ?_;refine Wp.rgn (K:=0) (s':=⟨[(1,.iv (.sl 24 scr)),(2,.iv (.sl 3 rows)),(6,.iv (.nsl 1)),(7,.ref lid 0 0 0),(8,.ref (4*n1) 0 0 0)],Arx.set H1 (4*n1) (.map []),n1+2⟩) (fun n _=>by
   simp[hfm]) ?_
  refine Wp.seq (Wp.seq ?_);refine Wp.rgn (K:=0) (s':=⟨[(1,.iv (.sl 24 scr)),(6,.iv (.nsl 1)),(7,.ref lid 0 0 0),(8,.ref (4*n1) 0 0 0),(17,.iv (.sl 3 rows)),(18,.nI d.length),(19,.nI 0)],Arx.set H1 (4*n1) (.map []),n1+5⟩) (fun n _=>by
   simp[hdl]) ?_
  refine Wp.block ?_;refine Wp.loop (fun m s1=>∃(t n2:Nat) (H2:Hp) (yb:AV),t+m=d.length/\Ext H1 n1 H2 n2/\QI H2 n2 yb (safeTo g l.length d t).2/\(∀k o m w,yb = .own k o m w->4*n1<=k)/\get H2 (4*n1)=some (.map (encM numV (safeTo g l.length d t).1))/\
   s1=⟨[(1,.iv (.sl 24 scr)),(6,yb),(7,.ref lid 0 0 0),(8,.ref (4*n1) 0 0 0),(17,.iv (.sl 3 rows)),(18,.nI d.length),(19,.nI t)],H2,n2⟩) (m:=d.length)
   ⟨0,n1+5,_,.iv (.nsl 1),by omega,(Ext.refl hE2.fresh (show n1<=n1+5 by omega)).set (by omega) (by omega) _,QI.nil _ _,(fun k o m w h=>by cases h),get_set_same _ _ _,by simp[fr_cons,keepFr,safeTo,encM]⟩ ?_
  rintro m s1 ⟨t,n2,H2,yb,htm,hE3,hyb,hybo,hm,rfl⟩;refine Wp.seq ?_;by_cases ht:t<d.length
  ·obtain⟨v,hv⟩:∃v,d[t]?=some v:=⟨_,List.getElem?_eq_getElem ht⟩;have hw1:IntKind.i64.wrap ((t:Int)+1)=(t:Int)+1:=IntWalk.i64_in _ (by omega);have hsuc:=safeTo_succ (g:=g) (N:=l.length) hv;have hone:=safe_one (p1:=p1) hp2 L G hgl.1 hgl.2 scr rows t (by omega) v (hdi v (List.mem_of_getElem? hv)) (hrows hv) (safeTo g l.length d t) (safeTo_KL g l.length d t) (safeTo_len g l.length d t) H2 (n2+1) (hE3.up (by omega)) yb (QE.mono hyb (by omega) fun _ _=>rfl) hybo hm (.nI d.length);rw[hsl,<-hsuc]at hone;refine Wp.rgn (K:=0) (fun n _=>by simp[ht];rfl) ?_;refine Wp.seq (Wp.cond (t:=true) rfl (Wp.skip (Wp.seq (Wp.block ?_))))
   refine Wp.mono hone ?_;rintro e ⟨fr,H4,n4⟩ ⟨he,yb',rfl,b1,b2,b3,b4⟩;simp only[]at b1 b2 b3 b4;rcases he with rfl | rfl
   ·simp only[Ex.then,Ex.inBlock];refine Wp.rgn (K:=0) (fun n _=>by simp[hw1];rfl) ?_;exact⟨m - 1,by omega,t+1,n4+2,H4,yb',by omega,b1.up (by omega),QE.mono b2 (by omega) fun _ _=>rfl,b3,b4,by simp[fr_cons,keepFr]⟩
   ·simp only[Ex.then,Ex.inBlock,if_true];refine Wp.rgn (K:=0) (fun n _=>by simp[hw1];rfl) ?_;exact⟨m - 1,by omega,t+1,n4+2,H4,yb',by omega,b1.up (by omega),QE.mono b2 (by omega) fun _ _=>rfl,b3,b4,by simp[fr_cons,keepFr]⟩
  ·obtain rfl:t=d.length:=by omega
   refine Wp.rg ?_;refine Wp.seq (Wp.cond (t:=false) rfl (Wp.exit ?_));simp only[Ex.then,Ex.inBlock,if_true];refine Wp.seq ?_;refine Wp.rg ?_;exact Wp.ret ⟨(yb,H2,n2+1+2),⟨hE01.trans (hE3.up (show n2<=n2+1+2 by omega)),QE.mono hyb (show n2<=n2+1+2 by omega) fun _ _=>rfl⟩,rfl,rfl⟩
 obtain⟨⟨y,H',nx'⟩,⟨h1,h2⟩,h4⟩:=Ev.ofx hp2 L.h154 rfl rfl _ key;exact⟨H',nx',y,h1,h2,h4⟩
end
structure Cr where
 f:Int
 t:Int
 p:Int
 s:Int
def Cr.enc (d:Cr):List IV:=[.int .i64 d.f,.int .i64 d.t,.int .i64 d.p,.int .i64 d.s]
def boolV (b:Bool):AV:=.iv (.bool b)
abbrev PM:=List (List Int×Bool)
def homeX (h:Hd) (p:Pb):Int:=(h.hs[p.c.toNat]?).getD 0
def pathB (h:Hd) (m:PM×PM) (x:Cr) (p:Pb):Bool:=!awayX h x.f x.t (homeX h p)||(mgetX m.1 [x.f,x.t,x.p] false||(decide (x.s<p.s)||(x.f != homeX h p&&!mgetX m.2 [x.f,x.p] false)))
def pathS (h:Hd) (g:Lg) (t:Nat) (x:Cr) (q:(PM×PM)×List Int):(PM×PM)×List Int:=match pubAt g x.p with
 |none=>(q.1,q.2++[(t:Int)])
 |some p=>((mputX q.1.1 [x.f,x.t,x.p] true,if awayX h x.f x.t (homeX h p)=true then mputX q.1.2 [x.t,x.p] true else q.1.2),if pathB h q.1 x p=true then q.2++[(t:Int)] else q.2)
def pathTo (h:Hd) (g:Lg) (d:List Cr):Nat->(PM×PM)×List Int
 |0=>(([],[]),[])
 |t+1=>match d[t]? with
  |some x=>pathS h g t x (pathTo h g d t)
  |none=>pathTo h g d t
def pathX (h:Hd) (g:Lg) (d:List Cr):List Int:=(pathTo h g d d.length).2
theorem pathTo_succ {h:Hd} {g:Lg} {d:List Cr} {t:Nat} {x:Cr} (e:d[t]?=some x):pathTo h g d (t+1)=pathS h g t x (pathTo h g d t):=by rw[pathTo,e]
theorem pathS_KL {h:Hd} {g:Lg} {t:Nat} {x:Cr} {q:(PM×PM)×List Int} (k:KL 3 q.1.1/\KL 2 q.1.2):KL 3 (pathS h g t x q).1.1/\KL 2 (pathS h g t x q).1.2:=by
 unfold pathS;split
 ·exact k
 ·refine⟨k.1.put rfl _,?_⟩;simp only[];split
  ·exact k.2.put rfl _
  ·exact k.2
theorem pathTo_KL (h:Hd) (g:Lg) (d:List Cr):∀t,KL 3 (pathTo h g d t).1.1/\KL 2 (pathTo h g d t).1.2
 |0=>⟨KL.nil 3,KL.nil 2⟩
 |t+1=>by
  unfold pathTo;split
  ·exact pathS_KL (pathTo_KL h g d t)
  ·exact pathTo_KL h g d t
theorem pathTo_len (h:Hd) (g:Lg) (d:List Cr):∀t,(pathTo h g d t).2.length<=t
 |0=>by simp[pathTo]
 |t+1=>by
  have ih:=pathTo_len h g d t;unfold pathTo;split
  ·unfold pathS;split
   ·simp only[List.length_append,List.length_cons,List.length_nil];omega
   ·simp only[];split
    ·simp only[List.length_append,List.length_cons,List.length_nil];omega
    ·omega
  ·omega
structure FRP (fr:Fr) (bid:Nat) (yb:AV) (lid n1:Nat) (rows:List (List IV)) (lnv:AV) (t:Nat):Prop where
 g3:get fr 3=some (.ref bid 0 0 0)
 g6:get fr 6=some yb
 g7:get fr 7=some (.ref lid 0 0 0)
 g8:get fr 8=some (.ref (4*n1) 0 0 0)
 g9:get fr 9=some (.ref (4*(n1+2)) 0 0 0)
 g21:get fr 21=some (.iv (.sl 4 rows))
 g22:get fr 22=some lnv
 g23:get fr 23=some (.iv (.int .i64 t))
section
variable {p1:Nat->Option Arb.IFn} {p2:Nat->Option IFn}
def pathBlk:IC:=match F155.body with
 |.seq _ (.seq _ (.seq _ (.seq _ (.seq (.seq _ (.block _ (.loop _ (.seq _ (.seq _ (.seq (.block _ c) _)))))) _))))=>c
 |_=>.skip
set_option maxHeartbeats 8000000 in
theorem path_one (hp2:PrimsLe p2) (L:LibL p1 p2) {lo lid:Nat} {x:Hd} (hxp:x.ps.length<=100) (hxh:x.hs.length<=100) {g:Lg} {H1:Hp} {n1:Nat} {ya yp yd:AV} {ra rp:List (List AV)} (G:LG lo H1 n1 lid x g ya yp yd ra rp) (hlp:g.pubs.length<=1000) (hcl:∀p ∈ g.pubs,0<=p.c/\p.c<x.hs.length)
  (bid:Nat) (hbid:bid<4*n1) (hb:get H1 bid=some (.cells (hdC x)))
  (rows:List (List IV)) (t:Nat) (ht:t<=1000) (dv:Cr) (hin:in64 dv.p) (hrow:rows[t]?=some dv.enc) (q:(PM×PM)×List Int) (hq:KL 3 q.1.1/\KL 2 q.1.2) (hql:q.2.length<=t)
  (H2:Hp) (n2:Nat) (hE:Ext H1 n1 H2 n2) (yb:AV) (hyb:QI H2 n2 yb q.2) (hybo:∀k o m w,yb = .own k o m w->4*n1<=k) (hm:get H2 (4*n1)=some (.map (encM boolV q.1.1))) (hm':get H2 (4*(n1+2))=some (.map (encM boolV q.1.2))) (lnv:AV) :
  Wp p1 p2 pathBlk ⟨[(3,.ref bid 0 0 0),(6,yb),(7,.ref lid 0 0 0),(8,.ref (4*n1) 0 0 0),(9,.ref (4*(n1+2)) 0 0 0),(21,.iv (.sl 4 rows)),(22,lnv),(23,.nI t),(24,.bI true)],H2,n2⟩
   (fun e st=>(e = .norm\/e = .exit 1)/\∃yb',FRP st.fr bid yb' lid n1 rows lnv t/\Ext H1 n1 st.hp st.nx/\QI st.hp st.nx yb' (pathS x g t dv q).2/\(∀k o m w,yb' = .own k o m w->4*n1<=k)/\get st.hp (4*n1)=some (.map (encM boolV (pathS x g t dv q).1.1))/\get st.hp (4*(n1+2))=some (.map (encM boolV (pathS x g t dv q).1.2))):=by
 have hn12:=hE.le;have hmlt:4*n1<4*n2:=by
  rcases Nat.lt_or_ge (4*n1) (4*n2)with h | h
  ·exact h
  ·rw[hE.fresh _ h]at hm;cases hm
 have hmlt':4*(n1+2)<4*n2:=by
  rcases Nat.lt_or_ge (4*(n1+2)) (4*n2)with h | h
  ·exact h
  ·rw[hE.fresh _ h]at hm';cases hm'
 have hfr:get H2 (4*(n2+3))=none:=hE.fresh _ (by omega);have hE3:Ext H2 n2 (Arx.set (Arx.set H2 (4*(n2+3)) (.cells [.nI 0,.nI 0,.nI 0,.nI 0])) (4*(n2+3)) (.cells [.nI dv.f,.nI dv.t,.nI dv.p,.nI dv.s])) (n2+6):=
  ((Ext.refl hE.fresh (show n2<=n2+6 by omega)).set (by omega) (by omega) _).set (by omega) (by omega) _
 have hg3:get (Arx.set (Arx.set H2 (4*(n2+3)) (Ob.cells [.nI 0,.nI 0,.nI 0,.nI 0])) (4*(n2+3)) (Ob.cells [.nI dv.f,.nI dv.t,.nI dv.p,.nI dv.s])) (4*(n2+3))=some (.cells [.nI dv.f,.nI dv.t,.nI dv.p,.nI dv.s]):=get_set_same _ _ _;generalize hH3:(Arx.set (Arx.set H2 (4*(n2+3)) (Ob.cells [.nI 0,.nI 0,.nI 0,.nI 0])) (4*(n2+3)) (Ob.cells [.nI dv.f,.nI dv.t,.nI dv.p,.nI dv.s]))=H3 at hE3 hg3;have hm3:get H3 (4*n1)=some (.map (encM boolV q.1.1)):=by rw[hE3.old _ hmlt];exact hm
 have hm3':get H3 (4*(n1+2))=some (.map (encM boolV q.1.2)):=by rw[hE3.old _ hmlt'];exact hm'
 have hyb3:QI H3 (n2+6) yb q.2:=QE.mono hyb (by omega) hE3.old;have hE13:=hE.trans hE3;have hb3:get H3 bid=some (.cells (hdC x)):=by rw[hE13.old _ hbid];exact hb
 obtain⟨pv,n4,hn4,hn4',hpp,K1,hK1⟩:=ev176 (p1:=p1) hp2 L (G.ext (hE13.up (show n2+6<=n2+6+5 by omega))) hlp dv.p hin;have henc:dv.enc=[.int .i64 dv.f,.int .i64 dv.t,.int .i64 dv.p,.int .i64 dv.s]:=rfl;rw[henc]at hrow;refine Wp.seq ?_;refine Wp.rgn (K:=0) (s':=⟨[(3,.ref bid 0 0 0),(6,yb),(7,.ref lid 0 0 0),(8,.ref (4*n1) 0 0 0),(9,.ref (4*(n1+2)) 0 0 0),(10,.nI t),(11,.ref (4*(n2+3)) 0 0 0),(21,.iv (.sl 4 rows)),(22,lnv),(23,.nI t)],H3,n2+6⟩) (fun n _=>by
  rw[<-hH3];simp[hfr,hrow]) ?_
 refine Wp.seq ?_;refine Wp.rgn (K:=K1) (s':=⟨[(3,.ref bid 0 0 0),(6,yb),(7,.ref lid 0 0 0),(8,.ref (4*n1) 0 0 0),(9,.ref (4*(n1+2)) 0 0 0),(10,.nI t),(11,.ref (4*(n2+3)) 0 0 0),(12,pv),(21,.iv (.sl 4 rows)),(22,lnv),(23,.nI t)],H3,n4⟩) (fun n hn=>by
  have c:=hK1 n hn;simp[hg3,c]) ?_
 refine Wp.seq (Wp.seq ?_);have hbp:=binM_ptr hpp;refine Wp.rgn (K:=0) (s':=⟨[(3,.ref bid 0 0 0),(6,yb),(7,.ref lid 0 0 0),(8,.ref (4*n1) 0 0 0),(9,.ref (4*(n1+2)) 0 0 0),(10,.nI t),(11,.ref (4*(n2+3)) 0 0 0),(12,pv),(21,.iv (.sl 4 rows)),(22,lnv),(23,.nI t),(33,.iv (.bool (pubAt g dv.p).isNone))],H3,n4+2⟩) (fun n hn=>by
  generalize(pubAt g dv.p).isNone=b at *;simp[-binM,hbp]) ?_
 refine Wp.cond rfl ?_;unfold pathS;have hfr4:Fresh H3 (n4+2):=fun k hk=>hE3.fresh k (by omega)
 have hE14:Ext H1 n1 H3 (n4+2):=hE13.up (by omega);have hyb4:QI H3 (n4+2) yb q.2:=hyb3.mono (by omega) fun _ _=>rfl
 cases hpa:pubAt g dv.p with
 |none=>
  simp only[Option.isNone_none,if_true];have hfg:get H3 (4*(n4+2+2))=none:=hfr4 _ (by omega);obtain⟨y',H5,r1,r2,r3,r4,r5,r6⟩:=hyb4.push3 hfr4 (t:Int) (lo:=n1) (gid:=4*(n4+2+2)) (slot:=n4+2+3) (n':=n4+2+5) (by omega) (by omega) (by omega) (by omega) (by omega) hybo (by omega);refine Wp.seq ?_;refine Wp.rgn (K:=0) (s':=⟨[(3,.ref bid 0 0 0),(6,y'),(7,.ref lid 0 0 0),(8,.ref (4*n1) 0 0 0),(9,.ref (4*(n1+2)) 0 0 0),(21,.iv (.sl 4 rows)),(22,lnv),(23,.nI t)],H5,n4+2+5⟩) (fun n hn=>by
   simp only[numC,Nat.add_assoc]at r1 hfg;simp[hfg,r1,setAll,Nat.add_assoc]) ?_
  refine Wp.exit ?_;exact⟨.inr rfl,y',⟨rfl,rfl,rfl,rfl,rfl,rfl,rfl,rfl⟩,⟨by show n1<=n4+2+5;omega,r2,fun k hk=>(r5 k hk).trans (hE13.old k hk)⟩,r3,r4,(r6 _ _ hm3 fun v es h=>by cases h),(r6 _ _ hm3' fun v es h=>by cases h)⟩
 |some p=>
  simp only[Option.isNone_some,Bool.false_eq_true,if_false];refine Wp.skip ?_;simp only[Ex.then];rw[hpa]at hpp;obtain⟨idp,vp,j,prows,rfl,i1,i3,i4,i5⟩:=hpp;obtain⟨a1,a1',a14,a2⟩:=pbC_at j p;have hpm:p ∈ g.pubs:=by
   unfold pubAt at hpa;split at hpa
   ·exact List.mem_of_getElem? hpa
   ·cases hpa
  obtain⟨c1,c2⟩:=hcl p hpm;have hhome:(x.hs.map num1)[p.c.toNat]?=some [.int .i64 (homeX x p)]:=by
   unfold homeX;rw[List.getElem?_map,List.getElem?_eq_getElem (by omega)];rfl
  have hb3':=hb3;rw[hdC_eq]at hb3';refine Wp.seq (Wp.drawn rfl ?_);refine Wp.rgn (K:=0) (s':=⟨[(3,.ref bid 0 0 0),(6,yb),(7,.ref lid 0 0 0),(8,.ref (4*n1) 0 0 0),(9,.ref (4*(n1+2)) 0 0 0),(10,.nI t),(11,.ref (4*(n2+3)) 0 0 0),(12,.ref idp vp j 0),(13,.nI (homeX x p)),(21,.iv (.sl 4 rows)),(22,lnv),(23,.nI t)],H3,n4+2+10⟩) (fun n hn=>by
   generalize pbC j p=pr at *;generalize x.hs.map num1=hsr at *;generalize homeX x p=hom at *;simp[hb3',i3,i4,a1,a1',c1,hhome]) ?_
  have hfk:get H3 (4*(n4+2+10+7))=none:=hfr4 _ (by omega);have hE35:Ext H3 (n4+2) (Arx.set (Arx.set H3 (4*(n4+2+10+7)) (.cells [.nI 0,.nI 0,.nI 0])) (4*(n4+2+10+7)) (.cells [.nI dv.f,.nI dv.t,.nI dv.p])) (n4+2+10+9):=
   ((Ext.refl hfr4 (show n4+2<=n4+2+10+9 by omega)).set (by omega) (by omega) _).set (by omega) (by omega) _
  have hg5:get (Arx.set (Arx.set H3 (4*(n4+2+10+7)) (Ob.cells [.nI 0,.nI 0,.nI 0])) (4*(n4+2+10+7)) (Ob.cells [.nI dv.f,.nI dv.t,.nI dv.p])) (4*(n4+2+10+7))=some (.cells [.nI dv.f,.nI dv.t,.nI dv.p]):=get_set_same _ _ _;generalize hH5:(Arx.set (Arx.set H3 (4*(n4+2+10+7)) (Ob.cells [.nI 0,.nI 0,.nI 0])) (4*(n4+2+10+7)) (Ob.cells [.nI dv.f,.nI dv.t,.nI dv.p]))=H5 at hE35 hg5;have hE5:=hE14.trans hE35;refine Wp.seq ?_;refine Wp.rgn (K:=0) (s':=⟨[(3,.ref bid 0 0 0),(6,yb),(7,.ref lid 0 0 0),(8,.ref (4*n1) 0 0 0),(9,.ref (4*(n1+2)) 0 0 0),(10,.nI t),(11,.ref (4*(n2+3)) 0 0 0),(12,.ref idp vp j 0),(13,.nI (homeX x p)),(14,.ref (4*(n4+2+10+7)) 0 0 0),(21,.iv (.sl 4 rows)),(22,lnv),(23,.nI t)],H5,n4+2+10+9⟩) (fun n hn=>by
   rw[<-hH5];simp only[Nat.add_assoc]at hfk;simp[hg3,hfk,putAll,Nat.add_assoc]) ?_
  have hi5:get H5 idp=some (.buf vp 15 prows):=by rw[hE35.old _ (by omega)];exact i3
  have hg35:get H5 (4*(n2+3))=some (.cells [.nI dv.f,.nI dv.t,.nI dv.p,.nI dv.s]):=by rw[hE35.old _ (by omega)];exact hg3
  have hm5:get H5 (4*n1)=some (.map (encM boolV q.1.1)):=by rw[hE35.old _ (by omega)];exact hm3
  have hm5':get H5 (4*(n1+2))=some (.map (encM boolV q.1.2)):=by rw[hE35.old _ (by omega)];exact hm3'
  have hyb5:QI H5 (n4+2+10+9) yb q.2:=QE.mono hyb4 (by omega) hE35.old;obtain⟨H6,n6,hE6,K2,hK2⟩:=ev181 (p1:=p1) hp2 L.W x hxp hxh dv.f dv.t (homeX x p) lid [ya,yp,yd] H5 (n4+2+10+9+8) (fun k hk=>hE5.fresh k (by omega)) (G.ext hE5).at_;have hle6:=hE6.le;have hE56:Ext H5 (n4+2+10+9) H6 n6:=(Ext.refl hE5.fresh (by omega)).trans hE6;refine Wp.seq ?_;have hpb:pathB x q.1 dv p=(!awayX x dv.f dv.t (homeX x p)||(mgetX q.1.1 [dv.f,dv.t,dv.p] false||(decide (dv.s<p.s)||(dv.f != homeX x p&&!mgetX q.1.2 [dv.f,dv.p] false)))):=rfl;generalize homeX x p=hom at *;generalize awayX x dv.f dv.t hom=aw at *;refine Wp.rgn (K:=K2) (s':=⟨[(3,.ref bid 0 0 0),(6,yb),(7,.ref lid 0 0 0),(8,.ref (4*n1) 0 0 0),(9,.ref (4*(n1+2)) 0 0 0),(10,.nI t),(11,.ref (4*(n2+3)) 0 0 0),(12,.ref idp vp j 0),(13,.nI hom),(14,.ref (4*(n4+2+10+7)) 0 0 0),(15,.bI aw),(21,.iv (.sl 4 rows)),(22,lnv),(23,.nI t)],H6,n6⟩) (fun n hn=>by
   have c:=hK2 n hn;simp only[Nat.add_assoc]at c;simp[hg35,c,Nat.add_assoc]) ?_
  have hE16:=hE5.trans hE56;have hi6:get H6 idp=some (.buf vp 15 prows):=by rw[hE56.old _ (by omega)];exact hi5
  have hg36:get H6 (4*(n2+3))=some (.cells [.nI dv.f,.nI dv.t,.nI dv.p,.nI dv.s]):=by rw[hE56.old _ (by omega)];exact hg35
  have hg56:get H6 (4*(n4+2+10+7))=some (.cells [.nI dv.f,.nI dv.t,.nI dv.p]):=by rw[hE56.old _ (by omega)];exact hg5
  have hm6:get H6 (4*n1)=some (.map (encM boolV q.1.1)):=by rw[hE56.old _ (by omega)];exact hm5
  have hm6':get H6 (4*(n1+2))=some (.map (encM boolV q.1.2)):=by rw[hE56.old _ (by omega)];exact hm5'
  have hyb6:QI H6 n6 yb q.2:=QE.mono hyb5 hE56.le hE56.old;have hget:=mget_run boolV (n:=3) (by decide) (k:=[dv.f,dv.t,dv.p]) rfl hq.1 hm6 false;have hget':=mget_run boolV (n:=2) (by decide) (k:=[dv.f,dv.p]) rfl hq.2 hm6' false;simp only[List.map_cons,List.map_nil,numV,boolV]at hget hget';change(mget false false [0,0,0] _ _ _).run _=_ at hget;change(mget false false [0,0] _ _ _).run _=_ at hget';refine Wp.seq (Wp.seq (Wp.drawn rfl ?_));refine Wp.rgn (K:=0) (s':=⟨[(3,.ref bid 0 0 0),(6,yb),(7,.ref lid 0 0 0),(8,.ref (4*n1) 0 0 0),(9,.ref (4*(n1+2)) 0 0 0),(10,.nI t),(11,.ref (4*(n2+3)) 0 0 0),(14,.ref (4*(n4+2+10+7)) 0 0 0),(15,.bI aw),(21,.iv (.sl 4 rows)),(22,lnv),(23,.nI t),(92,.bI (pathB x q.1 dv p))],H6,n6+32⟩) (fun n hn=>by
   rw[hpb];generalize mgetX q.1.1 [dv.f,dv.t,dv.p] false=w at *;generalize mgetX q.1.2 [dv.f,dv.p] false=k at *;generalize pbC j p=pr at *;have hne:(dv.f != hom)=!(dv.f==hom):=rfl;cases aw
   ·simp[hg36,hg56,hi6,i4,a14,hget,hget']
   ·cases w
    ·by_cases h1:dv.s<p.s
     ·simp[hg36,hg56,hi6,i4,a14,hget,hget',h1]
     ·cases h2:dv.f==hom
      ·simp[hg36,hg56,hi6,i4,a14,hget,hget',h1,hne,h2,putAll]
      ·simp[hg36,hg56,hi6,i4,a14,hget,hget',h1,hne,h2]
    ·simp[hg36,hg56,hi6,i4,a14,hget,hget']) ?_
  refine Wp.cond rfl ?_;have hlast:∀(H8:Hp) (n8:Nat) (y8:AV) (l8:List Int),Ext H1 n1 H8 n8->QI H8 n8 y8 l8->(∀k o m w,y8 = .own k o m w->4*n1<=k)->get H8 (4*(n4+2+10+7))=some (.cells [.nI dv.f,.nI dv.t,.nI dv.p])->get H8 (4*(n2+3))=some (.cells [.nI dv.f,.nI dv.t,.nI dv.p,.nI dv.s])->
    get H8 (4*n1)=some (.map (encM boolV q.1.1))->get H8 (4*(n1+2))=some (.map (encM boolV q.1.2))->n2<=n8->∀fr:Fr,get fr 3=some (.ref bid 0 0 0)->get fr 6=some y8->get fr 7=some (.ref lid 0 0 0)->get fr 8=some (.ref (4*n1) 0 0 0)->get fr 9=some (.ref (4*(n1+2)) 0 0 0)->get fr 11=some (.ref (4*(n2+3)) 0 0 0)->get fr 14=some (.ref (4*(n4+2+10+7)) 0 0 0)->get fr 15=some (.bI aw)->get fr 21=some (.iv (.sl 4 rows))->get fr 22=some lnv->get fr 23=some (.nI t)->
    Wp p1 p2 (match pathBlk with | .seq _ (.seq _ (.seq _ (.seq _ (.seq _ (.seq _ (.seq _ c))))))=>c | _=>.skip) ⟨fr,H8,n8⟩ (fun e st=>(e = .norm\/e = .exit 1)/\∃yb',FRP st.fr bid yb' lid n1 rows lnv t/\Ext H1 n1 st.hp st.nx/\QI st.hp st.nx yb' l8/\(∀k o m w,yb' = .own k o m w->4*n1<=k)/\get st.hp (4*n1)=some (.map (encM boolV (mputX q.1.1 [dv.f,dv.t,dv.p] true)))/\get st.hp (4*(n1+2))=some (.map (encM boolV (if aw=true then mputX q.1.2 [dv.t,dv.p] true else q.1.2)))):=by
   intro H8 n8 y8 l8 hE8 hy8 hy8o hk8 hd8 hm8 hm8' hlt8 fr f3 f6 f7 f8 f9 f11 f14 f15 f21 f22 f23;have hput8:=mput_run boolV (n:=3) (by decide) (k:=[dv.f,dv.t,dv.p]) rfl hq.1 (by omega) hm8 true;simp only[List.map_cons,List.map_nil,numV]at hput8;change(mput [0,0,0] _ _ (.bI true)).run _=_ at hput8;refine Wp.seq ?_;refine Wp.rgn (K:=0) (s':=⟨[(3,.ref bid 0 0 0),(6,y8),(7,.ref lid 0 0 0),(8,.ref (4*n1) 0 0 0),(9,.ref (4*(n1+2)) 0 0 0),(11,.ref (4*(n2+3)) 0 0 0),(15,.bI aw),(21,.iv (.sl 4 rows)),(22,lnv),(23,.nI t)],Arx.set H8 (4*n1) (.map (encM boolV (mputX q.1.1 [dv.f,dv.t,dv.p] true))),n8+3⟩) (fun n _=>by
    simp[get_set,f3,f6,f7,f8,f9,f11,f14,f15,f21,f22,f23,hk8,hput8]) ?_
   have hE9:Ext H1 n1 (Arx.set H8 (4*n1) (.map (encM boolV (mputX q.1.1 [dv.f,dv.t,dv.p] true)))) (n8+4):=(hE8.up (show n8<=n8+4 by omega)).set (by omega) (by omega) _;have hy9:QI (Arx.set H8 (4*n1) (.map (encM boolV (mputX q.1.1 [dv.f,dv.t,dv.p] true)))) (n8+4) y8 l8:=QE.setO (hy8.mono (show n8<=n8+4 by omega) fun _ _=>rfl) hm8 (fun v es h=>by cases h) _;have hm9:get (Arx.set H8 (4*n1) (Ob.map (encM boolV (mputX q.1.1 [dv.f,dv.t,dv.p] true)))) (4*n1)=some (.map (encM boolV (mputX q.1.1 [dv.f,dv.t,dv.p] true))):=get_set_same _ _ _;have hm9':get (Arx.set H8 (4*n1) (Ob.map (encM boolV (mputX q.1.1 [dv.f,dv.t,dv.p] true)))) (4*(n1+2))=some (.map (encM boolV q.1.2)):=by rw[get_set_ne _ _ (by omega)];exact hm8'
   have hd9:get (Arx.set H8 (4*n1) (Ob.map (encM boolV (mputX q.1.1 [dv.f,dv.t,dv.p] true)))) (4*(n2+3))=some (.cells [.nI dv.f,.nI dv.t,.nI dv.p,.nI dv.s]):=by rw[get_set_ne _ _ (by omega)];exact hd8
   generalize Arx.set H8 (4*n1) (Ob.map (encM boolV (mputX q.1.1 [dv.f,dv.t,dv.p] true)))=H9 at *;refine Wp.seq ?_;refine Wp.rg ?_;refine Wp.cond rfl ?_;cases aw with
   |false=>
    simp only[Bool.false_eq_true,if_false];refine Wp.skip ?_;exact⟨.inl rfl,y8,⟨rfl,rfl,rfl,rfl,rfl,rfl,rfl,rfl⟩,hE9,hy9,hy8o,hm9,hm9'⟩
   |true=>
    simp only[if_true];have hput9:=mput_run boolV (n:=2) (by decide) (k:=[dv.t,dv.p]) rfl hq.2 (by omega) hm9' true;simp only[List.map_cons,List.map_nil,numV]at hput9;change(mput [0,0] _ _ (.bI true)).run _=_ at hput9;refine Wp.rgn (K:=0) (s':=⟨[(3,.ref bid 0 0 0),(6,y8),(7,.ref lid 0 0 0),(8,.ref (4*n1) 0 0 0),(9,.ref (4*(n1+2)) 0 0 0),(21,.iv (.sl 4 rows)),(22,lnv),(23,.nI t)],Arx.set H9 (4*(n1+2)) (.map (encM boolV (mputX q.1.2 [dv.t,dv.p] true))),n8+4+7⟩) (fun n _=>by
     simp[hd9,putAll,hput9]) ?_
    refine⟨.inl rfl,y8,⟨rfl,rfl,rfl,rfl,rfl,rfl,rfl,rfl⟩,(hE9.up (show n8+4<=n8+4+7 by omega)).set (by omega) (by omega) _,QE.setO (QE.mono hy9 (show n8+4<=n8+4+7 by omega) fun _ _=>rfl) hm9' (fun v es h=>by cases h) _,hy8o,?_,get_set_same _ _ _⟩
    show get (Arx.set H9 (4*(n1+2)) _) _=_
    rw[get_set_ne _ _ (by omega)];exact hm9
  cases hsb:pathB x q.1 dv p with
  |false=>
   simp only[Bool.false_eq_true,if_false];refine Wp.skip ?_;simp only[Ex.then];exact hlast H6 (n6+32) yb q.2 (hE16.up (by omega)) (QE.mono hyb6 (by omega) fun _ _=>rfl) hybo hg56 hg36 hm6 hm6' (by omega) _ rfl rfl rfl rfl rfl rfl rfl rfl rfl rfl rfl
  |true=>
   simp only[if_true];have hfr7:Fresh H6 (n6+32):=fun k hk=>hE6.fresh k (by omega)
   have hfg:get H6 (4*(n6+32+2))=none:=hfr7 _ (by omega);obtain⟨y',H8,r1,r2,r3,r4,r5,r6⟩:=QI.push3 (QE.mono hyb6 (show n6<=n6+32 by omega) fun _ _=>rfl) hfr7 (t:Int) (lo:=n1) (gid:=4*(n6+32+2)) (slot:=n6+32+3) (n':=n6+32+5) (by omega) (by omega) (by omega) (by omega) (by omega) hybo (by omega);refine Wp.rgn (K:=0) (s':=⟨[(3,.ref bid 0 0 0),(6,y'),(7,.ref lid 0 0 0),(8,.ref (4*n1) 0 0 0),(9,.ref (4*(n1+2)) 0 0 0),(11,.ref (4*(n2+3)) 0 0 0),(14,.ref (4*(n4+2+10+7)) 0 0 0),(15,.bI aw),(21,.iv (.sl 4 rows)),(22,lnv),(23,.nI t)],H8,n6+32+5⟩) (fun n hn=>by
    simp only[numC,Nat.add_assoc]at r1 hfg;simp[hfg,r1,setAll,Nat.add_assoc]) ?_
   simp only[Ex.then];exact hlast H8 (n6+32+5) y' _ ⟨by omega,r2,fun k hk=>(r5 k hk).trans (hE16.old k hk)⟩ r3 r4 (r6 _ _ hg56 fun v es h=>by cases h) (r6 _ _ hg36 fun v es h=>by cases h) (r6 _ _ hm6 fun v es h=>by cases h) (r6 _ _ hm6' fun v es h=>by cases h) (by omega) _ rfl rfl rfl rfl rfl rfl rfl rfl rfl rfl rfl
end
theorem stepX_pubs {h:Hd} {g:Lg} {i:Nat} {o:Arb.Op} (hg:∀p ∈ g.pubs,0<=p.c/\p.c<h.hs.length):∀p ∈ (stepX h g i o).pubs,0<=p.c/\p.c<h.hs.length:=by
 unfold stepX;simp only[];have h1:(if o.k=5 then { g with drains:=g.drains++[(i:Int)+1] } else g).pubs=g.pubs:=by split<;>rfl
 generalize(if o.k=5 then { g with drains:=g.drains++[(i:Int)+1] } else g)=g1 at *;rw[<-h1]at hg;split
 ·exact hg
 ·rename_i hout;split
  ·rw[(subX_len _ _ _).2.1];exact hg
  ·split
   ·exact hg
   ·split
    ·split
     ·intro p hp;rcases List.mem_append.1 hp with q | q
      ·exact hg p q
      ·rw[List.mem_singleton.1 q];unfold outC at hout;simp only[Bool.or_eq_true,decide_eq_true_eq]at hout
       show 0<=o.c/\o.c<h.hs.length
       omega
     ·exact hg
    ·exact hg
theorem readTo_pubs (h:Hd) (l:List Arb.Op):∀t,∀p ∈ (readTo h l t).pubs,0<=p.c/\p.c<h.hs.length
 |0=>fun p hp=>by cases hp
 |t+1=>by
  unfold readTo;split
  ·exact stepX_pubs (readTo_pubs h l t)
  ·exact readTo_pubs h l t
theorem readX_pubs (h:Hd) (l:List Arb.Op):∀p ∈ (readX h l).pubs,0<=p.c/\p.c<h.hs.length:=by
 unfold readX;split
 ·exact readTo_pubs h l _
 ·intro p hp;cases hp
theorem readX_len (h:Hd) (l:List Arb.Op):(readX h l).acts.length<=l.length/\(readX h l).pubs.length<=l.length/\(readX h l).drains.length<=l.length:=by
 unfold readX;split
 ·exact readTo_len h l _
 ·simp
section
variable {p1:Nat->Option Arb.IFn} {p2:Nat->Option IFn}
set_option maxHeartbeats 4000000 in
theorem ev155 (hp2:PrimsLe p2) (L:LibL p1 p2) (x:Hd) (hp:x.ps.length<=100) (hh:x.hs.length<=100) (l:List Arb.Op) (hl:l.length<=1000) (hok:∀o ∈ l,o.ok) (d:List Cr) (hd:d.length<=1000) (hdi:∀v ∈ d,in64 v.p) (H:Hp) (nx:Nat) (hf:Fresh H nx) :
  ∃H' nx' y,Ext H nx H' nx'/\QI H' nx' y (pathX x (readX x l) d)/\Ev p1 p2 155 [.agg (hdC x),.iv (.sl 24 (l.map Arb.Op.enc)),.iv (.sl 4 (d.map Cr.enc))] H nx (y,H',nx'):=by
 have hfr:get H (4*nx)=none:=hf _ (by omega);have hE1:Ext H nx (Arx.set H (4*nx) (.cells (hdC x))) (nx+2):=(Ext.refl hf (by omega)).set (by omega) (by omega) _;have hb:get (Arx.set H (4*nx) (Ob.cells (hdC x))) (4*nx)=some (.cells (hdC x)):=get_set_same _ _ _;generalize hH0:Arx.set H (4*nx) (Ob.cells (hdC x))=H0 at hE1 hb;obtain⟨H1,n1,lid,ya,yp,yd,ra,rp,hE2,G,K1,hK1⟩:=ev177 (p1:=p1) hp2 L x hp hh l hl hok H0 (nx+2+4) (fun k hk=>hE1.fresh k (by omega));have hE01:Ext H nx H1 n1:=(hE1.up (show nx+2<=nx+2+4 by omega)).trans hE2;have hgl:=readX_len x l;have hcl:=readX_pubs x l;generalize readX x l=g at *
 have hle2:=hE2.le;have hb1:get H1 (4*nx)=some (.cells (hdC x)):=by rw[hE2.old _ (by omega)];exact hb
 have hfm:get H1 (4*n1)=none:=hE2.fresh _ (by omega);have hfm2:get (Arx.set H1 (4*n1) (.map [])) (4*(n1+2))=none:=by rw[get_set_ne _ _ (by omega)];exact hE2.fresh _ (by omega)
 have key:Wp p1 p2 F155.body ⟨params [.agg (hdC x),.iv (.sl 24 (l.map Arb.Op.enc)),.iv (.sl 4 (d.map Cr.enc))] 0,H,nx⟩ (fun e st=>∃r:AV×Hp×Nat,(Ext H nx r.2.1 r.2.2/\QI r.2.1 r.2.2 r.1 (pathX x g d))/\Fin F155.res r e st):=by
  have hdl:(d.map Cr.enc).length=d.length:=by simp
  have hrows:∀{t:Nat} {v:Cr},d[t]?=some v->(d.map Cr.enc)[t]?=some v.enc:=fun h=>by rw[List.getElem?_map,h];rfl
  generalize l.map Arb.Op.enc=scr at *;generalize d.map Cr.enc=rows at *;refine Wp.seq ?_;refine Wp.rgn (K:=0) (s':=⟨[(1,.iv (.sl 24 scr)),(2,.iv (.sl 4 rows)),(3,.ref (4*nx) 0 0 0),(6,.iv (.nsl 1))],H0,nx+2⟩) (fun n _=>by
   rw[<-hH0];simp[hfr]) ?_
  refine Wp.seq ?_;refine Wp.rgn (K:=K1) (s':=⟨[(2,.iv (.sl 4 rows)),(3,.ref (4*nx) 0 0 0),(6,.iv (.nsl 1)),(7,.ref lid 0 0 0)],H1,n1⟩) (fun n hn=>by
   have c:=hK1 n hn;simp[hb,hd_take,hd_len,c]) ?_
  refine Wp.seq ?_;refine Wp.rgn (K:=0) (s':=⟨[(2,.iv (.sl 4 rows)),(3,.ref (4*nx) 0 0 0),(6,.iv (.nsl 1)),(7,.ref lid 0 0 0),(8,.ref (4*n1) 0 0 0)],Arx.set H1 (4*n1) (.map []),n1+2⟩) (fun n _=>by
   simp[hfm]) ?_
  refine Wp.seq ?_;refine Wp.rgn (K:=0) (s':=⟨[(2,.iv (.sl 4 rows)),(3,.ref (4*nx) 0 0 0),(6,.iv (.nsl 1)),(7,.ref lid 0 0 0),(8,.ref (4*n1) 0 0 0),(9,.ref (4*(n1+2)) 0 0 0)],Arx.set (Arx.set H1 (4*n1) (.map [])) (4*(n1+2)) (.map []),n1+4⟩) (fun n _=>by
   simp[hfm2]) ?_
  refine Wp.seq (Wp.seq ?_);refine Wp.rgn (K:=0) (s':=⟨[(3,.ref (4*nx) 0 0 0),(6,.iv (.nsl 1)),(7,.ref lid 0 0 0),(8,.ref (4*n1) 0 0 0),(9,.ref (4*(n1+2)) 0 0 0),(21,.iv (.sl 4 rows)),(22,.nI d.length),(23,.nI 0)],Arx.set (Arx.set H1 (4*n1) (.map [])) (4*(n1+2)) (.map []),n1+7⟩) (fun n _=>by
   simp[hdl]) ?_
  refine Wp.block ?_;refine Wp.loop (fun m s1=>∃(t n2:Nat) (H2:Hp) (yb:AV),t+m=d.length/\Ext H1 n1 H2 n2/\QI H2 n2 yb (pathTo x g d t).2/\(∀k o m w,yb = .own k o m w->4*n1<=k)/\get H2 (4*n1)=some (.map (encM boolV (pathTo x g d t).1.1))/\get H2 (4*(n1+2))=some (.map (encM boolV (pathTo x g d t).1.2))/\
   s1=⟨[(3,.ref (4*nx) 0 0 0),(6,yb),(7,.ref lid 0 0 0),(8,.ref (4*n1) 0 0 0),(9,.ref (4*(n1+2)) 0 0 0),(21,.iv (.sl 4 rows)),(22,.nI d.length),(23,.nI t)],H2,n2⟩) (m:=d.length)
   ⟨0,n1+7,Arx.set (Arx.set H1 (4*n1) (.map [])) (4*(n1+2)) (.map []),.iv (.nsl 1),by omega,((Ext.refl hE2.fresh (show n1<=n1+7 by omega)).set (by omega) (by omega) _).set (by omega) (by omega) _,QI.nil _ _,(fun k o m w h=>by cases h),(by rw[get_set_ne _ _ (by omega)];exact get_set_same _ _ _),get_set_same _ _ _,by simp[fr_cons,keepFr,pathTo,encM]⟩ ?_
  rintro m s1 ⟨t,n2,H2,yb,htm,hE3,hyb,hybo,hm,hm',rfl⟩;refine Wp.seq ?_;by_cases ht:t<d.length
  ·obtain⟨v,hv⟩:∃v,d[t]?=some v:=⟨_,List.getElem?_eq_getElem ht⟩;have hw1:IntKind.i64.wrap ((t:Int)+1)=(t:Int)+1:=IntWalk.i64_in _ (by omega);have hsuc:=pathTo_succ (h:=x) (g:=g) hv;have hone:=path_one (p1:=p1) hp2 L hp hh G (by omega) hcl (4*nx) (by omega) hb1 rows t (by omega) v (hdi v (List.mem_of_getElem? hv)) (hrows hv) (pathTo x g d t) (pathTo_KL x g d t) (pathTo_len x g d t) H2 (n2+1) (hE3.up (by omega)) yb (QE.mono hyb (by omega) fun _ _=>rfl) hybo hm hm' (.nI d.length);rw[<-hsuc]at hone;refine Wp.rgn (K:=0) (fun n _=>by simp[ht];rfl) ?_;refine Wp.seq (Wp.cond (t:=true) rfl (Wp.skip (Wp.seq (Wp.block ?_))))
   refine Wp.mono hone ?_;rintro e ⟨fr,H4,n4⟩ ⟨he,yb',⟨f3,f6,f7,f8,f9,f21,f22,f23⟩,b1,b2,b3,b4,b5⟩;simp only[]at b1 b2 b3 b4 b5 f3 f6 f7 f8 f9 f21 f22 f23;have hcont:∀Q:Ex->St->Prop,Q .norm ⟨[(3,.ref (4*nx) 0 0 0),(6,yb'),(7,.ref lid 0 0 0),(8,.ref (4*n1) 0 0 0),(9,.ref (4*(n1+2)) 0 0 0),(21,.iv (.sl 4 rows)),(22,.nI d.length),(23,.nI (t+1:Nat))],H4,n4+2⟩->
     Wp p1 p2 (.rgn false [⟨some 106,.bin .add 0 (.t 23) (.c (.nI (1))),none,[]⟩,⟨some 23,.mov (.t 106),none,[]⟩] [3,6,7,8,9,21,22,23]) ⟨fr,H4,n4⟩ Q:=fun Q hQ=>by
    refine Wp.rgn (K:=0) (s':=⟨[(3,.ref (4*nx) 0 0 0),(6,yb'),(7,.ref lid 0 0 0),(8,.ref (4*n1) 0 0 0),(9,.ref (4*(n1+2)) 0 0 0),(21,.iv (.sl 4 rows)),(22,.nI d.length),(23,.nI (t+1:Nat))],H4,n4+2⟩) (fun n _=>by
     simp[get_set,f3,f6,f7,f8,f9,f21,f22,f23,hw1]) ?_
    exact hQ
   rcases he with rfl | rfl
   ·simp only[Ex.then,Ex.inBlock];refine hcont _ ?_;exact⟨m - 1,by omega,t+1,n4+2,H4,yb',by omega,b1.up (by omega),QE.mono b2 (by omega) fun _ _=>rfl,b3,b4,b5,by simp[fr_cons,keepFr]⟩
   ·simp only[Ex.then,Ex.inBlock,if_true];refine hcont _ ?_;exact⟨m - 1,by omega,t+1,n4+2,H4,yb',by omega,b1.up (by omega),QE.mono b2 (by omega) fun _ _=>rfl,b3,b4,b5,by simp[fr_cons,keepFr]⟩
  ·obtain rfl:t=d.length:=by omega
   refine Wp.rg ?_;refine Wp.seq (Wp.cond (t:=false) rfl (Wp.exit ?_));simp only[Ex.then,Ex.inBlock,if_true];refine Wp.seq ?_;refine Wp.rg ?_;exact Wp.ret ⟨(yb,H2,n2+1+2),⟨hE01.trans (hE3.up (show n2<=n2+1+2 by omega)),QE.mono hyb (show n2<=n2+1+2 by omega) fun _ _=>rfl⟩,rfl,rfl⟩
 obtain⟨⟨y,H',nx'⟩,⟨h1,h2⟩,h4⟩:=Ev.ofx hp2 L.h155 rfl rfl _ key;exact⟨H',nx',y,h1,h2,h4⟩
end
def keptX (c bt:Int) (e:E) (a:Act):Bool:=(a.c==c&&(a.t==0||decide (bt<=a.t)))&&hasF a.b e
def mustA (g:Lg) (c bt:Int) (i:Nat) (e:E) (a:Act):Bool:=keptX c bt e a&&(g.drains.take i).any fun t=>decide (a.f<t)
def mustX (g:Lg) (c:Int) (p:Pb):Int:=if 0<=idxF (fun t=>decide (p.s<t)) g.drains 0 then
  (if(g.acts.any (mustA g c ((g.drains[(idxF (fun t=>decide (p.s<t)) g.drains 0).toNat]?).getD 0) (idxF (fun t=>decide (p.s<t)) g.drains 0).toNat p.e))=true then(g.drains[(idxF (fun t=>decide (p.s<t)) g.drains 0).toNat]?).getD 0 else 0) else 0
theorem idxF_lt {α:Type} (f:α->Bool):∀(l:List α) (k:Nat),idxF f l k = -1\/∃i:Nat,idxF f l k=((k+i:Nat):Int)/\i<l.length
 |[],k=>.inl rfl
 |a::l,k=>by
  unfold idxF;split
  ·exact .inr ⟨0,by simp,by simp⟩
  ·rcases idxF_lt f l (k+1)with h | ⟨i,h1,h2⟩
   ·exact .inl h
   ·exact .inr ⟨i+1,by rw[h1];congr 1;omega,by simp;omega⟩
section
variable {p1:Nat->Option Arb.IFn} {p2:Nat->Option IFn}
theorem ev200 (hp2:PrimsLe p2) (L:LibL p1 p2) (t:Int) (p:Pb) (bx idp vp j:Nat) (rows:List (List AV)) (H:Hp) (nx:Nat) (hb:get H bx=some (.cells [.ref idp vp j 0])) (hi:get H idp=some (.buf vp 15 rows)) (hr:rows[j]?=some (pbC j p)) :
  Ev p1 p2 200 [.nI t,.ref bx 0 0 0] H nx (.bI (decide (p.s<t)),H,nx+8):=by
 obtain⟨a1,a1',a14,a2⟩:=pbC_at j p;generalize pbC j p=pr at *;refine Ev.of hp2 L.h200 rfl rfl ?_;refine Wp.seq ?_;refine Wp.rg ?_;refine Wp.seq ?_;refine Wp.rgn (K:=0) (s':=⟨[(3,.bI (decide (p.s<t)))],H,nx+8⟩) (fun n _=>by simp[hb,hi,hr,a14]) ?_;exact Wp.ret ⟨rfl,rfl⟩
theorem ev199 (hp2:PrimsLe p2) (L:LibL p1 p2) (t:Int) (a:Act) (y:AV) (bx ida va j:Nat) (rows:List (List AV)) (H:Hp) (nx:Nat) (hb:get H bx=some (.cells [.ref ida va j 0])) (hi:get H ida=some (.buf va 5 rows)) (hr:rows[j]?=some (actC a y)) :
  Ev p1 p2 199 [.nI t,.ref bx 0 0 0] H nx (.bI (decide (a.f<t)),H,nx+8):=by
 unfold actC at hr;refine Ev.of hp2 L.h199 rfl rfl ?_;refine Wp.seq ?_;refine Wp.rg ?_;refine Wp.seq ?_;refine Wp.rgn (K:=0) (s':=⟨[(3,.bI (decide (a.f<t)))],H,nx+8⟩) (fun n _=>by simp[hb,hi,hr]) ?_;exact Wp.ret ⟨rfl,rfl⟩
theorem says_num {l:List Int} {H:Hp} {nx id v k:Nat} (hg:get H id=some (.buf v 1 (l.map numC))) (hid:id<4*nx) (hk:k<=l.length) {fid:Nat} {caps:List AV} {f:Int->Bool}
  (hf:∀(t:Int) H2 n2,Ext H nx H2 n2->∃H3 n3,Ext H2 n2 H3 n3/\Ev p1 p2 fid (.nI t::caps) H2 n2 (.bI (f t),H3,n3)) :
  Says p1 p2 1 false (.own id 0 k v) (.clo fid [] caps) (l.take k) f H nx:=by
 have hlt:(l.take k).length=k:=by rw[List.length_take];omega
 refine⟨fun H2 n2 hE=>?_,fid,caps,rfl,fun j a ha H2 n2 hE=>?_⟩
 ·have:=(hE.old _ hid).trans hg;rw[hlt];simp[Arx.len,M.run,M.look,M.run_bind,this,M.ok,M.bind]
 ·have hgi:=(hE.old _ hid).trans hg;have hjl:j<k:=by have:=(List.getElem?_eq_some_iff.1 ha).1;omega
  rw[List.getElem?_take,if_pos hjl]at ha;have hrow:(l.map numC)[j]?=some (numC a):=by rw[List.getElem?_map,ha];rfl
  simp only[numC]at hrow hgi;obtain⟨H3,n3,h1,h2⟩:=hf a H2 n2 hE;refine⟨.ref id v j 0,.nI a,?_,?_,H3,n3,h1,h2⟩
  ·simp[Arx.isl,idx,M.run_bind,M.ok,M.bind,M.look,M.run,hgi,hjl]
  ·generalize List.map (fun n=>[AV.iv (IV.int IntKind.i64 n)]) l=es at *;simp[Arx.load,M.run_bind,M.look,M.run,M.lift,hgi,obRead,hrow,M.ok,Arx.mk,M.bind]
set_option maxHeartbeats 8000000 in
theorem ev198 (hp2:PrimsLe p2) (L:LibL p1 p2) {lo lid:Nat} {x:Hd} {g:Lg} {H:Hp} {nx:Nat} {ya yp yd:AV} {ra rp:List (List AV)} (G:LG lo H nx lid x g ya yp yd ra rp) (hla:g.acts.length<=1000) (hld:g.drains.length<=1000) (hf:Fresh H nx) (c:Int)
  (p:Pb) (idp vp j:Nat) (rows:List (List AV)) (hidp:idp<4*nx) (hi:get H idp=some (.buf vp 15 rows)) (hr:rows[j]?=some (pbC j p)) :
  ∃H' nx',Ext H nx H' nx'/\Ev p1 p2 198 [.ref lid 0 0 0,.nI c,.ref idp vp j 0] H nx (.nI (mustX g c p),H',nx'):=by
 have f0:get H (4*nx)=none:=hf _ (by omega);have hE1:Ext H nx (Arx.set H (4*nx) (.cells [.ref idp vp j 0])) (nx+2):=(Ext.refl hf (by omega)).set (by omega) (by omega) _;have g0:get (Arx.set H (4*nx) (Ob.cells [.ref idp vp j 0])) (4*nx)=some (.cells [.ref idp vp j 0]):=get_set_same _ _ _;generalize hH1:Arx.set H (4*nx) (Ob.cells [.ref idp vp j 0])=H1 at hE1 g0;have G1:=G.ext hE1;have hi1:get H1 idp=some (.buf vp 15 rows):=by rw[hE1.old _ hidp];exact hi
 have hdl:(g.drains.map numC).length=g.drains.length:=by simp
 obtain⟨H2,n2,hE2,K1,hK1⟩:∃H' nx',Ext H1 (nx+2+7) H' nx'/\Ev p1 p2 150 [yd,.clo 200 [] [.ref (4*nx) 0 0 0]] H1 (nx+2+7) (.nI (idxF (fun t=>decide (p.s<t)) g.drains 0),H',nx'):=by
  have hf1:Fresh H1 (nx+2+7):=fun k hk=>hE1.fresh k (by omega)
  refine evIdx (p1:=p1) hp2 L.h150 rfl (by omega) hf1 ?_;rcases G1.d with⟨hy,hn⟩|⟨id,v,q1,q2,hy,q4⟩
  ·have:g.drains=[]:=List.map_eq_nil_iff.1 hn;rw[this,hy];exact⟨fun _ _ _=>rfl,200,_,rfl,fun j a h=>by simp at h⟩
  ·rw[hy,hdl];have:=says_num (p1:=p1) (p2:=p2) (l:=g.drains) (H:=H1) (nx:=nx+2+7) (k:=g.drains.length) q4 (by omega) (Nat.le_refl _) (fid:=200) (caps:=[.ref (4*nx) 0 0 0]) (f:=fun t=>decide (p.s<t)) (fun t H3 n3 hE3=>⟨H3,_,Ext.refl hE3.fresh (show n3<=n3+8 by omega),ev200 hp2 L t p (4*nx) idp vp j rows H3 n3 (by rw[hE3.old _ (by omega)];exact g0) (by rw[hE3.old _ (by omega)];exact hi1) hr⟩);rw[List.take_length]at this;exact this
 have hE02:Ext H nx H2 n2:=(hE1.up (show nx+2<=nx+2+7 by omega)).trans hE2;have G2:=G.ext hE02;have hle2:=hE2.le;have g02:get H2 (4*nx)=some (.cells [.ref idp vp j 0]):=by rw[hE2.old _ (by omega)];exact g0
 have hi2:get H2 idp=some (.buf vp 15 rows):=by rw[hE2.old _ (by omega)];exact hi1
 obtain⟨a1,a1',a14,a2⟩:=pbC_at j p;have hel:(p.e.enc.map AV.iv).length=12:=rfl;have key:Wp p1 p2 F198.body ⟨params [.ref lid 0 0 0,.nI c,.ref idp vp j 0] 0,H,nx⟩ (fun e st=>∃r:AV×Hp×Nat,(r.1 = .nI (mustX g c p)/\Ext H nx r.2.1 r.2.2)/\Fin F198.res r e st):=by
  refine Wp.seq ?_;refine Wp.rgn (K:=0) (s':=⟨[(0,.ref lid 0 0 0),(1,.nI c),(5,.ref (4*nx) 0 0 0)],H1,nx+2⟩) (fun n _=>by
   rw[<-hH1];simp[f0]) ?_
  refine Wp.seq ?_;have hat1:=G1.at_;have hat2:=G2.at_;rw[hdC_eq]at hat1 hat2;unfold mustX;have hix:=idxF_lt (fun t=>decide (p.s<t)) g.drains 0;generalize hidx:idxF (fun t=>decide (p.s<t)) g.drains 0=ix at *;refine Wp.rgn (K:=K1) (s':=⟨[(0,.ref lid 0 0 0),(1,.nI c),(5,.ref (4*nx) 0 0 0),(7,.nI ix)],H2,n2⟩) (fun n hn=>by
   have c:=hK1 n hn;simp[hat1,c]) ?_
  refine Wp.seq (Wp.seq ?_);refine Wp.rgn (K:=0) (s':=⟨[(0,.ref lid 0 0 0),(1,.nI c),(5,.ref (4*nx) 0 0 0),(7,.nI ix),(19,.bI (decide (ix<0)))],H2,n2+2⟩) (fun n hn=>by simp) ?_;refine Wp.cond rfl ?_;rcases hix with hix | ⟨i,hix,hil⟩
  ·have h1:decide (ix<0)=true:=decide_eq_true (by omega);rw[h1,if_neg (show ¬(0:Int)<=ix by omega)];simp only[if_true];refine Wp.seq ?_;refine Wp.rg ?_;exact Wp.ret ⟨(_,_,_),⟨rfl,hE02.up (show n2<=n2+2+1 by omega)⟩,rfl,rfl⟩
  ·rw[Nat.zero_add]at hix;subst hix;have h1:decide ((i:Int)<0)=false:=decide_eq_false (by omega);rw[h1,if_pos (show(0:Int)<=(i:Int) by omega)];simp only[Bool.false_eq_true,if_false,Int.toNat_natCast];refine Wp.skip ?_;simp only[Ex.then];obtain⟨bt,hbt⟩:∃bt,g.drains[i]?=some bt:=⟨_,List.getElem?_eq_getElem hil⟩;have hbc:(g.drains.map numC)[i]?=some [.nI bt]:=by rw[List.getElem?_map,hbt];rfl
   rw[hbt];simp only[Option.getD_some];obtain⟨idd,vd,q1, -,hyd,q4⟩:=G2.d.at_ hbc;rw[hdl]at hyd;have hyd':=hyd;subst hyd';have hlod:4*lo<=idd:=G2.ld _ _ _ _ rfl;have hidd0:get H2 idd=some (.buf vd 1 (g.drains.map numC)):=q4;refine Wp.seq ?_;refine Wp.rgn (K:=0) (s':=⟨[(0,.ref lid 0 0 0),(1,.nI c),(5,.ref (4*nx) 0 0 0),(7,.nI i),(8,.nI bt)],H2,n2+2+8⟩) (fun n hn=>by
    generalize g.drains.map numC=es at *;simp[hat2,q4,hil,hbc]) ?_
   refine Wp.seq (Wp.seq ?_);have hral:=G2.al.1;have hlen:=G2.a.len;rw[hral]at hlen;refine Wp.rgn (K:=0) (s':=⟨[(0,.ref lid 0 0 0),(1,.nI c),(5,.ref (4*nx) 0 0 0),(7,.nI i),(8,.nI bt),(31,.nI g.acts.length),(32,.nI 0)],H2,n2+2+8+6⟩) (fun n hn=>by
    simp[-len,hat2,hlen]) ?_
   refine Wp.block ?_;refine Wp.loop (fun m s1=>∃(k n3:Nat) (H3:Hp),k+m=g.acts.length/\Ext H2 n2 H3 n3/\(g.acts.drop k).any (mustA g c bt i p.e)=g.acts.any (mustA g c bt i p.e)/\
    s1=⟨[(0,.ref lid 0 0 0),(1,.nI c),(5,.ref (4*nx) 0 0 0),(7,.nI i),(8,.nI bt),(31,.nI g.acts.length),(32,.nI k)],H3,n3⟩) (m:=g.acts.length)
    ⟨0,n2+2+8+6,H2,by omega,Ext.refl hE2.fresh (by omega),rfl,by simp[fr_cons,keepFr]⟩ ?_
   rintro m s1 ⟨k,n3,H3,hkm,hE3,hany,rfl⟩;refine Wp.seq ?_;have hle3:=hE3.le;by_cases hk:k<g.acts.length
   ·obtain⟨a,ha⟩:∃a,g.acts[k]?=some a:=⟨_,List.getElem?_eq_getElem hk⟩;have hw1:IntKind.i64.wrap ((k:Int)+1)=(k:Int)+1:=IntWalk.i64_in _ (by omega);rw[drop_cons ha,List.any_cons]at hany;have G3:=G2.ext hE3;have hat3:=G3.at_;rw[hdC_eq]at hat3;obtain⟨row,hrow,yrow,rfl,hyrow⟩:=G3.al.get ha;obtain⟨ida,va,i1, -,hya,i4⟩:=G3.a.at_ hrow;rw[hral]at hya;subst hya;simp only[numV]at hrow;have haf:=G3.fits a (List.mem_of_getElem? ha);obtain⟨K2,hK2⟩:=callHas (p1:=p1) L a.b haf.1 haf.2 p.e;have hfb:get H3 (4*(n3+1+2+6))=none:=hE3.fresh _ (by omega);have hE4:Ext H3 n3 (Arx.set (Arx.set H3 (4*(n3+1+2+6)) (.cells [.iv .nilp])) (4*(n3+1+2+6)) (.cells [.ref ida va k 0])) (n3+1+2+8):=
     ((Ext.refl hE3.fresh (show n3<=n3+1+2+8 by omega)).set (by omega) (by omega) _).set (by omega) (by omega) _
    have g4:get (Arx.set (Arx.set H3 (4*(n3+1+2+6)) (Ob.cells [.iv .nilp])) (4*(n3+1+2+6)) (Ob.cells [.ref ida va k 0])) (4*(n3+1+2+6))=some (.cells [.ref ida va k 0]):=get_set_same _ _ _;generalize hH4:(Arx.set (Arx.set H3 (4*(n3+1+2+6)) (Ob.cells [.iv .nilp])) (4*(n3+1+2+6)) (Ob.cells [.ref ida va k 0]))=H4 at hE4 g4;have hE24:=hE3.trans hE4;have i44:get H4 ida=some (.buf va 5 ra):=by rw[hE4.old _ (by omega)];exact i4
    have g04:get H4 (4*nx)=some (.cells [.ref idp vp j 0]):=by rw[hE24.old _ (by omega)];exact g02
    have hi4:get H4 idp=some (.buf vp 15 rows):=by rw[hE24.old _ (by omega)];exact hi2
    have hd4:get H4 idd=some (.buf vd 1 (g.drains.map numC)):=by rw[hE24.old _ q1];exact q4
    have hy4:LB H4 (n3+1+2+8) yrow a.b:=hyrow.ext hE4;have hat4:=(G2.ext hE24).at_;rw[hdC_eq]at hat4;refine Wp.rgn (K:=0) (fun n _=>by simp[hk];rfl) ?_;refine Wp.seq (Wp.cond (t:=true) rfl (Wp.skip (Wp.seq (Wp.block (Wp.seq ?_)))));refine Wp.rg ?_;refine Wp.seq ?_;refine Wp.rgn (K:=0) (s':=⟨[(0,.ref lid 0 0 0),(1,.nI c),(5,.ref (4*nx) 0 0 0),(7,.nI i),(8,.nI bt),(10,.ref (4*(n3+1+2+6)) 0 0 0),(31,.nI g.acts.length),(32,.nI k)],H4,n3+1+2+8⟩) (fun n hn=>by
     rw[<-hH4];simp only[Nat.add_assoc]at hfb;simp[hat3,i4,hk,hfb,Nat.add_assoc]) ?_
    refine Wp.seq (Wp.drawn rfl ?_);refine Wp.rgn (K:=K2) (s':=⟨[(0,.ref lid 0 0 0),(1,.nI c),(5,.ref (4*nx) 0 0 0),(7,.nI i),(8,.nI bt),(10,.ref (4*(n3+1+2+6)) 0 0 0),(11,.bI (keptX c bt p.e a)),(31,.nI g.acts.length),(32,.nI k)],H4,n3+1+2+8+34⟩) (fun n hn=>by
     have cc:=hK2 n hn H4 _ yrow hy4;unfold keptX;generalize hasF a.b p.e=q at *;generalize pbC j p=pr at *;generalize p.e.enc.map AV.iv=ee at *;cases h1:a.c==c
     ·simp[g4,i44,hrow,g04,hi4,hr,h1]
     ·cases h2:a.t==0
      ·by_cases h3:bt<=a.t
       ·simp[g4,i44,hrow,g04,hi4,hr,a2,hel,h1,h2,h3,cc]
       ·simp[g4,i44,hrow,g04,hi4,hr,h1,h2,h3]
      ·simp[g4,i44,hrow,g04,hi4,hr,a2,hel,h1,h2,cc]) ?_
    refine Wp.seq ?_;obtain⟨H5,n5,hE5,K3,hK3⟩:∃H' nx',Ext H4 (n3+1+2+8+34+11) H' nx'/\Ev p1 p2 143 [.own idd 0 i vd,.clo 199 [] [.ref (4*(n3+1+2+6)) 0 0 0]] H4 (n3+1+2+8+34+11) (.bI ((g.drains.take i).any fun t=>decide (a.f<t)),H',nx'):=by
     refine evCon (p1:=p1) hp2 L.h150 L.h143 rfl rfl (by rw[List.length_take];omega) (fun q hq=>hE4.fresh q (by omega)) fun H6 n6 hE6=>?_
     refine says_num (l:=g.drains) (by rw[hE6.old _ (by omega)];exact hd4) (by have:=hE6.le;omega) (by omega) fun t H7 n7 hE7=>⟨H7,_,Ext.refl hE7.fresh (show n7<=n7+8 by omega),ev199 hp2 L t a yrow (4*(n3+1+2+6)) ida va k ra H7 n7 ?_ ?_ hrow⟩
     ·rw[hE7.old _ (by have:=hE6.le;omega),hE6.old _ (by omega)];exact g4
     ·rw[hE7.old _ (by have:=hE6.le;omega),hE6.old _ (by omega)];exact i44
    have hE45:Ext H4 (n3+1+2+8) H5 n5:=(Ext.refl hE4.fresh (by omega)).trans hE5;have hma:mustA g c bt i p.e a=(keptX c bt p.e a&&(g.drains.take i).any fun t=>decide (a.f<t)):=rfl;rw[hma]at hany;generalize keptX c bt p.e a=kp at *;generalize((g.drains.take i).any fun t=>decide (a.f<t))=dr at *;obtain⟨H6,n6,hE6,hreg⟩:∃H6 n6,Ext H4 (n3+1+2+8) H6 n6/\∀n,K3<=n->∀ops:List IOper,ops=[⟨some 74,.mov (.t 11),none,[]⟩,⟨some 75,.mov (.t 74),none,[]⟩,⟨some 76,.mov (.t 0),some (75,true),[]⟩,⟨some 77,.nchk (.t 76),some (75,true),[]⟩,⟨some 78,.fadr 6 (.t 77),some (75,true),[]⟩,⟨some 79,.load false 1 (.t 78),some (75,true),[]⟩,⟨some 80,.mov (.t 7),some (75,true),[]⟩,⟨some 81,.slc 1 (.t 79) none (some (.t 80)),some (75,true),[]⟩,⟨some 82,.mkf 199 [] [.t 10],some (75,true),[]⟩,⟨some 83,.scall (.c (.iv (.fn 143 []))) [.t 81,.t 82],some (75,true),[]⟩,⟨some 84,.pick (.t 75) (.t 83) (.c (.bI false)),none,[]⟩]->
      evalRgn (one p1 n) (run2 p1 p2 n) false ops [0,1,5,7,8,31,32,84] ⟨[(0,.ref lid 0 0 0),(1,.nI c),(5,.ref (4*nx) 0 0 0),(7,.nI i),(8,.nI bt),(10,.ref (4*(n3+1+2+6)) 0 0 0),(11,.bI kp),(31,.nI g.acts.length),(32,.nI k)],H4,n3+1+2+8+34⟩ =
      some ⟨[(0,.ref lid 0 0 0),(1,.nI c),(5,.ref (4*nx) 0 0 0),(7,.nI i),(8,.nI bt),(31,.nI g.acts.length),(32,.nI k),(84,.bI (kp&&dr))],H6,n6⟩:=by
     cases kp with
     |false=>
      refine⟨H4,n3+1+2+8+34+11,Ext.refl hE4.fresh (by omega),fun n hn ops ho=>?_⟩;subst ho;simp
     |true=>
      refine⟨H5,n5,hE45,fun n hn ops ho=>?_⟩;subst ho;have cc:=hK3 n hn;have hil2:i<=g.drains.length:=by omega
      simp only[Nat.add_assoc]at cc;generalize hes:g.drains.map numC=es at *;simp[hat4,hd4,hdl,hil2,cc,Nat.add_assoc]
    refine Wp.rgn (K:=K3) (fun n hn=>hreg n hn _ rfl) ?_;refine Wp.cond rfl ?_;have hE26:=hE24.trans hE6;cases hkd:kp&&dr with
    |true=>
     rw[hkd,Bool.true_or]at hany;rw[<-hany];simp only[if_true];refine Wp.seq ?_;refine Wp.rg ?_;exact Wp.ret ⟨(_,_,_),⟨rfl,hE02.trans (hE26.up (show n6<=n6+2 by omega))⟩,rfl,rfl⟩
    |false=>
     rw[hkd,Bool.false_or]at hany;simp only[Bool.false_eq_true,if_false];refine Wp.skip ?_;simp only[Ex.then,Ex.inBlock];refine Wp.rgn (K:=0) (fun n _=>by simp[hw1];rfl) ?_;exact⟨m - 1,by omega,k+1,_,H6,by omega,hE26.up (show n6<=n6+2 by omega),hany,by simp[fr_cons,keepFr]⟩
   ·obtain rfl:k=g.acts.length:=by omega
    refine Wp.rg ?_;refine Wp.seq (Wp.cond (t:=false) rfl (Wp.exit ?_));simp only[Ex.then,Ex.inBlock,if_true];rw[List.drop_length,List.any_nil]at hany;rw[<-hany];refine Wp.seq ?_;refine Wp.rg ?_;exact Wp.ret ⟨(_,_,_),⟨by simp,hE02.trans (hE3.up (show n3<=n3+1+1 by omega))⟩,rfl,rfl⟩
 obtain⟨⟨y,H',nx'⟩,⟨rfl,h1⟩,h4⟩:=Ev.ofx hp2 L.h198 rfl rfl _ key;exact⟨H',nx',h1,h4⟩
end
def gotX (c:Int) (i:Int) (bt:Int) (d:Dv):Bool:=d.c==c&&(d.p==i+1&&decide (d.s<=bt))
def missP (g:Lg) (d:List Dv) (c i:Int) (p:Pb):Bool:=decide (0<mustX g c p)&&!d.any (gotX c i (mustX g c p))
def missOne (g:Lg) (d:List Dv) (c:Int) (t:Nat):List (Int×Int):=match g.pubs[t]? with
 |some p=>if missP g d c t p=true then[(c,(t:Int)+1)] else[]
 |none=>[]
def missRow (g:Lg) (d:List Dv) (c:Int):Nat->List (Int×Int)
 |0=>[]
 |t+1=>missRow g d c t++missOne g d c t
def missTo (g:Lg) (d:List Dv):Nat->List (Int×Int)
 |0=>[]
 |k+1=>missTo g d k++missRow g d k g.pubs.length
def pairC (p:Int×Int):List AV:=[.iv (.int .i64 p.1),.iv (.int .i64 p.2)]
theorem missOne_len (g:Lg) (d:List Dv) (c:Int) (t:Nat):(missOne g d c t).length<=1:=by
 unfold missOne;split
 ·split<;>simp
 ·simp
theorem missRow_len (g:Lg) (d:List Dv) (c:Int):∀t,(missRow g d c t).length<=t
 |0=>by simp[missRow]
 |t+1=>by
  unfold missRow;have:=missRow_len g d c t;have:=missOne_len g d c t;rw[List.length_append];omega
theorem missTo_len (g:Lg) (d:List Dv):∀k,(missTo g d k).length<=k*g.pubs.length
 |0=>by simp[missTo]
 |k+1=>by
  unfold missTo;have:=missTo_len g d k;have:=missRow_len g d k g.pubs.length;rw[List.length_append,Nat.succ_mul];omega
theorem QE.push3 {e:Nat} {H:Hp} {n lo:Nat} {y:AV} {l:List (List AV)} (h:QE e H n y l) (hf:Fresh H n) (r:List AV) {gid slot n':Nat} (h1:4*n<=gid) (h2:n<=slot) (h3:gid<4*slot) (hn:slot<n') (hlen:l.length<=1000000) (hlo:∀k o m w,y = .own k o m w->4*lo<=k) (hln:lo<=n) :
  ∃y' H4,(app e slot false y (.own gid 0 1 0)).run (Arx.set H gid (.buf 0 e [r]))=some (y',H4)/\Fresh H4 n'/\QE e H4 n' y' (l++[r])/\(∀k o m w,y' = .own k o m w->4*lo<=k)/\(∀k,k<4*lo->get H4 k=get H k)/\
   (∀k ob,get H k=some ob->(∀v es,ob≠.buf v e es)->get H4 k=some ob):=by
 obtain⟨y',H4,p1,p2,p3,p4,p5⟩:=QE.push2 (e:=e) h hf r (g:=gid) (slot:=slot) (get_set_same _ _ _) (fun k hk=>get_set_ne _ _ (Ne.symm hk)) h1 h2 h3 (by omega);refine⟨y',H4,p1,fun k hk=>p2 k (by omega),p3.mono (by omega) fun _ _=>rfl,fun k o m w e=>?_,fun k hk=>p4 k (by omega) fun o m w e=>by have:=hlo k o m w e;omega,fun k ob hk hne=>?_⟩
 ·rcases p5 k o m w e with q | ⟨o,m,w,q⟩
  ·omega
  ·exact hlo k o m w q
 ·have hkn:k<4*n:=by
   rcases Nat.lt_or_ge k (4*n)with q | q
   ·exact q
   ·rw[hf k q]at hk;cases hk
  rw[p4 k hkn (QE.not_ (e:=e) h hk hne)];exact hk
section
variable {p1:Nat->Option Arb.IFn} {p2:Nat->Option IFn}
theorem ev197 (hp2:PrimsLe p2) (L:LibL p1 p2) (d:Dv) (c bt:Int) (i:Nat) (hi:i<=1000000) (bc bi bb:Nat) (H:Hp) (nx:Nat) (hf:Fresh H nx) (hc:get H bc=some (.cells [.nI c])) (hii:get H bi=some (.cells [.nI i])) (hb:get H bb=some (.cells [.nI bt])) :
  ∃H' nx',Ext H nx H' nx'/\Ev p1 p2 197 [.agg (d.enc.map AV.iv),.ref bc 0 0 0,.ref bi 0 0 0,.ref bb 0 0 0] H nx (.bI (gotX c i bt d),H',nx'):=by
 have hfr:get H (4*nx)=none:=hf _ (by omega);have hlt:∀{k:Nat} {ob:Ob},get H k=some ob->4*nx≠k:=fun {k ob} h e=>by rw[<-e,hfr]at h;cases h
 have hE1:Ext H nx (Arx.set H (4*nx) (.cells (d.enc.map AV.iv))) (nx+2):=(Ext.refl hf (by omega)).set (by omega) (by omega) _;have hc1:get (Arx.set H (4*nx) (.cells (d.enc.map AV.iv))) bc=_:=(get_set_ne _ _ (hlt hc)).trans hc;have hi1:get (Arx.set H (4*nx) (.cells (d.enc.map AV.iv))) bi=_:=(get_set_ne _ _ (hlt hii)).trans hii;have hb1:get (Arx.set H (4*nx) (.cells (d.enc.map AV.iv))) bb=_:=(get_set_ne _ _ (hlt hb)).trans hb;have hw:IntKind.i64.wrap ((i:Int)+1)=(i:Int)+1:=IntWalk.i64_in _ (by omega);refine⟨_,nx+2+18,hE1.up (by omega),Ev.of hp2 L.h197 rfl rfl ?_⟩;have hg1:get (Arx.set H (4*nx) (Ob.cells (d.enc.map AV.iv))) (4*nx)=some (.cells (d.enc.map AV.iv)):=get_set_same _ _ _
 have hden:d.enc.map AV.iv=[.nI d.c,.nI d.p,.nI d.s]:=rfl;generalize hH1:Arx.set H (4*nx) (Ob.cells (d.enc.map AV.iv))=H1 at *;refine Wp.seq ?_;refine Wp.rgn (K:=0) (s':=⟨[(1,.ref bc 0 0 0),(2,.ref bi 0 0 0),(3,.ref bb 0 0 0),(4,.ref (4*nx) 0 0 0)],H1,nx+2⟩) (fun n _=>by
  rw[<-hH1];simp[hfr]) ?_
 refine Wp.seq ?_;rw[hden]at hg1;refine Wp.rgn (K:=0) (s':=⟨[(5,.bI (gotX c i bt d))],H1,nx+2+18⟩) (fun n _=>by
  unfold gotX;cases h1:d.c==c
  ·simp[hg1,hc1,hi1,hb1,h1]
  ·cases h2:d.p==(i:Int)+1
   ·simp[hg1,hc1,hi1,hb1,h1,h2,hw]
   ·simp[hg1,hc1,hi1,hb1,h1,h2,hw]) ?_
 exact Wp.ret ⟨rfl,rfl⟩
theorem ev139 (hp2:PrimsLe p2) (L:LibL p1 p2) (d:List Dv) (hd:d.length<=1000) (c bt:Int) (i:Nat) (hi:i<=1000000) (bc bi bb:Nat) (H:Hp) (nx:Nat) (hf:Fresh H nx) (hc:get H bc=some (.cells [.nI c])) (hii:get H bi=some (.cells [.nI i])) (hb:get H bb=some (.cells [.nI bt])) :
  ∃H' nx',Ext H nx H' nx'/\Ev p1 p2 139 [.iv (.sl 3 (d.map Dv.enc)),.clo 197 [] [.ref bc 0 0 0,.ref bi 0 0 0,.ref bb 0 0 0]] H nx (.bI (d.any (gotX c i bt)),H',nx'):=by
 have hlt:∀{k:Nat} {ob:Ob},get H k=some ob->k<4*nx:=fun {k ob} h=>by
  rcases Nat.lt_or_ge k (4*nx)with h1 | h1
  ·exact h1
  ·rw[hf k h1]at h;cases h
 refine evCon (p1:=p1) (e:=3) (agg:=true) hp2 L.h146 L.h139 rfl rfl (by omega) hf fun H2 n2 hE2=>⟨fun H3 n3 hE3=>by simp[Arx.len,M.run],197,_,rfl,fun j a ha H3 n3 hE3=>?_⟩
 have hE:=hE2.trans hE3;obtain⟨H4,n4,hE4,hev⟩:=ev197 (p1:=p1) hp2 L a c bt i hi bc bi bb H3 n3 hE3.fresh (by rw[hE.old _ (hlt hc)];exact hc) (by rw[hE.old _ (hlt hii)];exact hii) (by rw[hE.old _ (hlt hb)];exact hb);have hrow:(d.map Dv.enc)[j]?=some a.enc:=by rw[List.getElem?_map,ha];rfl
 refine⟨.iv (.ptr a.enc),.agg (a.enc.map AV.iv),?_,?_,H4,n4,hE4,hev⟩
 ·generalize d.map Dv.enc=rows at *;simp[Arx.isl,idx,M.run_bind,M.ok,M.bind,M.run,M.lift,hrow]
 ·simp[Arx.load,Dv.enc,M.run_bind,M.ok,M.run,M.bind,Arx.mk]
end
structure FRM (fr:Fr) (rv yb:AV) (lid cb:Nat) (N k W t:Int):Prop where
 g2:get fr 2=some rv
 g6:get fr 6=some yb
 g7:get fr 7=some (.ref lid 0 0 0)
 g8:get fr 8=some (.ref cb 0 0 0)
 g17:get fr 17=some (.iv (.int .i64 N))
 g18:get fr 18=some (.iv (.int .i64 k))
 g25:get fr 25=some (.iv (.int .i64 W))
 g26:get fr 26=some (.iv (.int .i64 t))
def missBlk:IC:=match F153.body with
 |.seq _ (.seq _ (.seq (.seq _ (.block _ (.loop _ (.seq _ (.seq _ (.seq (.block _ (.seq _ (.seq (.seq _ (.block _ (.loop _ (.seq _ (.seq _ (.seq (.block _ c) _)))))) _))) _)))))) _))=>c
 |.seq _ (.seq _ (.seq (.seq _ (.block _ (.loop _ (.seq _ (.seq _ (.seq (.block _ (.seq _ (.seq _ (.block _ (.loop _ (.seq _ (.seq _ (.seq (.block _ c) _)))))))) _)))))) _))=>c
 |_=>.skip
section
variable {p1:Nat->Option Arb.IFn} {p2:Nat->Option IFn}
set_option maxHeartbeats 8000000 in
theorem miss_one (hp2:PrimsLe p2) (L:LibL p1 p2) {lo lid:Nat} {x:Hd} {g:Lg} {H1:Hp} {n1:Nat} {ya yp yd:AV} {ra rp:List (List AV)} (G:LG lo H1 n1 lid x g ya yp yd ra rp) (hla:g.acts.length<=1000) (hlp:g.pubs.length<=1000) (hld:g.drains.length<=1000)
  (d:List Dv) (hd:d.length<=1000) (c:Int) (t:Nat) (p:Pb) (hpt:g.pubs[t]?=some p) (l:List (Int×Int)) (hll:l.length<=1000000)
  (H2:Hp) (n2:Nat) (hE:Ext H1 n1 H2 n2) (yb:AV) (hyb:QE 2 H2 n2 yb (l.map pairC)) (hybo:∀k o m w,yb = .own k o m w->4*n1<=k) (cb:Nat) (hcb:get H2 cb=some (.cells [.nI c])) (N k W:Int) :
  Wp p1 p2 missBlk ⟨[(2,.iv (.sl 3 (d.map Dv.enc))),(6,yb),(7,.ref lid 0 0 0),(8,.ref cb 0 0 0),(17,.nI N),(18,.nI k),(25,.nI W),(26,.nI t),(27,.bI true)],H2,n2⟩
   (fun e st=>e = .norm/\∃yb',FRM st.fr (.iv (.sl 3 (d.map Dv.enc))) yb' lid cb N k W t/\Ext H1 n1 st.hp st.nx/\QE 2 st.hp st.nx yb' ((l++(if missP g d c t p=true then[(c,(t:Int)+1)] else[])).map pairC)/\(∀k o m w,yb' = .own k o m w->4*n1<=k)/\get st.hp cb=some (.cells [.nI c])):=by
 have hn12:=hE.le;have htl:t<g.pubs.length:=(List.getElem?_eq_some_iff.1 hpt).1;have hcblt:cb<4*n2:=by
  rcases Nat.lt_or_ge cb (4*n2)with h | h
  ·exact h
  ·rw[hE.fresh _ h]at hcb;cases hcb
 have hw1:IntKind.i64.wrap ((t:Int)+1)=(t:Int)+1:=IntWalk.i64_in _ (by omega);have hfr:get H2 (4*(n2+1))=none:=hE.fresh _ (by omega);have hE3:Ext H2 n2 (Arx.set (Arx.set H2 (4*(n2+1)) (.cells [.nI 0])) (4*(n2+1)) (.cells [.nI t])) (n2+3):=
  ((Ext.refl hE.fresh (show n2<=n2+3 by omega)).set (by omega) (by omega) _).set (by omega) (by omega) _
 have hg3:get (Arx.set (Arx.set H2 (4*(n2+1)) (Ob.cells [.nI 0])) (4*(n2+1)) (Ob.cells [.nI t])) (4*(n2+1))=some (.cells [.nI t]):=get_set_same _ _ _;generalize hH3:(Arx.set (Arx.set H2 (4*(n2+1)) (Ob.cells [.nI 0])) (4*(n2+1)) (Ob.cells [.nI t]))=H3 at hE3 hg3;have hE13:=hE.trans hE3;have G3:=G.ext hE13;have hcb3:get H3 cb=some (.cells [.nI c]):=by rw[hE3.old _ hcblt];exact hcb
 have hyb3:QE 2 H3 (n2+3) yb (l.map pairC):=hyb.mono (by omega) hE3.old;have hrow:=G3.pl.2 t p hpt;obtain⟨idp,vp,i1, -,hyp,i4⟩:=G3.p.at_ hrow;have hrpl:=G3.pl.1;rw[hrpl]at hyp;obtain⟨H4,n4,hE4,K1,hK1⟩:=ev198 (p1:=p1) hp2 L (G3.ext (Ext.refl hE3.fresh (show n2+3<=n2+3+11 by omega))) hla hld (fun k hk=>hE3.fresh k (by omega)) c p idp vp t rp (by omega) i4 hrow;have hle4:=hE4.le;have hfa3:get H3 (4*(n2+3+9))=none:=hE3.fresh _ (by omega);have hfa:get H4 (4*(n2+3+9))=none:=by rw[hE4.old _ (by omega)];exact hfa3
 have hE34:Ext H3 (n2+3) H4 n4:=(Ext.refl hE3.fresh (show n2+3<=n2+3+11 by omega)).trans hE4;have hE35:Ext H3 (n2+3) (Arx.set (Arx.set H4 (4*(n2+3+9)) (.cells [.nI 0])) (4*(n2+3+9)) (.cells [.nI (mustX g c p)])) n4:=(hE34.set (by omega) (by omega) _).set (by omega) (by omega) _;have hg5:get (Arx.set (Arx.set H4 (4*(n2+3+9)) (Ob.cells [.nI 0])) (4*(n2+3+9)) (Ob.cells [.nI (mustX g c p)])) (4*(n2+3+9))=some (.cells [.nI (mustX g c p)]):=get_set_same _ _ _;generalize hH5:Arx.set (Arx.set H4 (4*(n2+3+9)) (Ob.cells [.nI 0])) (4*(n2+3+9)) (Ob.cells [.nI (mustX g c p)])=H5 at hE35 hg5;have hE15:=hE13.trans hE35
 have hcb5:get H5 cb=some (.cells [.nI c]):=by rw[hE35.old _ (by omega)];exact hcb3
 have hib5:get H5 (4*(n2+1))=some (.cells [.nI t]):=by rw[hE35.old _ (by omega)];exact hg3
 have hyb5:QE 2 H5 n4 yb (l.map pairC):=hyb3.mono (by omega) hE35.old;have hat3:=G3.at_;rw[hdC_eq,hyp]at hat3;have hlidlt:=G3.li;refine Wp.seq ?_;generalize hrows:d.map Dv.enc=rows at *;refine Wp.rgn (K:=0) (s':=⟨[(2,.iv (.sl 3 rows)),(6,yb),(7,.ref lid 0 0 0),(8,.ref cb 0 0 0),(9,.ref (4*(n2+1)) 0 0 0),(17,.nI N),(18,.nI k),(25,.nI W),(26,.nI t)],H3,n2+3⟩) (fun n _=>by
  rw[<-hH3];simp[hfr]) ?_
 refine Wp.seq ?_;have e1:¬cb=4*(n2+3+9):=by omega
 have e2:¬lid=4*(n2+3+9):=by intro e;have:=G.li;omega
 have e3:¬idp=4*(n2+3+9):=by omega
 have e4:¬4*(n2+1)=4*(n2+3+9):=by omega
 refine Wp.rgn (K:=K1) (s':=⟨[(2,.iv (.sl 3 rows)),(6,yb),(7,.ref lid 0 0 0),(8,.ref cb 0 0 0),(9,.ref (4*(n2+1)) 0 0 0),(10,.ref (4*(n2+3+9)) 0 0 0),(17,.nI N),(18,.nI k),(25,.nI W),(26,.nI t)],H5,n4⟩) (fun n hn=>by
  have cc:=hK1 n hn;rw[<-hH5];generalize mustX g c p=mu at *;generalize haid:n2+3+9=aid at *;simp[evalFeet,footOf,hcb3,hg3,hat3,i4,htl,cc,hfa,haid];exact(by unfold orderOk;rw[Bool.or_eq_true];right;simp[apartAll,apart1,clash,meets,M.foot,M.bind,M.ok,M.lift,mk,obRead,hcb3,hg3,hat3,i4,htl,cc,hfa,haid,e1,e2,e3,e4,Ne.symm e1,Ne.symm e2,Ne.symm e3,Ne.symm e4])) ?_
 refine Wp.seq ?_;refine Wp.rgn (K:=0) (s':=⟨[(2,.iv (.sl 3 rows)),(6,yb),(7,.ref lid 0 0 0),(8,.ref cb 0 0 0),(9,.ref (4*(n2+1)) 0 0 0),(10,.ref (4*(n2+3+9)) 0 0 0),(11,.clo 197 [] [.ref cb 0 0 0,.ref (4*(n2+1)) 0 0 0,.ref (4*(n2+3+9)) 0 0 0]),(17,.nI N),(18,.nI k),(25,.nI W),(26,.nI t)],H5,n4+2⟩) (fun n hn=>by simp) ?_;refine Wp.seq ?_;obtain⟨H6,n6,hE6,K2,hK2⟩:=ev139 (p1:=p1) hp2 L d hd c (mustX g c p) t (by omega) cb (4*(n2+1)) (4*(n2+3+9)) H5 (n4+2+8) (fun q hq=>hE35.fresh q (by omega)) hcb5 hib5 hg5;rw[hrows]at hK2;have hmp:missP g d c t p=(decide (0<mustX g c p)&&!d.any (gotX c t (mustX g c p))):=rfl
 rw[hmp];generalize mustX g c p=mu at *;generalize d.any (gotX c t mu)=got at *;obtain⟨H7,n7,hE7,hreg⟩:∃H7 n7,Ext H5 (n4+2) H7 n7/\∀n,K2<=n->∀ops:List IOper,ops=[⟨some 39,.load false 1 (.t 10),none,[]⟩,⟨some 40,.bin .gtr 0 (.t 39) (.c (.nI (0))),none,[]⟩,⟨some 41,.mov (.t 40),none,[]⟩,⟨some 42,.mov (.t 2),some (41,true),[]⟩,⟨some 43,.mov (.t 11),some (41,true),[]⟩,⟨some 44,.scall (.c (.iv (.fn 139 []))) [.t 42,.t 43],some (41,true),[]⟩,⟨some 45,.un .not (.t 44),some (41,true),[]⟩,⟨some 46,.pick (.t 41) (.t 45) (.c (.bI false)),none,[]⟩]->
   evalRgn (one p1 n) (run2 p1 p2 n) false ops [2,6,7,8,9,17,18,25,26,46] ⟨[(2,.iv (.sl 3 rows)),(6,yb),(7,.ref lid 0 0 0),(8,.ref cb 0 0 0),(9,.ref (4*(n2+1)) 0 0 0),(10,.ref (4*(n2+3+9)) 0 0 0),(11,.clo 197 [] [.ref cb 0 0 0,.ref (4*(n2+1)) 0 0 0,.ref (4*(n2+3+9)) 0 0 0]),(17,.nI N),(18,.nI k),(25,.nI W),(26,.nI t)],H5,n4+2⟩ =
   some ⟨[(2,.iv (.sl 3 rows)),(6,yb),(7,.ref lid 0 0 0),(8,.ref cb 0 0 0),(9,.ref (4*(n2+1)) 0 0 0),(17,.nI N),(18,.nI k),(25,.nI W),(26,.nI t),(46,.bI (decide (0<mu)&&!got))],H7,n7⟩:=by
  by_cases hmu:0<mu
  ·refine⟨H6,n6,(Ext.refl (fun q hq=>hE35.fresh q (by omega)) (show n4+2<=n4+2+8 by omega)).trans hE6,fun n hn ops ho=>?_⟩;subst ho;have cc:=hK2 n hn;simp only[Nat.add_assoc]at cc hg5;simp[hg5,hmu,cc,Nat.add_assoc]
  ·refine⟨H5,n4+2+8,Ext.refl (fun q hq=>hE35.fresh q (by omega)) (by omega),fun n hn ops ho=>?_⟩;subst ho;simp only[Nat.add_assoc]at hg5;simp[hg5,hmu,Nat.add_assoc]
 refine Wp.rgn (K:=K2) (fun n hn=>hreg n hn _ rfl) ?_;refine Wp.cond rfl ?_;have hle7:=hE7.le;have hE57:Ext H5 n4 H7 n7:=(Ext.refl hE35.fresh (show n4<=n4+2 by omega)).trans hE7;have hE17:=hE15.trans hE57;have hcbn:cb<4*n4:=by omega
 have hcb7:get H7 cb=some (.cells [.nI c]):=by rw[hE57.old _ hcbn];exact hcb5
 have hib7:get H7 (4*(n2+1))=some (.cells [.nI t]):=by rw[hE57.old _ (by omega)];exact hib5
 have hyb7:QE 2 H7 n7 yb (l.map pairC):=hyb5.mono hE57.le hE57.old;cases hb:decide (0<mu)&&!got with
 |false=>
  simp only[Bool.false_eq_true,if_false];refine Wp.skip ?_;exact⟨rfl,yb,⟨rfl,rfl,rfl,rfl,rfl,rfl,rfl,rfl⟩,hE17,by rw[List.append_nil];exact hyb7,hybo,hcb7⟩
 |true=>
  simp only[if_true];have hfg:get H7 (4*(n7+5))=none:=hE7.fresh _ (by omega);obtain⟨y',H8,r1,r2,r3,r4,r5,r6⟩:=hyb7.push3 hE7.fresh [.nI c,.nI ((t:Int)+1)] (lo:=n1) (gid:=4*(n7+5)) (slot:=n7+6) (n':=n7+8) (by omega) (by omega) (by omega) (by omega) (by rw[List.length_map];omega) hybo (by omega);refine Wp.rgn (K:=0) (s':=⟨[(2,.iv (.sl 3 rows)),(6,y'),(7,.ref lid 0 0 0),(8,.ref cb 0 0 0),(17,.nI N),(18,.nI k),(25,.nI W),(26,.nI t)],H8,n7+8⟩) (fun n hn=>by
   simp[hcb7,hib7,hw1,hfg,r1,setAll,putAll]) ?_
  refine⟨rfl,y',⟨rfl,rfl,rfl,rfl,rfl,rfl,rfl,rfl⟩,⟨by show n1<=n7+8;omega,r2,fun q hq=>(r5 q hq).trans (hE17.old q hq)⟩,?_,r4,r6 _ _ hcb7 fun v es h=>by cases h⟩;rw[List.map_append];exact r3
end
section
variable {p1:Nat->Option Arb.IFn} {p2:Nat->Option IFn}
set_option maxHeartbeats 4000000 in
theorem ev153 (hp2:PrimsLe p2) (L:LibL p1 p2) (x:Hd) (hp:x.ps.length<=100) (hh:x.hs.length<=100) (l:List Arb.Op) (hl:l.length<=1000) (hok:∀o ∈ l,o.ok) (d:List Dv) (hd:d.length<=1000) (H:Hp) (nx:Nat) (hf:Fresh H nx) :
  ∃H' nx' y,Ext H nx H' nx'/\QE 2 H' nx' y ((missTo (readX x l) d x.hs.length).map pairC)/\Ev p1 p2 153 [.agg (hdC x),.iv (.sl 24 (l.map Arb.Op.enc)),.iv (.sl 3 (d.map Dv.enc))] H nx (y,H',nx'):=by
 have hfr:get H (4*nx)=none:=hf _ (by omega);have hE1:Ext H nx (Arx.set H (4*nx) (.cells (hdC x))) (nx+2):=(Ext.refl hf (by omega)).set (by omega) (by omega) _;have hb:get (Arx.set H (4*nx) (Ob.cells (hdC x))) (4*nx)=some (.cells (hdC x)):=get_set_same _ _ _;generalize hH0:Arx.set H (4*nx) (Ob.cells (hdC x))=H0 at hE1 hb;obtain⟨H1,n1,lid,ya,yp,yd,ra,rp,hE2,G,K1,hK1⟩:=ev177 (p1:=p1) hp2 L x hp hh l hl hok H0 (nx+2+4) (fun k hk=>hE1.fresh k (by omega));have hE01:Ext H nx H1 n1:=(hE1.up (show nx+2<=nx+2+4 by omega)).trans hE2;have hgl:=readX_len x l;generalize readX x l=g at *;have hle2:=hE2.le;have hb1:get H1 (4*nx)=some (.cells (hdC x)):=by rw[hE2.old _ (by omega)];exact hb
 have hrpl:=G.pl.1;have key:Wp p1 p2 F153.body ⟨params [.agg (hdC x),.iv (.sl 24 (l.map Arb.Op.enc)),.iv (.sl 3 (d.map Dv.enc))] 0,H,nx⟩ (fun e st=>∃r:AV×Hp×Nat,(Ext H nx r.2.1 r.2.2/\QE 2 r.2.1 r.2.2 r.1 ((missTo g d x.hs.length).map pairC))/\Fin F153.res r e st):=by
  generalize l.map Arb.Op.enc=scr at *;generalize hrows:d.map Dv.enc=rows;refine Wp.seq ?_;refine Wp.rgn (K:=0) (s':=⟨[(1,.iv (.sl 24 scr)),(2,.iv (.sl 3 rows)),(3,.ref (4*nx) 0 0 0),(6,.iv (.nsl 2))],H0,nx+2⟩) (fun n _=>by
   rw[<-hH0];simp[hfr]) ?_
  refine Wp.seq ?_;refine Wp.rgn (K:=K1) (s':=⟨[(2,.iv (.sl 3 rows)),(3,.ref (4*nx) 0 0 0),(6,.iv (.nsl 2)),(7,.ref lid 0 0 0)],H1,n1⟩) (fun n hn=>by
   have c:=hK1 n hn;simp[hb,hd_take,hd_len,c]) ?_
  refine Wp.seq (Wp.seq ?_);have hbc:=hb1;rw[hdC_eq]at hbc;refine Wp.rgn (K:=0) (s':=⟨[(2,.iv (.sl 3 rows)),(6,.iv (.nsl 2)),(7,.ref lid 0 0 0),(17,.nI x.hs.length),(18,.nI 0)],H1,n1+4⟩) (fun n _=>by
   simp[hbc]) ?_
  refine Wp.block ?_;refine Wp.loop (fun m s1=>∃(k n2:Nat) (H2:Hp) (yb:AV),k+m=x.hs.length/\Ext H1 n1 H2 n2/\QE 2 H2 n2 yb ((missTo g d k).map pairC)/\(∀q o m w,yb = .own q o m w->4*n1<=q)/\
   s1=⟨[(2,.iv (.sl 3 rows)),(6,yb),(7,.ref lid 0 0 0),(17,.nI x.hs.length),(18,.nI k)],H2,n2⟩) (m:=x.hs.length)
   ⟨0,n1+4,H1,.iv (.nsl 2),by omega,Ext.refl hE2.fresh (by omega),QE.nil _ _ _,(fun q o m w h=>by cases h),by simp[fr_cons,keepFr]⟩ ?_
  rintro m s1 ⟨k,n2,H2,yb,hkm,hE3,hyb,hybo,rfl⟩;refine Wp.seq ?_;by_cases hk:k<x.hs.length
  ·have hw1:IntKind.i64.wrap ((k:Int)+1)=(k:Int)+1:=IntWalk.i64_in _ (by omega);have hle3:=hE3.le;have hmt:=missTo_len g d k;have hmul:k*g.pubs.length<=100*1000:=Nat.mul_le_mul (by omega) (by omega);have hfc:get H2 (4*(n2+1+1))=none:=hE3.fresh _ (by omega);have hE4:Ext H1 n1 (Arx.set (Arx.set H2 (4*(n2+1+1)) (.cells [.nI 0])) (4*(n2+1+1)) (.cells [.nI k])) (n2+1+3):=
    ((hE3.up (show n2<=n2+1+3 by omega)).set (by omega) (by omega) _).set (by omega) (by omega) _
   have hE24:Ext H2 n2 (Arx.set (Arx.set H2 (4*(n2+1+1)) (.cells [.nI 0])) (4*(n2+1+1)) (.cells [.nI k])) (n2+1+3):=
    ((Ext.refl hE3.fresh (show n2<=n2+1+3 by omega)).set (by omega) (by omega) _).set (by omega) (by omega) _
   have g4:get (Arx.set (Arx.set H2 (4*(n2+1+1)) (Ob.cells [.nI 0])) (4*(n2+1+1)) (Ob.cells [.nI k])) (4*(n2+1+1))=some (.cells [.nI k]):=get_set_same _ _ _;generalize hH4:Arx.set (Arx.set H2 (4*(n2+1+1)) (Ob.cells [.nI 0])) (4*(n2+1+1)) (Ob.cells [.nI k])=H4 at hE4 hE24 g4;have hyb4:QE 2 H4 (n2+1+3) yb ((missTo g d k).map pairC):=hyb.mono (by omega) hE24.old;have hat4:=(G.ext hE4).at_;have hpl4:=(G.ext hE4).p.len;rw[hdC_eq]at hat4;rw[hrpl]at hpl4;refine Wp.rgn (K:=0) (fun n _=>by simp[hk];rfl) ?_;refine Wp.seq (Wp.cond (t:=true) rfl (Wp.skip (Wp.seq (Wp.block (Wp.seq ?_)))));refine Wp.rgn (K:=0) (s':=⟨[(2,.iv (.sl 3 rows)),(6,yb),(7,.ref lid 0 0 0),(8,.ref (4*(n2+1+1)) 0 0 0),(17,.nI x.hs.length),(18,.nI k)],H4,n2+1+3⟩) (fun n _=>by
    rw[<-hH4];simp[hfc]) ?_
   refine Wp.seq ?_;refine Wp.rgn (K:=0) (s':=⟨[(2,.iv (.sl 3 rows)),(6,yb),(7,.ref lid 0 0 0),(8,.ref (4*(n2+1+1)) 0 0 0),(17,.nI x.hs.length),(18,.nI k),(25,.nI g.pubs.length),(26,.nI 0)],H4,n2+1+3+6⟩) (fun n _=>by
    simp[-len,hat4,hpl4]) ?_
   refine Wp.block ?_;refine Wp.loop (fun m1 s1=>∃(t n3:Nat) (H3:Hp) (y3:AV),t+m1=g.pubs.length/\Ext H1 n1 H3 n3/\QE 2 H3 n3 y3 ((missTo g d k++missRow g d k t).map pairC)/\(∀q o m w,y3 = .own q o m w->4*n1<=q)/\get H3 (4*(n2+1+1))=some (.cells [.nI k])/\
    s1=⟨[(2,.iv (.sl 3 rows)),(6,y3),(7,.ref lid 0 0 0),(8,.ref (4*(n2+1+1)) 0 0 0),(17,.nI x.hs.length),(18,.nI k),(25,.nI g.pubs.length),(26,.nI t)],H3,n3⟩) (m:=g.pubs.length)
    ⟨0,n2+1+3+6,H4,yb,by omega,hE4.up (by omega),by rw[missRow,List.append_nil];exact hyb4.mono (by omega) fun _ _=>rfl,hybo,g4,by simp[fr_cons,keepFr]⟩ ?_
   rintro m1 s1 ⟨t,n3,H3,y3,htm,hE5,hy3,hy3o,g3,rfl⟩;refine Wp.seq ?_;by_cases ht:t<g.pubs.length
   ·obtain⟨p,hpt⟩:∃p,g.pubs[t]?=some p:=⟨_,List.getElem?_eq_getElem ht⟩;have hw2:IntKind.i64.wrap ((t:Int)+1)=(t:Int)+1:=IntWalk.i64_in _ (by omega);have hmr:=missRow_len g d k t;have hone:=miss_one (p1:=p1) hp2 L G (by omega) (by omega) (by omega) d hd k t p hpt (missTo g d k++missRow g d k t) (by rw[List.length_append];omega) H3 (n3+1) (hE5.up (by omega)) y3 (hy3.mono (by omega) fun _ _=>rfl) hy3o (4*(n2+1+1)) g3 x.hs.length k g.pubs.length;have hnext:missTo g d k++missRow g d k (t+1)=(missTo g d k++missRow g d k t)++(if missP g d k t p=true then[((k:Int),(t:Int)+1)] else[]):=by
     rw[missRow,missOne,hpt,List.append_assoc]
    rw[<-hnext,hrows]at hone;refine Wp.rgn (K:=0) (fun n _=>by simp[ht];rfl) ?_;refine Wp.seq (Wp.cond (t:=true) rfl (Wp.skip (Wp.seq (Wp.block ?_))));refine Wp.mono hone ?_;rintro e ⟨fr,H6,n6⟩ ⟨rfl,y6,⟨f2,f6,f7,f8,f17,f18,f25,f26⟩,b1,b2,b3,b4⟩;simp only[]at f2 f6 f7 f8 f17 f18 f25 f26 b1 b2 b3 b4;simp only[Ex.then,Ex.inBlock];refine Wp.rgn (K:=0) (s':=⟨[(2,.iv (.sl 3 rows)),(6,y6),(7,.ref lid 0 0 0),(8,.ref (4*(n2+1+1)) 0 0 0),(17,.nI x.hs.length),(18,.nI k),(25,.nI g.pubs.length),(26,.nI (t+1:Nat))],H6,n6+2⟩) (fun n _=>by
     simp[get_set,f2,f6,f7,f8,f17,f18,f25,f26,hw2]) ?_
    exact⟨m1 - 1,by omega,t+1,n6+2,H6,y6,by omega,b1.up (by omega),b2.mono (by omega) fun _ _=>rfl,b3,b4,by simp[fr_cons,keepFr]⟩
   ·obtain rfl:t=g.pubs.length:=by omega
    refine Wp.rg ?_;refine Wp.seq (Wp.cond (t:=false) rfl (Wp.exit ?_));simp only[Ex.then,Ex.inBlock,if_true];refine Wp.rgn (K:=0) (fun n _=>by simp[hw1];rfl) ?_;exact⟨m - 1,by omega,k+1,_,H3,y3,by omega,hE5.up (show n3<=n3+1+2 by omega),by rw[missTo];exact hy3.mono (show n3<=n3+1+2 by omega) fun _ _=>rfl,hy3o,by simp[fr_cons,keepFr]⟩
  ·obtain rfl:k=x.hs.length:=by omega
   refine Wp.rg ?_;refine Wp.seq (Wp.cond (t:=false) rfl (Wp.exit ?_));simp only[Ex.then,Ex.inBlock,if_true];refine Wp.seq ?_;refine Wp.rg ?_;exact Wp.ret ⟨(yb,H2,n2+1+2),⟨hE01.trans (hE3.up (show n2<=n2+1+2 by omega)),hyb.mono (show n2<=n2+1+2 by omega) fun _ _=>rfl⟩,rfl,rfl⟩
 obtain⟨⟨y,H',nx'⟩,⟨h1,h2⟩,h4⟩:=Ev.ofx hp2 L.h153 rfl rfl _ key;exact⟨H',nx',y,h1,h2,h4⟩
end
end Arx
namespace Arb
open Go
attribute [local simp] evalRgn Option.map_some evalOps step wants osem M.run_bind M.mapL M.run M.ok M.fresh M.write M.look M.lift putD Arb.set ev Arb.get keepFr bin intBin strBin mk params cellsM load obRead fadr fld isl iarr xarr idx len valid slc bound store splice nilc un eqs eq0 evalFeet footOf M.foot orderOk apartAll apart1 clash meets callM fcallM callee fz1 fzC fz flat flat1 flat0 flatI Option.bind_some putAll M.bind oo om ol oa oc ob on og od oe ci cb
section
variable {prog:Nat->Option IFn}
theorem x_same (h:prog 171=some F171) (a b:List Int) (ha:a.length<=maxLen):Ans prog 171 [ints a,ints b] (.bI (a==b)):=by
 refine Ans.of h rfl rfl (Wp.seq ?_);refine Wp.rg ?_;refine Wp.seq (Wp.seq ?_);refine Wp.rgn (K:=0) (s':=⟨[(0,ints a),(1,ints b),(10,.bI (!decide (a.length=b.length)))],[],1384⟩) (fun n _=>by
  have:((a.length:Int) != (b.length:Int))=!decide (a.length=b.length):=by
   by_cases h:a.length=b.length
   ·simp[h]
   ·have:(a.length:Int)≠(b.length:Int):=by omega
    simp[h,this]
  simp[ints,this]) ?_
 refine Wp.cond rfl ?_;by_cases hab:a.length=b.length
 ·rw[decide_eq_true hab];refine Wp.skip ?_;simp only[Ex.then];refine Wp.seq (Wp.seq ?_);refine Wp.rg ?_;refine Wp.block ?_;refine Wp.range a.length (fun i=>⟨[(0,ints a),(1,ints b),(5,.nI i)],[],1448⟩) (fun i=>a.take i=b.take i) (by simp[keepFr,get,ints]) rfl ?_ ?_
  ·intro i hi hg;obtain⟨p,hp⟩:∃p,a[i]?=some p:=⟨_,List.getElem?_eq_getElem hi⟩;obtain⟨q,hq⟩:∃q,b[i]?=some q:=⟨_,List.getElem?_eq_getElem (by omega)⟩;have hpr:(a.map num1)[i]?=some (num1 p):=by rw[List.getElem?_map,hp];rfl
   have hqr:(b.map num1)[i]?=some (num1 q):=by rw[List.getElem?_map,hq];rfl
   have hla:(a.map num1).length=a.length:=by simp
   refine Wp.seq (Wp.seq ?_);refine Wp.rgn (K:=0) (s':=⟨[(0,ints a),(1,ints b),(5,.nI i),(14,.bI true)],[],1704⟩) (fun n _=>by simp[ints,hi]) ?_;refine Wp.cond (t:=true) rfl (Wp.skip ?_);simp only[Ex.then];refine Wp.seq (Wp.block (Wp.seq ?_));refine Wp.rgn (K:=0) (s':=⟨[(0,ints a),(1,ints b),(5,.nI i),(25,.bI (!(p==q)))],[],2280⟩) (fun n _=>by
    have:(p != q)=!(p==q):=rfl;simp[ints,hp,hq,num1,this]) ?_
   refine Wp.cond rfl ?_;cases hb:p==q with
   |true=>
    refine Wp.skip ?_;simp only[Ex.then,Ex.inBlock];refine Wp.rgn (K:=0) (fun n _=>by simp[wrap_succ hi ha];rfl) ?_;refine⟨by simp[again,keepFr,get,nrm,ints],?_⟩;rw[List.take_add_one,List.take_add_one,hp,hq,hg,show p=q by simpa using hb]
   |false=>
    refine Wp.seq ?_;refine Wp.rg ?_;refine Wp.ret ?_;have:(a==b)=false:=by
     rw[Bool.eq_false_iff];intro h;have:=eq_of_beq h;subst this;rw[hp]at hq;cases hq;simp at hb
    rw[this];rfl
  ·intro hg;refine Wp.seq (Wp.seq ?_);refine Wp.rgn (K:=0) (s':=⟨[(0,ints a),(1,ints b),(5,.nI a.length),(14,.bI false)],[],1704⟩) (fun n _=>by simp[ints]) ?_;refine Wp.cond (t:=false) rfl (Wp.exit ?_);simp only[Ex.then,Ex.inBlock,if_true];refine Wp.seq ?_;refine Wp.rg ?_;refine Wp.ret ?_;have:a=b:=by rw[List.take_length]at hg;rw[hg,hab,List.take_length]
   subst this;simp only[beq_self_eq_true];rfl
 ·rw[decide_eq_false hab];refine Wp.seq ?_;refine Wp.rg ?_;refine Wp.ret ?_;have:(a==b)=false:=by
   rw[Bool.eq_false_iff];intro h;exact hab (by rw[eq_of_beq h])
  rw[this];rfl
end
end Arb
namespace Arx
open Go Arb
attribute [local simp] evalRgn Option.map_some evalOps step wants isS osem M.run_bind M.mapL M.run M.ok M.fresh M.write M.look M.lift putD ev fr_cons fr_nil keepFr lset_nil lset_cons get_set_same bin binM intBin strBin mk params cellsM load obRead fadr fld isl iarr xarr idx len valid slc rowLen bound store splice un callee Option.bind_some M.bind putAll oo om ol oa oc ob on og od oe ci cb
def earlyX (n:Int) (l:List Int):List Int:=l.filter fun x=>decide (x<n)
theorem earlyX_take {n:Int} {l:List Int} {i:Nat} {a:Int} (h:l[i]?=some a):earlyX n (l.take (i+1))=earlyX n (l.take i)++(if a<n then[a] else[]):=by
 unfold earlyX;rw[List.take_add_one,h,List.filter_append];by_cases hn:a<n<;>simp[hn]
theorem earlyX_len (n:Int) (l:List Int):(earlyX n l).length<=l.length:=List.length_filter_le _ _
def fewT (h:Hd) (l:List Arb.Op) (a b:Nat):Bool:=fewL h l&&(decide (a<=100)&&decide (b<=100))
section
variable {p1:Nat->Option Arb.IFn} {p2:Nat->Option IFn}
set_option maxHeartbeats 4000000 in
theorem ev205 (hp2:PrimsLe p2) (L:LibL p1 p2) (l:List Int) (hl:l.length<=1000) (n:Int) (y:AV) (H:Hp) (nx:Nat) (hf:Fresh H nx) (hy:QI H nx y l) :
  ∃H' nx' z,Ext H nx H' nx'/\QI H' nx' z (earlyX n l)/\Ev p1 p2 205 [y,.nI n] H nx (z,H',nx'):=by
 have hll:(l.map numC).length=l.length:=by simp
 have hlen:=QE.len (e:=1) hy;rw[hll]at hlen;have key:Wp p1 p2 F205.body ⟨params [y,.nI n] 0,H,nx⟩ (fun e st=>∃r:AV×Hp×Nat,(Ext H nx r.2.1 r.2.2/\QI r.2.1 r.2.2 r.1 (earlyX n l))/\Fin F205.res r e st):=by
  refine Wp.seq ?_;refine Wp.rg ?_;refine Wp.seq ?_;refine Wp.rg ?_;refine Wp.seq (Wp.seq ?_);refine Wp.rgn (K:=0) (s':=⟨[(1,.nI n),(5,.iv (.nsl 1)),(8,y),(9,.nI l.length),(10,.nI 0)],H,nx+5⟩) (fun m _=>by
   simp[-len,hlen]) ?_
  refine Wp.block ?_;refine Wp.loop (fun m s1=>∃(i n2:Nat) (H2:Hp) (z:AV),i+m=l.length/\Ext H nx H2 n2/\QI H2 n2 z (earlyX n (l.take i))/\(∀q o m w,z = .own q o m w->4*nx<=q)/\
   s1=⟨[(1,.nI n),(5,z),(8,y),(9,.nI l.length),(10,.nI i)],H2,n2⟩) (m:=l.length)
   ⟨0,nx+5,H,.iv (.nsl 1),by omega,Ext.refl hf (by omega),QI.nil _ _,(fun q o m w h=>by cases h),by simp[fr_cons,keepFr]⟩ ?_
  rintro m s1 ⟨i,n2,H2,z,him,hE,hz,hzo,rfl⟩;refine Wp.seq ?_;by_cases hi:i<l.length
  ·obtain⟨a,ha⟩:∃a,l[i]?=some a:=⟨_,List.getElem?_eq_getElem hi⟩;have hw1:IntKind.i64.wrap ((i:Int)+1)=(i:Int)+1:=IntWalk.i64_in _ (by omega);have hrow:(l.map numC)[i]?=some [.nI a]:=by rw[List.getElem?_map,ha];rfl
   obtain⟨id,v,i1, -,hyy,i4⟩:=QE.at_ (e:=1) hy hrow;rw[hll]at hyy;have i42:get H2 id=some (.buf v 1 (l.map numC)):=by rw[hE.old _ i1];exact i4
   have hnext:=earlyX_take (n:=n) ha;have hel:=earlyX_len n (l.take i);rw[List.length_take]at hel;have hle:=hE.le;generalize earlyX n (l.take i)=el at *;subst hyy;refine Wp.rgn (K:=0) (fun n _=>by simp[hi];rfl) ?_;refine Wp.seq (Wp.cond (t:=true) rfl (Wp.skip (Wp.seq (Wp.block (Wp.seq ?_)))));refine Wp.rgn (K:=0) (s':=⟨[(1,.nI n),(5,z),(7,.nI a),(8,.own id 0 l.length v),(9,.nI l.length),(10,.nI i)],H2,n2+1+3⟩) (fun m _=>by
    generalize l.map numC=es at *;simp[i42,hi,hrow]) ?_
   refine Wp.seq ?_;refine Wp.rgn (K:=0) (s':=⟨[(1,.nI n),(5,z),(7,.nI a),(8,.own id 0 l.length v),(9,.nI l.length),(10,.nI i),(16,.bI (decide (a<n)))],H2,n2+1+3+3⟩) (fun m _=>by simp) ?_;refine Wp.cond rfl ?_;by_cases han:a<n
   ·rw[if_pos han]at hnext;rw[decide_eq_true han];simp only[if_true];have hf4:Fresh H2 (n2+1+3+3):=fun k hk=>hE.fresh k (by omega)
    have hfg:get H2 (4*(n2+1+3+3+2))=none:=hf4 _ (by omega);obtain⟨z',H5,r1,r2,r3,r4,r5,r6⟩:=QI.push3 (QE.mono hz (show n2<=n2+1+3+3 by omega) fun _ _=>rfl) hf4 a (lo:=nx) (gid:=4*(n2+1+3+3+2)) (slot:=n2+1+3+3+3) (n':=n2+1+3+3+5) (by omega) (by omega) (by omega) (by omega) (by omega) hzo (by omega);refine Wp.rgn (K:=0) (s':=⟨[(1,.nI n),(5,z'),(8,.own id 0 l.length v),(9,.nI l.length),(10,.nI i)],H5,n2+1+3+3+5⟩) (fun m _=>by
     simp only[numC,Nat.add_assoc]at r1 hfg;simp[hfg,r1,setAll,Nat.add_assoc]) ?_
    simp only[Ex.then,Ex.inBlock];refine Wp.rgn (K:=0) (fun n _=>by simp[hw1];rfl) ?_;exact⟨m - 1,by omega,i+1,_,H5,z',by omega,⟨by show nx<=n2+1+3+3+5+2;omega,fun k hk=>r2 k (by have:4*(n2+1+3+3+5+2)<=k:=hk;omega),fun k hk=>(r5 k hk).trans (hE.old k hk)⟩,by rw[hnext];exact QE.mono r3 (show n2+1+3+3+5<=n2+1+3+3+5+2 by omega) fun _ _=>rfl,r4,by simp[fr_cons,keepFr]⟩
   ·rw[if_neg han,List.append_nil]at hnext;rw[decide_eq_false han];simp only[Bool.false_eq_true,if_false];refine Wp.skip ?_;simp only[Ex.then,Ex.inBlock];refine Wp.rgn (K:=0) (fun n _=>by simp[hw1];rfl) ?_;exact⟨m - 1,by omega,i+1,_,H2,z,by omega,hE.up (show n2<=n2+1+3+3+2 by omega),by rw[hnext];exact QE.mono hz (show n2<=n2+1+3+3+2 by omega) fun _ _=>rfl,hzo,by simp[fr_cons,keepFr]⟩
  ·obtain rfl:i=l.length:=by omega
   refine Wp.rg ?_;refine Wp.seq (Wp.cond (t:=false) rfl (Wp.exit ?_));simp only[Ex.then,Ex.inBlock,if_true];refine Wp.seq ?_;refine Wp.rg ?_;rw[List.take_length]at hz;exact Wp.ret ⟨(z,H2,n2+1+2),⟨hE.up (show n2<=n2+1+2 by omega),QE.mono hz (show n2<=n2+1+2 by omega) fun _ _=>rfl⟩,rfl,rfl⟩
 obtain⟨⟨z,H',nx'⟩,⟨h1,h2⟩,h4⟩:=Ev.ofx hp2 L.h205 rfl rfl _ key;exact⟨H',nx',z,h1,h2,h4⟩
theorem callSame (h171:p1 171=some Arb.F171) (a b:List Int) (ha:a.length<=1000):∃K,∀m,K<=m->∀(H:Hp) (n n':Nat) (y z:AV),QI H n y a->QI H n' z b->(callM (one p1 m) (.iv (.fn 171 [])) [y,z]).run H=some (.bI (a==b),H):=by
 obtain⟨K,hK⟩:=x_same (prog:=p1) h171 a b (by unfold maxLen;omega);refine⟨K,fun m hm H n n' y z hy hz=>?_⟩;have e1:(one p1 m 171 [.iv (.sl 1 (a.map num1)),.iv (.sl 1 (b.map num1))] []).bind shut=some (.bI (a==b)):=hK m hm;have q1:=hy.fz0;have q2:=hz.fz0;generalize(a==b)=q at *;simp[callM,callee,M.run_bind,M.lift,M.run,M.mapL,q1,q2,e1,ofA,of1,M.ok,flat,flat1,flat0,flatI,M.bind]
structure Few (p1:Nat->Option Arb.IFn):Prop where
 h27:p1 27=some Arb.F27
 h169:p1 169=some Arb.F169
 h170:p1 170=some Arb.F170
 h204:p1 204=some Arb.F204
 h203:p1 203=some Arb.F203
 h202:p1 202=some Arb.F202
 h201:p1 201=some Arb.F201
 h171:p1 171=some Arb.F171
theorem ev159 (hp2:PrimsLe p2) (L:LibL p1 p2) (W:Few p1) (x:Hd) (l:List Arb.Op) (hl:l.length<=maxLen) (hok:∀o ∈ l,o.ok) (ds cs:List (List IV)) (H:Hp) (nx:Nat) (hfr:get H (4*nx)=none) :
  Ev p1 p2 159 [.agg (hdC x),.iv (.sl 24 (l.map Arb.Op.enc)),.iv (.sl 3 ds),.iv (.sl 4 cs)] H nx (.bI (fewT x l ds.length cs.length),Arx.set H (4*nx) (.cells (hdC x)),nx+16):=by
 obtain⟨K,hK⟩:=p_few20 W.h27 W.h169 W.h170 W.h204 W.h203 W.h202 W.h201 x l hl fun o ho=>(hok o ho).x
 refine Ev.of hp2 L.h159 rfl rfl ?_;have hg:get (Arx.set H (4*nx) (Ob.cells (hdC x))) (4*nx)=some (.cells (hdC x)):=get_set_same _ _ _;generalize hH1:Arx.set H (4*nx) (Ob.cells (hdC x))=H1 at hg;have hcall:∀m,K<=m->(callM (one p1 m) (.iv (.fn 201 [])) [.agg (hdC x),.iv (.sl 24 (l.map Arb.Op.enc))]).run H1=some (.bI (fewL x l),H1):=fun m hm=>by
  have e1:(one p1 m 201 [.agg (x.enc.map Arb.AV.iv),.iv (.sl 24 (l.map Arb.Op.enc))] []).bind shut=some (.bI (fewL x l)):=hK m hm;have hz:fz1 false (.agg (hdC x)) = .ret (.agg (x.enc.map Arb.AV.iv)):=by
   unfold fz1;simp only[];rw[hd_fz8];rfl
  have hz2:fz1 false (.iv (.sl 24 (l.map Arb.Op.enc))) = .ret (.iv (.sl 24 (l.map Arb.Op.enc))):=rfl;generalize fewL x l=q at *;simp[callM,callee,M.run_bind,M.lift,M.run,M.mapL,hz,hz2,e1,ofA,of1,M.ok,flat,flat1,flat0,flatI,M.bind]
 unfold fewT;generalize fewL x l=q at *;generalize l.map Arb.Op.enc=scr at *;refine Wp.seq ?_;refine Wp.rgn (K:=0) (s':=⟨[(1,.iv (.sl 24 scr)),(2,.iv (.sl 3 ds)),(3,.iv (.sl 4 cs)),(4,.ref (4*nx) 0 0 0)],H1,nx+2⟩) (fun n _=>by
  rw[<-hH1];simp[hfr]) ?_
 refine Wp.seq ?_;refine Wp.rgn (K:=K) (s':=⟨[(8,.bI (q&&(decide (ds.length<=100)&&decide (cs.length<=100))))],H1,nx+16⟩) (fun n hn=>by
  have c:=hcall n hn;have h1:decide ((ds.length:Int)<=100)=decide (ds.length<=100):=decide_eq_decide.2 (by omega);have h2:decide ((cs.length:Int)<=100)=decide (cs.length<=100):=decide_eq_decide.2 (by omega);cases q
  ·simp[hg,hd_take,hd_len,c]
  ·cases h3:decide (ds.length<=100)<;>simp[hg,hd_take,hd_len,c,h1,h2,h3]) ?_
 exact Wp.ret ⟨rfl,rfl⟩
end
end Arx
namespace Arx
open Go Arb
theorem safeTo_take (g:Lg) (N:Nat) (d:List Dv) (i:Nat):∀t,t<=i->safeTo g N (d.take i) t=safeTo g N d t
 |0,_=>rfl
 |t+1,h=>by
  have ih:=safeTo_take g N d i t (by omega);rw[safeTo,safeTo,List.getElem?_take,if_pos (by omega),ih]
theorem pathTo_take (h:Hd) (g:Lg) (d:List Cr) (i:Nat):∀t,t<=i->pathTo h g (d.take i) t=pathTo h g d t
 |0,_=>rfl
 |t+1,e=>by
  have ih:=pathTo_take h g d i t (by omega);rw[pathTo,pathTo,List.getElem?_take,if_pos (by omega),ih]
def Grows (f:Nat->List Int):Prop:=f 0=[]/\∀t,f (t+1)=f t\/f (t+1)=f t++[(t:Int)]
theorem Grows.lt {f:Nat->List Int} (h:Grows f):∀t,∀x ∈ f t,x<(t:Int)
 |0,x,hx=>by rw[h.1]at hx;cases hx
 |t+1,x,hx=>by
  have ih:=h.lt t;rcases h.2 t with e | e
  ·rw[e]at hx;have:=ih x hx;omega
  ·rw[e]at hx;rcases List.mem_append.1 hx with q | q
   ·have:=ih x q;omega
   ·rw[List.mem_singleton.1 q];omega
theorem Grows.early {f:Nat->List Int} (h:Grows f) (i:Nat):∀k,earlyX i (f (i+k))=f i
 |0=>List.filter_eq_self.2 fun x hx=>decide_eq_true (h.lt i x hx)
 |k+1=>by
  have ih:=h.early i k;rcases h.2 (i+k)with e | e
  ·rw[<-Nat.add_assoc,e];exact ih
  ·rw[<-Nat.add_assoc,e];unfold earlyX at ih ⊢;rw[List.filter_append,ih];have:¬((i+k:Nat):Int)<(i:Int):=by omega
   simp only[List.filter_cons,List.filter_nil,decide_eq_true_eq,if_neg this,List.append_nil]
theorem safeS_snd (g:Lg) (N t:Nat) (x:Dv) (q:SM×List Int):(safeS g N t x q).2=q.2\/(safeS g N t x q).2=q.2++[(t:Int)]:=by
 unfold safeS;cases pubAt g x.p with
 |none=>exact .inr rfl
 |some p=>
  simp only[];cases safeB g N q.1 x p
  ·exact .inl rfl
  ·exact .inr rfl
theorem pathS_snd (h:Hd) (g:Lg) (t:Nat) (x:Cr) (q:(PM×PM)×List Int):(pathS h g t x q).2=q.2\/(pathS h g t x q).2=q.2++[(t:Int)]:=by
 unfold pathS;cases pubAt g x.p with
 |none=>exact .inr rfl
 |some p=>
  simp only[];cases pathB h q.1 x p
  ·exact .inl rfl
  ·exact .inr rfl
theorem safe_grows (g:Lg) (N:Nat) (d:List Dv):Grows fun t=>(safeTo g N d t).2:=by
 refine⟨rfl,fun t=>?_⟩
 show(safeTo g N d (t+1)).2=(safeTo g N d t).2\/(safeTo g N d (t+1)).2=(safeTo g N d t).2++[(t:Int)]
 cases hx:d[t]? with
 |none=>left;rw[safeTo,hx]
 |some x=>rw[safeTo_succ hx];exact safeS_snd _ _ _ _ _
theorem path_grows (h:Hd) (g:Lg) (d:List Cr):Grows fun t=>(pathTo h g d t).2:=by
 refine⟨rfl,fun t=>?_⟩
 show(pathTo h g d (t+1)).2=(pathTo h g d t).2\/(pathTo h g d (t+1)).2=(pathTo h g d t).2++[(t:Int)]
 cases hx:d[t]? with
 |none=>left;rw[pathTo,hx]
 |some x=>rw[pathTo_succ hx];exact pathS_snd _ _ _ _ _
theorem safe_fewer (g:Lg) (N:Nat) (d:List Dv) (i:Nat) (hi:i<=d.length):(safeX g N (d.take i)==earlyX i (safeX g N d))=true:=by
 rw[beq_iff_eq];unfold safeX;rw[List.length_take,Nat.min_eq_left hi,safeTo_take g N d i i (Nat.le_refl i)];have:=(safe_grows g N d).early i (d.length - i);rw[show i+(d.length - i)=d.length by omega]at this;exact this.symm
theorem path_fewer (h:Hd) (g:Lg) (d:List Cr) (i:Nat) (hi:i<=d.length):(pathX h g (d.take i)==earlyX i (pathX h g d))=true:=by
 rw[beq_iff_eq];unfold pathX;rw[List.length_take,Nat.min_eq_left hi,pathTo_take h g d i i (Nat.le_refl i)];have:=(path_grows h g d).early i (d.length - i);rw[show i+(d.length - i)=d.length by omega]at this;exact this.symm
theorem any_take {α:Type} (f:α->Bool) (l:List α) (i:Nat) (h:(l.take i).any f=true):l.any f=true:=by
 rw[List.any_eq_true]at h ⊢;obtain⟨x,hx,hf⟩:=h;exact⟨x,List.mem_of_mem_take hx,hf⟩
theorem missOne_fewer (g:Lg) (d:List Dv) (i:Nat) (c:Int) (t:Nat):(missOne g d c t).length<=(missOne g (d.take i) c t).length:=by
 unfold missOne;split
 ·rename_i p _;by_cases h:missP g d c t p=true
  ·have:missP g (d.take i) c t p=true:=by
    unfold missP at h ⊢;rw[Bool.and_eq_true]at h ⊢;refine⟨h.1,?_⟩;have h2:=h.2;cases hq:(d.take i).any (gotX c t (mustX g c p))with
    |false=>rfl
    |true=>rw[any_take _ _ _ hq]at h2;cases h2
   rw[if_pos h,if_pos this];exact Nat.le_refl _
  ·rw[if_neg h];exact Nat.zero_le _
 ·exact Nat.le_refl _
theorem missRow_fewer (g:Lg) (d:List Dv) (i:Nat) (c:Int):∀t,(missRow g d c t).length<=(missRow g (d.take i) c t).length
 |0=>Nat.le_refl _
 |t+1=>by
  have:=missRow_fewer g d i c t;have:=missOne_fewer g d i c t;rw[missRow,missRow,List.length_append,List.length_append];omega
theorem miss_fewer (g:Lg) (d:List Dv) (i:Nat):∀k,(missTo g d k).length<=(missTo g (d.take i) k).length
 |0=>Nat.le_refl _
 |k+1=>by
  have:=miss_fewer g d i k;have:=missRow_fewer g d i k g.pubs.length;rw[missTo,missTo,List.length_append,List.length_append];omega
def below:Tr Ob->Nat->Nat->Nat->Bool
 |.nil,_,_,_=>true
 |.node v l r,a,c,b=>(v.isNone||decide (c<b))&&(below l (2*a) (a+c) b&&below r (2*a) (2*a+c) b)
theorem below_spec:∀(t:Tr Ob) (a c b:Nat),below t a c b=true->∀k,b<=a*k+c->t.look k=none
 |.nil,a,c,b,_,k,_=>Tr.look_nil k
 |.node v l r,a,c,b,h,k,hk=>by
  simp only[below,Bool.and_eq_true,Bool.or_eq_true,decide_eq_true_eq,Option.isNone_iff_eq_none]at h;obtain⟨h1,h2,h3⟩:=h;cases k with
  |zero=>
   rcases h1 with h1 | h1
   ·exact h1
   ·simp at hk;omega
  |succ k=>
   have hd:=Nat.div_add_mod k 2;rw[Tr.look];split
   ·rename_i he;refine below_spec l _ _ b h2 _ ?_;have:a*(k+1)=2*a*(k / 2)+a:=by
     have:k=2*(k / 2):=by omega
     rw[Nat.mul_add,Nat.mul_one]
     conv=>lhs;rw[this]
     rw[<-Nat.mul_assoc,Nat.mul_comm a 2]
    omega
   ·rename_i he;refine below_spec r _ _ b h3 _ ?_;have:a*(k+1)=2*a*(k / 2)+2*a:=by
     have:k=2*(k / 2)+1:=by omega
     rw[Nat.mul_add,Nat.mul_one]
     conv=>lhs;rw[this]
     rw[Nat.mul_add,<-Nat.mul_assoc,Nat.mul_comm a 2,Nat.mul_one];omega
    omega
theorem below_fresh {t:Hp} {n:Nat} (h:below t 1 0 (4*n)=true):Fresh t n:=fun k hk=>below_spec t 1 0 (4*n) h k (by omega)
def sN1 (need:List (Nat×Nat)) (x:IOp) (i:Nat):Nat->List IOper->Bool
 |_,[]=>true
 |j,y::r=>(y.aft.contains i||sPair false x y.op||need.contains (i,j))&&sN1 need x i (j+1) r
def sNAll (need:List (Nat×Nat)):Nat->List IOper->Bool
 |_,[]=>true
 |i,x::r=>sN1 need x.op i (i+1) r&&sNAll need (i+1) r
variable {c1:Call1} {cx:CallX}
theorem apart_n {need:List (Nat×Nat)} {F:Nat->Option Feet} (hneed:∀p ∈ need,∀x y,F p.1=some x->F p.2=some y->clash x y=false) {x:IOp} {fx:Feet} {i:Nat} (hfx:F i=some fx):∀{ops:List IOper} {slot j:Nat} {s s1:St} {fs:List Feet},evalFeet c1 cx ops slot s=some (s1,fs)->(∀m,fs[m]?=F (j+m))->Kn false x fx s.hp->sN1 need x i j ops=true->apart1 fx i fs (ops.map (·.aft))=true
 |[],slot,j,s,s1,fs,e,_,_,_=>by simp only[evalFeet,Option.some.injEq,Prod.mk.injEq]at e;rw[<-e.2];rfl
 |y::r,slot,j,s,s1,fs,e,hF,hk,hs=>by
  simp only[evalFeet]at e;cases h1:step c1 cx slot y s with
  |none=>rw[h1]at e;cases e
  |some t=>
   rw[h1]at e;simp only[]at e;cases h2:evalFeet c1 cx r (slot+1) t with
   |none=>rw[h2]at e;cases e
   |some p=>
    rw[h2]at e;simp only[Option.some.injEq,Prod.mk.injEq]at e;obtain⟨-,rfl⟩:=e;simp only[sN1,Bool.and_eq_true,Bool.or_eq_true]at hs;obtain⟨k1,k2,k3⟩:=step_kn (al:=false) h1 fun h=>by cases h
    simp only[List.map_cons,apart1,Bool.and_eq_true,Bool.or_eq_true,Bool.not_eq_true'];refine⟨?_,apart_n hneed hfx (j:=j+1) (s1:=p.1) (fs:=p.2) h2 (fun m=>?_) (hk.mono k3) hs.2⟩
    ·rcases hs.1 with(q | q) | q
     ·exact .inr q
     ·exact .inl (clash_s hk (.inr trivial) k1.1 (fun h=>by obtain⟨l,e, -⟩:=k1.2 h;exact⟨l,e⟩) k2 q)
     ·refine .inl (hneed (i,j) (by simpa using q) _ _ hfx ?_);have:=hF 0;simpa using this.symm
    ·have:=hF (m+1);rw[List.getElem?_cons_succ]at this;rw[this,show j+(m+1)=j+1+m by omega]
theorem all_n {need:List (Nat×Nat)} {F:Nat->Option Feet} (hneed:∀p ∈ need,∀x y,F p.1=some x->F p.2=some y->clash x y=false):∀{ops:List IOper} {slot i:Nat} {s s1:St} {fs:List Feet},evalFeet c1 cx ops slot s=some (s1,fs)->(∀m,fs[m]?=F (i+m))->sNAll need i ops=true->apartAll fs i (ops.map (·.aft))=true
 |[],slot,i,s,s1,fs,e,_,_=>by simp only[evalFeet,Option.some.injEq,Prod.mk.injEq]at e;rw[<-e.2];rfl
 |x::r,slot,i,s,s1,fs,e,hF,hs=>by
  simp only[evalFeet]at e;cases h1:step c1 cx slot x s with
  |none=>rw[h1]at e;cases e
  |some t=>
   rw[h1]at e;simp only[]at e;cases h2:evalFeet c1 cx r (slot+1) t with
   |none=>rw[h2]at e;cases e
   |some p=>
    rw[h2]at e;simp only[Option.some.injEq,Prod.mk.injEq]at e;obtain⟨-,rfl⟩:=e;simp only[sNAll,Bool.and_eq_true]at hs;obtain⟨k1, -, -⟩:=step_kn (al:=false) h1 fun h=>by cases h
    have hFr:∀m,p.2[m]?=F (i+1+m):=fun m=>by
     have:=hF (m+1);rw[List.getElem?_cons_succ]at this;rw[this,show i+(m+1)=i+1+m by omega]
    have hF0:F i=some (footOf c1 slot x s t.hp):=by have:=hF 0;simpa using this.symm
    simp only[List.map_cons,apartAll,Bool.and_eq_true];exact⟨apart_n hneed hF0 (s1:=p.1) (fs:=p.2) h2 hFr k1 hs.1,all_n hneed (s1:=p.1) (fs:=p.2) h2 hFr hs.2⟩
theorem rgn_need {ops:List IOper} {keep:List Nat} {s s1:St} {fs:List Feet} (need:List (Nat×Nat)) (e:evalFeet c1 cx ops s.nx { s with nx:=s.nx+ops.length }=some (s1,fs)) (hs:sNAll need 0 ops=true) (hneed:∀p ∈ need,∀x y,fs[p.1]?=some x->fs[p.2]?=some y->clash x y=false) :
  evalRgn c1 cx true ops keep s=some { s1 with fr:=keepFr keep s1.fr }:=by
 unfold evalRgn;have ho:orderOk ops fs=true:=by
  unfold orderOk;rw[all_n (F:=fun i=>fs[i]?) hneed e (fun m=>by rw[Nat.zero_add]) hs,Bool.or_true]
 simp only[if_true,e,ho]
section
def fewerOps:List IOper:=match F276.body with
 |.seq _ (.seq _ (.seq _ (.seq _ (.seq (.rgn _ o _) _))))=>o
 |_=>[]
set_option maxHeartbeats 40000000 in
theorem fewer_rgn {c1:Call1} {cx:CallX} {hd:List AV} (hdl4:hd.length=4) (hdt:hd.take 4=hd) {scr dr cr:List (List IV)} {i k:Nat} (hi:i<=dr.length) (hk:k<=cr.length) {H0 H1 H2 H3 H4 H5 H6 H7 H8:Hp} {n0 n1 n2 n3 n4 n5 n6 n7 n8:Nat} {y1 y2 y3 y4 y5 y6 y7 y8:AV}
  (g0:get H0 4=some (.cells hd)) (g1:get H1 4=some (.cells hd)) (g2:get H2 4=some (.cells hd)) (g3:get H3 4=some (.cells hd)) (g4:get H4 4=some (.cells hd)) (g5:get H5 4=some (.cells hd)) (g6:get H6 4=some (.cells hd)) (g7:get H7 4=some (.cells hd)) (g8:get H8 4=some (.cells hd))
  (d1:cx 154 [.agg hd,.iv (.sl 24 scr),.iv (.sl 3 (dr.take i))] H0 (n0+46)=some (y1,H1,n1))
  (d2:cx 154 [.agg hd,.iv (.sl 24 scr),.iv (.sl 3 dr)] H1 n1=some (y2,H2,n2))
  (d3:cx 205 [y2,.iv (.int .i64 i)] H2 n2=some (y3,H3,n3))
  (d4:cx 155 [.agg hd,.iv (.sl 24 scr),.iv (.sl 4 (cr.take k))] H3 n3=some (y4,H4,n4))
  (d5:cx 155 [.agg hd,.iv (.sl 24 scr),.iv (.sl 4 cr)] H4 n4=some (y5,H5,n5))
  (d6:cx 205 [y5,.iv (.int .i64 k)] H5 n5=some (y6,H6,n6))
  (d7:cx 153 [.agg hd,.iv (.sl 24 scr),.iv (.sl 3 dr)] H6 n6=some (y7,H7,n7))
  (d8:cx 153 [.agg hd,.iv (.sl 24 scr),.iv (.sl 3 (dr.take i))] H7 n7=some (y8,H8,n8))
  (s1:(callM c1 (.iv (.fn 171 [])) [y1,y3]).run H3=some (.iv (.bool true),H3)) (s2:(callM c1 (.iv (.fn 171 [])) [y4,y6]).run H6=some (.iv (.bool true),H6))
  {m1 m2:Nat} (w7:(Arx.len false y7).run H7=some (.iv (.int .i64 m1),H7)) (w8:(Arx.len false y8).run H8=some (.iv (.int .i64 m2),H8)) (hm:m1<=m2) (h78:∀n ∈ ((Arx.len false y7).foot H7).1,get H7 n=get H8 n) :
  evalRgn c1 cx true fewerOps [10] ⟨[(1,.iv (.sl 24 scr)),(2,.iv (.sl 3 dr)),(3,.iv (.sl 4 cr)),(5,.ref 4 0 0 0),(11,.iv (.int .i64 i)),(12,.iv (.int .i64 k)),(13,.iv (.fn 205 []))],H0,n0⟩=some ⟨[(10,.iv (.bool true))],H8,n8⟩:=by
 obtain⟨fr,e,hfr⟩:∃fr,evalFeet c1 cx fewerOps n0 ⟨[(1,.iv (.sl 24 scr)),(2,.iv (.sl 3 dr)),(3,.iv (.sl 4 cr)),(5,.ref 4 0 0 0),(11,.iv (.int .i64 i)),(12,.iv (.int .i64 k)),(13,.iv (.fn 205 []))],H0,n0+46⟩=some (⟨fr,H8,n8⟩,[Feet.m ([4],[]),Feet.m ([],[]),Feet.m ([],[]),Feet.m ([],[]),Feet.m ([],[]),Feet.c H0 H1,
     Feet.m ([],[]),Feet.m ([4],[]),Feet.m ([],[]),Feet.m ([],[]),Feet.c H1 H2,Feet.m ([],[]),
     Feet.c H2 H3,Feet.m ((callM c1 (AV.iv (IV.fn 171 [])) [y1,y3]).foot H3),Feet.m ([],[]),Feet.m ([4],[]),
     Feet.m ([],[]),Feet.m ([],[]),Feet.m ([],[]),Feet.m ([],[]),Feet.c H3 H4,Feet.m ([],[]),
     Feet.m ([4],[]),Feet.m ([],[]),Feet.m ([],[]),Feet.c H4 H5,Feet.m ([],[]),Feet.c H5 H6,
     Feet.m ((callM c1 (AV.iv (IV.fn 171 [])) [y4,y6]).foot H6),Feet.m ([],[]),Feet.m ([],[]),
     Feet.m ([4],[]),Feet.m ([],[]),Feet.m ([],[]),Feet.c H6 H7,Feet.m ((Arx.len false y7).foot H7),
     Feet.m ([4],[]),Feet.m ([],[]),Feet.m ([],[]),Feet.m ([],[]),Feet.m ([],[]),Feet.c H7 H8,
     Feet.m ((Arx.len false y8).foot H8),Feet.m ([],[]),Feet.m ([],[]),Feet.m ([],[])])/\keepFr [10] fr=[(10,.iv (.bool true))]:=by
  simp[evalRgn,Option.map_some,evalOps,oo,om,ol,oa,oc,ob,on,og,od,oe,ci,cb,step,wants,isS,osem,M.run_bind,M.mapL,M.run,M.ok,M.fresh,M.write,M.look,M.lift,putD,ev,fr_cons,fr_nil,keepFr,lset_nil,lset_cons,get_set_same,bin,binM,intBin,strBin,mk,params,cellsM,load,obRead,fadr,fld,isl,iarr,xarr,idx,valid,slc,rowLen,bound,store,splice,un,callee,Option.bind_some,M.bind,putAll,evalFeet,footOf,M.foot,fewerOps,F276,hdl4,hdt,hi,hk,g0,g1,g2,g3,g4,g5,g6,g7,g8,d1,d2,d3,d4,d5,d6,d7,d8,s1,s2,w7,w8,hm]
 rw[rgn_need [(5,7),(20,22),(34,36),(34,40),(35,41)] (keep:=[10]) (s:=⟨[(1,.iv (.sl 24 scr)),(2,.iv (.sl 3 dr)),(3,.iv (.sl 4 cr)),(5,.ref 4 0 0 0),(11,.iv (.int .i64 i)),(12,.iv (.int .i64 k)),(13,.iv (.fn 205 []))],H0,n0⟩) e rfl ?_]
 ·rw[hfr]
 ·intro p hp x y hx hy;have hw:((Arx.len false y7).foot H7).2=[]:=NoPut.foot _ _ (cls1 c1 (op:=.len false (.c y7)) (slot:=0) (ρ:=fun _=>y7) rfl);simp only[List.mem_cons,List.not_mem_nil,or_false]at hp;rcases hp with rfl | rfl | rfl | rfl | rfl
  ·simp at hx hy;subst hx;subst hy;simp[clash,g0,g1,obB_refl]
  ·simp at hx hy;subst hx;subst hy;simp[clash,g3,g4,obB_refl]
  ·simp at hx hy;subst hx;subst hy;simp[clash,g6,g7,obB_refl]
  ·simp at hx hy;subst hx;subst hy;simp[clash]
  ·simp at hx hy;subst hx;subst hy;simp only[clash,hw,List.isEmpty_nil,Bool.true_and,Bool.not_eq_false'];rw[List.all_eq_true];intro n hn;rw[h78 n hn,obB_refl]
end
end Arx
namespace Arx
open Go Arb
attribute [local simp] evalRgn Option.map_some evalOps step wants isS osem M.run_bind M.mapL M.run M.ok M.fresh M.write M.look M.lift putD ev fr_cons fr_nil keepFr lset_nil lset_cons get_set_same bin binM intBin strBin mk params cellsM load obRead fadr fld isl iarr xarr idx len valid slc rowLen bound store splice un callee Option.bind_some M.bind putAll oo om ol oa oc ob on og od oe ci cb
theorem cut_in (cut:Int) (m:Nat) (hm:m<=1000):∃i:Nat,i<=m/\IntKind.i64.wrap ((IntKind.u64.wrap cut).tmod (IntKind.u64.wrap (IntKind.i64.wrap ((m:Int)+1))))=(i:Int):=by
 have h1:IntKind.i64.wrap ((m:Int)+1)=(m:Int)+1:=IntWalk.i64_in _ (by omega);have h2:IntKind.u64.wrap ((m:Int)+1)=(m:Int)+1:=IntWalk.u64_in _ (by omega);rw[h1,h2];have h0:0<=IntKind.u64.wrap cut:=by simp[IntKind.wrap,IntKind.bits,IntKind.signed];omega
 generalize IntKind.u64.wrap cut=w at *;have a:=Int.tmod_nonneg ((m:Int)+1) h0;have b:=Int.tmod_lt_of_pos w (show(0:Int)<(m:Int)+1 by omega);refine⟨(w.tmod ((m:Int)+1)).toNat,by omega,?_⟩;rw[IntWalk.i64_in _ (by omega)];omega
section
variable {p1:Nat->Option Arb.IFn} {p2:Nat->Option IFn}
def twiceT (p1:Nat->Option Arb.IFn) (p2:Nat->Option IFn) (K:Nat):Bool:=
 match run2 p1 p2 K 158 [] .nil 13 with
 |some (.iv (.bool true),h,n)=>below h 1 0 (4*n)&&(get h 4).isNone&&Nat.ble 13 n&&(match run2 p1 p2 K 158 [] h (n+18)with
  |some (.iv (.bool true),h2,_)=>(get h2 4).isNone&&(get h2 (4*n)).isNone
  |_=>false)
 |_=>false
theorem twiceT_spec {K:Nat} (ht:twiceT p1 p2 K=true):∃h n h2 n2,run2 p1 p2 K 158 [] .nil 13=some (.bI true,h,n)/\Fresh h n/\get h 4=none/\13<=n/\run2 p1 p2 K 158 [] h (n+18)=some (.bI true,h2,n2)/\get h2 4=none/\get h2 (4*n)=none:=by
 unfold twiceT at ht;split at ht
 ·rename_i h n e;simp only[Bool.and_eq_true,Option.isNone_iff_eq_none,Nat.ble_eq]at ht;obtain⟨⟨⟨h1,h4⟩,h13⟩,h3⟩:=ht;split at h3
  ·rename_i h2 n2 e2;simp only[Bool.and_eq_true,Option.isNone_iff_eq_none]at h3;exact⟨h,n,h2,n2,e,below_fresh h1,h4,h13,e2,h3.1,h3.2⟩
  ·cases h3
 ·cases ht
theorem awakeT_with (hp2:PrimsLe p2) (hm:∀n,MoreX (run2 p1 p2 n)) {K:Nat} {H h:Hp} {nx n:Nat} {r:AV} (e:run2 p1 p2 K 158 [] H nx=some (r,h,n)) (qs:List (Nat×Ob)) (hq:Off qs h):Ev p1 p2 158 [] (app_ qs H) nx (r,app_ qs h,n):=
 Ev.at hp2 ((hm K _ _ _ _ _ _ _ e).2 qs hq)
theorem fewT_len {x:Hd} {l:List Arb.Op} {a b:Nat} (h:fewT x l a b=true):x.ps.length<=100/\x.hs.length<=100/\l.length<=120/\a<=100/\b<=100:=by
 unfold fewT fewL Hd.few at h;simp only[Bool.and_eq_true,decide_eq_true_eq]at h;omega
set_option maxHeartbeats 40000000 in
theorem fewer_law (hp2:PrimsLe p2) (hm:∀n,MoreX (run2 p1 p2 n)) (L:LibL p1 p2) (W:Few p1) (h276:p2 276=some F276) {K0:Nat} (ht:twiceT p1 p2 K0=true)
  (x:Hd) (l:List Arb.Op) (hl:l.length<=maxLen) (hok:∀o ∈ l,o.ok) (d:List Dv) (hdi:∀v ∈ d,in64 v.p) (c:List Cr) (hci:∀v ∈ c,in64 v.p) (cut:Int) :
  ∃n p,run2 p1 p2 n 276 [.agg (hdC x),.iv (.sl 24 (l.map Arb.Op.enc)),.iv (.sl 3 (d.map Dv.enc)),.iv (.sl 4 (c.map Cr.enc)),.nI cut] .nil 1=some (.bI true,p):=by
 obtain⟨h,n,h2,n2,e1,hfr,f4,h13,e2,g4,g4n⟩:=twiceT_spec ht;have hfn:get h (4*n)=none:=hfr _ (Nat.le_refl _);obtain⟨KA,hA⟩:=awakeT_with hp2 hm e1 [(4,.cells (hdC x))] (fun p hp=>by simp at hp;subst hp;exact f4);obtain⟨KB,hB⟩:=awakeT_with hp2 hm e2 [(4,.cells (hdC x)),(4*n,.cells (hdC x))] (fun p hp=>by
  simp at hp;rcases hp with rfl | rfl
  ·exact g4
  ·exact g4n)
 have hA':∀m,KA<=m->run2 p1 p2 m 158 [] (Arx.set (Tr.nil:Hp) 4 (.cells (hdC x))) 13=some (.bI true,Arx.set h 4 (.cells (hdC x)),n):=hA;have hB':∀m,KB<=m->run2 p1 p2 m 158 [] (Arx.set (Arx.set h 4 (.cells (hdC x))) (4*n) (.cells (hdC x))) (n+18)=some (.bI true,Arx.set (Arx.set h2 4 (.cells (hdC x))) (4*n) (.cells (hdC x)),n2):=hB;have hk4:get (Arx.set h 4 (Ob.cells (hdC x))) 4=some (.cells (hdC x)):=get_set_same _ _ _;have hfr1:Fresh (Arx.set h 4 (.cells (hdC x))) n:=fun k hk=>by rw[get_set_ne _ _ (by omega)];exact hfr k hk
 obtain⟨KF,hF⟩:=ev159 (p1:=p1) hp2 L W x l hl hok (d.map Dv.enc) (c.map Cr.enc) (Arx.set h 4 (.cells (hdC x))) n (hfr1 _ (Nat.le_refl _));rw[List.length_map,List.length_map]at hF
 suffices hW:∃q,Wp p1 p2 F276.body ⟨params [.agg (hdC x),.iv (.sl 24 (l.map Arb.Op.enc)),.iv (.sl 3 (d.map Dv.enc)),.iv (.sl 4 (c.map Cr.enc)),.nI cut] 0,.nil,1⟩ (Fin F276.res (.bI true,q)) by
  obtain⟨q,hW⟩:=hW;obtain⟨m,hM⟩:=Ev.of hp2 h276 rfl rfl hW;exact⟨m,q,hM m (Nat.le_refl m)⟩
 have reg0:∀(scr dr cr:AV),∀m,evalRgn (one p1 m) (run2 p1 p2 m) false [⟨some 5,.box 0 (.t 0),none,[]⟩,⟨some 10,.mov (.c (.bI false)),none,[]⟩] [1,2,3,4,5] ⟨params [.agg (hdC x),scr,dr,cr,.nI cut] 0,.nil,1⟩=some ⟨[(1,scr),(2,dr),(3,cr),(4,.nI cut),(5,.ref 4 0 0 0)],Arx.set (Tr.nil:Hp) 4 (.cells (hdC x)),3⟩:=by
  intro scr dr cr m;simp[evalRgn,evalOps,step,wants,isS,osem,cellsM,params,M.run_bind,M.run,M.ok,M.fresh,M.write,tr_nil,ev,fr_cons,putD,get_set,keepFr]
 have hset4:get (Arx.set (Tr.nil:Hp) 4 (Ob.cells (hdC x))) 4=some (.cells (hdC x)):=get_set_same _ _ _;cases hb:fewT x l d.length c.length with
 |false=>
  rw[hb]at hF;refine⟨(Arx.set (Arx.set h2 4 (.cells (hdC x))) (4*n) (.cells (hdC x)),n2),Wp.seq (Wp.rgn (K:=0) (fun m _=>reg0 _ _ _ m) (Wp.seq (Wp.seq ?_)))⟩;generalize l.map Arb.Op.enc=scr at *;generalize d.map Dv.enc=dr at *;generalize c.map Cr.enc=cr at *;generalize hHA:Arx.set h 4 (Ob.cells (hdC x))=HA at *;refine Wp.rgn (K:=max KA KF) (s':=⟨[(1,.iv (.sl 24 scr)),(2,.iv (.sl 3 dr)),(3,.iv (.sl 4 cr)),(4,.nI cut),(5,.ref 4 0 0 0),(23,.bI true)],Arx.set HA (4*n) (.cells (hdC x)),n+16⟩) (fun m hm=>by
   have a1:=hA' m (by omega);have a2:=hF m (by omega);simp[a1,a2,hk4,hd_take,hd_len]) ?_
  refine Wp.cond (t:=true) rfl ?_;simp only[if_true];refine Wp.seq ?_;refine Wp.rgn (K:=KB) (s':=⟨[(10,.bI true)],Arx.set (Arx.set h2 4 (.cells (hdC x))) (4*n) (.cells (hdC x)),n2⟩) (fun m hm=>by
   have a1:=hB' m (by omega);simp[a1]) ?_
  exact Wp.ret ⟨rfl,rfl⟩
 |true=>
  rw[hb]at hF;obtain⟨b1,b2,b3,b4,b5⟩:=fewT_len hb;obtain⟨i,hi,hic⟩:=cut_in cut d.length (by omega);obtain⟨k,hk,hkc⟩:=cut_in cut c.length (by omega);have hEf:Ext (Arx.set h 4 (.cells (hdC x))) n (Arx.set (Arx.set h 4 (.cells (hdC x))) (4*n) (.cells (hdC x))) (n+35):=(Ext.refl hfr1 (show n<=n+35 by omega)).set (by omega) (by omega) _;have hk0:get (Arx.set (Arx.set h 4 (Ob.cells (hdC x))) (4*n) (Ob.cells (hdC x))) 4=some (.cells (hdC x)):=by rw[get_set_ne _ _ (by omega)];exact hk4
  generalize hH0:Arx.set (Arx.set h 4 (Ob.cells (hdC x))) (4*n) (Ob.cells (hdC x))=H0 at *;have hl1:l.length<=1000:=by omega
  have hdi1:∀v ∈ d.take i,in64 v.p:=fun v hv=>hdi v (List.mem_of_mem_take hv)
  have hci1:∀v ∈ c.take k,in64 v.p:=fun v hv=>hci v (List.mem_of_mem_take hv)
  have hld:(d.take i).length<=1000:=by rw[List.length_take];omega
  have hlc:(c.take k).length<=1000:=by rw[List.length_take];omega
  have hf0:Fresh H0 (n+35+46):=fun q hq=>hEf.fresh q (by omega)
  obtain⟨H1,n1,y1,E1,q1,K1,c1⟩:=ev154 (p1:=p1) hp2 L x b1 b2 l hl1 hok (d.take i) hld hdi1 H0 (n+35+46) hf0;obtain⟨H2,n2',y2,E2,q2,K2,c2⟩:=ev154 (p1:=p1) hp2 L x b1 b2 l hl1 hok d (by omega) hdi H1 n1 E1.fresh;have hs9:(safeX (readX x l) l.length d).length<=1000:=by have:=safeTo_len (readX x l) l.length d d.length;unfold safeX;omega
  obtain⟨H3,n3,y3,E3,q3,K3,c3⟩:=ev205 (p1:=p1) hp2 L _ hs9 i y2 H2 n2' E2.fresh q2;obtain⟨H4,n4,y4,E4,q4,K4,c4⟩:=ev155 (p1:=p1) hp2 L x b1 b2 l hl1 hok (c.take k) hlc hci1 H3 n3 E3.fresh;obtain⟨H5,n5,y5,E5,q5,K5,c5⟩:=ev155 (p1:=p1) hp2 L x b1 b2 l hl1 hok c (by omega) hci H4 n4 E4.fresh;have hp9:(pathX x (readX x l) c).length<=1000:=by have:=pathTo_len x (readX x l) c c.length;unfold pathX;omega
  obtain⟨H6,n6,y6,E6,q6,K6,c6⟩:=ev205 (p1:=p1) hp2 L _ hp9 k y5 H5 n5 E5.fresh q5;obtain⟨H7,n7,y7,E7,q7,K7,c7⟩:=ev153 (p1:=p1) hp2 L x b1 b2 l hl1 hok d (by omega) H6 n6 E6.fresh;obtain⟨H8,n8,y8,E8,q8,K8,c8⟩:=ev153 (p1:=p1) hp2 L x b1 b2 l hl1 hok (d.take i) hld H7 n7 E7.fresh;have hs8:(safeX (readX x l) l.length (d.take i)).length<=1000:=by have:=safeTo_len (readX x l) l.length (d.take i) (d.take i).length;unfold safeX;omega
  have hp8:(pathX x (readX x l) (c.take k)).length<=1000:=by have:=pathTo_len x (readX x l) (c.take k) (c.take k).length;unfold pathX;omega
  obtain⟨KS,hS⟩:=callSame (p1:=p1) W.h171 _ (earlyX i (safeX (readX x l) l.length d)) hs8;obtain⟨KP,hP⟩:=callSame (p1:=p1) W.h171 _ (earlyX k (pathX x (readX x l) c)) hp8;rw[safe_fewer _ _ _ _ hi]at hS;rw[path_fewer _ _ _ _ hk]at hP;have l1:=E1.le;have l2:=E2.le;have l3:=E3.le;have l4:=E4.le;have l5:=E5.le;have l6:=E6.le;have l7:=E7.le;have l8:=E8.le;have g1:get H1 4=some (.cells (hdC x)):=by rw[E1.old _ (by omega)];exact hk0
  have g2:get H2 4=some (.cells (hdC x)):=by rw[E2.old _ (by omega)];exact g1
  have g3:get H3 4=some (.cells (hdC x)):=by rw[E3.old _ (by omega)];exact g2
  have g4':get H4 4=some (.cells (hdC x)):=by rw[E4.old _ (by omega)];exact g3
  have g5:get H5 4=some (.cells (hdC x)):=by rw[E5.old _ (by omega)];exact g4'
  have g6:get H6 4=some (.cells (hdC x)):=by rw[E6.old _ (by omega)];exact g5
  have g7:get H7 4=some (.cells (hdC x)):=by rw[E7.old _ (by omega)];exact g6
  have g8:get H8 4=some (.cells (hdC x)):=by rw[E8.old _ (by omega)];exact g7
  have sS:∀m,KS<=m->(callM (one p1 m) (.iv (.fn 171 [])) [y1,y3]).run H3=some (.bI true,H3):=fun m hm=>hS m hm H3 n3 n3 y1 y3 (QE.mono (QE.mono q1 E2.le E2.old) E3.le E3.old) q3
  have sP:∀m,KP<=m->(callM (one p1 m) (.iv (.fn 171 [])) [y4,y6]).run H6=some (.bI true,H6):=fun m hm=>hP m hm H6 n6 n6 y4 y6 (QE.mono (QE.mono q4 E5.le E5.old) E6.le E6.old) q6
  have hmf:=miss_fewer (readX x l) d i x.hs.length;have w7:=q7.len;have w8:=q8.len;rw[List.length_map]at w7 w8;have q7':=q7;generalize missTo (readX x l) d x.hs.length=m1 at *;generalize missTo (readX x l) (d.take i) x.hs.length=m2 at *;rw[List.map_take]at c1 c4 c8;have hdl:(d.map Dv.enc).length=d.length:=by simp
  have hcl:(c.map Cr.enc).length=c.length:=by simp
  have hm12:(m1.length:Int)<=(m2.length:Int):=by omega
  refine⟨(H8,n8),Wp.seq (Wp.rgn (K:=0) (fun m _=>reg0 _ _ _ m) (Wp.seq (Wp.seq ?_)))⟩;generalize l.map Arb.Op.enc=scr at *;generalize d.map Dv.enc=dr at *;generalize c.map Cr.enc=cr at *;generalize hHA:Arx.set h 4 (Ob.cells (hdC x))=HA at *;refine Wp.rgn (K:=max KA KF) (s':=⟨[(1,.iv (.sl 24 scr)),(2,.iv (.sl 3 dr)),(3,.iv (.sl 4 cr)),(4,.nI cut),(5,.ref 4 0 0 0),(23,.bI false)],H0,n+16⟩) (fun m hm=>by
   have a1:=hA' m (by omega);have a2:=hF m (by omega);simp[a1,a2,hk4,hd_take,hd_len]) ?_
  refine Wp.cond (t:=false) rfl ?_;simp only[Bool.false_eq_true,if_false];refine Wp.skip ?_;simp only[Ex.then];refine Wp.seq (Wp.drawn rfl ?_);have hz1:¬IntKind.u64.wrap (IntKind.i64.wrap ((d.length:Int)+1))=0:=by
   rw[IntWalk.i64_in _ (by omega),IntWalk.u64_in _ (by omega)];omega
  have hz2:¬IntKind.u64.wrap (IntKind.i64.wrap ((c.length:Int)+1))=0:=by
   rw[IntWalk.i64_in _ (by omega),IntWalk.u64_in _ (by omega)];omega
  refine Wp.rgn (K:=0) (s':=⟨[(1,.iv (.sl 24 scr)),(2,.iv (.sl 3 dr)),(3,.iv (.sl 4 cr)),(5,.ref 4 0 0 0),(11,.nI i),(12,.nI k)],H0,n+34⟩) (fun m _=>by
   simp[hdl,hcl,hz1,hz2,hic,hkc]) ?_
  refine Wp.seq ?_;refine Wp.rgn (K:=0) (s':=⟨[(1,.iv (.sl 24 scr)),(2,.iv (.sl 3 dr)),(3,.iv (.sl 4 cr)),(5,.ref 4 0 0 0),(11,.nI i),(12,.nI k),(13,.iv (.fn 205 []))],H0,n+35⟩) (fun m _=>by
   simp) ?_
  refine Wp.seq ?_;have hir:i<=dr.length:=by omega
  have h78:∀q ∈ ((Arx.len false y7).foot H7).1,get H7 q=get H8 q:=by
   rcases q7' with⟨rfl, -⟩|⟨id,v,j1, -,rfl,j4⟩
   ·intro q hq;simp[Arx.len,M.foot]at hq
   ·intro q hq;have:q=id:=by
     unfold Arx.len at hq;simp[M.look,M.foot,M.bind,j4,M.ok]at hq;exact hq
    subst this;exact(E8.old _ j1).symm
  have hkr:k<=cr.length:=by omega
  refine Wp.rgn (K:=max (max (max K1 K2) (max K3 K4)) (max (max (max K5 K6) (max K7 K8)) (max KS KP))) (s':=⟨[(10,.bI true)],H8,n8⟩) (fun m hm=>by
   have d1:=c1 m (by omega);have d2:=c2 m (by omega);have d3:=c3 m (by omega);have d4:=c4 m (by omega);have d5:=c5 m (by omega);have d6:=c6 m (by omega);have d7:=c7 m (by omega);have d8:=c8 m (by omega);have d9:=sS m (by omega);have d10:=sP m (by omega);exact fewer_rgn (hd:=hdC x) (hd_len x) (hd_take x) hir hkr hk0 g1 g2 g3 g4' g5 g6 g7 g8 d1 d2 d3 d4 d5 d6 d7 d8 d9 d10 w7 w8 hmf h78) ?_
  exact Wp.ret ⟨rfl,rfl⟩
end
end Arx

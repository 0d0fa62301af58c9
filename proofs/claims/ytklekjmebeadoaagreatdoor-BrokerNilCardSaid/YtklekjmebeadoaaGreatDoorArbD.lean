/-
  A part of the proof: two abstract machines for the code, and what the program does on them. No condition.
-/
import Derived.Test.YtklekjmebeadoaaGreatDoorArbC
set_option linter.all false
namespace au
open Go al
def GE (h h':Fr):Prop:=∀n,get h n=get h' n
theorem GE.refl (h:Fr):GE h h:=λ_=>rfl
theorem GE.symm {h h':Fr} (e:GE h h'):GE h' h:=λn=>(e n).symm
theorem GE.trans {a b c:Fr} (e:GE a b) (f:GE b c):GE a c:=λn=>(e n).trans (f n)
theorem GE.set {h h':Fr} (e:GE h h') (n:Nat) (x:AV):GE (set h n x) (set h' n x):=λm=>by simp[aP,e m]
def b8:aK->List Nat
 |.t n=>[n]
 |.c _=>[]
def jb:Option aK->List Nat
 |some x=>b8 x
 |none=>[]
def fH:List aK->List Nat
 |[]=>[]
 |x::r=>b8 x++fH r
def iz {α:Type} (f:α->aK):List α->List Nat
 |[]=>[]
 |x::r=>b8 (f x)++iz f r
def gy:js->List Nat
 |.l9 x | .box _ x | .cU _ x | .fC _ _ _ x | .un _ x | .qT _ x | .tJ x | .sZ x | .lh _ x | .ko _ _ x | .len _ x | .ext x _ | .nE x | .load _ _ x | .mN x | .rM _ _ x | .fJ _ x | .p8 x | .tG x | .p9 x | .qa x=>b8 x
 |.alloc _ _ | .s7 | .dead | .Bq _=>[]
 |.om x=>b8 x
 |.gB _ _ _ _ x y | .gD _ x y=>b8 x++b8 y
 |.gC _ x y z | .mO _ x y z=>b8 x++(b8 y++b8 z)
 |.pick c a b=>b8 c++(b8 a++b8 b)
 |.build _ ps=>iz (λp=>p.2.2) ps
 |.nZ _ _ _ ps=>iz (λp=>p.2) ps
 |.store _ x y | .eD _ _ x y | .gL _ x y | .eP _ _ _ x y | .fK x y | .bin _ _ x y | .pU _ _ x y | .app _ _ x y | .lN _ _ x y | .rL x y | .lP _ x y | .lQ x y=>b8 x++b8 y
 |.gM _ x lo hi | .o6 _ x lo hi | .fL x lo hi=>b8 x++(jb lo++jb hi)
 |.qb _ x lo hi mx=>b8 x++(b8 lo++(b8 hi++b8 mx))
 |.mn x ys | .mx x ys=>b8 x++fH ys
 |.oj _ fs cs=>fH fs++fH cs
 |.call _ f U | .k6 f U=>b8 f++fH U
def ey (o:ax):List Nat:=gy o.op++(match o.gd with | some (t,_)=>[t] | none=>[])
theorem dx {ρ fQ:aK->AV}:∀{l:List aK},(∀x:aK,(∀n ∈ b8 x,n ∈ fH l)->ρ x=fQ x)->l.map ρ=l.map fQ
 |[],_=>rfl
 |x::r,h=>by
  simp only[List.map_cons,h x λn hn=>by simp[fH,hn]];rw[dx (l:=r) λy hy=>h y λn hn=>by simp[fH,hy n hn]]
theorem gX {α β:Type} {f:α->aK} {ρ fQ:aK->AV} {F:α->AV->M β}:∀{l:List α},(∀x:aK,(∀n ∈ b8 x,n ∈ iz f l)->ρ x=fQ x)->
  M.aN (λp=>F p (ρ (f p))) l=M.aN (λp=>F p (fQ (f p))) l
 |[],_=>rfl
 |x::r,h=>by
  simp only[M.aN];rw[h (f x) λn hn=>by simp[iz,hn],gX (l:=r) λy hy=>h y λn hn=>by simp[iz,hy n hn]]
theorem nP {call:bR} {slot:Nat} {ρ fQ:aK->AV} {op:js} (h:∀x:aK,(∀n ∈ b8 x,n ∈ gy op)->ρ x=fQ x):bn call slot ρ op=bn call slot fQ op:=by
 cases op<;>simp only[gy]at h<;>simp only[bn]
 case pick c a b=>rw[h c λn hn=>by simp[hn],h a λn hn=>by simp[hn],h b λn hn=>by simp[hn]]
 case build z ps=>rw[gX (F:=λp v=>(bW v).bind λl=>(M.ok (l.length==p.2.1&&Nat.ble (p.1+p.2.1) z.length)).bind λ_=>.ret (p.1,l)) h]
 case nZ e z n ps=>rw[gX (F:=λp v=>(bW v).bind λxs=>(M.ok (xs.length==e&&Nat.blt p.1 n)).bind λ_=>M.ret (p.1,xs)) h]
 case gM e x lo hi=>
  rw[h x λn hn=>by simp[hn]];have h1:lo.map ρ=lo.map fQ:=by cases lo with | none=>rfl | some l=>simp[h l λn hn=>by simp[jb,hn]]
  have h2:hi.map ρ=hi.map fQ:=by cases hi with | none=>rfl | some l=>simp[h l λn hn=>by simp[jb,hn]]
  rw[h1,h2]
 case o6 n' x lo hi=>
  rw[h x λn hn=>by simp[hn]];have h1:lo.map ρ=lo.map fQ:=by cases lo with | none=>rfl | some l=>simp[h l λn hn=>by simp[jb,hn]]
  have h2:hi.map ρ=hi.map fQ:=by cases hi with | none=>rfl | some l=>simp[h l λn hn=>by simp[jb,hn]]
  rw[h1,h2]
 case fL x lo hi=>
  rw[h x λn hn=>by simp[hn]];have h1:lo.map ρ=lo.map fQ:=by cases lo with | none=>rfl | some l=>simp[h l λn hn=>by simp[jb,hn]]
  have h2:hi.map ρ=hi.map fQ:=by cases hi with | none=>rfl | some l=>simp[h l λn hn=>by simp[jb,hn]]
  rw[h1,h2]
 case mn x ys=>rw[h x λn hn=>by simp[hn],dx (l:=ys) λy hy=>h y λn hn=>by simp[hy n hn]]
 case mx x ys=>rw[h x λn hn=>by simp[hn],dx (l:=ys) λy hy=>h y λn hn=>by simp[hy n hn]]
 case oj f fs ys=>rw[dx (l:=fs) λy hy=>h y λn hn=>by simp[hy n hn],dx (l:=ys) λy hy=>h y λn hn=>by simp[hy n hn]]
 case call mode f ys=>rw[h f λn hn=>by simp[hn],dx (l:=ys) λy hy=>h y λn hn=>by simp[hy n hn]]
 case mO qs x y z=>rw[h x λn hn=>by simp[hn],h y λn hn=>by simp[hn],h z λn hn=>by simp[hn]]
 case gC qs x y z=>rw[h x λn hn=>by simp[hn],h y λn hn=>by simp[hn],h z λn hn=>by simp[hn]]
 case gB ok agg qs z x y=>rw[h x λn hn=>by simp[hn],h y λn hn=>by simp[hn]]
 case gD qs x y=>rw[h x λn hn=>by simp[hn],h y λn hn=>by simp[hn]]
 case store sz x y=>rw[h x λn hn=>by simp[hn],h y λn hn=>by simp[hn]]
 case eD len e x y=>rw[h x λn hn=>by simp[hn],h y λn hn=>by simp[hn]]
 case gL e x y=>rw[h x λn hn=>by simp[hn],h y λn hn=>by simp[hn]]
 case eP a len e x y=>rw[h x λn hn=>by simp[hn],h y λn hn=>by simp[hn]]
 case fK x y=>rw[h x λn hn=>by simp[hn],h y λn hn=>by simp[hn]]
 case bin op q x y=>rw[h x λn hn=>by simp[hn],h y λn hn=>by simp[hn]]
 case pU neg qs x y=>rw[h x λn hn=>by simp[hn],h y λn hn=>by simp[hn]]
 case lN e z x y=>rw[h x λn hn=>by simp[hn],h y λn hn=>by simp[hn]]
 case lQ x y=>rw[h x λn hn=>by simp[hn],h y λn hn=>by simp[hn]]
 case rL x y=>rw[h x λn hn=>by simp[hn],h y λn hn=>by simp[hn]]
 case lP kk x y=>rw[h x λn hn=>by simp[hn],h y λn hn=>by simp[hn]]
 case qb e x lo hi mx=>rw[h x λn hn=>by simp[hn],h lo λn hn=>by simp[hn],h hi λn hn=>by simp[hn],h mx λn hn=>by simp[hn]]
 case app e byte x y=>rw[h x λn hn=>by simp[hn],h y λn hn=>by simp[hn]]
 all_goals first | rfl | (rename_i x;rw[h x λn hn=>hn]) | (rename_i x _;rw[h x λn hn=>hn])
def SE (s s':St):Prop:=GE s.fr s'.fr/\s.hp=s'.hp/\s.nx=s'.nx
theorem SE.refl (s:St):SE s s:=⟨.refl _,rfl,rfl⟩
theorem SE.symm {s s':St} (h:SE s s'):SE s' s:=⟨h.1.symm,h.2.1.symm,h.2.2.symm⟩
theorem SE.trans {a b c:St} (h:SE a b) (h':SE b c):SE a c:=⟨h.1.trans h'.1,h.2.1.trans h'.2.1,h.2.2.trans h'.2.2⟩
theorem GE.bj {fr oO:Fr} (e:GE fr oO) (d:Option Nat) (v:AV):GE (bj fr d v) (bj oO d v):=by
 cases d with
 |none=>exact e
 |some d=>exact e.set d v
theorem iA {fr:Fr} {d:Option Nat} {v:AV} {n:Nat} (h:d≠some n):get (bj fr d v) n=get fr n:=by
 cases d with
 |none=>rfl
 |some d=>simp[bj,aP,show d≠n from λe=>h (by rw[e])]
theorem oP {fr:Fr} {d d':Option Nat} {v v':AV} (h:d≠d'\/d=none):GE (bj (bj fr d v) d' v') (bj (bj fr d' v') d v):=by
 intro n;cases d with
 |none=>rfl
 |some d=>
  cases d' with
  |none=>rfl
  |some d'=>
   have bG:d≠d':=λe=>by rcases h with h | h;exact h (by rw[e]);cases h
   simp only[bj,aP];by_cases h1:d'=n
   ·have:d≠n:=λe=>bG (e.trans h1.symm)
    simp[h1,this]
   ·simp[h1]
theorem sH {fr oO:Fr} {l:List Nat} (h:∀n ∈ l,get fr n=get oO n) (x:aK) (hx:∀n ∈ b8 x,n ∈ l):ev fr x=ev oO x:=by
 cases x with
 |c v=>rfl
 |t n=>simp only[ev];rw[h n (hx n (by simp[b8]))]
section
variable {c1:bR} {cx:cA}
inductive wm where
 |m (ps:List (Nat×Ob))
 |c (h0 h1:Hp) (n0 n1:Nat)
def wm.ok:wm->br->St->St->Prop
 |.m ps,.m f,s,s1=>s1.hp=bu ps s.hp/\s1.nx=s.nx/\∀p ∈ ps,p.1 ∈ f.2
 |.c h0 h1 n0 n1,.c k0 k1,s,s1=>s.hp=h0/\s1.hp=h1/\s.nx=n0/\s1.nx=n1/\k0=h0/\k1=h1
 |_,_,_,_=>False
theorem gY {slot:Nat} {o:ax} {s s' s1:St} (e:step c1 cx slot o s=some s1) (hf:∀n ∈ ey o,get s.fr n=get s'.fr n)
  (hh:match bz c1 slot o s s1.hp with | .m f=>∀n ∈ f.1,get s.hp n=get s'.hp n | .c _ _=>s.hp=s'.hp/\s.nx=s'.nx) :
  ∃ez v d,step c1 cx slot o s'=some ez/\bz c1 slot o s' ez.hp=bz c1 slot o s s1.hp/\s1.fr=bj s.fr o.dst v/\ez.fr=bj s'.fr o.dst v/\wm.ok d (bz c1 slot o s s1.hp) s s1/\wm.ok d (bz c1 slot o s s1.hp) s' ez:=by
 have hw:bK s'.fr o.gd=bK s.fr o.gd:=by
  cases hg:o.gd with
  |none=>rfl
  |some g=>
   simp only[bK];rw[hf g.1 (by simp[ey,hg])]
 have uR:∀x:aK,(∀n ∈ b8 x,n ∈ gy o.op)->ev s'.fr x=ev s.fr x:=λx hx=>(sH hf x λn hn=>by simp[ey,hx n hn]).symm
 have ho:bn c1 slot (ev s'.fr) o.op=bn c1 slot (ev s.fr) o.op:=nP uR;unfold step at e ⊢;unfold bz at hh ⊢;rw[hw,ho];cases yO:bK s.fr o.gd with
 |none=>rw[yO]at e;cases e
 |some b=>
  rw[yO]at e hh;cases b with
  |false=>
   simp only[Option.some.injEq]at e;subst e;exact⟨_,.aR [],.m [],rfl,rfl,rfl,rfl,⟨rfl,rfl,λp hp=>by simp at hp⟩,⟨rfl,rfl,λp hp=>by simp at hp⟩⟩
  |true=>
   simp only[]at e hh ⊢;cases hs:dD o.op with
   |some fa=>
    rw[hs]at e hh;simp only[]at e hh ⊢;obtain⟨f,U⟩:=fa;obtain⟨q1,q2⟩:=hh;have mv:o.op = .k6 f U:=by
     generalize o.op=op at hs;cases op<;>simp[dD]at hs;obtain⟨rfl,rfl⟩:=hs;rfl
    have yN:ev s'.fr f=ev s.fr f:=uR f λn hn=>by rw[mv];simp[gy,hn]
    have Ki:U.map (ev s'.fr)=U.map (ev s.fr):=dx (l:=U) λx hx=>uR x λn hn=>by rw[mv];simp[gy,hx n hn]
    rw[yN,Ki,<-q1,<-q2];cases cR:callee (ev s.fr f)with
    |none=>rw[cR]at e;cases e
    |some q=>
     rw[cR]at e;simp only[]at e ⊢;cases hr:cx q.1 (q.2.1++(U.map (ev s.fr)++q.2.2)) s.hp s.nx with
     |none=>rw[hr]at e;cases e
     |some p=>
      obtain⟨v,h1,n1⟩:=p;rw[hr]at e;simp only[Option.some.injEq]at e;subst e;exact⟨_,v,.c s.hp h1 s.nx n1,rfl,rfl,rfl,rfl,⟨rfl,rfl,rfl,rfl,rfl,rfl⟩,⟨q1.symm,rfl,q2.symm,rfl,rfl,rfl⟩⟩
   |none=>
    rw[hs]at e hh;simp only[]at e hh ⊢;cases hr:(bn c1 slot (ev s.fr) o.op).run s.hp with
    |none=>rw[hr]at e;cases e
    |some p=>
     obtain⟨v,h1⟩:=p;rw[hr]at e;simp only[Option.some.injEq]at e;subst e;obtain⟨ps,e1,e2,e3,e4⟩:=M.frame _ _ s'.hp _ _ hr hh;rw[e2];exact⟨_,v,.m ps,rfl,by rw[e3],rfl,rfl,⟨e1,rfl,e4⟩,⟨rfl,rfl,e4⟩⟩
def fR (x y:ax):Bool:=
 (match x.dst with | some d=>!(ey y).contains d&&y.dst != some d | none=>true)&&(match y.dst with | some d=>!(ey x).contains d | none=>true)
theorem mL {x y:ax} (h:fR x y=true):(∀d,x.dst=some d->d ∉ ey y)/\(x.dst≠y.dst\/x.dst=none)/\∀d,y.dst=some d->d ∉ ey x:=by
 unfold fR at h;simp only[Bool.and_eq_true]at h;obtain⟨h1,h2⟩:=h;refine⟨λd hd=>?_,?_,λd hd=>?_⟩
 ·rw[hd]at h1;simp at h1;exact h1.1
 ·cases hx:x.dst with
  |none=>exact .inr rfl
  |some d=>
   rw[hx]at h1;simp at h1;exact .inl λe=>h1.2 e.symm
 ·rw[hd]at h2;simpa using h2
theorem jD {a b:List Nat} (h:meets a b=false):∀n ∈ a,n ∉ b:=by
 intro n hn hb;have:meets a b=true:=by simp only[meets,List.any_eq_true,List.contains_iff_mem];exact⟨n,hn,hb⟩
 rw[h]at this;cases this
theorem zh {ps:List (Nat×Ob)} {l:List Nat} (h:l=[]) (q:∀p ∈ ps,p.1 ∈ l):ps=[]:=List.eq_nil_iff_forall_not_mem.2 λp hp=>by have:=q p hp;simp[h]at this
theorem vj {h0 h1:Hp} {y:List Nat×List Nat} (h:di (.c h0 h1) (.m y)=false):(y.2=[]/\∀n ∈ y.1,get h0 n=get h1 n)\/∀n ∈ y.1++y.2,get h1 n=none:=by
 simp only[di,Bool.not_eq_false',Bool.or_eq_true,Bool.and_eq_true,List.isEmpty_iff,List.all_eq_true,Option.isNone_iff_eq_none]at h;rcases h with h | h
 ·exact .inl ⟨h.1,λn hn=>uW (h.2 n hn)⟩
 ·exact .inr h
theorem Ax {h0 h1:Hp} {y:List Nat×List Nat} (h:di (.m y) (.c h0 h1)=false):y.2=[]/\∀n ∈ y.1,get h0 n=get h1 n:=by
 simp only[di,Bool.not_eq_false',Bool.and_eq_true,List.isEmpty_iff,List.all_eq_true]at h;exact⟨h.1,λn hn=>uW (h.2 n hn)⟩
theorem qI {n:Nat}:∀(qs:List (Nat×Ob)) {a b:Hp},get a n=get b n->get (bu qs a) n=get (bu qs b) n
 |[],a,b,h=>h
 |q::qs,a,b,h=>qI qs (by simp only[aP,h])
theorem wo (qs ps:List (Nat×Ob)) (h:Hp):bu (qs++ps) h=bu ps (bu qs h):=List.foldl_append
def kM (c1:bR) (cx:cA) (slot:Nat) (o:ax) (f:br) (s s1:St):Prop:=
 match f with
 |.m x=>step c1 cx slot o s=some s1/\bz c1 slot o s s1.hp = .m x
 |.c h0 h1=>∃qs t,gv qs h1/\t.hp=h1/\s.hp=bu qs h0/\step c1 cx slot o { s with hp:=h0 }=some t/\bz c1 slot o { s with hp:=h0 } h1 = .c h0 h1/\s1=t.plus qs
theorem kM.of {slot:Nat} {o:ax} {s s1:St} (e:step c1 cx slot o s=some s1):kM c1 cx slot o (bz c1 slot o s s1.hp) s s1:=by
 cases hf:bz c1 slot o s s1.hp with
 |m x=>exact⟨e,hf⟩
 |c h0 h1=>
  have hh:h0=s.hp/\h1=s1.hp:=by
   unfold bz at hf;split at hf
   ·split at hf
    ·cases hf;exact⟨rfl,rfl⟩
    ·cases hf
   ·cases hf
  obtain⟨rfl,rfl⟩:=hh;exact⟨[],s1,λp hp=>by simp at hp,rfl,rfl,e,hf,rfl⟩
theorem kM.step (hm:eM cx) {slot:Nat} {o:ax} {f:br} {s s1:St} (h:kM c1 cx slot o f s s1):step c1 cx slot o s=some s1:=by
 cases f with
 |m x=>exact h.1
 |c h0 h1=>
  obtain⟨qs,t,h1,h2,h3,h4,h5,rfl⟩:=h;have:=(mA hm h4).2.2 qs (by rw[h2];exact h1);rw[<-this.1];simp only[St.plus,<-h3]
def Alike (rT:List (Nat×Ob)) (s s1 s' ez:St):br->Prop
 |.m x=>∃ps,s1.hp=bu ps s.hp/\ez.hp=bu ps s'.hp/\s1.nx=s.nx/\ez.nx=s'.nx/\∀p ∈ ps,p.1 ∈ x.2
 |.c _ h1=>s1.nx=ez.nx/\ez.hp=bu rT h1
theorem kM.jc {slot:Nat} {o:ax} {f:br} {s s' s1:St} (rT:List (Nat×Ob)) (h:kM c1 cx slot o f s s1) (hf:∀n ∈ ey o,get s.fr n=get s'.fr n)
  (hh:match f with | .m x=>∀n ∈ x.1,get s.hp n=get s'.hp n | .c h0 h1=>s.nx=s'.nx/\gv rT h1/\s'.hp=bu rT h0) :
  ∃ez v,kM c1 cx slot o f s' ez/\s1.fr=bj s.fr o.dst v/\ez.fr=bj s'.fr o.dst v/\
   Alike rT s s1 s' ez f:=by
 cases f with
 |m x=>
  obtain⟨e,hx⟩:=h;obtain⟨ez,v,d,q1,q2,q3,q4,q5,q6⟩:=gY e hf (by rw[hx];exact hh);rw[hx]at q5 q6 q2;cases d<;>simp only[wm.ok]at q5 q6;exact⟨ez,v,⟨q1,q2⟩,q3,q4,_,q5.1,q6.1,q5.2.1,q6.2.1,q5.2.2⟩
 |c h0 h1=>
  obtain⟨qs,t,a1,a2,a3,a4,a5,rfl⟩:=h;obtain⟨hn,b1,b2⟩:=hh;obtain⟨t',v,d,q1,q2,q3,q4,q5,q6⟩:=gY (s':={ s' with hp:=h0 }) a4 hf (by rw[a2,a5];exact⟨rfl,hn⟩);rw[a2,a5]at q5 q6 q2;cases d<;>simp only[wm.ok]at q5 q6;have dC:t'.hp=h1:=q6.2.1.trans q6.2.2.2.2.2.symm;refine⟨t'.plus rT,v,⟨rT,t',b1,dC,b2,q1,by rw[<-dC]at q2 ⊢;exact q2,rfl⟩,q3,q4,?_,?_⟩
  ·show t.nx=t'.nx
   rw[q5.2.2.2.1,q6.2.2.2.1]
  ·show bu rT t'.hp=bu rT h1
   rw[dC]
theorem kM.ext {slot:Nat} {o:ax} {f:br} {s s' s1:St} (h:kM c1 cx slot o f s s1) (e:SE s s'):∃ez,kM c1 cx slot o f s' ez/\SE s1 ez:=by
 obtain⟨h1,h2,h3⟩:=e;cases f with
 |m x=>
  obtain⟨ez,v,q1,q2,q3,ps,q4,q5,q6,q7, -⟩:=h.jc [] (λn _=>h1 n) (λn _=>by rw[h2]);exact⟨ez,q1,by rw[q2,q3];exact h1.bj _ _,by rw[q4,q5,h2],by rw[q6,q7,h3]⟩
 |c h0 kG=>
  have h':=h;obtain⟨qs,t,a1,a2,a3,a4,a5,a6⟩:=h';obtain⟨ez,v,q1,q2,q3,q4,q5⟩:=h.jc qs (s':=s') (λn _=>h1 n) ⟨h3,a1,by rw[<-h2];exact a3⟩;refine⟨ez,q1,by rw[q2,q3];exact h1.bj _ _,?_,q4⟩;rw[q5,a6]
  show bu qs t.hp=_
  rw[a2]
theorem swap (hm:eM cx) {sx sy:Nat} {x y:ax} {fx fy:br} {s s1 s2:St} (e1:kM c1 cx sx x fx s s1) (e2:kM c1 cx sy y fy s1 s2) (hT:fR x y=true) (hc:di fx fy=false) :
  ∃t1 t2,kM c1 cx sy y fy s t1/\kM c1 cx sx x fx t1 t2/\SE s2 t2:=by
 obtain⟨a1,a2,a3⟩:=mL hT;have fin:∀{v u v':AV} {t1 t2:St},s1.fr=bj s.fr x.dst v->s2.fr=bj s1.fr y.dst u->t1.fr=bj s.fr y.dst u->t2.fr=bj t1.fr x.dst v'->s1.fr=bj s.fr x.dst v'->GE s2.fr t2.fr:=by
  intro v u v' t1 t2 p1 p2 p3 p4 p5;rw[p2,p5,p4,p3];exact oP a2
 cases fx with
 |m x'=>
  cases fy with
  |m y'=>
   obtain⟨_,v,_,f1,_,ps,n1,_,n2,_,n3⟩:=e1.jc (s':=s) [] (λn _=>rfl) (λn _=>rfl);simp only[di,Bool.or_eq_false_iff]at hc;have Bw:=jD hc.1;have Dy:=jD hc.2;obtain⟨t1,u,q1,f2,f3,qs,m1,m2,m3,m4,m5⟩:=e2.jc (s':=s) [] (λn hn=>by rw[f1];exact iA λh=>a1 n h hn) (λn hn=>by
    rw[n1];exact gA (λp hp h=>Bw _ (n3 p hp) (by rw[h];simp[hn])) _)
   obtain⟨t2,v',r1,f4,f5,Kj,k1,k2,k3,k4,k5⟩:=e1.jc (s':=t1) [] (λn hn=>by rw[f3];exact(iA λh=>a3 n h hn).symm) (λn hn=>by
    rw[m2];exact(gA (λp hp h=>Dy _ (m5 p hp) (by rw[h];simp[hn])) _).symm)
   refine⟨t1,t2,q1,r1,fin f1 f2 f3 f5 f4,?_,by rw[m3,n2,k4,m4]⟩;rw[k2,m2,m1,k1];exact vf (λp hp q hq h=>Bw _ (k5 p hp) (by rw[h];simp[m5 q hq])) _
  |c h0 h1=>
   obtain⟨_,v,_,f1,_,ps,n1,_,n2,_,n3⟩:=e1.jc (s':=s) [] (λn _=>rfl) (λn _=>rfl);obtain⟨d1,d2⟩:=Ax hc;obtain rfl:=zh d1 n3;have FX:s1.hp=s.hp:=n1;have Dc:=e2;obtain⟨qs,t,b1,b2,b3,b4,b5,rfl⟩:=Dc;obtain⟨t1,u,q1,f2,f3,m1,m2⟩:=e2.jc (s':=s) qs (λn hn=>by rw[f1];exact iA λh=>a1 n h hn) ⟨n2,b1,by rw[<-FX];exact b3⟩;obtain⟨t2,v',r1,f4,f5,Kj,k1,k2,k3,k4,k5⟩:=e1.jc (s':=t1) [] (λn hn=>by rw[f3];exact(iA λh=>a3 n h hn).symm) (λn hn=>by
    rw[m2,<-FX,b3];exact qI qs (d2 n hn))
   obtain rfl:=zh d1 k5;refine⟨t1,t2,q1,r1,fin f1 f2 f3 f5 f4,?_,by rw[k4,m1]⟩;have Kk:t2.hp=t1.hp:=k2;rw[Kk,m2]
   show bu qs t.hp=_
   rw[b2]
 |c h0 h1=>
  cases fy with
  |c k0 k1=>cases hc
  |m y'=>
   have Dz:=e1;obtain⟨qs,t,b1,b2,b3,b4,b5,b6⟩:=Dz;have oe:s1.hp=bu qs h1:=by rw[b6];show bu qs t.hp=_;rw[b2]
   have Fy:∀n,get h1 n=none->get h0 n=none:=by
    intro n hn;cases hg:get h0 n with
    |none=>rfl
    |some o=>
     have:=(mA hm b4).1 n (by show On h0 n;unfold On;rw[hg];rfl);rw[b2]at this;unfold On at this;rw[hn]at this;cases this
   obtain⟨_,v,_,f1,_,n1,_⟩:=e1.jc (s':=s) qs (λn _=>rfl) ⟨rfl,b1,b3⟩;have DA:∀n ∈ y'.1,get s1.hp n=get s.hp n:=by
    intro n hn;rw[oe,b3];refine qI qs ?_;rcases vj hc with⟨-,h⟩|h
    ·exact(h n hn).symm
    ·have:=h n (by simp[hn]);rw[this,Fy n this]
   obtain⟨t1,u,q1,f2,f3,ps,m1,m2,m3,m4,m5⟩:=e2.jc (s':=s) [] (λn hn=>by rw[f1];exact iA λh=>a1 n h hn) DA;have tT:gv ps h1:=by
    intro p hp;rcases vj hc with⟨h, -⟩|h
    ·have:=m5 p hp;simp[h]at this
    ·exact h _ (by simp[m5 p hp])
   have tF:gv (qs++ps) h1:=λp hp=>(List.mem_append.1 hp).elim (b1 p) (tT p)
   obtain⟨t2,v',r1,f4,f5,k1,k2⟩:=e1.jc (s':=t1) (qs++ps) (λn hn=>by rw[f3];exact(iA λh=>a3 n h hn).symm) ⟨m4.symm,tF,by rw[m2,b3,wo]⟩;refine⟨t1,t2,q1,r1,fin f1 f2 f3 f5 f4,?_,by rw[m3,k1]⟩;rw[k2,m1,oe,wo]
inductive eA (c1:bR) (cx:cA) (s0:Nat):List (Nat×ax×br)->St->St->Prop
 |nil {s s':St} (h:SE s s'):eA c1 cx s0 [] s s'
 |cons {i:Nat} {o:ax} {f:br} {r:List (Nat×ax×br)} {s s1 s':St} (e:kM c1 cx (s0+i) o f s s1)
   (hr:eA c1 cx s0 r s1 s'):eA c1 cx s0 ((i,o,f)::r) s s'
theorem eA.ext {s0:Nat} {l:List (Nat×ax×br)} {s t s':St} (h:eA c1 cx s0 l s s') (e:SE s t):eA c1 cx s0 l t s':=by
 induction h generalizing t with
 |nil h=>exact .nil (e.symm.trans h)
 |cons e1 _ ih=>
  obtain⟨t1,e2,e4⟩:=e1.ext e;exact .cons e2 (ih e4)
def rD (x y:Nat×ax×br):Prop:=fR x.2.1 y.2.1=true/\di x.2.2 y.2.2=false
theorem eA.front (hm:eM cx) {s0:Nat} {x:Nat×ax×br} {l2:List (Nat×ax×br)} {s':St}:∀(l1:List (Nat×ax×br)) (s:St),eA c1 cx s0 (l1++x::l2) s s'->(∀y ∈ l1,rD y x)->
  ∃s1,kM c1 cx (s0+x.1) x.2.1 x.2.2 s s1/\eA c1 cx s0 (l1++l2) s1 s'
 |[],s,h,_=>by
  cases h with
  |cons e hr=>exact⟨_,e,hr⟩
 |y::l1,s,h,ha=>by
  cases h with
  |cons e hr=>
   obtain⟨t1,e2,r2⟩:=eA.front hm l1 _ hr λz hz=>ha z (by simp[hz])
   obtain⟨h1,h2⟩:=ha _ (List.mem_cons_self ..);obtain⟨u1,u2,e3,e5,e7⟩:=swap hm e e2 h1 h2;exact⟨u1,e3,.cons e5 (r2.ext e7)⟩
end
def mQ (c c':bR):Prop:=∀f U hp p,c f U hp=some p->c' f U hp=some p
def pf (c c':cA):Prop:=∀f U hp nx p,c f U hp nx=some p->c' f U hp nx=some p
def jE {α:Type} (m m':M α):Prop:=∀h p,m.run h=some p->m'.run h=some p/\m'.bA h=m.bA h
theorem jE.refl {α:Type} (m:M α):jE m m:=λ_ _ e=>⟨e,rfl⟩
theorem M.rU {α β:Type} (m:M α) (f:α->M β) (h:Hp):(m.bind f).bA h=match m.run h with
  |some (a,h1)=>((m.bA h).1++((f a).bA h1).1,((f a).bA h1).2++(m.bA h).2)
  |none=>m.bA h:=by
 induction m generalizing h with
 |ret a=>simp[M.bind,M.run,M.bA]
 |fail=>simp[M.bind,M.run,M.bA]
 |get id k ih=>
  simp only[M.bind,M.run,M.bA,ih];cases(k (au.get h id)).run h<;>simp
 |put id o k ih=>
  simp only[M.bind,M.run,M.bA,ih];cases k.run (au.set h id o)<;>simp
theorem jE.bind {α β:Type} {m m':M α} {f f':α->M β} (h:jE m m') (hf:∀a,jE (f a) (f' a)):jE (m.bind f) (m'.bind f'):=by
 intro g p e;obtain⟨a,h1,e1,e2⟩:=ag e;obtain⟨q1,q2⟩:=h _ _ e1;obtain⟨q3,q4⟩:=hf a _ _ e2;refine⟨by rw[bc,q1];exact q3,?_⟩;rw[M.rU,M.rU,q1,e1];simp only[q2,q4]
theorem jE.lift {α:Type} {x y:Option α} (h:∀a,x=some a->y=some a):jE (M.lift x) (M.lift y):=by
 cases x with
 |none=>intro g p e;exact(ae e).elim
 |some a=>rw[h a rfl];exact .refl _
theorem sI {c c':bR} (h:mQ c c') {slot:Nat} {ρ:aK->AV} (op:js):jE (bn c slot ρ op) (bn c' slot ρ op):=by
 cases op<;>first | exact .refl _ | skip
 rename_i mode f args;simp only[bn]
 match mode with
 |0=>
  refine .bind (.refl _) λq=>.bind (.refl _) λU=>.bind (.lift λa ha=>?_) λr=>.refl _
  simp only[Option.bind_eq_some_iff]at ha ⊢;obtain⟨p,h1,h2⟩:=ha;exact⟨p,h _ _ _ _ h1,h2⟩
 |_+1=>
  refine .bind (.refl _) λq=>.bind (.refl _) λU=>.bind (.lift λa ha=>?_) λr=>.refl _
  simp only[Option.bind_eq_some_iff]at ha ⊢;obtain⟨p,h1,h2⟩:=ha;exact⟨p,h _ _ _ _ h1,h2⟩
section
variable {c c':bR} {x x':cA}
theorem pM (h:mQ c c') (hx:pf x x') {slot:Nat} {o:ax} {s s1:St} (e:step c x slot o s=some s1):step c' x' slot o s=some s1/\bz c' slot o s s1.hp=bz c slot o s s1.hp:=by
 unfold step at e ⊢;unfold bz;cases hw:bK s.fr o.gd with
 |none=>rw[hw]at e;cases e
 |some b=>
  rw[hw]at e;cases b with
  |false=>exact⟨e,rfl⟩
  |true=>
   simp only[]at e ⊢;cases hs:dD o.op with
   |some fa=>
    rw[hs]at e;simp only[]at e ⊢;cases cR:callee (ev s.fr fa.1)with
    |none=>rw[cR]at e;cases e
    |some q=>
     rw[cR]at e;simp only[]at e ⊢;cases hr:x q.1 (q.2.1++(fa.2.map (ev s.fr)++q.2.2)) s.hp s.nx with
     |none=>rw[hr]at e;cases e
     |some p=>
      rw[hr]at e;rw[hx _ _ _ _ _ hr];exact⟨e,trivial⟩
   |none=>
    rw[hs]at e;simp only[]at e ⊢;cases hr:(bn c slot (ev s.fr) o.op).run s.hp with
    |none=>rw[hr]at e;cases e
    |some p=>
     obtain⟨q1,q2⟩:=sI h o.op _ _ hr;rw[hr]at e;rw[q1,q2];exact⟨e,rfl⟩
theorem oQ (h:mQ c c') (hx:pf x x'):∀(ops:List ax) (slot:Nat) (s s1:St),aW c x ops slot s=some s1->aW c' x' ops slot s=some s1
 |[],slot,s,s1,e=>e
 |o::r,slot,s,s1,e=>by
  simp only[aW]at e ⊢;cases h1:step c x slot o s with
  |none=>rw[h1]at e;cases e
  |some s2=>
   rw[h1]at e;rw[(pM h hx h1).1];exact oQ h hx r _ _ _ e
theorem wq (h:mQ c c') (hx:pf x x'):∀(ops:List ax) (slot:Nat) (s:St) (p:St×List br),bE c x ops slot s=some p->bE c' x' ops slot s=some p
 |[],slot,s,p,e=>e
 |o::r,slot,s,p,e=>by
  simp only[bE]at e ⊢;cases h1:step c x slot o s with
  |none=>rw[h1]at e;cases e
  |some s2=>
   obtain⟨q1,q2⟩:=pM h hx h1;rw[h1]at e;rw[q1];simp only[]at e ⊢;cases h2:bE c x r (slot+1) s2 with
   |none=>rw[h2]at e;cases e
   |some p2=>
    rw[h2]at e;rw[wq h hx r _ _ _ h2,q2];exact e
theorem uD (h:mQ c c') (hx:pf x x') {draw:Bool} {ops:List ax} {aF:List Nat} {s s1:St} (e:aQ c x draw ops aF s=some s1):aQ c' x' draw ops aF s=some s1:=by
 unfold aQ at e ⊢;cases draw with
 |false=>
  simp only[Bool.false_eq_true,if_false]at e ⊢;cases h1:aW c x ops s.nx { s with nx:=s.nx+ops.length } with
  |none=>rw[h1]at e;cases e
  |some s2=>
   rw[h1]at e;rw[oQ h hx ops _ _ _ h1];exact e
 |true=>
  simp only[if_true]at e ⊢;cases h1:bE c x ops s.nx { s with nx:=s.nx+ops.length } with
  |none=>rw[h1]at e;cases e
  |some s2=>
   rw[h1]at e;rw[wq h hx ops _ _ _ h1];exact e
theorem nb {f f':St->Option (Ex×St)} (h:∀s r,f s=some r->f' s=some r) {aF:List Nat}:∀(m m':Nat) (s:St) (r:Ex×St),m<=m'->iter f aF m s=some r->iter f' aF m' s=some r
 |0,_,s,r,_,e=>by simp[iter]at e
 |m+1,m',s,r,hm,e=>by
  obtain⟨m',rfl⟩:∃k,m'=k+1:=⟨m' - 1,by omega⟩;simp only[iter]at e ⊢;cases h1:f s with
  |none=>rw[h1]at e;cases e
  |some p=>
   obtain⟨ex,s1⟩:=p;rw[h1]at e;rw[h _ _ h1];cases ex with
   |norm=>exact nb h m m' _ r (by omega) e
   |exit i=>exact e
   |ret=>exact e
theorem lf (h:mQ c c') (hx:pf x x') {n n':Nat} (hn:n<=n'):∀(ic:IC) (s:St) (r:Ex×St),aD c x n ic s=some r->aD c' x' n' ic s=some r:=by
 intro ic
 induction ic with
 |skip=>exact λs r e=>e
 |exit id=>exact λs r e=>e
 |ret=>exact λs r e=>e
 |stop=>exact λs r e=>e
 |scope b ih=>
  intro s r e;simp only[aD]at e ⊢;exact ih s r e
 |gm draw ops aF=>
  intro s r e;simp only[aD,Option.map_eq_some_iff]at e ⊢;obtain⟨s1,h1,h2⟩:=e;exact⟨s1,uD h hx h1,h2⟩
 |seq a b oR oS=>
  intro s r e;simp only[aD]at e ⊢;cases h1:aD c x n a s with
  |none=>rw[h1]at e;cases e
  |some p=>
   obtain⟨ex,s1⟩:=p;rw[h1]at e;rw[oR _ _ h1];cases ex with
   |norm=>exact oS _ _ e
   |exit i=>exact e
   |ret=>exact e
 |cond d a b oR oS=>
  intro s r e;simp only[aD]at e ⊢;generalize ev s.fr d=v at e;split at e
  ·rename_i t;cases t with
   |true=>exact oR _ _ e
   |false=>exact oS _ _ e
  ·cases e
 |block id b ih=>
  intro s r e;simp only[aD]at e ⊢;cases h1:aD c x n b s with
  |none=>rw[h1]at e;cases e
  |some p=>
   rw[h1]at e;rw[ih _ _ h1];exact e
 |loop aF b ih=>
  intro s r e;simp only[aD]at e ⊢;exact nb ih n n' _ r hn e
end
def pg (p:bR->cA->List AV->Hp->Nat->Option (AV×Hp×Nat)):Prop:=∀c c' x x',mQ c c'->pf x x'->∀args h nx r,p c x args h nx=some r->p c' x' args h nx=some r
def cm (prog:Nat->Option an):Prop:=∀f ir p,prog f=some ir->ir.gF=some p->pg p
theorem kN {prog:Nat->Option an} (hp:cm prog) {c c':bR} (hc:mQ c c'):∀(n n':Nat),n<=n'->pf (bg c prog n) (bg c' prog n')
 |0,_,_=>λf U hp nx p e=>by simp[bg]at e
 |n+1,n',hn=>by
  obtain⟨n',rfl⟩:∃k,n'=k+1:=⟨n' - 1,by omega⟩;have ih:=kN hp hc n n' (by omega);intro f U h nx p e;simp only[bg]at e ⊢;cases hf:prog f with
  |none=>rw[hf]at e;cases e
  |some fn=>
   rw[hf]at e;simp only[]at e ⊢;cases cR:fn.gF with
   |some q=>rw[cR]at e;exact hp f fn q hf cR _ _ _ _ hc ih _ _ _ _ e
   |none=>
    rw[cR]at e;simp only[]at e ⊢;split at e
    ·rename_i hl;rw[if_pos hl];cases h1:aD c (bg c prog n) n fn.body ⟨params U 0,h,nx⟩with
     |none=>rw[h1]at e;cases e
     |some q=>
      rw[h1]at e;rw[lf hc ih (by omega) _ _ _ h1];exact e
    ·cases e
theorem one_le {p1:Nat->Option al.an} {n n':Nat} (hn:n<=n'):mQ (al.bg p1 n) (al.bg p1 n'):=λ_ _ _ _ e=>al.qA n n' hn _ _ _ _ e
section
variable {p1:Nat->Option al.an} {p2:Nat->Option an}
def one (p1:Nat->Option al.an) (n:Nat):bR:=al.bg p1 n
def c6 (p1:Nat->Option al.an) (p2:Nat->Option an) (n:Nat):cA:=bg (one p1 n) p2 n
def Ev (p1:Nat->Option al.an) (p2:Nat->Option an) (f:Nat) (args:List AV) (hp:Hp) (nx:Nat) (p:AV×Hp×Nat):Prop:=∃K,∀n,K<=n->c6 p1 p2 n f args hp nx=some p
def Wp (p1:Nat->Option al.an) (p2:Nat->Option an) (c:IC) (s:St) (Q:Ex->St->Prop):Prop:=∃K ex s',(∀n,K<=n->aD (one p1 n) (c6 p1 p2 n) n c s=some (ex,s'))/\Q ex s'
def Ex.then (k:St->Prop) (Q:Ex->St->Prop):Ex->St->Prop
 |.norm,s=>k s
 |e,s=>Q e s
def Ex.inBlock (id:Nat) (Q:Ex->St->Prop):Ex->St->Prop
 |.exit i,s=>if i=id then Q .norm s else Q (.exit i) s
 |e,s=>Q e s
theorem Wp.mono {c:IC} {s:St} {Q Q':Ex->St->Prop} (h:Wp p1 p2 c s Q) (hq:∀e s,Q e s->Q' e s):Wp p1 p2 c s Q':=by
 obtain⟨K,ex,s',h,q⟩:=h;exact⟨K,ex,s',h,hq _ _ q⟩
theorem db {s:St} {Q:Ex->St->Prop} (h:Q .norm s):Wp p1 p2 .skip s Q:=⟨0,_,_,λ_ _=>rfl,h⟩
theorem ji {id:Nat} {s:St} {Q:Ex->St->Prop} (h:Q (.exit id) s):Wp p1 p2 (.exit id) s Q:=⟨0,_,_,λ_ _=>rfl,h⟩
theorem cw {s:St} {Q:Ex->St->Prop} (h:Q .ret s):Wp p1 p2 .ret s Q:=⟨0,_,_,λ_ _=>rfl,h⟩
theorem aS {a b:IC} {s:St} {Q:Ex->St->Prop} (h:Wp p1 p2 a s (Ex.then (λs'=>Wp p1 p2 b s' Q) Q)):Wp p1 p2 (.seq a b) s Q:=by
 obtain⟨K,ex,s',h,q⟩:=h;cases ex with
 |norm=>
  obtain⟨K2,uC,s2,h2,q2⟩:=q;exact⟨max K K2,uC,s2,λn hn=>by simp only[aD,h n (by omega),h2 n (by omega)],q2⟩
 |exit i=>exact⟨K,_,_,λn hn=>by simp only[aD,h n hn],q⟩
 |ret=>exact⟨K,_,_,λn hn=>by simp only[aD,h n hn],q⟩
theorem bM {c:aK} {a b:IC} {s:St} {Q:Ex->St->Prop} {t:Bool} (hc:ev s.fr c = .iv (.bool t)) (h:Wp p1 p2 (if t then a else b) s Q):Wp p1 p2 (.cond c a b) s Q:=by
 obtain⟨K,ex,s',h,q⟩:=h;refine⟨K,ex,s',λn hn=>?_,q⟩;have:=h n hn;cases t<;>simpa[aD,hc]using this
theorem dt {id:Nat} {b:IC} {s:St} {Q:Ex->St->Prop} (h:Wp p1 p2 b s (Ex.inBlock id Q)):Wp p1 p2 (.block id b) s Q:=by
 obtain⟨K,ex,s',h,q⟩:=h;cases ex with
 |norm=>exact⟨K,_,_,λn hn=>by simp only[aD,h n hn],q⟩
 |ret=>exact⟨K,_,_,λn hn=>by simp only[aD,h n hn],q⟩
 |exit i=>
  simp only[Ex.inBlock]at q;by_cases hi:i=id
  ·rw[if_pos hi]at q;exact⟨K,.norm,s',λn hn=>by simp only[aD,h n hn,if_pos hi],q⟩
  ·rw[if_neg hi]at q;exact⟨K,.exit i,s',λn hn=>by simp only[aD,h n hn,if_neg hi],q⟩
theorem bL {draw:Bool} {ops:List ax} {aF:List Nat} {s s':St} {Q:Ex->St->Prop} {K:Nat} (h:∀n,K<=n->aQ (one p1 n) (c6 p1 p2 n) draw ops aF s=some s') (q:Q .norm s'):Wp p1 p2 (.gm draw ops aF) s Q:=
 ⟨K,_,_,λn hn=>by simp only[aD,h n hn,Option.map_some],q⟩
theorem rE {draw:Bool} {ops:List ax} {aF:List Nat} {s s':St} {Q:Ex->St->Prop} (q:Q .norm s') (h:∀n,0<=n->aQ (one p1 n) (c6 p1 p2 n) draw ops aF s=some s':=by intro n hn;simp;rfl):Wp p1 p2 (.gm draw ops aF) s Q:=bL (K:=0) h q
theorem pJ {draw:Bool} {ops:List ax} {aF:List Nat} {s s':St} {Q:Ex->St->Prop} (h:∀{n:Nat},aQ (one p1 n) (c6 p1 p2 n) draw ops aF s=some s') (q:Q .norm s'):Wp p1 p2 (.gm draw ops aF) s Q:=bL (K:=0) (λ_ _=>h) q
theorem eJ {draw:Bool} {ops:List ax} {aF:List Nat} {b:IC} {s s':St} {Q:Ex->St->Prop} (h:∀{n:Nat},aQ (one p1 n) (c6 p1 p2 n) draw ops aF s=some s') (q:Wp p1 p2 b s' Q):Wp p1 p2 (.seq (.gm draw ops aF) b) s Q:=aS (bL (K:=0) (λ_ _=>h) q)
theorem gl {draw:Bool} {ops:List ax} {aF:List Nat} {b:IC} {s s':St} {Q:Ex->St->Prop} {K:Nat} (h:∀n,K<=n->aQ (one p1 n) (c6 p1 p2 n) draw ops aF s=some s') (q:Wp p1 p2 b s' Q):Wp p1 p2 (.seq (.gm draw ops aF) b) s Q:=aS (bL h q)
theorem pK {aF:List Nat} {b:IC} {s:St} {Q:Ex->St->Prop} (I:Nat->St->Prop) {m:Nat} (h0:I m { s with fr:=aY aF s.fr })
  (round:∀m s1,I m s1->Wp p1 p2 b s1 (Ex.then (λs2=>∃j,j<m/\I j ({ s2 with fr:=aY aF s2.fr })) Q)):Wp p1 p2 (.loop aF b) s Q:=by
 have key:∀m s1,I m s1->∃K ex s',(∀n,K<=n->∀j,K<=j->iter (aD (one p1 n) (c6 p1 p2 n) n b) aF j s1=some (ex,s'))/\Q ex s':=by
  intro m
  induction m using Nat.strongRecOn with
  |_ m ih=>
   intro s1 hI;obtain⟨K,ex,s2,h,q⟩:=round m s1 hI;cases ex with
   |norm=>
    obtain⟨j,hj,C5⟩:=q;obtain⟨K2,uC,s3,h2,q2⟩:=ih j hj _ C5;refine⟨max K K2+1,uC,s3,λn hn i hi=>?_,q2⟩;obtain⟨i,rfl⟩:∃i',i=i'+1:=⟨i - 1,by omega⟩;simp only[iter,h n (by omega)];exact h2 n (by omega) i (by omega)
   |exit e=>
    refine⟨K+1,.exit e,s2,λn hn i hi=>?_,q⟩;obtain⟨i,rfl⟩:∃i',i=i'+1:=⟨i - 1,by omega⟩;simp only[iter,h n (by omega)]
   |ret=>
    refine⟨K+1,.ret,s2,λn hn i hi=>?_,q⟩;obtain⟨i,rfl⟩:∃i',i=i'+1:=⟨i - 1,by omega⟩;simp only[iter,h n (by omega)]
 obtain⟨K,ex,s',h,q⟩:=key m _ h0;exact⟨K,ex,s',λn hn=>by simp only[aD];exact h n hn n hn,q⟩
def Fin (res:List dY) (p:AV×Hp×Nat):Ex->St->Prop
 |.norm,s | .ret,s=>(dB s.fr res).run s.hp=some (p.1,p.2.1)/\s.nx=p.2.2
 |_,_=>False
theorem Ev.at (bQ:cm p2) {n f:Nat} {args:List AV} {hp:Hp} {nx:Nat} {p:AV×Hp×Nat} (e:c6 p1 p2 n f args hp nx=some p):Ev p1 p2 f args hp nx p:=
 ⟨n,λm hm=>kN bQ (one_le hm) n m hm _ _ _ _ _ e⟩
theorem Ev.of (bQ:cm p2) {f:Nat} {fn:an} (hf:p2 f=some fn) (cR:fn.gF=none) {args:List AV} (hn:args.length=fn.np) {hp:Hp} {nx:Nat} {p:AV×Hp×Nat} (h:Wp p1 p2 fn.body ⟨params args 0,hp,nx⟩ (Fin fn.res p)):Ev p1 p2 f args hp nx p:=by
 obtain⟨K,ex,s',h,q⟩:=h;refine Ev.at bQ (n:=K+1) ?_;have h0:=lf (one_le (p1:=p1) (Nat.le_succ K)) (kN bQ (one_le (p1:=p1) (Nat.le_succ K)) K K (Nat.le_refl K)) (Nat.le_refl K) _ _ _ (h K (Nat.le_refl K));unfold c6;simp only[bg,hf,cR,if_pos hn];have h1:aD (one p1 (K+1)) (bg (one p1 (K+1)) p2 K) K fn.body ⟨params args 0,hp,nx⟩=some (ex,s'):=h0;rw[h1];cases ex with
 |norm=>simp only[q.1,q.2]
 |ret=>simp only[q.1,q.2]
 |exit i=>exact q.elim
end
end au
namespace au
open Go al
namespace Prim
abbrev pQ:=bR->cA->List AV->Hp->Nat->Option (AV×Hp×Nat)
def clone (e:Nat):pQ:=λ_ _ args hp nx=>
 match args with
 |[x]=>match(elems e x).run hp with
  |some (ys,_)=>match ys with
   |[]=>some (.iv (.az e),hp,nx)
   |ys=>if roomy ys.length&&(get hp (4*(nx+2))).isNone then some (.own (4*(nx+2)) 0 ys.length 0,set hp (4*(nx+2)) (.buf 0 e ys),nx+4) else none
  |none=>none
 |_=>none
def rV:List (AV×AV)->Option (List Int)
 |[]=>some []
 |p::r=>match p.1,rV r with
  |.iv (.int .i64 n),some l=>if decide (-9223372036854775808<=n/\n<=9223372036854775807) then some (n::l) else none
  |_,_=>none
def ins (n:Int):List Int->List Int
 |[]=>[n]
 |m::l=>if n<=m then n::m::l else m::ins n l
def apart:List Int->Bool
 |[]=>true
 |n::l=>!l.contains n&&apart l
def sorted (f:Nat):pQ:=λ_ _ args hp nx=>
 match args with
 |[.bJ g [] [.ref v 0 0 0]]=>if g=f then match get hp v with
  |some (.cells [.ref m 0 0 0])=>match get hp m with
   |some (.map aU)=>match rV aU with
    |some l=>if apart l&&Nat.ble l.length 1000000 then some (.iv (if l.isEmpty then .az 1 else .sl 1 ((l.foldr ins []).map λn=>[.int .i64 n])),hp,nx) else none
    |none=>none
   |_=>none
  |_=>none
  else none
 |_=>none
end Prim
end au
namespace au
open Go al
def DB:an:=ao "FDzcj<x:VNJ>OzCzAWbzl?_=iy@a"
def DC:an:=ao "AMSRG<gsDtVv?kO?KkeJB:SxaEKT"
def DD:an:=ao "IPbwaSeHcsssmH=p_UWMsO>yMatjlyVNp]LeFA?fp[MdEDRju`rzNCGkuwGWY>l[B>hEdOXBt<^vYwCxyyG_rtnX;ysq^KZ:"
def DE:an:=ao "=W_PWjme;IXHY?eKFN=EKAVe"
def DF:an:=ao "AHrwhNwF@bGjBLsCdbh^KXmm_voY^Exd@@i<_mmRGocNXcvLga=n>_SKwV;XFDnKeaVrYIpZnxn]dFojv[kFpYsmk;GJYABbcRpRBZ`QeZwtX=:yaoHau>LucNUWo:WKJlurab>tkTlhWRo:_KE^s=XbDt>Zhpt[FT=EZj^^RF@srCfPBdf@bttez?SGT"
def DG:an:=ao "CcNl[_lF`zorM`vKRVOD`e`R?LgxVN:f"
def DH:an:=ao "@hKkHjI_I_fKzcr[RcMb`Mf`ojlpkFmFF`iYLLssdZgrmsheckj;=YSUKrEUhGortazlecS[>qZtQsor<nq<Z@IcVYtgOlz>zxmPnM_qQC[MLR=Tcm[f^Ok_@s_:dTha_bI`qBsKzjTYmb@gKnbKk`CNKzG>e<wybvh_VKEAbCMk;@KnNSKgTY]nYK]txNV`elRPzpwenAe;>p=>rsfbKr?L@Aj_hyPmBWl:yhw_t_[QTa`R[CriZvJ<xNuUpBsR:^xa]Ciqmh];`ViJgJ^d_YWq>]O]jPNG:;fYcw;P>TWxbafzJKEqwcWAnj@oso@hd`>Jqu>=_otw@^UiEWBpKnwUqbWf_EsvJARFHziXZPrwinpNk=szxU^d?yZ`xv"
def DI:an:=ao ";Qby?R;wQKMkX=zfKgfDILzZoOnvCtSxiwxCuJNOZP;z_OVm@yjQvyqOBJDx=`R@n?cApyLsA=;AXOhrIZLNQF=BcenmfdUtWCymwhaBDqEGtkh<zi>SwIG?"
def DJ:an:=ao ";g=Y<>;:lvO`pkwAG:@ZTIJVrgPsMkVUZddtaSjA@`eAI_FZWzxDnLcP>grU:KT=d:v"
def Hh:an:=ao "@@zRfzOAd;y>BH[BG=kcjCd[=:B[pZavml=lIhCoGjvjDWwdgM`SwuocmMjQuTGi^feHvSh>eJKoK_V<ZLoSbu^@Qzl`KZZrHQmHNuultgVfHm;f[GkD[hZU^g;OUmRHqU@_<bPWuDMw]DAZBGNNjq_wO^?ZaYPoZjTGKWd"
def Hi:an:=ao "AFgkmTgxmZGY>N^pTmDkhox^mzhMXWOh=Yo>BgXAlJJpdoF_C>X_zvwU?s`vdVxNh?vjPS<IEOighgXypxtKwk]LuB]zMQL<xUc?hG[:SuD==bV?laOoxPA`Kaw_sHn"
def Hj:an:=ao ";Pm?J@aKXQatzp@wMzxF?:?@IjVjrJMm?LtVEZDStIL^dKl_XC=_w;GO_yWk>jV>kXvpBxSde[H_"
def Hk:an:=ao "KTx^WL[cGf@f:e<HG_nojN@vneBGsCqCoEG<KQjxk;NY"
def Hl:an:=ao "=soPzfwX@BAeh;]CYH>r^a^RRNUbEF:_dpKT="
def Hm:an:=ao "@c;queqguOW[wRw@B?w:l[SWuSmCK=sun?pGMbNTLWWiwo=rJhoSzhpQ<HlTvpTc_^`sf_gz[is<ALcU^>stYTGtgQ@WfTX<DK==Gt]`=vBtjypr=qLod=wP[Gp?wOfT"
def Hn:an:=ao "whZZu[`t@DKx@zFf^kfl<D=`EIa:CrWT?_OcVAtU<F`VeKdcJAX="
def Ho:an:=ao "=V[:V@rd<^DRp>`t?QpmmTfRGCpDf^uEdgpf<fXhUuRXoqN[afY]sY<>hb?OUrRQO`DyHBEXPIU?KJ;JuwMnrSThddsSULSLpGiN"
def Hq:an:=ao ";_wAHjjfFTgrrjEqiDdca;KCnR[GWJ<[hE?^RFM@wfga]B;]@sjDN]LVpOFV@uudlkifh<W_EUlN?VP_nXzDVpAT[TgShafZ=SSVKGqgcJ>oNzDgQzGfOCZYB>jKdOPYHq_:;sIuqO]a[kVq]rqRs:PEU=Az_VtciFeemZq@bfG]wbkOdZWshQ"
def Hr:an:=ao "d?cUBRW@Er^cIjsXYwlwhJAzeSVXMfJgIjX_INYP^sX]WTRDVFPZndAeShF@ZdN_SWo"
def Hs:an:=ao "aHzHKoFIfbxI=TQzckiv^:Ulx^D<YdNHUUgio?sGvl`rHK?=Mm<=DRzKTye:>Hnw"
def Ht:an:=ao "x`PGJFTfxgxc?ohHaoEHzOxJI==j`VgvBTs@yqFErbmTkHxsdKX"
def Hu:an:=ao ">TRfMFqMDxr_dNnPbyqPSuBaQP@Dbx;c"
def Hv:an:=ao "AOPEcaJGEc@_mZQ>stI[qqxrnlubb`rhG<ECNcItxLFtW<:CAVOtzuMqgcFzBeZHdXt<`pVhUiCbjEncx[YQO=>`J<VMbUdOXLb]U^VDwxGbUEDYETu@_=aTFUrYKk]Ale:FTM`iRGUgC?Af:v;cMF>SyxXfuNcdSLP<nfqkc^K@scK<BW:;vD==rtgMNPlxHEkOFzQtZ?n_zFawB>N;zFYPc]csBkW<]YkJ><dJyiIXeMOk?l@uDa=KV=f>y>Hx"
def Hw:an:=ao "<dS@asFq`y]hy[`ti^@><GAMV]fIzbqqtTNbBpbFFfRGjhDh=wt?wQaUmRaiwKff?uJVPUpYB=xvOrouGjWGFsqgYJ_EVo?gj]UaAyEwyIggpfkYXvyGyLxlry:sb@LkNNJ>eWoQVZwClmUhBXecmFr>Np[?@kvC]]D:QjBcsjH;rVTYlNj<vqKAvcQuLGW>azGy[^uUU<eje<RGjBWzIfBkODAba`TZ:c`>EG>kDNUTHiILmWd>bu?TFpzQ`hcijQWUOfjdbbAFavr^:EaXU]P`xnQYtjcmdZsXbP:wj=kNsdHkgYm"
def Hx:an:=ao "<VGDETCP>BAq[y??YwMR^xatgrKlXBktXguHc;H[^=v[meADRda:XGfCk:eXrQaqR[miQkEGr"
def Hy:an:=ao "@qeATCigIpd]Of`XWdmFiqA=D;OF^YCPh;HtsC@CccCi@KsXHR:LNpbFJNJhiv@CSYupk@A`?rXhcrV>Bp``eBX=IH><IQT<Q_itp<h@SFz"
def Hz:an:=ao "ewP>^J@Twyy^kOu_@f^fMIQggCqMy_SCqGLPS@L?mul_^u;x`>jJFTaQQfadrXHhN:n=ejJWDNeFVun:IEYV`@cNEsL_`TA<NHRFgLzCgy_Ux<W;:L"
def HA:an:=ao "<mBQOFvGQ_A=?YBeHteNDMB@:=CsOOapgt;qtXXzA"
def HB:an:=ao ">gbX=?Zm_rdjGAXtFPoTzwap@odlLK`?LFXrsUiMbbe^Ki>mTx^AgU?MYl@<zb[gvNG_AIpF`coMKOWT@<lkRaBwGjDQFTtO`pylYxg;g`v<@j]xcupEBbFVpZcT=GorO?eNdKtWNcO<qxmVWhwcJH=;MUXtRQIggm"
def HC:an:=ao "F;G@?G@HUMObOJVsMwbnH]@DCw`W"
def HD:an:=ao "A][Uxu[dkYcVpOT_s;aMA@uEaVkDkzL;b=QqwlGdLx_Re>ic:G=JG;TtKk[u?mSqtGfapFApn>KjHDOAv]f<ZxsNEimCG:bW=;P:THSpzVVejFlnMifATHdZ?vtkppXLakfrzSuLbaWMQvIgABkrBVuv][HNFonuteTzwyme^VtCDKyu>S`uBd:?wKtj=MikTC<o`xs[?VJqrvOUoKAiy>:O?EGOiExJBILTx[QHo:KQC_wLqjLJKKqzWWbmx=Jq_KFCbNYhl=u:pHxZkjsO=L<^r<@nXCW_;DhbFmfWirkjFMoaubqZY^VSC[MVWGurJYtH:kzg_mrllQTcPVGgT]vfYtwsNatzMUqHqKkWmAcRquberlL=Y;z?tH?"
def HE:an:=ao ";wVIimPgyelSr_iKtXapekrQHT@Uzu:d^W?HwagQaomDVY;FPsdD=`NYMRIEYtTRbJNuUt"
def HF:an:=ao "B<_FQFepV>mFZXooZKtxccbkEhy^aJYox@C^sC^Sl@KXq;_jZO_I]r[_HU"
def HG:an:=ao "tNP<bj==bzqmyGyt`US=frMWkVwvkLKQ<T=nHTjwvDeu@yg;=VbAAeAKCsyWWZRUqslgyYMtaD`Hw[:MkKF^rQPJqow=^bjM@ZCO<aebRjmGBzN]uI=fvz=qyx;FC^d`>FO>cXnSqZF^`oP@n:T`Cy<NGi_KccTLh_tpF]kV:tRnqXzbrh^?PSqfJSaI`EScln;[nKnEQx;A`uPrTBiJZPtUInb^dYvLTZtPmGgsXiG:KzZD;DeoymPjCC[GGr?RVAr;imB]:?]EQkgtDU_v^>D<bb:uXr`sIk<mGYKuARpoXpUEVllddqpihkXiwlOZ==LTHJ"
def HH:an:=ao "UiTaOhwhDDRlZIdbI:^HjOt:qas;hPi[^^lLuTx>Pzl@:rEUIkPwAvvNaFyg:UFniAG[Z@><d[ee@[DqD@;Hbo^pxxw_m`BTje^SseHMtRYJLiSD@EauNhzi=UI`XOy`k>jxcM^[oGQnp_R@eMVtk@su"
def HI:an:=ao ";:;x@qDB>>ajStQHqszqpaAF??lSaTKejSqnkrPJIukYz@TUNgNPBcbGP"
def HJ:an:=ao "?ZMlhBBSLNAXPQsZ:WTEvEVvO]ICjyl_qpC=vk:[<VGi[[;urKniB@:pgixOEmgwTLo]blUoFksiS^cRLTzA:ctSOMqt;Ojx[f_^zS:TOZci<FHFE;GLIa:gnjm[irhVjEFjPWq>R_UsVZA@IEJR:^vzHi;mk]uUFquuZKbU?g`^`DQAZP=VNwSkGR[?wwa"
def HK:an:=ao "<KwE^mymLQWh:GiM<ZCb?XFmuPAITnYxFR]XnP_:cI_V>AgUj_yKkytCa@:Zxd?DZj:S"
def HL:an:=ao "Utft:fSdtHXF]dLfVbKQhT="
def HM:an:=ao "=jIBhO`ILSsl^I:MyMhN>jlW=dM;ZT`LxRyylZhU?wx^:B;UWo`BJYJcXxv[J]oAYtfG;Ud?ZpBztzpCM`zQ>]_PKT;dyHAlm^F``eI?rNbW?SynH@AwKOJURk;cn>OYy?GK_DpRbxC`NHn_"
def HN:an:=ao "R^@dOmphl]EBz?["
def DK:an:=ao "j`IDpC^KumROkMiTzFHfKhTybT"
def HO:an:=ao ";ad[c[jOxPcRKTZUKLgTggJFpf`wOvRKXjOAziZ[p@`q`z]OKazR`aWSxBkK=xXjjhQA;?Dk@pITQzofJ[arJwJiBIiH]DEkKiGyvZ@HBnTqI;x"
def HP:an:=ao "EmmUx]NtSxDP=kwyPPvbzLJGcIn[CuJlKOTIwOAebt`J?wZCv>rTVrJike]MkH=BNCYNPeQa]J@noOCLGfCRHMNi"
def DL:an:=ao "PMq=fZTNox`y@eRnbBlqj;hLd<"
def HQ:an:=ao ";hc:UuZ:SSMkyiMfOoyfDsAQ`tQfgU<?`r"
def HR:an:=ao "E`<aTSijp:LMBJyfzk:"
def HS:an:=ao "bVsoNU`FcFdEPblNHLBB@AWOb`v`kTd[=XK_pcBb<ffFggB^Dy:KKhQ;QuJYa<>vFTPvqtV>Z"
def HT:an:=ao "=ttBt_dto;[UGXrpu"
def HU:an:=ao "AIcHbezci<jadq??LXgP"
def HV:an:=ao ">:JHBd]X]BRr>nmT@m_CHHR:nIF`wxOc^M"
def HW:an:=ao "?J:u@>T;`XK=u>BLf^>U?`EvfieJhXErZC^;"
def HX:an:=ao "<@t>jobppKQWkmIkARGojdnG_DuMpKQPQt"
def HY:an:=ao ";>jsZILYFlRBdCqbWPS"
def HZ:an:=ao "QgyahdsbQuRj?WE["
def H0:an:=ao "RdFPKUuazEIpv:]"
def H5:an:=ao "AmXYqwBbGhxO<CqUCI?ROWX_MGdMBMuLQevVZfpQLHET^T;LhQyplok=Uyakj_G[dPkjGE=fFHbiPVZD@H;c<yct:]^tlAk;hEMlhysodAKaT`]DVhCmiTXJqhjeh^rIm_caeU^vJgAD;lynMldrFrmcHgo?>Tmr@xhGgrVGhQUkKhOquAW=xoOcFMHE;U_BDGUL;LhTtzab;nQkNNc=hdC]quj:ofGlO;YfbIQMosYL[jHGKo_yj_@"
def H6:an:=ao "@mZaSLL^A>BZCdlodFNNC>swBiQPfs::Ow@WTJUZloieD[KtMW"
def H7:an:=ao "pMAXEgX=Dc:ox:Uc"
def H8:an:=ao "BCmTqLmT@qtYK?PLvMKHnxSyNR@RQJmgvBS[sPurydoYCkLK[vAnf;w@mndmVUQdewk]jAyJvucoBCiXCTqb;`iBpz^Q@vYC?weR`mvuBqRPF[iYj^TmD]vx;_TB:k^Fd;PwswTZ<;nyOUMsfkkcczHrF@CfIOQ@Lb]cTvLxHtQMvYdEB@AyGdQLZlTh"
def H9:an:=ao "ZLxU@<UO=gxGXao"
def Ia:an:=ao "@Hc=<Pf^;[wcUliKRBWey<xuM>xFNA]RtxLI[qgP^AxtbdAKSseYeP]x^Gt[F<Z<_cer_;zIz]_b_^_JKMlguy]cFfGZJ@i"
def Ib:an:=ao "DYIUWqzjidwkYVMWjQO"
def Ic:an:=ao ";=NoE[Ad[cqBPzOlHpO`JgUe:`ak=YVIFDEVEfJNMb]hAP<MK;]gSM<BP?hXb=`C<"
def Ie:an:=ao "Am>:NNHQPk>NU_lExEEpBaeJEqKKWuE:WQOP`pbHmGwtzGXKg@XgUvqFMhn?xwnMjJ["
def Ig:an:=ao "BKewAYdPY^Z<tZJWY^@ync;<vKFRHEqpRWFc_JbD]rAtpWP?J^Xt?hgCtUCsZT:kBbh;[Sb@M`hBw:nOBr"
def Ih:an:=ao "ZWQekVI<`KPtD@nMuFJFCQR?[]vB_LH_uHHMymIi;oL@kH=?q_ju[EtOxaMktHC[bCPS[XdaXhyc@w;`SDW_PVI^sZIjiJPiMVDRm^kwAJ[Pq]m=bduXhMfvi^JEj@s=Dby_wgwM?wPZ?UViB?KxwV^Fc?pTKpZ`xFt=p[]l^YGtWqJkP=GaEnxAEe<UMdZiJAAWN[TClojKCNyHuNFU]IgPnu:XDFkPSBwWpxkrx:=eKISdRoEHCh^nGgTbkZBmh;ckRHxFnoTFi=:bh?xKxJW`=^HCzORZf;MQdqna"
def Ii:an:=ao "_s`HLgo<<C[o?@YAK[VZot?=L?"
def Ij:an:=ao "yr_A^_mgQxVlOEmcnWZfC@kb:[Z]^eGn@xODrY"
def Ik:an:=ao "?aT;J^fKfh^msV`MNgwsnMswU`h]Q;ylT@verJlQvFxydjv`[@BZQj"
def Il:an:=ao ";Nwp<uNJZU=Wv;`Ue@ZQM<xIam:PUreEo?oAPTrj:tjjHtimWTx`YWNkMbP"
def Im:an:=ao "DndN>nsY;ubdbI[GR]:t:NjvrIwCPDwUm`mFZviXREY^EJk`zPFxFsJhShcxIOrlRsFe?FOzbNmgVfCTKj?VG[zgDCq]mxKw>[OJkSns>B`Jryvos:]SLrCMR;h_Rz]VVEYlEpw:TXD"
def Io:an:=ao ";SNJZn?[]JtmAiTvPEMK@DEKQol>I]T?EWiYZ^InPC@[O;xxlmsdr`MdWLr?h:;`IXHvm_NgcAgQ;G^l^fs^ova?;UIknRVdpelb_MUxZ[[hpYMbATNeBAStM^QcgE?UB`EM_<N<NwwufZRv_<pJ]ruZMWHpAinJJClQS"
def Ip:an:=ao "kYAHhXpF@aCyyRXWI]Um?X"
def Iq:an:=ao ";@Alutkpt:BsWPlS;asaiHs_y;Zg"
def Ir:an:=ao "GjYqKmGeelTfwI^"
def It:an:=ao "eiVMH^Qb:PInmmP@txa`:LL;hu<YnxQ;wqteYexAZAFsvyWi`AXDDA;dsdXtP^p[ZSRlARrnFPR]<vFco]FzXLFstOUQBnDo"
def Iu:an:=ao "CdoT>g;FsWnATYQoy<o==hO>XWjSvRkfpCA"
def Iv:an:=ao "=RV:B`qYilJzDoAwauTtdcHYkqXaRa@Ej@Le<m_WkGwuQ`fqluPT[tKpjPn`KQDInwhSx`O@iTuHgY`xhg>TgthX>syei<TtiIsCTlEM@PvhOT?JiLDTSXzG@ekt_@oXvRtmmfhjxBlMmO"
def Iw:an:=ao "XVhshQw_]iGCHIxQpCS@XJA`BfNCahM;gHEgEJQZ;COCEgRb[YK=:yWkcoNrpt^[C]:MMNSlZ<TlSSdMDY>o=t^cMn[D<WlbAxjL>t`fWzLb[OIVtkg:AcWwCxDBbwGWZdgoQtI]dXni_STMqK_XfIchMFJf:z>f"
def Ix:an:=ao "g>Mk?hernHNVS_"
def Iy:an:=ao ";P_;dSTuv^gRLG=BL"
def Iz:an:=⟨1,[],.skip,some (Prim.clone 1)⟩
def zO:an:=⟨1,[],.skip,some (Prim.clone 4)⟩
def IA:an:=ao "YqLFxHv^zZj;dAyzK=[siojKSFFHxmhtxWLOx@GG[`vn=rty>jjlVxEovap;xUevDOxePH_?w>txcTkQhOB@ho^<IhHwW;T@aFxqB@x"
def IB:an:=ao "LhXDqPaDw];yDL=c"
def ID:an:=ao ";onJoN?pdgn<XRB;G<lzVitSPjTfUB:>PEtXHDPhBTwH?ZXO>WIb^OJQVOwD<@pHayv?ucuz>;Z?rSEsNiQOOWCMceC?r`nANH"
def IE:an:=ao "D`qkEspeyc[;xhm[X:m`ua;SnflYtZPWPG>sccrMafE;YeFot@fGEgG[uuQ`kGy:"
def IF:an:=ao "J_uUmqO:OWgyeku:EcWTOKXUzsnDCp_[D>oclmYa:zGXLSUtXkDIcJ<DUI=aHUgw"
def IG:an:=ao ";cnFf:gSNw]qfD]loACRfOgJ>]>appXIkgxTqFNADeDTbH?eF?Osk?U?t[e"
def IH:an:=ao "?YdksotQiw:kJjdScIMT=g<z<DG=mJM][jmO>B@r@<zqFH_YsM_<>"
def II:an:=ao "=`xKVJJIxvoOT_ncUKf<f]^Kl?vuIUMktIdV@?CY?cyxJsg=WEL="
def zP:an:=ao "cQ;DVgzSTs]lPWchhg^[xv<"
def IJ:an:=⟨1,[],.skip,some (Prim.sorted 333)⟩
def IK:an:=ao "Lem:AZrAkJVgAORLM@Xaqz>^M<:x[AClo_uFjuN]Yi@JhVNzIO:kmQWRprEi`MHaBC[Fu>[HvfoGHMLxr`Oj`[YeeEpXRUEn]==pObQiOVpwNE=LrLzptGm"
def IL:an:=ao "@v@tiSVIb^_bV`zITuWTOjjTJhEmOXjFK]NRFhp`pj>]UOmrI=<emIJmgSoAstcgFDlRBmQ;rR_W:^pansEvS^AxULEKUKvFGusMm`EnAm^JwkxVtramT`@SXA[jdfI^hzMrs:ZDwjFHiZQLbezUBJ=PjA`PhIngIXfQ]n>TXARokWYu`iMiyFIU;AaYS_f>m@Nxl>jWzeNXaDvmt?pZajUSoioyIgRVowbCqkqamOPWKjzsSJDi?TYqTspnsQyfdfetDO?AlmH<@?si[M;]yUZSii]@IA>Qn=irhtvXlLs]R?xEicHI`s@?mUUQ;cPRiq"
def IM:an:=ao "Q]dCXrMxFVSg"
end au
namespace au
open Go Go.RowKit al
section
variable {ν:Nat->Nat} {P:Program} {k:Cx}
structure cc (ν:Nat->Nat) (k:Cx) (nt:Nat) (g:Gh) (a:Act) (s:St):Prop where
 h:g.h=s.hp
 r:Rel ν k g
 f:eU ν g a.tmps s.fr
 n:nt<=a.tmps.size
 d:a.defers=[]
theorem cc.jc {nt:Nat} {g:Gh} {a:Act} {s s':St} (m:cc ν k nt g a s) (e:SE s s'):cc ν k nt g a s':=
 ⟨m.h.trans e.2.1,m.r,λt x ht=>m.f t x ((e.1 t).trans ht),m.n,m.d⟩
theorem cc.put {nt:Nat} {g g':Gh} {a:Act} {s:St} (m:cc ν k nt g a s) {h':Hp} {dL:Nat} {v:Value} {y:AV} {d:Option Nat} (hd:∀t,d=some t->t<nt) (hh:g'.h=h') (r':Rel ν k g') (hm:aX ν g g')
  (hv:RA ν g' v y):cc ν k nt g' (a.put d v) { fr:=bj s.fr d y,hp:=h',nx:=dL }:=by
 refine⟨hh,r',?_,?_,?_⟩
 ·cases d with
  |none=>exact m.f.mono hm
  |some d=>
   intro t x ht;simp only[bj,aP]at ht;have aV:d<a.tmps.size:=Nat.lt_of_lt_of_le (hd d rfl) m.n;by_cases uE:d=t
   ·subst uE;simp only[if_true,Option.some.injEq]at ht;subst ht;exact⟨v,by simp[Act.put,aV],hv⟩
   ·rw[if_neg uE]at ht;obtain⟨u,h1,h2⟩:=m.f t x ht;exact⟨u,by simp[Act.put,Array.getElem?_setIfInBounds_ne uE,h1],hm _ _ h2⟩
 ·cases d with
  |none=>exact m.n
  |some d=>simpa[Act.put]using m.n
 ·cases d with
  |none=>exact m.d
  |some d=>exact m.d
def fI (P:Program) (ν:Nat->Nat) (nt:Nat) (ops:Array Oper) (o:Oper) (io:ax):Bool:=
 o.dst==io.dst&&(match io.dst with | some d=>Nat.blt d nt | none=>true) &&
 (match o.guard,io.gd with | none,none=>true | some (j,b),some (t,c)=>b==c&&(ops[j]?).bind (·.dst)==some t | _,_=>false)&&ry P ν o.op io.op
theorem iM {g:Gh} {a:Act} {s:St} {nt:Nat} (m:cc ν k nt g a s) {ops:Array Oper} {o:Oper} {io:ax} (hc:fI P ν nt ops o io=true) {b:Bool} (h:bK s.fr io.gd=some b) :
  Region.wanted o (yielded ops a.tmps)=b:=by
 simp only[fI,Bool.and_eq_true]at hc;obtain⟨⟨_,hg⟩,_⟩:=hc;unfold Region.wanted;split at hg
 ·rename_i h1 h2;rw[h2]at h;simp only[bK,Option.some.injEq]at h;rw[h1];exact h
 ·rename_i j want t c h1 h2;simp only[Bool.and_eq_true,beq_iff_eq]at hg;obtain⟨rfl,hj⟩:=hg;rw[h2]at h;simp only[h1,yielded,hj,Option.bind_some];simp only[bK]at h;split at h
  ·rename_i c' cf;obtain⟨v,hv,hR⟩:=m.f _ _ cf;cases hR with
   |iv hI=>cases hI with
    |bool=>simp only[Option.some.injEq]at h;subst h;rw[hv];cases c'<;>cases want<;>rfl
  ·rename_i cf;obtain⟨v,hv,hR⟩:=m.f _ _ cf;cases hR with
   |aR hn _=>simp only[Option.some.injEq]at h;subst h;rw[hv];rfl
  ·cases h
 ·cases hg
theorem j9 {c1:bR} {cx:cA} (hs:al.bp ν P c1) (hx:bp ν P cx) {nt:Nat} {ops:Array Oper} {o:Oper} {io:ax} (hc:fI P ν nt ops o io=true) {g:Gh} {a:Act} {s s1:St} (m:cc ν k nt g a s)
  {slot:Nat} (e:step c1 cx slot io s=some s1) {next:Act->World->Prop} {Q:Exit->Act->World->Prop} (hn:∀g' a',cc ν k nt g' a' s1->aX ν g g'->next a' g'.w) :
  if Region.wanted o (yielded ops a.tmps) then o.wp P a g.w next Q else next (a.put o.dst undef) g.w:=by
 have bH:=hc;simp only[fI,Bool.and_eq_true,beq_iff_eq]at bH;obtain⟨⟨⟨hd,aV⟩, -⟩,mv⟩:=bH;have og:∀t,io.dst=some t->t<nt:=by
  intro t ht;rw[ht]at aV;simpa[Nat.blt_eq]using aV
 unfold step at e;split at e
 ·rename_i hw;rw[iM m hc hw,if_pos rfl];cases zi:dD io.op with
  |some fa=>
   rw[zi]at e;simp only[]at e;obtain⟨f',kl⟩:=fa;have rF:io.op = .k6 f' kl:=by
    generalize io.op=op at zi;cases op<;>simp[dD]at zi;obtain⟨rfl,rfl⟩:=zi;rfl
   rw[rF]at mv;unfold ry at mv;simp only[]at mv;split at mv
   case h_2=>cases mv
   rename_i fo aT cC ho;simp only[Bool.and_eq_true]at mv;have mu:=ak m.f mv.1;have hR:=fP m.f mv.2;cases cR:callee (ev s.fr f')with
   |none=>rw[cR]at e;cases e
   |some q=>
    rw[cR]at e;simp only[]at e;cases hr:cx q.1 (q.2.1++(kl.map (ev s.fr)++q.2.2)) s.hp s.nx with
    |none=>rw[hr]at e;cases e
    |some p=>
     obtain⟨y,h1,n1⟩:=p;rw[hr]at e;simp only[Option.some.injEq]at e;subst e;obtain⟨first,ay,yN,jC,eI⟩:=eN cR mu;obtain⟨⟨fn,dp,hb,rC⟩,bt⟩:=hx _ _ _ _ _ _ _ hr;refine iy ho (h':=h1) (y:=y) ⟨q.1,first,ay,fn,yN,dp,hb,rC,bt k g _ m.h m.r (qG jC eI hR)⟩ λg' v hh r' hm kC=>?_
     rw[hd];exact hn g' _ (m.put og hh r' hm kC) hm
  |none=>
   rw[zi]at e;simp only[]at e;cases hr:(bn c1 slot (ev s.fr) io.op).run s.hp with
   |none=>rw[hr]at e;cases e
   |some p=>
    obtain⟨y,h1⟩:=p;rw[hr]at e;simp only[Option.some.injEq]at e;subst e;refine xn hs mv m.r m.f (slot:=slot) (y:=y) (h':=h1) (by rw[m.h];exact hr) λg' v hh r' hm hR=>?_
    rw[hd];exact hn g' _ (m.put og hh r' hm hR) hm
 ·rename_i hw;rw[iM m hc hw,if_neg (by simp)];simp only[Option.some.injEq]at e;subst e;rw[hd];exact hn g _ (m.put og m.h m.r (.refl ν g) (.aR rfl λj v c h=>by simp at h)) (.refl ν g)
 ·cases e
def cS (P:Program) (ν:Nat->Nat) (nt:Nat) (ops:Array Oper):List Oper->List ax->Bool
 |[],[]=>true
 |o::r,io::ir=>fI P ν nt ops o io&&cS P ν nt ops r ir
 |_,_=>false
theorem fp {nt:Nat} {ops:Array Oper}:∀{l:List Oper} {il:List ax},cS P ν nt ops l il=true->l.length=il.length/\∀(i:Nat) (o:Oper) (io:ax),l[i]?=some o->il[i]?=some io->fI P ν nt ops o io=true
 |[],[],_=>⟨rfl,λi o io h=>by simp at h⟩
 |o::r,io::ir,h=>by
  simp only[cS,Bool.and_eq_true]at h;obtain⟨h1,h2⟩:=fp h.2;refine⟨by simp[h1],λi o' yP e1 e2=>?_⟩;cases i with
  |zero=>simp at e1 e2;subst e1 e2;exact h.1
  |succ i=>exact h2 i o' yP (by simpa using e1) (by simpa using e2)
 |[],_::_,h=>by simp[cS]at h
 |_::_,[],h=>by simp[cS]at h
theorem lG {c1:bR} {cx:cA} (hs:al.bp ν P c1) (hx:bp ν P cx) {nt:Nat} {ops:Array Oper} {Q:Exit->Act->World->Prop}:∀(l:List Oper) (il:List ax) (slot:Nat) (g:Gh) (a:Act) (s s':St),
  cS P ν nt ops l il=true->aW c1 cx il slot s=some s'->cc ν k nt g a s->(∀g' a',cc ν k nt g' a' s'->aX ν g g'->Q .normal a' g'.w)->wpList P ops Q l a g.w
 |[],[],slot,g,a,s,s',_,e,m,hQ=>by
  simp only[aW,Option.some.injEq]at e;subst e;exact wpList_nil (hQ g a m (.refl ν g))
 |o::r,io::ir,slot,g,a,s,s',hc,e,m,hQ=>by
  simp only[cS,Bool.and_eq_true]at hc;simp only[aW]at e;cases h1:step c1 cx slot io s with
  |none=>rw[h1]at e;cases e
  |some s1=>
   rw[h1]at e;exact wpList_step λK hK=>j9 hs hx hc.1 m h1 λg' a' m' hm=>hK _ _ (lG hs hx r ir _ g' a' s1 s' hc.2 e m' λdF oT oU c8=>hQ dF oT oU (hm.trans c8))
 |[],_::_,_,_,_,_,_,hc,_,_,_=>by simp[cS]at hc
 |_::_,[],_,_,_,_,_,hc,_,_,_=>by simp[cS]at hc
def tag:Nat->List ax->List br->List (Nat×ax×br)
 |i,o::r,f::fs=>(i,o,f)::tag (i+1) r fs
 |_,_,_=>[]
theorem eA.nc {c1:bR} {cx:cA} {s0:Nat}:∀(il:List ax) (i:Nat) (s s':St) (fs:List br),bE c1 cx il (s0+i) s=some (s',fs)->
  eA c1 cx s0 (tag i il fs) s s'/\fs.length=il.length
 |[],i,s,s',fs,e=>by
  simp only[bE,Option.some.injEq,Prod.mk.injEq]at e;obtain⟨rfl,rfl⟩:=e;exact⟨.nil (.refl _),rfl⟩
 |o::r,i,s,s',fs,e=>by
  simp only[bE]at e;cases h1:step c1 cx (s0+i) o s with
  |none=>rw[h1]at e;cases e
  |some s1=>
   rw[h1]at e;simp only[]at e;cases h2:bE c1 cx r (s0+i+1) s1 with
   |none=>rw[h2]at e;cases e
   |some p=>
    rw[h2]at e;simp only[Option.some.injEq,Prod.mk.injEq]at e;obtain⟨rfl,rfl⟩:=e;obtain⟨q1,q2⟩:=eA.nc (s0:=s0) r (i+1) s1 p.1 p.2 h2;exact⟨.cons (kM.of h1) q1,by simp only[List.length_cons];exact congrArg (·+ 1) q2⟩
theorem ka:∀{il:List ax} {fs:List br} {i:Nat} {x:Nat×ax×br},x ∈ tag i il fs->i<=x.1/\il[x.1 - i]?=some x.2.1/\fs[x.1 - i]?=some x.2.2
 |[],fs,i,x,h=>by simp[tag]at h
 |_::_,[],i,x,h=>by simp[tag]at h
 |o::r,f::fs,i,x,h=>by
  simp only[tag,List.mem_cons]at h;rcases h with rfl | h
  ·simp
  ·obtain⟨h1,h2,h3⟩:=ka h;have:x.1 - i=(x.1 - (i+1))+1:=by omega
   exact⟨by omega,by rw[this];simpa using h2,by rw[this];simpa using h3⟩
theorem nd:∀{il:List ax} {fs:List br} {i j:Nat} {o:ax},fs.length=il.length->il[j]?=some o->∃x ∈ tag i il fs,x.1=i+j
 |[],fs,i,j,o,_,h=>by simp at h
 |_::_,[],i,j,o,hl,_=>by simp at hl
 |o'::r,f::fs,i,j,o,hl,h=>by
  cases j with
  |zero=>exact⟨_,List.mem_cons_self ..,rfl⟩
  |succ j=>
   obtain⟨x,h1,h2⟩:=nd (i:=i+1) (fs:=fs) (by simpa using hl) (by simpa using h);exact⟨x,List.mem_cons_of_mem _ h1,by omega⟩
def iB (x:ax) (i:Nat):List ax->Bool
 |[]=>true
 |y::r=>(y.iH.contains i||fR x y)&&iB x i r
def fq:Nat->List ax->Bool
 |_,[]=>true
 |i,x::r=>iB x i r&&fq (i+1) r
theorem gZ {x:ax} {i:Nat}:∀{r:List ax},iB x i r=true->∀y ∈ r,i ∉ y.iH->fR x y=true
 |[],_,y,hy,_=>by simp at hy
 |z::r,h,y,hy,hi=>by
  simp only[iB,Bool.and_eq_true,Bool.or_eq_true,List.contains_iff_mem]at h;rcases List.mem_cons.1 hy with rfl | hy
  ·exact h.1.resolve_left hi
  ·exact gZ h.2 y hy hi
theorem iN {x:br} {i:Nat}:∀{fs:List br} {cs:List (List Nat)},ew x i fs cs=true->∀(j:Nat) (f:br) (c:List Nat),fs[j]?=some f->cs[j]?=some c->i ∉ c->di x f=false
 |[],cs,_,j,f,c,h,_,_=>by simp at h
 |_::_,[],_,j,f,c,_,h,_=>by simp at h
 |f'::fs,c'::cs,h,j,f,c,h1,h2,hi=>by
  simp only[ew,Bool.and_eq_true,Bool.or_eq_true,Bool.not_eq_true',List.contains_iff_mem]at h;cases j with
  |zero=>simp at h1 h2;subst h1 h2;exact h.1.resolve_right hi
  |succ j=>exact iN h.2 j f c (by simpa using h1) (by simpa using h2) hi
def PW (x y:Nat×ax×br):Prop:=x.1<y.1/\(x.1 ∉ y.2.1.iH->rD x y)
theorem oV:∀(il:List ax) (fs:List br) (i:Nat),fq i il=true->(cJ fs i (il.map (·.iH))=true\/∀f ∈ fs,lS f=true)->(tag i il fs).Pairwise PW
 |[],fs,i,_,_=>by simp[tag]
 |_::_,[],i,_,_=>by simp[tag]
 |o::r,f::fs,i,hT,hF=>by
  simp only[fq,Bool.and_eq_true]at hT;simp only[tag,List.pairwise_cons];refine⟨λy hy=>?_,oV r fs (i+1) hT.2 ?_⟩
  ·obtain⟨h1,h2,h3⟩:=ka hy;refine⟨by show i<y.1;omega,λhi=>⟨gZ hT.1 _ (List.mem_of_getElem? h2) hi,?_⟩⟩;rcases hF with hF | hF
   ·simp only[List.map_cons,cJ,Bool.and_eq_true]at hF;exact iN hF.1 _ _ y.2.1.iH h3 (by simp[h2]) hi
   ·have e1:=hF f (List.mem_cons_self ..);have e2:=hF _ (List.mem_cons_of_mem _ (List.mem_of_getElem? h3));cases f with
    |c=>simp[lS]at e1
    |m f=>
     generalize y.2.2=q at e2;cases q with
     |c=>simp[lS]at e2
     |m q=>simp[lS]at e1 e2;simp[di,meets,e1,e2]
  ·rcases hF with hF | hF
   ·simp only[List.map_cons,cJ,Bool.and_eq_true]at hF;exact .inl hF.2
   ·exact .inr λf' C6=>hF f' (List.mem_cons_of_mem _ C6)
def nQ (bB:List ax) (i:Nat) (o:Oper) (io:ax):Bool:=
 o.after.toList.all (λe=>!Region.binds .any e||Nat.blt e.on i) &&
 io.iH.all λa=>o.after.toList.any λe=>Region.binds .any e&&(e.on==a||(match bB[e.on]? with | some x=>x.iH.contains a | none=>false))
def jF (bB:List ax):Nat->List Oper->List ax->Bool
 |i,o::r,io::ir=>nQ bB i o io&&jF bB (i+1) r ir
 |_,_,_=>true
theorem hG {bB:List ax}:∀{l:List Oper} {il:List ax} {i:Nat},jF bB i l il=true->∀(j:Nat) (o:Oper) (io:ax),l[j]?=some o->il[j]?=some io->nQ bB (i+j) o io=true
 |[],_,_,_,j,o,io,h,_=>by simp at h
 |_::_,[],_,_,j,o,io,_,h=>by simp at h
 |o'::r,yP::ir,i,h,j,o,io,h1,h2=>by
  simp only[jF,Bool.and_eq_true]at h;cases j with
  |zero=>simp at h1 h2;subst h1 h2;exact h.1
  |succ j=>have:=hG h.2 j o io (by simpa using h1) (by simpa using h2);rwa [show i+1+j=i+(j+1) by omega]at this
structure Rest (ops:Array Oper) (bB:List ax) (L:List (Nat×ax×br)) (listed:Array Bool):Prop where
 size:listed.size=ops.size
 left:∀x ∈ L,x.1<ops.size/\listed[x.1]?=some false/\bB[x.1]?=some x.2.1
 all:∀(i:Nat),listed[i]?=some false->∃x ∈ L,x.1=i
 down:∀(i:Nat) (io:ax),bB[i]?=some io->listed[i]?=some true->∀a ∈ io.iH,listed[a]?=some true
 pw:L.Pairwise PW
theorem sJ {c1:bR} {cx:cA} (hs:al.bp ν P c1) (DM:bp ν P cx) (mB:eM cx) {nt:Nat} {ops:Array Oper} {bB:List ax} {Q:Exit->Act->World->Prop} {s0:Nat} {s':St}
  (hc:cS P ν nt ops ops.toList bB=true) (uF:jF bB 0 ops.toList bB=true):∀(n:Nat) (L:List (Nat×ax×br)) (listed:Array Bool) (g:Gh) (a:Act) (s:St),L.length=n->Rest ops bB L listed->
  eA c1 cx s0 L s s'->cc ν k nt g a s->(∀g' a',cc ν k nt g' a' s'->aX ν g g'->Q .normal a' g'.w)->wpAny P .any ops Q n listed a g.w:=by
 intro n
 induction n with
 |zero=>
  intro L listed g a s hn hl hr m hQ;cases L with
  |cons=>simp at hn
  |nil=>
   refine⟨?_,?_⟩
   ·refine List.eq_nil_iff_forall_not_mem.2 λj hj=>?_
    obtain⟨h1,o,ho, -⟩:=mem_ready.1 hj;have yQ:j<listed.size:=by rw[hl.size];exact(Array.getElem?_eq_some_iff.1 ho).1
    obtain⟨x,hx, -⟩:=hl.all j (by simp[Array.getD,yQ]at h1;simp[yQ,h1]);cases hx
   ·cases hr with
    |nil h=>exact hQ g a (m.jc h) (.refl ν g)
 |succ n ih=>
  intro L listed g a s hn hl hr m hQ;have gV:∀{j:Nat} {b:Bool} {d:Bool},listed.getD j d=b->b≠d->listed[j]?=some b:=by
   intro j b d h hb;by_cases hj:j<listed.size
   ·simp[Array.getD,hj]at h;simp[hj,h]
   ·simp[Array.getD,hj]at h;exact absurd h.symm hb
  obtain⟨hlen,cf⟩:=fp hc;refine⟨λh0=>?_,λj hj=>?_⟩
  ·exfalso;cases L with
   |nil=>simp at hn
   |cons x r=>
    obtain⟨h1,h2,h3⟩:=hl.left x (List.mem_cons_self ..);have:x.1 ∈ Region.ready .any ops listed:=by
     have ho:ops[x.1]?=some ops[x.1]:=by simp[h1]
     refine mem_ready.2 ⟨by simp[Array.getD_eq_getD_getElem?,h2],_,ho,λe he hb=>?_⟩;have hA:=hG uF x.1 ops[x.1] x.2.1 (by simp[h1]) h3;simp only[nQ,Bool.and_eq_true,List.all_eq_true,Nat.zero_add]at hA;have aV:=hA.1 e (by simpa using he);simp only[hb,Bool.not_true,Bool.false_or,Nat.blt_eq]at aV;have uG:e.on<listed.size:=by rw[hl.size];omega
     cases hv:listed[e.on]with
     |true=>simp[uG,hv]
     |false=>
      obtain⟨y,hy,mW⟩:=hl.all e.on (by simp[uG,hv]);rcases List.mem_cons.1 hy with rfl | hy
      ·omega
      ·have:=(List.pairwise_cons.1 hl.pw).1 y hy;have:=this.1;omega
    rw[h0]at this;cases this
  ·obtain⟨h1,o,ho,xo⟩:=mem_ready.1 hj;obtain⟨x,hx,rfl⟩:=hl.all j (gV h1 (by simp));obtain⟨L1,L2,rfl⟩:=List.append_of_mem hx;obtain⟨aV,oW,uH⟩:=hl.left x hx;have hA:=hG uF x.1 o x.2.1 (by simpa using ho) uH;simp only[nQ,Bool.and_eq_true,List.all_eq_true,List.any_eq_true,Nat.zero_add]at hA;have og:∀b ∈ x.2.1.iH,listed[b]?=some true:=by
    intro b hb;obtain⟨e,he,h2,h3⟩:=hA.2 b hb;have iF:=gV (xo e (by simpa using he) h2) (by simp);simp only[Bool.or_eq_true,beq_iff_eq]at h3;rcases h3 with h3 | h3
    ·subst h3;exact iF
    ·split at h3
     ·rename_i y hy;exact hl.down e.on y hy iF b (by simpa using h3)
     ·cases h3
   have kH:=List.pairwise_append.1 hl.pw;have uI:=List.pairwise_cons.1 kH.2.1;obtain⟨s1,Dz,r1⟩:=eA.front mB L1 s hr λy hy=>by
    obtain⟨q1,q2⟩:=kH.2.2 y hy x (List.mem_cons_self ..);refine q2 λhb=>?_
    have:=og _ hb;rw[(hl.left y (by simp[hy])).2.1]at this;cases this
   have e1:=Dz.step mB;have jx:Rest ops bB (L1++L2) (listed.setIfInBounds x.1 true):=by
    have bG:∀y ∈ L1++L2,x.1≠y.1:=by
     intro y hy;rcases List.mem_append.1 hy with hy | hy
     ·have:=(kH.2.2 y hy x (List.mem_cons_self ..)).1;omega
     ·have:=(uI.1 y hy).1;omega
    have oX:x.1<listed.size:=by rw[hl.size];exact aV
    refine⟨by simpa using hl.size,λy hy=>?_,λi hi=>?_,λi io rF hi b hb=>?_,List.pairwise_append.2 ⟨kH.1,uI.2,λy hy z hz=>kH.2.2 y hy z (List.mem_cons_of_mem _ hz)⟩⟩
    ·obtain⟨q1,q2,q3⟩:=hl.left y (by rcases List.mem_append.1 hy with h | h<;>simp[h]);exact⟨q1,by rw[Array.getElem?_setIfInBounds_ne (bG y hy)];exact q2,q3⟩
    ·by_cases lH:x.1=i
     ·subst lH;simp[oX]at hi
     ·rw[Array.getElem?_setIfInBounds_ne lH]at hi;obtain⟨y,hy,yR⟩:=hl.all i hi;refine⟨y,?_,yR⟩;simp only[List.mem_append,List.mem_cons]at hy ⊢;rcases hy with h | rfl | h
      ·exact .inl h
      ·exact absurd yR lH
      ·exact .inr h
    ·have oM:∀{b:Nat},listed[b]?=some true->(listed.setIfInBounds x.1 true)[b]?=some true:=by
      intro b hb;by_cases yS:x.1=b
      ·subst yS;simp[oX]
      ·rw[Array.getElem?_setIfInBounds_ne yS];exact hb
     by_cases lH:x.1=i
     ·subst lH;rw[uH]at rF;cases rF;exact oM (og b hb)
     ·rw[Array.getElem?_setIfInBounds_ne lH]at hi;exact oM (hl.down i io rF hi b hb)
   unfold wpOp;simp only[ho];have hw:=j9 (Q:=Q) hs DM (cf x.1 o x.2.1 (by simpa using ho) uH) m e1 (next:=wpAny P .any ops Q n (listed.setIfInBounds x.1 true)) λg' a' m' hm=>
    ih (L1++L2) _ g' a' s1 (by simp at hn ⊢;omega) jx r1 m' λdF oT oU c8=>hQ dF oT oU (hm.trans c8)
   split
   ·rename_i h;rw[if_pos h]at hw;exact .inl hw
   ·rename_i h;rw[if_neg h]at hw;exact hw
def jG (P:Program) (ν:Nat->Nat) (nt:Nat) (draw:Bool) (ops:Array Oper) (bB:List ax):Bool:=
 cS P ν nt ops ops.toList bB&&(!draw||(jF bB 0 ops.toList bB&&fq 0 bB))
theorem ft:∀(aF:List Nat) (fr:Fr) (t:Nat) (x:AV),get (aY aF fr) t=some x->get fr t=some x
 |[],fr,t,x,h=>by simp[aY,eC]at h
 |k::r,fr,t,x,h=>by
  simp only[aY]at h;cases hk:get fr k with
  |none=>rw[hk]at h;exact ft r fr t x h
  |some y=>
   rw[hk]at h;simp only[bV]at h;split at h
   ·rename_i h0;subst h0;rw[hk];exact h
   ·exact ft r fr t x h
theorem cc.aF {nt:Nat} {g:Gh} {a:Act} {s:St} (m:cc ν k nt g a s) (aF:List Nat):cc ν k nt g a { s with fr:=aY aF s.fr }:=
 ⟨m.h,m.r,λt x ht=>m.f t x (ft aF s.fr t x ht),m.n,m.d⟩
theorem cc.next {nt:Nat} {g:Gh} {a:Act} {s:St} (m:cc ν k nt g a s) (n:Nat):cc ν k nt g a { s with nx:=n }:=⟨m.h,m.r,m.f,m.n,m.d⟩
theorem jH {c1:bR} {cx:cA} (hs:al.bp ν P c1) (hx:bp ν P cx) (mB:eM cx) (er:P.follows .mixedOrders=true) {nt id:Nat} {draw:Bool} {ops:Array Oper} {bB:List ax} {aF:List Nat}
  (hc:jG P ν nt draw ops bB=true) {g:Gh} {a:Act} {s s':St} (e:aQ c1 cx draw bB aF s=some s') (m:cc ν k nt g a s) {Q:Exit->Act->World->Prop}
  (hQ:∀g' a',cc ν k nt g' a' s'->aX ν g g'->Q .normal a' g'.w):(Code.region id ops draw).wp P Q a g.w:=by
 unfold aQ at e;generalize FY:({ s with nx:=s.nx+bB.length }:St)=t at e;have mt:cc ν k nt g a t:=by rw[<-FY];exact m.next _
 generalize s.nx=n0 at e;clear FY m;simp only[jG,Bool.and_eq_true]at hc;cases draw with
 |false=>
  simp only[Bool.false_eq_true,if_false]at e;cases h1:aW c1 cx bB n0 t with
  |none=>rw[h1]at e;cases e
  |some s1=>
   rw[h1]at e;simp only[Option.some.injEq]at e;subst e;exact wp_region_list (lG hs hx ops.toList bB n0 g a t s1 hc.1 h1 mt λg' a' m' hm=>hQ g' a' (m'.aF aF) hm)
 |true=>
  simp only[if_true]at e;cases h1:bE c1 cx bB n0 t with
  |none=>rw[h1]at e;cases e
  |some p=>
   obtain⟨s1,fs⟩:=p;rw[h1]at e;simp only[]at e;split at e
   case isFalse=>cases e
   rename_i oY;simp only[Option.some.injEq]at e;subst e;simp only[Bool.not_true,Bool.false_or,Bool.and_eq_true]at hc;refine wp_region_any er ?_;obtain⟨r',hm⟩:=mt.r.world (w':={ g.w with drawn:=g.w.drawn+1 }) (I':=g.I) (λ_ h=>h) (λ_ h=>.inl h) (Nat.le_refl _) rfl rfl rfl λ_ _=>rfl
   obtain⟨bd,hlen⟩:=eA.nc (s0:=n0) bB 0 t s1 fs (by simpa using h1);have hn:=(fp hc.1).1;simp only[Array.length_toList]at hn;have kH:=oV bB fs 0 hc.2.2 (by
    simp only[gx,Bool.or_eq_true,List.all_eq_true]at oY;exact oY.symm)
   have aV:(tag 0 bB fs).length=ops.size:=by
    rw[hn];generalize 0=i;clear bd kH oY h1 hc hn hQ
    induction bB generalizing fs i with
    |nil=>simp[tag]
    |cons o r ih=>
     cases fs with
     |nil=>simp at hlen
     |cons f fs=>simp only[tag,List.length_cons];rw[ih fs (by simpa using hlen)]
   refine sJ hs hx mB hc.1 hc.2.1 ops.size _ _ { g with w:={ g.w with drawn:=g.w.drawn+1 } } a t aV ?_ bd ⟨mt.h,r',mt.f.mono hm,mt.n,mt.d⟩ λg' a' m' c8=>hQ g' a' (m'.aF aF) (hm.trans c8)
   refine⟨by simp,λx hx=>?_,λi hi=>?_,λi io _ hi=>?_,kH⟩
   ·obtain⟨q1,q2,q3⟩:=ka hx;simp only[Nat.sub_zero]at q2;have:x.1<ops.size:=by rw[hn];exact(List.getElem?_eq_some_iff.1 q2).1
    exact⟨this,by simp[this],q2⟩
   ·have bX:i<ops.size:=by
     have:=(Array.getElem?_eq_some_iff.1 hi).1;simpa using this
    obtain⟨x,hx,lH⟩:=nd (i:=0) (j:=i) (il:=bB) hlen (List.getElem?_eq_getElem (by omega));exact⟨x,hx,by omega⟩
   ·have bX:=(Array.getElem?_eq_some_iff.1 hi);obtain⟨q1,q2⟩:=bX;simp at q2
end
section
variable {ν:Nat->Nat} {P:Program} {k:Cx}
def cj (P:Program) (ν:Nat->Nat) (nt:Nat):Code->IC->Bool
 |.skip,.skip=>true
 |.label _,.skip=>true
 |.region _ ops draw,.gm d bB _=>draw==d&&jG P ν nt draw ops bB
 |.seq a b,.seq x y=>cj P ν nt a x&&cj P ν nt b y
 |.cond c a b,.cond d x y=>aG ν c d&&cj P ν nt a x&&cj P ν nt b y
 |.block id a,.block jd x=>id==jd&&cj P ν nt a x
 |.loop a,.loop _ x=>cj P ν nt a x
 |.exit id,.exit jd=>id==jd
 |.ret,.ret=>true
 |.scope a,.scope x=>cj P ν nt a x
 |_,.stop=>true
 |_,_=>false
theorem sM {c1:bR} {cx:cA} (hs:al.bp ν P c1) (hx:bp ν P cx) (mB:eM cx) (er:P.follows .mixedOrders=true) {nt n:Nat}:∀(ic:IC) (c:Code),cj P ν nt c ic=true->
  ∀(g:Gh) (a:Act) (s:St) (r:Ex) (s':St),aD c1 cx n ic s=some (r,s')->cc ν k nt g a s->∀Q:Exit->Act->World->Prop,(∀g' a',cc ν k nt g' a' s'->aX ν g g'->Q r.U a' g'.w)->c.wp P Q a g.w:=by
 intro ic
 induction ic with
 |skip=>
  intro c hc g a s r s' e m Q hQ;simp only[aD,Option.some.injEq,Prod.mk.injEq]at e;obtain⟨rfl,rfl⟩:=e;cases c<;>simp only[cj,Bool.false_eq_true]at hc
  ·exact wp_skip (hQ g a m (.refl ν g))
  ·exact wp_label (hQ g a m (.refl ν g))
 |gm draw ops aF=>
  intro c hc g a s r s' e m Q hQ;cases c<;>simp only[cj,Bool.false_eq_true]at hc;rename_i id G1 Fc;simp only[Bool.and_eq_true,beq_iff_eq]at hc;obtain⟨rfl,hc⟩:=hc;simp only[aD,Option.map_eq_some_iff,Prod.mk.injEq]at e;obtain⟨s1,e1,rfl,rfl⟩:=e;exact jH hs hx mB er hc e1 m λg' a' m' hm=>hQ g' a' m' hm
 |seq x y uJ uK=>
  intro c hc g a s r s' e m Q hQ;cases c<;>simp only[cj,Bool.false_eq_true]at hc;simp only[Bool.and_eq_true]at hc;refine wp_seq ?_;simp only[aD]at e;cases h1:aD c1 cx n x s with
  |none=>rw[h1]at e;cases e
  |some p=>
   obtain⟨r1,s1⟩:=p;rw[h1]at e;refine uJ _ hc.1 g a s r1 s1 h1 m _ λg' a' m' hm=>?_
   cases r1 with
   |norm=>exact uK _ hc.2 g' a' s1 r s' e m' Q λdF oT oU c8=>hQ dF oT oU (hm.trans c8)
   |exit i=>simp only[Option.some.injEq,Prod.mk.injEq]at e;obtain⟨rfl,rfl⟩:=e;exact hQ g' a' m' hm
   |ret=>simp only[Option.some.injEq,Prod.mk.injEq]at e;obtain⟨rfl,rfl⟩:=e;exact hQ g' a' m' hm
 |cond d x y uJ uK=>
  intro c hc g a s r s' e m Q hQ;cases c<;>simp only[cj,Bool.false_eq_true]at hc;rename_i cd cX cY;simp only[Bool.and_eq_true]at hc;simp only[aD]at e;split at e
  ·rename_i t ht;have hR:=ak m.f hc.1.1;rw[ht]at hR;generalize hv:a.eval cd=v at hR;cases hR with
   |iv h=>
    cases h with
    |bool=>
     refine wp_cond hv ?_;cases t with
     |true=>exact uJ _ hc.1.2 g a s r s' e m Q hQ
     |false=>exact uK _ hc.2 g a s r s' e m Q hQ
  ·cases e
 |block id x ih=>
  intro c hc g a s r s' e m Q hQ;cases c<;>simp only[cj,Bool.false_eq_true]at hc;simp only[Bool.and_eq_true,beq_iff_eq]at hc;obtain⟨rfl,hc⟩:=hc;refine wp_block ?_;simp only[aD]at e;cases h1:aD c1 cx n x s with
  |none=>rw[h1]at e;cases e
  |some p=>
   obtain⟨r1,s1⟩:=p;rw[h1]at e;refine ih _ hc g a s r1 s1 h1 m _ λg' a' m' hm=>?_
   cases r1 with
   |norm=>simp only[Option.some.injEq,Prod.mk.injEq]at e;obtain⟨rfl,rfl⟩:=e;exact hQ g' a' m' hm
   |ret=>simp only[Option.some.injEq,Prod.mk.injEq]at e;obtain⟨rfl,rfl⟩:=e;exact hQ g' a' m' hm
   |exit i=>
    simp only[Ex.U,Exit.inBlock];simp only[]at e;split at e
    ·rename_i hi;simp only[Option.some.injEq,Prod.mk.injEq]at e;obtain⟨rfl,rfl⟩:=e;rw[if_pos hi];exact hQ g' a' m' hm
    ·rename_i hi;simp only[Option.some.injEq,Prod.mk.injEq]at e;obtain⟨rfl,rfl⟩:=e;rw[if_neg hi];exact hQ g' a' m' hm
 |loop aF x ih=>
  intro c hc g a s r s' e m Q hQ;cases c<;>simp only[cj,Bool.false_eq_true]at hc;rename_i cX;simp only[aD]at e;refine tg (λj a w=>∃g1 s1,g1.w=w/\cc ν k nt g1 a s1/\aX ν g g1/\iter (aD c1 cx n x) aF j s1=some (r,s')) ?_ ?_ (n:=n) ⟨g,_,rfl,m.aF aF,.refl ν g,e⟩
  ·rintro a w ⟨g1,s1, -, -, -,h⟩;simp[iter]at h
  ·rintro j a w ⟨g1,s1,rfl,m1,gS,h⟩;simp only[iter]at h;cases h1:aD c1 cx n x s1 with
   |none=>rw[h1]at h;cases h
   |some p=>
    obtain⟨r2,s2⟩:=p;rw[h1]at h;refine ih _ hc g1 a s1 r2 s2 h1 m1 _ λg' a' m' hm=>?_
    cases r2 with
    |norm=>exact⟨g',_,rfl,m'.aF aF,gS.trans hm,h⟩
    |exit i=>simp only[Option.some.injEq,Prod.mk.injEq]at h;obtain⟨rfl,rfl⟩:=h;exact hQ g' a' m' (gS.trans hm)
    |ret=>simp only[Option.some.injEq,Prod.mk.injEq]at h;obtain⟨rfl,rfl⟩:=h;exact hQ g' a' m' (gS.trans hm)
 |scope x ih=>
  intro c hc g a s r s' e m Q hQ;cases c<;>simp only[cj,Bool.false_eq_true]at hc;refine wp_scope_straight (ih _ hc g a s r s' e m _ λg' a' m' hm=>?_);have:=hQ g' a' m' hm;cases r<;>exact this
 |stop=>
  intro c hc g a s r s' e m Q hQ;simp[aD]at e
 |exit id=>
  intro c hc g a s r s' e m Q hQ;cases c<;>simp only[cj,Bool.false_eq_true]at hc;simp only[aD,Option.some.injEq,Prod.mk.injEq]at e;obtain⟨rfl,rfl⟩:=e;rw[beq_iff_eq]at hc;subst hc;exact wp_exit (hQ g a m (.refl ν g))
 |ret=>
  intro c hc g a s r s' e m Q hQ;cases c<;>simp only[cj,Bool.false_eq_true]at hc;simp only[aD,Option.some.injEq,Prod.mk.injEq]at e;obtain⟨rfl,rfl⟩:=e;exact wp_ret (hQ g a m (.refl ν g))
end
section
variable {ν:Nat->Nat} {P:Program} {k:Cx}
def hP (P:Program):ResultVar->dY->Bool
 |.tmp t,.t n=>t==n
 |.cell a t,.cell n agg sz=>a==n&&fE P t sz agg
 |_,_=>false
def cP (P:Program):List ResultVar->List dY->Bool
 |[],[]=>true
 |r::rs,x::xs=>hP P r x&&cP P rs xs
 |_,_=>false
theorem nf {g:Gh} (r:Rel ν k g) {a:Act} {fr:Fr} (hf:eU ν g a.tmps fr) {rv:ResultVar} {x:dY} (hc:hP P rv x=true) {y:AV} {h':Hp} (e:(jX fr x).run g.h=some (y,h')) :
  h'=g.h/\∃v,(iO a.tmps rv).run P g.w = .ok v g.w/\RA ν g v y:=by
 cases x with
 |t n=>
  cases rv with
  |cell=>simp[hP]at hc
  |tmp t=>
   obtain⟨rfl,rfl⟩:=af e;exact⟨rfl,_,by simp[iO,Act.eval],ak (ν:=ν) (x:=.tmp t) (a:=a) hf (by simpa[aG,hP]using hc)⟩
 |cell n agg sz=>
  cases rv with
  |tmp=>simp[hP]at hc
  |cell t ty=>
   simp only[hP,Bool.and_eq_true]at hc;obtain⟨rfl,u,hu,yT⟩:=la r hc.2 (ak (ν:=ν) (x:=.tmp t) hf (by simpa[aG]using hc.1)) e;exact⟨rfl,u,sN hu,yT⟩
theorem kI {g:Gh} (r:Rel ν k g) {a:Act} {fr:Fr} (hf:eU ν g a.tmps fr):∀(eB:List ResultVar) (xs:List dY) (ys:List AV) (h':Hp),cP P eB xs=true->(M.aN (jX fr) xs).run g.h=some (ys,h')->
  h'=g.h/\∃vs,vs.length=eB.length/\(∀(j:Nat) (rv:ResultVar) (v:Value),eB[j]?=some rv->vs[j]?=some v->(iO a.tmps rv).run P g.w = .ok v g.w)/\RL ν g vs ys
 |[],[],ys,h',_,e=>by
  obtain⟨rfl,rfl⟩:=b9 e;exact⟨rfl,[],rfl,λj rv v h=>by simp at h,.nil⟩
 |rv::eB,x::xs,ys,h',hc,e=>by
  simp only[cP,Bool.and_eq_true]at hc;obtain⟨y,h1,zs,e1,e2,rfl⟩:=bU e;obtain⟨rfl,v,q1,q6⟩:=nf r hf hc.1 e1;obtain⟨rfl,vs,p1,p2,p7⟩:=kI r hf eB xs zs h' hc.2 e2;refine⟨rfl,v::vs,by simp[p1],λj yU v' hj hv=>?_,.cons q6 p7⟩;cases j with
  |zero=>simp at hj hv;subst hj hv;exact q1
  |succ j=>exact p2 j yU v' (by simpa using hj) (by simpa using hv)
 |[],_::_,_,_,hc,_=>by simp[cP]at hc
 |_::_,[],_,_,hc,_=>by simp[cP]at hc
theorem kJ {g:Gh} (r:Rel ν k g) {a:Act} {fr:Fr} (hf:eU ν g a.tmps fr) {fn:Func} {xs:List dY} (hc:cP P fn.results.toList xs=true) (h4:xs.length<=4) {y:AV} {h':Hp} (e:(dB fr xs).run g.h=some (y,h')) :
  h'=g.h/\∃v,(results fn a.tmps).run P g.w = .ok v g.w/\RA ν g v y:=by
 have hlen:∀{eB:List ResultVar} {xs:List dY},cP P eB xs=true->eB.length=xs.length:=by
  intro eB
  induction eB with
  |nil=>intro xs h;cases xs with | nil=>rfl | cons=>simp[cP]at h
  |cons a r ih=>intro xs h;cases xs with | nil=>simp[cP]at h | cons x xs=>simp only[cP,Bool.and_eq_true]at h;simp[ih h.2]
 have hn:=hlen hc;have many:∀{ys:List AV} {h':Hp},(M.aN (jX fr) xs).run g.h=some (ys,h')->xs.length≠1->h'=g.h/\∃v,(results fn a.tmps).run P g.w = .ok v g.w/\RA ν g v (.aR ys):=by
  intro ys h' e bG;obtain⟨rfl,vs,p1,p2,p7⟩:=kI r hf fn.results.toList xs ys h' hc e;refine⟨rfl,.tuple vs.toArray,?_,.aR (by simpa using p7.1) λj v c h1 h2=>p7.2 j v c (by simpa using h1) h2⟩;rw[km (eB:=fn.results.toList) (by simp) (by omega) p1 p2];rcases vs with _ | ⟨v,_ | ⟨u,vs⟩⟩
  ·rfl
  ·exact absurd (hn.symm.trans p1.symm) (by simpa using bG)
  ·rfl
 rcases xs with _ | ⟨x,_ | ⟨x2,xs⟩⟩
 ·obtain⟨l,h1,e1,e2⟩:=ag e;obtain⟨rfl,rfl⟩:=af e2;exact many e1 (by simp)
 ·rcases hl:fn.results.toList with _ | ⟨rv,_ | ⟨JV,eB⟩⟩
  ·rw[hl]at hn;simp at hn
  ·rw[hl]at hc;simp only[cP,Bool.and_true]at hc;obtain⟨rfl,v,q1,q6⟩:=nf r hf hc e;refine⟨rfl,v,?_,q6⟩;refine km (eB:=[rv]) (vs:=[v]) (by rw[<-hl]) (by simp) rfl λj yU v' hj hv=>?_
   cases j with
   |zero=>simp at hj hv;subst hj hv;exact q1
   |succ j=>simp at hj
  ·rw[hl]at hn;simp at hn
 ·obtain⟨l,h1,e1,e2⟩:=ag e;obtain⟨rfl,rfl⟩:=af e2;exact many e1 (by simp)
def pZ (P:Program) (ν:Nat->Nat) (fn:Func) (c:Code) (ir:an):Bool:=
 cj P ν fn.ntmps c ir.body&&cP P fn.results.toList ir.res&&Nat.ble ir.res.length 4&&ir.gF.isNone
abbrev pQ:=bR->cA->List AV->Hp->Nat->Option (AV×Hp×Nat)
def DN (P:Program) (ν:Nat->Nat) (f:Nat) (p:pQ):Prop:=
 ∀(c1:bR) (cx:cA),al.bp ν P c1->bp ν P cx->∀args hp nx r bN dL,p c1 cx args hp nx=some (r,bN,dL)->
  (∃fn,P.funcs[ν f]?=some fn/\fn.body.isSome=true/\(fn.name=="runtime.NumGoroutine")=false)/\gW ν P f args hp r bN
def kn (P:Program) (ν:Nat->Nat) (f:Nat) (ir:an):Prop:=
 (∃fn c,P.funcs[ν f]?=some fn/\fn.body=some c/\(fn.name=="runtime.NumGoroutine")=false/\pZ P ν fn c ir=true)\/∃p,ir.gF=some p/\DN P ν f p/\kg p
def jW (P:Program) (ν:Nat->Nat) (prog:Nat->Option an):Prop:=∀f ir,prog f=some ir->kn P ν f ir
theorem jJ:∀(l:List AV) (i t:Nat),get (params l i) t=if i<=t then l[t - i]? else none
 |[],i,t=>by simp[params,eC]
 |x::r,i,t=>by
  simp only[params,bV];by_cases h:i=t
  ·subst h;simp
  ·rw[if_neg h,jJ r (i+1) t];by_cases h':i+1<=t
   ·rw[if_pos h',if_pos (by omega)];have:t - i=(t - (i+1))+1:=by omega
    rw[this];simp
   ·rw[if_neg h',if_neg (by omega)]
theorem sound (er:P.follows .mixedOrders=true) {c1:bR} (hs:al.bp ν P c1) {prog:Nat->Option an} (tie:jW P ν prog):∀n,bp ν P (bg c1 prog n):=by
 have mB:=rS (c1:=c1) (prog:=prog) λf ir p hf hp=>by
  rcases tie f ir hf with⟨fn,c, -, -, -,jj⟩|⟨p',h1, -,h2⟩
  ·simp[pZ,hp]at jj
  ·rw[hp]at h1;cases h1;exact h2
 intro n
 induction n with
 |zero=>intro f args hp nx r bN dL e;simp[bg]at e
 |succ n ih=>
  intro f args hp nx r bN dL e;simp only[bg]at e;cases hf:prog f with
  |none=>rw[hf]at e;cases e
  |some ir=>
   rw[hf]at e;simp only[]at e;rcases tie f ir hf with⟨fn,c,dp,hb,rC,jj⟩|⟨p,jf,bQ, -⟩
   case inr=>rw[jf]at e;exact bQ c1 _ hs ih args hp nx r bN dL e
   refine⟨⟨fn,dp,by simp[hb],rC⟩,?_⟩;simp only[pZ,Bool.and_eq_true,Nat.ble_eq,Option.isNone_iff_eq_none]at jj;obtain⟨⟨⟨uO,o0⟩,yV⟩,uP⟩:=jj;rw[uP]at e;simp only[]at e;split at e
   ·rename_i hlen;intro k0 g0 aT hh r0 dn;refine calls_of_wp dp hb ?_;have m0:cc ν k0 fn.ntmps g0 { tmps:=aT++Array.replicate (fn.ntmps - aT.size) undef,defers:=[] } ⟨params args 0,hp,nx⟩:=by
     refine⟨hh,r0,λt x ht=>?_,by simp;omega,rfl⟩;simp only[jJ,Nat.zero_le,if_true,Nat.sub_zero]at ht;have aV:t<aT.size:=by have:=dn.1;have:=aA ht;simp only[Array.length_toList]at *;omega
     refine⟨aT[t],by simp[Array.getElem?_append,aV],dn.2 t _ _ (by simp[aV]) ht⟩
    cases he:aD c1 (bg c1 prog n) n ir.body ⟨params args 0,hp,nx⟩with
    |none=>rw[he]at e;cases e
    |some p=>
     obtain⟨ex,s⟩:=p;rw[he]at e;have fin:∀(g':Gh) (a':Act),cc ν k0 fn.ntmps g' a' s->aX ν g0 g'->(match(dB s.fr ir.res).run s.hp with | some (v,h)=>some (v,h,s.nx) | none=>none)=some (r,bN,dL)->
       a'.defers=[]/\∃v,(results fn a'.tmps).run P g'.w = .ok v g'.w/\
       ∃u dF,Ending.returned v = .returned u/\dF.w=g'.w/\dF.h=bN/\Rel ν k0 dF/\aX ν g0 dF/\RA ν dF u r:=by
      intro g' a' m' hm hr;cases DO:(dB s.fr ir.res).run s.hp with
      |none=>rw[DO]at hr;cases hr
      |some q=>
       obtain⟨y,h1⟩:=q;rw[DO]at hr;cases hr;obtain⟨rfl,v,q1,q6⟩:=kJ m'.r m'.f o0 yV (by rw[m'.h];exact DO);exact⟨m'.d,v,q1,v,g',rfl,rfl,rfl,m'.r,hm,q6⟩
     refine sM hs ih (mB n) er ir.body c uO g0 _ _ ex s he m0 _ λg' a' m' hm=>?_
     cases ex with
     |norm=>exact fin g' a' m' hm e
     |ret=>exact fin g' a' m' hm e
     |exit i=>cases e
   ·cases e
end
def eK (d:Nat) (x:aK):ax:=⟨some d,.l9 x,none,[]⟩
def nR (e:Nat):List ax:=[⟨some 5,.Bq e,none,[]⟩,eK 6 (.t 0),⟨some 7,.app e false (.t 5) (.t 6),none,[]⟩,eK 2 (.t 7)]
def rG (P:Program) (nt e:Nat) (b:Oper):Bool:=
 b.dst==some 4&&Nat.blt 4 nt&&(match b.guard with | none=>true | _=>false)&&(match b.op with | .binOp .eql t (.tmp 3) (.const (.slice none 0 0)) _=>sliceB P t e | _=>false)
def lL (P:Program) (ν:Nat->Nat) (nt:Nat) (c:Code) (e:Nat):Bool:=
 match c with
 |.seq (.region _ o1 false) (.seq (.seq (.region _ o2 false) (.cond (.tmp 4) (.seq (.region _ o3 false) .ret) .skip)) (.seq (.region _ o4 false) .ret))=>
  jG P ν nt false o1 [eK 2 (.c (.iv (.az e)))]&&(match o2.toList with | [a,b]=>fI P ν nt o2 a (eK 3 (.t 0))&&rG P nt e b | _=>false) &&
  jG P ν nt false o3 [eK 2 (.c (.iv (.az e)))]&&jG P ν nt false o4 (nR e)
 |_=>false
section
variable {ν:Nat->Nat} {P:Program} {k:Cx}
def hU:bR:=λ_ _ _=>none
def vl:cA:=λ_ _ _ _=>none
theorem dG:al.bp ν P hU:=λf args hp r bN e=>by simp[hU]at e
theorem mC:bp ν P vl:=λf args hp nx r bN dL e=>by simp[vl]at e
theorem qJ:eM vl:=λf args hp nx r bN dL e=>by simp[vl]at e
theorem rW {e:Nat} {x:AV} {hp h':Hp} {ys:List (List AV)} (he:(elems e x).run hp=some (ys,h')):h'=hp:=by
 unfold elems at he;split at he
 ·obtain⟨o,hg,e2⟩:=M.aM he;split at e2
  all_goals first
   |exact(ae e2).elim
   |(obtain⟨_,e4⟩:=M.aj e2
     exact(af e4).2)
 ·obtain⟨_,e4⟩:=M.aj he;exact(af e4).2
 ·exact(af he).2
 ·exact(ae he).elim
theorem vO {e:Nat} {x:AV} {hp h':Hp} {ys:List (List AV)} (he:(elems e x).run hp=some (ys,h')):lR e x=elems e x:=by
 unfold lR;split
 ·simp[elems,M.run]at he
 ·rfl
theorem uL (e:Nat) (x:AV) (hp:Hp) (nx:Nat):aQ hU vl false [eK 2 (.c (.iv (.az e)))] [0] ⟨[(0,x)],hp,nx⟩=some ⟨[(0,x)],hp,nx+1⟩:=rfl
theorem uM (e:Nat) (fr:Fr) (hp:Hp) (nx:Nat):aQ hU vl false [eK 2 (.c (.iv (.az e)))] [2] ⟨fr,hp,nx⟩=some ⟨[(2,.iv (.az e))],hp,nx+1⟩:=by
 have:get (au.set fr 2 (AV.iv (.az e))) 2=some (.iv (.az e)):=aq _ _ _;simp[aQ,eK,aW,step,bK,dD,bn,M.run,bj,ev,aY,this]
theorem uN {e:Nat} {x:AV} {hp:Hp} {nx:Nat} {ys:List (List AV)} (he:(elems e x).run hp=some (ys,hp)) (hr:ys≠[]->roomy ys.length=true/\get hp (4*(nx+2))=none) :
  aQ hU vl false (nR e) [2] ⟨[(0,x)],hp,nx⟩ =
   some ⟨[(2,if ys.isEmpty then .iv (.az e) else .own (4*(nx+2)) 0 ys.length 0)],if ys.isEmpty then hp else au.set hp (4*(nx+2)) (.buf 0 e ys),nx+4⟩:=by
 have hs:=vO he;cases ys with
 |nil=>simp[aQ,nR,eK,aW,step,bK,dD,bn,bc,M.run,bj,ev,aY,aP,bV,app,hs,he]
 |cons y ys=>
  obtain⟨h1,h2⟩:=hr (by simp);have Da:au.get hp (4*(nx+1+1))=none:=h2;have kG:roomy (ys.length+1)=true:=by simpa using h1
  simp[aQ,nR,eK,aW,step,bK,dD,bn,bc,M.run,bj,ev,aY,aP,bV,app,hs,he,M.ok,M.fresh,M.write,kG,Da]
theorem cc.nx {nt:Nat} {g:Gh} {a:Act} {s:St} (m:cc ν k nt g a s) {fr:Fr} (hf:∀t x,get fr t=some x->get s.fr t=some x) {hp:Hp} (hh:hp=s.hp) (n:Nat):cc ν k nt g a ⟨fr,hp,n⟩:=by
 subst hh;exact⟨m.h,m.r,λt x ht=>m.f t x (hf t x ht),m.n,m.d⟩
theorem qB {f:Nat} {fn:Func} {c:Code} (dp:P.funcs[ν f]?=some fn) (hb:fn.body=some c) (er:P.follows .mixedOrders=true) {e:Nat} (hc:lL P ν fn.ntmps c e=true)
  (Ad:cP P fn.results.toList [.t 2]=true) {c1:bR} {cx:cA} {args:List AV} {hp:Hp} {nx:Nat} {r:AV} {bN:Hp} {dL:Nat} (he:Prim.clone e c1 cx args hp nx=some (r,bN,dL)):gW ν P f args hp r bN:=by
 intro k0 g0 aT hh r0 dn;unfold Prim.clone at he;split at he
 case h_2=>cases he
 rename_i x;cases iF:(elems e x).run hp with
 |none=>rw[iF]at he;cases he
 |some p=>
 obtain⟨ys,h1⟩:=p;obtain rfl:=rW iF;rw[iF]at he;simp only[]at he;have jI:(ys≠[]->roomy ys.length=true/\get h1 (4*(nx+2))=none)/\r=(if ys.isEmpty then .iv (.az e) else .own (4*(nx+2)) 0 ys.length 0)/\bN=(if ys.isEmpty then h1 else au.set h1 (4*(nx+2)) (.buf 0 e ys)):=by
  cases ys with
  |nil=>
   simp only[Option.some.injEq,Prod.mk.injEq]at he;obtain⟨rfl,rfl, -⟩:=he;exact⟨λh=>absurd rfl h,rfl,rfl⟩
  |cons y ys=>
   simp only[]at he;split at he
   ·rename_i hk;simp only[Bool.and_eq_true,Option.isNone_iff_eq_none]at hk;simp only[Option.some.injEq,Prod.mk.injEq]at he;obtain⟨rfl,rfl, -⟩:=he;exact⟨λ_=>hk,rfl,rfl⟩
   ·cases he
 obtain⟨dk,rfl,rfl⟩:=jI;obtain⟨cv,fV⟩:∃cv,aT=#[cv]:=by
  have:=dn.1;simp only[List.length_cons,List.length_nil,Nat.zero_add,Array.length_toList]at this;obtain⟨l⟩:=aT
  match l,this with
  |[v],_=>exact⟨v,rfl⟩
 subst fV;have ru:RA ν g0 cv x:=dn.2 0 _ _ rfl rfl;refine calls_of_wp dp hb ?_;have m0:cc ν k0 fn.ntmps g0 { tmps:=#[cv]++Array.replicate (fn.ntmps - 1) undef,defers:=[] } ⟨[(0,x)],h1,nx⟩:=by
  refine⟨hh,r0,λt x' ht=>?_,by simp;omega,rfl⟩;simp only[bV,eC]at ht;split at ht
  ·rename_i h0;subst h0;simp only[Option.some.injEq]at ht;subst ht;exact⟨cv,by simp[Array.getElem?_append],ru⟩
  ·cases ht
 unfold lL at hc;split at hc
 case h_2=>cases hc
 rename_i i1 o1 i2 o2 i3 o3 i4 o4;simp only[Bool.and_eq_true]at hc;obtain⟨⟨⟨uO,o0⟩,yV⟩,uP⟩:=hc;split at o0
 case h_2=>cases o0
 rename_i oa ob hl;simp only[Bool.and_eq_true]at o0;obtain⟨C7,de⟩:=o0;simp only[rG,Bool.and_eq_true,beq_iff_eq]at de;obtain⟨⟨⟨th,C8⟩,yW⟩,uQ⟩:=de;have Ae:ob.guard=none:=by
  split at yW
  ·assumption
  ·cases yW
 split at uQ
 case h_2=>cases uQ
 rename_i t yt Af;obtain⟨el,ti,gH, -, -⟩:=dh uQ;refine wp_seq (jH dG mC qJ er uO (uL e x h1 nx) m0 λg1 a1 m1 gS=>?_);refine wp_seq (wp_seq (wp_region_list ?_));rw[hl];refine wpList_step λK hK=>j9 (slot:=0) (s1:=⟨[(0,x),(3,x)],h1,nx+1⟩) dG mC C7 m1 rfl λg2 a2 m2 gT=>hK _ _ ?_
 refine wpList_step λK2 rH=>?_
 simp only[Region.wanted,Ae,if_true];obtain⟨v3,yX,C9⟩:=m2.f 3 x rfl;have uR:a2.eval (.tmp 3)=v3:=by simp[Act.eval,Array.getD,(Array.getElem?_eq_some_iff.1 yX).1,(Array.getElem?_eq_some_iff.1 yX).2]
 obtain⟨aa,cap,eR,mG⟩:∃aa cap,v3 = .slice aa ys.length cap/\(aa=none->ys=[]):=by
  obtain⟨-,news,⟨aa,cap,h1,h2⟩, -⟩:=j5 m2.r (by rw[m2.h];exact iF) C9;refine⟨aa,cap,h1,λha=>?_⟩;rcases h2 with h2 | ⟨b,off,h2, -⟩
  ·exact List.eq_nil_of_length_eq_zero h2
  ·rw[ha]at h2;cases h2
 subst eR;have bd:(execOp a2.eval ob).run P g2.w = .ok (.value (.bool aa.isNone)) g2.w:=by
  have hg:eqGuard .eql t (.tmp 3) (.const (.slice none 0 0)) (.slice aa ys.length cap) (.slice none 0 0)=pure ():=rfl;have:=Lib.run_eql_slice_nil g2.w t el aa ys.length cap 0 0 gH;simp only[execOp,Af,uR,show a2.eval (.const (.slice none 0 0)) = .slice none 0 0 from rfl,hg];simp only[Sem.run_bind,Sem.run_pure,Result.andThen_ok,this]
 unfold Oper.wp;rw[bd,Oper.upon_value];refine rH _ _ (wpList_nil ?_);have m3:=m2.put (dL:=nx+1) (d:=some 4) (v:=.bool aa.isNone) (y:=.iv (.bool aa.isNone)) (λt ht=>by cases ht;simpa using C8) m2.h m2.r (.refl ν g2) (.iv (.bool _));rw[<-th]at m3;simp only[Exit.then];have jI:(a2.put ob.dst (.bool aa.isNone)).eval (.tmp 4) = .bool aa.isNone:=by
  have:=ak (ν:=ν) (x:=.tmp 4) (y:=.t 4) m3.f (by rfl);have Ag:ev (bj [(0,x),(3,x)] ob.dst (.iv (.bool aa.isNone))) (.t 4) = .iv (.bool aa.isNone):=by rw[th];rfl
  rw[Ag]at this;generalize(a2.put ob.dst (.bool aa.isNone)).eval (.tmp 4)=u at this;cases this with
  |iv h=>cases h;rfl
 refine wp_cond jI ?_;have fin:∀(g':Gh) (a':Act) (nx:Nat) (y:AV) (h2:Hp),cc ν k0 fn.ntmps g' a' ⟨[(2,y)],h2,nx⟩->aX ν g0 g'->
   a'.defers=[]/\∃v,(results fn a'.tmps).run P g'.w = .ok v g'.w/\∃u dF,Ending.returned v = .returned u/\dF.w=g'.w/\dF.h=h2/\Rel ν k0 dF/\aX ν g0 dF/\RA ν dF u y:=by
  intro g' a' nx y h2 m' hm;obtain⟨q0,v,q1,q6⟩:=kJ (y:=y) (h':=g'.h) m'.r m'.f Ad (by simp) rfl;exact⟨m'.d,v,q1,v,g',rfl,rfl,m'.h,m'.r,hm,q6⟩
 have Bx:∀t x',get ([(0,x)]:Fr) t=some x'->get (bj [(0,x),(3,x)] ob.dst (.iv (.bool aa.isNone))) t=some x':=by
  intro t x' ht;simp only[bV,eC]at ht;split at ht
  ·rename_i h0;subst h0;rw[th];exact ht
  ·cases ht
 cases aa with
 |none=>
  obtain rfl:=mG rfl;simp only[Option.isNone_none,if_true]at m3 ⊢;refine wp_seq (jH dG mC qJ er yV (uM e [(0,x)] h1 nx) (m3.nx Bx rfl nx) λg4 a4 m4 uS=>wp_ret ?_);exact fin g4 a4 _ _ _ m4 ((gS.trans gT).trans uS)
 |some ad=>
  simp only[Option.isNone_some,Bool.false_eq_true,if_false]at m3 ⊢;refine wp_skip ?_;simp only[Exit.then];refine wp_seq (jH dG mC qJ er uP (uN (nx:=nx) iF dk) (m3.nx Bx rfl nx) λg4 a4 m4 uS=>wp_ret ?_);exact fin g4 a4 _ _ _ m4 ((gS.trans gT).trans uS)
theorem xB (e:Nat):kg (Prim.clone e):=by
 intro c1 cx hx args h nx r h' dL he;unfold Prim.clone at he ⊢;split at he
 case h_2=>cases he
 rename_i x;cases iF:(elems e x).run h with
 |none=>rw[iF]at he;cases he
 |some p=>
  obtain⟨ys,h1⟩:=p;obtain rfl:=rW iF;rw[iF]at he;simp only[]at he ⊢;cases ys with
  |nil=>
   simp only[Option.some.injEq,Prod.mk.injEq]at he;obtain⟨rfl,rfl,rfl⟩:=he;refine⟨λ_ h=>h,λqs hq=>?_⟩;rw[(M.more (NR.rQ _ _) iF hq).1]
  |cons y ys=>
   simp only[]at he;split at he
   case isFalse=>cases he
   rename_i hk;simp only[Option.some.injEq,Prod.mk.injEq]at he;obtain⟨rfl,rfl,rfl⟩:=he;simp only[Bool.and_eq_true,Option.isNone_iff_eq_none]at hk;refine⟨λn hn=>hn.set,λqs hq=>?_⟩;have Kl:gv qs h1:=hq.back λn hn=>hn.set
   have bG:∀p ∈ qs,p.1≠4*(nx+2):=hq.not On.same;rw[(M.more (NR.rQ _ _) iF Kl).1];simp only[];rw[if_pos (by simp only[Bool.and_eq_true,Option.isNone_iff_eq_none];exact⟨hk.1,by rw[gA bG];exact hk.2⟩),wi _ bG]
end
open Go.ChangeMaps (setBlock)
def Has (a:Act) (n:Nat) (v:Value):Prop:=a.tmps[n]?=some v
theorem Has.eval {a:Act} {n:Nat} {v:Value} (h:Has a n v):a.eval (.tmp n)=v:=by
 have:=Array.getElem?_eq_some_iff.1 h;simp[Act.eval,Array.getD,this.1,this.2]
theorem Has.ne {a:Act} {n d:Nat} {u v:Value} (h:Has a n v) (bG:d≠n):Has (a.put (some d) u) n v:=by
 unfold Has at *;simp only[Act.put];rw[Array.getElem?_setIfInBounds_ne bG];exact h
theorem Has.new {a:Act} {d:Nat} {u:Value} (h:d<a.tmps.size):Has (a.put (some d) u) d u:=by
 unfold Has;simp[Act.put,h]
section
variable {ν:Nat->Nat} {P:Program} {k:Cx} {g:Gh}
def zj (P:Program) (ν:Nat->Nat) (fn:Func) (e:Nat):Bool:=(match fn.body with | some c=>lL P ν fn.ntmps c e&&cP P fn.results.toList [.t 2] | none=>false)&&!(fn.name=="runtime.NumGoroutine")
theorem tn (er:P.follows .mixedOrders=true) {f k' e:Nat} {ir:an} {fn:Func} (hk:P.funcs[k']?=some fn) (ph:ν f=k') (hp:ir.gF=some (Prim.clone e)) (h:zj P ν fn e=true):kn P ν f ir:=by
 simp only[zj,Bool.and_eq_true,Bool.not_eq_true']at h;obtain⟨h1,h2⟩:=h;split at h1
 ·rename_i c hc;simp only[Bool.and_eq_true]at h1;rw[<-ph]at hk;exact .inr ⟨_,hp,λc1 cx _ _ args hp nx r bN dL he=>⟨⟨fn,hk,by simp[hc],h2⟩,qB hk hc er h1.1 h1.2 he⟩,xB e⟩
 ·cases h1
end
def mD (P:Program) (f g:Nat):Prop:=∀(W:World) (Bm b:Nat) (es:Array MapEntry) (clock:Nat) (ks:List Int),W.cell? ⟨Bm,0,none⟩=some (.map (some b))->W.heap[b]?=some (.map es clock)->MapKept.Stamped es clock->
 es.toList.map (·.key)=ks.map (Value.int .i64 ·)->(∀x ∈ ks, -9223372036854775808<=x/\x<=9223372036854775807)->ks.length<=1000000->
 Calls P f #[.func (.func g) #[] #[.pointer (some ⟨Bm,0,none⟩)]] W λe w'=>∃v ss tk,e = .returned v/\ss.Perm ks/\w'.ownsRow W.heap.size tk 1 v ss.length ((ss.mergeSort λx y=>decide (x<=y)).map (Value.int .i64 ·))/\(v = .slice none 0 0↔ss=[])/\Below W.heap.size W w'
theorem qK (n:Int):∀l:List Int,(Prim.ins n l).Perm (n::l)
 |[]=>.refl _
 |m::l=>by
  unfold Prim.ins;split
  ·exact .refl _
  ·exact((qK n l).cons m).trans (.swap ..)
theorem rX (n:Int):∀l:List Int,l.Pairwise (·<= ·)->(Prim.ins n l).Pairwise (·<= ·)
 |[],_=>List.pairwise_singleton _ _
 |m::l,h=>by
  obtain⟨h1,h2⟩:=List.pairwise_cons.1 h;unfold Prim.ins;split
  ·rename_i hn;exact List.pairwise_cons.2 ⟨λx hx=>by rcases List.mem_cons.1 hx with rfl | hx;exact hn;exact Int.le_trans hn (h1 x hx),h⟩
  ·refine List.pairwise_cons.2 ⟨λx hx=>?_,rX n l h2⟩;rcases List.mem_cons.1 ((qK n l).mem_iff.1 hx)with rfl | hx
   ·omega
   ·exact h1 x hx
theorem pj:∀l:List Int,(l.foldr Prim.ins []).Perm l
 |[]=>.refl _
 |n::l=>(qK n _).trans ((pj l).cons n)
theorem qf:∀l:List Int,(l.foldr Prim.ins []).Pairwise (·<= ·)
 |[]=>.nil
 |n::l=>rX n _ (qf l)
theorem BW {ss l:List Int} (h:ss.Perm l):ss.mergeSort (λx y=>decide (x<=y))=l.foldr Prim.ins []:=by
 have hm:(ss.mergeSort λx y=>decide (x<=y)).Pairwise (·<= ·):=(List.pairwise_mergeSort (λa b c h1 h2=>by simp only[decide_eq_true_eq]at *;omega) (λa b=>by simp only[Bool.or_eq_true,decide_eq_true_eq];omega) ss).imp λh=>by simpa using h
 exact List.Perm.eq_of_pairwise (le:=(·<= ·)) (λa b _ _ h1 h2=>Int.le_antisymm h1 h2) hm (qf l) (((List.mergeSort_perm ss _).trans h).trans (pj l).symm)
theorem tq:∀{aU:List (AV×AV)} {l:List Int},Prim.rV aU=some l->l.length=aU.length/\(∀x ∈ l, -9223372036854775808<=x/\x<=9223372036854775807)/\∀(j:Nat) (p:AV×AV),aU[j]?=some p->∃n,l[j]?=some n/\p.1 = .iv (.int .i64 n)
 |[],l,h=>by cases h;exact⟨rfl,λx hx=>by(cases hx),λj p hp=>by simp at hp⟩
 |q::r,l,h=>by
  unfold Prim.rV at h;split at h
  case h_2=>cases h
  rename_i n l' h1 h2;split at h
  case isFalse=>cases h
  rename_i hn;cases h;obtain⟨a1,a2,a3⟩:=tq h2;refine⟨by simp[a1],λx hx=>?_,λj p hp=>?_⟩
  ·rcases List.mem_cons.1 hx with rfl | hx
   ·simpa using hn
   ·exact a2 x hx
  ·cases j with
   |zero=>simp at hp;subst hp;exact⟨n,rfl,h1⟩
   |succ j=>exact a3 j p (by simpa using hp)
theorem qg:∀{l:List Int},Prim.apart l=true->l.Nodup
 |[],_=>.nil
 |n::l,h=>by
  simp only[Prim.apart,Bool.and_eq_true,Bool.not_eq_true',List.contains_eq_mem,decide_eq_false_iff_not]at h;exact List.nodup_cons.2 ⟨h.1,qg h.2⟩
section
variable {ν:Nat->Nat} {P:Program}
theorem zk {f q:Nat} (hS:mD P (ν f) (ν q)) {c1:bR} {cx:cA} {args:List AV} {hp:Hp} {nx:Nat} {r:AV} {bN:Hp} {dL:Nat} (he:Prim.sorted q c1 cx args hp nx=some (r,bN,dL)):gW ν P f args hp r bN:=by
 unfold Prim.sorted at he;split at he
 case h_2=>cases he
 rename_i q' v;split at he
 case isFalse=>cases he
 rename_i hq;subst hq;split at he
 case h_2=>cases he
 rename_i m ek;split at he
 case h_2=>cases he
 rename_i aU vr;split at he
 case h_2=>cases he
 rename_i l hl;split at he
 case isFalse=>cases he
 rename_i jI;simp only[Bool.and_eq_true,Nat.ble_eq]at jI;simp only[Option.some.injEq,Prod.mk.injEq]at he;obtain⟨rfl,rfl,rfl⟩:=he;obtain⟨l1,l2,l3⟩:=tq hl;intro k0 g0 aT hh r0 dn;subst hh;obtain⟨hlen,eS⟩:=dn;obtain⟨fv,rfl⟩:∃fv,aT=#[fv]:=by
  rcases aT with⟨_ | ⟨x,_ | ⟨y,t⟩⟩⟩<;>simp at hlen
  exact⟨x,rfl⟩
 have mu:=eS 0 fv _ rfl rfl;cases mu with
 |@bJ _ first ay _ _ hm hs hn hr=>
  obtain rfl:first=#[]:=by simpa using hm
  obtain⟨pv,rfl⟩:∃pv,ay=#[pv]:=by
   rcases ay with⟨_ | ⟨x,_ | ⟨y,t⟩⟩⟩<;>simp at hn
   exact⟨x,rfl⟩
  have wu:=hr 0 pv _ rfl rfl;cases wu with
  |ref _ vi=>
   unfold aI at vi;rw[ek]at vi;obtain⟨-, -,bv,IN,rfl⟩:=vi;have de:=r0.ob v _ ek;obtain⟨Lx,By, -, -,iJ⟩:=de;rw[IN]at By;cases By;obtain⟨u,hu, -,zl⟩:=iJ 0 _ rfl;cases zl with
   |ref _ zl=>
    unfold aI at zl;rw[vr]at zl;obtain⟨-, -, -,bm,IP,rfl⟩:=zl;obtain⟨Ly,es,clock,Bz, -,Lz,CB,bC,bt,Ay⟩:=r0.ob m _ vr;rw[IP]at Bz;cases Bz;have pR:es.toList.map (·.key)=l.map (Value.int .i64 ·):=by
     refine List.ext_getElem? λj=>?_
     rw[List.getElem?_map,List.getElem?_map];by_cases hj:j<aU.length
     ·obtain⟨n,yI,wa⟩:=l3 j aU[j] (List.getElem?_eq_getElem hj);have FZ:j<es.size:=by omega
      have DP:=(Ay j es[j] aU[j] (Array.getElem?_eq_getElem FZ) (List.getElem?_eq_getElem hj)).1;rw[wa]at DP;have hk:es[j].key = .int .i64 n:=by
       generalize es[j].key=kk at DP;cases DP with
       |iv h=>cases h with | int _ _=>rfl
      rw[yI,Array.getElem?_toList,Array.getElem?_eq_getElem FZ];simp[hk]
     ·rw[List.getElem?_eq_none (by simp;omega),List.getElem?_eq_none (by omega)];rfl
    have fU:MapKept.Stamped es clock:=⟨bt.2,bt.1,by rw[pR];exact List.pairwise_map.2 ((qg jI.1).imp λh e=>h (by injection e))⟩;refine(hS g0.w bv bm es clock l hu CB fU pR l2 jI.2).mono ?_;rintro e w' ⟨v',ss,tk,rfl,rY,aC,mG,hb⟩;have Lh:=rY.length_eq;rw[BW rY]at aC;have dT:=pj l;have LA:=dT.length_eq;generalize l.foldr Prim.ins []=so at *;by_cases hz:l=[]
    ·subst hz;obtain rfl:ss=[]:=rY.eq_nil;obtain rfl:=mG.2 rfl;have hw:=r0.world (w':=w') (I':=g0.I) (λ_ h=>h) (λ_ h=>.inl h) hb.size hb.os hb.tape hb.output λb h=>hb.block b h
     exact⟨_,{ g0 with w:=w' },rfl,rfl,rfl,hw.1,hw.2,.iv (.az none 1)⟩
    ·obtain⟨hx,⟨rfl,h0⟩|⟨gb,cap,cur,rfl,Fz,F0,eF, -,Ll,FA⟩⟩:=aC
     ·exact absurd (List.eq_nil_of_length_eq_zero (by omega)) hz
     ·have Km:gb<w'.heap.size:=(Array.getElem?_eq_some_iff.1 F0).1;have hw:=r0.world (w':=w') (I':=λb=>g0.I b\/b=gb) (λ_ h=>.inl h) (λb h=>by rcases h with h | rfl;exact .inl h;exact .inr ⟨Fz,Km⟩) hb.size hb.os hb.tape hb.output λb h=>hb.block b h
      have DQ:∀(i:Nat) (n:Int),so[i]?=some n->w'.cell? ⟨gb,i,none⟩=some (.int .i64 n):=λi n hi=>by
       have h1:(cur.toList.take (ss.length*1))[i]?=some (.int .i64 n):=by rw[FA,List.getElem?_map,hi];rfl
       rw[List.getElem?_take]at h1;split at h1
       ·simp only[World.cell?,F0];simpa using h1
       ·cases h1
      have bG:l.isEmpty=false:=by cases l with | nil=>exact absurd rfl hz | cons=>rfl
      rw[bG];refine⟨_,⟨λb=>g0.I b\/b=gb,g0.φ,w',g0.h⟩,rfl,rfl,rfl,hw.1,hw.2,.iv ?_⟩;simp only[Bool.false_eq_true,if_false];refine .sl gb 0 ss.length cap 1 (so.map λn=>[.int .i64 n]) (λi _=>.int .i64 ((so[i]?).getD 0)) (.inr rfl) (by rw[List.length_map];omega) eF (λc hc=>by obtain⟨n, -,rfl⟩:=List.mem_map.1 hc;rfl) (λi j c x h1 h2=>?_) (λi j c x h1 h2=>?_)
      ·rw[List.getElem?_map]at h1;cases hi:so[i]? with
       |none=>rw[hi]at h1;cases h1
       |some n=>
        rw[hi]at h1;cases h1;cases j with
        |zero=>have:=DQ i n hi;simpa using this
        |succ j=>simp at h2
      ·rw[List.getElem?_map]at h1;cases hi:so[i]? with
       |none=>rw[hi]at h1;cases h1
       |some n=>
        rw[hi]at h1;cases h1;cases j with
        |zero=>simp at h2;subst h2;exact .int .i64 n
        |succ j=>simp at h2
theorem vP (q:Nat):kg (Prim.sorted q):=by
 intro c1 cx hx args h nx r h' dL he;unfold Prim.sorted at he ⊢;split at he
 case h_2=>cases he
 rename_i q' v;split at he
 case isFalse=>cases he
 rename_i hq;split at he
 case h_2=>cases he
 rename_i m ek;split at he
 case h_2=>cases he
 rename_i aU vr;split at he
 case h_2=>cases he
 rename_i l hl;split at he
 case isFalse=>cases he
 rename_i jI;simp only[Option.some.injEq,Prod.mk.injEq]at he;obtain⟨rfl,rfl,rfl⟩:=he;refine⟨λ_ h=>h,λqs zm=>?_⟩;simp only[hq,if_true];rw[gA (zm.not (by unfold On;rw[ek];rfl)),ek];simp only[];rw[gA (zm.not (by unfold On;rw[vr];rfl)),vr];simp only[hl,jI,if_true]
theorem zn (q:Nat):pg (Prim.sorted q):=λ_ _ _ _ _ _ _ _ _ _ e=>e
theorem xC {f k' q kq:Nat} {ir:an} {fn:Func} (hk:P.funcs[k']?=some fn) (ph:ν f=k') (hq:ν q=kq) (hp:ir.gF=some (Prim.sorted q)) (hb:(fn.body.isSome&&!(fn.name=="runtime.NumGoroutine"))=true) (hS:mD P k' kq):kn P ν f ir:=by
 simp only[Bool.and_eq_true,Bool.not_eq_true']at hb;subst ph;subst hq;exact .inr ⟨_,hp,λc1 cx _ _ args hp nx r bN dL he=>⟨⟨fn,hk,hb.1,hb.2⟩,zk hS he⟩,vP q⟩
end
end au
namespace au
open Go Go.RowKit al
namespace Prim
def tH (id:Nat) (p q:AV):M AV:=(M.look id).bind λo=>(M.ok (match o with | .cells _=>true | _=>false)).bind λ_=>(fJ .u32 p).bind λn=>(fJ .i32 q).bind λm=>(M.ok (n==0&&m==0)).bind λ_=>store 1 q (.iv (.int .i32 1))
def rZ (p q:AV):M AV:=(fJ .u32 p).bind λn=>(fJ .i32 q).bind λm=>(M.ok (n==0&&m==1)).bind λ_=>(store 1 p (.iv (.int .u32 1))).bind λ_=>store 1 q (.iv (.int .i32 0))
def once:pQ:=λ_ cx args hp nx=>match args with
 |[.ref id 0 0 j,f]=>match callee f with
  |some q=>match(tH id (.ref id 0 0 j) (.ref id 0 0 (j+1))).run hp with
   |some (_,h1)=>match cx q.1 (q.2.1++([]++q.2.2)) h1 nx with
    |some (.aR [],h2,n2)=>match(rZ (.ref id 0 0 j) (.ref id 0 0 (j+1))).run h2 with
     |some (_,h3)=>some (.aR [],h3,n2)
     |none=>none
    |_=>none
   |none=>none
  |none=>none
 |_=>none
end Prim
def qM (P:Program) (k:Nat):Prop:=∀(b off fg:Nat) (fs cs:Array Value) (w:World) (Q:World->Prop),w.cell? ⟨b,off,none⟩=some (.int .u32 0)->w.cell? ⟨b,off+1,none⟩=some (.int .i32 0)->
 w.frozen? ⟨b,off+1,none⟩=false->
 Calls P fg (fs++cs) (w.setCell ⟨b,off+1,none⟩ (.int .i32 1)) (λe w'=>e = .returned (.tuple #[])/\w'.cell? ⟨b,off,none⟩=some (.int .u32 0)/\w'.cell? ⟨b,off+1,none⟩=some (.int .i32 1)/\
  w'.frozen? ⟨b,off,none⟩=false/\w'.frozen? ⟨b,off+1,none⟩=false/\Q w')->
 (∃fn,P.funcs[fg]?=some fn/\fn.body.isSome=true/\(fn.name=="runtime.NumGoroutine")=false)->
 Calls P k #[.pointer (some ⟨b,off,none⟩),.func (.func fg) fs cs] w λe w'=>e = .returned (.tuple #[])/\∃w1,Q w1/\w'=(w1.drew.setCell ⟨b,off,none⟩ (.int .u32 1)).setCell ⟨b,off+1,none⟩ (.int .i32 0)
theorem Az (id:Nat) (p q:AV):NR (Prim.tH id p q):=by
 unfold Prim.tH
 repeat' first | exact NR.pc _ _ | exact NR.store_ _ _ _ | exact NR.look _ | exact NR.ok _ | refine NR.bind ?_ λ_=>?_
theorem AA (p q:AV):NR (Prim.rZ p q):=by
 unfold Prim.rZ
 repeat' first | exact NR.pc _ _ | exact NR.store_ _ _ _ | exact NR.look _ | exact NR.ok _ | refine NR.bind ?_ λ_=>?_
section
variable {ν:Nat->Nat} {P:Program} {k:Cx} {g:Gh}
theorem AB (r:Rel ν k g) {id:Nat} {vp vq:Value} {p q y:AV} {h':Hp} (hp:RA ν g vp p) (hq:RA ν g vq q) (e:(Prim.tH id p q).run g.h=some (y,h')) :
  (∃c,get g.h id=some (.cells c))/\∃b off b' nV g',vp = .pointer (some ⟨b,off,none⟩)/\vq = .pointer (some ⟨b',nV,none⟩)/\g.w.cell? ⟨b,off,none⟩=some (.int .u32 0)/\g.w.cell? ⟨b',nV,none⟩=some (.int .i32 0)/\
   g.w.frozen? ⟨b',nV,none⟩=false/\g'.w=g.w.setCell ⟨b',nV,none⟩ (.int .i32 1)/\g'.h=h'/\Rel ν k g'/\aX ν g g':=by
 obtain⟨ob,hg,ea⟩:=M.aM e;obtain⟨de,eb⟩:=M.aj ea;obtain⟨n,h1,e1,e2⟩:=ag eb;obtain⟨rfl,b,off,rfl,hc⟩:=je r hp e1;obtain⟨m,h2,e3,e4⟩:=ag e2;obtain⟨rfl,b',nV,rfl,bH⟩:=je r hq e3;obtain⟨bt,e5⟩:=M.aj e4;simp only[Bool.and_eq_true,beq_iff_eq]at bt;obtain⟨rfl,rfl⟩:=bt;obtain⟨b2,AD,g',u,h0, -,h3,h4,h5,h6,h7,h8⟩:=lX r hq rfl e5;simp only[Value.pointer.injEq,Option.some.injEq,Addr.mk.injEq,and_true]at h0;obtain⟨rfl,rfl⟩:=h0;exact⟨by(cases ob<;>first | exact⟨_,hg⟩|cases de),b,off,b',nV,g',rfl,rfl,hc,bH,h5,h3,h6,h7,h8⟩
theorem vt (r:Rel ν k g) {b off:Nat} {p q y:AV} {h':Hp} (hp:RA ν g (.pointer (some ⟨b,off,none⟩)) p) (hq:RA ν g (.pointer (some ⟨b,off+1,none⟩)) q) (e:(Prim.rZ p q).run g.h=some (y,h')) :
  ∃g',g.w.cell? ⟨b,off,none⟩=some (.int .u32 0)/\g.w.cell? ⟨b,off+1,none⟩=some (.int .i32 1)/\g.w.frozen? ⟨b,off,none⟩=false/\g.w.frozen? ⟨b,off+1,none⟩=false/\
   g'.w=(g.w.setCell ⟨b,off,none⟩ (.int .u32 1)).setCell ⟨b,off+1,none⟩ (.int .i32 0)/\g'.h=h'/\Rel ν k g'/\aX ν g g':=by
 obtain⟨n,h1,e1,e2⟩:=ag e;obtain⟨rfl,b1,IQ,h0,hc⟩:=je r hp e1;simp only[Value.pointer.injEq,Option.some.injEq,Addr.mk.injEq,and_true]at h0;obtain⟨rfl,rfl⟩:=h0;obtain⟨m,h2,e3,e4⟩:=ag e2;obtain⟨rfl,b2,AD,h0,bH⟩:=je r hq e3;simp only[Value.pointer.injEq,Option.some.injEq,Addr.mk.injEq,and_true]at h0;obtain⟨rfl,rfl⟩:=h0;obtain⟨bt,e5⟩:=M.aj e4;simp only[Bool.and_eq_true,beq_iff_eq]at bt;obtain⟨rfl,rfl⟩:=bt;obtain⟨_,h3,e6,e7⟩:=ag e5;obtain⟨b2,AD,g1,u,h0, -,w1, -,z1,p1,r1,m1⟩:=lX r hp rfl e6;simp only[Value.pointer.injEq,Option.some.injEq,Addr.mk.injEq,and_true]at h0
 obtain⟨rfl,rfl⟩:=h0;obtain⟨b3,Lm,g2,u2,h0, -,w2, -,z2,p2,r2,m2⟩:=lX r1 (m1 _ _ hq) rfl (p1▸e7);simp only[Value.pointer.injEq,Option.some.injEq,Addr.mk.injEq,and_true]at h0;obtain⟨rfl,rfl⟩:=h0;refine⟨g2,hc,bH,z1,?_,by rw[w2,w1],p2,r2,m1.trans m2⟩;rw[w1]at z2;simpa using z2
theorem BX {f:Nat} (hS:qM P (ν f)) {c1:bR} {cx:cA} (hx:bp ν P cx) {args:List AV} {hp:Hp} {nx:Nat} {r:AV} {bN:Hp} {dL:Nat} (he:Prim.once c1 cx args hp nx=some (r,bN,dL)):gW ν P f args hp r bN:=by
 unfold Prim.once at he;split at he
 case h_2=>cases he
 rename_i id j gf;split at he
 case h_2=>cases he
 rename_i q hq;split at he
 case h_2=>cases he
 rename_i u1 h1 hA;split at he
 case h_2=>cases he
 rename_i h2 n2 zo;split at he
 case h_2=>cases he
 rename_i u3 h3 hB;simp only[Option.some.injEq,Prod.mk.injEq]at he;obtain⟨rfl,rfl,rfl⟩:=he;intro k0 g0 aT hh r0 dn;subst hh;obtain⟨hlen,eS⟩:=dn;obtain⟨pv,fv,rfl⟩:∃pv fv,aT=#[pv,fv]:=by
  rcases aT with⟨_ | ⟨x,_ | ⟨y,_ | ⟨z,t⟩⟩⟩⟩<;>simp at hlen
  exact⟨x,y,rfl⟩
 have wu:=eS 0 pv _ rfl rfl;have mu:=eS 1 fv _ rfl rfl;obtain⟨fs,cs,rfl,ou,iJ⟩:=eN hq mu;obtain⟨ob,hg, -⟩:=M.aM hA;have FB:∃c b,get g0.h id=some (.cells c)/\g0.φ id=some b/\pv = .pointer (some ⟨b,j,none⟩):=by
  obtain⟨ob,hg,ea⟩:=M.aM hA;obtain⟨de, -⟩:=M.aj ea;cases ob with
  |cells c=>
   cases wu with
   |ref h1 hr=>
    unfold aI at hr;rw[hg]at hr;obtain⟨-, -,b',ah,hv⟩:=hr;exact⟨c,b',hg,ah,hv⟩
  |_=>cases de
 obtain⟨c,b,hg,ah,rfl⟩:=FB;have DR:RA ν g0 (.pointer (some ⟨b,j+1,none⟩)) (.ref id 0 0 (j+1)):=.ref rfl (by unfold aI;rw[hg];exact⟨rfl,rfl,b,ah,rfl⟩);obtain⟨-,b1,IQ,b2,AD,g1,v1,v2,c1,c2,z1,w1,p1,r1,m1⟩:=AB r0 wu DR hA;simp only[Value.pointer.injEq,Option.some.injEq,Addr.mk.injEq,and_true]at v1 v2;obtain⟨rfl,rfl⟩:=v1;obtain⟨rfl,rfl⟩:=v2;obtain⟨dp,eo⟩:=hx _ _ _ _ _ _ _ zo;have cR:=eo k0 g1 (fs++cs) p1 r1 (by
  have h1:=(ou.mono m1).append (iJ.mono m1);simpa using h1)
 rw[w1]at cR;refine(hS b j _ fs cs g0.w (λw1=>∃g2:Gh,g2.w=w1/\g2.h=h2/\Rel ν k0 g2/\aX ν g1 g2) c1 c2 z1 (cR.mono ?_) dp).mono ?_
 ·rintro e w' ⟨v,g2,rfl,rfl,p2,r2,m2,hv⟩;obtain⟨g3,d1,d2,d3,d4, -⟩:=vt r2 (m2 _ _ (m1 _ _ wu)) (m2 _ _ (m1 _ _ DR)) (p2▸hB);refine⟨?_,d1,d2,d3,d4,g2,rfl,p2,r2,m2⟩;cases hv with
  |@aR vs _ hn _=>
   obtain rfl:vs=#[]:=by simpa using hn
   rfl
 ·rintro e w' ⟨rfl,w1,⟨g2,rfl,p2,r2,m2⟩,rfl⟩;have hw:=r2.world (w':=g2.w.drew) (I':=g2.I) (λ_ h=>h) (λ_ h=>.inl h) (Nat.le_refl _) rfl rfl rfl λ_ _=>rfl
  obtain⟨g3, -, -, -, -,d5,d6,d7,d8⟩:=vt hw.1 (hw.2 _ _ (m2 _ _ (m1 _ _ wu))) (hw.2 _ _ (m2 _ _ (m1 _ _ DR))) (h':=_) (show(Prim.rZ _ _).run g2.h=_ from p2▸hB);exact⟨_,g3,rfl,d5,d6,d7,((m1.trans m2).trans hw.2).trans d8,.aR (by simp) λj v c h=>by simp at h⟩
theorem zq:kg Prim.once:=by
 intro c1 cx hx args h nx r h' dL he;unfold Prim.once at he ⊢;split at he
 case h_2=>cases he
 rename_i id j gf;split at he
 case h_2=>cases he
 rename_i q hq;split at he
 case h_2=>cases he
 rename_i u1 h1 hA;split at he
 case h_2=>cases he
 rename_i h2 n2 zo;split at he
 case h_2=>cases he
 rename_i u3 h3 hB;simp only[Option.some.injEq,Prod.mk.injEq]at he;obtain⟨rfl,rfl,rfl⟩:=he;obtain⟨s2,f2⟩:=hx _ _ _ _ _ _ _ zo;have s1:=λn=>M.stay _ _ _ _ n hA
 have s3:=λn=>M.stay _ _ _ _ n hB
 refine⟨λn hn=>s3 n (s2 n (s1 n hn)),λqs zm=>?_⟩;have q2:=zm.back s3;have q1:=q2.back s2;simp only[(M.more (Az _ _ _) hA q1).1,f2 qs q2,(M.more (AA _ _) hB zm).1]
theorem BY:pg Prim.once:=by
 intro c c' x x' _ hx args h nx r he;unfold Prim.once at he ⊢;split at he
 case h_2=>cases he
 rename_i id j gf;split at he
 case h_2=>cases he
 rename_i q hq;split at he
 case h_2=>cases he
 rename_i u1 h1 hA;split at he
 case h_2=>cases he
 rename_i h2 n2 zo;simp only[hx _ _ _ _ _ zo];exact he
theorem AE {f k':Nat} {ir:an} {fn:Func} (hk:P.funcs[k']?=some fn) (ph:ν f=k') (hp:ir.gF=some Prim.once) (hb:(fn.body.isSome&&!(fn.name=="runtime.NumGoroutine"))=true) (hS:qM P k'):kn P ν f ir:=by
 simp only[Bool.and_eq_true,Bool.not_eq_true']at hb;subst ph;exact .inr ⟨_,hp,λc1 cx _ hx args hp nx r bN dL he=>⟨⟨fn,hk,hb.1,hb.2⟩,BX hS hx he⟩,zq⟩
end
end au
namespace au
open Go Go.RowKit Go.WideShapes al
inductive Sh where
 |bool
 |int (k:IntKind)
 |str
 |sl (es:List Sh)
 |ex
 deriving Inhabited
def hZ:List Sh:=[.int .i64,.int .i64,.bool,.sl [.int .i64,.int .i64],.bool,.sl [.str],.ex]
mutual
inductive Fit:Sh->IV->Prop
 |bool (b:Bool):Fit .bool (.bool b)
 |int (k:IntKind) (n:Int) (h:(Lit.int k n).wf=true):Fit (.int k) (.int k n)
 |str (s:ByteArray) (h:s.size<=maxLen):Fit .str (.str s)
 |sl (es:List Sh) (rows:List (List IV)) (h:rows.length<=maxLen) (hr:∀r ∈ rows,bD es r):Fit (.sl es) (.sl es.length rows)
 |ex (rows:List (List IV)) (h:rows.length<=maxLen) (hr:∀r ∈ rows,bD hZ r):Fit .ex (.sl 7 rows)
inductive bD:List Sh->List IV->Prop
 |nil:bD [] []
 |cons {s:Sh} {ss:List Sh} {x:IV} {xs:List IV} (h:Fit s x) (hs:bD ss xs):bD (s::ss) (x::xs)
end
theorem bD.append:∀{ss ts:List Sh} {xs ys:List IV},bD ss xs->bD ts ys->bD (ss++ts) (xs++ys)
 |[],_,[],_,_,h=>h
 |_::_,_,_::_,_,.cons h hs,h'=>.cons h (bD.append hs h')
def nq (P:Program) (r:TypeId->List Sh->Bool):Nat->List Field->List Sh->Bool
 |_,[],ss=>ss.isEmpty
 |off,f::fs,ss=>f.offset==off&&Nat.ble (P.cellsOf f.type) ss.length&&r f.type (ss.take (P.cellsOf f.type))&&nq P r (off+P.cellsOf f.type) fs (ss.drop (P.cellsOf f.type))
def pk (r:List Sh->Bool) (c:Nat):Nat->List Sh->Bool
 |0,ss=>ss.isEmpty
 |n+1,ss=>Nat.ble c ss.length&&r (ss.take c)&&pk r c n (ss.drop c)
def pn (P:Program) (eT:TypeId):Nat->TypeId->List Sh->Bool
 |0,_,_=>false
 |d+1,t,ss=>match P.underlying t with
  |some .bool=>(match ss with | [.bool]=>true | _=>false)
  |some (.int k)=>(match ss with | [.int k']=>k==k' | _=>false)
  |some .string=>(match ss with | [.str]=>true | _=>false)
  |some (.slice e)=>(match ss with | [.sl es]=>P.cellsOf e==es.length&&Nat.blt 0 es.length&&pn P eT d e es | [.ex]=>e==eT | _=>false)
  |some (.struct fs)=>P.cellsOf t==ss.length&&nq P (pn P eT d) 0 fs.toList ss
  |some (.array n e)=>P.cellsOf t==ss.length&&pk (pn P eT d e) (P.cellsOf e) n ss
  |_=>false
section
variable {H:Type} {enc:TypeId×Value->H} {P:Program} {w:World} {base:Nat} {spare:Nat->Bool} {held:Bool} {ν:Nat->Nat}
def Old (w:World) (b:Nat):Prop:=b<w.heap.size
def Reads (ν:Nat->Nat) (w:World) (ss:List Sh) (cs:List Value) (xs:List IV):Prop:=
 xs.length=cs.length/\bD ss xs/\∀(j:Nat) (v:Value) (x:IV),cs[j]?=some v->xs[j]?=some x->RI ν (Old w) w v x
theorem Reads.one {s:Sh} {v:Value} {x:IV} (h:Fit s x) (hr:RI ν (Old w) w v x):Reads ν w [s] [v] [x]:=
 ⟨rfl,.cons h .nil,λj v' x' h1 h2=>by cases j with | zero=>simp at h1 h2;subst h1 h2;exact hr | succ j=>simp at h1⟩
theorem Reads.append {ss ts:List Sh} {cs ds:List Value} {xs ys:List IV} (h:Reads ν w ss cs xs) (h':Reads ν w ts ds ys):Reads ν w (ss++ts) (cs++ds) (xs++ys):=by
 refine⟨by simp[h.1,h'.1],h.2.1.append h'.2.1,λj v x h1 h2=>?_⟩;by_cases hj:j<cs.length
 ·rw[List.getElem?_append_left hj]at h1;rw[List.getElem?_append_left (by rw[h.1];exact hj)]at h2;exact h.2.2 j v x h1 h2
 ·rw[List.getElem?_append_right (by omega)]at h1;rw[List.getElem?_append_right (by rw[h.1];omega),h.1]at h2;exact h'.2.2 _ v x h1 h2
def sU (eT:TypeId) (ν:Nat->Nat) (enc:TypeId×Value->H) (P:Program) (w:World) (base:Nat) (spare:Nat->Bool) (held:Bool) (d n:Nat):Prop:=
 ∀(t:TypeId) (ss:List Sh) (cs:List Value) (x:DataW H×List MemPlace),pn P eT d t ss=true->DataW.trod enc P w base spare held n t cs=some x->∃xs,Reads ν w ss cs xs
theorem qh {eT:TypeId} {d n:Nat} (ih:sU eT ν enc P w base spare held d n) {all:List Value}:∀(fs:List Field) (off:Nat) (ss:List Sh) (cs:List Value),nq P (pn P eT d) off fs ss=true->cs=all.drop off->cs.length=ss.length->
  (∀f ∈ fs,∃y,DataW.trod enc P w base spare held n f.type ((all.drop f.offset).take (P.cellsOf f.type))=some y)->∃xs,Reads ν w ss cs xs
 |[],off,ss,cs,h,iJ,hl,_=>by
  simp only[nq,List.isEmpty_iff]at h;subst h;have:cs=[]:=List.eq_nil_of_length_eq_zero (by simpa using hl);subst this;exact⟨[],rfl,.nil,λj v x h=>by simp at h⟩
 |f::fs,off,ss,cs,h,iJ,hl,hf=>by
  simp only[nq,Bool.and_eq_true,beq_iff_eq,Nat.ble_eq]at h;obtain⟨⟨⟨h1,h2⟩,h3⟩,h4⟩:=h;obtain⟨y,hy⟩:=hf f (List.mem_cons_self ..);rw[h1,<-iJ]at hy;obtain⟨xs,hx⟩:=ih _ _ _ _ h3 hy;obtain⟨ys,hy⟩:=qh ih (all:=all) fs _ _ (cs.drop (P.cellsOf f.type)) h4 (by rw[iJ,List.drop_drop]) (by simp[hl]) λg hg=>hf g (List.mem_cons_of_mem _ hg)
  refine⟨xs++ys,?_⟩;have:=hx.append hy
  rwa [List.take_append_drop,List.take_append_drop]at this
theorem r7 {eT:TypeId} {d n:Nat} (ih:sU eT ν enc P w base spare held d n) {e:TypeId} {all:List Value}:∀(m i:Nat) (ss:List Sh) (cs:List Value),pk (pn P eT d e) (P.cellsOf e) m ss=true->cs=all.drop (i*P.cellsOf e)->cs.length=ss.length->
  (∀j,i<=j->j<i+m->∃y,DataW.trod enc P w base spare held n e ((all.drop (j*P.cellsOf e)).take (P.cellsOf e))=some y)->∃xs,Reads ν w ss cs xs
 |0,i,ss,cs,h,iJ,hl,_=>by
  simp only[pk,List.isEmpty_iff]at h;subst h;have:cs=[]:=List.eq_nil_of_length_eq_zero (by simpa using hl);subst this;exact⟨[],rfl,.nil,λj v x h=>by simp at h⟩
 |m+1,i,ss,cs,h,iJ,hl,hf=>by
  simp only[pk,Bool.and_eq_true,Nat.ble_eq]at h;obtain⟨⟨h2,h3⟩,h4⟩:=h;obtain⟨y,hy⟩:=hf i (Nat.le_refl _) (by omega);rw[<-iJ]at hy;obtain⟨xs,hx⟩:=ih _ _ _ _ h3 hy;obtain⟨ys,hy⟩:=r7 ih (all:=all) m (i+1) _ (cs.drop (P.cellsOf e)) h4 (by rw[iJ,List.drop_drop,Nat.add_mul,Nat.one_mul]) (by simp[hl]) λj hj mX=>hf j (by omega) (by omega)
  refine⟨xs++ys,?_⟩;have:=hx.append hy
  rwa [List.take_append_drop,List.take_append_drop]at this
theorem r8 {n:Nat} {t e:TypeId} {es:List Sh} {cs:List Value} {x:DataW H×List MemPlace} (hu:P.underlying t=some (.slice e)) (hc:P.cellsOf e=es.length) (nT:0<es.length)
  (eG:∀m,m<n->∀(ci:List Value) (y:DataW H×List MemPlace),DataW.trod enc P w base spare held m e ci=some y->∃xs,Reads ν w es ci xs) (hx:DataW.trod enc P w base spare held n t cs=some x) :
  ∃(v:Value) (rows:List (List IV)),cs=[v]/\rows.length<=maxLen/\(∀r ∈ rows,bD es r)/\RI ν (Old w) w v (.sl es.length rows):=by
 rcases DataW.trod_slice hu hx with⟨rfl,_⟩|⟨a,len,cap,elems,rest,m,BA,rfl,_,hb,hl,hm,iF,cf,_,_⟩
 ·exact⟨_,[],rfl,by simp,λr h=>(by simp at h),.dS _ _ _⟩
 ·by_cases h0:len=0
  ·subst h0;exact⟨_,[],rfl,by simp,λr h=>(by simp at h),.dS _ _ _⟩
  ·have each:∀i,i<len->∃(ci:List Value) (xi:List IV),w.cells? base (a.add (i*es.length)) es.length=some ci/\Reads ν w es ci xi:=by
    intro i hi;have:=cf i hi;rw[hc,List.getElem?_eq_getElem (by omega),Option.bind_eq_some_iff]at this;obtain⟨ci,h1,h2⟩:=this;obtain⟨xi,h3⟩:=eG m (by omega) ci _ h2;exact⟨ci,xi,h1,h3⟩
   have hex:∀i,∃p:List Value×List IV,i<len->w.cells? base (a.add (i*es.length)) es.length=some p.1/\Reads ν w es p.1 p.2:=λi=>by
    by_cases hi:i<len
    ·obtain⟨ci,xi,h1,h2⟩:=each i hi;exact⟨(ci,xi),λ_=>⟨h1,h2⟩⟩
    ·exact⟨([],[]),λh=>absurd h hi⟩
   obtain⟨p,hp⟩:=Classical.axiomOfChoice hex;have ek:∀i j,i<len->j<es.length->w.cell? (a.add (i*es.length+j))=(p i).1[j]?:=λi j hi hj=>by
    have:=(World.cells?_some (hp i hi).1).2.2 j hj
    rwa [show(a.add (i*es.length)).add j=a.add (i*es.length+j) by simp only[Addr.add];by_cases h1:i*es.length=0<;>by_cases h2:j=0<;>simp[h1,h2,Nat.add_assoc]]at this
   have hlen:∀i,i<len->(p i).1.length=es.length:=λi hi=>(World.cells?_some (hp i hi).1).2.1
   have Kn:∃v,w.cell? (a.add 0)=some v:=by
    have:=ek 0 0 (by omega) nT;simp only[Nat.zero_mul,Nat.add_zero]at this;exact⟨(p 0).1[0]'(by rw[hlen 0 (by omega)];exact nT),by rw[this];exact List.getElem?_eq_getElem _⟩
   obtain⟨v0,F1⟩:=Kn;obtain⟨b,off,spot⟩:=a;have FC:spot=none:=by simpa[Addr.add]using World.cell?_spot F1
   subst FC;have hblk:b<w.heap.size:=by
    rcases Nat.lt_or_ge b w.heap.size with h | h
    ·exact h
    ·simp[Addr.add,World.cell?,Array.getElem?_eq_none h]at F1
   refine⟨_,(List.range len).map λi=>(p i).2,rfl,by simp;omega,λr hr=>?_,
    .sl b off len cap es.length _ (λi j=>((p i).1[j]?).getD undef) hblk (by simp) hl (λc hc=>?_) (λi j c x h1 h2=>?_) λi j c x h1 h2=>?_⟩
   ·simp only[List.mem_map,List.mem_range]at hr;obtain⟨i,hi,rfl⟩:=hr;exact(hp i hi).2.2.1
   ·simp only[List.mem_map,List.mem_range]at hc;obtain⟨i,hi,rfl⟩:=hc;rw[(hp i hi).2.1,hlen i hi]
   ·simp only[List.getElem?_map,Option.map_eq_some_iff]at h1;obtain⟨i',bX,rfl⟩:=h1;have hi:=aA bX;simp only[List.length_range]at hi;rw[List.getElem?_range hi,Option.some.injEq]at bX;subst bX;have hj:j<es.length:=by have:=aA h2;rwa [(hp i hi).2.1,hlen i hi]at this
    have:=ek i j hi hj;rw[Addr.add_lit]at this;rw[show off+i*es.length+j=off+(i*es.length+j) by omega,this,List.getElem?_eq_getElem (by rw[hlen i hi];exact hj)];rfl
   ·simp only[List.getElem?_map,Option.map_eq_some_iff]at h1;obtain⟨i',bX,rfl⟩:=h1;have hi:=aA bX;simp only[List.length_range]at hi;rw[List.getElem?_range hi,Option.some.injEq]at bX;subst bX;have hj:j<(p i).1.length:=by have:=aA h2;rwa [(hp i hi).2.1]at this
    refine(hp i hi).2.2.2 j _ x ?_ h2;rw[List.getElem?_eq_getElem hj];rfl
theorem AF {eT:TypeId} (hE:pn P eT 9 eT hZ=true) (DS:P.cellsOf eT=hZ.length):∀(n d:Nat),sU eT ν enc P w base spare held d n:=by
 intro n
 induction n using Nat.strongRecOn with
 |_ n ih=>
  intro d t ss cs x h hx;obtain⟨d,rfl⟩:∃d',d=d'+1:=by
   cases d with
   |zero=>simp[pn]at h
   |succ d=>exact⟨d,rfl⟩
  unfold pn at h;split at h
  ·rename_i hu;split at h
   ·obtain⟨b,rfl,_⟩:=DataW.trod_bool hu hx;exact⟨_,Reads.one (.bool b) (.bool b)⟩
   ·cases h
  ·rename_i k hu;split at h
   ·rename_i k';have:=beq_iff_eq.1 h;subst this;obtain⟨m,rfl,_,hw⟩:=DataW.trod_int hu hx;exact⟨_,Reads.one (.int _ m hw) (.int _ _)⟩
   ·cases h
  ·rename_i hu;split at h
   ·obtain⟨s,rfl,_,hw⟩:=DataW.trod_string hu hx;exact⟨_,Reads.one (.str s hw) (.str s)⟩
   ·cases h
  ·rename_i e hu;split at h
   ·rename_i es;simp only[Bool.and_eq_true,beq_iff_eq,Nat.blt_eq]at h;obtain⟨⟨hc,nT⟩,tl⟩:=h;obtain⟨v,rows,rfl,h1,h2,h3⟩:=r8 hu hc nT (λm hm ci y hy=>ih m hm d e es ci y tl hy) hx;exact⟨_,Reads.one (.sl es rows h1 h2) h3⟩
   ·have:=beq_iff_eq.1 h;subst this;obtain⟨v,rows,rfl,h1,h2,h3⟩:=r8 (es:=hZ) hu DS (by decide) (λm hm ci y hy=>ih m hm 9 _ hZ ci y hE hy) hx;exact⟨_,Reads.one (.ex rows h1 h2) h3⟩
   ·cases h
  ·rename_i fs hu;simp only[Bool.and_eq_true,beq_iff_eq]at h;obtain⟨xs,m,BA,_,hlen,oX,cf⟩:=DataW.trod_struct hu hx;refine qh (ih m (by omega) d) (all:=cs) fs.toList 0 ss cs h.2 rfl (by rw[hlen,h.1]) λf hf=>?_
   obtain⟨i,hi⟩:=List.getElem?_of_mem hf;have:=cf i f (by simpa using hi);have aV:i<xs.length:=by have:=aA hi;simp at this;omega
   rw[List.getElem?_eq_getElem aV]at this;exact⟨_,this⟩
  ·rename_i q e hu;simp only[Bool.and_eq_true,beq_iff_eq]at h;obtain⟨xs,m,BA,_,hlen,oX,cf⟩:=DataW.trod_array hu hx;refine r7 (ih m (by omega) d) (all:=cs) q 0 ss cs h.2 (by simp) (by rw[hlen,h.1]) λj _ hj=>?_
   have:=cf j (by omega);rw[List.getElem?_eq_getElem (by omega)]at this;exact⟨_,this⟩
  ·cases h
def xD (agg:Bool) (ss:List Sh) (x:AV):Prop:=∃xs,bD ss xs/\(if agg then x = .agg (xs.map .iv) else ∃y,xs=[y]/\x = .iv y)
end
end au
namespace al
open Go Go.RowKit Go.WideShapes
inductive Sh where
 |bool
 |int (k:IntKind)
 |str
 |sl (es:List Sh)
 deriving Inhabited
mutual
def Fits:Sh->IV->Prop
 |.bool,x=>∃b,x = .bool b
 |.int k,x=>∃n,x = .int k n/\(Lit.int k n).wf=true
 |.str,x=>∃s,x = .str s/\s.size<=maxLen
 |.sl es,x=>∃rows,x = .sl es.length rows/\rows.length<=maxLen/\∀r ∈ rows,eX es r
def eX:List Sh->List IV->Prop
 |[],[]=>True
 |s::ss,x::xs=>Fits s x/\eX ss xs
 |_,_=>False
end
theorem eX.append:∀{ss ts:List Sh} {xs ys:List IV},eX ss xs->eX ts ys->eX (ss++ts) (xs++ys)
 |[],_,[],_,_,h=>h
 |_::_,_,_::_,_,h,h'=>⟨h.1,eX.append h.2 h'⟩
 |[],_,_::_,_,h,_=>h.elim
 |_::_,_,[],_,h,_=>h.elim
section
variable {H:Type} {enc:TypeId×Value->H} {P:Program} {w:World} {base:Nat} {spare:Nat->Bool} {held:Bool} {ν:Nat->Nat}
def Old (w:World) (b:Nat):Prop:=b<w.heap.size
def Reads (ν:Nat->Nat) (w:World) (ss:List Sh) (cs:List Value) (xs:List IV):Prop:=
 xs.length=cs.length/\eX ss xs/\∀(j:Nat) (v:Value) (x:IV),cs[j]?=some v->xs[j]?=some x->RI ν (Old w) w v x
theorem Reads.one {s:Sh} {v:Value} {x:IV} (h:Fits s x) (hr:RI ν (Old w) w v x):Reads ν w [s] [v] [x]:=
 ⟨rfl,⟨h,trivial⟩,λj v' x' h1 h2=>by cases j with | zero=>simp at h1 h2;subst h1 h2;exact hr | succ j=>simp at h1⟩
theorem Reads.append {ss ts:List Sh} {cs ds:List Value} {xs ys:List IV} (h:Reads ν w ss cs xs) (h':Reads ν w ts ds ys):Reads ν w (ss++ts) (cs++ds) (xs++ys):=by
 refine⟨by simp[h.1,h'.1],h.2.1.append h'.2.1,λj v x h1 h2=>?_⟩;by_cases hj:j<cs.length
 ·rw[List.getElem?_append_left hj]at h1;rw[List.getElem?_append_left (by rw[h.1];exact hj)]at h2;exact h.2.2 j v x h1 h2
 ·rw[List.getElem?_append_right (by omega)]at h1;rw[List.getElem?_append_right (by rw[h.1];omega),h.1]at h2;exact h'.2.2 _ v x h1 h2
end
end al
namespace al
open Go Go.RowKit
section
variable {ν:Nat->Nat} {P:Program}
def kn (P:Program) (ν:Nat->Nat) (f:Nat) (ir:an):Prop:=∃fn c,P.funcs[ν f]?=some fn/\fn.body=some c/\(fn.name=="runtime.NumGoroutine")=false/\pZ P ν fn c ir=true/\ng P ν f ir
theorem sV:jW P ν (get []):=λf ir h=>by simp[get]at h
theorem ia {f:Nat} {ir:an} {L:List (Nat×an)} (h:kn P ν f ir) (hL:jW P ν (get L)):jW P ν (get ((f,ir)::L)):=by
 intro f' zt hg;simp only[get]at hg;split at hg
 ·rename_i h0;subst h0;simp only[Option.some.injEq]at hg;subst hg;exact h
 ·exact hL f' zt hg
def DT (ir:an):Bool:=match ir.cl with | none=>true | some p=>Nat.blt p.1 1000000
theorem DU {f:Nat} {ir:an} (h:DT ir=true):ng P ν f ir:=by
 unfold DT at h;unfold ng;split
 ·trivial
 ·rename_i p hp;rw[hp]at h;exact .inl h
def AG (P:Program) (ν:Nat->Nat) (fn:Func) (ir:an):Bool:=(match fn.body with | some c=>pZ P ν fn c ir | none=>false)&&!(fn.name=="runtime.NumGoroutine")
def qN (P:Program) (ν:Nat->Nat) (fn:Func) (ir:an):Bool:=AG P ν fn ir&&DT ir
theorem vu {f k:Nat} {ir:an} {fn:Func} (hk:P.funcs[k]?=some fn) (ph:ν f=k) (h:AG P ν fn ir=true) (hs:ng P ν f ir):kn P ν f ir:=by
 simp only[AG,Bool.and_eq_true,Bool.not_eq_true']at h;obtain⟨h1,h2⟩:=h;split at h1
 ·rename_i c hc;exact⟨fn,c,by rw[ph];exact hk,hc,h2,h1,hs⟩
 ·cases h1
theorem vw {f k:Nat} {ir:an} {fn:Func} (hk:P.funcs[k]?=some fn) (ph:ν f=k) (h:qN P ν fn ir=true):kn P ν f ir:=by
 simp only[qN,Bool.and_eq_true]at h;exact vu hk ph h.1 (DU h.2)
end
structure BB (w w':World) (b e:Nat) (rows:List (List Value)):Prop where
 size:w.heap.size<=w'.heap.size
 os:w'.os=w.os
 tape:w'.tape=w.tape
 output:w'.output=w.output
 cr:∀x,x<w.heap.size->x≠b->w'.heap[x]?=w.heap[x]?
 cell:∀(i j:Nat) (r:List Value) (v:Value),rows[i]?=some r->r[j]?=some v->w'.cell? ⟨b,i*e+j,none⟩=some v
 some:∀o,(w.cell? ⟨b,o,none⟩).isSome=true->(w'.cell? ⟨b,o,none⟩).isSome=true
 soft:∀o,w'.frozen? ⟨b,o,none⟩=w.frozen? ⟨b,o,none⟩
def r9 (n:Int):List Value:=[.int .i64 n]
def vy (P:Program) (kf:Nat):Prop:=
 ∀(b cap:Nat) (l:List Int) (w:World),(∀(i j:Nat) (p:Int) (v:Value),l[i]?=some p->(r9 p)[j]?=some v->w.cell? ⟨b,i*1+j,none⟩=some v)->(∀o,w.frozen? ⟨b,o,none⟩=false)->b<w.heap.size->
  l.length<=1073741824->Calls P kf #[.slice (some ⟨b,0,none⟩) l.length cap] w λe w'=>e = .returned (.tuple #[])/\BB w w' b 1 ((ma l).map r9)
theorem po (n:Int):∀l:List Int,(sj n l).Perm (n::l)
 |[]=>.refl _
 |m::l=>by
  unfold sj;split
  ·exact .refl _
  ·exact((po n l).cons m).trans (.swap ..)
theorem vz (n:Int):∀l:List Int,l.Pairwise (·<= ·)->(sj n l).Pairwise (·<= ·)
 |[],_=>List.pairwise_singleton _ _
 |m::l,h=>by
  obtain⟨h1,h2⟩:=List.pairwise_cons.1 h;unfold sj;split
  ·rename_i hn;exact List.pairwise_cons.2 ⟨λx hx=>by rcases List.mem_cons.1 hx with rfl | hx;exact hn;exact Int.le_trans hn (h1 x hx),h⟩
  ·refine List.pairwise_cons.2 ⟨λx hx=>?_,vz n l h2⟩;rcases List.mem_cons.1 ((po n l).mem_iff.1 hx)with rfl | hx
   ·omega
   ·exact h1 x hx
theorem nX:∀l:List Int,(ma l).Perm l
 |[]=>.refl _
 |n::l=>(po n _).trans ((nX l).cons n)
theorem tr:∀l:List Int,(ma l).Pairwise (·<= ·)
 |[]=>.nil
 |n::l=>vz n _ (tr l)
theorem AH (l:List Int):l.mergeSort (λx y=>decide (x<=y))=ma l:=by
 have hm:(l.mergeSort λx y=>decide (x<=y)).Pairwise (·<= ·):=(List.pairwise_mergeSort (λa b c h1 h2=>by simp only[decide_eq_true_eq]at *;omega) (λa b=>by simp only[Bool.or_eq_true,decide_eq_true_eq];omega) l).imp λh=>by simpa using h
 exact List.Perm.eq_of_pairwise (le:=(·<= ·)) (λa b _ _ h1 h2=>Int.le_antisymm h1 h2) hm (tr l) ((List.mergeSort_perm l _).trans (nX l).symm)
theorem tt (l:List Int):(ma l).length=l.length:=(nX l).length_eq
theorem qi {α β:Type} {f:α->Option β} {u:β->α} (hu:∀x y,f x=some y->x=u y):∀{l:List α} {r:List β},jY f l=some r->l=r.map u
 |[],r,h=>by simp only[jY,Option.some.injEq]at h;subst h;rfl
 |x::l,r,h=>by
  simp only[jY]at h;split at h
  ·rename_i y r' h1 h2;simp only[Option.some.injEq]at h;subst h;rw[List.map_cons,<-hu _ _ h1,<-qi hu h2]
  ·cases h
theorem BZ {x:List IV} {y:Int} (h:zK x=some y):x=qU y:=by
 unfold zK at h;split at h
 ·simp only[Option.some.injEq]at h;subst h;rfl
 ·cases h
section
variable {ν:Nat->Nat} {P:Program}
theorem zu {k:Cx} {g:Gh} (r:Rel ν k g) {id v e b:Nat} {es es':List (List IV)} {vs:List (List Value)} {w':World} (hg:get g.h id=some (.buf v e es)) (ah:g.φ id=some b) (hl:es'.length=es.length) (hc:∀c ∈ es',c.length=e)
  (hw:BB g.w w' b e vs) (hv:∀(i j:Nat) (c:List IV) (x:IV),es'[i]?=some c->c[j]?=some x->∃rr u,vs[i]?=some rr/\rr[j]?=some u/\∀I w,RI ν I w u x) :
  Rel ν k ⟨g.I,bl g.φ id (g.φ id),w',set g.h id (.buf v e es')⟩/\aX ν g ⟨g.I,bl g.φ id (g.φ id),w',set g.h id (.buf v e es')⟩:=by
 rcases r.ob id _ hg with⟨h1,_⟩|⟨b',h1,bZ,ca,aC⟩
 ·rw[ah]at h1;cases h1
 rw[ah]at h1;cases h1;refine r.gO (ob:=.buf v e es') (p:=g.φ id) (w':=w') (I':=g.I) hg (λx hx=>by rw[ah]at hx;cases hx;exact bZ) hw.size hw.os hw.tape hw.output (λx hx bG=>hw.cr x hx λe=>bG (by rw[e];exact ah)) (λ_ h=>h) (λ_ h=>.inl h) (.inl rfl)
  (λu o n ai h=>?_) (λu ai i j h=>?_) λck hm=>.inr ⟨b,(aw _ _ _).trans ah,bZ,⟨Nat.lt_of_lt_of_le ca.1 hw.size,λo=>by rw[hw.soft];exact ca.2 o⟩,hc,λi j c x h1 h2=>?_⟩
 ·unfold aH at h ⊢;rw[hg]at h;simp only[aq,aw]at h ⊢;refine⟨h.1,λdf=>?_⟩;have:=h.2 df;rw[ah]at this ⊢;obtain⟨x,cap,q1,q2,q3,q4,q5⟩:=this;exact⟨x,cap,q1,by rw[hl];exact q2,q3,q4,λhx c hc=>hw.some _ (q5 hx c hc)⟩
 ·unfold aI at h ⊢;rw[hg]at h;simp only[aq,aw]at h ⊢;exact h
 ·obtain⟨rr,u,q1,q2,q3⟩:=hv i j c x h1 h2;exact⟨u,hw.cell i j rr u q1 q2,q3 _ _⟩
theorem DV {p:Int} {j:Nat} {x:IV} (h:(qU p)[j]?=some x):∃u,(r9 p)[j]?=some u/\∀I w,RI ν I w u x:=by
 match j with
 |0=>cases h;exact⟨_,rfl,λ_ _=>.int _ _⟩
 |_+1=>simp[qU]at h
theorem DW {p:Int} {j:Nat} {v:Value} (h:(r9 p)[j]?=some v):∃x,(qU p)[j]?=some x/\∀I w u,RI ν I w u x->u=v:=by
 match j with
 |0=>cases h;exact⟨_,rfl,λ_ _ _ h=>by cases h;rfl⟩
 |_+1=>simp[r9]at h
theorem xE {k:Cx} {g:Gh} (r:Rel ν k g) {id n ai e:Nat} {es:List (List IV)} (hg:get g.h id=some (.buf ai e es)) (hn:(n==es.length&&Nat.blt 0 n&&roomy n)=true) {u:Value} (hv:RA ν g u (.own id 0 n ai)) :
  ∃b cap,u = .slice (some ⟨b,0,none⟩) es.length cap/\g.φ id=some b/\¬g.I b/\qm g.w b/\Row ν g.I g.w b e es/\0<es.length/\es.length<=1073741824:=by
 simp only[Bool.and_eq_true,beq_iff_eq,roomy]at hn;obtain⟨⟨rfl,DX⟩,vA⟩:=hn;have DY:0<es.length:=by simpa using DX
 cases hv with
 |own h1 ho=>
  unfold aH at ho;rw[hg]at ho;have hs:=ho.2 rfl;rcases r.ob id _ hg with⟨_,h2⟩|⟨b,F2,bZ,ca,aC⟩
  ·subst h2;simp at DY
  ·rw[F2]at hs;obtain⟨x,cap,rfl,q2,q3,q4,q5⟩:=hs;have hx:x=0:=by
    rcases q4 with h | h
    ·simpa using h
    ·omega
   subst hx;exact⟨b,cap,rfl,F2,bZ,ca,aC,DY,by simpa using vA⟩
theorem AI {f:Nat} (H:vy P (ν f)):∀args hp r bN,qV 1000001 args hp=some (r,bN)->gW ν P f args hp r bN:=by
 intro args hp r bN e k0 g0 aT hh FN FO r0 dn;unfold qV at e;split at e
 ·rename_i id n ai;rw[if_pos (by simp)]at e;unfold xV at e;split at e
  case h_2=>cases e
  rename_i v e' es Ko;split at e
  case isFalse=>cases e
  rename_i hq;simp only[Bool.and_eq_true,beq_iff_eq]at hq;obtain⟨⟨⟨⟨rfl,rfl⟩,Kp⟩,yK⟩,dk⟩:=hq;split at e
  case h_2=>cases e
  rename_i l hl;simp only[Option.some.injEq,Prod.mk.injEq]at e;obtain⟨rfl,rfl⟩:=e;obtain rfl:=qi (u:=qU) (λ_ _=>BZ) hl;obtain⟨cu,Kq⟩:∃a,aT=#[a]:=by
   have:=dn.1;simp only[List.length_cons,List.length_nil,Nat.zero_add,Array.length_toList]at this;obtain⟨l⟩:=aT
   match l,this with
   |[a],_=>exact⟨a,rfl⟩
  subst Kq;have h0:RA ν g0 cu (.own id 0 n v):=dn.2 0 _ _ rfl rfl;have ux:get g0.h id=some (.buf v 1 (l.map qU)):=by rw[hh];exact Ko
  obtain⟨b,cap,rfl,ah,bZ,ca,aC,DX,vA⟩:=xE r0 ux (by simp[<-Kp,yK,dk]) h0;simp only[List.length_map]at DX vA;have dI:∀(i j:Nat) (p:Int) (v:Value),l[i]?=some p->(r9 p)[j]?=some v->g0.w.cell? ⟨b,i*1+j,none⟩=some v:=by
   intro i j p u h1 h2;obtain⟨x,hx,Kr⟩:=DW (ν:=ν) h2;obtain⟨u',dv,hr⟩:=aC.2 i j (qU p) x (by simp[h1]) hx;rw[<-Kr _ _ _ hr];exact dv
  have eo:=H b cap l g0.w dI ca.2 ca.1 vA;rw[List.length_map];refine eo.mono ?_;rintro en w' ⟨rfl,hw⟩;have DZ:=zu (es':=(ma l).map qU) r0 ux ah (by simp[tt]) (λc hc=>by
   obtain⟨p, -,rfl⟩:=List.mem_map.1 hc;rfl) hw (λi j c x h1 h2=>by
   simp only[List.getElem?_map,Option.map_eq_some_iff]at h1;obtain⟨p,hp,rfl⟩:=h1;obtain⟨u,hu,hr⟩:=DV (ν:=ν) h2;exact⟨r9 p,u,by simp[hp],hu,hr⟩)
  refine⟨_,_,rfl,rfl,by rw[<-hh],DZ.1,DZ.2.low,.aR rfl λj v c h=>by simp at h⟩
 ·rename_i id n ai c';split at e
  case h_2=>cases e
  split at e
  ·rename_i hq;simp only[Bool.and_eq_true,beq_iff_eq]at hq;omega
  ·cases e
 ·cases e
end
end al
namespace au
open Go Go.RowKit al
section
variable {ν:Nat->Nat} {P:Program}
def start (W:World):Gh:=⟨Old W,λ_=>none,W,.nil⟩
theorem zw (W:World):Rel ν ⟨W,Old W⟩ (start W) where
 ob id o h:=by rw[show(start W).h=Tr.nil from rfl,lM]at h;cases h
 inj id bY o o' b h:=by rw[show(start W).h=Tr.nil from rfl,lM]at h;cases h
 small b h:=h
 i0 b h:=h
 i1 b h:=.inl h
 own id o b h:=by rw[show(start W).h=Tr.nil from rfl,lM]at h;cases h
 size:=Nat.le_refl _
 os:=rfl
 tape:=rfl
 output:=rfl
 cr b _:=rfl
 ty id o b h:=by rw[show(start W).h=Tr.nil from rfl,lM]at h;cases h
theorem AJ (er:P.follows .mixedOrders=true) {p1:Nat->Option al.an} (AK:al.jW P ν p1) {p2:Nat->Option an} (xF:jW P ν p2) {f:Nat} {W:World} {aT:Array Value} {xs:List AV}
  (hR:RL ν (start W) aT.toList xs) (he:∃n p,c6 p1 p2 n f xs .nil 1=some (.iv (.bool true),p)):Calls P (ν f) aT W λe w'=>e = .returned (.bool true)/\Below W.heap.size W w':=by
 obtain⟨n,⟨bN,dL⟩,he⟩:=he;have hs:al.bp ν P (one p1 n):=al.sound er AK n;obtain⟨_,bt⟩:=sound er hs xF n f xs .nil 1 _ bN dL he;refine(bt ⟨W,Old W⟩ (start W) aT rfl (zw W) hR).mono ?_;rintro e w' ⟨v,g',rfl,rfl, -,r', -,hv⟩;refine⟨?_,⟨r'.os,r'.tape,r'.output,r'.size,λb hb=>r'.cr b hb⟩⟩;cases hv with
 |iv h=>cases h;rfl
theorem sV:jW P ν (get ([]:List (Nat×an))):=λf ir h=>by simp[eC]at h
theorem ia {f:Nat} {ir:an} {L:List (Nat×an)} (h:kn P ν f ir) (hL:jW P ν (get L)):jW P ν (get ((f,ir)::L)):=by
 intro f' zt hg;simp only[bV]at hg;split at hg
 ·rename_i h0;subst h0;simp only[Option.some.injEq]at hg;subst hg;exact h
 ·exact hL f' zt hg
def qN (P:Program) (ν:Nat->Nat) (fn:Func) (ir:an):Bool:=(match fn.body with | some c=>pZ P ν fn c ir | none=>false)&&!(fn.name=="runtime.NumGoroutine")
theorem vw {f k:Nat} {ir:an} {fn:Func} (hk:P.funcs[k]?=some fn) (ph:ν f=k) (h:qN P ν fn ir=true):kn P ν f ir:=by
 simp only[qN,Bool.and_eq_true,Bool.not_eq_true']at h;obtain⟨h1,h2⟩:=h;split at h1
 ·rename_i c hc;exact .inl ⟨fn,c,by rw[ph];exact hk,hc,h2,h1⟩
 ·cases h1
theorem vB (e:Nat):pg (Prim.clone e):=λ_ _ _ _ _ _ _ _ _ _ h=>h
theorem zx:cm (get ([]:List (Nat×an))):=λf ir p h=>by simp[eC]at h
theorem jP {f:Nat} {ir:an} {L:List (Nat×an)} (h:∀p,ir.gF=some p->pg p) (hL:cm (get L)):cm (get ((f,ir)::L)):=by
 intro f' zt p hg hp;simp only[bV]at hg;split at hg
 ·simp only[Option.some.injEq]at hg;subst hg;exact h p hp
 ·exact hL f' zt p hg hp
theorem xG {prog:Nat->Option an} (tie:jW P ν prog):∀f ir p,prog f=some ir->ir.gF=some p->kg p:=λf ir p hf hp=>by
 rcases tie f ir hf with⟨fn,c, -, -, -,jj⟩|⟨p',h1, -,h2⟩
 ·simp[pZ,hp]at jj
 ·rw[hp]at h1;cases h1;exact h2
end
section
variable {H:Type} {enc:TypeId×Value->H} {P:Program} {w:World} {base:Nat} {spare:Nat->Bool} {held:Bool} {ν:Nat->Nat}
def D0 (P:Program) (eT t:TypeId) (agg:Bool) (ss:List Sh):Bool:=pn P eT 9 eT hZ&&P.cellsOf eT==hZ.length&&pn P eT 14 t ss&&(match P.underlying t with | some d=>gp d==agg | none=>false)
theorem zy {r:Reach} {b0:Nat} {eT t:TypeId} {agg:Bool} {ss:List Sh} (ht:D0 P eT t agg ss=true) {v:Value} (gE:Value.okWide P w r b0 t v) {d:DataW H} {ps:List MemPlace} (h:DataW.Trod enc P w base spare held t v d ps)
  {g:Gh} (hI:g.I=Old w) (hw:g.w=w):∃x,xD agg ss x/\RA ν g v x:=by
 obtain⟨n,hn⟩:=h;simp only[D0,Bool.and_eq_true,beq_iff_eq]at ht;obtain⟨⟨⟨hE,DS⟩,tl⟩,dq⟩:=ht;obtain⟨xs,hx⟩:=AF (ν:=ν) hE DS n 14 t ss _ _ tl hn;unfold Value.okWide at gE;split at dq
 ·rename_i dd hu;rw[beq_iff_eq]at dq;subst dq;have dI:gp dd=true->∃cs,v = .agg cs:=by
   intro h;rw[hu]at gE;cases dd<;>simp[gp]at h<;>(obtain⟨cs,rfl,_⟩:=gE;exact⟨cs,rfl⟩)
  cases hd:gp dd with
  |true=>
   obtain⟨cs,rfl⟩:=dI hd;refine⟨.agg (xs.map .iv),⟨xs,hx.2.1,by simp⟩,.agg (by have:=hx.1;simp[Value.cells]at this;simp[this]) (λj v hv=>?_) λj v c hv hc=>?_⟩
   ·have hj:j<xs.length:=by have:=(Array.getElem?_eq_some_iff.1 hv).1;have h2:=hx.1;simp[Value.cells]at h2;omega
    exact(hx.2.2 j v _ (by simpa[Value.cells]using hv) (List.getElem?_eq_getElem hj)).one
   ·simp only[List.getElem?_map,Option.map_eq_some_iff]at hc;obtain⟨y,hy,rfl⟩:=hc;refine .iv ?_;rw[hI,hw];exact hx.2.2 j v y (by simpa[Value.cells]using hv) hy
  |false=>
   have h1:v.cells.toList.length=1\/True:=.inr trivial;clear h1;have ed:∃c,v.cells.toList=[c]/\c=v:=by
    cases v<;>first | exact⟨_,rfl,rfl⟩|skip
    ·rename_i cs;exfalso;rw[hu]at gE;cases dd<;>simp[gp]at hd<;>simp[Cell.okWide,Cell.ok]at gE
   obtain⟨c,hc,rfl⟩:=ed;rw[hc]at hx;have oX:=hx.1
   match xs,oX with
   |[y],_=>
    refine⟨.iv y,⟨[y],hx.2.1,by simp⟩,.iv ?_⟩;rw[hI,hw];exact hx.2.2 0 c y rfl rfl
 ·cases dq
end
end au
namespace al
open Go

structure S where
 a:Bool
 i:List (Int×Int)
 c:Bool
 s:List ByteArray
def tu (p:Int×Int):List IV:=[.int .i64 p.1,.int .i64 p.2]
def st1 (s:ByteArray):List IV:=[.str s]
def S.enc (x:S):List IV:=[.bool x.a,.sl 2 (x.i.map tu),.bool x.c,.sl 1 (x.s.map st1)]
def S.av (x:S):AV:=.agg [.iv (.bool x.a),.iv (.sl 2 (x.i.map tu)),.iv (.bool x.c),.iv (.sl 1 (x.s.map st1))]
structure B where
 s0:S
 s1:S
 s2:S
 s3:S
def B.enc (b:B):List IV:=b.s0.enc++(b.s1.enc++(b.s2.enc++b.s3.enc))
def kS (l:List B):AV:=.iv (.sl 16 (l.map B.enc))
def ej (l:List S):AV:=.iv (.sl 4 (l.map S.enc))
theorem ib {k N:Nat} (h:k<N) (hN:N<=maxLen):IntKind.i64.wrap ((k:Int)+1)=(k:Int)+1:=IntWalk.i64_in _ (by unfold maxLen at hN;omega)
theorem gw {α:Type} {l:List α} {i:Nat} {x:α} {f:α->Bool} (hx:l[i]?=some x):(l.take (i+1)).all f=((l.take i).all f&&f x):=by
 rw[List.take_add_one,hx];simp
theorem all_false {α:Type} {l:List α} {i:Nat} {x:α} {f:α->Bool} (hx:l[i]?=some x) (h:f x=false):l.all f=false:=by
 rw[List.all_eq_false];exact⟨x,List.mem_of_getElem? hx,by simp[h]⟩
theorem sa (n0:Nat) (h:Hp) (x:IV):nrm n0 h 8 (.iv x) = .iv x:=rfl
theorem kh (n0:Nat) (h:Hp):∀l:List IV,(l.map AV.iv).map (nrm n0 h 8)=l.map .iv
 |[]=>rfl
 |x::r=>by rw[List.map_cons,List.map_cons,sa,kh n0 h r]
theorem lY {prog:Nat->Option an} {aF:List Nat} {b:IC} {s:St} {Q:Ex->St->Prop} (N:Nat) (σ:Nat->St) (G:Nat->Prop) (h0:({ s with fr:=aY aF s.fr }:St)=σ 0) (g0:G 0)
  (round:∀i,i<N->G i->Wp prog b (σ i) (Ex.then (λs2=>again aF s.nx s2=σ (i+1)/\G (i+1)) Q)) (stop:G N->Wp prog b (σ N) (Ex.then (λ_=>False) Q)):Wp prog (.loop aF b) s Q:=by
 refine pK (λm s1=>∃i,i+m=N/\s1=σ i/\G i) (m:=N) ⟨0,by omega,h0,g0⟩ ?_;rintro m s1 ⟨i,hi,rfl,hg⟩;cases m with
 |zero=>
  obtain rfl:i=N:=by omega
  refine(stop hg).mono λe s2 h=>?_
  cases e with
  |norm=>exact h.elim
  |exit j=>exact h
  |ret=>exact h
 |succ m=>
  refine(round i (by omega) hg).mono λe s2 h=>?_
  cases e with
  |norm=>exact⟨m,by omega,i+1,by omega,h.1,h.2⟩
  |exit j=>exact h
  |ret=>exact h
end al
namespace al
open Go
attribute [local simp] aQ Option.map_some aW step bK bn bc M.aN M.run M.ok M.fresh M.write M.look M.lift bj al.set ev al.get aY bin dZ iI mk params bW load dc cU fC gL eD eP idx len valid gM bound store cn eE un eqs jt bE bz M.bA gx cJ ew di meets fc gN callee eu gG fz flat jr ki nD Option.bind_some gn M.bind
section
variable {prog:Nat->Option an}
end
def B.get (b:B):Nat->S
 |0=>b.s0
 |1=>b.s1
 |2=>b.s2
 |_=>b.s3
def B.cs (b:B):List AV:=b.enc.map .iv
def B.av (b:B):AV:=.agg b.cs
theorem B.nr (b:B):b.cs.length=16:=rfl
theorem B.kO (b:B) (n0:Nat) (h:Hp):b.cs.map (nrm n0 h 8)=b.cs:=kh n0 h b.enc
def notNil:IV->Bool
 |.az _=>false
 |_=>true
theorem iC:∀(l:List IV) (s:Nat),l.all notNil=true->eE s (l.map .iv) = .ret (l.map .iv)
 |[],s,_=>by simp[eE]
 |x::r,s,h=>by
  simp only[List.all_cons,Bool.and_eq_true]at h;have ih:=iC r (s+1) h.2;cases x with
  |az e=>simp[notNil]at h
  |_=>simp only[List.map_cons,eE,ih,M.bind]
theorem jn (w:Bool):∀(l:List IV),l.all notNil=true->M.aN (gG w) (l.map .iv) = .ret (l.map .iv)
 |[],_=>by simp[M.aN]
 |x::r,h=>by
  simp only[List.all_cons,Bool.and_eq_true]at h;have ih:=jn w r h.2;cases x with
  |az e=>simp[notNil]at h
  |_=>rw[List.map_cons,M.aN,ih];rfl
theorem B.dQ (b:B):b.enc.all notNil=true:=by simp[B.enc,S.enc,notNil]
theorem B.jQ (b:B) (w:Bool):M.aN (gG w) b.cs = .ret b.cs:=jn w b.enc b.dQ
theorem B.jo (b:B) (s:Nat):eE s b.cs = .ret b.cs:=iC b.enc s (by simp[B.enc,S.enc,notNil])
section
variable {prog:Nat->Option an}
end
def S.cs (x:S):List AV:=x.enc.map .iv
theorem S.kO (x:S) (n0:Nat) (h:Hp):x.cs.map (nrm n0 h 8)=x.cs:=kh n0 h x.enc
section
variable {prog:Nat->Option an}
end
theorem B.wv (b:B):b.enc.length=16:=rfl
section
variable {prog:Nat->Option an}
end
section
variable {prog:Nat->Option an}
end
def B.fits (b:B):Prop:=∀i,i<4->(b.get i).i.length<=maxLen/\(b.get i).s.length<=maxLen
section
variable {prog:Nat->Option an}
end
section
variable {prog:Nat->Option an}
end
section
variable {prog:Nat->Option an}
end
section
variable {prog:Nat->Option an}
def jR (x:S):Bool:=decide (x.i.length<=40)&&decide (x.s.length<=40)&&x.s.all λt=>decide (t.size<=100)
theorem zz (h:prog 27=some qZ) (l:List S) (hl:l.length<=maxLen):jV prog 27 [ej l] (.bI (l.all jR)):=by
 refine jV.of h rfl rfl (c9 ?_);refine aS (c9 ?_);refine dt ?_;refine lY l.length (λi=>⟨[(0,ej l),(3,.nI i)],[],1128⟩) (λi=>(l.take i).all jR=true) rfl (by simp) ?_ ?_
 ·intro i hi hg;obtain⟨x,hx⟩:∃x,l[i]?=some x:=⟨_,List.getElem?_eq_getElem hi⟩;refine aS (eJ (by simp[ej,hi];rfl) ?_);refine bM rfl (db (aS (dt (aS (eJ (s':=⟨[(0,ej l),(3,.nI i),(26,.bI (decide ((40:Int)<x.i.length)||decide ((40:Int)<x.s.length)))],[],2408⟩) (by
   cases h1:decide ((40:Int)<x.i.length)<;>simp[ej,hx,S.enc,h1]) ?_)))))
  refine bM rfl ?_;cases hb:decide ((40:Int)<x.i.length)||decide ((40:Int)<x.s.length)with
  |true=>
   refine c9 ?_;refine cw ?_;have:l.all jR=false:=all_false hx (by
    simp only[Bool.or_eq_true,decide_eq_true_eq]at hb;simp only[jR,Bool.and_eq_false_iff,decide_eq_false_iff_not];omega)
   rw[this];rfl
  |false=>
   simp only[Bool.or_eq_false_iff,decide_eq_false_iff_not]at hb;refine db (c9 ?_);refine dt ?_;refine lY x.s.length (λk=>⟨[(0,ej l),(3,.nI i),(4,.nI k)],[],2472⟩) (λk=>(x.s.take k).all (λt=>decide (t.size<=100))=true) rfl (by simp) ?_ ?_
   ·intro k hk Ks;obtain⟨t,ht⟩:∃t,x.s[k]?=some t:=⟨_,List.getElem?_eq_getElem hk⟩;refine aS (eJ (by simp[ej,hx,S.enc,hk];rfl) ?_);refine bM rfl (db (aS (dt (eJ (s':=⟨[(0,ej l),(3,.nI i),(4,.nI k),(46,.bI (decide ((100:Int)<t.size)))],[],3624⟩) (by
     simp[ej,hx,S.enc,ht,st1]) ?_))))
    refine bM rfl ?_;cases F3:decide ((100:Int)<t.size)with
    |true=>
     refine c9 ?_;refine cw ?_;have:l.all jR=false:=all_false hx (by
      simp only[jR,Bool.and_eq_false_iff];exact .inr (all_false ht (by simp only[decide_eq_true_eq,decide_eq_false_iff_not]at F3 ⊢;omega)))
     rw[this];rfl
    |false=>
     refine db ?_;refine rE ?_;refine⟨by simp[again,aY,get,nrm,ej,ib hk (show x.s.length<=maxLen by unfold maxLen;omega)],?_⟩;rw[gw ht,Ks];simp only[decide_eq_false_iff_not,Bool.true_and,decide_eq_true_eq]at F3 ⊢;omega
   ·intro eS;refine aS (eJ (by simp[ej,hx,S.enc];rfl) ?_);refine bM rfl (ji ?_);simp only[Ex.then,Ex.inBlock,if_true];refine rE ?_;refine⟨by simp[again,aY,get,nrm,ej,ib hi hl],?_⟩;rw[gw hx,hg];rw[List.take_length]at eS;simp only[jR,eS,Bool.and_true,Bool.true_and,Bool.and_eq_true,decide_eq_true_eq];omega
 ·intro hg;refine aS (eJ (by simp[ej];rfl) ?_);refine bM rfl (ji ?_);simp only[Ex.then,Ex.inBlock,if_true];refine c9 ?_;refine cw ?_;rw[List.take_length]at hg;rw[hg];rfl
def sW (b:B):Bool:=jR b.s0&&(jR b.s1&&(jR b.s2&&jR b.s3))
theorem D1 (mE:prog 27=some qZ) (h:prog 14=some vU) (l:List B) (hl:l.length<=maxLen):jV prog 14 [kS l] (.bI (l.all sW)):=by
 refine jV.of h rfl rfl (c9 ?_);refine aS (c9 ?_);refine dt ?_;refine lY l.length (λi=>⟨[(0,kS l),(3,.nI i)],[],1128⟩) (λi=>(l.take i).all sW=true) rfl (by simp) ?_ ?_
 ·intro i hi hg;obtain⟨b,hb⟩:∃b,l[i]?=some b:=⟨_,List.getElem?_eq_getElem hi⟩;refine aS (eJ (by simp[kS,hi];rfl) ?_);refine bM rfl (db (aS (dt (aS ?_))));obtain⟨K,hK⟩:=zz mE [b.s0,b.s1,b.s2,b.s3] (by simp[maxLen]);refine bL (K:=K) (s':=⟨[(0,kS l),(3,.nI i),(32,.bI (!sW b))],[(2664,.buf 0 4 [b.s0.enc,b.s1.enc,b.s2.enc,b.s3.enc])],2856⟩) (λn hn=>by
   have hc:=hK n hn;simp[ej,S.enc]at hc;simp[kS,hb,B.enc,S.enc,ec,hc,sW]) ?_
  refine bM rfl ?_;cases F4:sW b with
  |false=>
   refine c9 ?_;refine cw ?_;rw[all_false hb F4];rfl
  |true=>
   refine db ?_;refine rE ?_;refine⟨by simp[again,aY,get,nrm,kS,ib hi hl],?_⟩;rw[gw hb,hg,F4];rfl
 ·intro hg;refine aS (eJ (by simp[kS];rfl) ?_);refine bM rfl (ji ?_);simp only[Ex.then,Ex.inBlock,if_true];refine c9 ?_;refine cw ?_;rw[List.take_length]at hg;rw[hg];rfl
def jq (l:List B):Bool:=decide (l.length<=20)&&l.all sW
theorem D2 (mE:prog 27=some qZ) (vC:prog 14=some vU) (h:prog 5=some F5) (l:List B) (hl:l.length<=maxLen):jV prog 5 [kS l] (.bI (jq l)):=by
 refine jV.of h rfl rfl (c9 ?_);refine aS ?_;obtain⟨K,hK⟩:=D1 mE vC l hl;refine bL (K:=K) (s':=⟨[(2,.bI (jq l))],[],1576⟩) (λn hn=>by
  have hc:=hK n hn;simp only[kS]at hc;cases hd:decide (l.length<=20)<;>have pY:decide ((l.length:Int)<=20)=decide (l.length<=20):=decide_eq_decide.2 (by omega)
  ·simp[kS,jq,hd,pY]
  ·simp[kS,jq,hd,pY,hc]) ?_
 exact cw rfl
end
end al
namespace au
open Go Go.Proofs Go.RowKit Go.Maps Go.Sort Go.Shelf
theorem vD {P:Program} {lZ wx:Ren} (Lk:SlLaysZI.n10 P lZ) (Ls:SlLaysZI.n6 P wx) (hs:∀m,AnyZI.SortsIn P wx Fence.wide m) (e9:∀args w,(callFunc (wx.f 9) args).run P w = .ok (.enter (wx.f 9) args) w)
  (eg:∀args w,(callFunc (lZ.f 10) args).run P w = .ok (.enter (lZ.f 10) args) w):mD P (wx.f 6) (lZ.f 10):=by
 intro W Bm b es clock ks hm hb fU pR dT hlen;have Kt:Bm<W.heap.size:=by
  refine Classical.byContradiction λh=>?_
  simp[World.cell?,Array.getElem?_eq_none (Nat.le_of_not_lt h)]at hm
 have bC:es.size=ks.length:=by have:=congrArg List.length pR;simpa using this
 let R:Value->Option (DataW Unit×List MemPlace):=λ_=>some (.nil,[])
 have D3:∀x ∈ es.toList,∃n,x.key = .int .i64 n/\n ∈ ks:=λx hx=>by
  have:x.key ∈ es.toList.map (·.key):=List.mem_map.2 ⟨x,hx,rfl⟩;rw[pR]at this;obtain⟨n,hn,e⟩:=List.mem_map.1 this;exact⟨n,e.symm,hn⟩
 have F6:∀x ∈ es.toList,∀n,x.key = .int .i64 n->WideElems.rd P (lZ.t 26) R x=some (.int .i64 n,.nil):=λx hx n hn=>by
  obtain⟨n',e1,e2⟩:=D3 x hx;rw[hn]at e1;cases e1;have:=dT n e2;have hk:keyOf P (lZ.t 26) (.int .i64 n)=some (.int .i64 n):=by
   simp[keyOf,Lk.t26,mapKey,Lit.wf,IntKind.min,IntKind.max,IntKind.signed,IntKind.bits];omega
  simp[WideElems.rd,hn,hk,R]
 have Ft:Go.WideElems.Fit P (lZ.t 26) R es clock:=⟨by unfold maxLen;omega,fU,λx hx=>by obtain⟨n,e, -⟩:=D3 x hx;exact⟨_,F6 x hx n e⟩⟩;have zT:W.ownsMap P (lZ.t 26) R b es.size (.map ((es.toList.map (WideElems.rg P (lZ.t 26) R)).foldr DataW.insert [])):=⟨es,clock,hb,Ft,Nat.le_refl _,rfl⟩;have rY:(intKeys (.map ((es.toList.map (WideElems.rg P (lZ.t 26) R)).foldr DataW.insert []))).Perm ks:=by
  refine((WideShapes.sorted_perm (es.toList.map (WideElems.rg P (lZ.t 26) R))).map λp:Lit×DataW Unit=>Go.intOf p.1).trans (List.Perm.of_eq ?_);have h1:∀(l:List MapEntry) (q:List Int),(∀x ∈ l,x ∈ es.toList)->l.map (·.key)=q.map (Value.int .i64 ·)->(l.map (WideElems.rg P (lZ.t 26) R)).map (λp:Lit×DataW Unit=>Go.intOf p.1)=q:=by
   intro l
   induction l with
   |nil=>intro q _ h;cases q with | nil=>rfl | cons a q=>simp at h
   |cons x l ih=>
    intro q hl h;cases q with
    |nil=>simp at h
    |cons a q=>
     simp only[List.map_cons,List.cons.injEq]at h ⊢;refine⟨?_,ih q (λy hy=>hl y (List.mem_cons_of_mem _ hy)) h.2⟩;rw[WideElems.rg_of (F6 x (hl x (List.mem_cons_self ..)) a h.1)];rfl
  exact h1 _ _ (λ_ h=>h) pR
 have hN:Maps.size (.map ((es.toList.map (WideElems.rg P (lZ.t 26) R)).foldr DataW.insert []))=es.size:=by rw[size_eq,length_sorted,List.length_map];simp
 have IS:=AnyZI.keys_gives Lk Fence.wide 2 trivial rfl (by omega) Bm b es.size _ W Kt hm zT;have c:=AnyZI.sorted_in Ls Fence.wide 5 trivial trivial trivial trivial rfl (by omega) (hs _) e9 (lZ.f 10) #[.pointer (some ⟨Bm,0,none⟩)] trivial eg _ _ (by rw[hN];unfold maxLen;omega) (by rw[hN];omega) W IS;refine(callsIn_wide.1 c).mono ?_;rintro e w' ⟨v,ss,rfl,hS,aC,mG,fT⟩;exact⟨v,ss,_,rfl,hS.trans rY,aC,mG,fT⟩
end au
namespace Go.Proofs
open Go.Shelf Go.RowKit Go.Lib Go.Sort Go.Maps
def Tryz.tv:Go.Shelf.Ren:=⟨fun | 7=>76 | 10=>99 | n=>n,fun | 23=>117 | 26=>3 | 3=>4 | 28=>157 | 0=>0 | 27=>156 | 33=>186 | 4=>4 | n=>n,λn=>n⟩
theorem Tryz.FD:SlLaysZI.n7 Tryz.prog Tryz.tv:={
 mixed:=by kernel_rfl,
 f7:=⟨Tryz.f76.name,by decide,Tryz.func76.trans (congrArg some (by kernel_rfl))⟩,
 f10:=⟨Tryz.f99.name,by decide,Tryz.func99.trans (congrArg some (by kernel_rfl))⟩,
 t0:=Tryz.underlying0,
 a0:=Tryz.isAgg0,
 z0:=Tryz.sizeOf0,
 v0:=Tryz.zeroValue0,
 t4:=Tryz.underlying4,
 a4:=Tryz.isAgg4,
 z4:=Tryz.sizeOf4,
 v4:=Tryz.zeroValue4,
 t23:=Tryz.underlying117,
 a23:=Tryz.isAgg117,
 z23:=Tryz.sizeOf117,
 v23:=Tryz.zeroValue117,
 t26:=Tryz.underlying3,
 a26:=Tryz.isAgg3,
 z26:=Tryz.sizeOf3,
 v26:=Tryz.zeroValue3,
 t27:=Tryz.underlying156,
 a27:=Tryz.isAgg156,
 z27:=Tryz.sizeOf156,
 v27:=Tryz.zeroValue156,
 t28:=Tryz.underlying157,
 a28:=Tryz.isAgg157,
 z28:=Tryz.sizeOf157,
 v28:=Tryz.zeroValue157,
 t33:=Tryz.underlying186,
 a33:=Tryz.isAgg186,
 z33:=Tryz.sizeOf186,
 v33:=Tryz.zeroValue186 }
def Tryz.mR:Go.Shelf.Ren:=⟨fun | 6=>75 | 8=>98 | 9=>93 | 11=>124 | 13=>115 | 12=>114 | 23=>142 | 24=>143 | 14=>133 | 15=>134 | 16=>135 | 17=>136 | 18=>137 | 19=>138 | 20=>139 | 21=>140 | 22=>141 | 25=>162 | 26=>163 | 27=>164 | 28=>165 | 29=>166 | 30=>131 | 31=>181 | n=>n,fun | 26=>3 | 28=>157 | 24=>34 | 0=>0 | 3=>3 | 37=>199 | 48=>224 | 50=>62 | 4=>4 | 40=>218 | 39=>217 | 45=>168 | 5=>5 | 9=>9 | 51=>248 | 55=>170 | 57=>268 | 58=>141 | 33=>186 | n=>n,λn=>n⟩
theorem Tryz.B0:SlLaysZI.n6 Tryz.prog Tryz.mR:={
 mixed:=by kernel_rfl,
 f6:=⟨Tryz.f75.name,by decide,Tryz.func75.trans (congrArg some (by kernel_rfl))⟩,
 f8:=⟨Tryz.f98.name,by decide,Tryz.func98.trans (congrArg some (by kernel_rfl))⟩,
 f11:=⟨Tryz.f124.name,by decide,Tryz.func124.trans (congrArg some (by kernel_rfl))⟩,
 t0:=Tryz.underlying0,
 a0:=Tryz.isAgg0,
 z0:=Tryz.sizeOf0,
 v0:=Tryz.zeroValue0,
 t24:=Tryz.underlying34,
 a24:=Tryz.isAgg34,
 z24:=Tryz.sizeOf34,
 v24:=Tryz.zeroValue34,
 t26:=Tryz.underlying3,
 a26:=Tryz.isAgg3,
 z26:=Tryz.sizeOf3,
 v26:=Tryz.zeroValue3,
 t28:=Tryz.underlying157,
 a28:=Tryz.isAgg157,
 z28:=Tryz.sizeOf157,
 v28:=Tryz.zeroValue157,
 i26:=by kernel_rfl }
def Tryz.zA:Go.Shelf.Ren:=⟨fun | 5=>93 | 8=>115 | 7=>114 | 19=>142 | 20=>143 | 10=>133 | 11=>134 | 12=>135 | 13=>136 | 14=>137 | 15=>138 | 16=>139 | 17=>140 | 18=>141 | 30=>162 | 31=>163 | 32=>164 | 33=>165 | 34=>166 | 35=>131 | 40=>181 | n=>n,fun | 23=>34 | 25=>3 | 3=>3 | 32=>199 | 22=>34 | 0=>0 | 44=>224 | 46=>62 | 4=>4 | 36=>218 | 35=>217 | 41=>168 | 5=>5 | 9=>9 | 53=>248 | 57=>170 | 63=>268 | 64=>141 | n=>n,λn=>n⟩
theorem Tryz.xH:SlLaysM.n5 Tryz.prog Tryz.zA:={
 mixed:=by kernel_rfl,
 f5:=⟨Tryz.f93.name,by decide,Tryz.func93.trans (congrArg some (by kernel_rfl))⟩,
 f7:=⟨Tryz.f114.name,by decide,Tryz.func114.trans (congrArg some (by kernel_rfl))⟩,
 f8:=Tryz.func115.trans (congrArg some (by kernel_rfl)),
 f10:=⟨Tryz.f133.name,by decide,Tryz.func133.trans (congrArg some (by kernel_rfl))⟩,
 f11:=⟨Tryz.f134.name,by decide,Tryz.func134.trans (congrArg some (by kernel_rfl))⟩,
 f12:=⟨Tryz.f135.name,by decide,Tryz.func135.trans (congrArg some (by kernel_rfl))⟩,
 f13:=⟨Tryz.f136.name,by decide,Tryz.func136.trans (congrArg some (by kernel_rfl))⟩,
 f14:=⟨Tryz.f137.name,by decide,Tryz.func137.trans (congrArg some (by kernel_rfl))⟩,
 f15:=⟨Tryz.f138.name,by decide,Tryz.func138.trans (congrArg some (by kernel_rfl))⟩,
 f16:=⟨Tryz.f139.name,by decide,Tryz.func139.trans (congrArg some (by kernel_rfl))⟩,
 f17:=⟨Tryz.f140.name,by decide,Tryz.func140.trans (congrArg some (by kernel_rfl))⟩,
 f18:=⟨Tryz.f141.name,by decide,Tryz.func141.trans (congrArg some (by kernel_rfl))⟩,
 f19:=Tryz.func142.trans (congrArg some (by kernel_rfl)),
 f20:=Tryz.func143.trans (congrArg some (by kernel_rfl)),
 f30:=⟨Tryz.f162.name,by decide,Tryz.func162.trans (congrArg some (by kernel_rfl))⟩,
 f31:=Tryz.func163.trans (congrArg some (by kernel_rfl)),
 f32:=Tryz.func164.trans (congrArg some (by kernel_rfl)),
 f33:=⟨Tryz.f165.name,by decide,Tryz.func165.trans (congrArg some (by kernel_rfl))⟩,
 f34:=⟨Tryz.f166.name,by decide,Tryz.func166.trans (congrArg some (by kernel_rfl))⟩,
 f35:=⟨Tryz.f131.name,by decide,Tryz.func131.trans (congrArg some (by kernel_rfl))⟩,
 f40:=⟨Tryz.f181.name,by decide,Tryz.func181.trans (congrArg some (by kernel_rfl))⟩,
 t0:=Tryz.underlying0,
 a0:=Tryz.isAgg0,
 z0:=Tryz.sizeOf0,
 v0:=Tryz.zeroValue0,
 t3:=Tryz.underlying3,
 a3:=Tryz.isAgg3,
 z3:=Tryz.sizeOf3,
 v3:=Tryz.zeroValue3,
 t4:=Tryz.underlying4,
 a4:=Tryz.isAgg4,
 z4:=Tryz.sizeOf4,
 v4:=Tryz.zeroValue4,
 t5:=Tryz.underlying5,
 a5:=Tryz.isAgg5,
 z5:=Tryz.sizeOf5,
 v5:=Tryz.zeroValue5,
 t9:=Tryz.underlying9,
 a9:=Tryz.isAgg9,
 z9:=Tryz.sizeOf9,
 v9:=Tryz.zeroValue9,
 t22:=Tryz.underlying34,
 a22:=Tryz.isAgg34,
 z22:=Tryz.sizeOf34,
 v22:=Tryz.zeroValue34,
 t23:=Tryz.underlying34,
 a23:=Tryz.isAgg34,
 z23:=Tryz.sizeOf34,
 v23:=Tryz.zeroValue34,
 t25:=Tryz.underlying3,
 a25:=Tryz.isAgg3,
 z25:=Tryz.sizeOf3,
 v25:=Tryz.zeroValue3,
 t32:=Tryz.underlying199,
 a32:=Tryz.isAgg199,
 z32:=Tryz.sizeOf199,
 v32:=Tryz.zeroValue199,
 t35:=Tryz.underlying217,
 a35:=Tryz.isAgg217,
 z35:=Tryz.sizeOf217,
 v35:=Tryz.zeroValue217,
 t36:=Tryz.underlying218,
 a36:=Tryz.isAgg218,
 z36:=Tryz.sizeOf218,
 v36:=Tryz.zeroValue218,
 t41:=Tryz.underlying168,
 a41:=Tryz.isAgg168,
 z41:=Tryz.sizeOf168,
 v41:=Tryz.zeroValue168,
 t44:=Tryz.underlying224,
 a44:=Tryz.isAgg224,
 z44:=Tryz.sizeOf224,
 v44:=Tryz.zeroValue224,
 t46:=Tryz.underlying62,
 a46:=Tryz.isAgg62,
 z46:=Tryz.sizeOf62,
 v46:=Tryz.zeroValue62,
 t53:=Tryz.underlying248,
 a53:=Tryz.isAgg248,
 z53:=Tryz.sizeOf248,
 v53:=Tryz.zeroValue248,
 t57:=Tryz.underlying170,
 a57:=Tryz.isAgg170,
 z57:=Tryz.sizeOf170,
 v57:=Tryz.zeroValue170,
 t63:=Tryz.underlying268,
 a63:=Tryz.isAgg268,
 z63:=Tryz.sizeOf268,
 v63:=Tryz.zeroValue268,
 t64:=Tryz.underlying141,
 a64:=Tryz.isAgg141,
 z64:=Tryz.sizeOf141,
 v64:=Tryz.zeroValue141 }
theorem Tryz.D4 (m:Nat):AnyZI.SortsIn Tryz.prog Tryz.mR Fence.wide m:=
 ⟨λyy off cap ss W hH hblk bC=>callsIn_wide.2 (AnyM.slices_Sort_int Tryz.xH yy off cap ss W hH hblk bC),λp cap W=>callsIn_wide.2 (AnyM.slices_Sort_int_none Tryz.xH p cap W)⟩
theorem Tryz.vQ:au.mD Tryz.prog 75 99:=
 au.vD (lZ:=Tryz.tv) (wx:=Tryz.mR) { Tryz.FD with } Tryz.B0 Tryz.D4 (enters_of Tryz.func93 (by kernel_rfl) rfl) (enters_of Tryz.func99 (by kernel_rfl) rfl)
end Go.Proofs
namespace Go.Proofs
open Go.RowKit
theorem Tryz.vE (w:World):(callFunc 255 #[]).run Tryz.prog w = .ok (.value (.tuple #[])) w:=run_call_mark0 Tryz.func255 (by kernel_rfl) (by kernel_rfl) (by kernel_rfl) .disable (by kernel_rfl) w
theorem Tryz.wy (w:World):(callFunc 257 #[]).run Tryz.prog w = .ok (.value (.tuple #[])) w:=run_call_mark0 Tryz.func257 (by kernel_rfl) (by kernel_rfl) (by kernel_rfl) .enable (by kernel_rfl) w
theorem Tryz.AL (a:Addr) (w:World):(callFunc 258 #[.pointer (some a)]).run Tryz.prog w = .ok (.value (.tuple #[])) w:=run_call_marked Tryz.func258 (by kernel_rfl) (by kernel_rfl) (by kernel_rfl) .acquire (by kernel_rfl) a w
theorem Tryz.AM (a:Addr) (w:World):(callFunc 260 #[.pointer (some a)]).run Tryz.prog w = .ok (.value (.tuple #[])) w:=run_call_marked Tryz.func260 (by kernel_rfl) (by kernel_rfl) (by kernel_rfl) .releaseMerge (by kernel_rfl) a w
set_option maxRecDepth 100000 in
theorem Tryz.D5 (a:Addr) (x:Value) (u:FrameMode) (w:World) (hc:w.cell? a=some x) (hz:w.frozen? a=false) :
  CallsD Tryz.prog 242 #[.pointer (some a),.bool true] u w λe u' w'=>u'=u/\(e = .returned (.tuple #[])/\w'=w.drew.setCell a (.int .u32 1)):=by
 have bH:w.drew.cell? a=some x:=by go_simp
 have ov:w.drew.frozen? a=false:=by go_simp
 have fU:=run_call_store (P:=Tryz.prog) Tryz.func250 (by kernel_rfl) (by kernel_rfl) (by kernel_rfl) (by kernel_rfl) (k:=.u32) (y:=1) bH ov
 go_enter_d Tryz.func242,Tryz.ntmps242
 go_wp2
 go_region_calls
 all_goals (go_end0;exact⟨rfl,rfl⟩)
set_option maxRecDepth 100000 in
theorem Tryz.B1 (a:Addr) (u:FrameMode) (w:World) (hc:w.cell? a=some (.int .i32 1)) (hz:w.frozen? a=false) :
  CallsD Tryz.prog 241 #[.pointer (some a)] u w λe u' w'=>u'=u/\(e = .returned (.tuple #[])/\w'=w.setCell a (.int .i32 0)):=by
 have hd:=Tryz.vE;have he:=Tryz.wy;have hr:=Tryz.AM;have Ln:=run_call_add (P:=Tryz.prog) Tryz.func261 (by kernel_rfl) (by kernel_rfl) (by kernel_rfl) .i32 (by kernel_rfl) (y:=-1) (s:=0) hc hz (by simp[go_sem];rfl);have fV:=run_convert_to_unsafe (P:=Tryz.prog) (src:=364) (dst:=342) Tryz.underlying364 Tryz.underlying342 (by kernel_rfl) hc
 go_enter_d Tryz.func241,Tryz.ntmps241
 go_wp2
 go_end0
 go_wp2
 go_end0
 exact⟨rfl,rfl⟩
set_option maxRecDepth 100000 in
theorem Tryz.FE (a:Addr) (w:World) (hc:w.cell? a=some (.int .i32 0)) (hz:w.frozen? a=false) :
  Calls Tryz.prog 240 #[.pointer (some a)] w λe w'=>e = .returned (.tuple #[])/\w'=w.setCell a (.int .i32 1):=by
 have hd:=Tryz.vE;have he:=Tryz.wy;have ha:=Tryz.AL;have Lo:=run_call_cas_hit (P:=Tryz.prog) Tryz.func256 (by kernel_rfl) (by kernel_rfl) (by kernel_rfl) .i32 (by kernel_rfl) (y:=1) hc hz;have bH:(w.setCell a (.int .i32 1)).cell? a=some (.int .i32 1):=World.cell?_setCell_same w a _ hc;have fV:=run_convert_to_unsafe (P:=Tryz.prog) (src:=364) (dst:=342) Tryz.underlying364 Tryz.underlying342 (by kernel_rfl) bH
 go_enter Tryz.func240,Tryz.ntmps240
 go_wp2
 first | go_end0 | (simp only[Exit.inBlock,Exit.then];refine bodyPost_ret (results_none rfl _ _ _) rfl ?_) | refine bodyPost_ret (results_none rfl _ _ _) rfl ?_
 go_wp2
 go_end0
 exact⟨rfl,rfl⟩
set_option maxRecDepth 100000 in
set_option maxHeartbeats 1600000 in
theorem Tryz.AN:au.qM Tryz.prog 236:=by
 intro b off fg fs cs w Q h0 h1 f1 eo dp;have hl:=run_call_load (P:=Tryz.prog) Tryz.func239 (by kernel_rfl) (by kernel_rfl) (by kernel_rfl) .u32 (by kernel_rfl) (w:=w.setCell ⟨b,off+1,none⟩ (.int .i32 1)) (a:=⟨b,off,none⟩) (x:=0) ((World.cell?_setCell_other _ ⟨b,off+1,none⟩ ⟨b,off,none⟩ _ (by simp)).trans h0);have Lp:∀(x:Bool) (w:World),(Op.unary .not (.bool x)).run Tryz.prog w = .ok (.bool (!x)) w:=λ_ _=>rfl
 go_enter_defers Tryz.func236,Tryz.ntmps236
 go_wp2_with (go_at_call 240;refine(Tryz.FE ⟨b,off+1,none⟩ _ (by go_simp) (by go_simp)).mono ?_;rintro e w' ⟨rfl,rfl⟩)
 go_wp2
 obtain⟨fn,IT,IU,IW⟩:=dp;obtain⟨c,hc⟩:=Option.isSome_iff_exists.1 IU;have Ay:(callFunc fg (fs++cs)).run Tryz.prog (w.setCell ⟨b,off+1,none⟩ (.int .i32 1)) = .ok (.enter fg (fs++cs)) (w.setCell ⟨b,off+1,none⟩ (.int .i32 1)):=by
  have h1:fn.name≠"runtime.NumGoroutine":=by simpa using IW
  simp[callFunc,IT,h1,hc,mark]
 rw[Ay,Oper.upon_enter];refine eo.mono ?_;rintro e w' ⟨rfl,d1,d2,d3,d4,hQ⟩;simp only[]
 go_wp2
 simp only[bodyPostD,Act.put];refine leaves_cons (f:=242) (args:=#[.pointer (some ⟨b,off,none⟩),.bool true]) (by simp) (by simp[go_sem]) ?_;refine(Tryz.D5 ⟨b,off,none⟩ (.int .u32 0) .returning _ d1 d3).mono ?_;rintro e u' Ku ⟨rfl,rfl,rfl⟩;refine leaves_cons (f:=241) (args:=#[.pointer (some ⟨b,off+1,none⟩)]) (by simp[settle]) (by simp[go_sem]) ?_;refine(Tryz.B1 ⟨b,off+1,none⟩ _ _ ?_ (by simp[d4])).mono ?_
 ·refine(World.cell?_setCell_other _ ⟨b,off,none⟩ ⟨b,off+1,none⟩ _ (by simp)).trans ?_;rw[World.cell?_drew];exact d2
 rintro e u' Ku ⟨rfl,rfl,rfl⟩;simp[Leaves,settle,results,Tryz.results236];exact⟨w',hQ,rfl⟩
end Go.Proofs
namespace al
open Go Go.Proofs Go.Shelf Go.RowKit Go.Lib Go.Sort
theorem xI (w:World) (b:Nat) (F F':Array Value) (hb:b<w.heap.size) (hH:Holds id w b 0 F) (hs:F'.size=F.size) (m:Nat) (os:Array Obj) :
  (∀t,t<F'.size->(grow (putRow id (Sort.ahead w m) b 0 F') os).cell? ⟨b,t,none⟩=some F'[t]!)/\w.heap.size<=(grow (putRow id (Sort.ahead w m) b 0 F') os).heap.size/\(∀x,x<w.heap.size->x≠b->(grow (putRow id (Sort.ahead w m) b 0 F') os).heap[x]?=w.heap[x]?)/\
   (∀o,(w.cell? ⟨b,o,none⟩).isSome=true->((grow (putRow id (Sort.ahead w m) b 0 F') os).cell? ⟨b,o,none⟩).isSome=true)/\(∀o,(grow (putRow id (Sort.ahead w m) b 0 F') os).frozen? ⟨b,o,none⟩=w.frozen? ⟨b,o,none⟩):=by
 have zd:b<(putRow id (Sort.ahead w m) b 0 F').heap.size:=by rw[Sort.size_putRow];exact hb
 have ek:∀t,t<F'.size->(grow (putRow id (Sort.ahead w m) b 0 F') os).cell? ⟨b,t,none⟩=some F'[t]!:=λt ht=>by
  rw[cell?_grow _ _ _ zd];have:=cell?_putRow id (Sort.ahead w m) b 0 F F' (holds_ahead _ _ _ _ _ _ hH) hs t ht;rw[Nat.zero_add]at this;exact this
 refine⟨ek,by rw[size_grow,Sort.size_putRow,heap_ahead];omega,λx hx bG=>?_,λo ho=>?_,λo=>?_⟩
 ·rw[heap_grow_old _ _ (by rw[Sort.size_putRow];exact hx)];unfold putRow mapBlock;simp only[heap_ahead];rw[Array.getElem?_modify,if_neg (Ne.symm bG)]
 ·by_cases h:o<F'.size
  ·rw[ek o h];rfl
  ·rw[cell?_grow _ _ _ zd,cell?_putRow_other id (Sort.ahead w m) b 0 F' ⟨b,o,none⟩ (.inr (.inr (by simp only;omega))),cell?_ahead];exact ho
 ·rw[frozen?_grow _ _ _ zd,frozen?_putRow,frozen?_ahead]
theorem zB {P:Program} {ρ:Ren} (L:SlLaysM.n5 P ρ):vy P (ρ.f 5):=by
 intro b cap l w hc ca hb vA;have hH:Holds (Value.int .i64) w b 0 l.toArray:=by
  intro t ht;have hi:t<l.length:=by simpa using ht
  have h1:=hc t 0 l[t] (.int .i64 l[t]) (List.getElem?_eq_getElem hi) rfl;have e1:l.toArray[t]! = l[t]:=by rw[getElem!_pos _ t ht];simp
  rw[e1,Nat.zero_add];rw[Nat.mul_one,Nat.add_zero]at h1;refine⟨?_,ca _⟩;rw[h1]
 have IX:=AnyM.slices_Sort_int L b 0 cap l w hH hb (by omega);refine IX.mono ?_;rintro e w' ⟨rfl,n,os,rfl⟩;refine⟨rfl,?_⟩;generalize hd:l.mergeSort (λx y=>decide (x<=y))=d;have s8:ma l=d:=(AH l).symm.trans hd;have hlen:=tt l;rw[s8]at hlen ⊢;have ef:∀(W:World),putRow (Value.int .i64) W b 0 d.toArray=putRow id W b 0 ((d.map (Value.int .i64)).toArray):=by
  intro W;unfold putRow;congr 1;funext c;unfold putCells;refine Array.ext (by simp) λk h1 h2=>?_
  simp only[Array.getElem_mapIdx,List.size_toArray,List.length_map];split
  ·rename_i hk;have BC:k - 0<d.length:=by omega
   rw[getElem!_pos d.toArray (k - 0) (by simpa using BC),getElem!_pos (d.map (Value.int .i64)).toArray (k - 0) (by simpa using BC)];simp
  ·rfl
 have Kv:Holds id w b 0 ((l.map (Value.int .i64)).toArray):=by
  intro t ht;have hi:t<l.length:=by simpa using ht
  obtain⟨q1,q2⟩:=hH t (by simpa using hi);refine⟨?_,q2⟩;rw[q1,getElem!_pos _ t (by simpa using hi),getElem!_pos _ t (by simpa using hi)];simp
 obtain⟨q1,q2,q3,q4,q5⟩:=xI w b _ ((d.map (Value.int .i64)).toArray) hb Kv (by simp[hlen]) n os;rw[ef];refine⟨q2,rfl,rfl,rfl,q3,λi j r v h1 h2=>?_,q4,q5⟩;simp only[List.getElem?_map,Option.map_eq_some_iff]at h1;obtain⟨p,hp,rfl⟩:=h1;have hi:i<d.length:=(List.getElem?_eq_some_iff.1 hp).1;obtain rfl:j=0:=by have:=(List.getElem?_eq_some_iff.1 h2).1;simpa[r9]using this
 have:=q1 i (by simpa using hi);rw[getElem!_pos _ i (by simpa using hi)]at this;rw[Nat.mul_one,Nat.add_zero,this];have e1:=(List.getElem?_eq_some_iff.1 hp).2;simp only[r9,List.getElem?_cons_zero,Option.some.injEq]at h2;rw[<-h2];simp[e1]
end al
namespace Go.Proofs
theorem Tryz.D6:al.vy Tryz.prog 93:=al.zB Tryz.xH
end Go.Proofs
namespace al
def IY:an:={ zP with cl:=some (1000001,[]) }
end al
namespace au
open Go al
def D7:an:=ao "<MDYlIRkKxtmfiyVHJ@]`Y:l]LQt`]^o"
def IZ:an:=⟨2,[],.skip,some (Prim.once)⟩
def xJ:an:=ao ";IlgS=?SOmULDtqjJsKRgx>>wOFBGGBHSrJkBrmvVvzQex]yLSL[pcH^VXYTRYaKOOsSj?^moATb<Qwz^oMB:[jANkaEqE_Pfi_:nciJCj]g:PsKodaS;PpXCyf_b<DyGmFacPbpMmKk^Ziha:NIaF[w?`oljgHvStGt:sIxyqr;GrF;py:@h`ijh?cPLt]gwJu?p?CoQlWRo;FHwWilQl<VbjuRtzeFX=hoyqtpC`XPDjg[lTj?gU_iX]FHQoj^lhwe_qoSUdZYd=XyOX?OZSRKhvnM:[O?@[:mJO[hlwz<MG]G;^PBuQ"
def I0:an:=ao ";CXF?MSD@_M^D>J[mal=xAkDQbXhHfLU:vekitieOgFeD[GJVhIBa^^Gh=zXNPP^SLmVVbltmwR^E;zM]K:jq;fgiK^RnqFDK_NzVfUVl@QkPASK]zNLN?;^`qoeggOj:aHzcdTa?LAWNwskssdsPmBi[<JCk^WjffiWWIOYClsXB^UvIOsrRcsWEJa;C;Pp[mmmbQ=;>SH_vybKN=hhcFYy?=mIIra;:go=lZGU[oNUanQAPcCSd`uNZqIFJnbE<rMHkr@ND`jHGC;q[nrQgserEff?`dbvyWlj;v;DcHrU@sTQfH=wVE]iKF>RJ]x]u<Ki<TLNLavXHLklHNxJQVhSGF]cKxm@LQYd`^WcR?gB^C]]>nbGLyDYUkVQzY"
def I3:an:=ao "AajQclFCIC]rVltoXTv^cMrhOBFFkS"
def D8:an:=ao "i[ctLQqXCqWt:yZ:<MP[k<scQW<TTr:;ssFA[WdTKD`BY[BxEgo@UVHGtmUMu?<WwOpWMPkXh:ElgN>KBwhPefDSJ"
end au
namespace au
open Go Go.Proofs
namespace bT
def Kw:List Nat:=[0,0,0,0,0,43,0,146,0,121,169,0,0,120,60,0,170,105,171,83,0,145,147,132,91,0,64,42,0,0,46,188,127,128,0,0,172,85,108,160,161,0,66,0,0,69,70,63,0,0,109,110,111,151,86,179,180,87,90,81,82,130,115,131,175,190,106,107,152,142,143,202,208,129,159,158,157,156,155,154,153,210,209,207,206,205,204,203,227,0,0,0,0,0,0,0,0,0,0,0,0,0,0,0,0,0,0,0,0,0,0,0,0,0,0,88,104,229,0,78,103,67,0,0,0,0,112,126,150,65,84,36,0,38,37,58,0,28,51,0,100,149,0,0,102,92,0,48,174,0,116,125,113,0,0,0,0,0,0,0,0,0,0,0,0,0,0,0,0,19,20,18,0,0,0,0,0,0,0,0,0,0,0,0,24,45,44,68,89,62,61,79,80,0,0,0,0,0,0,0,0,0,0,5,21,0,0,0,0,0,0,0,0,0,0,0,0,0,296,0,0,39,0,0,35,57,0,0,0,0,0,27,50,49,25,0,0,0,0,0,0,0,0,0,0,0,0,0,0,0,0,0,0,0,0,0,0,0,52,77,101,167,0,194,0,192,183,191,212,0,214,215,211,193,213,0,0,0,0,0,0,0,0,0,0,0,0,0,0,0,0,0,0,0,0,0,15,0,0,0,0,0,0,8,0,26,23,47,76,75,74,73,72,71,95,94,93,114,141,140,139,138,137,136,135,134,133,162,166,165,181,164,163,99,96,97,119,117,118,144,168,187,186,185,184,198,197,221,220,233,238,247,254,266,265,264,263,277,276,279,278,232,219,201,199,196,195,218,217,231,230,237,216,236,235,249,262,251,248,259,200,223,222,123,122,148,173,33,0,10,30,32,31,29,53,56,54,55,7,9,0,14,13,34,11,0,41,0,16,40,59,240,241,242,0,244,245,246,275,274,253,243,252,12,4,6,22,17,3]
def nu (n:Nat):Nat:=if n=pN then 285 else if n=lT then 5 else Kw.getD n 0
def fS:List (Nat×al.an):=[(5,al.F5),(13,al.Jb),(14,al.vU),(17,al.Jc),(19,al.Jd),(23,al.Je),(24,al.Jf),(26,al.Jg),(27,al.qZ),(30,al.Jh),(32,al.Ji),(33,al.Jj),(37,al.Jk),(38,al.Jl),(39,al.Jm),(40,al.Jn),(42,al.Jo),(45,al.Jp),(46,al.Jq),(47,al.Jr),(50,al.Js),(51,al.Jt),(52,al.Ju),(53,al.Jv),(54,al.Jw),(55,al.Jx),(56,al.Jy),(57,al.Jz),(58,al.JA),(59,al.JB),(61,al.JC),(62,al.JD),(63,al.JE),(64,al.JF),(65,al.JG),(66,al.JH),(68,al.JI),(70,al.JJ),(71,al.JK),(116,al.Gv),(117,al.Gw),(119,al.Gx),(120,al.Gy),(126,al.Gz),(127,al.GC),(128,al.GD),(129,al.GF),(130,al.GG),(131,al.GH),(133,al.GI),(134,al.GJ),(135,al.GK),(137,al.GL),(138,al.GM),(141,al.GN),(144,al.GO),(145,al.GP),(148,al.GQ),(151,al.GR),(152,al.GS),(169,al.wY),(170,al.wZ),(171,al.GU),(203,al.zQ),(204,al.w6),(316,al.IY),(320,al.Gq),(356,al.Gr),(368,al.zO),(371,al.Gl),(415,al.Gm),(416,al.Gn),(417,al.Gp),(420,al.Gs),(421,al.Gt),(422,al.Gu),(426,al.w7)]
def fB:List (Nat×an):=[(140,IB),(147,IH),(150,II),(184,Ig),(185,Ih),(186,Ij),(189,Il),(190,Ik),(191,Im),(192,Io),(221,Ir),(224,DL),(231,HS),(232,IE),(233,HT),(234,HO),(258,HP),(259,HQ),(260,HR),(261,H0),(263,HU),(265,Ia),(266,It),(267,HW),(268,HV),(270,H9),(272,HX),(273,Iv),(274,Iu),(296,DE),(303,DI),(305,Hi),(306,DJ),(307,HD),(308,Iy),(309,IJ),(310,HL),(311,HK),(312,HM),(313,HG),(314,HN),(315,ID),(316,zP),(317,IL),(326,IK),(334,HH),(335,HJ),(336,HF),(337,HI),(338,Hn),(339,Ho),(340,Hq),(341,Ht),(342,Hr),(343,Hs),(344,Ic),(345,Hw),(346,Hz),(347,HB),(348,H6),(349,Ie),(350,IM),(351,Ix),(352,Iw),(361,H8),(362,Hy),(363,Hx),(364,HC),(365,Hk),(366,H7),(367,Hl),(368,zO),(369,Hm),(370,HY),(372,Iz),(373,IZ),(374,HZ),(380,Hv),(381,HA),(382,Hu),(383,IF),(384,Iq),(385,IA),(386,IG),(387,HE),(389,DH),(393,Hh),(394,Hj),(398,DF),(399,DD),(401,DC),(402,DB),(403,DK),(404,DG),(406,Ii),(408,H5),(409,Ip),(410,Ib),(423,D7),(424,I0),(425,D8),(427,I3),(428,xJ)]
theorem mixed:Tryz.prog.follows .mixedOrders=true:=Tryz.checked.mixed
open Tryz
theorem z1 {f k:Nat} {ir:al.an} {fn:Func} {L:List (Nat×al.an)} (hk:Tryz.prog.funcs[k]?=some fn) (h1:nu f=k) (h2:al.qN Tryz.prog nu fn ir=true) (t:al.jW Tryz.prog nu (al.get L)):al.jW Tryz.prog nu (al.get ((f,ir)::L)):=al.ia (al.vw hk h1 h2) t
theorem z2 {f k:Nat} {ir:an} {fn:Func} {L:List (Nat×an)} (hk:Tryz.prog.funcs[k]?=some fn) (h1:nu f=k) (h2:qN Tryz.prog nu fn ir=true) (t:jW Tryz.prog nu (au.get L)):jW Tryz.prog nu (au.get ((f,ir)::L)):=ia (vw hk h1 h2) t
theorem zp {f:Nat} {ir:an} {L:List (Nat×an)} (h:ir.gF=none) (t:cm (au.get L)):cm (au.get ((f,ir)::L)):=jP (λp e=>by rw[h]at e;cases e) t
theorem AK:al.jW Tryz.prog nu (al.get fS):=by
 refine z1 func43 ?_ ?_<|z1 func120 ?_ ?_<|z1 func60 ?_ ?_<|z1 func105 ?_ ?_<|z1 func83 ?_ ?_<|z1 func132 ?_ ?_<|z1 func91 ?_ ?_<|z1 func64 ?_ ?_<|z1 func42 ?_ ?_<|z1 func46 ?_ ?_<|z1 func127 ?_ ?_<|z1 func128 ?_ ?_<|z1 func85 ?_ ?_<|z1 func108 ?_ ?_<|z1 func160 ?_ ?_<|z1 func161 ?_ ?_<|z1 func66 ?_ ?_<|z1 func69 ?_ ?_<|z1 func70 ?_ ?_<|z1 func63 ?_ ?_<|z1 func109 ?_ ?_<|z1 func110 ?_ ?_<|z1 func111 ?_ ?_<|z1 func151 ?_ ?_<|z1 func86 ?_ ?_<|z1 func179 ?_ ?_<|z1 func180 ?_ ?_<|z1 func87 ?_ ?_<|z1 func90 ?_ ?_<|z1 func81 ?_ ?_<|z1 func130 ?_ ?_<|z1 func115 ?_ ?_<|z1 func131 ?_ ?_<|z1 func175 ?_ ?_<|z1 func190 ?_ ?_<|z1 func106 ?_ ?_<|z1 func152 ?_ ?_<|z1 func143 ?_ ?_<|z1 func202 ?_ ?_<|z1 func104 ?_ ?_<|z1 func229 ?_ ?_<|z1 func78 ?_ ?_<|z1 func103 ?_ ?_<|z1 func112 ?_ ?_<|z1 func126 ?_ ?_<|z1 func150 ?_ ?_<|z1 func65 ?_ ?_<|z1 func84 ?_ ?_<|z1 func36 ?_ ?_<|z1 func38 ?_ ?_<|z1 func37 ?_ ?_<|z1 func58 ?_ ?_<|z1 func28 ?_ ?_<|z1 func51 ?_ ?_<|z1 func149 ?_ ?_<|z1 func102 ?_ ?_<|z1 func92 ?_ ?_<|z1 func174 ?_ ?_<|z1 func125 ?_ ?_<|z1 func113 ?_ ?_<|z1 func19 ?_ ?_<|z1 func20 ?_ ?_<|z1 func18 ?_ ?_<|z1 func5 ?_ ?_<|z1 func21 ?_ ?_<|al.ia (al.vu Tryz.func93 ?_ ?_ (.inr (al.AI (f:=316) Tryz.D6)))<|z1 func139 ?_ ?_<|z1 func263 ?_ ?_<|z1 func217 ?_ ?_<|z1 func237 ?_ ?_<|z1 func244 ?_ ?_<|z1 func245 ?_ ?_<|z1 func246 ?_ ?_<|z1 func253 ?_ ?_<|z1 func243 ?_ ?_<|z1 func252 ?_ ?_<|z1 func22 ?_ ?_<|al.sV
 all_goals kernel_rfl
theorem xF:jW Tryz.prog nu (au.get fB):=by
 refine z2 func100 ?_ ?_<|z2 func48 ?_ ?_<|z2 func116 ?_ ?_<|z2 func24 ?_ ?_<|z2 func45 ?_ ?_<|z2 func44 ?_ ?_<|z2 func62 ?_ ?_<|z2 func61 ?_ ?_<|z2 func79 ?_ ?_<|z2 func80 ?_ ?_<|z2 func39 ?_ ?_<|z2 func35 ?_ ?_<|z2 func27 ?_ ?_<|z2 func50 ?_ ?_<|z2 func49 ?_ ?_<|z2 func25 ?_ ?_<|z2 func52 ?_ ?_<|z2 func77 ?_ ?_<|z2 func101 ?_ ?_<|z2 func167 ?_ ?_<|z2 func194 ?_ ?_<|z2 func192 ?_ ?_<|z2 func183 ?_ ?_<|z2 func191 ?_ ?_<|z2 func212 ?_ ?_<|z2 func214 ?_ ?_<|z2 func211 ?_ ?_<|z2 func193 ?_ ?_<|z2 func213 ?_ ?_<|z2 func15 ?_ ?_<|z2 func8 ?_ ?_<|z2 func26 ?_ ?_<|z2 func23 ?_ ?_<|z2 func47 ?_ ?_<|z2 func76 ?_ ?_<|ia (xC (kq:=99) Tryz.func75 ?_ ?_ rfl ?_ Tryz.vQ)<|z2 func74 ?_ ?_<|z2 func73 ?_ ?_<|z2 func72 ?_ ?_<|z2 func71 ?_ ?_<|z2 func95 ?_ ?_<|z2 func94 ?_ ?_<|z2 func93 ?_ ?_<|z2 func114 ?_ ?_<|z2 func133 ?_ ?_<|z2 func96 ?_ ?_<|z2 func97 ?_ ?_<|z2 func119 ?_ ?_<|z2 func117 ?_ ?_<|z2 func118 ?_ ?_<|z2 func144 ?_ ?_<|z2 func168 ?_ ?_<|z2 func187 ?_ ?_<|z2 func186 ?_ ?_<|z2 func185 ?_ ?_<|z2 func184 ?_ ?_<|z2 func198 ?_ ?_<|z2 func197 ?_ ?_<|z2 func221 ?_ ?_<|z2 func220 ?_ ?_<|z2 func233 ?_ ?_<|z2 func238 ?_ ?_<|z2 func247 ?_ ?_<|z2 func254 ?_ ?_<|z2 func232 ?_ ?_<|z2 func219 ?_ ?_<|z2 func201 ?_ ?_<|z2 func199 ?_ ?_<|z2 func196 ?_ ?_<|z2 func195 ?_ ?_<|z2 func218 ?_ ?_<|ia (tn mixed Tryz.func217 ?_ rfl ?_)<|z2 func231 ?_ ?_<|z2 func230 ?_ ?_<|ia (tn mixed Tryz.func216 ?_ rfl ?_)<|ia (AE Tryz.func236 ?_ rfl ?_ Tryz.AN)<|z2 func235 ?_ ?_<|z2 func200 ?_ ?_<|z2 func223 ?_ ?_<|z2 func222 ?_ ?_<|z2 func123 ?_ ?_<|z2 func122 ?_ ?_<|z2 func148 ?_ ?_<|z2 func173 ?_ ?_<|z2 func33 ?_ ?_<|z2 func10 ?_ ?_<|z2 func29 ?_ ?_<|z2 func53 ?_ ?_<|z2 func7 ?_ ?_<|z2 func9 ?_ ?_<|z2 func14 ?_ ?_<|z2 func13 ?_ ?_<|z2 func34 ?_ ?_<|z2 func11 ?_ ?_<|z2 func41 ?_ ?_<|z2 func16 ?_ ?_<|z2 func40 ?_ ?_<|z2 func59 ?_ ?_<|z2 func12 ?_ ?_<|z2 func4 ?_ ?_<|z2 func6 ?_ ?_<|z2 func17 ?_ ?_<|z2 func3 ?_ ?_<|sV
 all_goals kernel_rfl
theorem ns:cm (au.get fB):=
 zp rfl<|zp rfl<|zp rfl<|zp rfl<|zp rfl<|zp rfl<|zp rfl<|zp rfl<|zp rfl<|zp rfl<|zp rfl<|zp rfl<|zp rfl<|zp rfl<|zp rfl<|zp rfl<|zp rfl<|zp rfl<|zp rfl<|zp rfl<|zp rfl<|zp rfl<|zp rfl<|zp rfl<|zp rfl<|zp rfl<|zp rfl<|zp rfl<|zp rfl<|zp rfl<|zp rfl<|zp rfl<|zp rfl<|zp rfl<|zp rfl<|jP (λp h=>by cases h;exact zn 333)<|zp rfl<|zp rfl<|zp rfl<|zp rfl<|zp rfl<|zp rfl<|zp rfl<|zp rfl<|zp rfl<|zp rfl<|zp rfl<|zp rfl<|zp rfl<|zp rfl<|zp rfl<|zp rfl<|zp rfl<|zp rfl<|zp rfl<|zp rfl<|zp rfl<|zp rfl<|zp rfl<|zp rfl<|zp rfl<|zp rfl<|zp rfl<|zp rfl<|zp rfl<|zp rfl<|zp rfl<|zp rfl<|zp rfl<|zp rfl<|zp rfl<|jP (λp h=>by cases h;exact vB 4)<|zp rfl<|zp rfl<|jP (λp h=>by cases h;exact vB 1)<|jP (λp h=>by cases h;exact BY)<|zp rfl<|zp rfl<|zp rfl<|zp rfl<|zp rfl<|zp rfl<|zp rfl<|zp rfl<|zp rfl<|zp rfl<|zp rfl<|zp rfl<|zp rfl<|zp rfl<|zp rfl<|zp rfl<|zp rfl<|zp rfl<|zp rfl<|zp rfl<|zp rfl<|zp rfl<|zp rfl<|zp rfl<|zp rfl<|zp rfl<|zp rfl<|zx
theorem xK (n:Nat):eM (c6 (al.get fS) (au.get fB) n):=rS (xG xF) n
end bT
end au
namespace al
open Go
def B.put (b:B) (i:Nat) (x:S):B:=
 match i with
 |0=>⟨x,b.s1,b.s2,b.s3⟩
 |1=>⟨b.s0,x,b.s2,b.s3⟩
 |2=>⟨b.s0,b.s1,x,b.s3⟩
 |_=>⟨b.s0,b.s1,b.s2,x⟩
section
variable {prog:Nat->Option an}
end
end al
namespace al
open Go
attribute [local simp] aQ Option.map_some aW step bK bn bc M.aN M.run M.ok M.fresh M.write M.look M.lift bj al.set ev al.get aY bin dZ iI mk params bW load dc cU fC gL eD eP idx len valid gM bound store cn eE un eqs jt bE bz M.bA gx cJ ew di meets fc gN callee eu gG fz flat jr ki nD Option.bind_some gn M.bind
section
variable {prog:Nat->Option an}
end
section
variable {prog:Nat->Option an}
end
section
variable {prog:Nat->Option an}
end
section
variable {prog:Nat->Option an}
end
section
variable {prog:Nat->Option an}
end
section
variable {α:Type} (lt:α->α->Bool)
end
section
variable {prog:Nat->Option an}
end
section
variable {prog:Nat->Option an}
end
section
variable {prog:Nat->Option an}
end
section
variable {prog:Nat->Option an}
end
section
variable {prog:Nat->Option an}
end
section
variable {prog:Nat->Option an}
end
section
variable {prog:Nat->Option an}
end
section
variable {prog:Nat->Option an}
end
section
variable {prog:Nat->Option an}
end
def entry (i:Int) (f:List B) (s:Int):List IV:=[.int .i64 i,.sl 16 (f.map B.enc),.int .u64 s]
section
variable {prog:Nat->Option an}
end
structure En where
 i:Int
 f:List B
 s:Int
def En.enc (e:En):List IV:=entry e.i e.f e.s
def k8 (l:List En):Bool:=l.all (λe=>jq e.f)&&decide (l.length<=12)
section
variable {prog:Nat->Option an}
theorem B2 (mE:prog 27=some qZ) (vC:prog 14=some vU) (h5:prog 5=some F5) (h:prog 426=some w7) (l:List En) (hl:l.length<=maxLen) (hL:∀e ∈ l,e.f.length<=maxLen):jV prog 426 [.iv (.sl 3 (l.map En.enc))] (.bI (k8 l)):=by
 refine jV.of h rfl rfl (c9 ?_);refine aS (c9 ?_);refine dt ?_;refine lY l.length (λi=>⟨[(0,.iv (.sl 3 (l.map En.enc))),(3,.nI i)],[],1128⟩) (λi=>(l.take i).all (λe=>jq e.f)=true) (by simp[aY,get]) (by simp) ?_ ?_
 ·intro i hi hg;obtain⟨x,hx⟩:∃x,l[i]?=some x:=⟨_,List.getElem?_eq_getElem hi⟩;have DM:l[i]'hi=x:=(List.getElem?_eq_some_iff.1 hx).2;obtain⟨K,hK⟩:=D2 mE vC h5 x.f (hL x (List.mem_of_getElem? hx));refine aS (eJ (by simp[hi];rfl) ?_);refine bM rfl (db (aS (dt (gl (K:=K) (s':=⟨[(0,.iv (.sl 3 (l.map En.enc))),(3,.nI i),(16,.bI (!jq x.f))],[],1832⟩) (λn hn=>by
   have:=hK n hn;rw[kS]at this;simp[hi,DM,En.enc,entry,this]) ?_))))
  refine bM rfl ?_;cases hb:jq x.f with
  |true=>
   refine db ?_;simp only[Ex.then,Ex.inBlock];refine rE ?_;exact⟨by simp[again,aY,get,nrm,ib hi hl],by rw[gw hx,hg,hb];rfl⟩
  |false=>
   refine c9 ?_;refine cw ?_;rw[show k8 l=false by unfold k8;rw[all_false hx hb];rfl];rfl
 ·intro hg;rw[List.take_length]at hg;refine aS (c9 ?_);refine bM rfl (ji ?_);simp only[Ex.then,Ex.inBlock,if_true];refine aS ?_;have hd:decide ((l.length:Int)<=12)=decide (l.length<=12):=decide_eq_decide.2 (by omega);refine pJ (s':=⟨[(2,.bI (decide (l.length<=12)))],[],1640⟩) (by simp[hd]) ?_;refine cw ?_;rw[show k8 l=decide (l.length<=12) by unfold k8;rw[hg];rfl];rfl
end
end al
namespace al
open Go
def eZ (n:Int):Prop:=-9223372036854775808<=n/\n<=9223372036854775807
structure S.ok (s:S):Prop where
 li:s.i.length<=maxLen
 ls:s.s.length<=maxLen
 ri:∀p ∈ s.i,eZ p.1/\eZ p.2
 rs:∀t ∈ s.s,t.size<=maxLen
def B.ok (b:B):Prop:=b.s0.ok/\b.s1.ok/\b.s2.ok/\b.s3.ok
theorem B.ok.at {b:B} (h:b.ok) {i:Nat} (hi:i<4):(b.get i).ok:=by
 match i,hi with
 |0,_=>exact h.1
 |1,_=>exact h.2.1
 |2,_=>exact h.2.2.1
 |3,_=>exact h.2.2.2
theorem B.ok.fits {b:B} (h:b.ok):b.fits:=λ_ hi=>⟨(h.at hi).li,(h.at hi).ls⟩
theorem nY {α:Type} (f:α->List IV) (P:α->Prop):∀rows:List (List IV),(∀r ∈ rows,∃a,r=f a/\P a)->∃l:List α,rows=l.map f/\∀a ∈ l,P a
 |[],_=>⟨[],rfl,λa h=>by cases h⟩
 |r::rows,h=>by
  obtain⟨a,rfl,ha⟩:=h r (List.mem_cons_self ..);obtain⟨l,rfl,hl⟩:=nY f P rows λr' h'=>h r' (List.mem_cons_of_mem _ h')
  exact⟨a::l,rfl,λb hb=>(List.mem_cons.1 hb).elim (λe=>e▸ha) (hl b)⟩
theorem eX.split:∀{ss ts:List Sh} {xs:List IV},eX (ss++ts) xs->∃a b,xs=a++b/\eX ss a/\eX ts b
 |[],_,xs,h=>⟨[],xs,rfl,trivial,h⟩
 |_::_,_,[],h=>h.elim
 |_::_,_,x::xs,h=>by
  obtain⟨a,b,rfl,ha,hb⟩:=eX.split h.2;exact⟨x::a,b,rfl,⟨h.1,ha⟩,hb⟩
theorem qO {n:Int} (h:(Lit.int .i64 n).wf=true):eZ n:=by
 simp only[Lit.wf,Bool.and_eq_true,decide_eq_true_eq]at h;rw[show IntKind.i64.min = -9223372036854775808 by decide,show IntKind.i64.max=9223372036854775807 by decide]at h;exact h
theorem eX.one {a:Sh} {ss:List Sh}:∀{xs:List IV},eX (a::ss) xs->∃x r,xs=x::r/\Fits a x/\eX ss r
 |[],h=>h.elim
 |x::r,h=>⟨x,r,rfl,h.1,h.2⟩
theorem eX.none:∀{xs:List IV},eX [] xs->xs=[]
 |[],_=>rfl
 |_::_,h=>h.elim
end al
namespace al
open Go
attribute [local simp] aQ Option.map_some aW step bK bn bc M.aN M.run M.ok M.fresh M.write M.look M.lift bj al.set ev al.get aY bin dZ iI mk params bW load dc cU fC gL eD eP idx len valid gM bound store cn eE un eqs jt bE bz M.bA gx cJ ew di meets fc gN callee eu gG fz flat jr ki nD Option.bind_some gn M.bind
theorem vF {n0:Nat} (h:1000<n0) (cs:List AV):nrm n0 [(1000,.cells cs)] 8 (.ref 1000 0 0 0) = .ref 1000 0 0 0:=by simp[nrm,al.get,h]
inductive Xp where
 |mk (k a:Int) (s:S) (sub:List Xp)
mutual
def Xp.enc:Xp->List IV
 |.mk k a s sub=>[.int .i64 k,.int .i64 a,.bool s.a,.sl 2 (s.i.map tu),.bool s.c,.sl 1 (s.s.map st1),.sl 7 (Xp.xL sub)]
def Xp.xL:List Xp->List (List IV)
 |[]=>[]
 |x::l=>x.enc::Xp.xL l
end
theorem Xp.qP:∀l:List Xp,Xp.xL l=l.map Xp.enc
 |[]=>rfl
 |x::l=>by simp[Xp.xL,Xp.qP l]
def Xp.sub:Xp->List Xp
 |.mk _ _ _ l=>l
def Xp.set:Xp->S
 |.mk _ _ s _=>s
def Xp.cs (x:Xp):List AV:=x.enc.map .iv
def Xp.av (x:Xp):AV:=.agg x.cs
theorem Xp.dQ (x:Xp):x.enc.all notNil=true:=by cases x;simp[Xp.enc,notNil]
theorem Xp.jQ (x:Xp) (w:Bool):M.aN (gG w) x.cs = .ret x.cs:=jn w x.enc x.dQ
theorem Xp.jo (x:Xp) (s:Nat):eE s x.cs = .ret x.cs:=iC x.enc s x.dQ
theorem Xp.nr (x:Xp):x.cs.length=7:=by cases x;rfl
theorem Xp.D9 (x:Xp):x.cs.take 7=x.cs:=by cases x;rfl
theorem Xp.l0 (x:Xp):(x.cs.drop 6).take 1=[.iv (.sl 7 (x.sub.map Xp.enc))]:=by cases x;simp[Xp.cs,Xp.enc,Xp.sub,Xp.qP]
theorem Xp.Ea (x:Xp):(x.cs.drop 2).take 4=[.bI x.set.a,.iv (.sl 2 (x.set.i.map tu)),.bI x.set.c,.iv (.sl 1 (x.set.s.map st1))]:=by cases x;rfl
theorem Xp.kO (x:Xp) (n0:Nat) (h:Hp):x.cs.map (nrm n0 h 8)=x.cs:=kh n0 h x.enc
theorem Xp.pq (x:Xp):(x.enc.map AV.iv).take 7=x.cs:=by cases x;rfl
theorem Xp.sX (x:Xp):x.enc.length=7:=by cases x;rfl
inductive Xp.ok:Xp->Prop
 |mk {k a:Int} {s:S} {sub:List Xp} (hk:eZ k) (ha:eZ a) (hs:s.ok) (hl:sub.length<=maxLen) (h:∀x ∈ sub,Xp.ok x):Xp.ok (.mk k a s sub)
mutual
def Xp.deep:Int->Xp->Int
 |d,.mk _ _ _ sub=>if d > 20 then 20 else if 20<Xp.eY (d+1) 100 sub 0+1 then 20 else Xp.eY (d+1) 100 sub 0+1
def Xp.eY:Int->Nat->List Xp->Int->Int
 |_,_,[],n=>n
 |_,0,_::_,n=>n
 |d,k+1,x::l,n=>Xp.eY d k l (if Xp.deep d x > n then Xp.deep d x else n)
end
mutual
theorem Xp.wz:∀(x:Xp) (d:Int),1<=x.deep d/\x.deep d<=20
 |.mk _ _ _ sub,d=>by
  unfold Xp.deep;split
  ·omega
  ·have:=Xp.qQ sub (d+1) 100 0 (by omega) (by omega);split<;>omega
theorem Xp.qQ:∀(l:List Xp) (d:Int) (k:Nat) (n:Int),0<=n->n<=20->0<=Xp.eY d k l n/\Xp.eY d k l n<=20
 |[],d,k,n,h,h'=>by unfold Xp.eY;omega
 |x::l,d,0,n,h,h'=>by unfold Xp.eY;omega
 |x::l,d,k+1,n,h,h'=>by
  have h1:=Xp.wz x d;unfold Xp.eY;split
  ·exact Xp.qQ l d k _ (by omega) (by omega)
  ·exact Xp.qQ l d k _ (by omega) (by omega)
end
mutual
def Xp.ej:Xp->Bool
 |.mk _ _ s sub=>jR s&&Xp.sb sub
def Xp.sb:List Xp->Bool
 |[]=>true
 |x::l=>x.ej&&Xp.sb l
end
theorem Xp.tw:∀l:List Xp,Xp.sb l=l.all Xp.ej
 |[]=>by unfold Xp.sb;rfl
 |x::l=>by unfold Xp.sb;simp[Xp.tw l]
mutual
def Xp.count:Int->Xp->Int
 |d,.mk _ _ _ sub=>if d > 20 then 100 else if 100<Xp.counts (d+1) sub 1 then 100 else Xp.counts (d+1) sub 1
def Xp.counts:Int->List Xp->Int->Int
 |_,[],n=>n
 |d,x::l,n=>if n<100 then Xp.counts d l (n+Xp.count d x) else n
end
mutual
theorem Xp.vG:∀(x:Xp) (d:Int),1<=x.count d/\x.count d<=100
 |.mk _ _ _ sub,d=>by
  unfold Xp.count;split
  ·omega
  ·have:=Xp.tx sub (d+1) 1 (by omega);split<;>omega
theorem Xp.tx:∀(l:List Xp) (d n:Int),1<=n->n<=Xp.counts d l n
 |[],d,n,_=>by unfold Xp.counts;omega
 |x::l,d,n,hn=>by
  have h1:=Xp.vG x d;unfold Xp.counts;split
  ·have:=Xp.tx l d (n+x.count d) (by omega);omega
  ·omega
end
section
variable {prog:Nat->Option an}
theorem Xp.vR {d n:Int} (h:¬n<100):∀l:List Xp,Xp.counts d l n=n
 |[]=>by unfold Xp.counts;rfl
 |x::l=>by unfold Xp.counts;rw[if_neg h]
theorem B3 (h:prog 169=some wY) {x:Xp} (hx:x.ok):∀d:Int,0<=d->d<=21->jV prog 169 [x.av,.nI d] (.nI (x.count d)):=by
 induction hx with
 |@mk k a s sub _ _ _ hl _ ih=>
  intro d Kx hd;generalize hX:Xp.mk k a s sub=X;have eG:X.sub=sub:=by rw[<-hX];rfl
  refine jV.of h rfl rfl (eJ (by simp[Xp.av,Xp.jo];rfl) ?_);refine c9 ?_;refine aS (eJ (by simp;rfl) ?_);by_cases k9:20<d
  ·refine bM (t:=true) (by simp[ev,al.get,k9]) ?_;simp only[if_true];refine c9 ?_;refine cw ?_;have:X.count d=100:=by rw[<-hX];unfold Xp.count;rw[if_pos k9]
   rw[this];rfl
  ·refine bM (t:=false) (by simp[ev,al.get,k9]) ?_;simp only[Bool.false_eq_true,if_false];refine db (aS (c9 ?_));refine dt ?_;have AO:X.count d=if 100<Xp.counts (d+1) sub 1 then 100 else Xp.counts (d+1) sub 1:=by rw[<-hX];unfold Xp.count;rw[if_neg k9]
   refine pK (λm s1=>∃(i:Nat) (n:Int),i+m=sub.length/\1<=n/\n<200/\Xp.counts (d+1) (sub.drop i) n=Xp.counts (d+1) sub 1/\
    s1=⟨[(1,.nI d),(2,.ref 1000 0 0 0),(5,.nI n),(6,.nI i)],[(1000,.cells X.cs)],1384⟩) (m:=sub.length) ⟨0,1,by omega,by omega,by omega,rfl,rfl⟩ ?_
   rintro m s1 ⟨i,n,Ky,yI,wa,hc,rfl⟩;refine aS (aS ?_);refine bL (K:=0) (s':=⟨[(1,.nI d),(2,.ref 1000 0 0 0),(5,.nI n),(6,.nI i),(17,.bI (decide (i<sub.length)&&decide (n<100)))],[(1000,.cells X.cs)],1960⟩) (λn' _=>by
    have aV:decide ((i:Int)<(sub.length:Int))=decide (i<sub.length):=decide_eq_decide.2 (by omega);cases hb:decide (i<sub.length)<;>simp[X.l0,eG,hb]) ?_
   by_cases l7:i<sub.length/\n<100
   ·refine bM (t:=true) (by simp[ev,al.get,l7.1,l7.2]) ?_;simp only[if_true];refine db (aS (dt ?_));have hx:sub[i]?=some sub[i]:=List.getElem?_eq_getElem l7.1;obtain⟨K,hK⟩:=ih sub[i] (List.getElem_mem _) (d+1) (by omega) (by omega);have dT:=Xp.vG sub[i] (d+1);have hw:IntKind.i64.wrap (d+1)=d+1:=IntWalk.i64_in _ (by omega);have Kz:IntKind.i64.wrap (n+sub[i].count (d+1))=n+sub[i].count (d+1):=IntWalk.i64_in _ (by omega);refine bL (K:=K) (λn' dJ=>by
     have bH:=hK n' dJ;simp only[Xp.av]at bH;simp[X.l0,eG,hx,Xp.pq,Xp.sX,Xp.jQ,hw,Kz,bH];rfl) ?_
    refine pJ (by simp[ib l7.1 hl];rfl) ?_;refine⟨m - 1,by omega,i+1,n+sub[i].count (d+1),by omega,by omega,by omega,?_,by simp[again,aY,get,sa,vF,fM,Xp.kO]⟩;rw[<-hc,List.drop_eq_getElem_cons l7.1]
    conv=>rhs;unfold Xp.counts
    rw[if_pos l7.2]
   ·have oW:(decide (i<sub.length)&&decide (n<100))=false:=by simpa using λh=>Int.not_lt.1 λh'=>l7 ⟨h,h'⟩
    refine bM (t:=false) (by simp[ev,al.get,oW]) ?_;simp only[Bool.false_eq_true,if_false];refine ji ?_;simp only[Ex.then,Ex.inBlock,if_true];have AP:Xp.counts (d+1) sub 1=n:=by
     rw[<-hc];by_cases hi:i<sub.length
     ·exact Xp.vR (λh=>l7 ⟨hi,h⟩) _
     ·rw[List.drop_eq_nil_of_le (by omega)];unfold Xp.counts;rfl
    refine aS ?_;refine bL (K:=0) (s':=⟨[(4,.nI (X.count d))],[(1000,.cells X.cs)],2152⟩) (λn' _=>by
     rw[AO,AP];by_cases hb:100<n<;>simp[mT,hb]) ?_
    exact cw rfl
theorem Xp.xM (d:Int) (n:Int):∀l:List Xp,Xp.eY d 0 l n=n
 |[]=>by unfold Xp.eY;rfl
 |x::l=>by unfold Xp.eY;rfl
theorem Eb (h:prog 170=some wZ) {x:Xp} (hx:x.ok):∀d:Int,0<=d->d<=21->jV prog 170 [x.av,.nI d] (.nI (x.deep d)):=by
 induction hx with
 |@mk k a s sub _ _ _ hl _ ih=>
  intro d Kx hd;generalize hX:Xp.mk k a s sub=X;have eG:X.sub=sub:=by rw[<-hX];rfl
  refine jV.of h rfl rfl (eJ (by simp[Xp.av,Xp.jo];rfl) ?_);refine c9 ?_;refine aS (eJ (by simp;rfl) ?_);by_cases k9:20<d
  ·refine bM (t:=true) (by simp[ev,al.get,k9]) ?_;simp only[if_true];refine c9 ?_;refine cw ?_;have:X.deep d=20:=by rw[<-hX];unfold Xp.deep;rw[if_pos k9]
   rw[this];rfl
  ·refine bM (t:=false) (by simp[ev,al.get,k9]) ?_;simp only[Bool.false_eq_true,if_false];refine db (aS (c9 ?_));refine dt ?_;have AO:X.deep d=if 20<Xp.eY (d+1) 100 sub 0+1 then 20 else Xp.eY (d+1) 100 sub 0+1:=by rw[<-hX];unfold Xp.deep;rw[if_neg k9]
   refine pK (λm s1=>∃(i:Nat) (n:Int),i+m=sub.length/\i<=100/\0<=n/\n<=20/\Xp.eY (d+1) (100 - i) (sub.drop i) n=Xp.eY (d+1) 100 sub 0/\
    s1=⟨[(1,.nI d),(2,.ref 1000 0 0 0),(5,.nI n),(6,.nI i)],[(1000,.cells X.cs)],1384⟩) (m:=sub.length) ⟨0,0,by omega,by omega,by omega,by omega,rfl,rfl⟩ ?_
   rintro m s1 ⟨i,n,Ky,Li,yI,wa,hc,rfl⟩;refine aS (aS ?_);refine bL (K:=0) (s':=⟨[(1,.nI d),(2,.ref 1000 0 0 0),(5,.nI n),(6,.nI i),(17,.bI (decide (i<sub.length)&&decide (i<100)))],[(1000,.cells X.cs)],1960⟩) (λn' _=>by
    have aV:decide ((i:Int)<(sub.length:Int))=decide (i<sub.length):=decide_eq_decide.2 (by omega);have I4:decide ((i:Int)<100)=decide (i<100):=decide_eq_decide.2 (by omega);cases hb:decide (i<sub.length)<;>simp[X.l0,eG,I4,hb]) ?_
   by_cases l7:i<sub.length/\i<100
   ·refine bM (t:=true) (by simp[ev,al.get,l7.1,l7.2]) ?_;simp only[if_true];refine db (aS (dt ?_));have hx:sub[i]?=some sub[i]:=List.getElem?_eq_getElem l7.1;obtain⟨K,hK⟩:=ih sub[i] (List.getElem_mem _) (d+1) (by omega) (by omega);have dT:=Xp.wz sub[i] (d+1);have hw:IntKind.i64.wrap (d+1)=d+1:=IntWalk.i64_in _ (by omega);refine bL (K:=K) (λn' dJ=>by
     have bH:=hK n' dJ;simp only[Xp.av]at bH;simp[X.l0,eG,hx,Xp.pq,Xp.sX,Xp.jQ,hw,bH,od];rfl) ?_
    refine pJ (by simp[ib l7.1 hl];rfl) ?_;refine⟨m - 1,by omega,i+1,if sub[i].deep (d+1) > n then sub[i].deep (d+1) else n,by omega,by omega,by split<;>omega,by split<;>omega,?_,by simp[again,aY,get,sa,vF,fM,Xp.kO]⟩;rw[<-hc,List.drop_eq_getElem_cons l7.1,show 100 - i=(100 - (i+1))+1 by omega]
    conv=>rhs;unfold Xp.eY
   ·have oW:(decide (i<sub.length)&&decide (i<100))=false:=by simpa using λh=>Nat.not_lt.1 λh'=>l7 ⟨h,h'⟩
    refine bM (t:=false) (by simp[ev,al.get,oW]) ?_;simp only[Bool.false_eq_true,if_false];refine ji ?_;simp only[Ex.then,Ex.inBlock,if_true];have AP:Xp.eY (d+1) 100 sub 0=n:=by
     rw[<-hc];by_cases hi:i<sub.length
     ·rw[show 100 - i=0 by omega];exact Xp.xM _ _ _
     ·rw[List.drop_eq_nil_of_le (by omega)];unfold Xp.eY;rfl
    refine aS ?_;have KD:IntKind.i64.wrap (n+1)=n+1:=IntWalk.i64_in _ (by omega);refine bL (K:=0) (s':=⟨[(4,.nI (X.deep d))],[(1000,.cells X.cs)],2216⟩) (λn' _=>by
     rw[AO,AP];by_cases hb:20<n+1<;>simp[mT,hb,KD]) ?_
    exact cw rfl
theorem Ec (mE:prog 27=some qZ) (h:prog 204=some w6) {x:Xp} (hx:x.ok):jV prog 204 [x.av] (.bI x.ej):=by
 induction hx with
 |@mk k a s sub _ _ _ hl _ ih=>
  generalize hX:Xp.mk k a s sub=X;have eG:X.sub=sub:=by rw[<-hX];rfl
  have zY:X.set=s:=by rw[<-hX];rfl
  have gE:X.ej=(jR s&&sub.all Xp.ej):=by rw[<-hX];unfold Xp.ej;rw[Xp.tw]
  refine jV.of h rfl rfl (eJ (by simp[Xp.av,Xp.jo];rfl) ?_);refine aS (aS ?_);obtain⟨K,hK⟩:=zz mE [s] (by simp[maxLen]);refine bL (K:=K) (λn' dJ=>by
   have bH:=hK n' dJ;simp only[ej,List.map_cons,List.map_nil,S.enc,List.all_cons,List.all_nil,Bool.and_true]at bH;simp[X.Ea,zY,ec,bH];rfl) ?_
  cases ou:jR s with
  |false=>
   refine bM (t:=true) rfl (c9 ?_);refine cw ?_;rw[gE,ou];rfl
  |true=>
   refine bM (t:=false) rfl (db (aS (c9 ?_)));refine dt (lY sub.length (λi=>⟨[(1,.ref 1000 0 0 0),(3,.nI i)],[(1000,.cells X.cs),(1256,.buf 0 4 [[.bool s.a,.sl 2 (s.i.map tu),.bool s.c,.sl 1 (s.s.map st1)]])],1512⟩)
    (λi=>(sub.take i).all Xp.ej=true) rfl (by simp) ?_ ?_)
   ·intro i hi hg;have aV:decide ((i:Int)<(sub.length:Int))=true:=decide_eq_true (by omega);refine aS (aS ?_);refine bL (K:=0) (λn' _=>by
     simp[X.l0,eG,hi];rfl) ?_
    refine bM (t:=true) rfl (db (aS (dt (aS ?_))));have hx:sub[i]?=some sub[i]:=List.getElem?_eq_getElem hi;obtain⟨K,hK⟩:=ih sub[i] (List.getElem_mem _);refine bL (K:=K) (λn' dJ=>by
     have bH:=hK n' dJ;simp only[Xp.av]at bH;simp[X.l0,eG,hx,Xp.pq,Xp.sX,Xp.jQ,bH];rfl) ?_
    cases F7:sub[i].ej with
    |false=>
     refine bM (t:=true) rfl (c9 ?_);refine cw ?_;rw[gE,ou,all_false hx F7];rfl
    |true=>
     refine bM (t:=false) rfl (db ?_);refine pJ (by simp[ib hi hl];rfl) ?_;have hr:nrm 1512 [(1000,.cells X.cs),(1256,.buf 0 4 [[.bool s.a,.sl 2 (s.i.map tu),.bool s.c,.sl 1 (s.s.map st1)]])] 8 (.ref 1000 0 0 0) = .ref 1000 0 0 0:=by simp[nrm,al.get]
     refine⟨by simp[again,aY,get,sa,hr,fM,Xp.kO],?_⟩;rw[gw hx,hg,F7];rfl
   ·intro hg;refine aS (aS ?_);refine bL (K:=0) (λn' _=>by
     simp[X.l0,eG];rfl) ?_
    refine bM (t:=false) rfl (ji ?_);simp only[Ex.then,Ex.inBlock,if_true];refine c9 ?_;refine cw ?_;rw[List.take_length]at hg;rw[gE,ou,hg];rfl
end
section
variable {prog:Nat->Option an}
theorem Ev.run {f:Nat} {args:List AV} {p:AV×Hp} (h:Ev prog f args [] p) (hp:p.1 = .bI true):∃n bN,bg prog n f args []=some (.bI true,bN):=by
 obtain⟨K,h⟩:=h;exact⟨K,p.2,by rw[h K (Nat.le_refl _),<-hp]⟩
end
end al
namespace al
open Go
section
variable {α:Type} {lt:α->α->Bool}
end
def CV (l:List (Int×Int)) (n:Int):Prop:=∃p ∈ l,p.1<=n/\n<=p.2
def normal (l:List (Int×Int)):Prop:=(∀p ∈ l,p.1<=p.2)/\l.Pairwise λp q=>p.2+1<q.1


end al
namespace al
open Go
attribute [local simp] aQ Option.map_some aW step bK bn bc M.aN M.run M.ok M.fresh M.write M.look M.lift bj al.set ev al.get aY bin dZ iI mk params bW load dc cU fC gL eD eP idx len valid gM bound store cn eE un eqs jt bE bz M.bA gx cJ ew di meets fc gN callee eu gG fz flat jr ki nD Option.bind_some gn M.bind
section
variable {prog:Nat->Option an}
end
structure V where
 k:Int
 n:Int
 s:ByteArray
def V.enc (v:V):List IV:=[.int .i64 v.k,.int .i64 v.n,.str v.s]
def V.av (v:V):AV:=.agg [.iv (.int .i64 v.k),.iv (.int .i64 v.n),.iv (.str v.s)]
structure E where
 v0:V
 v1:V
 v2:V
 v3:V
def E.get (e:E):Nat->V
 |0=>e.v0
 |1=>e.v1
 |2=>e.v2
 |_=>e.v3
def E.enc (e:E):List IV:=e.v0.enc++(e.v1.enc++(e.v2.enc++e.v3.enc))
def E.cs (e:E):List AV:=e.enc.map .iv
def E.av (e:E):AV:=.agg e.cs
theorem E.nr (e:E):e.cs.length=12:=rfl
theorem E.kO (e:E) (n0:Nat) (h:Hp):e.cs.map (nrm n0 h 8)=e.cs:=kh n0 h e.enc
theorem E.dQ (e:E):e.enc.all notNil=true:=by simp[E.enc,V.enc,notNil]
theorem E.jQ (e:E) (w:Bool):M.aN (gG w) e.cs = .ret e.cs:=jn w e.enc e.dQ
theorem E.jo (e:E) (s:Nat):eE s e.cs = .ret e.cs:=iC e.enc s (by simp[E.enc,V.enc,notNil])
section
variable {prog:Nat->Option an}
end
def Xp.jq (x:Xp):Bool:=!(decide (100<=x.count 0)||decide (20<=x.deep 0))&&x.ej
def AQ (n:Int):List IV:=[.int .i64 n]
structure Hd where
 ps:List Int
 hs:List Int
 b:Int
 g:Int
def Hd.enc (h:Hd):List IV:=[.sl 1 (h.ps.map AQ),.sl 1 (h.hs.map AQ),.int .i64 h.b,.int .u64 h.g]
def Hd.cs (h:Hd):List AV:=h.enc.map .iv
def Hd.av (h:Hd):AV:=.agg h.cs
theorem Hd.dQ (x:Hd):x.enc.all notNil=true:=by simp[Hd.enc,notNil]
theorem Hd.jQ (x:Hd) (w:Bool):M.aN (gG w) x.cs = .ret x.cs:=jn w x.enc x.dQ
theorem Hd.jo (x:Hd) (s:Nat):eE s x.cs = .ret x.cs:=iC x.enc s x.dQ
theorem Hd.nr (x:Hd):x.cs.length=4:=rfl
theorem Hd.kO (x:Hd) (n0:Nat) (h:Hp):x.cs.map (nrm n0 h 8)=x.cs:=kh n0 h x.enc
def Hd.jq (h:Hd):Bool:=decide (h.ps.length<=100)&&decide (h.hs.length<=100)
structure Op where
 k:Int
 c:Int
 u:Int
 f:Int
 t:Int
 x:Xp
 e:E
structure Op.ok (o:Op):Prop where
 k:eZ o.k
 c:eZ o.c
 u:eZ o.u
 f:eZ o.f
 t:eZ o.t
 x:o.x.ok
 e:∀i,i<4->eZ (o.e.get i).k/\eZ (o.e.get i).n/\(o.e.get i).s.size<=maxLen
def Op.enc (o:Op):List IV:=.int .i64 o.k::.int .i64 o.c::.int .i64 o.u::.int .i64 o.f::.int .i64 o.t::(o.x.enc++o.e.enc)
def Op.cs (o:Op):List AV:=o.enc.map .iv
def Op.av (o:Op):AV:=.agg o.cs
theorem Op.dQ (o:Op):o.enc.all notNil=true:=by simp[Op.enc,notNil,List.all_append,Xp.dQ,E.dQ]
theorem Op.jo (o:Op) (s:Nat):eE s o.cs = .ret o.cs:=iC o.enc s o.dQ
theorem Op.jQ (x:Op) (w:Bool):M.aN (gG w) x.cs = .ret x.cs:=jn w x.enc x.dQ
theorem Op.wv (o:Op):o.enc.length=24:=by obtain⟨_,_,_,_,_,x,e⟩:=o;cases x;rfl
theorem Op.nr (o:Op):o.cs.length=24:=by simp[Op.cs,Op.wv]
theorem Op.kO (o:Op) (n0:Nat) (h:Hp):o.cs.map (nrm n0 h 8)=o.cs:=kh n0 h o.enc
def E.KE (e:E):Bool:=decide (300<IntKind.i64.wrap (IntKind.i64.wrap (IntKind.i64.wrap (e.v0.s.size+e.v1.s.size)+e.v2.s.size)+e.v3.s.size))
def Op.jq (o:Op):Bool:=o.x.jq&&!o.e.KE
section
variable {prog:Nat->Option an}
theorem Ed (mE:prog 27=some qZ) (AR:prog 169=some wY) (AS:prog 170=some wZ) (AT:prog 204=some w6) (h:prog 203=some zQ) {x:Xp} (hx:x.ok):jV prog 203 [x.av] (.bI x.jq):=by
 obtain⟨K1,pr⟩:=B3 AR hx 0 (by omega) (by omega);obtain⟨K2,rH⟩:=Eb AS hx 0 (by omega) (by omega);obtain⟨K3,KG⟩:=Ec mE AT hx;refine jV.of h rfl rfl (eJ (by simp[Xp.av,Xp.jo];rfl) ?_);refine aS (gl (K:=max K1 K2) (s':=⟨[(1,.ref 1000 0 0 0),(10,.bI (decide (100<=x.count 0)||decide (20<=x.deep 0)))],[(1000,.cells x.cs)],1640⟩) (λn hn=>by
  have h1:=pr n (by omega);have h2:=rH n (by omega);simp only[Xp.av]at h1 h2;cases hb:decide (100<=x.count 0)<;>simp[Xp.D9,Xp.nr,Xp.jQ,h1,h2,hb]) ?_)
 cases hb:(decide (100<=x.count 0)||decide (20<=x.deep 0))with
 |true=>
  refine bM (t:=true) rfl (c9 ?_);refine cw ?_;unfold Xp.jq;rw[hb];rfl
 |false=>
  refine bM (t:=false) rfl (db (gl (K:=K3) (λn hn=>by
   have h3:=KG n (by omega);simp only[Xp.av]at h3;simp[Xp.D9,Xp.nr,Xp.jQ,h3];rfl) ?_))
  refine cw ?_;unfold Xp.jq;rw[hb];cases x.ej<;>rfl
end
end al
namespace au
open Go al
section
variable {p1:Nat->Option al.an} {p2:Nat->Option an}
theorem zC (w:Bool) (n:Nat):∀l:List IV,l.all notNil=true->M.aN (fz w (n+1)) (l.map AV.iv) = .ret l
 |[],_=>by simp[M.aN]
 |x::r,h=>by
  simp only[List.all_cons,Bool.and_eq_true]at h;have ih:=zC w n r h.2;cases x with
  |az e=>simp[notNil]at h
  |_=>rw[List.map_cons,M.aN,ih];rfl
theorem qj {call:bR} {f:Nat} {args:List AV} {ys:List al.AV} {y:al.AV} {z:AV} {H:Hp} (h1:(M.aN (eu false) args).run H=some (ys,H)) (h2:(call f ys []).bind shut=some y) (h3:flat y=true) (h4:y3 y=some z) :
  (fc call (.iv (.fn f [])) args).run H=some (z,H):=by
 simp[fc,callee,bc,M.lift,M.run,h1,h2,h3,h4,M.ok]
end
section
variable {c1:bR} {cx:cA} {n:Nat}
end
def sc:Tr Ob->Tr Ob->Bool
 |.nil,.nil=>true
 |.node v l r,.node v' l' r'=>yZ v v'&&(sc l l'&&sc r r')
 |_,_=>false
theorem px:∀{x y:Tr Ob},sc x y=true->x=y
 |.nil,y,h=>by cases y<;>simp_all [sc]
 |.node v l r,y,h=>by
  cases y<;>simp[sc]at h;rw[uW h.1,px h.2.1,px h.2.2]
def F8:Fr->Fr->Bool
 |[],[]=>true
 |(i,x)::r,(j,y)::q=>i==j&&(jK x y&&F8 r q)
 |_,_=>false
def KH (s s':St):Bool:=F8 s.fr s'.fr&&(sc s.hp s'.hp&&s.nx==s'.nx)
def zD:Tr Ob->List (Nat×Ob)
 |.nil=>[]
 |.node v l r=>(match v with | some o=>[(0,o)] | none=>[])++((zD l).map (λp=>(2*p.1+1,p.2))++(zD r).map λp=>(2*p.1+2,p.2))
def part (p1:Nat->Option al.an) (p2:Nat->Option an) (K:Nat) (c:IC) (s s':St):Bool:=match aD (one p1 (K+1)) (bg (one p1 (K+1)) p2 K) K c s with
 |some (.norm,t)=>KH t s'
 |_=>false
section
variable {p1:Nat->Option al.an} {p2:Nat->Option an}
theorem AU {g K':Nat} (hm:∀n,eM (c6 p1 p2 n)) {a b c d:Nat} {L L2:List (Nat×Ob)} (h':c6 p1 p2 K' g [] .nil c=some (.bI true,bu L2 .nil,d))
  (hL:∀p ∈ L,4*a<=p.1/\p.1<4*b) (wA:∀p ∈ L2,4*c<=p.1/\p.1<4*d) (F9:b<=c):c6 p1 p2 K' g [] (bu L .nil) c=some (.bI true,bu L (bu L2 .nil),d):=by
 refine(hm K' _ _ _ _ _ _ _ h').2 L λp hp=>?_
 rw[gA (λq hq=>?_),lM];have:=hL p hp;have:=wA q hq;omega
theorem qk {L:List (Nat×Ob)} {n:Nat} (h:∀p ∈ L,p.1≠n):get (bu L (Tr.nil:Hp)) n=none:=by rw[gA h,lM]
end
structure Bo where
 k:Int
 c:Int
 s:Int
 f:Int
 x:Xp
 e:E
 Ga:Bool
 l8:List En
 rem:List Int
 pid:Int
 Gb:Int
 pe:E
def Bo.nw (o:Bo):List IV:=[.bool o.Ga,.sl 3 (o.l8.map En.enc),.sl 1 (o.rem.map λn=>[.int .i64 n]),.int .i64 o.pid,.int .i64 o.Gb]++o.pe.enc
def Bo.enc (o:Bo):List IV:=[.int .i64 o.k,.int .i64 o.c,.int .i64 o.s,.int .i64 o.f]++(o.x.enc++(o.e.enc++o.nw))
def Bo.cs (o:Bo):List AV:=o.enc.map .iv
structure Bo.ok (o:Bo):Prop where
 x:o.x.ok
 a1:o.l8.length<=maxLen
 a2:∀e ∈ o.l8,e.f.length<=maxLen
 rem:o.rem.length<=maxLen
 s:∀i,i<4->(o.pe.get i).s.size<=maxLen
section
variable {p1:Nat->Option al.an} {p2:Nat->Option an}
structure jS (p2:Nat->Option an):Prop where
 Ee:p2 428=some xJ
 Ef:p2 425=some D8
 Eg:p2 398=some DF
 Eh:p2 303=some DI
 Ei:p2 399=some DD
 Ej:p2 389=some DH
 Ek:p2 404=some DG
 El:p2 423=some D7
 Em:p2 402=some DB
 Eo:p2 401=some DC
 Ep:p2 296=some DE
 Er:p2 306=some DJ
 Es:p2 403=some DK
 Et:p2 224=some DL
theorem py (bQ:cm p2) (L:jS p2) (H:Hp) (nx:Nat) (a:AV):Ev p1 p2 306 [.iv .bh,a] H nx (.aR [.iv .bh,.nI 7],H,nx+6):=by
 refine Ev.at bQ (n:=3) ?_;simp only[c6,bg,L.Er];rfl
theorem Eu (bQ:cm p2) (L:jS p2) (H:Hp) (nx:Nat) (a:AV):Ev p1 p2 404 [.iv .bh,a] H nx (.iv (.az 3),H,nx+4):=by
 refine Ev.at bQ (n:=3) ?_;simp only[c6,bg,L.Ek];rfl
theorem Ew (bQ:cm p2) (L:jS p2) (H:Hp) (nx:Nat) (a:AV):Ev p1 p2 423 [.iv .bh,a] H nx (.iv (.az 3),H,nx+4):=by
 refine Ev.at bQ (n:=3) ?_;simp only[c6,bg,L.El];rfl
theorem Ey (bQ:cm p2) (L:jS p2) (H:Hp) (nx:Nat):Ev p1 p2 296 [.iv .bh] H nx (.nI 0,H,nx+4):=by
 refine Ev.at bQ (n:=3) ?_;simp only[c6,bg,L.Ep];rfl
theorem Ez (bQ:cm p2) (L:jS p2) (H:Hp) (nx:Nat):Ev p1 p2 403 [.iv .bh] H nx (.iv (.az 3),H,nx+4):=by
 refine Ev.at bQ (n:=3) ?_;simp only[c6,bg,L.Es];rfl
theorem EA (bQ:cm p2) (L:jS p2) (H:Hp) (nx:Nat):Ev p1 p2 224 [.iv .bh] H nx (.iv (.az 1),H,nx+4):=by
 refine Ev.at bQ (n:=3) ?_;simp only[c6,bg,L.Et];rfl
theorem EB (bQ:cm p2) (L:jS p2) (H:Hp) (nx:Nat) (a:AV):Ev p1 p2 402 [.iv .bh,a] H nx (.iv (.az 3),H,nx+22):=by
 obtain⟨K1,pr⟩:=py (p1:=p1) bQ L H (nx+1+8) a;obtain⟨K2,rH⟩:=Ez (p1:=p1) bQ L H (nx+1+8+6+3);refine Ev.of bQ L.Em rfl rfl (aS ?_);refine bL (K:=0) (s':=⟨[(0,.iv .bh),(1,a)],H,nx+1⟩) (λn _=>rfl) ?_;refine gl (K:=K1) (s':=⟨[(5,.iv .bh)],H,nx+1+8+6⟩) (λn hn=>by
  have h1:=pr n hn;simp[aQ,aW,step,bK,dD,bn,callee,M.lift,ev,bV,eC,params,bc,M.run,bj,aP,aY,h1]) ?_
 refine gl (K:=K2) (s':=⟨[(4,.iv (.az 3))],H,nx+22⟩) (λn hn=>by
  have h1:=rH n hn;simp[aQ,aW,step,bK,dD,bn,callee,M.lift,ev,bV,eC,params,bc,M.run,bj,aP,aY,h1]) ?_
 exact cw ⟨rfl,rfl⟩
theorem EC (bQ:cm p2) (L:jS p2) (H:Hp) (nx:Nat) (a:AV):Ev p1 p2 401 [.iv .bh,a] H nx (.iv (.az 1),H,nx+22):=by
 obtain⟨K1,pr⟩:=py (p1:=p1) bQ L H (nx+1+8) a;obtain⟨K2,rH⟩:=EA (p1:=p1) bQ L H (nx+1+8+6+3);refine Ev.of bQ L.Eo rfl rfl (aS ?_);refine bL (K:=0) (s':=⟨[(0,.iv .bh),(1,a)],H,nx+1⟩) (λn _=>rfl) ?_;refine gl (K:=K1) (s':=⟨[(5,.iv .bh)],H,nx+1+8+6⟩) (λn hn=>by
  have h1:=pr n hn;simp[aQ,aW,step,bK,dD,bn,callee,M.lift,ev,bV,eC,params,bc,M.run,bj,aP,aY,h1]) ?_
 refine gl (K:=K2) (s':=⟨[(4,.iv (.az 1))],H,nx+22⟩) (λn hn=>by
  have h1:=rH n hn;simp[aQ,aW,step,bK,dD,bn,callee,M.lift,ev,bV,eC,params,bc,M.run,bj,aP,aY,h1]) ?_
 exact cw ⟨rfl,rfl⟩
theorem ED (bQ:cm p2) (L:jS p2) (H:Hp) (nx:Nat) (a:AV) (cs:List AV) (hf:get H (4*nx)=none):Ev p1 p2 398 [.iv .bh,a,.agg cs] H nx (.aR [.nI 0,.iv (.az 18),.nI 7],au.set H (4*nx) (.cells cs),nx+24):=by
 obtain⟨K1,pr⟩:=py (p1:=p1) bQ L (au.set H (4*nx) (.cells cs)) (nx+4+8) a;refine Ev.of bQ L.Eg rfl rfl (eJ (s':=⟨[(0,.iv .bh),(1,a),(5,.ref (4*nx) 0 0 0)],au.set H (4*nx) (.cells cs),nx+4⟩) (by
  simp[aQ,aW,step,bK,dD,bn,bW,params,bc,M.run,M.ok,M.fresh,M.write,hf,ev,bV,eC,bj,aP,aY]) ?_)
 refine gl (K:=K1) (s':=⟨[(0,.iv .bh),(1,a),(5,.ref (4*nx) 0 0 0),(8,.nI 7),(9,.iv .bh)],au.set H (4*nx) (.cells cs),nx+18⟩) (λn hn=>by
  have h1:=pr n hn;simp[aQ,aW,step,bK,dD,bn,callee,M.lift,ev,bV,eC,bc,M.run,bj,aP,aY,h1]) ?_
 refine aS (aS ?_);refine bL (K:=0) (s':=⟨[(0,.iv .bh),(1,a),(5,.ref (4*nx) 0 0 0),(8,.nI 7),(9,.iv .bh),(19,.bI true)],au.set H (4*nx) (.cells cs),nx+20⟩) (λn _=>rfl) ?_;refine bM (t:=true) rfl (aS ?_);refine bL (K:=0) (s':=⟨[(6,.nI 0),(7,.iv (.az 18)),(8,.nI 7)],au.set H (4*nx) (.cells cs),nx+24⟩) (λn _=>rfl) ?_;exact cw ⟨rfl,rfl⟩
theorem EE (bQ:cm p2) (L:jS p2) (H:Hp) (nx:Nat) (a b:AV):Ev p1 p2 303 [.iv .bh,a,b] H nx (.aR [.iv (.az 18),.nI 7],H,nx+21):=by
 obtain⟨K1,pr⟩:=py (p1:=p1) bQ L H (nx+2+8) a;refine Ev.of bQ L.Eh rfl rfl (aS ?_);refine bL (K:=0) (s':=⟨[(0,.iv .bh),(1,a),(2,b)],H,nx+2⟩) (λn _=>rfl) ?_;refine gl (K:=K1) (s':=⟨[(0,.iv .bh),(1,a),(2,b),(8,.iv .bh),(9,.nI 7)],H,nx+16⟩) (λn hn=>by
  have h1:=pr n hn;simp[aQ,aW,step,bK,dD,bn,callee,M.lift,ev,bV,eC,params,bc,M.run,bj,aP,aY,h1]) ?_
 refine aS (aS ?_);refine bL (K:=0) (s':=⟨[(0,.iv .bh),(1,a),(2,b),(8,.iv .bh),(9,.nI 7),(19,.bI true)],H,nx+18⟩) (λn _=>rfl) ?_;refine bM (t:=true) rfl (aS ?_);refine bL (K:=0) (s':=⟨[(6,.iv (.az 18)),(7,.nI 7)],H,nx+21⟩) (λn _=>rfl) ?_;exact cw ⟨rfl,rfl⟩
theorem EF (bQ:cm p2) (L:jS p2) (H:Hp) (nx:Nat) (a b:AV) (cs:List AV) (hf:get H (4*nx)=none):Ev p1 p2 399 [.iv .bh,.agg (a::b::cs)] H nx (.aR [.iv (.az 18),.iv (.az 1),.nI 7],au.set H (4*nx) (.cells (a::b::cs)),nx+24):=by
 obtain⟨K1,pr⟩:=py (p1:=p1) bQ L (au.set H (4*nx) (.cells (a::b::cs))) (nx+4+8) b;refine Ev.of bQ L.Ei rfl rfl (eJ (s':=⟨[(0,.iv .bh),(3,.ref (4*nx) 0 0 0)],au.set H (4*nx) (.cells (a::b::cs)),nx+4⟩) (by
  simp[aQ,aW,step,bK,dD,bn,bW,params,bc,M.run,M.ok,M.fresh,M.write,hf,ev,bV,eC,bj,aP,aY]) ?_)
 refine aS (gl (K:=K1) (s':=⟨[(0,.iv .bh),(3,.ref (4*nx) 0 0 0),(6,.nI 7)],au.set H (4*nx) (.cells (a::b::cs)),nx+18⟩) (λn hn=>by
  have h1:=pr n hn;simp[aQ,aW,step,bK,dD,bn,callee,M.lift,M.ok,M.look,cU,load,dc,mk,valid,ev,bV,eC,bc,M.run,bj,aP,aY,h1]) ?_)
 refine aS ?_;refine bL (K:=0) (s':=⟨[(0,.iv .bh),(3,.ref (4*nx) 0 0 0),(6,.nI 7),(15,.bI true)],au.set H (4*nx) (.cells (a::b::cs)),nx+20⟩) (λn _=>rfl) ?_;refine bM (t:=true) rfl (aS ?_);refine bL (K:=0) (s':=⟨[(4,.iv (.az 18)),(5,.iv (.az 1)),(6,.nI 7)],au.set H (4*nx) (.cells (a::b::cs)),nx+24⟩) (λn _=>rfl) ?_;exact cw ⟨rfl,rfl⟩
theorem EG (bQ:cm p2) (L:jS p2) (H:Hp) (nx:Nat) (a:AV) (cs:List AV) (hf:get H (4*nx)=none):Ev p1 p2 389 [.iv .bh,a,.agg cs] H nx (.aR [.iv (.az 18),.iv (.az 1),.nI 7],au.set H (4*nx) (.cells cs),nx+9):=by
 refine Ev.of bQ L.Ej rfl rfl (eJ (s':=⟨[(0,.iv .bh),(1,a),(5,.ref (4*nx) 0 0 0)],au.set H (4*nx) (.cells cs),nx+4⟩) (by
  simp[aQ,aW,step,bK,dD,bn,bW,params,bc,M.run,M.ok,M.fresh,M.write,hf,ev,bV,eC,bj,aP,aY]) ?_)
 refine aS (aS ?_);refine bL (K:=0) (s':=⟨[(0,.iv .bh),(1,a),(5,.ref (4*nx) 0 0 0),(19,.bI true)],au.set H (4*nx) (.cells cs),nx+6⟩) (λn _=>rfl) ?_;refine bM (t:=true) rfl (aS ?_);refine bL (K:=0) (s':=⟨[(6,.iv (.az 18)),(7,.iv (.az 1)),(8,.nI 7)],au.set H (4*nx) (.cells cs),nx+9⟩) (λn _=>rfl) ?_;exact cw ⟨rfl,rfl⟩
end
section
variable {p1:Nat->Option al.an} {p2:Nat->Option an}
theorem EH (l:List En):M.aN (eu false) [AV.iv (.sl 3 (l.map En.enc))] = .ret [al.AV.iv (.sl 3 (l.map En.enc))]:=rfl
theorem B4 {c:bR} {l:List En} {b:Bool} (h:(c 426 [.iv (.sl 3 (l.map En.enc))] []).bind shut=some (.bI b)) (H:Hp):(fc c (.iv (.fn 426 [])) [.iv (.sl 3 (l.map En.enc))]).run H=some (.bI b,H):=
 qj (ys:=[.iv (.sl 3 (l.map En.enc))]) (by rw[EH];rfl) h rfl rfl
theorem EI (bQ:cm p2) (L:jS p2) (mE:p1 27=some al.qZ) (vC:p1 14=some al.vU) (h5:p1 5=some al.F5) (AW:p1 426=some al.w7) (o:Bo) (ho:o.ok) (H:Hp) (nx:Nat) (hf:get H (4*nx)=none) :
  ∃b,Ev p1 p2 425 [.agg (o.nw.map .iv)] H nx (.bI b,au.set H (4*nx) (.cells (o.nw.map .iv)),nx+44):=by
 obtain⟨K,hK⟩:=B2 mE vC h5 AW o.l8 ho.a1 ho.a2;obtain⟨cs,hc⟩:∃cs,cs=o.nw.map AV.iv:=⟨_,rfl⟩;have c1:(cs.drop 1).take 1=[.iv (.sl 3 (o.l8.map En.enc))]:=by rw[hc];rfl
 have c2:(cs.drop 2).take 1=[.iv (.sl 1 (o.rem.map λn=>[.int .i64 n]))]:=by rw[hc];rfl
 have c7:(cs.drop 7).take 1=[.iv (.str o.pe.v0.s)]:=by rw[hc];rfl
 have KI:(cs.drop 10).take 1=[.iv (.str o.pe.v1.s)]:=by rw[hc];rfl
 have KJ:(cs.drop 13).take 1=[.iv (.str o.pe.v2.s)]:=by rw[hc];rfl
 have KK:(cs.drop 16).take 1=[.iv (.str o.pe.v3.s)]:=by rw[hc];rfl
 rw[<-hc];have ld:∀(j:Nat) (x:AV),(cs.drop j).take 1=[x]->(load false 1 (.ref (4*nx) 0 0 j)).run (au.set H (4*nx) (.cells cs))=some (x,au.set H (4*nx) (.cells cs)):=λj x h=>by
  simp[load,dc,mk,M.look,M.lift,bc,M.run,M.ok,aq,h]
 refine⟨k8 o.l8&&(decide ((o.rem.length:Int)<=40)&&decide (IntKind.i64.wrap (IntKind.i64.wrap (IntKind.i64.wrap ((o.pe.v0.s.size:Int)+o.pe.v1.s.size)+o.pe.v2.s.size)+o.pe.v3.s.size)<=300)),Ev.of bQ L.Ef rfl rfl (aS ?_)⟩;refine pJ (s':=⟨[(1,.ref (4*nx) 0 0 0)],au.set H (4*nx) (.cells cs),nx+2⟩) (by
  simp[aQ,aW,step,bK,dD,bn,bW,params,bc,M.run,M.ok,M.fresh,M.write,hf,ev,bV,bj,aP,aY]) ?_
 refine gl (K:=K) (s':=⟨[(2,.bI (k8 o.l8&&(decide ((o.rem.length:Int)<=40)&&decide (IntKind.i64.wrap (IntKind.i64.wrap (IntKind.i64.wrap ((o.pe.v0.s.size:Int)+o.pe.v1.s.size)+o.pe.v2.s.size)+o.pe.v3.s.size)<=300))))],au.set H (4*nx) (.cells cs),nx+44⟩) (λn hn=>by
  have h1:=B4 (hK n hn) (au.set H (4*nx) (.cells cs));have kG:∀b,k8 o.l8=b->(fc (one p1 n) (.iv (.fn 426 [])) [.iv (.sl 3 (o.l8.map En.enc))]).run (au.set H (4*nx) (.cells cs))=some (.bI b,au.set H (4*nx) (.cells cs)):=λb hb=>hb▸h1
  cases hb:k8 o.l8 with
  |false=>
   have h2:=kG _ hb;simp[aQ,aW,step,bK,dD,bn,cU,valid,M.look,M.lift,bc,M.run,M.ok,ev,bV,bj,aq,aP,aY,ld 1 _ c1,h2]
  |true=>
   have h2:=kG _ hb;cases hd:decide ((o.rem.length:Int)<=40)with
   |false=>simp[aQ,aW,step,bK,dD,bn,cU,valid,len,o7,bin,dZ,M.look,M.lift,bc,M.run,M.ok,ev,bV,bj,aq,aP,aY,ld 1 _ c1,ld 2 _ c2,h2,hd]
   |true=>simp[aQ,aW,step,bK,dD,bn,cU,eD,idx,valid,len,o7,bin,dZ,M.look,M.lift,bc,M.run,M.ok,ev,bV,bj,aq,aP,aY,ld 1 _ c1,ld 2 _ c2,ld 7 _ c7,ld 10 _ KI,ld 13 _ KJ,ld 16 _ KK,h2,hd]) ?_
 exact cw ⟨rfl,rfl⟩
end
section
variable {p1:Nat->Option al.an} {p2:Nat->Option an}
theorem se (o:Bo) {H:Hp} (hk:get H 4=some (.cells o.cs)):(load false 1 (.ref 4 0 0 1)).run H=some (.nI o.c,H)/\(load false 1 (.ref 4 0 0 2)).run H=some (.nI o.s,H)/\(load false 1 (.ref 4 0 0 3)).run H=some (.nI o.f,H)/\
  (load true 7 (.ref 4 0 0 4)).run H=some (.agg (o.x.enc.map .iv),H)/\(load true 12 (.ref 4 0 0 11)).run H=some (.agg (o.e.enc.map .iv),H)/\(load true 17 (.ref 4 0 0 23)).run H=some (.agg (o.nw.map .iv),H):=by
 obtain⟨k,c,s,f,x,e,Ga,l8,rem,pid,Gb,pe⟩:=o;cases x with
 |mk xk xa xs Lq=>
  refine⟨?_,?_,?_,?_,?_,?_⟩<;>simp[load,dc,mk,M.look,M.lift,bc,M.run,M.ok,hk,Bo.cs,Bo.enc,Xp.enc,E.enc,V.enc,Bo.nw]
theorem call203 {c:bR} {x:Xp} {b:Bool} (h:(c 203 [x.av] []).bind shut=some (.bI b)) (H:Hp):(fc c (.iv (.fn 203 [])) [.agg (x.enc.map .iv)]).run H=some (.bI b,H):=by
 refine qj (ys:=[x.av]) ?_ h rfl rfl;have:eu false (.agg (x.enc.map .iv)) = .ret x.av:=by
  unfold eu;simp only[];rw[zC false 7 x.enc x.dQ];rfl
 simp only[M.aN,this,M.bind,M.run]
theorem mS (hm:∀n,eM (c6 p1 p2 n)) {H h:Hp} {nx n:Nat} {r:AV} (e:Ev p1 p2 424 [] H nx (r,h,n)) (qs:List (Nat×Ob)) (hq:gv qs h):Ev p1 p2 424 [] (bu qs H) nx (r,bu qs h,n):=by
 obtain⟨K,hK⟩:=e;exact⟨K,λm c8=>(hm m _ _ _ _ _ _ _ (hK m c8)).2 qs hq⟩
theorem tz (bQ:cm p2) (hm:∀n,eM (c6 p1 p2 n)) (mE:p1 27=some al.qZ) (vC:p1 14=some al.vU) (h5:p1 5=some al.F5) (AW:p1 426=some al.w7) (AR:p1 169=some al.wY) (AS:p1 170=some al.wZ) (AT:p1 204=some al.w6) (I5:p1 203=some al.zQ) (L:jS p2)
  (ht:∃h n,2<=n/\Ev p1 p2 424 [] .nil 17 (.bI true,h,n)/\(∀i,i<68\/4*n<=i->get h i=none)/\∀c,c=n+2\/c=n+46->∃h2 n2,Ev p1 p2 424 [] h c (.bI true,h2,n2)/\∀i,i<68\/4*n<=i/\i<4*c->get h2 i=none)
  (o:Bo) (ho:o.ok):∃n p,c6 p1 p2 n 428 [.agg o.cs] .nil 1=some (.bI true,p):=by
 obtain⟨h,n,wa,e1,f1,e2⟩:=ht;obtain⟨KA,hA⟩:=mS hm e1 [(4,.cells o.cs)] (λp hp=>by simp at hp;subst hp;exact f1 4 (by omega));have Gc:∀m,KA<=m->c6 p1 p2 m 424 [] (au.set (Tr.nil:Hp) 4 (.cells o.cs)) 17=some (.bI true,au.set h 4 (.cells o.cs),n):=hA;obtain⟨KF,hF⟩:=Ed mE AR AS AT I5 ho.x;have k4:get (au.set h 4 (.cells o.cs)) 4=some (.cells o.cs):=aq _ _ _;have g4:∀i,4*n<=i->4<i->get (au.set h 4 (.cells o.cs)) i=none:=λi h1 h2=>by rw[bF _ _ (by omega)];exact f1 i (.inr h1)
 suffices hW:∃q,Wp p1 p2 xJ.body ⟨params [.agg o.cs] 0,.nil,1⟩ (Fin xJ.res (.bI true,q)) by
  obtain⟨q,hW⟩:=hW;obtain⟨M,hM⟩:=Ev.of bQ L.Ee rfl rfl hW;exact⟨M,q,hM M (Nat.le_refl M)⟩
 have AX:∀m,aQ (one p1 m) (c6 p1 p2 m) false [⟨some 1,.box 0 (.t 0),none,[]⟩,⟨some 2,.l9 (.c (.bI false)),none,[]⟩] [1] ⟨params [.agg o.cs] 0,.nil,1⟩=some ⟨[(1,.ref 4 0 0 0)],au.set (Tr.nil:Hp) 4 (.cells o.cs),3⟩:=by
  intro m;simp[aQ,aW,step,bK,dD,bn,bW,params,bc,M.run,M.ok,M.fresh,M.write,lM,ev,bV,bj,aP,aY]
 have jq:∀b,o.x.jq=b->∀m,KF<=m->(fc (one p1 m) (.iv (.fn 203 [])) [.agg (o.x.enc.map .iv)]).run (au.set h 4 (.cells o.cs))=some (.bI b,au.set h 4 (.cells o.cs)):=λb hb m hm=>hb▸call203 (hF m hm) _
 obtain⟨l1,l2,l3,l4,l5,l6⟩:=se o k4;cases hb:o.x.jq with
 |false=>
  obtain⟨h2,n2,e2,f2⟩:=e2 _ (.inl rfl);obtain⟨KB,hB⟩:=mS hm e2 [(4,.cells o.cs)] (λp hp=>by simp at hp;subst hp;exact f2 4 (by omega));have EJ:∀m,KB<=m->c6 p1 p2 m 424 [] (au.set h 4 (.cells o.cs)) (n+2)=some (.bI true,au.set h2 4 (.cells o.cs),n2):=hB;refine⟨(au.set h2 4 (.cells o.cs),n2),aS (bL (K:=0) (λm _=>AX m) (aS (aS ?_)))⟩;refine bL (K:=max KA KF) (s':=⟨[(1,.ref 4 0 0 0),(28,.bI true)],au.set h 4 (.cells o.cs),n⟩) (λm hm=>by
   have a1:=Gc m (by omega);have a2:=jq false hb m (by omega);simp[aQ,aW,step,bK,dD,bn,callee,cU,valid,bc,M.run,M.ok,M.look,M.lift,ev,bV,bj,k4,aP,aY,a1,un,l4,a2]) ?_
  refine bM (t:=true) rfl (gl (K:=KB) (s':=⟨[(2,.bI true)],au.set h2 4 (.cells o.cs),n2⟩) (λm hm=>by
   have a1:=EJ m (by omega);simp[aQ,aW,step,bK,dD,bn,callee,M.run,ev,bV,bj,aP,aY,a1]) ?_)
  exact cw ⟨rfl,rfl⟩
 |true=>
  obtain⟨b,KC,hC⟩:=EI (p1:=p1) bQ L mE vC h5 AW o ho (au.set h 4 (.cells o.cs)) n (g4 _ (Nat.le_refl _) (by omega));generalize EK:au.set (au.set h 4 (Ob.cells o.cs)) (4*n) (.cells (o.nw.map .iv))=H1 at hC;have k1:get H1 4=some (.cells o.cs):=by rw[<-EK,bF _ _ (by omega)];exact k4
  have g1:∀i,4*n<i->4<i->get H1 i=none:=λi h1 h2=>by rw[<-EK,bF _ _ (by omega)];exact g4 i (by omega) h2
  have EL:∀m,max KA (max KF KC)<=m->aQ (one p1 m) (c6 p1 p2 m) false [⟨some 15,.k6 (.c (.iv (.fn 424 []))) [],none,[]⟩,⟨some 16,.un .not (.t 15),none,[]⟩,⟨some 17,.l9 (.t 16),none,[]⟩,⟨some 18,.cU 4 (.t 1),some (17,false),[]⟩,
    ⟨some 19,.load true 7 (.t 18),some (17,false),[]⟩,⟨some 20,.call 0 (.c (.iv (.fn 203 []))) [.t 19],some (17,false),[]⟩,⟨some 21,.un .not (.t 20),some (17,false),[]⟩,⟨some 22,.pick (.t 17) (.c (.bI true)) (.t 21),none,[]⟩,⟨some 23,.l9 (.t 22),none,[]⟩,
    ⟨some 24,.cU 23 (.t 1),some (23,false),[]⟩,⟨some 25,.load true 17 (.t 24),some (23,false),[]⟩,⟨some 26,.k6 (.c (.iv (.fn 425 []))) [.t 25],some (23,false),[]⟩,⟨some 27,.un .not (.t 26),some (23,false),[]⟩,⟨some 28,.pick (.t 23) (.c (.bI true)) (.t 27),none,[]⟩] [1,28]
    ⟨[(1,.ref 4 0 0 0)],au.set (Tr.nil:Hp) 4 (.cells o.cs),3⟩=some ⟨[(1,.ref 4 0 0 0),(28,.bI (!b))],H1,n+44⟩:=by
   intro m hm;have a1:=Gc m (by omega);have a2:=jq true hb m (by omega);have a3:=hC m (by omega);simp[aQ,aW,step,bK,dD,bn,callee,cU,valid,bc,M.run,M.ok,M.look,M.lift,ev,bV,bj,k4,aP,aY,a1,un,l4,l6,a2,a3]
  cases b with
  |false=>
   obtain⟨h2,n2,e2,f2⟩:=e2 _ (.inr rfl);obtain⟨KB,hB⟩:=mS hm e2 [(4,.cells o.cs),(4*n,.cells (o.nw.map .iv))] (λp hp=>by
    simp at hp;rcases hp with rfl | rfl
    ·exact f2 4 (by omega)
    ·exact f2 _ (.inr ⟨Nat.le_refl _,by omega⟩))
   have EJ:∀m,KB<=m->c6 p1 p2 m 424 [] H1 (n+46)=some (.bI true,au.set (au.set h2 4 (.cells o.cs)) (4*n) (.cells (o.nw.map .iv)),n2):=by rw[<-EK];exact hB
   refine⟨(au.set (au.set h2 4 (.cells o.cs)) (4*n) (.cells (o.nw.map .iv)),n2),aS (bL (K:=0) (λm _=>AX m) (aS (aS ?_)))⟩;refine bL (K:=max KA (max KF KC)) (s':=⟨[(1,.ref 4 0 0 0),(28,.bI true)],H1,n+44⟩) (λm hm=>EL m hm) ?_;refine bM (t:=true) rfl (gl (K:=KB) (s':=⟨[(2,.bI true)],au.set (au.set h2 4 (.cells o.cs)) (4*n) (.cells (o.nw.map .iv)),n2⟩) (λm hm=>by
    have a1:=EJ m (by omega);simp[aQ,aW,step,bK,dD,bn,callee,M.run,ev,bV,bj,aP,aY,a1]) ?_)
   exact cw ⟨rfl,rfl⟩
  |true=>
   obtain⟨q1,q2,q3,q4,q5,q6⟩:=se o k1;obtain⟨K1,h1⟩:=ED (p1:=p1) bQ L H1 (n+44+1+13) (.nI o.c) (o.x.enc.map .iv) (g1 _ (by omega) (by omega));generalize Gd:au.set H1 (4*(n+44+1+13)) (.cells (o.x.enc.map .iv))=H2 at h1;have k2:get H2 4=some (.cells o.cs):=by rw[<-Gd,bF _ _ (by omega)];exact k1
   have g2:∀i,4*(n+58)<i->4<i->get H2 i=none:=λi h1 h2=>by rw[<-Gd,bF _ _ (by omega)];exact g1 i (by omega) h2
   obtain⟨K2,h2⟩:=EE (p1:=p1) bQ L H2 (n+82+11) (.nI o.c) (.nI o.s);obtain⟨r1,r2,r3,r4,r5,r6⟩:=se o k2;have he:o.e.enc.length=12:=rfl;have pa:gn [AV.iv (IV.int IntKind.i64 0),AV.iv (IV.int IntKind.i64 0),AV.iv (IV.int IntKind.i64 0),AV.iv (IV.int IntKind.i64 0),AV.iv (IV.str { data:=#[] }),AV.iv (IV.int IntKind.i64 0),AV.iv (IV.int IntKind.i64 0),AV.iv (IV.str { data:=#[] }),AV.iv (IV.int IntKind.i64 0),AV.iv (IV.int IntKind.i64 0),AV.iv (IV.str { data:=#[] }),AV.iv (IV.int IntKind.i64 0),AV.iv (IV.int IntKind.i64 0),AV.iv (IV.str { data:=#[] })] [(1,[AV.iv (.int .i64 o.c)]),(2,o.e.enc.map .iv)] = .nI 0::.nI o.c::o.e.enc.map .iv:=rfl
   obtain⟨K3,h3⟩:=EF (p1:=p1) bQ L H2 (n+114+14) (.nI 0) (.nI o.c) (o.e.enc.map .iv) (g2 _ (by omega) (by omega));generalize Ge:au.set H2 (4*(n+114+14)) (.cells (.nI 0::.nI o.c::o.e.enc.map .iv))=H3 at h3;have k3:get H3 4=some (.cells o.cs):=by rw[<-Ge,bF _ _ (by omega)];exact k2
   have g3:∀i,4*(n+128)<i->4<i->get H3 i=none:=λi h1 h2=>by rw[<-Ge,bF _ _ (by omega)];exact g2 i (by omega) h2
   obtain⟨s1,s2,s3,s4,s5,s6⟩:=se o k3;obtain⟨K4,h4⟩:=EG (p1:=p1) bQ L H3 (n+152+13) (.nI o.f) (o.nw.map .iv) (g3 _ (by omega) (by omega));generalize KL:au.set H3 (4*(n+152+13)) (.cells (o.nw.map .iv))=H4 at h4;have k5:get H4 4=some (.cells o.cs):=by rw[<-KL,bF _ _ (by omega)];exact k3
   obtain⟨u1,u2,u3, -, -, -⟩:=se o k5;generalize hN:n+174+52=N;obtain⟨K5,h5⟩:=Eu (p1:=p1) bQ L H4 N (.nI o.f);obtain⟨K6,h6⟩:=Ew (p1:=p1) bQ L H4 (N+4) (.nI o.f);obtain⟨K7,h7⟩:=EB (p1:=p1) bQ L H4 (N+4+4) (.nI o.c);obtain⟨K8,h8⟩:=EC (p1:=p1) bQ L H4 (N+4+4+22) (.nI o.c);obtain⟨K9,h9⟩:=Ey (p1:=p1) bQ L H4 (N+4+4+22+22);refine⟨(H4,N+4+4+22+22+4),aS (bL (K:=0) (λm _=>AX m) (aS (aS ?_)))⟩;refine bL (K:=max KA (max KF KC)) (s':=⟨[(1,.ref 4 0 0 0),(28,.bI false)],H1,n+44⟩) (λm hm=>EL m hm) ?_;refine bM (t:=false) rfl (db (aS ?_));refine bL (K:=0) (s':=⟨[(1,.ref 4 0 0 0),(3,.iv .bh)],H1,n+44+1⟩) (λm _=>rfl) (aS ?_)
   refine bL (K:=K1) (s':=⟨[(1,.ref 4 0 0 0),(3,.iv .bh),(6,.nI 7)],H2,n+82⟩) (λm hm=>by
    have a1:=h1 m hm;simp[aQ,aW,step,bK,dD,bn,callee,cU,valid,bc,M.run,M.ok,M.look,M.lift,ev,bV,bj,k1,aP,aY,q1,q4,a1]) (aS ?_)
   refine bL (K:=K2) (s':=⟨[(1,.ref 4 0 0 0),(3,.iv .bh),(6,.nI 7),(8,.nI 7)],H2,n+114⟩) (λm hm=>by
    have a1:=h2 m hm;simp[aQ,aW,step,bK,dD,bn,callee,cU,valid,bc,M.run,M.ok,M.look,M.lift,ev,bV,bj,k2,aP,aY,r1,r2,a1]) (aS ?_)
   refine bL (K:=K3) (s':=⟨[(1,.ref 4 0 0 0),(3,.iv .bh),(6,.nI 7),(8,.nI 7),(11,.nI 7)],H3,n+152⟩) (λm hm=>by
    have a1:=h3 m hm;simp[aQ,aW,step,bK,dD,bn,callee,cU,valid,bW,M.aN,he,pa,bc,M.run,M.ok,M.look,M.lift,ev,bV,bj,k2,aP,aY,r1,r5,a1]) (aS ?_)
   refine bL (K:=K4) (s':=⟨[(1,.ref 4 0 0 0),(3,.iv .bh),(6,.nI 7),(8,.nI 7),(11,.nI 7),(14,.nI 7)],H4,n+174⟩) (λm hm=>by
    have a1:=h4 m hm;simp[aQ,aW,step,bK,dD,bn,callee,cU,valid,bc,M.run,M.ok,M.look,M.lift,ev,bV,bj,k3,aP,aY,s3,s6,a1]) (gl (K:=max (max K5 K6) (max (max K7 K8) K9)) (s':=⟨[(2,.bI true)],H4,N+4+4+22+22+4⟩) (λm hm=>by
    have a5:=h5 m (by omega);have a6:=h6 m (by omega);have a7:=h7 m (by omega);have a8:=h8 m (by omega);have a9:=h9 m (by omega);simp[aQ,aW,step,bK,dD,bn,callee,cU,valid,o7,bin,dZ,len,bc,M.run,M.ok,M.look,M.lift,ev,bV,bj,k5,aP,aY,u1,u3,hN,a5,a6,a7,a8,a9,show IntKind.i64.wrap 0=0 by decide]) ?_)
   exact cw ⟨rfl,rfl⟩
end
def tI (x:IV):Prop:=∃sub:List Xp,x = .sl 7 (sub.map Xp.enc)/\sub.length<=maxLen/\∀y ∈ sub,y.ok
theorem dR {k:IntKind} {x:IV} (h:Fit (.int k) x):∃n,x = .int k n/\(Lit.int k n).wf=true:=by cases h;exact⟨_,rfl,by assumption⟩
theorem wB {x:IV} (h:Fit .str x):∃s,x = .str s/\s.size<=maxLen:=by cases h;exact⟨_,rfl,by assumption⟩
theorem qR {x:IV} (h:Fit .bool x):∃s,x = .bool s:=by cases h;exact⟨_,rfl⟩
theorem pz {es:List Sh} {x:IV} (h:Fit (.sl es) x):∃rows,x = .sl es.length rows/\rows.length<=maxLen/\∀r ∈ rows,bD es r:=by cases h;exact⟨_,rfl,by assumption,by assumption⟩
theorem bD.one {a:Sh} {ss:List Sh} {xs:List IV} (h:bD (a::ss) xs):∃x r,xs=x::r/\Fit a x/\bD ss r:=by cases h;exact⟨_,_,rfl,by assumption,by assumption⟩
theorem bD.none {xs:List IV} (h:bD [] xs):xs=[]:=by cases h;rfl
theorem bD.split:∀{ss ts:List Sh} {xs:List IV},bD (ss++ts) xs->∃a b,xs=a++b/\bD ss a/\bD ts b
 |[],_,xs,h=>⟨[],xs,rfl,.nil,h⟩
 |_::_,_,_,.cons h hs=>by
  obtain⟨a,b,rfl,ha,hb⟩:=bD.split hs;exact⟨_::a,b,rfl,.cons h ha,hb⟩
def sf:List Sh:=[.bool,.sl [.int .i64,.int .i64],.bool,.sl [.str]]
def sg:List Sh:=[.int .i64,.int .i64,.str]
def sY:List Sh:=sg++(sg++(sg++sg))
theorem B5 {r:List IV} (h:bD [.int .i64,.int .i64] r):∃p,r=tu p/\(eZ p.1/\eZ p.2):=by
 obtain⟨x,r,rfl,hx,h⟩:=h.one;obtain⟨y,r,rfl,hy,h⟩:=h.one;obtain rfl:=h.none;obtain⟨n,rfl,hn⟩:=dR hx;obtain⟨m,rfl,hm⟩:=dR hy;exact⟨(n,m),rfl,qO hn,qO hm⟩
theorem B6 {r:List IV} (h:bD [.str] r):∃p,r=st1 p/\p.size<=maxLen:=by
 obtain⟨x,r,rfl,hx,h⟩:=h.one;obtain rfl:=h.none;obtain⟨n,rfl,hn⟩:=wB hx;exact⟨n,rfl,hn⟩
theorem ny {xs:List IV} (h:bD sf xs):∃s:S,xs=s.enc/\s.ok:=by
 obtain⟨a,_,rfl,ha,h⟩:=h.one;obtain⟨b,_,rfl,hb,h⟩:=h.one;obtain⟨c,_,rfl,hc,h⟩:=h.one;obtain⟨d,_,rfl,hd,h⟩:=h.one;obtain rfl:=h.none;obtain⟨va,rfl⟩:=qR ha;obtain⟨vc,rfl⟩:=qR hc;obtain⟨rows,rfl,kz,ub⟩:=pz hb;obtain⟨strs,rfl,oe,mZ⟩:=pz hd;obtain⟨l,rfl,hl⟩:=nY tu (λp=>eZ p.1/\eZ p.2) rows λr hr=>B5 (ub r hr)
 obtain⟨t,rfl,ht⟩:=nY st1 (λp=>p.size<=maxLen) strs λr hr=>B6 (mZ r hr)
 exact⟨⟨va,l,vc,t⟩,rfl,by rwa [List.length_map]at kz,by rwa [List.length_map]at oe,hl,ht⟩
theorem zE {r:List IV} (h:bD hZ r) (hs:∃x,r[6]?=some x/\tI x):∃X:Xp,r=X.enc/\X.ok:=by
 obtain⟨k,_,rfl,hk,h⟩:=bD.one h;obtain⟨a,_,rfl,ha,h⟩:=bD.one h;obtain⟨c1,_,rfl,h1,h⟩:=bD.one h;obtain⟨c2,_,rfl,h2,h⟩:=bD.one h;obtain⟨c3,_,rfl,h3,h⟩:=bD.one h;obtain⟨c4,_,rfl,h4,h⟩:=bD.one h;obtain⟨c5,_,rfl,h5,h⟩:=bD.one h;obtain rfl:=bD.none h;obtain⟨k,rfl,BC⟩:=dR hk;obtain⟨a,rfl,Dh⟩:=dR ha;obtain⟨x,hx,sub,rfl,hl,bt⟩:=hs;simp at hx;subst hx;obtain⟨s,hs,I6⟩:=ny (.cons h1 (.cons h2 (.cons h3 (.cons h4 .nil))));refine⟨.mk k a s sub,?_,.mk (qO BC) (qO Dh) I6 hl bt⟩;simp only[S.enc,List.cons.injEq,and_true]at hs;obtain⟨rfl,rfl,rfl,rfl⟩:=hs;simp[Xp.enc,Xp.qP]
theorem xN {s:Sh} {x:IV} (h:Fit s x):s = .ex->tI x:=by
 refine Fit.rec (motive_1:=λs x _=>s=Sh.ex->tI x) (motive_2:=λss xs _=>∀i:Nat,ss[i]?=some Sh.ex->∃x,xs[i]?=some x/\tI x) ?_ ?_ ?_ ?_ ?_ ?_ ?_ h
 ·intro b h;cases h
 ·intro k n hw h;cases h
 ·intro s hs h;cases h
 ·intro es rows hl hr ih h;cases h
 ·intro rows hl hr ih _;obtain⟨sub,rfl,bt⟩:=nY Xp.enc Xp.ok rows λr fW=>zE (hr r fW) (ih r fW 6 rfl)
  exact⟨sub,rfl,by rwa [List.length_map]at hl,bt⟩
 ·intro i hi;simp at hi
 ·intro s ss x xs h hs KM KN i hi;cases i with
  |zero=>
   simp at hi;exact⟨x,rfl,KM hi⟩
  |succ i=>exact KN i (by simpa using hi)
theorem B7 {r:List IV} (h:bD hZ r):∃X:Xp,r=X.enc/\X.ok:=by
 refine zE h ?_;obtain⟨_,_,rfl,_,h⟩:=bD.one h;obtain⟨_,_,rfl,_,h⟩:=bD.one h;obtain⟨_,_,rfl,_,h⟩:=bD.one h;obtain⟨_,_,rfl,_,h⟩:=bD.one h;obtain⟨_,_,rfl,_,h⟩:=bD.one h;obtain⟨_,_,rfl,_,h⟩:=bD.one h;obtain⟨x,_,rfl,h6,h⟩:=bD.one h;exact⟨x,rfl,xN h6 rfl⟩
theorem pS {xs:List IV} (h:bD sg xs):∃v:V,xs=v.enc/\(eZ v.k/\eZ v.n/\v.s.size<=maxLen):=by
 obtain⟨a,_,rfl,ha,h⟩:=h.one;obtain⟨b,_,rfl,hb,h⟩:=h.one;obtain⟨c,_,rfl,hc,h⟩:=h.one;obtain rfl:=h.none;obtain⟨k,rfl,hk⟩:=dR ha;obtain⟨n,rfl,hn⟩:=dR hb;obtain⟨s,rfl,hs⟩:=wB hc;exact⟨⟨k,n,s⟩,rfl,qO hk,qO hn,hs⟩
theorem zF {xs:List IV} (h:bD sY xs):∃e:E,xs=e.enc/\∀i,i<4->eZ (e.get i).k/\eZ (e.get i).n/\(e.get i).s.size<=maxLen:=by
 obtain⟨_,r1,rfl,h0,h⟩:=bD.split h;obtain⟨_,r2,rfl,h1,h⟩:=bD.split h;obtain⟨_,_,rfl,h2,h3⟩:=bD.split h;obtain⟨v0,rfl,k0⟩:=pS h0;obtain⟨v1,rfl,k1⟩:=pS h1;obtain⟨v2,rfl,k2⟩:=pS h2;obtain⟨v3,rfl,k3⟩:=pS h3;refine⟨⟨v0,v1,v2,v3⟩,rfl,λi hi=>?_⟩
 match i,hi with
 |0,_=>exact k0
 |1,_=>exact k1
 |2,_=>exact k2
 |3,_=>exact k3
theorem B8 {r:List IV} (h:bD [.int .i64] r):∃n:Int,r=AQ n/\eZ n:=by
 obtain⟨x,r,rfl,hx,h⟩:=h.one;obtain rfl:=h.none;obtain⟨n,rfl,hn⟩:=dR hx;exact⟨n,rfl,qO hn⟩
def xO:List Sh:=sf++(sf++(sf++sf))
def EM:List Sh:=[.int .i64,.sl xO,.int .u64]
def xP:List Sh:=[.bool,.sl EM,.sl [.int .i64],.int .i64,.int .i64]++sY
def xQ:List Sh:=[.int .i64,.int .i64,.int .i64,.int .i64]++(hZ++(sY++xP))
theorem pT {α:Type} {enc:α->List IV} {ok:α->Prop} {ss:List Sh} (hf:∀r,bD ss r->∃a,r=enc a/\ok a):∀l:List (List IV),(∀r ∈ l,bD ss r)->∃q:List α,l=q.map enc/\∀a ∈ q,ok a
 |[],_=>⟨[],rfl,λa h=>by cases h⟩
 |r::l,h=>by
  obtain⟨a,rfl,ha⟩:=hf r (h r (List.mem_cons_self ..));obtain⟨q,rfl,hq⟩:=pT hf l λr hr=>h r (List.mem_cons_of_mem _ hr)
  refine⟨a::q,rfl,λb hb=>?_⟩;rcases List.mem_cons.1 hb with rfl | hb
  ·exact ha
  ·exact hq b hb
theorem B9 {xs:List IV} (h:bD xO xs):∃b:B,xs=b.enc/\b.ok:=by
 obtain⟨_,_,rfl,h0,h⟩:=bD.split h;obtain⟨_,_,rfl,h1,h⟩:=bD.split h;obtain⟨_,_,rfl,h2,h3⟩:=bD.split h;obtain⟨s0,rfl,k0⟩:=ny h0;obtain⟨s1,rfl,k1⟩:=ny h1;obtain⟨s2,rfl,k2⟩:=ny h2;obtain⟨s3,rfl,k3⟩:=ny h3;exact⟨⟨s0,s1,s2,s3⟩,rfl,k0,k1,k2,k3⟩
theorem AY {x:IV} (h:Fit (.sl xO) x):∃f:List B,x = .sl 16 (f.map B.enc)/\f.length<=maxLen/\∀b ∈ f,b.ok:=by
 obtain⟨rows,rfl,hl,hr⟩:=pz h;obtain⟨q,rfl,hq⟩:=pT (λr hr=>B9 hr) rows hr;exact⟨q,rfl,by rwa [List.length_map]at hl,hq⟩
theorem EN {xs:List IV} (h:bD EM xs):∃e:En,xs=e.enc/\e.f.length<=maxLen:=by
 obtain⟨a,_,rfl,ha,h⟩:=h.one;obtain⟨b,_,rfl,hb,h⟩:=h.one;obtain⟨c,_,rfl,hc,h⟩:=h.one;obtain rfl:=h.none;obtain⟨i,rfl, -⟩:=dR ha;obtain⟨s,rfl, -⟩:=dR hc;obtain⟨f,rfl,hf, -⟩:=AY hb;exact⟨⟨i,f,s⟩,rfl,hf⟩
theorem EO {xs:List IV} (h:bD xQ xs):∃o:Bo,xs=o.enc/\o.ok:=by
 obtain⟨a,_,rfl,ha,h⟩:=bD.one h;obtain⟨b,_,rfl,hb,h⟩:=bD.one h;obtain⟨c,_,rfl,hc,h⟩:=bD.one h;obtain⟨d,_,rfl,hd,h⟩:=bD.one h;obtain⟨x,_,rfl,hx,h⟩:=bD.split (ss:=hZ) (ts:=sY++xP) h;obtain⟨v,_,rfl,hv,h⟩:=bD.split (ss:=sY) (ts:=xP) h;obtain⟨p,_,rfl,hp,h⟩:=bD.one h;obtain⟨q,_,rfl,hq,h⟩:=bD.one h;obtain⟨r,_,rfl,hr,h⟩:=bD.one h;obtain⟨s,_,rfl,hs,h⟩:=bD.one h;obtain⟨t,_,rfl,ht,h9⟩:=bD.one h;obtain⟨a,rfl, -⟩:=dR ha;obtain⟨b,rfl, -⟩:=dR hb;obtain⟨c,rfl, -⟩:=dR hc;obtain⟨d,rfl, -⟩:=dR hd;obtain⟨X,rfl,hX⟩:=B7 hx;obtain⟨E,rfl, -⟩:=zF hv;obtain⟨p,rfl⟩:=qR hp
 obtain⟨s,rfl, -⟩:=dR hs;obtain⟨t,rfl, -⟩:=dR ht;obtain⟨E2,rfl,KO⟩:=zF (show bD sY _ from h9);obtain⟨r1,rfl,Bv,kz⟩:=pz hq;obtain⟨r2,rfl,kU,ub⟩:=pz hr;obtain⟨U,rfl,has⟩:=pT (λr hr=>EN hr) r1 kz;obtain⟨rs,rfl, -⟩:=pT (enc:=λn=>[IV.int .i64 n]) (ok:=eZ) (λr hr=>B8 hr) r2 ub;rw[List.length_map]at Bv kU;exact⟨⟨a,b,c,d,X,E,p,U,rs,s,t,E2⟩,rfl,⟨hX,Bv,has,kU,λi hi=>(KO i hi).2.2⟩⟩
theorem EP {x:AV} (h:xD true xQ x):∃o:Bo,x = .agg o.cs/\o.ok:=by
 obtain⟨xs,h,rfl⟩:=h;obtain⟨o,rfl,ho⟩:=EO h;exact⟨o,rfl,ho⟩
end au
namespace au
open Go al
structure gK where
 f:Nat
 U:List AV
 h:Hp
 nx:Nat
 v:AV
 h':Hp
 n:Nat
def BD (os:List gK) (f:Nat):Prim.pQ:=λ_ _ args hp nx=>match os.find? λo=>o.f==f&&o.nx==nx with
 |some o=>if kb args o.U&&sc hp o.h then some (o.v,o.h',o.n) else none
 |none=>none
def nz (p2:Nat->Option an) (os:List gK) (f:Nat):Option an:=if os.any λo=>o.f==f then some { np:=0,res:=[],body:=.skip,gF:=some (BD os f) } else p2 f
def pA (p1:Nat->Option al.an) (p2:Nat->Option an) (os:List gK) (K:Nat) (o:gK):Bool:=match bg (one p1 K) (nz p2 os) K o.f o.U o.h o.nx with
 |some (v,h,n)=>jK v o.v&&(sc h o.h'&&n==o.n)
 |none=>false
def sh (p1:Nat->Option al.an) (p2:Nat->Option an) (os:List gK) (K g nx n:Nat):Bool:=match bg (one p1 K) (nz p2 os) K g [] .nil nx with
 |some (.iv (.bool true),h,m)=>m==n&&sc (bu (zD h) .nil) h&&(zD h).all λp=>decide (4*nx<=p.1/\p.1<4*n)
 |_=>false
section
variable {p1:Nat->Option al.an} {p2:Nat->Option an}
def vH (p1:Nat->Option al.an) (p2:Nat->Option an) (o:gK):Prop:=Ev p1 p2 o.f o.U o.h o.nx (o.v,o.h',o.n)
theorem AZ {os:List gK} (h:∀o ∈ os,vH p1 p2 o):∃M,∀o ∈ os,c6 p1 p2 M o.f o.U o.h o.nx=some (o.v,o.h',o.n)/\∀m,M<=m->c6 p1 p2 m o.f o.U o.h o.nx=some (o.v,o.h',o.n):=by
 induction os with
 |nil=>exact⟨0,λo ho=>by cases ho⟩
 |cons a os ih=>
  obtain⟨M,hM⟩:=ih λo ho=>h o (List.mem_cons_of_mem _ ho)
  obtain⟨K,hK⟩:=h a (List.mem_cons_self ..);refine⟨max M K,λo ho=>?_⟩;rcases List.mem_cons.1 ho with rfl | ho
  ·exact⟨hK _ (by omega),λm hm=>hK _ (by omega)⟩
  ·exact⟨(hM o ho).2 _ (by omega),λm hm=>(hM o ho).2 _ (by omega)⟩
theorem BE (bQ:cm p2) {os:List gK} (na:∀o ∈ os,vH p1 p2 o) {K f:Nat} {args:List AV} {h:Hp} {nx:Nat} {r:AV×Hp×Nat} (e:bg (one p1 K) (nz p2 os) K f args h nx=some r):Ev p1 p2 f args h nx r:=by
 obtain⟨M0,KP⟩:=AZ na;obtain⟨M,hM⟩:∃M,M=max M0 K:=⟨_,rfl⟩;have key:∀n,pf (bg (one p1 K) (nz p2 os) n) (bg (one p1 M) p2 (n+M)):=by
  intro n
  induction n with
  |zero=>intro f U hp nx p e;simp[bg]at e
  |succ n ih=>
   intro f U h nx p e;simp only[bg]at e;unfold nz at e;by_cases hk:(os.any λo=>o.f==f)=true
   ·rw[if_pos hk]at e;simp only[BD]at e;split at e
    case h_2=>cases e
    rename_i o ho;split at e
    case isFalse=>cases e
    rename_i hc;simp only[Bool.and_eq_true]at hc;simp only[Option.some.injEq]at e;subst e;have h1:=List.find?_some ho;have h2:=List.mem_of_find?_eq_some ho;simp only[Bool.and_eq_true,beq_iff_eq]at h1;rw[jk hc.1,px hc.2,<-h1.1,<-h1.2];have:=(KP o h2).2 M (by omega);exact kN bQ (one_le (Nat.le_refl M)) M (n+1+M) (by omega) _ _ _ _ _ this
   ·rw[if_neg hk]at e;rw[show n+1+M=(n+M)+1 by omega];simp only[bg];cases hf:p2 f with
    |none=>rw[hf]at e;cases e
    |some fn=>
     rw[hf]at e;simp only[]at e ⊢;have hc:mQ (one p1 K) (one p1 M):=one_le (by omega);cases cR:fn.gF with
     |some q=>rw[cR]at e;exact bQ f fn q hf cR _ _ _ _ hc ih _ _ _ _ e
     |none=>
      rw[cR]at e;simp only[]at e ⊢;split at e
      ·rename_i hl;rw[if_pos hl];cases h1:aD (one p1 K) (bg (one p1 K) (nz p2 os) n) n fn.body ⟨params U 0,h,nx⟩with
       |none=>rw[show(aD (one p1 K) (bg (one p1 K) (λf=>if(os.any λo=>o.f==f)=true then some { np:=0,res:=[],body:=.skip,gF:=some (BD os f) } else p2 f) n) n fn.body ⟨params U 0,h,nx⟩)=none from h1]at e;cases e
       |some q=>
        rw[show(aD (one p1 K) (bg (one p1 K) (λf=>if(os.any λo=>o.f==f)=true then some { np:=0,res:=[],body:=.skip,gF:=some (BD os f) } else p2 f) n) n fn.body ⟨params U 0,h,nx⟩)=some q from h1]at e;rw[lf hc ih (by omega) _ _ _ h1];exact e
      ·cases e
 refine⟨K+M,λm hm=>?_⟩;exact kN bQ (one_le (show M<=m by omega)) (K+M) m hm _ _ _ _ _ (key K _ _ _ _ _ e)
theorem jT (bQ:cm p2) {os:List gK} (na:∀o ∈ os,vH p1 p2 o) {K:Nat} {o:gK} (h:pA p1 p2 os K o=true):vH p1 p2 o:=by
 unfold pA at h;split at h
 case h_2=>cases h
 rename_i v h' n e;simp only[Bool.and_eq_true,beq_iff_eq]at h;rw[rJ h.1,px h.2.1,h.2.2]at e;exact BE bQ na e
theorem qS (bQ:cm p2) {os:List gK} (na:∀o ∈ os,vH p1 p2 o) {K g nx n:Nat} (h:sh p1 p2 os K g nx n=true):∃L,Ev p1 p2 g [] .nil nx (.bI true,bu L .nil,n)/\∀p ∈ L,4*nx<=p.1/\p.1<4*n:=by
 unfold sh at h;split at h
 case h_2=>cases h
 rename_i h' m e;simp only[Bool.and_eq_true,beq_iff_eq,List.all_eq_true,decide_eq_true_eq]at h;refine⟨zD h',?_,h.2⟩;rw[px h.1.2,<-h.1.1];exact BE bQ na e
end
end au
namespace au
open Go al
section
variable {p1:Nat->Option al.an} {p2:Nat->Option an}
theorem vI {g:Nat} (hm:∀n,eM (c6 p1 p2 n)) {a b c d:Nat} {L L2:List (Nat×Ob)} (h':Ev p1 p2 g [] .nil c (.bI true,bu L2 .nil,d))
  (hL:∀p ∈ L,4*a<=p.1/\p.1<4*b) (wA:∀p ∈ L2,4*c<=p.1/\p.1<4*d) (LB:a<=b) (F9:b<=c):Ev p1 p2 g [] (bu L .nil) c (.bI true,bu L (bu L2 .nil),d)/\∀i,i<4*a\/4*b<=i/\i<4*c->get (bu L (bu L2 .nil)) i=none:=by
 refine⟨?_,λi hi=>?_⟩
 ·obtain⟨K,hK⟩:=h';exact⟨K,λm c8=>AU hm (hK m c8) hL wA F9⟩
 ·rw[gA λp hp=>?_,qk λp hp=>?_]
  ·have:=wA p hp;omega
  ·have:=hL p hp;omega
end
end au

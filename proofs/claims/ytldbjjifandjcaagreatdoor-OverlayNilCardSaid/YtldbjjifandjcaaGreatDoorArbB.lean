/-
  A part of the proof: two abstract machines for the code, and what the program does on them. No condition.
-/
import Derived.Test.YtldbjjifandjcaaGreatDoorArbA
set_option linter.all false
namespace ao
open Go Go.RowKit
theorem fB:∀{ids:List Nat} {id i:Nat},place ids id=some i->ids[i]?=some id:=by
 intro ids
 induction ids with
 |nil=>intro id i h;simp[place]at h
 |cons x ids ih=>
  intro id i h;simp only[place]at h;split at h
  ·rename_i hx;cases h;simp[hx]
  ·simp only[Option.map_eq_some_iff]at h;obtain⟨j,hj,rfl⟩:=h;simpa using ih hj
theorem rn:∀{ids:List Nat} {id:Nat},place ids id=none->∀i:Nat,ids[i]?≠some id:=by
 intro ids
 induction ids with
 |nil=>intro id _ i h;simp at h
 |cons x ids ih=>
  intro id h i hi;simp only[place]at h;split at h
  ·cases h
  ·rename_i hx;cases i with
   |zero=>simp at hi;exact hx hi
   |succ i=>exact ih (by simpa using h) i (by simpa using hi)
theorem mF:∀{ids:List Nat},fm ids=true->∀{i id:Nat},ids[i]?=some id->place ids id=some i:=by
 intro ids
 induction ids with
 |nil=>intro _ i id h;simp at h
 |cons x ids ih=>
  intro hn i id h;simp only[fm,Bool.and_eq_true,Bool.not_eq_true',List.contains_eq_mem,decide_eq_false_iff_not]at hn;simp only[place];cases i with
  |zero=>simp at h;rw[if_pos h]
  |succ i=>
   have h':ids[i]?=some id:=by simpa using h
   rw[if_neg (λe:x=id=>hn.1 (by rw[e];exact List.mem_of_getElem? h')),ih hn.2 h'];rfl
theorem kg {α:Type}:∀(l:List α) (s i:Nat),get (cL l s) i=if s<=i then l[i - s]? else none:=by
 intro l
 induction l with
 |nil=>intro s i;simp[cL,get]
 |cons x l ih=>
  intro s i;simp only[cL,get,ih];by_cases h:s=i
  ·subst h;simp
  ·rw[if_neg h];by_cases h':s<=i
   ·rw[if_pos (by omega),if_pos h',show i - s=(i - (s+1))+1 by omega];simp
   ·rw[if_neg (by omega),if_neg h']
section
variable {ν:Nat->Nat} {P:Program} {k:Cx} {g:Gh}
inductive sA (ν:Nat->Nat) (g:Gh) (ids:List Nat) (v:Value):AV->Prop
 |own {id i o n ai:Nat} (h1:v.oneCell'=true) (h:aE g v id o n ai) (hi:place ids id=some i):sA ν g ids v (.own i o n ai)
 |ref {id p ai i j:Nat} (h1:v.oneCell'=true) (h:aG g v id ai i j) (hp:place ids id=some p):sA ν g ids v (.ref p ai i j)
 |shut {x:AV} (h:jO ν g.I g.w v x):sA ν g ids v x
theorem yu {ids:List Nat}:∀(U:List AV) (k:Cx) (g:Gh) (ys:List AV) (h':Hp),(M.aJ (Az ids) U).run g.h=some (ys,h')->Rel ν k g->∀vs:List Value,RL ν g vs U->
  ∃I',cj ν k g h' I'/\ys.length=vs.length/\∀(j:Nat) (v:Value) (y:AV),vs[j]?=some v->ys[j]?=some y->sA ν { g with I:=I',h:=h' } ids v y:=by
 intro U
 induction U with
 |nil=>
  intro k g ys h' e r vs hv;obtain⟨rfl,rfl⟩:=b7 e;have:vs=[]:=List.eq_nil_of_length_eq_zero hv.1;subst this;exact⟨g.I,.refl r,rfl,λj v y h=>by simp at h⟩
 |cons a U ih=>
  intro k g ys h' e r vs hv;cases vs with
  |nil=>have:=hv.1;simp at this
  |cons v vs=>
   obtain⟨y,h1,zs,e1,e2,rfl⟩:=bR e;have key:∃I1,cj ν k g h1 I1/\∀(g2:Gh),aV ν { g with I:=I1,h:=h1 } g2->(∀v x,RI ν I1 g.w v x->RI ν g2.I g2.w v x)->sA ν g2 ids v y:=by
    have ha:=hv.tail.1;have plain:∀{a:AV},(ek true a).run g.h=some (y,h1)->RA ν g v a->∃I1,cj ν k g h1 I1/\∀(g2:Gh),aV ν { g with I:=I1,h:=h1 } g2->(∀v x,RI ν I1 g.w v x->RI ν g2.I g2.w v x)->sA ν g2 ids v y:=by
     intro a e ha;obtain⟨I1,f1,hR⟩:=lA r e ha;exact⟨I1,f1,λg2 _ cp=>.shut (hR.mono cp)⟩
    cases a with
    |own id o n ai=>
     obtain⟨i,hi,e4⟩:=M.lift_bind e1;obtain⟨rfl,rfl⟩:=af e4;refine⟨g.I,.refl r,λg2 hm _=>?_⟩;have:=hm _ _ ha;cases this with
     |own h1 h=>exact .own h1 h hi
    |ref id ai i j=>
     obtain⟨p,hi,e4⟩:=M.lift_bind e1;obtain⟨rfl,rfl⟩:=af e4;refine⟨g.I,.refl r,λg2 hm _=>?_⟩;have:=hm _ _ ha;cases this with
     |ref h1 h=>exact .ref h1 h hi
    |undef=>exact plain (a:=.undef) e1 ha
    |iv x=>exact plain (a:=(.iv x)) e1 ha
    |agg cs=>exact plain (a:=(.agg cs)) e1 ha
    |aR vs=>exact plain (a:=(.aR vs)) e1 ha
    |bp f ax=>exact plain (a:=(.bp f ax)) e1 ha
   obtain⟨I1,f1,hS⟩:=key;obtain⟨I2,f2,hl,hR⟩:=ih k _ zs h' e2 f1.rel vs (hv.tail.2.mono f1.mono);refine⟨I2,f1.trans f2,by simp[hl],λj v' y' h1 h2=>?_⟩;cases j with
   |zero=>simp at h1 h2;subst h1 h2;exact hS _ f2.mono λv x h=>h.mono f2.sub λ_ _ _ _ h=>h
   |succ j=>exact hR j v' y' (by simpa using h1) (by simpa using h2)
theorem wZ:∀(ids:List Nat) (os:List Ob) (h h':Hp),(M.aJ (λid=>(M.look id).bind λo=>(M.ok (om o)).bind λ_=>M.ret o) ids).run h=some (os,h')->
  h'=h/\os.length=ids.length/\∀(i id:Nat),ids[i]?=some id->∃v e es,os[i]?=some (.buf v e es)/\get h id=some (.buf v e es):=by
 intro ids
 induction ids with
 |nil=>
  intro os h h' e;obtain⟨rfl,rfl⟩:=b7 e;exact⟨rfl,rfl,λi id h=>by simp at h⟩
 |cons x ids ih=>
  intro os h h' e;obtain⟨y,h1,zs,e1,e2,rfl⟩:=bR e;obtain⟨o,hg,e4⟩:=M.aM e1;obtain⟨bx,e6⟩:=M.aj e4;obtain⟨rfl,rfl⟩:=af e6;obtain⟨rfl,hl,hr⟩:=ih zs _ _ e2;refine⟨rfl,by simp[hl],λi id hi=>?_⟩;cases i with
  |zero=>
   simp at hi;subst hi;cases o with
   |buf v ee es=>exact⟨v,ee,es,rfl,hg⟩
   |cells _=>simp[om]at bx
   |aZ _ _ _=>simp[om]at bx
   |map _=>simp[om]at bx
  |succ i=>simpa using hr i id (by simpa using hi)
theorem vD:∀(ids:List Nat) (s:Nat) (hc h h':Hp) (u:Unit),(r8 ids s hc).run h=some (u,h')->fm ids=true->
  (∀(i id:Nat),ids[i]?=some id->∃o,get hc (s+i)=some o/\get h' id=some o/\(∀cs,o≠.cells cs)/\∀aL,o≠.map aL)/\∀id,place ids id=none->get h' id=get h id:=by
 intro ids
 induction ids with
 |nil=>
  intro s hc h h' u e _;obtain⟨-,rfl⟩:=af e;exact⟨λi id h=>by simp at h,λ_ _=>rfl⟩
 |cons x ids ih=>
  intro s hc h h' u e hn;have cZ:=hn;simp only[fm,Bool.and_eq_true,Bool.not_eq_true',List.contains_eq_mem,decide_eq_false_iff_not]at hn;obtain⟨o,ho,e2⟩:=M.lift_bind e;obtain⟨bx,e4⟩:=M.aj e2;obtain⟨_,h3,e5,e6⟩:=ag e4;obtain rfl:=aI e5;obtain⟨q1,q2⟩:=ih (s+1) hc _ h' u e6 hn.2;have hx:place ids x=none:=by
   cases hp:place ids x with
   |none=>rfl
   |some i=>exact absurd (List.mem_of_getElem? (fB hp)) hn.1
  refine⟨λi id hi=>?_,λid bt=>?_⟩
  ·cases i with
   |zero=>
    simp at hi;subst hi;refine⟨o,ho,?_,⟨λcs jJ=>(by subst jJ;cases bx),λcs jJ=>(by subst jJ;cases bx)⟩⟩;rw[q2 _ hx];exact an _ _ _
   |succ i=>
    have:=q1 i id (by simpa using hi)
    rwa [show s+1+i=s+(i+1) by omega]at this
  ·simp only[place]at bt;split at bt
   ·cases bt
   ·rename_i bF;rw[q2 id (by simpa using bt)];exact bO _ _ bF
theorem yw {call:Nat->List AV->Hp->Option (AV×Hp)} (hs:bq ν P call) (r:Rel ν k g) {f y:AV} {args:List AV} {h':Hp} (e:(xI call f args).run g.h=some (y,h')) {fv:Value} {aS:Array Value}
  (hf:RA ν g fv f) (ha:RL ν g aS.toList args):fK ν P k g h' y fv aS:=by
 obtain⟨q,hq,e2⟩:=M.lift_bind e;obtain⟨ax,rfl,eM⟩:=fA hq hf;simp only[]at e2;generalize w6:dedup ((args++q.2).flatMap Ay) []=ids at e2;obtain⟨ta,e4⟩:=M.aj e2;simp only[Bool.and_eq_true,Nat.ble_eq]at ta;obtain⟨ta,hlen⟩:=ta;obtain⟨U,h3,e5,e6⟩:=ag e4;obtain⟨I1,f1,I4,EJ⟩:=yu (ids:=ids) _ k g U _ e5 r (aS.toList++ax.toList) (ha.append eM);obtain⟨os,h4,e7,e8⟩:=ag e6;obtain⟨rfl,iO,pT⟩:=wZ ids os _ _ e7;obtain⟨p,g7,dg⟩:=M.lift_bind e8;obtain⟨rr,h6,ow,lr⟩:=ag dg;obtain⟨fg,rfl⟩:=dy ow;obtain⟨_,h7,yr,q8⟩:=ag lr
 obtain⟨rfl,rfl⟩:=af q8;obtain⟨⟨fn,dp,hb,hn⟩,bx⟩:=hs _ _ _ _ _ g7;have r1:=f1.rel
 let oJ:Nat->Option Nat:=λi=>(ids[i]?).bind g.φ
 let L:Nat->Prop:=λb=>∃(i id:Nat),ids[i]?=some id/\g.φ id=some b
 let g1:Gh:={ g with I:=I1,h:=h6 }
 let g0:Gh:=⟨I1,oJ,g.w,cL os 0⟩
 have AW:∀i,get g0.h i=os[i]?:=λi=>by
  show get (cL os 0) i=_
  rw[kg,if_pos (Nat.zero_le _),Nat.sub_zero]
 have w7:∀i o,get g0.h i=some o->∃id,ids[i]?=some id/\get h6 id=some o/\(∃v e es,o = .buf v e es)/\oJ i=g.φ id:=by
  intro i o ho;rw[AW]at ho;have hi:i<ids.length:=by have:=ay ho;omega
  have bt:ids[i]?=some ids[i]:=List.getElem?_eq_getElem hi;obtain⟨v,ee,es,q1,q2⟩:=pT i _ bt;rw[ho]at q1;cases q1;exact⟨_,bt,q2,⟨v,ee,es,rfl⟩,by simp[oJ,bt]⟩
 have I5:∀b,L b->¬I1 b/\b<g.w.heap.size:=by
  rintro b ⟨i,id,bt,ah⟩;obtain⟨v,ee,es,q1,q2⟩:=pT i id bt;rcases r1.ob id _ q2 with⟨h1,_⟩|⟨b',h1,h2,h3,_⟩
  ·simp only[ah]at h1;cases h1
  ·simp only[ah]at h1;cases h1;exact⟨h2,h3.1⟩
 have r0:Rel ν ⟨g.w,I1,L⟩ g0:=by
  refine⟨λi o ho=>?_,λi i' o o' b ho b9 ah aN=>?_,r1.small,λ_ h=>h,λ_ h=>.inl h,λi o b ho ah=>?_,Nat.le_refl _,rfl,rfl,rfl,λ_ _ _=>rfl⟩
  ·obtain⟨id,bt,hg,⟨v,ee,es,rfl⟩,ah⟩:=w7 i o ho;rcases r1.ob id _ hg with⟨h1,h2⟩|⟨b,h1,h2,h3,h4⟩
   ·exact .inl ⟨ah.trans h1,h2⟩
   ·exact .inr ⟨b,ah.trans h1,h2,h3,h4⟩
  ·obtain⟨id,bt,hg, -,qv⟩:=w7 i o ho;obtain⟨bW,kh,dc, -,w8⟩:=w7 i' o' b9;have:=r1.inj id bW o o' b hg dc (qv.symm.trans ah) (w8.symm.trans aN);subst this;have h1:=mF ta bt;have h2:=mF ta kh;rw[h1]at h2;exact Option.some.inj h2
  ·obtain⟨id,bt,hg, -,qv⟩:=w7 i o ho;exact .inl ⟨i,id,bt,qv.symm.trans ah⟩
 have low:∀{i id:Nat},place ids id=some i->i<1000:=λh=>by have:=ay (fB h);omega
 have Cn:∀{i id:Nat},place ids id=some i->get g0.h i=get h6 id/\oJ i=g.φ id:=by
  intro i id h;have bt:=fB h;obtain⟨v,ee,es,q1,q2⟩:=pT i id bt;exact⟨by rw[AW,q1,q2],by simp[oJ,bt]⟩
 have Co:∀{i id o n ai:Nat} {v:Value},place ids id=some i->aE g1 v id o n ai->aE g0 v i o n ai:=by
  intro i id o n ai v hp ho;obtain⟨a1,a2⟩:=Cn hp;unfold aE at ho ⊢;rw[a1,show g0.φ i=g.φ id from a2];exact ho
 have Cp:∀{i id ai a b:Nat} {v:Value},place ids id=some i->aG g1 v id ai a b->aG g0 v i ai a b:=by
  intro i id ai a b v hp ho;obtain⟨a1,a2⟩:=Cn hp;unfold aG at ho ⊢;rw[a1,show g0.φ i=g.φ id from a2];exact ho
 have dx:RL ν g0 (aS++ax).toList U:=by
  refine⟨by rw[I4];simp,λj v y h1 h2=>?_⟩;have hS:=EJ j v y (by simpa using h1) h2;cases hS with
  |own h1 h hp=>exact .own h1 (Co hp h)
  |ref h1 h hp=>exact .ref h1 (Cp hp h)
  |shut h=>exact h.up λv x h=>h
 refine⟨q.1,ax,fn,rfl,dp,hb,hn,(bx ⟨g.w,I1,L⟩ g0 (aS++ax) rfl rfl rfl r0 dx).mono ?_⟩;rintro e w' ⟨v,g',rfl,rfl,Cq,r',ml,hR⟩;obtain⟨q1,q2⟩:=vD ids 0 p.2 h6 h' _ yr ta;simp only[Nat.zero_add]at q1
 let uq:Nat->Option Nat:=λid=>match place ids id with | some i=>g'.φ i | none=>g.φ id
 let g2:Gh:=⟨g'.I,uq,g'.w,h'⟩
 have eX:∀{i id:Nat},place ids id=some i->uq id=g'.φ i/\∃o,get g'.h i=some o/\get h' id=some o/\(∀cs,o≠.cells cs)/\∀aL,o≠.map aL:=by
  intro i id hp;obtain⟨o,a1,a2,a3⟩:=q1 i id (fB hp);exact⟨by simp[uq,hp],o,by rw[Cq];exact a1,a2,a3⟩
 have gG:∀{id:Nat},place ids id=none->uq id=g.φ id/\get h' id=get h6 id:=λhp=>⟨by simp[uq,hp],q2 _ hp⟩
 have jP:∀{id:Nat} {o:Ob} {b:Nat},place ids id=none->get h6 id=some o->g.φ id=some b->¬L b:=by
  rintro id o b hp ho ah ⟨i,bW,kh,aN⟩;obtain⟨v,ee,es,q3,q4⟩:=pT i bW kh;have:=r1.inj id bW o _ b ho q4 ah aN;subst this;exact rn hp i kh
 have cp:∀v x,RI ν I1 g.w v x->RI ν g'.I g'.w v x:=λv x h=>h.mono (λb hb=>r'.i0 b hb) λb off u hb hc=>by
  rw[bw (r'.cu b (r1.small b hb) (.inr hb))];exact hc
 have mi:∀b,b<g.w.heap.size->¬L b->g'.w.heap[b]?=g.w.heap[b]?:=λb hb hL=>r'.cu b hb (.inl hL)
 have m2:aV ν g1 g2:=by
  intro v x hx;refine hx.AU cp ?_ ?_
  ·intro v id o n ai ef ho;cases hp:place ids id with
   |some i=>
    have h:=ml.own v i o n ai (low hp) ef (Co hp ho);obtain⟨a1,ob,a2,a3,_⟩:=eX hp;unfold aE at h ⊢;rw[a2]at h;rw[show get g2.h id=some ob from a3,show g2.φ id=g'.φ i from a1];exact h
   |none=>
    obtain⟨a1,a2⟩:=gG hp;obtain⟨ob,dB⟩:=ho.alive;exact ho.other (g':=g2) a2 a1 λb ah=>mi b ((r1.ob id _ dB).block ah r1.small) (jP hp dB ah)
  ·intro v id ai a b ef hr;cases hp:place ids id with
   |some i=>
    have h:=ml.ref v i ai a b (low hp) ef (Cp hp hr);obtain⟨a1,ob,a2,a3,_⟩:=eX hp;unfold aG at h ⊢;rw[a2]at h;rw[show get g2.h id=some ob from a3,show g2.φ id=g'.φ i from a1];exact h
   |none=>
    obtain⟨a1,a2⟩:=gG hp;exact hr.other (g':=g2) a2 a1
 have Cr:∀b,b<g.w.heap.size->g'.I b->I1 b\/L b:=by
  intro b hb h;rcases r'.i1 b h with h | h | h
  ·exact .inl h
  ·exact .inr h
  ·simp only[]at h;omega
 have r2:Rel ν k g2:=by
  refine⟨λid o ho=>?_,λid bW o o' b ho b9 ah aN=>?_,r'.small,λb h=>r'.i0 b (r1.i0 b h),λb h=>?_,λid o b ho ah=>?_,Nat.le_trans r1.size r'.size,r'.os.trans r1.os,r'.tape.trans r1.tape,r'.output.trans r1.output,λb hb hk=>?_⟩
  ·cases hp:place ids id with
   |some i=>
    obtain⟨a1,ob,a2,a3,a4⟩:=eX hp;have:ob=o:=by rw[show get g2.h id=some ob from a3]at ho;exact Option.some.inj ho
    subst this;have cu:=r'.ob i _ a2;cases ob with
    |cells cs=>exact absurd rfl (a4.1 cs)
    |map cs=>exact absurd rfl (a4.2 cs)
    |buf v ee es=>
     rcases cu with⟨h1,h2⟩|⟨b,h1,h2,h3,h4⟩
     ·exact .inl ⟨a1.trans h1,h2⟩
     ·exact .inr ⟨b,a1.trans h1,h2,h3,h4⟩
    |aZ v ee es=>
     rcases cu with⟨h1,h2⟩|⟨b,h1,h2,h3⟩
     ·exact .inl ⟨a1.trans h1,h2⟩
     ·exact .inr ⟨b,a1.trans h1,h2,h3⟩
   |none=>
    obtain⟨a1,a2⟩:=gG hp;have b9:get h6 id=some o:=a2.symm.trans ho;refine(r1.ob id o b9).other (g':=g2) a1 m2 cp r'.size (λb ah=>mi b ((r1.ob id _ b9).block ah r1.small) (jP hp b9 ah)) λb ah=>?_
    have aT:=(r1.ob id _ b9).block ah r1.small;exact⟨λh=>(Cr b aT h).resolve_right (jP hp b9 ah),λh=>r'.i0 b h⟩
  ·have rp:∀{a c:Nat} {oc:Ob},(∃i,place ids a=some i)->place ids c=none->get h' c=some oc->uq a=some b->uq c=some b->False:=by
    rintro a c oc ⟨i,hp⟩ bM Cs h1 h2;obtain⟨a1,ob,a2,a3,_⟩:=eX hp;obtain⟨b1,b2⟩:=gG bM;have yx:get h6 c=some oc:=b2.symm.trans Cs;have ur:g.φ c=some b:=b1.symm.trans h2;rcases r'.own i ob b a2 (a1.symm.trans h1)with h | h
    ·exact jP bM yx ur h
    ·have:=(r1.ob c _ yx).block ur r1.small;simp only[]at h this;omega
   cases hp:place ids id with
   |some i=>
    cases bM:place ids bW with
    |some i'=>
     obtain⟨a1,ob,a2,a3,_⟩:=eX hp;obtain⟨b1,jI,b2,b3,_⟩:=eX bM;have:=r'.inj i i' ob jI b a2 b2 (a1.symm.trans ah) (b1.symm.trans aN);subst this;have h1:=fB hp;rw[fB bM]at h1;exact(Option.some.inj h1).symm
    |none=>exact(rp ⟨i,hp⟩ bM b9 ah aN).elim
   |none=>
    cases bM:place ids bW with
    |some i'=>exact(rp ⟨i',bM⟩ hp ho aN ah).elim
    |none=>
     obtain⟨a1,a2⟩:=gG hp;obtain⟨b1,b2⟩:=gG bM;exact r1.inj id bW o o' b (a2.symm.trans ho) (b2.symm.trans b9) (a1.symm.trans ah) (b1.symm.trans aN)
  ·rcases r'.i1 b h with h | ⟨i,id,bt,ah⟩|h
   ·exact r1.i1 b h
   ·obtain⟨v,ee,es,q3,q4⟩:=pT i id bt;exact .inr (r1.own id _ b q4 ah)
   ·exact .inr (.inr (Nat.le_trans r1.size h))
  ·cases hp:place ids id with
   |some i=>
    obtain⟨a1,ob,a2,a3,_⟩:=eX hp;rcases r'.own i ob b a2 (a1.symm.trans ah)with⟨i',bW,kh,aN⟩|h
    ·obtain⟨v,ee,es,q3,q4⟩:=pT i' bW kh;exact r1.own bW _ b q4 aN
    ·exact .inr (Nat.le_trans r1.size h)
   |none=>
    obtain⟨a1,a2⟩:=gG hp;exact r1.own id o b (a2.symm.trans ho) (a1.symm.trans ah)
  ·have aT:b<g.w.heap.size:=Nat.lt_of_lt_of_le hb r1.size;refine(mi b aT ?_).trans (r1.cu b hb hk);rintro⟨i,id,bt,ah⟩;obtain⟨v,ee,es,q3,q4⟩:=pT i id bt;rcases hk with hk | hk
   ·rcases r1.own id _ b q4 ah with h | h
    ·exact hk h
    ·omega
   ·exact(I5 b ⟨i,id,bt,ah⟩).1 (r1.i0 b hk)
 refine⟨v,g2,rfl,rfl,rfl,r2,f1.mono.trans m2,?_⟩;unfold AA at fg;split at fg
 ·rename_i i o n ai jw;simp only[Option.map_eq_some_iff]at fg;obtain⟨id,bt,rfl⟩:=fg;rw[jw]at hR;cases hR with
  |own ef ho=>
   obtain⟨a1,ob,a2,a3,_⟩:=eX (mF ta bt);refine .own ef ?_;unfold aE at ho ⊢;rw[a2]at ho;rw[show get g2.h id=some ob from a3,show g2.φ id=g'.φ i from a1];exact ho
 ·split at fg
  ·rename_i yp;cases fg;exact qt yp hR
  ·cases fg
end
section
variable {ν:Nat->Nat} {P:Program} {k:Cx} {g:Gh}
theorem uu {g g':Gh} {ρ:Nat->Option Nat} (hI:∀v x,RI ν g.I g.w v x->RI ν g'.I g'.w v x)
  (ho:∀id i,ρ id=some i->∀v o n ai,aE g v id o n ai->aE g' v i o n ai)
  (hr:∀id i,ρ id=some i->∀v ai a b,aG g v id ai a b->aG g' v i ai a b) :
  ∀(d:Nat) (v:Value) (x:AV),RA ν g v x->RA ν g' v (lj ρ d x)
 |0,v,_,_=>.undef v
 |d+1,v,x,h=>by
  have ih:=uu hI ho hr d;cases h with
  |undef=>exact .undef v
  |iv h=>exact .iv (hI _ _ h)
  |agg hn h1 gp=>
   refine .agg (by simpa using hn) h1 λj v c hv hc=>?_
   simp only[List.getElem?_map,Option.map_eq_some_iff]at hc;obtain⟨c',bJ,rfl⟩:=hc;exact ih v c' (gp j v c' hv bJ)
  |aR hn gp=>
   refine .aR (by simpa using hn) λj v c hv hc=>?_
   simp only[List.getElem?_map,Option.map_eq_some_iff]at hc;obtain⟨c',bJ,rfl⟩:=hc;exact ih v c' (gp j v c' hv bJ)
  |@own _ id o n ai h1 h=>
   simp only[lj];split
   ·rename_i i hi;exact .own h1 (ho id i hi _ _ _ _ h)
   ·exact .undef v
  |@ref _ id ai i j h1 h=>
   simp only[lj];split
   ·rename_i p hp;exact .ref h1 (hr id p hp _ _ _ _ h)
   ·exact .undef v
  |bp hn gp=>
   refine .bp (by simpa using hn) λj v c hv hc=>?_
   simp only[List.getElem?_map,Option.map_eq_some_iff]at hc;obtain⟨c',bJ,rfl⟩:=hc;exact ih v c' (gp j v c' hv bJ)
theorem pB {g g':Gh} {ρ:Nat->Option Nat} {id i:Nat} (hh:get g'.h i=(get g.h id).map (lk ρ)) (ah:g'.φ i=g.φ id) (hw:∀b,g.φ id=some b->g'.w.heap[b]?=g.w.heap[b]?) {v:Value} {o n ai:Nat} (h:aE g v id o n ai):aE g' v i o n ai:=by
 unfold aE at h ⊢;rw[hh,ah];cases hg:get g.h id with
 |none=>rw[hg]at h;exact h.elim
 |some ob=>
  rw[hg]at h;cases ob with
  |cells cs=>exact h.elim
  |buf v' e es=>exact⟨h.1,λhv=>(h.2 hv).same hw⟩
  |aZ v' e es=>exact⟨h.1,λhv=>(h.2 hv).same hw⟩
  |map aL=>exact h.elim
theorem pC {g g':Gh} {ρ:Nat->Option Nat} {id i:Nat} (hh:get g'.h i=(get g.h id).map (lk ρ)) (ah:g'.φ i=g.φ id) {v:Value} {ai a b:Nat} (h:aG g v id ai a b):aG g' v i ai a b:=by
 unfold aG at h ⊢;rw[hh,ah];cases hg:get g.h id with
 |none=>rw[hg]at h;exact h.elim
 |some ob=>
  rw[hg]at h;cases ob<;>exact h
theorem yy {g g':Gh} {ρ:Nat->Option Nat} {i id:Nat} {o:Ob} (h:fI ν g i o) (ah:g'.φ id=g.φ i) (hI:g'.I=g.I) (hw:g'.w=g.w) (hR:∀v c,RA ν g v c->RA ν g' v (lj ρ 8 c)):fI ν g' id (lk ρ o):=by
 cases o with
 |cells cs=>
  obtain⟨b,e1,e2,e3,e4⟩:=h;refine⟨b,ah.trans e1,by rw[hI];exact e2,by rw[hw];exact e3,λj c hc=>?_⟩;simp only[List.getElem?_map,Option.map_eq_some_iff]at hc;obtain⟨c',bJ,rfl⟩:=hc;obtain⟨v,c1,c2,c3⟩:=e4 j c' bJ;exact⟨v,by rw[hw];exact c1,c2,hR v c' c3⟩
 |buf v e es=>
  rcases h with⟨h1,h2⟩|⟨b,e1,e2,e3,e4⟩
  ·exact .inl ⟨ah.trans h1,h2⟩
  ·exact .inr ⟨b,ah.trans e1,by rw[hI];exact e2,by rw[hw];exact e3,by rw[hI,hw];exact e4⟩
 |aZ v e es=>
  rcases h with⟨h1,h2⟩|⟨b,e1,e2,e4⟩
  ·exact .inl ⟨ah.trans h1,h2⟩
  ·exact .inr ⟨b,ah.trans e1,by rw[hI];exact e2,by rw[hI,hw];exact e4⟩
 |map aL=>
  obtain⟨b,es,clock,e1,e2,e3,e4,e5,e6⟩:=h;refine⟨b,es,clock,ah.trans e1,by rw[hI];exact e2,by rw[hw];exact e3,by rw[hw];exact e4,by simpa using e5,λj e p h1 h2=>?_⟩;simp only[List.getElem?_map,Option.map_eq_some_iff]at h2;obtain⟨p',hp,rfl⟩:=h2;obtain⟨c1,c2⟩:=e6 j e p' h1 hp;exact⟨hR _ _ c1,hR _ _ c2⟩
theorem zM:∀(n:Nat) (todo:List Nat) (acc ps:List (Nat×Ob)) (h h':Hp),(ll n todo acc).run h=some (ps,h')->(∀p ∈ acc,get h p.1=some p.2)->h'=h/\∀p ∈ ps,get h p.1=some p.2:=by
 intro n
 induction n with
 |zero=>
  intro todo acc ps h h' e ha;obtain⟨rfl,rfl⟩:=af e;exact⟨rfl,λp hp=>ha p (by simpa using hp)⟩
 |succ n ih=>
  intro todo acc ps h h' e ha;cases todo with
  |nil=>
   obtain⟨rfl,rfl⟩:=af e;exact⟨rfl,λp hp=>ha p (by simpa using hp)⟩
  |cons id r=>
   simp only[ll]at e;split at e
   ·exact ih r acc ps h h' e ha
   ·simp only[M.run]at e;split at e
    ·rename_i o ho;exact ih _ _ ps h h' e λp hp=>by
      rcases List.mem_cons.1 hp with rfl | hp
      ·exact ho
      ·exact ha p hp
    ·exact ih r acc ps h h' e ha
theorem zN (slot:Nat):∀(n:Nat) (h h':Hp) (u:Unit),(tE slot n).run h=some (u,h')->h'=h/\∀j,j<n->get h (slot+j)=none:=by
 intro n
 induction n with
 |zero=>
  intro h h' u e;obtain⟨-,rfl⟩:=af e;exact⟨rfl,λj hj=>absurd hj (Nat.not_lt_zero _)⟩
 |succ n ih=>
  intro h h' u e;obtain⟨_,h1,e1,e2⟩:=ag e;obtain⟨hf,rfl⟩:=M.ct e1;obtain⟨rfl,hr⟩:=ih _ _ _ e2;refine⟨rfl,λj hj=>?_⟩;by_cases he:j=n
  ·rw[he];exact hf
  ·exact hr j (by omega)
theorem mG {x:Nat} {l:List Nat} (h:fm (x::l)=true):x ∉ l/\fm l=true:=by
 simpa only[fm,Bool.and_eq_true,Bool.not_eq_true',List.contains_eq_mem,decide_eq_false_iff_not]using h
theorem vU {T:List (Nat×Nat)} (hn:fm (T.map (·.1))=true) {a b:Nat} (h:(a,b) ∈ T):get T a=some b:=by
 induction T with
 |nil=>cases h
 |cons p T ih=>
  obtain⟨h1,h2⟩:=mG hn;simp only[get];rcases List.mem_cons.1 h with rfl | h
  ·rw[if_pos rfl]
  ·rw[if_neg (λe:p.1=a=>h1 (List.mem_map.2 ⟨_,h,e.symm⟩))];exact ih h2 h
theorem get_mem {T:List (Nat×Nat)} {a b:Nat} (h:get T a=some b):(a,b) ∈ T:=by
 induction T with
 |nil=>cases h
 |cons p T ih=>
  simp only[get]at h;split at h
  ·rename_i hp;cases h;subst hp;exact List.mem_cons_self
  ·exact List.mem_cons_of_mem _ (ih h)
theorem zO {T:List (Nat×Nat)} {a b:Nat} (h:jg T b=some a):(a,b) ∈ T:=by
 induction T with
 |nil=>cases h
 |cons p T ih=>
  simp only[jg]at h;split at h
  ·rename_i hp;cases h;subst hp;exact List.mem_cons_self
  ·exact List.mem_cons_of_mem _ (ih h)
theorem Bk {T:List (Nat×Nat)} (hn:fm (T.map (·.2))=true) {a a' b:Nat} (h:(a,b) ∈ T) (h':(a',b) ∈ T):a=a':=by
 induction T with
 |nil=>cases h
 |cons p T ih=>
  obtain⟨h1,h2⟩:=mG hn;rcases List.mem_cons.1 h with e | k1
  ·rcases List.mem_cons.1 h' with e' | k2
   ·rw[<-e']at e;exact(Prod.mk.inj e).1
   ·exact absurd (List.mem_map.2 ⟨(a',b),k2,by rw[<-e]⟩) h1
  ·rcases List.mem_cons.1 h' with e' | k2
   ·exact absurd (List.mem_map.2 ⟨(a,b),k1,by rw[<-e']⟩) h1
   ·exact ih h2 k1 k2
theorem iH {α:Type}:∀(l:List α) (s:Nat) (a:Nat) (b:α),(a,b) ∈ cL l s↔s<=a/\l[a - s]?=some b
 |[],s,a,b=>by simp[cL]
 |x::l,s,a,b=>by
  simp only[cL,List.mem_cons,Prod.mk.injEq,iH l (s+1) a b];by_cases h:a=s
  ·subst h;simp;constructor
   ·rintro(h | ⟨h,_⟩)
    ·exact h.symm
    ·omega
   ·intro h;exact .inl h.symm
  ·by_cases h':s<=a
   ·rw[show a - s=(a - (s+1))+1 by omega];simp[h];omega
   ·simp[h];omega
theorem yz {ids news:List Nat} {slot a b:Nat}:(a,b) ∈ kB ids news slot↔ids[b]?=some a\/slot<=a/\news[a - slot]?=some b:=by
 unfold kB;rw[List.mem_append,iH];refine or_congr ?_ Iff.rfl;rw[List.mem_map];constructor
 ·rintro⟨⟨i,x⟩,h,e⟩;cases e;simpa using(iH ids 0 _ _).1 h
 ·intro h;exact⟨(b,a),(iH ids 0 _ _).2 ⟨Nat.zero_le _,by simpa using h⟩,rfl⟩
theorem Bl {σ:Nat->Option Nat} {hc:Hp}:∀(T:List (Nat×Nat)) (h h':Hp) (u:Unit),(wx σ hc T).run h=some (u,h')->fm (T.map (·.1))=true->
  (∀id s,get T id=some s->∃o,get hc s=some o/\get h' id=some (lk σ o))/\∀id,get T id=none->get h' id=get h id:=by
 intro T
 induction T with
 |nil=>
  intro h h' u e _;obtain⟨-,rfl⟩:=af e;exact⟨λid s h=>(by cases h),λ_ _=>rfl⟩
 |cons p T ih=>
  intro h h' u e hn;obtain⟨yA,yB⟩:=mG hn;obtain⟨o,ho,e2⟩:=M.lift_bind e;obtain⟨_,h2,e3,e4⟩:=ag e2;obtain rfl:=aI e3;obtain⟨q1,q2⟩:=ih _ _ _ e4 yB;have hp:get T p.1=none:=by
   cases hg:get T p.1 with
   |none=>rfl
   |some s=>exact absurd (List.mem_map.2 ⟨_,get_mem hg,rfl⟩) yA
  refine⟨λid s hs=>?_,λid hs=>?_⟩
  ·simp only[get]at hs;split at hs
   ·rename_i he;cases hs;subst he;exact⟨o,ho,by rw[q2 _ hp];exact an _ _ _⟩
   ·exact q1 id s hs
  ·simp only[get]at hs;split at hs
   ·cases hs
   ·rename_i he;rw[q2 id hs];exact bO _ _ he
theorem yC {call:Nat->List AV->Hp->Option (AV×Hp)} (hs:bq ν P call) (r:Rel ν k g) {slot:Nat} {f y:AV} {args:List AV} {h':Hp} (e:(xL call slot f args).run g.h=some (y,h')) {fv:Value} {aS:Array Value}
  (hf:RA ν g fv f) (ha:RL ν g aS.toList args):fK ν P k g h' y fv aS:=by
 obtain⟨q,hq,e2⟩:=M.lift_bind e;obtain⟨ax,rfl,eM⟩:=fA hq hf;obtain⟨ps,h2,e3,e4⟩:=ag e2;obtain⟨rfl,FF⟩:=zM _ _ _ _ _ _ e3 (λp hp=>by cases hp);obtain⟨hlen,e6⟩:=M.aj e4;obtain⟨p,g7,e8⟩:=M.lift_bind e6;generalize w6:ps.map (·.1)=ids at g7 e8;generalize xK p ps.length=news at e8;unfold AE at e8;generalize hT:kB ids news slot=T at e8;obtain⟨Ct,dg⟩:=M.aj e8;obtain⟨_,h6,ow,lr⟩:=ag dg;obtain⟨rfl,Cu⟩:=zN _ _ _ _ _ ow;obtain⟨_,h7,yr,q8⟩:=ag lr;obtain⟨rfl,rfl⟩:=af q8;simp only[Bool.and_eq_true,Nat.ble_eq]at Ct hlen
 obtain⟨⟨Cv,I6⟩, -⟩:=Ct;obtain⟨⟨fn,dp,hb,hn⟩,bx⟩:=hs _ _ _ _ _ g7;have FG:∀{a b:Nat},(a,b) ∈ T↔ids[b]?=some a\/slot<=a/\news[a - slot]?=some b:=by rw[<-hT];exact yz
 have dB:∀(i id:Nat),ids[i]?=some id->∃o,ps[i]?=some (id,o)/\get g.h id=some o:=by
  intro i id hi;rw[<-w6,List.getElem?_map,Option.map_eq_some_iff]at hi;obtain⟨⟨bW,o⟩,h1,rfl⟩:=hi;exact⟨o,h1,FF _ (List.mem_of_getElem? h1)⟩
 let oJ:Nat->Option Nat:=λi=>(ids[i]?).bind g.φ
 let L:Nat->Prop:=λb=>∃(i id:Nat),ids[i]?=some id/\g.φ id=some b
 let Cw:Hp:=cL (ps.map λp=>lk (place ids) p.2) 0
 let g0:Gh:=⟨g.I,oJ,g.w,Cw⟩
 have AW:∀i id o,ps[i]?=some (id,o)->get g0.h i=some (lk (place ids) o):=λi id o h=>by
  show get Cw i=_
  rw[kg,if_pos (Nat.zero_le _),Nat.sub_zero,List.getElem?_map,h];rfl
 have w9:∀i o,get g0.h i=some o->∃id o',ids[i]?=some id/\get g.h id=some o'/\o=lk (place ids) o'/\oJ i=g.φ id:=by
  intro i o ho;have b9:get Cw i=some o:=ho;rw[kg,if_pos (Nat.zero_le _),Nat.sub_zero,List.getElem?_map,Option.map_eq_some_iff]at b9;obtain⟨⟨id,o'⟩,h1,rfl⟩:=b9;have bt:ids[i]?=some id:=by rw[<-w6,List.getElem?_map,h1];rfl
  exact⟨id,o',bt,FF _ (List.mem_of_getElem? h1),rfl,by simp[oJ,bt]⟩
 have iP:∀id i,place ids id=some i->get g0.h i=(get g.h id).map (lk (place ids))/\oJ i=g.φ id:=by
  intro id i h;have bt:=fB h;obtain⟨o,h1,h2⟩:=dB i id bt;exact⟨by rw[AW i id o h1,h2];rfl,by simp[oJ,bt]⟩
 have Cy:∀(d:Nat) (v:Value) (x:AV),RA ν g v x->RA ν g0 v (lj (place ids) d x):=
  uu (g:=g) (g':=g0) (λ_ _ h=>h) (λid i hi v o n ai h=>pB (iP id i hi).1 (iP id i hi).2 (λ_ _=>rfl) h) λid i hi v ai a b h=>pC (iP id i hi).1 (iP id i hi).2 h
 have low:∀{i id:Nat},ids[i]?=some id->i<1000:=λh=>by
  have h1:=ay h;rw[<-w6,List.length_map]at h1;omega
 have yD:∀{i id:Nat},ids[i]?=some id->get T id=some i:=λh=>vU Cv (FG.2 (.inl h))
 have KN:∀b,L b->b<g.w.heap.size:=by
  rintro b ⟨i,id,bt,ah⟩;obtain⟨o, -,ho⟩:=dB i id bt;exact(r.ob id o ho).block ah r.small
 have r0:Rel ν ⟨g.w,g.I,L⟩ g0:=by
  refine⟨λi o ho=>?_,λi i' o o' b ho b9 ah aN=>?_,r.small,λ_ h=>h,λ_ h=>.inl h,λi o b ho ah=>?_,Nat.le_refl _,rfl,rfl,rfl,λ_ _ _=>rfl⟩
  ·obtain⟨id,o',bt,hg,rfl,ah⟩:=w9 i o ho;exact yy (g:=g) (g':=g0) (r.ob id o' hg) ah rfl rfl (Cy 8)
  ·obtain⟨id,o1,bt,hg, -,qv⟩:=w9 i o ho;obtain⟨bW,I7,kh,dc, -,w8⟩:=w9 i' o' b9;have:=r.inj id bW o1 I7 b hg dc (qv.symm.trans ah) (w8.symm.trans aN);subst this;have a1:=yD bt;rw[yD kh]at a1;exact(Option.some.inj a1).symm
  ·obtain⟨id,o1,bt,hg, -,qv⟩:=w9 i o ho;exact .inl ⟨i,id,bt,qv.symm.trans ah⟩
 have dx:RL ν g0 (aS++ax).toList ((args++q.2).map (lj (place ids) 8)):=by
  have hA:=ha.append eM;refine⟨by have:=hA.1;simpa using this,λj v y h1 h2=>?_⟩;simp only[List.getElem?_map,Option.map_eq_some_iff]at h2;obtain⟨y',hy,rfl⟩:=h2;exact Cy 8 v y' (hA.2 j v y' (by simpa using h1) hy)
 refine⟨q.1,ax,fn,rfl,dp,hb,hn,(bx ⟨g.w,g.I,L⟩ g0 (aS++ax) rfl rfl rfl r0 dx).mono ?_⟩;rintro e w' ⟨v,g',rfl,rfl,Cq,r',ml,hR⟩;obtain⟨q1,q2⟩:=Bl T _ _ _ yr Cv
 let g2:Gh:=⟨g'.I,λid=>match get T id with | some s=>g'.φ s | none=>g.φ id,g'.w,h'⟩
 have eX:∀{id s:Nat},get T id=some s->g2.φ id=g'.φ s/\∃o,get g'.h s=some o/\get g2.h id=some (lk (jg T) o):=by
  intro id s uv;obtain⟨o,a1,a2⟩:=q1 id s uv;exact⟨by simp[g2,uv],o,by rw[Cq];exact a1,a2⟩
 have gG:∀{id:Nat},get T id=none->g2.φ id=g.φ id/\get g2.h id=get g.h id:=λuv=>⟨by simp[g2,uv],q2 _ uv⟩
 have alive:∀{id s:Nat} {o:Ob},get T id=some s->get g.h id=some o->ids[s]?=some id:=by
  intro id s o uv ho;rcases FG.1 (get_mem uv)with h | ⟨h,cZ⟩
  ·exact h
  ·have:=Cu (id - slot) (ay cZ);rw[show slot+(id - slot)=id by omega,ho]at this;cases this
 have jP:∀{id:Nat} {o:Ob} {b:Nat},get T id=none->get g.h id=some o->g.φ id=some b->¬L b:=by
  rintro id o b bM ho ah ⟨i,bW,kh,aN⟩;obtain⟨o', -,dc⟩:=dB i bW kh;have:=r.inj id bW o o' b ho dc ah aN;subst this;rw[yD kh]at bM;cases bM
 have mi:∀b,b<g.w.heap.size->(¬L b\/g.I b)->g'.w.heap[b]?=g.w.heap[b]?:=λb fM h=>r'.cu b fM h
 have cp:∀v x,RI ν g.I g.w v x->RI ν g'.I g'.w v x:=λv x h=>h.mono (λb fM=>r'.i0 b fM) λb off u fM hc=>by
  rw[bw (mi b (r.small b fM) (.inr fM))];exact hc
 have Cz:∀i id,jg T i=some id->get T id=some i:=λi id h=>vU Cv (zO h)
 have CA:∀(d:Nat) (v:Value) (x:AV),RA ν g' v x->RA ν g2 v (lj (jg T) d x):=
  uu (g:=g') (g':=g2) (λ_ _ h=>h)
   (λi id hi v o n ai h=>by
    obtain⟨a1,ob,a2,a3⟩:=eX (Cz i id hi);exact pB (ρ:=jg T) (by rw[a3,a2];rfl) a1 (λ_ _=>rfl) h)
   λi id hi v ai a b h=>by
    obtain⟨a1,ob,a2,a3⟩:=eX (Cz i id hi);exact pC (ρ:=jg T) (by rw[a3,a2];rfl) a1 h
 have CB:∀{i id:Nat},ids[i]?=some id->place ids id=some i:=by
  intro i id h;cases bM:place ids id with
  |none=>exact absurd h (rn bM i)
  |some i'=>
   have a1:=yD (fB bM);rw[yD h]at a1;exact congrArg some (Option.some.inj a1).symm
 have m2:aV ν g g2:=by
  intro v x hx;refine hx.AU (g':=g2) cp ?_ ?_
  ·intro v id o n ai ef ho;obtain⟨ob,er⟩:=ho.alive;cases bM:get T id with
   |some i=>
    have bt:=alive bM er;have yE:=iP id i (CB bt);have h:=ml.own v i o n ai (low bt) ef (pB yE.1 yE.2 (λ_ _=>rfl) ho);obtain⟨a1,I8,a2,a3⟩:=eX bM;exact pB (ρ:=jg T) (by rw[a3,a2];rfl) a1 (λ_ _=>rfl) h
   |none=>
    obtain⟨a1,a2⟩:=gG bM;exact ho.other (g':=g2) a2 a1 λb ah=>mi b ((r.ob id _ er).block ah r.small) (.inl (jP bM er ah))
  ·intro v id ai a b ef hr;obtain⟨ob,er⟩:=hr.alive;cases bM:get T id with
   |some i=>
    have bt:=alive bM er;have yE:=iP id i (CB bt);have h:=ml.ref v i ai a b (low bt) ef (pC yE.1 yE.2 hr);obtain⟨a1,I8,a2,a3⟩:=eX bM;exact pC (ρ:=jg T) (by rw[a3,a2];rfl) a1 h
   |none=>
    obtain⟨a1,a2⟩:=gG bM;exact hr.other (g':=g2) a2 a1
 have Cr:∀b,b<g.w.heap.size->g'.I b->g.I b\/L b:=by
  intro b fM h;rcases r'.i1 b h with h | h | h
  ·exact .inl h
  ·exact .inr h
  ·simp only[]at h;omega
 have r2:Rel ν k g2:=by
  refine⟨λid o ho=>?_,λid bW o o' b ho b9 ah aN=>?_,r'.small,λb h=>r'.i0 b (r.i0 b h),λb h=>?_,λid o b ho ah=>?_,Nat.le_trans r.size r'.size,r'.os.trans r.os,r'.tape.trans r.tape,r'.output.trans r.output,λb fM hk=>?_⟩
  ·cases bM:get T id with
   |some s=>
    obtain⟨a1,ob,a2,a3⟩:=eX bM;rw[a3]at ho;cases ho;exact yy (g:=g') (g':=g2) (r'.ob s _ a2) a1 rfl rfl (CA 8)
   |none=>
    obtain⟨a1,a2⟩:=gG bM;have b9:get g.h id=some o:=a2.symm.trans ho;refine(r.ob id o b9).other (g':=g2) a1 m2 cp r'.size (λb ah=>mi b ((r.ob id _ b9).block ah r.small) (.inl (jP bM b9 ah))) λb ah=>?_
    have aT:=(r.ob id _ b9).block ah r.small;exact⟨λh=>(Cr b aT h).resolve_right (jP bM b9 ah),λh=>r'.i0 b h⟩
  ·have rp:∀{a c s:Nat} {oc:Ob},get T a=some s->get T c=none->get g2.h c=some oc->g2.φ a=some b->g2.φ c=some b->False:=by
    intro a c s oc jw bD Cs h1 h2;obtain⟨a1,ob,a2,a3⟩:=eX jw;obtain⟨b1,b2⟩:=gG bD;have yx:get g.h c=some oc:=b2.symm.trans Cs;have ur:g.φ c=some b:=b1.symm.trans h2;rcases r'.own s ob b a2 (a1.symm.trans h1)with h | h
    ·exact jP bD yx ur h
    ·have:=(r.ob c _ yx).block ur r.small;simp only[]at h this;omega
   cases jw:get T id with
   |some s=>
    cases bD:get T bW with
    |some s'=>
     obtain⟨a1,ob,a2,a3⟩:=eX jw;obtain⟨b1,jI,b2,b3⟩:=eX bD;have:=r'.inj s s' ob jI b a2 b2 (a1.symm.trans ah) (b1.symm.trans aN);subst this;exact Bk I6 (get_mem jw) (get_mem bD)
    |none=>exact(rp jw bD b9 ah aN).elim
   |none=>
    cases bD:get T bW with
    |some s'=>exact(rp bD jw ho aN ah).elim
    |none=>
     obtain⟨a1,a2⟩:=gG jw;obtain⟨b1,b2⟩:=gG bD;exact r.inj id bW o o' b (a2.symm.trans ho) (b2.symm.trans b9) (a1.symm.trans ah) (b1.symm.trans aN)
  ·rcases r'.i1 b h with h | ⟨i,id,bt,ah⟩|h
   ·exact r.i1 b h
   ·obtain⟨o, -,hg⟩:=dB i id bt;exact .inr (r.own id _ b hg ah)
   ·exact .inr (.inr (Nat.le_trans r.size h))
  ·cases jw:get T id with
   |some s=>
    obtain⟨a1,ob,a2,a3⟩:=eX jw;rcases r'.own s ob b a2 (a1.symm.trans ah)with⟨i',bW,kh,aN⟩|h
    ·obtain⟨o', -,dc⟩:=dB i' bW kh;exact r.own bW _ b dc aN
    ·exact .inr (Nat.le_trans r.size h)
   |none=>
    obtain⟨a1,a2⟩:=gG jw;exact r.own id o b (a2.symm.trans ho) (a1.symm.trans ah)
  ·have aT:b<g.w.heap.size:=Nat.lt_of_lt_of_le fM r.size;refine(mi b aT ?_).trans (r.cu b fM hk);rcases hk with hk | hk
   ·refine .inl ?_;rintro⟨i,id,bt,ah⟩;obtain⟨o, -,hg⟩:=dB i id bt;rcases r.own id _ b hg ah with h | h
    ·exact hk h
    ·omega
   ·exact .inr (r.i0 b hk)
 exact⟨v,g2,rfl,rfl,rfl,r2,m2,CA 8 v _ hR⟩
end
section
variable {ν:Nat->Nat} {P:Program} {k:Cx} {g:Gh}
theorem az {o:Oper} {a:Act} {h':Hp} {y:AV} {s:Sem Value} (hx:execOp a.eval o=(do pure (.value (<-s)):Sem Next)) (d:bf ν k g h' y (s.run P g.w)) {next:Act->World->Prop} {Q:Exit->Act->World->Prop}
  (hn:∀g' v,g'.h=h'->Rel ν k g'->aV ν g g'->RA ν g' v y->next (a.put o.dst v) g'.w):o.wp P a g.w next Q:=by
 obtain⟨g',v,hr,hh,r',m,hR⟩:=d;unfold Oper.wp;rw[hx];simp only[Sem.run_bind,hr,Result.andThen_ok,Sem.run_pure];exact hn g' v hh r' m hR
theorem iI {o:Oper} {a:Act} {h':Hp} {y:AV} {fo:Operand} {aS:Array Operand} {cz:Array TypeId} (ho:o.op = .call { callee:=.value fo,args:=aS,argTypes:=cz })
  (d:fK ν P k g h' y (a.eval fo) (aS.map a.eval)) {next:Act->World->Prop} {Q:Exit->Act->World->Prop}
  (hn:∀g' v,g'.h=h'->Rel ν k g'->aV ν g g'->RA ν g' v y->next (a.put o.dst v) g'.w):o.wp P a g.w next Q:=by
 obtain⟨q,ax,fn,hf,dp,hb,rq,hc⟩:=d;unfold Oper.wp;rw[oG ho hf dp hb rq];rw[Oper.upon_enter];refine hc.mono ?_;rintro e w' ⟨v,g',rfl,rfl,hh,r',m,hR⟩;exact hn g' v hh r' m hR
theorem qw {a:Act} {x:Operand} (h:pR x=true):∃kk,a.eval x = .int kk 0:=by
 unfold pR at h;split at h
 ·rename_i kk n;have:=beq_iff_eq.1 h;subst this;exact⟨kk,rfl⟩
 ·cases h
theorem fZ {a:Act} {fr:Fr} (hf:eU ν g a.tmps fr) {xs:Array Operand} {ys:List aH} (h:dG ν xs.toList ys=true):RL ν g (xs.map a.eval).toList (ys.map (ev fr)):=by
 obtain⟨h1,h2⟩:=lz hf h;exact⟨by simpa using h1,λj v x hv hx=>h2 j v x (by simpa using hv) hx⟩
theorem lE {a:Act} {fr:Fr} (hf:eU ν g a.tmps fr):∀{ps:List (Nat×Operand)} {qs:List (Nat×aH)},fY ν ps qs=true->
  (ps.map λp=>(p.1,a.eval p.2)).length=(qs.map λp=>(p.1,ev fr p.2)).length/\
  ∀(j:Nat) (q:Nat×Value) (p:Nat×AV),(ps.map λp=>(p.1,a.eval p.2))[j]?=some q->(qs.map λp=>(p.1,ev fr p.2))[j]?=some p->q.1=p.1/\RA ν g q.2 p.2
 |[],[],_=>⟨rfl,λj v x h=>by simp at h⟩
 |x::xs,y::ys,h=>by
  simp only[fY,Bool.and_eq_true,beq_iff_eq]at h;obtain⟨h1,h2⟩:=lE hf h.2;refine⟨by simpa using h1,λj v z hv hz=>?_⟩;cases j with
  |zero=>simp at hv hz;subst hv hz;exact⟨h.1.1,ak hf h.1.2⟩
  |succ j=>exact h2 j v z (by simpa using hv) (by simpa using hz)
 |[],_::_,h=>by simp[fY]at h
 |_::_,[],h=>by simp[fY]at h
set_option maxHeartbeats 4000000 in
theorem xa {call:Nat->List AV->Hp->Option (AV×Hp)} (hs:bq ν P call) {o:Oper} {a:Act} {fr:Fr} {io:jF} {slot:Nat} (hc:rj P ν o.op io=true) (r:Rel ν k g) (hf:eU ν g a.tmps fr) {y:AV} {h':Hp}
  (e:(bk call slot (ev fr) io).run g.h=some (y,h')) {next:Act->World->Prop} {Q:Exit->Act->World->Prop}
  (hn:∀g' v,g'.h=h'->Rel ν k g'->aV ν g g'->RA ν g' v y->next (a.put o.dst v) g'.w):o.wp P a g.w next Q:=by
 unfold rj at hc;split at hc
 case h_1 y'=>
  obtain⟨rfl,rfl⟩:=af e;split at hc
  ·rename_i x ho;exact az (s:=pure (a.eval x)) (by simp[execOp,ho]) (.same r rfl (ak hf hc)) hn
  ·rename_i x ho;exact az (s:=pure (a.eval x)) (by simp[execOp,ho]) (.same r rfl (ak hf hc)) hn
  ·cases hc
 case h_2=>
  split at hc
  ·rename_i ho;exact az (s:=pure (.slice none 0 0)) (by simp[execOp,ho,Act.eval]) (vS (a:=none) r e) hn
  ·rename_i ho;exact az (s:=pure (.slice none 0 0)) (by simp[execOp,ho,Act.eval]) (vS (a:=none) r e) hn
  ·cases hc
 case h_3=>
  split at hc
  case h_2=>cases hc
  rename_i c x z ho;simp only[Bool.and_eq_true]at hc;simp only[bk]at e;split at e
  case h_2=>exact(ae e).elim
  rename_i t ht;obtain⟨rfl,rfl⟩:=af e;have h1:=ak hf hc.1.1;rw[ht]at h1;have hb:=h1.bool;refine az (s:=do pure (if <-asBool (a.eval c) then a.eval x else a.eval z)) (by simp[execOp,ho]) (.same r (v:=if t then a.eval x else a.eval z) (by simp[hb,asBool]) ?_) hn;cases t
  ·exact ak hf hc.2
  ·exact ak hf hc.1.2
 case h_4=>
  split at hc
  case h_2=>cases hc
  rename_i t ho;exact az (s:=Instr.alloc t true (.tuple #[])) (by simp[execOp,ho]) (ou r hc e) hn
 case h_5=>
  split at hc
  case h_2=>cases hc
  rename_i t x ho;exact az (s:=Instr.box t (a.eval x)) (by simp[execOp,ho]) (tV r (ak hf hc) e) hn
 case h_6=>
  split at hc
  case h_2=>cases hc
  rename_i t ps ho;simp only[Bool.and_eq_true]at hc;obtain⟨hz,hc⟩:=hc;split at hc
  case h_2=>cases hc
  rename_i pl iP;exact az (s:=Instr.build t (ps.map fun(i,x)=>(i,a.eval x))) (by simp[execOp,ho]) (qq r hf hz iP hc e) hn
 case h_7 e0 z n' qs=>
  split at hc
  case h_2=>cases hc
  rename_i t n ps ho;simp only[Bool.and_eq_true,beq_iff_eq]at hc;obtain⟨⟨rfl,hb⟩,hq⟩:=hc;obtain⟨hl,hp⟩:=lE hf hq;refine az (s:=Instr.buildSlice t n (ps.toList.map λp=>(p.1,a.eval p.2)).toArray) (by
   have:(ps.map fun(p:Nat×Operand)=>(p.1,a.eval p.2))=(ps.toList.map λp=>(p.1,a.eval p.2)).toArray:=by apply Array.ext';simp
   simp only[execOp,ho];rw[<-this]) (tY (slot:=slot) r hb hl hp ?_) hn
  rw[M.lu];exact e
 case h_8=>
  split at hc
  case h_2=>cases hc
  rename_i t x ho;simp only[Bool.and_eq_true]at hc;exact az (s:=Instr.loadAt t (a.eval x)) (by simp[execOp,ho]) (sb r hc.1 (ak hf hc.2) e) hn
 case h_9=>
  split at hc
  case h_2=>cases hc
  rename_i t x z ho;simp only[Bool.and_eq_true]at hc;obtain⟨g',aY,rfl,hh,r',m⟩:=qk r hc.1.1 (ak hf hc.1.2) (ak hf hc.2) e;unfold Oper.wp;have hx:(execOp a.eval o).run P g.w = .ok .skip g'.w:=by simp[execOp,ho,aY]
  rw[hx];exact hn g' undef hh r' m (.aR rfl λj v c h=>by simp at h)
 case h_10=>
  split at hc
  case h_2=>cases hc
  rename_i t x f ho;simp only[Bool.and_eq_true]at hc;exact az (s:=Instr.fieldAt t (a.eval x) f) (by simp[execOp,ho]) (sc r hc.1 (ak hf hc.2) e) hn
 case h_11=>
  split at hc
  case h_2=>cases hc
  rename_i t x f ho;simp only[Bool.and_eq_true]at hc;exact az (s:=Instr.field t (a.eval x) f) (by simp[execOp,ho]) (tM r hc.1 (ak hf hc.2) e) hn
 case h_12=>
  split at hc
  case h_2=>cases hc
  rename_i t x z ho;simp only[Bool.and_eq_true]at hc;exact az (s:=Instr.indexAt t (a.eval x) (a.eval z)) (by simp[execOp,ho]) (se r hc.1.1 (ak hf hc.1.2) (ak hf hc.2) e) hn
 case h_13=>
  split at hc
  case h_2=>cases hc
  rename_i t x z ho;simp only[Bool.and_eq_true]at hc;exact az (s:=Instr.indexAt t (a.eval x) (a.eval z)) (by simp[execOp,ho]) (tL r hc.1.1 (ak hf hc.1.2) (ak hf hc.2) e) hn
 case h_14=>
  split at hc
  case h_2=>cases hc
  rename_i t x z ho;simp only[Bool.and_eq_true]at hc;exact az (s:=Instr.index t (a.eval x) (a.eval z)) (by simp[execOp,ho]) (sg r hc.1.1 (ak hf hc.1.2) (ak hf hc.2) e) hn
 case h_15=>
  split at hc
  case h_2=>cases hc
  rename_i t x z ho;simp only[Bool.and_eq_true]at hc;exact az (s:=Instr.index t (a.eval x) (a.eval z)) (by simp[execOp,ho]) (sh r (dX hc.1.1) (ak hf hc.1.2) (ak hf hc.2) e) hn
 case h_16 bo q x' y'=>
  split at hc
  case h_2=>cases hc
  rename_i b t x z yt ho;simp only[Bool.and_eq_true,beq_iff_eq]at hc;obtain⟨⟨⟨rfl,hq⟩,hx⟩,hz⟩:=hc;obtain⟨w',hb,e2⟩:=M.lift_bind e;obtain⟨rfl,rfl⟩:=af e2;exact az (s:=do eqGuard b t x z (a.eval x) (a.eval z);binOp b t (a.eval x) (a.eval z)) (by simp[execOp,ho]) (tO r hq (ak hf hx) (ak hf hz) hb) hn
 case h_17 neg qs x' y'=>
  split at hc
  case h_2=>cases hc
  rename_i b t x z yt ho;simp only[Bool.and_eq_true,beq_iff_eq]at hc;obtain⟨⟨⟨rfl,hq⟩,hx⟩,hz⟩:=hc;simp only[bk]at e;split at e
  case h_2=>exact(ae e).elim
  rename_i xs ys CC oC;obtain⟨w',hb,e2⟩:=M.lift_bind e;obtain⟨rfl,rfl⟩:=af e2;have h1:=ak hf hx;have h2:=ak hf hz;rw[CC]at h1;rw[oC]at h2;exact az (s:=do eqGuard (if neg then .neq else .eql) t x z (a.eval x) (a.eval z);binOp (if neg then .neq else .eql) t (a.eval x) (a.eval z)) (by simp[execOp,ho]) (B1 r hq neg h1 h2 hb) hn
 case h_18 uo x'=>
  split at hc
  case h_2=>cases hc
  rename_i u t x ho;simp only[Bool.and_eq_true,beq_iff_eq]at hc;obtain⟨rfl,hx⟩:=hc;obtain⟨w',hb,e2⟩:=M.lift_bind e;obtain⟨rfl,rfl⟩:=af e2;exact az (s:=Op.unary u (a.eval x)) (by simp[execOp,ho]) (wV r (ak hf hx) hb) hn
 case h_19=>
  split at hc
  case h_2=>cases hc
  rename_i s d x ho;simp only[Bool.and_eq_true]at hc;obtain⟨n,h1,e1,e2⟩:=ag e;have hh:=(dC e1).1;subst hh;obtain⟨rfl,rfl⟩:=af e2;exact az (s:=convert s d (a.eval x)) (by simp[execOp,ho]) (tQ r hc.1 (ak hf hc.2) e1) hn
 case h_20=>
  split at hc
  case h_2=>cases hc
  rename_i s d x ho;simp only[Bool.and_eq_true]at hc;simp only[bk]at e;split at e
  case h_2=>exact(ae e).elim
  rename_i t ht;obtain⟨rfl,rfl⟩:=af e;have h1:=ak hf hc.2;rw[ht]at h1;exact az (s:=convert s d (a.eval x)) (by simp[execOp,ho]) (tR r (dX hc.1.1) (dX hc.1.2) h1) hn
 case h_21=>
  split at hc
  case h_2=>cases hc
  rename_i t x lo hi ho;simp only[Bool.and_eq_true]at hc;exact az (s:=Instr.sliceAt t (a.eval x) (lo.map a.eval) (hi.map a.eval) none) (by simp[execOp,ho]) (tS r hc.1.1.1 (ak hf hc.1.1.2) (eV hf hc.1.2) (eV hf hc.2) e) hn
 case h_22=>
  split at hc
  case h_2=>cases hc
  rename_i t x lo hi ho;simp only[Bool.and_eq_true]at hc;exact az (s:=Instr.sliceAt t (a.eval x) (lo.map a.eval) (hi.map a.eval) none) (by simp[execOp,ho]) (sj r (dX hc.1.1.1) (ak hf hc.1.1.2) (eV hf hc.1.2) (eV hf hc.2) e) hn
 case h_23=>
  split at hc
  case h_2=>cases hc
  rename_i t x lo hi mx ho;simp only[Bool.and_eq_true]at hc;obtain⟨⟨⟨⟨h1,h2⟩,h3⟩,h4⟩,h5⟩:=hc;obtain⟨k1,CD⟩:=qw (a:=a) h4;obtain⟨k2,CE⟩:=qw (a:=a) h5;have CF:lo.map a.eval=none\/∃k3,lo.map a.eval=some (.int k3 0):=by
   cases lo with
   |none=>exact .inl rfl
   |some l=>
    obtain⟨k3,CG⟩:=qw (a:=a) h3;exact .inr ⟨k3,by simp[CG]⟩
  exact az (s:=Instr.sliceAt t (a.eval x) (lo.map a.eval) (some (.int k1 0)) (some (.int k2 0))) (by simp[execOp,ho,CD,CE]) (tT r h1 CF (ak hf h2) e) hn
 case h_24=>
  split at hc
  case h_2=>cases hc
  rename_i args cz ho;split at hc
  case h_2=>cases hc
  rename_i x t hx ht;obtain rfl:args=#[x]:=Array.ext' hx;obtain rfl:cz=#[t]:=Array.ext' ht;simp only[Bool.and_eq_true]at hc;exact az (s:=Builtin.clear_ #[t] o.type #[a.eval x]) (by simp[execOp,ho,resolve,invoke,builtin]) (ub r hc.1 (ak hf hc.2) e) hn
 case h_25=>
  split at hc
  case h_2=>cases hc
  rename_i args cz ho;split at hc
  case h_2=>cases hc
  rename_i x t hx ht;obtain rfl:args=#[x]:=Array.ext' hx;obtain rfl:cz=#[t]:=Array.ext' ht;simp only[Bool.and_eq_true]at hc;exact az (s:=Builtin.len_ #[t] o.type #[a.eval x]) (by simp[execOp,ho,resolve,invoke,builtin]) (tU r hc.1 (ak hf hc.2) e) hn
 case h_26=>
  split at hc
  case h_2=>cases hc
  rename_i args cz ho;split at hc
  case h_2=>cases hc
  rename_i x z t u hx ht;obtain rfl:args=#[x,z]:=Array.ext' hx;obtain rfl:cz=#[t,u]:=Array.ext' ht;simp only[Bool.and_eq_true]at hc;exact az (s:=Builtin.append_ #[t,u] o.type #[a.eval x,a.eval z]) (by simp[execOp,ho,resolve,invoke,builtin]) (ua r hc.1.1 (ak hf hc.1.2) (ak hf hc.2) e) hn
 case h_27 x' ys=>
  split at hc
  case h_2=>cases hc
  rename_i args cz ho;have hR:=fZ hf hc;simp only[bk]at e;split at e
  case h_2=>exact(ae e).elim
  rename_i kk n hx;obtain⟨z,hz,e2⟩:=M.lift_bind e;obtain⟨rfl,rfl⟩:=af e2;simp only[List.map_cons]at hR;generalize eS:(args.map a.eval).toList=vs at hR;cases vs with
  |nil=>have:=hR.1;simp at this
  |cons v vs=>
   have h0:=hR.tail.1;rw[hx]at h0;obtain rfl:=h0.int;have aY:=wW P g.w (ys.map (ev fr)) vs n kk z hz hR.tail.2.1 hR.tail.2.2;exact az (s:=Builtin.min_ cz o.type (args.map a.eval)) (by simp[execOp,ho,resolve,invoke,builtin]) (.same r (v:=.int kk z) (by simp only[Builtin.min_,eS];exact aY) mkInt) hn
 case h_28 x' ys=>
  split at hc
  case h_2=>cases hc
  rename_i args cz ho;have hR:=fZ hf hc;simp only[bk]at e;split at e
  case h_2=>exact(ae e).elim
  rename_i kk n hx;obtain⟨z,hz,e2⟩:=M.lift_bind e;obtain⟨rfl,rfl⟩:=af e2;simp only[List.map_cons]at hR;generalize eS:(args.map a.eval).toList=vs at hR;cases vs with
  |nil=>have:=hR.1;simp at this
  |cons v vs=>
   have h0:=hR.tail.1;rw[hx]at h0;obtain rfl:=h0.int;have aY:=wX P g.w (ys.map (ev fr)) vs n kk z hz hR.tail.2.1 hR.tail.2.2;exact az (s:=Builtin.max_ cz o.type (args.map a.eval)) (by simp[execOp,ho,resolve,invoke,builtin]) (.same r (v:=.int kk z) (by simp only[Builtin.max_,eS];exact aY) mkInt) hn
 case h_29 x' i'=>
  split at hc
  case h_2=>cases hc
  rename_i x i ho;simp only[Bool.and_eq_true,beq_iff_eq]at hc;obtain⟨rfl,hx⟩:=hc;simp only[bk]at e;split at e
  case h_2=>exact(ae e).elim
  rename_i vs eS;obtain⟨hy,rfl⟩:=dy e;have h1:=ak hf hx;rw[eS]at h1;obtain⟨us,CH,cZ,gp⟩:∃us,a.eval x = .tuple us/\us.size=vs.length/\∀(j:Nat) (v:Value) (c:AV),us[j]?=some v->vs[j]?=some c->RA ν g v c:=by
   generalize a.eval x=vv at h1;cases h1 with | aR h1 h2=>exact⟨_,rfl,h1,h2⟩
  have aT:=ay hy;have hu:us[i]?=some us[i]:=Array.getElem?_eq_getElem (by omega);exact az (s:=Instr.extract (a.eval x) i) (by simp[execOp,ho]) (.same r (v:=us[i]) (by simp[CH,Instr.extract,hu]) (gp i _ _ hu hy)) hn
 case h_30=>
  split at hc
  case h_2=>cases hc
  rename_i x ho;have h1:=ak hf hc;simp only[bk]at e;split at e
  ·rename_i id ai i j hx;rw[hx]at h1;obtain⟨ob,hg,e2⟩:=M.aM e;obtain⟨cc,e4⟩:=M.aj e2;obtain⟨rfl,rfl⟩:=af e4;have hr:aG g (a.eval x) id ai i j:=by
    generalize a.eval x=vv at h1;cases h1 with | ref _ hr=>exact hr
   obtain⟨b,off,hv, -⟩:=hr.move hg cc 0;refine az (s:=pure (a.eval x)) ?_ (.same r rfl h1) hn;simp[execOp,ho,hv]
  ·rename_i cs hx;rw[hx]at h1;obtain⟨rfl,rfl⟩:=af e;obtain⟨b,off,hv⟩:=h1.ptr;refine az (s:=pure (a.eval x)) ?_ (.same r rfl h1) hn;simp[execOp,ho,hv]
  ·rename_i f cs hx;rw[hx]at h1;obtain⟨rfl,rfl⟩:=af e;have hv:∃ax,a.eval x = .func (.func (ν f)) #[] ax:=by
    generalize a.eval x=v at h1;cases h1 with | iv h=>cases h with | fn f ax cs h1 h2=>exact⟨ax,rfl⟩
   obtain⟨ax,hv⟩:=hv;refine az (s:=pure (a.eval x)) ?_ (.same r rfl h1) hn;simp[execOp,ho,hv]
  ·rename_i f cs hx;rw[hx]at h1;obtain⟨rfl,rfl⟩:=af e;have hv:∃ax,a.eval x = .func (.func (ν f)) #[] ax:=by
    generalize a.eval x=v at h1;cases h1 with | bp h1 h2=>exact⟨_,rfl⟩
   obtain⟨ax,hv⟩:=hv;refine az (s:=pure (a.eval x)) ?_ (.same r rfl h1) hn;simp[execOp,ho,hv]
  ·exact(ae e).elim
 case h_31 f' rl=>
  split at hc
  case h_2=>cases hc
  rename_i f first ax ho
  simp only[Bool.and_eq_true,beq_iff_eq]at hc;obtain⟨⟨rfl,jQ⟩,eM⟩:=hc;obtain⟨rfl,rfl⟩:=af e;have hR:=fZ hf eM;have yF:first=#[]:=by simpa using jQ
  subst yF;refine az (s:=Instr.makeFunc (.func (ν f')) (Array.map a.eval #[]) (ax.map a.eval)) (by simp[execOp,ho]) (.same r (v:=.func (.func (ν f')) #[] (ax.map a.eval)) (by simp[Instr.makeFunc]) ?_) hn;exact .bp (by have:=hR.1;simpa using this) λj v c h1 h2=>hR.2 j v c (by simpa using h1) h2
 case h_32 mode f' kx=>
  split at hc
  case h_2=>cases hc
  rename_i fo aS cz ho;simp only[Bool.and_eq_true]at hc;have nY:=ak hf hc.1;have hR:=fZ hf hc.2;simp only[bk]at e;split at e
  ·exact iI ho (qu hs r e nY hR) hn
  ·exact iI ho (yw hs r e nY hR) hn
  ·exact iI ho (yq hs r e nY hR) hn
  ·exact iI ho (yC hs r e nY hR) hn
  ·exact iI ho (oH hs r e nY hR) hn
 case h_33 x'=>
  split at hc
  case h_2=>cases hc
  rename_i s d x ho;simp only[Bool.and_eq_true]at hc;exact az (s:=convert s d (a.eval x)) (by simp[execOp,ho]) (ui r hc.1.1 hc.1.2 (ak hf hc.2) e) hn
 case h_34=>
  split at hc
  case h_2=>cases hc
  rename_i t ho;exact az (s:=Instr.makeMap t none) (by simp[execOp,ho]) (ug r e) hn
 case h_35 ok agg qs z m' k'=>
  split at hc
  case h_2=>cases hc
  rename_i t m kk o ho;simp only[Bool.and_eq_true,beq_iff_eq]at hc;obtain⟨⟨⟨⟨rfl,h1⟩,h2⟩,h3⟩,h4⟩:=hc;exact az (s:=Instr.lookup t (a.eval m) (a.eval kk) o) (by simp[execOp,ho]) (sq r h1 h2 (ak hf h3) (ak hf h4) e) hn
 case h_36 qs m' k' x'=>
  have key:∀{t:TypeId} {m kk x:Operand},(o.op = .mapUpdate t m kk x\/o.op = .insert t m kk x)->(iS P t qs&&aF ν m m'&&aF ν kk k'&&aF ν x x')=true->o.wp P a g.w next Q:=by
   intro t m kk x ho hc;simp only[Bool.and_eq_true]at hc;obtain⟨g',aY,rfl,hh,r',mm⟩:=su r hc.1.1.1 (ak hf hc.1.1.2) (ak hf hc.1.2) (ak hf hc.2) e;unfold Oper.wp;have hx:(execOp a.eval o).run P g.w = .ok .skip g'.w:=by rcases ho with ho | ho<;>simp[execOp,ho,aY]
   rw[hx];exact hn g' undef hh r' mm (.aR rfl λj v c h=>by simp at h)
  split at hc
  ·rename_i ho;exact key (.inl ho) hc
  ·rename_i ho;exact key (.inr ho) hc
  ·cases hc
 case h_37 qs m' k'=>
  split at hc
  case h_2=>cases hc
  rename_i args cz ho;split at hc
  case h_2=>cases hc
  rename_i x z t u hx ht;obtain rfl:args=#[x,z]:=Array.ext' hx;obtain rfl:cz=#[t,u]:=Array.ext' ht;simp only[Bool.and_eq_true]at hc;exact az (s:=Builtin.delete_ #[t,u] o.type #[a.eval x,a.eval z]) (by simp[execOp,ho,resolve,invoke,builtin]) (sw r hc.1.1 (ak hf hc.1.2) (ak hf hc.2) e) hn
 case h_38 m'=>
  split at hc
  case h_2=>cases hc
  rename_i args cz ho;split at hc
  case h_2=>cases hc
  rename_i x t hx ht;obtain rfl:args=#[x]:=Array.ext' hx;obtain rfl:cz=#[t]:=Array.ext' ht;simp only[Bool.and_eq_true]at hc;exact az (s:=Builtin.len_ #[t] o.type #[a.eval x]) (by simp[execOp,ho,resolve,invoke,builtin]) (sr r hc.1 (ak hf hc.2) e) hn
end
end ao
namespace ao
open Go
def GE {α:Type} (h h':List (Nat×α)):Prop:=∀n,get h n=get h' n
theorem GE.refl {α:Type} (h:List (Nat×α)):GE h h:=λ_=>rfl
theorem GE.symm {α:Type} {h h':List (Nat×α)} (e:GE h h'):GE h' h:=λn=>(e n).symm
theorem GE.trans {α:Type} {a b c:List (Nat×α)} (e:GE a b) (f:GE b c):GE a c:=λn=>(e n).trans (f n)
theorem GE.set {α:Type} {h h':List (Nat×α)} (e:GE h h') (n:Nat) (x:α):GE (set h n x) (set h' n x):=λm=>by simp[aQ,e m]
theorem M.frame {α:Type}:∀(m:M α) (h h' h1:Hp) (a:α),m.run h=some (a,h1)->(∀n ∈ (m.bz h).1,ao.get h n=ao.get h' n)->
  ∃mj,m.run h'=some (a,mj)/\m.bz h'=m.bz h/\(∀n ∈ (m.bz h).2,ao.get mj n=ao.get h1 n)/\∀n,n ∉ (m.bz h).2->ao.get mj n=ao.get h' n/\ao.get h1 n=ao.get h n
 |.ret x,h,h',h1,a,e,_=>by
  simp only[M.run,Option.some.injEq,Prod.mk.injEq]at e;obtain⟨rfl,rfl⟩:=e;exact⟨h',rfl,rfl,λn hn=>by simp[M.bz]at hn,λn _=>⟨rfl,rfl⟩⟩
 |.fail,h,h',h1,a,e,_=>by simp[M.run]at e
 |.get id k,h,h',h1,a,e,hr=>by
  simp only[M.run]at e;simp only[M.bz,List.mem_cons]at hr ⊢;have bt:=hr id (.inl rfl);obtain⟨mj,e1,e2,e3,e4⟩:=M.frame (k (ao.get h id)) h h' h1 a e λn hn=>hr n (.inr hn)
  refine⟨mj,?_,?_,e3,e4⟩
  ·simp only[M.run,<-bt];exact e1
  ·simp only[<-bt];rw[e2]
 |.put id o k,h,h',h1,a,e,hr=>by
  simp only[M.run]at e;simp only[M.bz,List.mem_append,List.mem_singleton,not_or]at hr ⊢;obtain⟨mj,e1,e2,e3,e4⟩:=M.frame k (ao.set h id o) (ao.set h' id o) h1 a e λn hn=>by simp[aQ,hr n hn]
  refine⟨mj,e1,by rw[e2],?_,?_⟩
  ·rintro n (hn | rfl)
   ·exact e3 n hn
   ·by_cases dV:n ∈ (k.bz (ao.set h n o)).2
    ·exact e3 n dV
    ·obtain⟨a1,a2⟩:=e4 n dV;rw[a1,a2];simp[aQ]
  ·intro n hn;obtain⟨a1,a2⟩:=e4 n hn.1;have bF:id≠n:=λh=>hn.2 h.symm
   exact⟨by rw[a1];simp[aQ,bF],by rw[a2];simp[aQ,bF]⟩
def cb:aH->List Nat
 |.t n=>[n]
 |.c _=>[]
def jt:Option aH->List Nat
 |some x=>cb x
 |none=>[]
def fQ:List aH->List Nat
 |[]=>[]
 |x::r=>cb x++fQ r
def iJ {α:Type} (f:α->aH):List α->List Nat
 |[]=>[]
 |x::r=>cb (f x)++iJ f r
def gS:jF->List Nat
 |.nU x | .box x | .eD _ x | .fk _ _ _ x | .un _ x | .qO _ x | .tC x | .sY x | .lh _ x | .kV _ _ x | .len _ x | .ext x _ | .mz x | .load _ _ x=>cb x
 |.wu _ | .alloc _ | .sZ=>[]
 |.qh x=>cb x
 |.gT _ _ _ _ x y | .gV _ x y=>cb x++cb y
 |.gU _ x y z=>cb x++(cb y++cb z)
 |.pick c a b=>cb c++(cb a++cb b)
 |.build _ ps=>iJ (λp=>p.2.2) ps
 |.nV _ _ _ ps=>iJ (λp=>p.2) ps
 |.store _ x y | .eE _ _ x y | .gX _ x y | .eF _ _ _ x y | .fH x y | .bin _ _ x y | .oi _ _ x y | .app _ x y=>cb x++cb y
 |.hU _ x lo hi | .fR x lo hi=>cb x++(jt lo++jt hi)
 |.mn x ys | .mx x ys=>cb x++fQ ys
 |.oj _ cs=>fQ cs
 |.call _ f U=>cb f++fQ U
def ez (o:au):List Nat:=gS o.op++(match o.gd with | some (t,_)=>[t] | none=>[])
theorem dq {ρ ga:aH->AV}:∀{l:List aH},(∀x:aH,(∀n ∈ cb x,n ∈ fQ l)->ρ x=ga x)->l.map ρ=l.map ga
 |[],_=>rfl
 |x::r,h=>by
  simp only[List.map_cons,h x λn hn=>by simp[fQ,hn]];rw[dq (l:=r) λy hy=>h y λn hn=>by simp[fQ,hy n hn]]
theorem ik {α β:Type} {f:α->aH} {ρ ga:aH->AV} {F:α->AV->M β}:∀{l:List α},(∀x:aH,(∀n ∈ cb x,n ∈ iJ f l)->ρ x=ga x)->
  M.aJ (λp=>F p (ρ (f p))) l=M.aJ (λp=>F p (ga (f p))) l
 |[],_=>rfl
 |x::r,h=>by
  simp only[M.aJ];rw[h (f x) λn hn=>by simp[iJ,hn],ik (l:=r) λy hy=>h y λn hn=>by simp[iJ,hy n hn]]
theorem nE {call:Nat->List AV->Hp->Option (AV×Hp)} {slot:Nat} {ρ ga:aH->AV} {op:jF} (h:∀x:aH,(∀n ∈ cb x,n ∈ gS op)->ρ x=ga x):bk call slot ρ op=bk call slot ga op:=by
 cases op<;>simp only[gS]at h<;>simp only[bk]
 case pick c a b=>rw[h c λn hn=>by simp[hn],h a λn hn=>by simp[hn],h b λn hn=>by simp[hn]]
 case build z ps=>rw[ik (F:=λp v=>(bU v).bind λl=>(M.ok (l.length==p.2.1&&Nat.ble (p.1+p.2.1) z.length)).bind λ_=>.ret (p.1,l)) h]
 case nV e z n ps=>rw[ik (F:=λp v=>(bU v).bind λxs=>(M.ok (xs.length==e&&Nat.blt p.1 n)).bind λ_=>(M.aJ (fz true 8) xs).bind λl=>.ret (p.1,l)) h]
 case hU e x lo hi=>
  rw[h x λn hn=>by simp[hn]];have h1:lo.map ρ=lo.map ga:=by cases lo with | none=>rfl | some l=>simp[h l λn hn=>by simp[jt,hn]]
  have h2:hi.map ρ=hi.map ga:=by cases hi with | none=>rfl | some l=>simp[h l λn hn=>by simp[jt,hn]]
  rw[h1,h2]
 case fR x lo hi=>
  rw[h x λn hn=>by simp[hn]];have h1:lo.map ρ=lo.map ga:=by cases lo with | none=>rfl | some l=>simp[h l λn hn=>by simp[jt,hn]]
  have h2:hi.map ρ=hi.map ga:=by cases hi with | none=>rfl | some l=>simp[h l λn hn=>by simp[jt,hn]]
  rw[h1,h2]
 case mn x ys=>rw[h x λn hn=>by simp[hn],dq (l:=ys) λy hy=>h y λn hn=>by simp[hy n hn]]
 case mx x ys=>rw[h x λn hn=>by simp[hn],dq (l:=ys) λy hy=>h y λn hn=>by simp[hy n hn]]
 case oj f ys=>rw[dq (l:=ys) h]
 case call mode f ys=>rw[h f λn hn=>by simp[hn],dq (l:=ys) λy hy=>h y λn hn=>by simp[hy n hn]]
 case gU qs x y z=>rw[h x λn hn=>by simp[hn],h y λn hn=>by simp[hn],h z λn hn=>by simp[hn]]
 case gT ok agg qs z x y=>rw[h x λn hn=>by simp[hn],h y λn hn=>by simp[hn]]
 case gV qs x y=>rw[h x λn hn=>by simp[hn],h y λn hn=>by simp[hn]]
 case store sz x y=>rw[h x λn hn=>by simp[hn],h y λn hn=>by simp[hn]]
 case eE len e x y=>rw[h x λn hn=>by simp[hn],h y λn hn=>by simp[hn]]
 case gX e x y=>rw[h x λn hn=>by simp[hn],h y λn hn=>by simp[hn]]
 case eF a len e x y=>rw[h x λn hn=>by simp[hn],h y λn hn=>by simp[hn]]
 case fH x y=>rw[h x λn hn=>by simp[hn],h y λn hn=>by simp[hn]]
 case bin op q x y=>rw[h x λn hn=>by simp[hn],h y λn hn=>by simp[hn]]
 case oi neg qs x y=>rw[h x λn hn=>by simp[hn],h y λn hn=>by simp[hn]]
 case app e x y=>rw[h x λn hn=>by simp[hn],h y λn hn=>by simp[hn]]
 all_goals first | rfl | (rename_i x;rw[h x λn hn=>hn]) | (rename_i x _;rw[h x λn hn=>hn])
def SE (s s':St):Prop:=GE s.fr s'.fr/\GE s.hp s'.hp/\s.nx=s'.nx
theorem SE.refl (s:St):SE s s:=⟨.refl _,.refl _,rfl⟩
theorem SE.symm {s s':St} (h:SE s s'):SE s' s:=⟨h.1.symm,h.2.1.symm,h.2.2.symm⟩
theorem SE.trans {a b c:St} (h:SE a b) (h':SE b c):SE a c:=⟨h.1.trans h'.1,h.2.1.trans h'.2.1,h.2.2.trans h'.2.2⟩
theorem GE.bh {fr oK:Fr} (e:GE fr oK) (d:Option Nat) (v:AV):GE (bh fr d v) (bh oK d v):=by
 cases d with
 |none=>exact e
 |some d=>exact e.set d v
theorem iK {fr:Fr} {d:Option Nat} {v:AV} {n:Nat} (h:d≠some n):get (bh fr d v) n=get fr n:=by
 cases d with
 |none=>rfl
 |some d=>simp[ao.bh,aQ,show d≠n from λe=>h (by rw[e])]
theorem oL {fr:Fr} {d d':Option Nat} {v v':AV} (h:d≠d'\/d=none):GE (bh (bh fr d v) d' v') (bh (bh fr d' v') d v):=by
 intro n;cases d with
 |none=>rfl
 |some d=>
  cases d' with
  |none=>rfl
  |some d'=>
   have bF:d≠d':=λe=>by rcases h with h | h;exact h (by rw[e]);cases h
   simp only[ao.bh,aQ];by_cases h1:d'=n
   ·have:d≠n:=λe=>bF (e.trans h1.symm)
    simp[h1,this]
   ·simp[h1]
theorem sB {fr oK:Fr} {l:List Nat} (h:∀n ∈ l,get fr n=get oK n) (x:aH) (hx:∀n ∈ cb x,n ∈ l):ev fr x=ev oK x:=by
 cases x with
 |c v=>rfl
 |t n=>simp only[ev];rw[h n (hx n (by simp[cb]))]
abbrev bn:=List Nat×List Nat
section
variable {call:Nat->List AV->Hp->Option (AV×Hp)}
theorem im {slot:Nat} {o:au} {s s' s1:St} (e:step call slot o s=some s1) (hf:∀n ∈ ez o,get s.fr n=get s'.fr n)
  (hh:∀n ∈ (bu call slot o s).1,get s.hp n=get s'.hp n) :
  ∃eA v,step call slot o s'=some eA/\bu call slot o s'=bu call slot o s/\s1.fr=bh s.fr o.dst v/\eA.fr=bh s'.fr o.dst v/\s1.nx=s.nx/\eA.nx=s'.nx/\
   (∀n ∈ (bu call slot o s).2,get eA.hp n=get s1.hp n)/\∀n,n ∉ (bu call slot o s).2->get eA.hp n=get s'.hp n/\get s1.hp n=get s.hp n:=by
 have hw:bG s'.fr o.gd=bG s.fr o.gd:=by
  cases hg:o.gd with
  |none=>rfl
  |some g=>
   simp only[bG];rw[hf g.1 (by simp[ez,hg])]
 have ho:bk call slot (ev s'.fr) o.op=bk call slot (ev s.fr) o.op:=nE λx hx=>(sB hf x λn hn=>by simp[ez,hx n hn]).symm
 unfold step at e ⊢;unfold bu at hh ⊢;rw[hw,ho];cases yG:bG s.fr o.gd with
 |none=>rw[yG]at e;cases e
 |some b=>
  rw[yG]at e hh;cases b with
  |false=>
   simp only[Option.some.injEq]at e;subst e;exact⟨_,.aR [],rfl,rfl,rfl,rfl,rfl,rfl,λn h0=>by simp at h0,λn _=>⟨rfl,rfl⟩⟩
  |true=>
   simp only[]at e hh ⊢;cases hr:(bk call slot (ev s.fr) o.op).run s.hp with
   |none=>rw[hr]at e;cases e
   |some p=>
    obtain⟨v,h1⟩:=p;rw[hr]at e;simp only[Option.some.injEq]at e;subst e;obtain⟨mj,e1,e2,e3,e4⟩:=M.frame _ _ s'.hp _ _ hr hh;rw[e1];exact⟨_,v,rfl,e2,rfl,rfl,rfl,rfl,e3,e4⟩
theorem zP {slot:Nat} {o:au} {s s' s1:St} (e:step call slot o s=some s1) (h:SE s s') :
  ∃eA,step call slot o s'=some eA/\bu call slot o s'=bu call slot o s/\SE s1 eA:=by
 obtain⟨eA,v,e1,e2,e3,e4,e5,e6,e7,e8⟩:=im e (λn _=>h.1 n) λn _=>h.2.1 n
 refine⟨eA,e1,e2,?_,?_,?_⟩
 ·rw[e3,e4];exact h.1.bh _ _
 ·intro n;by_cases hn:n ∈ (bu call slot o s).2
  ·exact(e7 n hn).symm
  ·rw[(e8 n hn).1,(e8 n hn).2];exact h.2.1 n
 ·rw[e5,e6];exact h.2.2
def gf (x y:au):Bool:=
 (match x.dst with | some d=>!(ez y).contains d&&y.dst != some d | none=>true)&&(match y.dst with | some d=>!(ez x).contains d | none=>true)
theorem mH {x y:au} (h:gf x y=true):(∀d,x.dst=some d->d ∉ ez y)/\(x.dst≠y.dst\/x.dst=none)/\∀d,y.dst=some d->d ∉ ez x:=by
 unfold gf at h;simp only[Bool.and_eq_true]at h;obtain⟨h1,h2⟩:=h;refine⟨λd hd=>?_,?_,λd hd=>?_⟩
 ·rw[hd]at h1;simp at h1;exact h1.1
 ·cases hx:x.dst with
  |none=>exact .inr rfl
  |some d=>
   rw[hx]at h1;simp at h1;exact .inl λe=>h1.2 e.symm
 ·rw[hd]at h2;simpa using h2
theorem jR {a b:List Nat} (h:meets a b=false):∀n ∈ a,n ∉ b:=by
 intro n hn hb;have:meets a b=true:=by simp only[meets,List.any_eq_true,List.contains_iff_mem];exact⟨n,hn,hb⟩
 rw[h]at this;cases this
theorem swap {sx sy:Nat} {x y:au} {s s1 s2:St} (e1:step call sx x s=some s1) (e2:step call sy y s1=some s2) (hT:gf x y=true)
  (hc:c9 (bu call sx x s) (bu call sy y s1)=false) :
  ∃t1 t2,step call sy y s=some t1/\bu call sy y s=bu call sy y s1/\step call sx x t1=some t2/\bu call sx x t1=bu call sx x s/\SE s2 t2:=by
 obtain⟨a1,a2,a3⟩:=mH hT;simp only[c9,Bool.or_eq_false_iff]at hc;have c1:=jR hc.1;have c2:=jR hc.2;obtain⟨_,v,_,_,f1,_,n1,_,_,w1⟩:=im (s':=s) e1 (λn _=>rfl) λn _=>rfl
 obtain⟨t1,u,e3,e4,f2,f3,n2,n3,w2,w3⟩:=im (s':=s) e2 (λn hn=>by
   rw[f1];exact iK λh=>a1 n h hn) (λn hn=>(w1 n λhm=>c1 n hm (by simp[hn])).2)
 obtain⟨t2,v',e5,e6,f4,f5,n4,n5,w4,w5⟩:=im (s':=t1) e1 (λn hn=>by
   rw[f3];exact(iK λh=>a3 n h hn).symm) (λn hn=>((w3 n λhm=>c2 n hm (by simp[hn])).1).symm)
 refine⟨t1,t2,e3,e4,e5,e6,?_,?_,?_⟩
 ·have hv:bh (bh s.fr y.dst u) x.dst v'=bh (bh s.fr y.dst u) x.dst v\/x.dst=none:=by
   cases hx:x.dst with
   |none=>exact .inr rfl
   |some d=>
    rw[f1,hx]at f4;have:=congrArg (λl=>get l d) f4;simp[ao.bh,an]at this;exact .inl (by rw[this])
  rw[f2,f5,f1,f3];rcases hv with hv | hv
  ·rw[hv];exact oL a2
  ·rw[hv];exact .refl _
 ·intro n;by_cases hx:n ∈ (bu call sx x s).2
  ·have hy:n ∉ (bu call sy y s1).2:=λh=>c1 n hx (by simp[h])
   rw[w4 n hx,(w3 n hy).2]
  ·rw[(w5 n hx).1];by_cases hy:n ∈ (bu call sy y s1).2
   ·rw[w2 n hy]
   ·rw[(w3 n hy).1,(w3 n hy).2,(w1 n hx).2]
 ·rw[n2,n1,n5,n3]
inductive eB (call:Nat->List AV->Hp->Option (AV×Hp)) (s0:Nat):List (Nat×au×bn)->St->St->Prop
 |nil {s s':St} (h:SE s s'):eB call s0 [] s s'
 |cons {i:Nat} {o:au} {f:bn} {r:List (Nat×au×bn)} {s s1 s':St} (e:step call (s0+64*i) o s=some s1) (hf:bu call (s0+64*i) o s=f)
   (hr:eB call s0 r s1 s'):eB call s0 ((i,o,f)::r) s s'
theorem eB.ext {s0:Nat} {l:List (Nat×au×bn)} {s t s':St} (h:eB call s0 l s s') (e:SE s t):eB call s0 l t s':=by
 induction h generalizing t with
 |nil h=>exact .nil (e.symm.trans h)
 |cons e1 hf _ ih=>
  obtain⟨t1,e2,e3,e4⟩:=zP e1 e;exact .cons e2 (e3.trans hf) (ih e4)
def ru (x y:Nat×au×bn):Prop:=gf x.2.1 y.2.1=true/\c9 x.2.2 y.2.2=false
theorem eB.front {s0:Nat} {x:Nat×au×bn} {l2:List (Nat×au×bn)} {s':St}:∀(l1:List (Nat×au×bn)) (s:St),eB call s0 (l1++x::l2) s s'->(∀y ∈ l1,ru y x)->
  ∃s1,step call (s0+64*x.1) x.2.1 s=some s1/\bu call (s0+64*x.1) x.2.1 s=x.2.2/\eB call s0 (l1++l2) s1 s'
 |[],s,h,_=>by
  cases h with
  |cons e hf hr=>exact⟨_,e,hf,hr⟩
 |y::l1,s,h,ha=>by
  cases h with
  |cons e hf hr=>
   obtain⟨t1,e2,f2,r2⟩:=eB.front l1 _ hr λz hz=>ha z (by simp[hz])
   obtain⟨h1,h2⟩:=ha _ (List.mem_cons_self ..);obtain⟨u1,u2,e3,e4,e5,e6,e7⟩:=swap e e2 h1 (by rw[hf,f2];exact h2);exact⟨u1,e3,e4.trans f2,.cons e5 (e6.trans hf) (r2.ext e7)⟩
end
section
variable {prog:Nat->Option al}
def Ev (prog:Nat->Option al) (f:Nat) (args:List AV) (hp:Hp) (p:AV×Hp):Prop:=∃K,∀n,K<=n->bg prog n f args hp=some p
def kX (prog:Nat->Option al) (f:Nat) (args:List AV) (y:AV):Prop:=∃K,∀n,K<=n->(bg prog n f args []).bind shut=some y
def Wp (prog:Nat->Option al) (c:IC) (s:St) (Q:Ex->St->Prop):Prop:=∃K ex s',(∀n,K<=n->aA (bg prog n) n c s=some (ex,s'))/\Q ex s'
def Ex.then (k:St->Prop) (Q:Ex->St->Prop):Ex->St->Prop
 |.norm,s=>k s
 |e,s=>Q e s
def Ex.inBlock (id:Nat) (Q:Ex->St->Prop):Ex->St->Prop
 |.exit i,s=>if i=id then Q .norm s else Q (.exit i) s
 |e,s=>Q e s
theorem Wp.mono {c:IC} {s:St} {Q Q':Ex->St->Prop} (h:Wp prog c s Q) (hq:∀e s,Q e s->Q' e s):Wp prog c s Q':=by
 obtain⟨K,ex,s',h,q⟩:=h;exact⟨K,ex,s',h,hq _ _ q⟩
theorem dt {s:St} {Q:Ex->St->Prop} (h:Q .norm s):Wp prog .skip s Q:=⟨0,_,_,λ_ _=>rfl,h⟩
theorem ki {id:Nat} {s:St} {Q:Ex->St->Prop} (h:Q (.exit id) s):Wp prog (.exit id) s Q:=⟨0,_,_,λ_ _=>rfl,h⟩
theorem cB {s:St} {Q:Ex->St->Prop} (h:Q .ret s):Wp prog .ret s Q:=⟨0,_,_,λ_ _=>rfl,h⟩
theorem aU {a b:IC} {s:St} {Q:Ex->St->Prop} (h:Wp prog a s (Ex.then (λs'=>Wp prog b s' Q) Q)):Wp prog (.seq a b) s Q:=by
 obtain⟨K,ex,s',h,q⟩:=h;cases ex with
 |norm=>
  obtain⟨K2,uw,s2,h2,q2⟩:=q;exact⟨max K K2,uw,s2,λn hn=>by simp only[aA,h n (by omega),h2 n (by omega)],q2⟩
 |exit i=>exact⟨K,_,_,λn hn=>by simp only[aA,h n hn],q⟩
 |ret=>exact⟨K,_,_,λn hn=>by simp only[aA,h n hn],q⟩
theorem bL {c:aH} {a b:IC} {s:St} {Q:Ex->St->Prop} {t:Bool} (hc:ev s.fr c = .iv (.bool t)) (h:Wp prog (if t then a else b) s Q):Wp prog (.cond c a b) s Q:=by
 obtain⟨K,ex,s',h,q⟩:=h;refine⟨K,ex,s',λn hn=>?_,q⟩;have:=h n hn;cases t<;>simpa[aA,hc]using this
theorem dS {id:Nat} {b:IC} {s:St} {Q:Ex->St->Prop} (h:Wp prog b s (Ex.inBlock id Q)):Wp prog (.block id b) s Q:=by
 obtain⟨K,ex,s',h,q⟩:=h;cases ex with
 |norm=>exact⟨K,_,_,λn hn=>by simp only[aA,h n hn],q⟩
 |ret=>exact⟨K,_,_,λn hn=>by simp only[aA,h n hn],q⟩
 |exit i=>
  simp only[Ex.inBlock]at q;by_cases hi:i=id
  ·rw[if_pos hi]at q;exact⟨K,.norm,s',λn hn=>by simp only[aA,h n hn,if_pos hi],q⟩
  ·rw[if_neg hi]at q;exact⟨K,.exit i,s',λn hn=>by simp only[aA,h n hn,if_neg hi],q⟩
theorem bH {draw:Bool} {ops:List au} {keep:List Nat} {s s':St} {Q:Ex->St->Prop} {K:Nat} (h:∀n,K<=n->aO (bg prog n) draw ops keep s=some s') (q:Q .norm s'):Wp prog (.gm draw ops keep) s Q:=
 ⟨K,_,_,λn hn=>by simp only[aA,h n hn,Option.map_some],q⟩
theorem xb {draw:Bool} {ops:List au} {keep:List Nat} {s s':St} {Q:Ex->St->Prop} (q:Q .norm s') (h:∀n,0<=n->aO (bg prog n) draw ops keep s=some s':=by intro n hn;simp;rfl):Wp prog (.gm draw ops keep) s Q:=bH (K:=0) h q
theorem nF {draw:Bool} {ops:List au} {keep:List Nat} {s s':St} {Q:Ex->St->Prop} (h:∀{n:Nat},aO (bg prog n) draw ops keep s=some s') (q:Q .norm s'):Wp prog (.gm draw ops keep) s Q:=bH (K:=0) (λ_ _=>h) q
theorem eN {draw:Bool} {ops:List au} {keep:List Nat} {b:IC} {s s':St} {Q:Ex->St->Prop} (h:∀{n:Nat},aO (bg prog n) draw ops keep s=some s') (q:Wp prog b s' Q):Wp prog (.seq (.gm draw ops keep) b) s Q:=aU (bH (K:=0) (λ_ _=>h) q)
theorem en {draw:Bool} {ops:List au} {keep:List Nat} {b:IC} {s s':St} {Q:Ex->St->Prop} (q:Wp prog b s' Q) (h:∀n,0<=n->aO (bg prog n) draw ops keep s=some s':=by intro n hn;simp;rfl):Wp prog (.seq (.gm draw ops keep) b) s Q:=aU (bH (K:=0) h q)
theorem g9 {draw:Bool} {ops:List au} {keep:List Nat} {b:IC} {s s':St} {Q:Ex->St->Prop} {K:Nat} (h:∀n,K<=n->aO (bg prog n) draw ops keep s=some s') (q:Wp prog b s' Q):Wp prog (.seq (.gm draw ops keep) b) s Q:=aU (bH h q)
theorem pD {keep:List Nat} {b:IC} {s:St} {Q:Ex->St->Prop} (I:Nat->St->Prop) {m:Nat} (h0:I m { s with fr:=bb keep s.fr })
  (round:∀m s1,I m s1->Wp prog b s1 (Ex.then (λs2=>∃j,j<m/\I j (again keep s.nx s2)) Q)):Wp prog (.loop keep b) s Q:=by
 have key:∀m s1,I m s1->∃K ex s',(∀n,K<=n->∀j,K<=j->iter (aA (bg prog n) n b) keep s.nx j s1=some (ex,s'))/\Q ex s':=by
  intro m
  induction m using Nat.strongRecOn with
  |_ m ih=>
   intro s1 hI;obtain⟨K,ex,s2,h,q⟩:=round m s1 hI;cases ex with
   |norm=>
    obtain⟨j,hj,CI⟩:=q;obtain⟨K2,uw,s3,h2,q2⟩:=ih j hj _ CI;refine⟨max K K2+1,uw,s3,λn hn i hi=>?_,q2⟩;obtain⟨i,rfl⟩:∃i',i=i'+1:=⟨i - 1,by omega⟩;simp only[iter,h n (by omega)];exact h2 n (by omega) i (by omega)
   |exit e=>
    refine⟨K+1,.exit e,s2,λn hn i hi=>?_,q⟩;obtain⟨i,rfl⟩:∃i',i=i'+1:=⟨i - 1,by omega⟩;simp only[iter,h n (by omega)]
   |ret=>
    refine⟨K+1,.ret,s2,λn hn i hi=>?_,q⟩;obtain⟨i,rfl⟩:∃i',i=i'+1:=⟨i - 1,by omega⟩;simp only[iter,h n (by omega)]
 obtain⟨K,ex,s',h,q⟩:=key m _ h0;exact⟨K,ex,s',λn hn=>by simp only[aA];exact h n hn n hn,q⟩
def Fin (res:List dZ) (p:AV×Hp):Ex->St->Prop
 |.norm,s | .ret,s=>(dk s.fr res).run s.hp=some p
 |_,_=>False
theorem Ev.of {f:Nat} {fn:al} (hf:prog f=some fn) (dw:fn.cl=none) {args:List AV} (hn:args.length=fn.np) {hp:Hp} {p:AV×Hp} (h:Wp prog fn.body ⟨params args 0,hp,1000⟩ (Fin fn.res p)):Ev prog f args hp p:=by
 obtain⟨K,ex,s',h,q⟩:=h;refine⟨K+1,λn cZ=>?_⟩;obtain⟨n,rfl⟩:∃n',n=n'+1:=⟨n - 1,by omega⟩;simp only[bg,hf,dw,if_pos hn,h n (by omega)];cases ex with
 |norm=>exact q
 |ret=>exact q
 |exit i=>exact q.elim
def Gu (res:List dZ) (y:AV):Ex->St->Prop
 |.norm,s | .ret,s=>((dk s.fr res).run s.hp).bind shut=some y
 |_,_=>False
theorem kX.of {f:Nat} {fn:al} (hf:prog f=some fn) (dw:fn.cl=none) {args:List AV} (hn:args.length=fn.np) {y:AV} (h:Wp prog fn.body ⟨params args 0,[],1000⟩ (Gu fn.res y)):kX prog f args y:=by
 obtain⟨K,ex,s',h,q⟩:=h;refine⟨K+1,λn cZ=>?_⟩;obtain⟨n,rfl⟩:∃n',n=n'+1:=⟨n - 1,by omega⟩;simp only[bg,hf,dw,if_pos hn,h n (by omega)];cases ex with
 |norm=>exact q
 |ret=>exact q
 |exit i=>exact q.elim
end
abbrev pE:=Nat->List AV->Hp->Option (AV×Hp)
def vV (c c':pE):Prop:=∀f U hp p,c f U hp=some p->c' f U hp=some p
def jS {α:Type} (m m':M α):Prop:=∀h p,m.run h=some p->m'.run h=some p/\m'.bz h=m.bz h
theorem jS.refl {α:Type} (m:M α):jS m m:=λ_ _ e=>⟨e,rfl⟩
theorem M.fC {α β:Type} (m:M α) (f:α->M β) (h:Hp):(m.bind f).bz h=match m.run h with
  |some (a,h1)=>((m.bz h).1++((f a).bz h1).1,((f a).bz h1).2++(m.bz h).2)
  |none=>m.bz h:=by
 induction m generalizing h with
 |ret a=>simp[M.bind,M.run,M.bz]
 |fail=>simp[M.bind,M.run,M.bz]
 |get id k ih=>
  simp only[M.bind,M.run,M.bz,ih];cases(k (ao.get h id)).run h<;>simp
 |put id o k ih=>
  simp only[M.bind,M.run,M.bz,ih];cases k.run (ao.set h id o)<;>simp
theorem jS.bind {α β:Type} {m m':M α} {f f':α->M β} (h:jS m m') (hf:∀a,jS (f a) (f' a)):jS (m.bind f) (m'.bind f'):=by
 intro g p e;obtain⟨a,h1,e1,e2⟩:=ag e;obtain⟨q1,q2⟩:=h _ _ e1;obtain⟨q3,q4⟩:=hf a _ _ e2;refine⟨by rw[aW,q1];exact q3,?_⟩;rw[M.fC,M.fC,q1,e1];simp only[q2,q4]
theorem jS.lift {α:Type} {x y:Option α} (h:∀a,x=some a->y=some a):jS (M.lift x) (M.lift y):=by
 cases x with
 |none=>intro g p e;exact(ae e).elim
 |some a=>rw[h a rfl];exact .refl _
theorem sC {c c':pE} (h:vV c c') {slot:Nat} {ρ:aH->AV} (op:jF):jS (bk c slot ρ op) (bk c' slot ρ op):=by
 cases op<;>first | exact .refl _ | skip
 rename_i mode f args;simp only[bk]
 match mode with
 |0=>
  refine .bind (.refl _) λq=>.bind (.refl _) λU=>.bind (.lift λa ha=>?_) λr=>.refl _
  simp only[Option.bind_eq_some_iff]at ha ⊢;obtain⟨p,h1,h2⟩:=ha;exact⟨p,h _ _ _ _ h1,h2⟩
 |1=>exact .bind (.refl _) λq=>.bind (.refl _) λ_=>.bind (.refl _) λU=>.bind (.refl _) λos=>.bind (.lift λp hp=>h _ _ _ _ hp) λp=>.refl _
 |2=>exact .bind (.refl _) λq=>.bind (.refl _) λU=>.bind (.lift λp hp=>h _ _ _ _ hp) λp=>.refl _
 |4=>exact .bind (.refl _) λq=>.bind (.refl _) λ_=>.bind (.refl _) λ_=>.bind (.lift λp hp=>h _ _ _ _ hp) λp=>.refl _
 |3 | _+5=>
  refine .bind (.refl _) λq=>.bind (.refl _) λU=>.lift λa ha=>?_
  simp only[Option.bind_eq_some_iff]at ha ⊢;obtain⟨p,h1,h2⟩:=ha;exact⟨p,h _ _ _ _ h1,h2⟩
theorem pF {c c':pE} (h:vV c c') {slot:Nat} {o:au} {s s1:St} (e:step c slot o s=some s1):step c' slot o s=some s1/\bu c' slot o s=bu c slot o s:=by
 unfold step at e ⊢;unfold bu;split at e
 ·rename_i hw;cases hr:(bk c slot (ev s.fr) o.op).run s.hp with
  |none=>rw[hr]at e;cases e
  |some p=>
   obtain⟨q1,q2⟩:=sC h o.op _ _ hr;rw[hr]at e;rw[hw,q1];exact⟨e,q2⟩
 ·rename_i hw;rw[hw];exact⟨e,rfl⟩
 ·cases e
theorem oM {c c':pE} (h:vV c c'):∀(ops:List au) (slot:Nat) (s s1:St),aX c ops slot s=some s1->aX c' ops slot s=some s1/\bC c' ops slot s=bC c ops slot s
 |[],slot,s,s1,e=>⟨e,rfl⟩
 |o::r,slot,s,s1,e=>by
  simp only[aX,bC]at e ⊢;cases h1:step c slot o s with
  |none=>rw[h1]at e;cases e
  |some s2=>
   obtain⟨q1,q2⟩:=pF h h1;rw[h1]at e;rw[q1];obtain⟨q3,q4⟩:=oM h r _ _ _ e;exact⟨q3,by simp only[q2,q4]⟩
theorem ux {c c':pE} (h:vV c c') {draw:Bool} {ops:List au} {keep:List Nat} {s s1:St} (e:aO c draw ops keep s=some s1):aO c' draw ops keep s=some s1:=by
 unfold aO at e ⊢;cases h1:aX c ops s.nx s with
 |none=>rw[h1]at e;cases e
 |some s2=>
  obtain⟨q1,q2⟩:=oM h ops _ _ _ h1;rw[h1]at e;rw[q1,q2];exact e
theorem mX {f f':St->Option (Ex×St)} (h:∀s r,f s=some r->f' s=some r) {keep:List Nat} {n0:Nat}:∀(m m':Nat) (s:St) (r:Ex×St),m<=m'->iter f keep n0 m s=some r->iter f' keep n0 m' s=some r
 |0,_,s,r,_,e=>by simp[iter]at e
 |m+1,m',s,r,hm,e=>by
  obtain⟨m',rfl⟩:∃k,m'=k+1:=⟨m' - 1,by omega⟩;simp only[iter]at e ⊢;cases h1:f s with
  |none=>rw[h1]at e;cases e
  |some p=>
   obtain⟨ex,s1⟩:=p;rw[h1]at e;rw[h _ _ h1];cases ex with
   |norm=>exact mX h m m' _ r (by omega) e
   |exit i=>exact e
   |ret=>exact e
theorem mY {c c':pE} (h:vV c c') {n n':Nat} (hn:n<=n'):∀(ic:IC) (s:St) (r:Ex×St),aA c n ic s=some r->aA c' n' ic s=some r:=by
 intro ic
 induction ic with
 |skip=>exact λs r e=>e
 |exit id=>exact λs r e=>e
 |ret=>exact λs r e=>e
 |gm draw ops keep=>
  intro s r e;simp only[aA,Option.map_eq_some_iff]at e ⊢;obtain⟨s1,h1,h2⟩:=e;exact⟨s1,ux h h1,h2⟩
 |seq a b oN oO=>
  intro s r e;simp only[aA]at e ⊢;cases h1:aA c n a s with
  |none=>rw[h1]at e;cases e
  |some p=>
   obtain⟨ex,s1⟩:=p;rw[h1]at e;rw[oN _ _ h1];cases ex with
   |norm=>exact oO _ _ e
   |exit i=>exact e
   |ret=>exact e
 |cond d a b oN oO=>
  intro s r e;simp only[aA]at e ⊢;generalize ev s.fr d=v at e;split at e
  ·rename_i t;cases t with
   |true=>exact oN _ _ e
   |false=>exact oO _ _ e
  ·cases e
 |block id b ih=>
  intro s r e;simp only[aA]at e ⊢;cases h1:aA c n b s with
  |none=>rw[h1]at e;cases e
  |some p=>
   rw[h1]at e;rw[ih _ _ h1];exact e
 |loop keep b ih=>
  intro s r e;simp only[aA]at e ⊢;exact mX ih n n' _ r hn e
theorem qx {prog:Nat->Option al}:∀(n n':Nat),n<=n'->vV (bg prog n) (bg prog n')
 |0,_,_=>λf U hp p e=>by simp[bg]at e
 |n+1,n',hn=>by
  obtain⟨n',rfl⟩:∃k,n'=k+1:=⟨n' - 1,by omega⟩;have ih:=qx (prog:=prog) n n' (by omega);intro f U hp p e;simp only[bg]at e ⊢;cases hf:prog f with
  |none=>rw[hf]at e;cases e
  |some fn=>
   rw[hf]at e;simp only[]at e ⊢;cases dw:fn.cl with
   |some q=>
    rw[dw]at e;simp only[]at e ⊢;split at e
    ·rename_i hb;rw[if_pos hb];exact e
    ·rename_i hb;rw[if_neg hb];cases hs:wz q.1 U hp with
     |some r=>rw[hs]at e;exact e
     |none=>
      rw[hs]at e;simp only[]at e ⊢;split at e
      ·rename_i hl;rw[if_pos hl];cases h1:aA (bg prog n) n fn.body ⟨params U 0,hp,1000⟩with
       |none=>rw[h1]at e;cases e
       |some q=>
        rw[h1]at e;rw[mY ih (by omega) _ _ _ h1];exact e
      ·cases e
   |none=>
    rw[dw]at e;simp only[]at e ⊢;split at e
    ·rename_i hl;rw[if_pos hl];cases h1:aA (bg prog n) n fn.body ⟨params U 0,hp,1000⟩with
     |none=>rw[h1]at e;cases e
     |some q=>
      rw[h1]at e;rw[mY ih (by omega) _ _ _ h1];exact e
    ·cases e
theorem Ev.at {prog:Nat->Option al} {n f:Nat} {args:List AV} {hp:Hp} {p:AV×Hp} (e:bg prog n f args hp=some p):Ev prog f args hp p:=⟨n,λm hm=>qx n m hm _ _ _ _ e⟩
def NP {α:Type} (m:M α):Prop:=∀h,(m.bz h).2=[]
theorem NP.ret {α:Type} (a:α):NP (M.ret a):=λ_=>rfl
theorem NP.fail {α:Type}:NP (M.fail:M α):=λ_=>rfl
theorem NP.bind {α β:Type} {m:M α} {f:α->M β} (h:NP m) (hf:∀a,NP (f a)):NP (m.bind f):=by
 intro g;rw[M.fC];cases hr:m.run g with
 |none=>exact h g
 |some p=>simp[h g,hf p.1 p.2]
theorem NP.ok (b:Bool):NP (M.ok b):=by cases b<;>exact λ_=>rfl
theorem NP.lift {α:Type} (x:Option α):NP (M.lift x):=by cases x<;>exact λ_=>rfl
theorem NP.look (id:Nat):NP (M.look id):=by
 intro h;simp only[M.look,M.bz];cases get h id<;>rfl
theorem NP.aJ {α β:Type} {f:α->M β} (hf:∀a,NP (f a)):∀l:List α,NP (M.aJ f l)
 |[]=>.ret _
 |x::r=>.bind (hf x) λ_=>.bind (NP.aJ hf r) λ_=>.ret _
theorem NP.fz:∀(n:Nat) (a:AV),NP (fz false n a)
 |0,a=>.fail
 |n+1,a=>by
  have ih:=NP.fz n;unfold ao.fz;cases a with
  |iv x=>cases x<;>exact .ret _
  |own id o m ai=>
   refine .bind (.look id) λob=>?_
   cases ob with
   |cells cs=>exact .fail
   |buf v e es=>exact .bind (.ok _) λ_=>.ret _
   |aZ v e es=>exact .bind (.ok _) λ_=>.ret _
   |map _=>exact .fail
  |ref id ai i j=>
   refine .bind (.look id) λob=>?_
   cases ob with
   |cells cs=>exact .bind (.ok _) λ_=>.bind (.aJ ih _) λ_=>.ret _
   |buf v e es=>exact .bind (.ok _) λ_=>.bind (.lift _) λ_=>.ret _
   |aZ v e es=>exact .bind (.ok _) λ_=>.bind (.lift _) λ_=>.ret _
   |map _=>exact .fail
  |bp f ax=>exact .bind (.aJ ih _) λ_=>.ret _
  |undef=>exact .fail
  |agg cs=>exact .fail
  |aR vs=>exact .fail
theorem NP.gL (a:AV):NP (gL false a):=.bind (NP.fz 8 a) λ_=>.ret _
theorem NP.ek (a:AV):NP (ek false a):=by
 cases a with
 |agg cs=>exact .bind (.aJ NP.gL _) λ_=>.ret _
 |iv x=>exact NP.gL _
 |own id o n v=>exact NP.gL _
 |ref id v i j=>exact NP.gL _
 |bp f c=>exact NP.gL _
 |undef=>exact NP.gL _
 |aR vs=>exact NP.gL _
theorem NP.mk (agg:Bool) (l:List AV):NP (mk agg l):=by
 unfold ao.mk;cases agg
 ·match l with
  |[]=>exact .fail
  |[x]=>exact .ret _
  |_::_::_=>exact .fail
 ·exact .ret _
theorem NP.load (agg:Bool) (sz:Nat) (a:AV):NP (load agg sz a):=by
 unfold ao.load;split
 ·exact .bind (.look _) λo=>.bind (.lift _) λ_=>.bind (.ok _) λ_=>.mk _ _
 ·exact .bind (.ok _) λ_=>.mk _ _
 ·exact .fail
theorem NP.idx (a:AV):NP (idx a):=by unfold ao.idx;split<;>first | exact .ret _ | exact .fail
theorem NP.bound (y:Nat) (a:Option AV):NP (bound y a):=by unfold ao.bound;split<;>first | exact .ret _ | exact .fail | exact .bind (.ok _) λ_=>.ret _
theorem NP.fk (agg:Bool) (off sz:Nat) (a:AV):NP (fk agg off sz a):=by
 unfold ao.fk;split
 ·exact .bind (.ok _) λ_=>.mk _ _
 ·exact .fail
end ao
namespace ao
open Go Go.RowKit
section
variable {ν:Nat->Nat} {P:Program} {k:Cx}
theorem Rel.he {g:Gh} (r:Rel ν k g) {h':Hp} (e:GE g.h h'):Rel ν k { g with h:=h' }/\aV ν g { g with h:=h' }:=by
 have hm:aV ν g { g with h:=h' }:=λv x hx=>RA.mono (g:=g) (g':={ g with h:=h' }) (λ_ _ h=>h)
  (λv id o n ai h=>by unfold aE at h ⊢;rw[e id]at h;exact h) (λv id ai i j h=>by unfold aG at h ⊢;rw[e id]at h;exact h) hx
 refine⟨⟨λid o ho=>?_,λid bW o o' b h1 h2=>r.inj id bW o o' b ((e id).trans h1) ((e bW).trans h2),r.small,r.i0,r.i1,λid o b h=>r.own id o b ((e id).trans h),r.size,r.os,r.tape,r.output,r.cu⟩,hm⟩;have cu:=r.ob id o ((e id).trans ho);cases o with
 |cells cs=>
  obtain⟨b,e1,e2,e3,e4⟩:=cu;exact⟨b,e1,e2,e3,λj c hc=>let⟨v,c1,c2,c3⟩:=e4 j c hc;⟨v,c1,c2,hm _ _ c3⟩⟩
 |buf v e es=>exact cu
 |aZ v e es=>exact cu
 |map aL=>
  obtain⟨b,es,clock,e1,e2,e3,e4,e5,e6⟩:=cu;exact⟨b,es,clock,e1,e2,e3,e4,e5,λj e p h1 h2=>let⟨c1,c2⟩:=e6 j e p h1 h2;⟨hm _ _ c1,hm _ _ c2⟩⟩
structure ca (ν:Nat->Nat) (k:Cx) (nt:Nat) (g:Gh) (a:Act) (s:St):Prop where
 h:g.h=s.hp
 r:Rel ν k g
 f:eU ν g a.tmps s.fr
 n:nt<=a.tmps.size
 d:a.defers=[]
theorem ca.ju {nt:Nat} {g:Gh} {a:Act} {s s':St} (m:ca ν k nt g a s) (e:SE s s'):ca ν k nt { g with h:=s'.hp } a s'/\aV ν g { g with h:=s'.hp }:=by
 have he:GE g.h s'.hp:=by rw[m.h];exact e.2.1
 obtain⟨r,hm⟩:=m.r.he he;exact⟨⟨rfl,r,λt x ht=>let⟨v,h1,h2⟩:=m.f t x ((e.1 t).trans ht);⟨v,h1,hm _ _ h2⟩,m.n,m.d⟩,hm⟩
theorem ca.put {nt:Nat} {g g':Gh} {a:Act} {s:St} (m:ca ν k nt g a s) {h':Hp} {v:Value} {y:AV} {d:Option Nat} (hd:∀t,d=some t->t<nt) (hh:g'.h=h') (r':Rel ν k g') (hm:aV ν g g')
  (hv:RA ν g' v y):ca ν k nt g' (a.put d v) { s with fr:=bh s.fr d y,hp:=h' }:=by
 refine⟨hh,r',?_,?_,?_⟩
 ·cases d with
  |none=>exact m.f.mono hm
  |some d=>
   intro t x ht;simp only[ao.bh,aQ]at ht;have aT:d<a.tmps.size:=Nat.lt_of_lt_of_le (hd d rfl) m.n;by_cases uy:d=t
   ·subst uy;simp only[if_true,Option.some.injEq]at ht;subst ht;exact⟨v,by simp[Act.put,aT],hv⟩
   ·rw[if_neg uy]at ht;obtain⟨u,h1,h2⟩:=m.f t x ht;exact⟨u,by simp[Act.put,Array.getElem?_setIfInBounds_ne uy,h1],hm _ _ h2⟩
 ·cases d with
  |none=>exact m.n
  |some d=>simpa[Act.put]using m.n
 ·cases d with
  |none=>exact m.d
  |some d=>exact m.d
def eo (P:Program) (ν:Nat->Nat) (nt:Nat) (ops:Array Oper) (o:Oper) (io:au):Bool:=
 o.dst==io.dst&&(match io.dst with | some d=>Nat.blt d nt | none=>true) &&
 (match o.guard,io.gd with | none,none=>true | some (j,b),some (t,c)=>b==c&&(ops[j]?).bind (·.dst)==some t | _,_=>false)&&rj P ν o.op io.op
theorem iY {g:Gh} {a:Act} {s:St} {nt:Nat} (m:ca ν k nt g a s) {ops:Array Oper} {o:Oper} {io:au} (hc:eo P ν nt ops o io=true) {b:Bool} (h:bG s.fr io.gd=some b) :
  Region.wanted o (yielded ops a.tmps)=b:=by
 simp only[eo,Bool.and_eq_true]at hc;obtain⟨⟨_,hg⟩,_⟩:=hc;unfold Region.wanted;split at hg
 ·rename_i h1 h2;rw[h2]at h;simp only[bG,Option.some.injEq]at h;rw[h1];exact h
 ·rename_i j want t c h1 h2;simp only[Bool.and_eq_true,beq_iff_eq]at hg;obtain⟨rfl,hj⟩:=hg;rw[h2]at h;simp only[h1,yielded,hj,Option.bind_some];simp only[bG]at h;split at h
  ·rename_i c' cf;obtain⟨v,hv,hR⟩:=m.f _ _ cf;cases hR with
   |iv hI=>cases hI with
    |bool=>simp only[Option.some.injEq]at h;subst h;rw[hv];cases c'<;>cases want<;>rfl
  ·rename_i cf;obtain⟨v,hv,hR⟩:=m.f _ _ cf;cases hR with
   |aR hn _=>simp only[Option.some.injEq]at h;subst h;rw[hv];rfl
  ·cases h
 ·cases hg
theorem gg {call:Nat->List AV->Hp->Option (AV×Hp)} (hs:bq ν P call) {nt:Nat} {ops:Array Oper} {o:Oper} {io:au} (hc:eo P ν nt ops o io=true) {g:Gh} {a:Act} {s s1:St} (m:ca ν k nt g a s)
  {slot:Nat} (e:step call slot io s=some s1) {next:Act->World->Prop} {Q:Exit->Act->World->Prop} (hn:∀g' a',ca ν k nt g' a' s1->aV ν g g'->next a' g'.w) :
  if Region.wanted o (yielded ops a.tmps) then o.wp P a g.w next Q else next (a.put o.dst undef) g.w:=by
 have bJ:=hc;simp only[eo,Bool.and_eq_true,beq_iff_eq]at bJ;obtain⟨⟨⟨hd,aT⟩, -⟩,kY⟩:=bJ;have nZ:∀t,io.dst=some t->t<nt:=by
  intro t ht;rw[ht]at aT;simpa[Nat.blt_eq]using aT
 unfold step at e;split at e
 ·rename_i hw;rw[iY m hc hw,if_pos rfl];cases hr:(bk call slot (ev s.fr) io.op).run s.hp with
  |none=>rw[hr]at e;cases e
  |some p=>
   obtain⟨y,h1⟩:=p;rw[hr]at e;simp only[Option.some.injEq]at e;subst e;refine xa hs kY m.r m.f (slot:=slot) (y:=y) (h':=h1) (by rw[m.h];exact hr) λg' v hh r' hm hR=>?_
   rw[hd];exact hn g' _ (m.put nZ hh r' hm hR) hm
 ·rename_i hw;rw[iY m hc hw,if_neg (by simp)];simp only[Option.some.injEq]at e;subst e;rw[hd];exact hn g _ (m.put nZ m.h m.r (.refl ν g) (.aR rfl λj v c h=>by simp at h)) (.refl ν g)
 ·cases e
def cQ (P:Program) (ν:Nat->Nat) (nt:Nat) (ops:Array Oper):List Oper->List au->Bool
 |[],[]=>true
 |o::r,io::ir=>eo P ν nt ops o io&&cQ P ν nt ops r ir
 |_,_=>false
theorem fD {nt:Nat} {ops:Array Oper}:∀{l:List Oper} {il:List au},cQ P ν nt ops l il=true->l.length=il.length/\∀(i:Nat) (o:Oper) (io:au),l[i]?=some o->il[i]?=some io->eo P ν nt ops o io=true
 |[],[],_=>⟨rfl,λi o io h=>by simp at h⟩
 |o::r,io::ir,h=>by
  simp only[cQ,Bool.and_eq_true]at h;obtain⟨h1,h2⟩:=fD h.2;refine⟨by simp[h1],λi o' yH e1 e2=>?_⟩;cases i with
  |zero=>simp at e1 e2;subst e1 e2;exact h.1
  |succ i=>exact h2 i o' yH (by simpa using e1) (by simpa using e2)
 |[],_::_,h=>by simp[cQ]at h
 |_::_,[],h=>by simp[cQ]at h
theorem lF {call:Nat->List AV->Hp->Option (AV×Hp)} (hs:bq ν P call) {nt:Nat} {ops:Array Oper} {Q:Exit->Act->World->Prop}:∀(l:List Oper) (il:List au) (slot:Nat) (g:Gh) (a:Act) (s s':St),
  cQ P ν nt ops l il=true->aX call il slot s=some s'->ca ν k nt g a s->(∀g' a',ca ν k nt g' a' s'->aV ν g g'->Q .normal a' g'.w)->wpList P ops Q l a g.w
 |[],[],slot,g,a,s,s',_,e,m,hQ=>by
  simp only[aX,Option.some.injEq]at e;subst e;exact wpList_nil (hQ g a m (.refl ν g))
 |o::r,io::ir,slot,g,a,s,s',hc,e,m,hQ=>by
  simp only[cQ,Bool.and_eq_true]at hc;simp only[aX]at e;cases h1:step call slot io s with
  |none=>rw[h1]at e;cases e
  |some s1=>
   rw[h1]at e;exact wpList_step λK hK=>gg hs hc.1 m h1 λg' a' m' hm=>hK _ _ (lF hs r ir _ g' a' s1 s' hc.2 e m' λc6 oP oQ dv=>hQ c6 oP oQ (hm.trans dv))
 |[],_::_,_,_,_,_,_,hc,_,_,_=>by simp[cQ]at hc
 |_::_,[],_,_,_,_,_,hc,_,_,_=>by simp[cQ]at hc
def tag:Nat->List au->List bn->List (Nat×au×bn)
 |i,o::r,f::fs=>(i,o,f)::tag (i+1) r fs
 |_,_,_=>[]
theorem eB.mZ {call:Nat->List AV->Hp->Option (AV×Hp)} {s0:Nat}:∀(il:List au) (i:Nat) (s s':St),aX call il (s0+64*i) s=some s'->
  eB call s0 (tag i il (bC call il (s0+64*i) s)) s s'/\(bC call il (s0+64*i) s).length=il.length
 |[],i,s,s',e=>by
  simp only[aX,Option.some.injEq]at e;subst e;exact⟨.nil (.refl _),rfl⟩
 |o::r,i,s,s',e=>by
  simp only[aX]at e;simp only[bC];cases h1:step call (s0+64*i) o s with
  |none=>rw[h1]at e;cases e
  |some s1=>
   rw[h1]at e;obtain⟨q1,q2⟩:=eB.mZ (s0:=s0) r (i+1) s1 s' e;exact⟨.cons h1 rfl q1,by simp only[List.length_cons];exact congrArg (·+ 1) q2⟩
theorem kj:∀{il:List au} {fs:List bn} {i:Nat} {x:Nat×au×bn},x ∈ tag i il fs->i<=x.1/\il[x.1 - i]?=some x.2.1/\fs[x.1 - i]?=some x.2.2
 |[],fs,i,x,h=>by simp[tag]at h
 |_::_,[],i,x,h=>by simp[tag]at h
 |o::r,f::fs,i,x,h=>by
  simp only[tag,List.mem_cons]at h;rcases h with rfl | h
  ·simp
  ·obtain⟨h1,h2,h3⟩:=kj h;have:x.1 - i=(x.1 - (i+1))+1:=by omega
   exact⟨by omega,by rw[this];simpa using h2,by rw[this];simpa using h3⟩
theorem m7:∀{il:List au} {fs:List bn} {i j:Nat} {o:au},fs.length=il.length->il[j]?=some o->∃x ∈ tag i il fs,x.1=i+j
 |[],fs,i,j,o,_,h=>by simp at h
 |_::_,[],i,j,o,hl,_=>by simp at hl
 |o'::r,f::fs,i,j,o,hl,h=>by
  cases j with
  |zero=>exact⟨_,List.mem_cons_self ..,rfl⟩
  |succ j=>
   obtain⟨x,h1,h2⟩:=m7 (i:=i+1) (fs:=fs) (by simpa using hl) (by simpa using h);exact⟨x,List.mem_cons_of_mem _ h1,by omega⟩
def iL (x:au) (i:Nat):List au->Bool
 |[]=>true
 |y::r=>(y.iU.contains i||gf x y)&&iL x i r
def fE:Nat->List au->Bool
 |_,[]=>true
 |i,x::r=>iL x i r&&fE (i+1) r
theorem iq {x:au} {i:Nat}:∀{r:List au},iL x i r=true->∀y ∈ r,i ∉ y.iU->gf x y=true
 |[],_,y,hy,_=>by simp at hy
 |z::r,h,y,hy,hi=>by
  simp only[iL,Bool.and_eq_true,Bool.or_eq_true,List.contains_iff_mem]at h;rcases List.mem_cons.1 hy with rfl | hy
  ·exact h.1.resolve_left hi
  ·exact iq h.2 y hy hi
theorem iZ {x:bn} {i:Nat}:∀{fs:List bn} {cs:List (List Nat)},ed x i fs cs=true->∀(j:Nat) (f:bn) (c:List Nat),fs[j]?=some f->cs[j]?=some c->i ∉ c->c9 x f=false
 |[],cs,_,j,f,c,h,_,_=>by simp at h
 |_::_,[],_,j,f,c,_,h,_=>by simp at h
 |f'::fs,c'::cs,h,j,f,c,h1,h2,hi=>by
  simp only[ed,Bool.and_eq_true,Bool.or_eq_true,Bool.not_eq_true',List.contains_iff_mem]at h;cases j with
  |zero=>simp at h1 h2;subst h1 h2;exact h.1.resolve_right hi
  |succ j=>exact iZ h.2 j f c (by simpa using h1) (by simpa using h2) hi
def PW (x y:Nat×au×bn):Prop:=x.1<y.1/\(x.1 ∉ y.2.1.iU->ru x y)
theorem oR:∀(il:List au) (fs:List bn) (i:Nat),fE i il=true->(cC fs i (il.map (·.iU))=true\/∀f ∈ fs,f.2=[])->(tag i il fs).Pairwise PW
 |[],fs,i,_,_=>by simp[tag]
 |_::_,[],i,_,_=>by simp[tag]
 |o::r,f::fs,i,hT,hF=>by
  simp only[fE,Bool.and_eq_true]at hT;simp only[tag,List.pairwise_cons];refine⟨λy hy=>?_,oR r fs (i+1) hT.2 ?_⟩
  ·obtain⟨h1,h2,h3⟩:=kj hy;refine⟨by show i<y.1;omega,λhi=>⟨iq hT.1 _ (List.mem_of_getElem? h2) hi,?_⟩⟩;rcases hF with hF | hF
   ·simp only[List.map_cons,cC,Bool.and_eq_true]at hF;exact iZ hF.1 _ _ y.2.1.iU h3 (by simp[h2]) hi
   ·have e1:=hF f (List.mem_cons_self ..);have e2:=hF _ (List.mem_cons_of_mem _ (List.mem_of_getElem? h3));simp[c9,meets,e1,e2]
  ·rcases hF with hF | hF
   ·simp only[List.map_cons,cC,Bool.and_eq_true]at hF;exact .inl hF.2
   ·exact .inr λf' CJ=>hF f' (List.mem_cons_of_mem _ CJ)
def nG (bA:List au) (i:Nat) (o:Oper) (io:au):Bool:=
 o.after.toList.all (λe=>!Region.binds .any e||Nat.blt e.on i) &&
 io.iU.all λa=>o.after.toList.any λe=>Region.binds .any e&&(e.on==a||(match bA[e.on]? with | some x=>x.iU.contains a | none=>false))
def jT (bA:List au):Nat->List Oper->List au->Bool
 |i,o::r,io::ir=>nG bA i o io&&jT bA (i+1) r ir
 |_,_,_=>true
theorem iu {bA:List au}:∀{l:List Oper} {il:List au} {i:Nat},jT bA i l il=true->∀(j:Nat) (o:Oper) (io:au),l[j]?=some o->il[j]?=some io->nG bA (i+j) o io=true
 |[],_,_,_,j,o,io,h,_=>by simp at h
 |_::_,[],_,_,j,o,io,_,h=>by simp at h
 |o'::r,yH::ir,i,h,j,o,io,h1,h2=>by
  simp only[jT,Bool.and_eq_true]at h;cases j with
  |zero=>simp at h1 h2;subst h1 h2;exact h.1
  |succ j=>have:=iu h.2 j o io (by simpa using h1) (by simpa using h2);rwa [show i+1+j=i+(j+1) by omega]at this
structure Rest (ops:Array Oper) (bA:List au) (L:List (Nat×au×bn)) (listed:Array Bool):Prop where
 size:listed.size=ops.size
 left:∀x ∈ L,x.1<ops.size/\listed[x.1]?=some false/\bA[x.1]?=some x.2.1
 all:∀(i:Nat),listed[i]?=some false->∃x ∈ L,x.1=i
 down:∀(i:Nat) (io:au),bA[i]?=some io->listed[i]?=some true->∀a ∈ io.iU,listed[a]?=some true
 pw:L.Pairwise PW
theorem sD {call:Nat->List AV->Hp->Option (AV×Hp)} (hs:bq ν P call) {nt:Nat} {ops:Array Oper} {bA:List au} {Q:Exit->Act->World->Prop} {s0:Nat} {s':St}
  (hc:cQ P ν nt ops ops.toList bA=true) (uz:jT bA 0 ops.toList bA=true):∀(n:Nat) (L:List (Nat×au×bn)) (listed:Array Bool) (g:Gh) (a:Act) (s:St),L.length=n->Rest ops bA L listed->
  eB call s0 L s s'->ca ν k nt g a s->(∀g' a',ca ν k nt g' a' s'->aV ν g g'->Q .normal a' g'.w)->wpAny P .any ops Q n listed a g.w:=by
 intro n
 induction n with
 |zero=>
  intro L listed g a s hn hl hr m hQ;cases L with
  |cons=>simp at hn
  |nil=>
   refine⟨?_,?_⟩
   ·refine List.eq_nil_iff_forall_not_mem.2 λj hj=>?_
    obtain⟨h1,o,ho, -⟩:=mem_ready.1 hj;have yI:j<listed.size:=by rw[hl.size];exact(Array.getElem?_eq_some_iff.1 ho).1
    obtain⟨x,hx, -⟩:=hl.all j (by simp[Array.getD,yI]at h1;simp[yI,h1]);cases hx
   ·cases hr with
    |nil h=>
     obtain⟨m',hm⟩:=m.ju h;exact hQ { g with h:=s'.hp } a m' hm
 |succ n ih=>
  intro L listed g a s hn hl hr m hQ;have ij:∀{j:Nat} {b:Bool} {d:Bool},listed.getD j d=b->b≠d->listed[j]?=some b:=by
   intro j b d h hb;by_cases hj:j<listed.size
   ·simp[Array.getD,hj]at h;simp[hj,h]
   ·simp[Array.getD,hj]at h;exact absurd h.symm hb
  obtain⟨hlen,cf⟩:=fD hc;refine⟨λh0=>?_,λj hj=>?_⟩
  ·exfalso;cases L with
   |nil=>simp at hn
   |cons x r=>
    obtain⟨h1,h2,h3⟩:=hl.left x (List.mem_cons_self ..);have:x.1 ∈ Region.ready .any ops listed:=by
     have ho:ops[x.1]?=some ops[x.1]:=by simp[h1]
     refine mem_ready.2 ⟨by simp[Array.getD_eq_getD_getElem?,h2],_,ho,λe he hb=>?_⟩;have hA:=iu uz x.1 ops[x.1] x.2.1 (by simp[h1]) h3;simp only[nG,Bool.and_eq_true,List.all_eq_true,Nat.zero_add]at hA;have aT:=hA.1 e (by simpa using he);simp only[hb,Bool.not_true,Bool.false_or,Nat.blt_eq]at aT;have uA:e.on<listed.size:=by rw[hl.size];omega
     cases hv:listed[e.on]with
     |true=>simp[uA,hv]
     |false=>
      obtain⟨y,hy,mT⟩:=hl.all e.on (by simp[uA,hv]);rcases List.mem_cons.1 hy with rfl | hy
      ·omega
      ·have:=(List.pairwise_cons.1 hl.pw).1 y hy;have:=this.1;omega
    rw[h0]at this;cases this
  ·obtain⟨h1,o,ho,xc⟩:=mem_ready.1 hj;obtain⟨x,hx,rfl⟩:=hl.all j (ij h1 (by simp));obtain⟨L1,L2,rfl⟩:=List.append_of_mem hx;obtain⟨aT,oS,uB⟩:=hl.left x hx;have hA:=iu uz x.1 o x.2.1 (by simpa using ho) uB;simp only[nG,Bool.and_eq_true,List.all_eq_true,List.any_eq_true,Nat.zero_add]at hA;have nZ:∀b ∈ x.2.1.iU,listed[b]?=some true:=by
    intro b hb;obtain⟨e,he,h2,h3⟩:=hA.2 b hb;have gQ:=ij (xc e (by simpa using he) h2) (by simp);simp only[Bool.or_eq_true,beq_iff_eq]at h3;rcases h3 with h3 | h3
    ·subst h3;exact gQ
    ·split at h3
     ·rename_i y hy;exact hl.down e.on y hy gQ b (by simpa using h3)
     ·cases h3
   have kM:=List.pairwise_append.1 hl.pw;have uC:=List.pairwise_cons.1 kM.2.1;obtain⟨s1,e1, -,r1⟩:=eB.front L1 s hr λy hy=>by
    obtain⟨q1,q2⟩:=kM.2.2 y hy x (List.mem_cons_self ..);refine q2 λhb=>?_
    have:=nZ _ hb;rw[(hl.left y (by simp[hy])).2.1]at this;cases this
   have jL:Rest ops bA (L1++L2) (listed.setIfInBounds x.1 true):=by
    have bF:∀y ∈ L1++L2,x.1≠y.1:=by
     intro y hy;rcases List.mem_append.1 hy with hy | hy
     ·have:=(kM.2.2 y hy x (List.mem_cons_self ..)).1;omega
     ·have:=(uC.1 y hy).1;omega
    have oT:x.1<listed.size:=by rw[hl.size];exact aT
    refine⟨by simpa using hl.size,λy hy=>?_,λi hi=>?_,λi io ry hi b hb=>?_,List.pairwise_append.2 ⟨kM.1,uC.2,λy hy z hz=>kM.2.2 y hy z (List.mem_cons_of_mem _ hz)⟩⟩
    ·obtain⟨q1,q2,q3⟩:=hl.left y (by rcases List.mem_append.1 hy with h | h<;>simp[h]);exact⟨q1,by rw[Array.getElem?_setIfInBounds_ne (bF y hy)];exact q2,q3⟩
    ·by_cases iQ:x.1=i
     ·subst iQ;simp[oT]at hi
     ·rw[Array.getElem?_setIfInBounds_ne iQ]at hi;obtain⟨y,hy,yJ⟩:=hl.all i hi;refine⟨y,?_,yJ⟩;simp only[List.mem_append,List.mem_cons]at hy ⊢;rcases hy with h | rfl | h
      ·exact .inl h
      ·exact absurd yJ iQ
      ·exact .inr h
    ·have oI:∀{b:Nat},listed[b]?=some true->(listed.setIfInBounds x.1 true)[b]?=some true:=by
      intro b hb;by_cases yK:x.1=b
      ·subst yK;simp[oT]
      ·rw[Array.getElem?_setIfInBounds_ne yK];exact hb
     by_cases iQ:x.1=i
     ·subst iQ;rw[uB]at ry;cases ry;exact oI (nZ b hb)
     ·rw[Array.getElem?_setIfInBounds_ne iQ]at hi;exact oI (hl.down i io ry hi b hb)
   unfold wpOp;simp only[ho];have hw:=gg (Q:=Q) hs (cf x.1 o x.2.1 (by simpa using ho) uB) m e1 (next:=wpAny P .any ops Q n (listed.setIfInBounds x.1 true)) λg' a' m' hm=>
    ih (L1++L2) _ g' a' s1 (by simp at hn ⊢;omega) jL r1 m' λc6 oP oQ dv=>hQ c6 oP oQ (hm.trans dv)
   split
   ·rename_i h;rw[if_pos h]at hw;exact .inl hw
   ·rename_i h;rw[if_neg h]at hw;exact hw
def gW (P:Program) (ν:Nat->Nat) (nt:Nat) (draw:Bool) (ops:Array Oper) (bA:List au):Bool:=
 cQ P ν nt ops ops.toList bA&&(!draw||(jT bA 0 ops.toList bA&&fE 0 bA))
theorem fF:∀(keep:List Nat) (fr:Fr) (t:Nat) (x:AV),get (bb keep fr) t=some x->get fr t=some x
 |[],fr,t,x,h=>by simp[bb,get]at h
 |k::r,fr,t,x,h=>by
  simp only[bb]at h;cases hk:get fr k with
  |none=>rw[hk]at h;exact fF r fr t x h
  |some y=>
   rw[hk]at h;simp only[get]at h;split at h
   ·rename_i h0;subst h0;rw[hk];exact h
   ·exact fF r fr t x h
theorem ca.keep {nt:Nat} {g:Gh} {a:Act} {s:St} (m:ca ν k nt g a s) (keep:List Nat) (nx:Nat):ca ν k nt g a { fr:=bb keep s.fr,hp:=s.hp,nx:=nx }:=
 ⟨m.h,m.r,λt x ht=>m.f t x (fF keep s.fr t x ht),m.n,m.d⟩
theorem eW {call:Nat->List AV->Hp->Option (AV×Hp)} (hs:bq ν P call) (cV:P.follows .mixedOrders=true) {nt id:Nat} {draw:Bool} {ops:Array Oper} {bA:List au} {keep:List Nat}
  (hc:gW P ν nt draw ops bA=true) {g:Gh} {a:Act} {s s':St} (e:aO call draw bA keep s=some s') (m:ca ν k nt g a s) {Q:Exit->Act->World->Prop}
  (hQ:∀g' a',ca ν k nt g' a' s'->aV ν g g'->Q .normal a' g'.w):(Code.region id ops draw).wp P Q a g.w:=by
 unfold aO at e;cases h1:aX call bA s.nx s with
 |none=>rw[h1]at e;cases e
 |some s1=>
  rw[h1]at e;simp only[gW,Bool.and_eq_true]at hc;simp only[]at e;split at e
  ·rename_i oU;simp only[Option.some.injEq]at e;subst e;cases draw with
   |false=>exact wp_region_list (lF hs ops.toList bA s.nx g a s s1 hc.1 h1 m λg' a' m' hm=>hQ g' a' (m'.keep keep _) hm)
   |true=>
    simp only[Bool.not_true,Bool.false_or,Bool.and_eq_true]at oU hc;refine wp_region_any cV ?_;obtain⟨r',hm⟩:=m.r.world (w':={ g.w with drawn:=g.w.drawn+1 }) (I':=g.I) (λ_ h=>h) (λ_ h=>.inl h) (Nat.le_refl _) rfl rfl rfl λ_ _=>rfl
    obtain⟨aY,hlen⟩:=eB.mZ (s0:=s.nx) bA 0 s s1 (by simpa using h1);have hn:=(fD hc.1).1;simp only[Array.length_toList]at hn;have kM:=oR bA (bC call bA (s.nx+64*0) s) 0 hc.2.2 (by
     simp only[fS,Bool.or_eq_true,List.all_eq_true,List.isEmpty_iff]at oU;exact oU.symm)
    have aT:(tag 0 bA (bC call bA (s.nx+64*0) s)).length=ops.size:=by
     rw[hn];generalize bC call bA (s.nx+64*0) s=fs at hlen;generalize 0=i;clear aY kM oU h1 hc hn hQ
     induction bA generalizing fs i with
     |nil=>simp[tag]
     |cons o r ih=>
      cases fs with
      |nil=>simp at hlen
      |cons f fs=>simp only[tag,List.length_cons];rw[ih fs (by simpa using hlen)]
    refine sD hs hc.1 hc.2.1 ops.size _ _ { g with w:={ g.w with drawn:=g.w.drawn+1 } } a s aT ?_ aY ⟨m.h,r',m.f.mono hm,m.n,m.d⟩ λg' a' m' dv=>hQ g' a' (m'.keep keep _) (hm.trans dv)
    refine⟨by simp,λx hx=>?_,λi hi=>?_,λi io _ hi=>?_,kM⟩
    ·obtain⟨q1,q2,q3⟩:=kj hx;simp only[Nat.sub_zero]at q2;have:x.1<ops.size:=by rw[hn];exact(List.getElem?_eq_some_iff.1 q2).1
     exact⟨this,by simp[this],q2⟩
    ·have bY:i<ops.size:=by
      have:=(Array.getElem?_eq_some_iff.1 hi).1;simpa using this
     obtain⟨x,hx,iQ⟩:=m7 (i:=0) (j:=i) (il:=bA) hlen (List.getElem?_eq_getElem (by omega));exact⟨x,hx,by omega⟩
    ·have bY:=(Array.getElem?_eq_some_iff.1 hi);obtain⟨q1,q2⟩:=bY;simp at q2
  ·cases e
end
section
variable {ν:Nat->Nat} {P:Program} {k:Cx}
theorem get_map {α β:Type} (f:Nat->α->β):∀(l:List (Nat×α)) (n:Nat),get (l.map λp=>(p.1,f p.1 p.2)) n=(get l n).map (f n)
 |[],_=>rfl
 |p::r,n=>by
  simp only[List.map_cons,get];by_cases h:p.1=n
  ·subst h;simp
  ·rw[if_neg h,if_neg h];exact get_map f r n
theorem get_filter {α:Type} (q:Nat->Bool):∀(l:List (Nat×α)) (n:Nat),get (l.filter λp=>q p.1) n=if q n then get l n else none
 |[],n=>by simp[get]
 |p::r,n=>by
  simp only[List.filter_cons];by_cases hq:q p.1=true
  ·rw[if_pos hq];simp only[get];by_cases h:p.1=n
   ·subst h;simp[hq]
   ·rw[if_neg h,if_neg h];exact get_filter q r n
  ·rw[if_neg hq,get_filter q r n];simp only[get];by_cases h:p.1=n
   ·subst h;simp[hq]
   ·rw[if_neg h]
theorem lG (kp:List Nat) (n0:Nat) (s:St) (id:Nat):get (again kp n0 s).hp id=if id<1000\/id<n0 then(get s.hp id).map (fh n0 s.hp id) else none:=by
 show get (List.map (λp=>(p.1,fh n0 s.hp p.1 p.2)) (List.filter (λp=>decide (p.1<1000)||decide (p.1<n0)) s.hp)) id=_
 rw[get_map (λn=>fh n0 s.hp n),get_filter (λn=>decide (n<1000)||decide (n<n0))];by_cases h:id<1000\/id<n0
 ·rw[if_pos h,if_pos (by simpa using h)]
 ·rw[if_neg h,if_neg (by simpa using h)];rfl
section
variable {kp:List Nat} {n0:Nat} {g:Gh} {s:St}
theorem tb (hh:g.h=s.hp) {v:Value} {id o n ai:Nat} (bt:id<1000) (h:aE g v id o n ai):aE { g with h:=(again kp n0 s).hp } v id o n ai:=by
 unfold aE at h ⊢;rw[hh]at h;rw[show get (again kp n0 s).hp id=(get s.hp id).map (fh n0 s.hp id) by rw[lG,if_pos (.inl bt)]];cases hg:get s.hp id with
 |none=>rw[hg]at h;exact h
 |some ob=>
  rw[hg]at h;cases ob with
  |cells cs=>exact h
  |buf v' e es=>simp only[Option.map_some,fh,if_pos bt];exact h
  |aZ v' e es=>simp only[Option.map_some,fh,if_pos bt];exact h
  |map aL=>exact h
theorem tc (hh:g.h=s.hp) {v:Value} {id ai i j:Nat} (bt:id<1000) (h:aG g v id ai i j):aG { g with h:=(again kp n0 s).hp } v id ai i j:=by
 unfold aG at h ⊢;rw[hh]at h;rw[show get (again kp n0 s).hp id=(get s.hp id).map (fh n0 s.hp id) by rw[lG,if_pos (.inl bt)]];cases hg:get s.hp id with
 |none=>rw[hg]at h;exact h
 |some ob=>
  rw[hg]at h;cases ob with
  |cells cs=>exact h
  |buf v' e es=>simp only[Option.map_some,fh,if_pos bt];exact h
  |aZ v' e es=>simp only[Option.map_some,fh,if_pos bt];exact h
  |map aL=>exact h
theorem lH (hh:g.h=s.hp):∀(d:Nat) (v:Value) (x:AV),RA ν g v x->RA ν { g with h:=(again kp n0 s).hp } v (nrm n0 s.hp d x)
 |0,v,x,_=>.undef v
 |d+1,v,x,hx=>by
  cases hx with
  |undef=>exact .undef v
  |iv h=>exact .iv h
  |agg hn h1 hr=>
   refine .agg (by simpa using hn) h1 λj v c hv hc=>?_
   simp only[List.getElem?_map,Option.map_eq_some_iff]at hc;obtain⟨c',bJ,rfl⟩:=hc;exact lH hh d v c' (hr j v c' hv bJ)
  |aR hn hr=>
   refine .aR (by simpa using hn) λj v c hv hc=>?_
   simp only[List.getElem?_map,Option.map_eq_some_iff]at hc;obtain⟨c',bJ,rfl⟩:=hc;exact lH hh d v c' (hr j v c' hv bJ)
  |bp hn hr=>
   refine .bp (by simpa using hn) λj v c hv hc=>?_
   simp only[List.getElem?_map,Option.map_eq_some_iff]at hc;obtain⟨c',bJ,rfl⟩:=hc;exact lH hh d v c' (hr j v c' hv bJ)
  |@own _ id o n ai h1 h=>
   simp only[nrm];by_cases bt:id<1000
   ·rw[if_pos bt];exact .own h1 (tb hh bt h)
   ·rw[if_neg bt];by_cases hn:id<n0
    ·rw[if_pos hn];have dc:get (again kp n0 s).hp id=(get s.hp id).map (fh n0 s.hp id):=by rw[lG,if_pos (.inr hn)]
     unfold aE at h;rw[hh]at h;split
     ·rename_i v' e es hg;rw[hg]at h;split
      ·rename_i hv;refine .own h1 ?_;unfold aE;rw[dc,hg];simp only[Option.map_some,fh,if_neg bt];exact⟨Nat.le_refl _,λ_=>h.2 hv⟩
      ·exact .undef v
     ·rename_i v' e es hg;rw[hg]at h;split
      ·rename_i hv;refine .own h1 ?_;unfold aE;rw[dc,hg];simp only[Option.map_some,fh,if_neg bt];exact⟨Nat.le_refl _,λ_=>h.2 hv⟩
      ·exact .undef v
     ·exact .undef v
    ·rw[if_neg hn];exact .undef v
  |@ref _ id ai i j h1 h=>
   simp only[nrm];by_cases bt:id<1000
   ·rw[if_pos bt];exact .ref h1 (tc hh bt h)
   ·rw[if_neg bt];by_cases hn:id<n0
    ·rw[if_pos hn];have dc:get (again kp n0 s).hp id=(get s.hp id).map (fh n0 s.hp id):=by rw[lG,if_pos (.inr hn)]
     unfold aG at h;rw[hh]at h;split
     ·rename_i v' e es hg;rw[hg]at h;split
      ·rename_i hv;refine .ref h1 ?_;unfold aG;rw[dc,hg];simp only[Option.map_some,fh,if_neg bt];exact⟨Nat.le_refl _,λ_=>h.2 hv⟩
      ·exact .undef v
     ·rename_i v' e es hg;rw[hg]at h;split
      ·rename_i hv;refine .ref h1 ?_;unfold aG;rw[dc,hg];simp only[Option.map_some,fh,if_neg bt];exact⟨Nat.le_refl _,λ_=>h.2 hv⟩
      ·exact .undef v
     ·rename_i cs hg;rw[hg]at h;refine .ref h1 ?_;unfold aG;rw[dc,hg];exact h
     ·rename_i aL hg;rw[hg]at h;refine .ref h1 ?_;unfold aG;rw[dc,hg];exact h
     ·exact .undef v
    ·rw[if_neg hn];exact .undef v
theorem zQ {nt:Nat} {a:Act} (m:ca ν k nt g a s):ca ν k nt { g with h:=(again kp n0 s).hp } a (again kp n0 s)/\gF g { g with h:=(again kp n0 s).hp }:=by
 have cf:∀{id:Nat} {o:Ob},get (again kp n0 s).hp id=some o->∃o',get g.h id=some o'/\o=fh n0 s.hp id o':=by
  intro id o ho;rw[lG]at ho;split at ho
  ·simp only[Option.map_eq_some_iff]at ho;obtain⟨o',h1,rfl⟩:=ho;exact⟨o',by rw[m.h];exact h1,rfl⟩
  ·cases ho
 refine⟨⟨rfl,⟨λid o ho=>?_,λid bW o o' b h1 h2 h3 h4=>?_,m.r.small,m.r.i0,m.r.i1,λid o b ho ah=>?_,m.r.size,m.r.os,m.r.tape,m.r.output,m.r.cu⟩,λt x ht=>?_,m.n,m.d⟩,
  ⟨λv id o n ai bt _ h=>tb m.h bt h,λv id ai i j bt _ h=>tc m.h bt h⟩⟩
 ·obtain⟨o',h1,rfl⟩:=cf ho;have cu:=m.r.ob id o' h1;cases o' with
  |cells cs=>
   obtain⟨b,e1,e2,e3,e4⟩:=cu;refine⟨b,e1,e2,e3,λj c hc=>?_⟩;simp only[List.getElem?_map,Option.map_eq_some_iff]at hc;obtain⟨c',bJ,rfl⟩:=hc;obtain⟨v,c1,c2,c3⟩:=e4 j c' bJ;exact⟨v,c1,c2,lH m.h 8 v c' c3⟩
  |buf v e es=>exact cu
  |aZ v e es=>exact cu
  |map aL=>
   obtain⟨b,es,clock,e1,e2,e3,e4,e5,e6⟩:=cu;refine⟨b,es,clock,e1,e2,e3,e4,by simpa using e5,λj e p h1 h2=>?_⟩;simp only[List.getElem?_map,Option.map_eq_some_iff]at h2;obtain⟨p',hp,rfl⟩:=h2;obtain⟨c1,c2⟩:=e6 j e p' h1 hp;exact⟨lH m.h 8 _ _ c1,lH m.h 8 _ _ c2⟩
 ·obtain⟨p,q1, -⟩:=cf h1;obtain⟨p',I9, -⟩:=cf h2;exact m.r.inj id bW p p' b q1 I9 h3 h4
 ·obtain⟨p,q1, -⟩:=cf ho;exact m.r.own id p b q1 ah
 ·have:get (again kp n0 s).fr t=(get (bb kp s.fr) t).map (nrm n0 s.hp 8):=get_map (λ_=>nrm n0 s.hp 8) (bb kp s.fr) t;rw[this]at ht;simp only[Option.map_eq_some_iff]at ht;obtain⟨y,hy,rfl⟩:=ht;obtain⟨v,h1,h2⟩:=m.f t y (fF _ _ _ _ hy);exact⟨v,h1,lH m.h 8 v y h2⟩
end
def Ex.U:Ex->Exit
 |.norm=>.normal
 |.exit i=>.exit i
 |.ret=>.ret
def ck (P:Program) (ν:Nat->Nat) (nt:Nat):Code->IC->Bool
 |.skip,.skip=>true
 |.label _,.skip=>true
 |.region _ ops draw,.gm d bA _=>draw==d&&gW P ν nt draw ops bA
 |.seq a b,.seq x y=>ck P ν nt a x&&ck P ν nt b y
 |.cond c a b,.cond d x y=>aF ν c d&&ck P ν nt a x&&ck P ν nt b y
 |.block id a,.block jd x=>id==jd&&ck P ν nt a x
 |.loop a,.loop _ x=>ck P ν nt a x
 |.exit id,.exit jd=>id==jd
 |.ret,.ret=>true
 |_,_=>false
theorem oV {c:Code} {Q:Exit->Act->World->Prop} (I:Nat->Act->World->Prop) (h0:∀a w,¬I 0 a w)
  (round:∀n a w,I (n+1) a w->c.wp P (Exit.then (I n) Q) a w) {n:Nat} {a:Act} {w:World} (h:I n a w):(Code.loop c).wp P Q a w:=by
 intro b kk cs;have key:∀n a w,I n a w->∃e a' w',Q e a' w'/\Arrives P (lone (b.at a (.code c::.inLoop c::kk)) cs w) b kk cs e a' w':=by
  intro n
  induction n with
  |zero=>exact λa w h=>(h0 a w h).elim
  |succ n ih=>
   intro a w hI;obtain⟨e,sE,sF,hq,oW⟩:=round n a w hI b (.inLoop c::kk) cs;cases e with
   |normal=>
    obtain⟨Gv,Gw,Gx,EK,Bn⟩:=ih sE sF hq;exact⟨Gv,Gw,Gx,EK,.of_steps (Steps.trans oW (.one step_inLoop)) Bn⟩
   |exit id=>exact⟨_,sE,sF,hq,.pass (x:=.inLoop c) rfl (λ_ _=>.inl (by simp)) oW⟩
   |goto l=>exact⟨_,sE,sF,hq,.pass (x:=.inLoop c) rfl (λ_ _=>.inl (by simp)) oW⟩
   |ret=>exact⟨_,sE,sF,hq,.pass (x:=.inLoop c) rfl (λ_ _=>.inl (by simp)) oW⟩
   |panic ch=>exact⟨_,sE,sF,hq,.pass (x:=.inLoop c) rfl (λ_ _=>.inl (by simp)) oW⟩
   |outgrown=>exact⟨_,sE,sF,hq,.pass (x:=.inLoop c) rfl (λ_ _=>.inl (by simp)) oW⟩
 obtain⟨e,a',w',hq,oW⟩:=key n a w h;exact⟨e,a',w',hq,.of_steps (.one step_loop) oW⟩
theorem sG {call:Nat->List AV->Hp->Option (AV×Hp)} (hs:bq ν P call) (cV:P.follows .mixedOrders=true) {nt n:Nat}:∀(ic:IC) (c:Code),ck P ν nt c ic=true->
  ∀(g:Gh) (a:Act) (s:St) (r:Ex) (s':St),aA call n ic s=some (r,s')->ca ν k nt g a s->∀Q:Exit->Act->World->Prop,(∀g' a',ca ν k nt g' a' s'->gF g g'->Q r.U a' g'.w)->c.wp P Q a g.w:=by
 intro ic
 induction ic with
 |skip=>
  intro c hc g a s r s' e m Q hQ;simp only[aA,Option.some.injEq,Prod.mk.injEq]at e;obtain⟨rfl,rfl⟩:=e;cases c<;>simp only[ck,Bool.false_eq_true]at hc
  ·exact wp_skip (hQ g a m (.refl g))
  ·exact wp_label (hQ g a m (.refl g))
 |gm draw ops keep=>
  intro c hc g a s r s' e m Q hQ;cases c<;>simp only[ck,Bool.false_eq_true]at hc;rename_i id Gy EL;simp only[Bool.and_eq_true,beq_iff_eq]at hc;obtain⟨rfl,hc⟩:=hc;simp only[aA,Option.map_eq_some_iff,Prod.mk.injEq]at e;obtain⟨s1,e1,rfl,rfl⟩:=e;exact eW hs cV hc e1 m λg' a' m' hm=>hQ g' a' m' hm.low
 |seq x y uD uE=>
  intro c hc g a s r s' e m Q hQ;cases c<;>simp only[ck,Bool.false_eq_true]at hc;simp only[Bool.and_eq_true]at hc;refine wp_seq ?_;simp only[aA]at e;cases h1:aA call n x s with
  |none=>rw[h1]at e;cases e
  |some p=>
   obtain⟨r1,s1⟩:=p;rw[h1]at e;refine uD _ hc.1 g a s r1 s1 h1 m _ λg' a' m' hm=>?_
   cases r1 with
   |norm=>exact uE _ hc.2 g' a' s1 r s' e m' Q λc6 oP oQ dv=>hQ c6 oP oQ (hm.trans dv)
   |exit i=>simp only[Option.some.injEq,Prod.mk.injEq]at e;obtain⟨rfl,rfl⟩:=e;exact hQ g' a' m' hm
   |ret=>simp only[Option.some.injEq,Prod.mk.injEq]at e;obtain⟨rfl,rfl⟩:=e;exact hQ g' a' m' hm
 |cond d x y uD uE=>
  intro c hc g a s r s' e m Q hQ;cases c<;>simp only[ck,Bool.false_eq_true]at hc;rename_i cd cx cy;simp only[Bool.and_eq_true]at hc;simp only[aA]at e;split at e
  ·rename_i t ht;have hR:=ak m.f hc.1.1;rw[ht]at hR;generalize hv:a.eval cd=v at hR;cases hR with
   |iv h=>
    cases h with
    |bool=>
     refine wp_cond hv ?_;cases t with
     |true=>exact uD _ hc.1.2 g a s r s' e m Q hQ
     |false=>exact uE _ hc.2 g a s r s' e m Q hQ
  ·cases e
 |block id x ih=>
  intro c hc g a s r s' e m Q hQ;cases c<;>simp only[ck,Bool.false_eq_true]at hc;simp only[Bool.and_eq_true,beq_iff_eq]at hc;obtain⟨rfl,hc⟩:=hc;refine wp_block ?_;simp only[aA]at e;cases h1:aA call n x s with
  |none=>rw[h1]at e;cases e
  |some p=>
   obtain⟨r1,s1⟩:=p;rw[h1]at e;refine ih _ hc g a s r1 s1 h1 m _ λg' a' m' hm=>?_
   cases r1 with
   |norm=>simp only[Option.some.injEq,Prod.mk.injEq]at e;obtain⟨rfl,rfl⟩:=e;exact hQ g' a' m' hm
   |ret=>simp only[Option.some.injEq,Prod.mk.injEq]at e;obtain⟨rfl,rfl⟩:=e;exact hQ g' a' m' hm
   |exit i=>
    simp only[Ex.U,Exit.inBlock];simp only[]at e;split at e
    ·rename_i hi;simp only[Option.some.injEq,Prod.mk.injEq]at e;obtain⟨rfl,rfl⟩:=e;rw[if_pos hi];exact hQ g' a' m' hm
    ·rename_i hi;simp only[Option.some.injEq,Prod.mk.injEq]at e;obtain⟨rfl,rfl⟩:=e;rw[if_neg hi];exact hQ g' a' m' hm
 |loop keep x ih=>
  intro c hc g a s r s' e m Q hQ;cases c<;>simp only[ck,Bool.false_eq_true]at hc;rename_i cx;simp only[aA]at e;generalize gP:s.nx=n0 at e;subst gP;refine oV (λj a w=>∃g1 s1,g1.w=w/\ca ν k nt g1 a s1/\gF g g1/\iter (aA call n x) keep s.nx j s1=some (r,s')) ?_ ?_ (n:=n) ⟨g,_,rfl,m.keep keep s.nx,.refl g,e⟩
  ·rintro a w ⟨g1,s1, -, -, -,h⟩;simp[iter]at h
  ·rintro j a w ⟨g1,s1,rfl,m1,fT,h⟩;simp only[iter]at h;cases h1:aA call n x s1 with
   |none=>rw[h1]at h;cases h
   |some p=>
    obtain⟨r2,s2⟩:=p;rw[h1]at h;refine ih _ hc g1 a s1 r2 s2 h1 m1 _ λg' a' m' hm=>?_
    cases r2 with
    |norm=>
     obtain⟨m2,fU⟩:=zQ (kp:=keep) (n0:=s.nx) m';exact⟨{ g' with h:=(again keep s.nx s2).hp },_,rfl,m2,(fT.trans hm).trans fU,h⟩
    |exit i=>simp only[Option.some.injEq,Prod.mk.injEq]at h;obtain⟨rfl,rfl⟩:=h;exact hQ g' a' m' (fT.trans hm)
    |ret=>simp only[Option.some.injEq,Prod.mk.injEq]at h;obtain⟨rfl,rfl⟩:=h;exact hQ g' a' m' (fT.trans hm)
 |exit id=>
  intro c hc g a s r s' e m Q hQ;cases c<;>simp only[ck,Bool.false_eq_true]at hc;simp only[aA,Option.some.injEq,Prod.mk.injEq]at e;obtain⟨rfl,rfl⟩:=e;rw[beq_iff_eq]at hc;subst hc;exact wp_exit (hQ g a m (.refl g))
 |ret=>
  intro c hc g a s r s' e m Q hQ;cases c<;>simp only[ck,Bool.false_eq_true]at hc;simp only[aA,Option.some.injEq,Prod.mk.injEq]at e;obtain⟨rfl,rfl⟩:=e;exact wp_ret (hQ g a m (.refl g))
end
section
variable {ν:Nat->Nat} {P:Program} {k:Cx}
theorem vW {g:Gh} (r:Rel ν k g) {x y:AV} {h':Hp} (e:(wy x).run g.h=some (y,h')) {v:Value} (hv:RA ν g v x):∃I',cj ν k g h' I'/\RA ν { g with I:=I',h:=h' } v y:=by
 have rest:∀{x:AV},(ek true x).run g.h=some (y,h')->RA ν g v x->∃I',cj ν k g h' I'/\RA ν { g with I:=I',h:=h' } v y:=by
  intro x e hv;obtain⟨I',f,hR⟩:=lA r e hv;exact⟨I',f,hR.up λ_ _ h=>h⟩
 cases x with
 |own id o n ai=>
  obtain⟨ob,hg,e2⟩:=M.aM e;cases hv with
  |own ef ho=>
   cases ob with
   |cells cs=>exact(ae e2).elim
   |buf v' ee es=>
    obtain⟨_,e4⟩:=M.aj e2;obtain⟨rfl,rfl⟩:=af e4;exact⟨g.I,.refl r,.own ef ho⟩
   |aZ v' ee es=>
    obtain⟨hb,e4⟩:=M.aj e2;obtain⟨rfl,rfl⟩:=af e4;refine⟨g.I,.refl r,.iv (hZ r hg rfl ?_)⟩;unfold aE at ho;rw[hg]at ho;exact ho.2 (beq_iff_eq.1 hb)
   |map _=>exact(ae e2).elim
 |undef=>exact rest (x:=.undef) e hv
 |iv x=>exact rest (x:=.iv x) e hv
 |aR vs=>exact rest (x:=.aR vs) e hv
 |agg cs=>exact rest (x:=.agg cs) e hv
 |ref id v i j=>exact rest (x:=.ref id v i j) e hv
 |bp f ax=>exact rest (x:=.bp f ax) e hv
def ja (tmps:Array Value):ResultVar->Sem Value
 |.tmp t=>pure (tmps.getD t undef)
 |.cell a t=>do loadVar t (<-asAddr (tmps.getD a undef))
def iw (P:Program):ResultVar->dZ->Bool
 |.tmp t,.t n=>t==n
 |.cell a t,.cell n agg sz=>a==n&&fO P t sz agg
 |.tmp t,.keep n=>t==n
 |.cell a t,.wv n agg sz=>a==n&&fO P t sz agg
 |_,_=>false
def cF (P:Program):List ResultVar->List dZ->Bool
 |[],[]=>true
 |r::rs,x::xs=>iw P r x&&cF P rs xs
 |_,_=>false
theorem sH {t:TypeId} {v u:Value} {w w':World} (h:(Instr.loadAt t v).run P w = .ok u w'):(do loadVar t (<-asAddr v):Sem Value).run P w = .ok u w':=by
 unfold Instr.loadAt at h;cases v with
 |pointer a=>
  cases a with
  |none=>simp[Instr.sureAddr]at h
  |some a=>simpa[Instr.sureAddr,asAddr]using h
 |_=>simp[Instr.sureAddr]at h
theorem m9 {g:Gh} (r:Rel ν k g) {a:Act} {fr:Fr} (hf:eU ν g a.tmps fr) {rv:ResultVar} {x:dZ} (hc:iw P rv x=true) {y:AV} {h':Hp} (e:(jG fr x).run g.h=some (y,h')) :
  ∃v g',(ja a.tmps rv).run P g.w = .ok v g.w/\g'.w=g.w/\g'.h=h'/\Rel ν k g'/\aV ν g g'/\RA ν g' v y:=by
 cases x with
 |t n=>
  cases rv with
  |cell=>simp[iw]at hc
  |tmp t=>
   obtain⟨I',f,hR⟩:=vW r e (ak (ν:=ν) (x:=.tmp t) hf (by simpa[aF,iw]using hc));exact⟨_,{ g with I:=I',h:=h' },by simp[ja,Act.eval],rfl,rfl,f.rel,f.mono,hR⟩
 |cell n agg sz=>
  cases rv with
  |tmp=>simp[iw]at hc
  |cell t ty=>
   simp only[iw,Bool.and_eq_true]at hc;obtain⟨z,h1,e1,e2⟩:=ag e;obtain⟨rfl,u,hu,yL⟩:=lf r hc.2 (ak (ν:=ν) (x:=.tmp t) hf (by simpa[aF]using hc.1)) e1;obtain⟨I',f,hR⟩:=vW r e2 yL;exact⟨u,{ g with I:=I',h:=h' },sH hu,rfl,rfl,f.rel,f.mono,hR⟩
 |keep n=>
  cases rv with
  |cell=>simp[iw]at hc
  |tmp t=>
   obtain⟨rfl,rfl⟩:=af e;exact⟨_,g,by simp[ja,Act.eval],rfl,rfl,r,.refl ν g,ak (ν:=ν) (x:=.tmp t) (a:=a) hf (by simpa[aF,iw]using hc)⟩
 |wv n agg sz=>
  cases rv with
  |tmp=>simp[iw]at hc
  |cell t ty=>
   simp only[iw,Bool.and_eq_true]at hc;obtain⟨rfl,u,hu,yL⟩:=lf r hc.2 (ak (ν:=ν) (x:=.tmp t) hf (by simpa[aF]using hc.1)) e;exact⟨u,g,sH hu,rfl,rfl,r,.refl ν g,yL⟩
theorem kN:∀(eC:List ResultVar) (xs:List dZ) (g:Gh) (a:Act) (fr:Fr) (ys:List AV) (h':Hp),cF P eC xs=true->Rel ν k g->eU ν g a.tmps fr->(M.aJ (jG fr) xs).run g.h=some (ys,h')->
  ∃vs g',vs.length=eC.length/\(∀(j:Nat) (rv:ResultVar) (v:Value),eC[j]?=some rv->vs[j]?=some v->(ja a.tmps rv).run P g.w = .ok v g.w)/\g'.w=g.w/\g'.h=h'/\Rel ν k g'/\aV ν g g'/\RL ν g' vs ys
 |[],[],g,a,fr,ys,h',_,r,_,e=>by
  obtain⟨rfl,rfl⟩:=b7 e;exact⟨[],g,rfl,λj rv v h=>by simp at h,rfl,rfl,r,.refl ν g,.nil⟩
 |rv::eC,x::xs,g,a,fr,ys,h',hc,r,hf,e=>by
  simp only[cF,Bool.and_eq_true]at hc;obtain⟨y,h1,zs,e1,e2,rfl⟩:=bR e;obtain⟨v,g1,q1,q2,q3,q4,q5,q6⟩:=m9 r hf hc.1 e1;obtain⟨vs,g2,p1,p2,p3,p4,p5,p6,p7⟩:=kN eC xs g1 a fr zs h' hc.2 q4 (hf.mono q5) (by rw[q3];exact e2);refine⟨v::vs,g2,by simp[p1],λj yM v' hj hv=>?_,p3.trans q2,p4,p5,q5.trans p6,.cons (p6 _ _ q6) p7⟩;cases j with
  |zero=>simp at hj hv;subst hj hv;exact q1
  |succ j=>have:=p2 j yM v' (by simpa using hj) (by simpa using hv);rwa [q2]at this
 |[],_::_,_,_,_,_,_,hc,_,_,_=>by simp[cF]at hc
 |_::_,[],_,_,_,_,_,hc,_,_,_=>by simp[cF]at hc
def sI:List Value->Value
 |[v]=>v
 |vs=>.tuple vs.toArray
theorem ky {fn:Func} {tmps:Array Value} {w:World} {eC:List ResultVar} (FH:fn.results=eC.toArray) (h4:eC.length<=4) {vs:List Value} (hl:vs.length=eC.length)
  (h:∀(j:Nat) (rv:ResultVar) (v:Value),eC[j]?=some rv->vs[j]?=some v->(ja tmps rv).run P w = .ok v w) :
  (results fn tmps).run P w = .ok (sI vs) w:=by
 have hd:(results fn tmps)=(do
   let vs <-fn.results.mapM (ja tmps)
   pure (if h:vs.size=1 then vs[0] else .tuple vs)):=by
  have hf:ja tmps=λrv=>(match rv with | .tmp t=>pure (tmps.getD t undef) | .cell a t=>do loadVar t (<-asAddr (tmps.getD a undef)):Sem Value):=by
   funext rv;cases rv<;>rfl
  rw[hf];rfl
 rw[hd,FH];clear FH
 match eC,vs,hl,h4,h with
 |[],[],_,_,_=>simp[sI]
 |[a],[v],_,_,h=>simp[sI,h 0 a v rfl rfl]
 |[a,b],[v,u],_,_,h=>simp[sI,h 0 a v rfl rfl,h 1 b u rfl rfl]
 |[a,b,c],[v,u,x],_,_,h=>simp[sI,h 0 a v rfl rfl,h 1 b u rfl rfl,h 2 c x rfl rfl]
 |[a,b,c,d],[v,u,x,y],_,_,h=>simp[sI,h 0 a v rfl rfl,h 1 b u rfl rfl,h 2 c x rfl rfl,h 3 d y rfl rfl]
 |_::_::_::_::_::_,_,_,h4,_=>simp at h4
theorem jz {g:Gh} (r:Rel ν k g) {a:Act} {fr:Fr} (hf:eU ν g a.tmps fr) {fn:Func} {xs:List dZ} (hc:cF P fn.results.toList xs=true) (h4:xs.length<=4) {y:AV} {h':Hp} (e:(dk fr xs).run g.h=some (y,h')) :
  ∃v g',(results fn a.tmps).run P g.w = .ok v g.w/\g'.w=g.w/\g'.h=h'/\Rel ν k g'/\aV ν g g'/\RA ν g' v y:=by
 have hlen:∀{eC:List ResultVar} {xs:List dZ},cF P eC xs=true->eC.length=xs.length:=by
  intro eC
  induction eC with
  |nil=>intro xs h;cases xs with | nil=>rfl | cons=>simp[cF]at h
  |cons a r ih=>intro xs h;cases xs with | nil=>simp[cF]at h | cons x xs=>simp only[cF,Bool.and_eq_true]at h;simp[ih h.2]
 have hn:=hlen hc;have many:∀{ys:List AV},(M.aJ (jG fr) xs).run g.h=some (ys,h')->xs.length≠1->∃v g',(results fn a.tmps).run P g.w = .ok v g.w/\g'.w=g.w/\g'.h=h'/\Rel ν k g'/\aV ν g g'/\RA ν g' v (.aR ys):=by
  intro ys e bF;obtain⟨vs,g',p1,p2,p3,p4,p5,p6,p7⟩:=kN fn.results.toList xs g a fr ys h' hc r hf e;refine⟨.tuple vs.toArray,g',?_,p3,p4,p5,p6,.aR (by simpa using p7.1) λj v c h1 h2=>p7.2 j v c (by simpa using h1) h2⟩;rw[ky (eC:=fn.results.toList) (by simp) (by omega) p1 p2];rcases vs with _ | ⟨v,_ | ⟨u,vs⟩⟩
  ·rfl
  ·exact absurd (hn.symm.trans p1.symm) (by simpa using bF)
  ·rfl
 rcases xs with _ | ⟨x,_ | ⟨x2,xs⟩⟩
 ·obtain⟨l,h1,e1,e2⟩:=ag e;obtain⟨rfl,rfl⟩:=af e2;exact many e1 (by simp)
 ·rcases hl:fn.results.toList with _ | ⟨rv,_ | ⟨Ja,eC⟩⟩
  ·rw[hl]at hn;simp at hn
  ·rw[hl]at hc;simp only[cF,Bool.and_true]at hc;obtain⟨v,g',q1,q2,q3,q4,q5,q6⟩:=m9 r hf hc e;refine⟨v,g',?_,q2,q3,q4,q5,q6⟩;refine ky (eC:=[rv]) (vs:=[v]) (by rw[<-hl]) (by simp) rfl λj yM v' hj hv=>?_
   cases j with
   |zero=>simp at hj hv;subst hj hv;exact q1
   |succ j=>simp at hj
  ·rw[hl]at hn;simp at hn
 ·obtain⟨l,h1,e1,e2⟩:=ag e;obtain⟨rfl,rfl⟩:=af e2;exact many e1 (by simp)
end
def da (d:Nat) (x:aH):au:=⟨some d,.nU x,none,[]⟩
def nH (e:Nat) (z:List IV):List au:=[⟨some 5,.nV e z 0 [],none,[]⟩,da 6 (.t 0),⟨some 7,.app e (.t 5) (.t 6),none,[]⟩,da 2 (.t 7)]
def rz (P:Program) (nt e:Nat) (b:Oper):Bool:=
 b.dst==some 4&&Nat.blt 4 nt&&(match b.guard with | none=>true | _=>false)&&(match b.op with | .binOp .eql t (.tmp 3) (.const (.slice none 0 0)) _=>sliceB P t e | _=>false)
def lJ (P:Program) (ν:Nat->Nat) (nt:Nat) (c:Code) (e:Nat) (z:List IV):Bool:=
 match c with
 |.seq (.region _ o1 false) (.seq (.seq (.region _ o2 false) (.cond (.tmp 4) (.seq (.region _ o3 false) .ret) .skip)) (.seq (.region _ o4 false) .ret))=>
  gW P ν nt false o1 [da 2 (.c (.aq e))]&&(match o2.toList with | [a,b]=>eo P ν nt o2 a (da 3 (.t 0))&&rz P nt e b | _=>false) &&
  gW P ν nt false o3 [da 2 (.c (.aq e))]&&gW P ν nt false o4 (nH e z)
 |_=>false
section
variable {ν:Nat->Nat} {P:Program} {k:Cx}
def gh:Nat->List AV->Hp->Option (AV×Hp):=λ_ _ _=>none
theorem bP:bq ν P gh:=λf args hp r bM e=>by simp[gh]at e
theorem xd (h:Hp) (n:Nat) (x y:Ob):GE (set h n y) (set (set h n x) n y):=λm=>by
 by_cases hm:n=m<;>simp[aQ,hm]
theorem ca.nx {nt:Nat} {g:Gh} {a:Act} {s:St} (m:ca ν k nt g a s) {fr:Fr} (hf:fr=s.fr) {hp:Hp} (hh:hp=s.hp) (n:Nat):ca ν k nt g a ⟨fr,hp,n⟩:=by
 subst hf hh;exact⟨m.h,m.r,m.f,m.n,m.d⟩
theorem uF (e:Nat) (x:AV) (hp:Hp):aO gh false [da 2 (.c (.aq e))] [0] ⟨[(0,x)],hp,1000⟩=some ⟨[(0,x)],hp,1064⟩:=rfl
theorem uG (e:Nat) (fr:Fr) (hp:Hp):aO gh false [da 2 (.c (.aq e))] [2] ⟨fr,hp,1000⟩=some ⟨bb [2] (set fr 2 (.iv (.aq e))),hp,1064⟩:=rfl
theorem uH {e:Nat} {z:List IV} (hz:z.length=e) {es:List (List IV)} {hp:Hp} (hf:get hp 1000=none) (hr:roomy es.length=true) :
  aO gh false (nH e z) [2] ⟨[(0,.iv (.sl e es))],hp,1000⟩=some ⟨[(2,.own 1000 0 es.length 1)],set (set hp 1000 (.buf 0 e [])) 1000 (.buf 1 e es),1256⟩:=by
 simp[aO,nH,da,aX,step,bG,bk,aW,M.aJ,M.run,M.ok,M.fresh,M.write,hz,hf,bh,ao.set,ev,get,app,elems,M.look,aQ,dK,hr,bb]
theorem qy {f:Nat} {fn:Func} {c:Code} (dp:P.funcs[ν f]?=some fn) (hb:fn.body=some c) (cV:P.follows .mixedOrders=true) {e:Nat} {z:List IV} (hc:lJ P ν fn.ntmps c e z=true)
  (uI:cF P fn.results.toList [.t 2]=true) {args:List AV} {hp:Hp} {r:AV} {bM:Hp} (he:(tG e args).run hp=some (r,bM)):iX ν P f args hp r bM:=by
 intro k0 g0 aS hh Jb Jc r0 dx;unfold tG at he;split at he
 case h_2=>exact(ae he).elim
 rename_i e' es;obtain⟨_,h1,e1,e2⟩:=ag he;obtain⟨hk,rfl⟩:=l7 e1;simp only[Bool.and_eq_true,beq_iff_eq]at hk;obtain⟨rfl,dF⟩:=hk;obtain⟨_,h2,e3,e4⟩:=ag e2;obtain⟨vT,rfl⟩:=M.ct e3;obtain⟨_,h3,e5,e6⟩:=ag e4;obtain rfl:=aI e5;obtain⟨_,h4,e7,e8⟩:=ag e6;obtain rfl:=aI e7;obtain⟨rfl,rfl⟩:=af e8;clear he e1 e2 e3 e4 e5 e6 e7 e8;obtain⟨cv,gZ⟩:∃cv,aS=#[cv]:=by
  have:=dx.1;simp only[List.length_cons,List.length_nil,Nat.zero_add,Array.length_toList]at this;obtain⟨l⟩:=aS
  match l,this with
  |[v],_=>exact⟨v,rfl⟩
 subst gZ;have lx:RA ν g0 cv (.iv (.sl e' es)):=dx.2 0 _ _ rfl rfl;refine calls_of_wp dp hb ?_;have m0:ca ν k0 fn.ntmps g0 { tmps:=#[cv]++Array.replicate (fn.ntmps - 1) undef,defers:=[] } ⟨[(0,.iv (.sl e' es))],h2,1000⟩:=by
  refine⟨hh,r0,λt x ht=>?_,by simp;omega,rfl⟩;simp only[get]at ht;split at ht
  ·rename_i h0;subst h0;simp only[Option.some.injEq]at ht;subst ht;exact⟨cv,by simp[Array.getElem?_append],lx⟩
  ·cases ht
 unfold lJ at hc;split at hc
 case h_2=>cases hc
 rename_i i1 o1 i2 o2 i3 o3 i4 o4;simp only[Bool.and_eq_true]at hc;obtain⟨⟨⟨pU,nc⟩,pV⟩,lK⟩:=hc;split at nc
 case h_2=>cases nc
 rename_i oa ob hl;simp only[Bool.and_eq_true]at nc;obtain⟨CK,dB⟩:=nc;simp only[rz,Bool.and_eq_true,beq_iff_eq]at dB;obtain⟨⟨⟨td,CL⟩,yN⟩,uJ⟩:=dB;have zR:ob.guard=none:=by
  split at yN
  ·assumption
  ·cases yN
 split at uJ
 case h_2=>cases uJ
 rename_i t yt zS;obtain⟨el,ti,gn, -, -⟩:=dz uJ;refine wp_seq (eW bP cV pU (uF e' (.iv (.sl e' es)) h2) m0 λg1 a1 m1 fT=>?_);refine wp_seq (wp_seq (wp_region_list ?_));rw[hl];refine wpList_step λK hK=>gg (slot:=0) (s1:=⟨[(0,.iv (.sl e' es)),(3,.iv (.sl e' es))],h2,1064⟩) bP CK m1 rfl λg2 a2 m2 fU=>hK _ _ ?_
 refine wpList_step λK2 lL=>?_
 simp only[Region.wanted,zR,if_true];obtain⟨v3,yO,CM⟩:=m2.f 3 _ rfl;have nd:a2.eval (.tmp 3)=v3:=by simp[Act.eval,Array.getD,(Array.getElem?_eq_some_iff.1 yO).1,(Array.getElem?_eq_some_iff.1 yO).2]
 obtain⟨aa,n,cap,eS,mC⟩:∃aa n cap,v3 = .slice aa n cap/\(aa=none->es=[]):=by
  cases CM with
  |iv h=>
   cases h with
   |dU a cap e=>exact⟨a,0,cap,rfl,λ_=>rfl⟩
   |sl b off n cap e es f=>exact⟨_,n,cap,rfl,λh=>by cases h⟩
 subst eS;have aY:(execOp a2.eval ob).run P g2.w = .ok (.value (.bool aa.isNone)) g2.w:=by
  have hg:eqGuard .eql t (.tmp 3) (.const (.slice none 0 0)) (.slice aa n cap) (.slice none 0 0)=pure ():=rfl;have:=Lib.run_eql_slice_nil g2.w t el aa n cap 0 0 gn;simp only[execOp,zS,nd,show a2.eval (.const (.slice none 0 0)) = .slice none 0 0 from rfl,hg];simp only[Sem.run_bind,Sem.run_pure,Result.andThen_ok,this]
 unfold Oper.wp;rw[aY,Oper.upon_value];refine lL _ _ (wpList_nil ?_);have m3:=m2.put (d:=some 4) (v:=.bool aa.isNone) (y:=.iv (.bool aa.isNone)) (λt ht=>by cases ht;simpa using CL) m2.h m2.r (.refl ν g2) (.iv (.bool _));rw[<-td]at m3;simp only[Exit.then];have gH:(a2.put ob.dst (.bool aa.isNone)).eval (.tmp 4) = .bool aa.isNone:=by
  have:=ak (ν:=ν) (x:=.tmp 4) (y:=.t 4) m3.f (by rfl);have zT:ev (bh [(0,AV.iv (.sl e' es)),(3,.iv (.sl e' es))] ob.dst (.iv (.bool aa.isNone))) (.t 4) = .iv (.bool aa.isNone):=by rw[td];rfl
  rw[zT]at this;generalize(a2.put ob.dst (.bool aa.isNone)).eval (.tmp 4)=u at this;cases this with
  |iv h=>cases h;rfl
 refine wp_cond gH ?_;have fin:∀(g':Gh) (a':Act),ca ν k0 fn.ntmps g' a' ⟨[(2,.own 1000 0 es.length 1)],set (set h2 1000 (.buf 0 e' [])) 1000 (.buf 1 e' es),1256⟩->gF g0 g'->
   a'.defers=[]/\∃v,(results fn a'.tmps).run P g'.w = .ok v g'.w/\∃u c6,Ending.returned v = .returned u/\c6.w=g'.w/\c6.h=set (set h2 1000 (.buf 0 e' [])) 1000 (.buf 1 e' es)/\Rel ν k0 c6/\gF g0 c6/\
    RA ν c6 u (.own 1000 0 es.length 1):=by
  intro g' a' m' hm;obtain⟨v,c6,q1,q2,q3,q4,q5,q6⟩:=jz (y:=.own 1000 0 es.length 1) (h':=set (set h2 1000 (.buf 0 e' [])) 1000 (.buf 1 e' es)) m'.r m'.f uI (by simp) (by
   rw[m'.h];simp[dk,jG,wy,ev,get,M.look,M.bind,M.run,aQ,M.ok])
  exact⟨m'.d,v,q1,v,c6,rfl,q2,q3,q4,hm.trans q5.low,q6⟩
 cases aa with
 |none=>
  obtain rfl:=mC rfl;simp only[Option.isNone_none,if_true]at m3 ⊢;refine wp_seq (eW bP cV pV (uG e' _ h2) (m3.nx rfl rfl 1000) λg4 a4 m4 rA=>wp_ret ?_);have nA:=m4.r.new (s:=1000) (ob:=.buf 1 e' []) (p:=none) (w':=g4.w) (by rw[m4.h];exact vT) (Nat.le_refl _) rfl rfl rfl (λ_ _=>rfl) (λb h=>by cases h) λ_=>.inl ⟨aw g4.φ 1000 none,rfl⟩
  have pP:GE (set g4.h 1000 (.buf 1 e' [])) (set (set h2 1000 (.buf 0 e' [])) 1000 (.buf 1 e' [])):=by rw[m4.h];exact xd _ _ _ _
  obtain⟨r5,CN⟩:=Rel.he nA.1 pP;refine fin { g4 with φ:=bl g4.φ 1000 none,h:=set (set h2 1000 (.buf 0 e' [])) 1000 (.buf 1 e' []) } a4 ⟨rfl,r5,λt x ht=>?_,m4.n,m4.d⟩ ((((fT.trans fU).trans rA).trans nA.2).trans CN).low;simp only[get]at ht;split at ht
  ·rename_i CO;subst CO;simp only[Option.some.injEq]at ht;subst ht;obtain⟨u,hu,Jd⟩:=m4.f 2 (.iv (.aq e')) (by rw[td];rfl);refine⟨u,hu,?_⟩;cases Jd with
   |iv h=>
    cases h with
    |aq a e=>
     refine .own rfl ?_;unfold aE;simp only[an,aw];exact⟨Nat.le_refl _,λ_=>⟨⟨a,rfl⟩,rfl⟩⟩
  ·cases ht
 |some ad=>
  simp only[Option.isNone_some,Bool.false_eq_true,if_false]at m3 ⊢;refine wp_skip ?_;simp only[Exit.then];have Je:ca ν k0 fn.ntmps g2 (a2.put ob.dst (.bool false)) ⟨[(0,.iv (.sl e' es))],h2,1000⟩:=⟨m3.h,m3.r,λt x ht=>m3.f t x (by
   simp only[get]at ht;split at ht
   ·rename_i h0;subst h0;rw[td];exact ht
   ·cases ht),m3.n,m3.d⟩
  have hz:z.length=e':=by
   simp only[gW,Bool.and_eq_true]at lK;have:=(fD lK.1);have hlen:=this.1;have h0:=this.2 0 (o4.toList[0]'(by rw[hlen];simp[nH])) _ (List.getElem?_eq_getElem _) rfl;simp only[eo,Bool.and_eq_true]at h0;have h1:=h0.2;simp only[rj]at h1;split at h1
   ·simp only[Bool.and_eq_true,wY]at h1;have h2:=h1.1.2;split at h2
    ·simp only[Bool.and_eq_true,beq_iff_eq]at h2;exact h2.1.2
    ·cases h2
   ·cases h1
  refine wp_seq (eW bP cV lK (uH hz vT dF) Je λg4 a4 m4 rA=>wp_ret ?_);exact fin g4 a4 m4 ((fT.trans fU).trans rA).low
end
section
variable {ν:Nat->Nat} {P:Program} {k:Cx}
def pW (P:Program) (ν:Nat->Nat) (fn:Func) (c:Code) (ir:al):Bool:=
 (match ir.cl with | some p=>(if Nat.blt p.1 1000000 then lJ P ν fn.ntmps c p.1 p.2&&cF P fn.results.toList [.t 2] else ck P ν fn.ntmps c ir.body) | none=>ck P ν fn.ntmps c ir.body)&&cF P fn.results.toList ir.res&&Nat.ble ir.res.length 4
def nf (P:Program) (ν:Nat->Nat) (f:Nat) (ir:al):Prop:=
 match ir.cl with
 |none=>True
 |some p=>Nat.blt p.1 1000000=true\/∀args hp r bM,wz p.1 args hp=some (r,bM)->iX ν P f args hp r bM
def j5 (P:Program) (ν:Nat->Nat) (prog:Nat->Option al):Prop:=
 ∀f ir,prog f=some ir->∃fn c,P.funcs[ν f]?=some fn/\fn.body=some c/\(fn.name=="runtime.NumGoroutine")=false/\pW P ν fn c ir=true/\nf P ν f ir
theorem jU:∀(l:List AV) (i t:Nat),get (params l i) t=if i<=t then l[t - i]? else none
 |[],i,t=>by simp[params,get]
 |x::r,i,t=>by
  simp only[params,get];by_cases h:i=t
  ·subst h;simp
  ·rw[if_neg h,jU r (i+1) t];by_cases h':i+1<=t
   ·rw[if_pos h',if_pos (by omega)];have:t - i=(t - (i+1))+1:=by omega
    rw[this];simp
   ·rw[if_neg h',if_neg (by omega)]
theorem sound (cV:P.follows .mixedOrders=true) {prog:Nat->Option al} (tie:j5 P ν prog):∀n,bq ν P (bg prog n):=by
 intro n
 induction n with
 |zero=>intro f args hp r bM e;simp[bg]at e
 |succ n ih=>
  intro f args hp r bM e;simp only[bg]at e;cases hf:prog f with
  |none=>rw[hf]at e;cases e
  |some ir=>
   rw[hf]at e;simp only[]at e;obtain⟨fn,c,dp,hb,rq,jA,AX⟩:=tie f ir hf;refine⟨⟨fn,dp,by simp[hb],rq⟩,?_⟩;simp only[pW,Bool.and_eq_true,Nat.ble_eq]at jA;have main:ck P ν fn.ntmps c ir.body=true->(if args.length=ir.np then
     match aA (bg prog n) n ir.body ⟨params args 0,hp,1000⟩with
     |some (.norm,s) | some (.ret,s)=>(dk s.fr ir.res).run s.hp
     |_=>none
    else none)=some (r,bM)->iX ν P f args hp r bM:=by
    intro ox e;split at e
    ·rename_i hlen;intro k0 g0 aS hh Jb Jc r0 dx;refine calls_of_wp dp hb ?_;have m0:ca ν k0 fn.ntmps g0 { tmps:=aS++Array.replicate (fn.ntmps - aS.size) undef,defers:=[] } ⟨params args 0,hp,1000⟩:=by
      refine⟨hh,r0,λt x ht=>?_,by simp;omega,rfl⟩;simp only[jU,Nat.zero_le,if_true,Nat.sub_zero]at ht;have aT:t<aS.size:=by have:=dx.1;have:=ay ht;simp only[Array.length_toList]at *;omega
      refine⟨aS[t],by simp[Array.getElem?_append,aT],dx.2 t _ _ (by simp[aT]) ht⟩
     cases he:aA (bg prog n) n ir.body ⟨params args 0,hp,1000⟩with
     |none=>rw[he]at e;cases e
     |some p=>
      obtain⟨ex,s⟩:=p;rw[he]at e;have fin:∀(g':Gh) (a':Act),ca ν k0 fn.ntmps g' a' s->gF g0 g'->(dk s.fr ir.res).run s.hp=some (r,bM)->a'.defers=[]/\∃v,(results fn a'.tmps).run P g'.w = .ok v g'.w/\
        ∃u c6,Ending.returned v = .returned u/\c6.w=g'.w/\c6.h=bM/\Rel ν k0 c6/\gF g0 c6/\RA ν c6 u r:=by
       intro g' a' m' hm hr;obtain⟨v,c6,q1,q2,q3,q4,q5,q6⟩:=jz m'.r m'.f jA.1.2 jA.2 (by rw[m'.h];exact hr);exact⟨m'.d,v,q1,v,c6,rfl,q2,q3,q4,hm.trans q5.low,q6⟩
      refine sG ih cV ir.body c ox g0 _ _ ex s he m0 _ λg' a' m' hm=>?_
      cases ex with
      |norm=>exact fin g' a' m' hm e
      |ret=>exact fin g' a' m' hm e
      |exit i=>cases e
    ·cases e
   cases dw:ir.cl with
   |some p=>
    unfold nf at AX;rw[dw]at e jA AX;simp only[]at e jA AX;split at e
    ·rename_i hq;rw[if_pos hq]at jA;simp only[Bool.and_eq_true]at jA;exact qy dp hb cV jA.1.1.1 jA.1.1.2 e
    ·rename_i hq;rw[if_neg hq]at jA;split at e
     ·rename_i r' hr;cases e;exact(AX.resolve_left hq) _ _ _ _ hr
     ·exact main jA.1.1 e
   |none=>
   rw[dw]at e jA;exact main jA.1.1 e
end
end ao
class aB (H:Type) (α:outParam Type) where make::
 get:H->Nat->Option α
 set:H->Nat->α->H
 law:∀(h:H) (n m:Nat) (x:α),get (set h n x) m=if n=m then some x else get h m
namespace aB
open Go ao
theorem aQ {H α:Type} [aB H α] (h:H) (n m:Nat) (x:α):get (set h n x) m=if n=m then some x else get h m:=aB.law h n m x
theorem an {H α:Type} [aB H α] (h:H) (n:Nat) (x:α):get (set h n x) n=some x:=by simp[aQ]
theorem bO {H α:Type} [aB H α] (h:H) {n m:Nat} (x:α) (bF:n≠m):get (set h n x) m=get h m:=by simp[aQ,bF]
inductive Tr (α:Type) where
 |nil
 |node (v:Option α) (l r:Tr α)
 deriving Inhabited
def Tr.look {α:Type}:Tr α->Nat->Option α
 |.nil,_=>none
 |.node v _ _,0=>v
 |.node _ l r,n+1=>if n % 2=0 then l.look (n / 2) else r.look (n / 2)
def Tr.put {α:Type}:Nat->Nat->α->Tr α->Tr α
 |0,_,_,t=>t
 |_+1,0,x,.nil=>.node (some x) .nil .nil
 |_+1,0,x,.node _ l r=>.node (some x) l r
 |f+1,n+1,x,.nil=>if n % 2=0 then .node none (Tr.put f (n / 2) x .nil) .nil else .node none .nil (Tr.put f (n / 2) x .nil)
 |f+1,n+1,x,.node v l r=>if n % 2=0 then .node v (Tr.put f (n / 2) x l) r else .node v l (Tr.put f (n / 2) x r)
theorem Tr.look_nil {α:Type} (n:Nat):(Tr.nil:Tr α).look n=none:=by cases n<;>rfl
theorem Tr.zU {α:Type} (x:α):∀(f n m:Nat) (t:Tr α),n<f->(Tr.put f n x t).look m=if n=m then some x else t.look m:=by
 intro f
 induction f with
 |zero=>intro n m t h;omega
 |succ f ih=>
  intro n m t h;have key:∀{n m:Nat},n % 2=m % 2->(n / 2=m / 2↔n=m):=λh=>by omega
  cases n with
  |zero=>cases t<;>cases m<;>simp[Tr.put,Tr.look]
  |succ n=>
   have hn:n / 2<f:=by omega
   cases t with
   |nil=>
    cases m with
    |zero=>simp only[Tr.put];split<;>simp[Tr.look]
    |succ m=>
     simp only[Tr.put];by_cases h1:n % 2=0<;>by_cases h2:m % 2=0<;>simp only[h1,h2,if_true,if_false,Tr.look,ih _ _ _ hn,Nat.add_right_cancel_iff]
     ·simp only[key (h1.trans h2.symm)]
     ·rw[if_neg (by omega)]
     ·rw[if_neg (by omega)]
     ·simp only[key (show n % 2=m % 2 by omega)]
   |node v l r=>
    cases m with
    |zero=>simp only[Tr.put];split<;>simp[Tr.look]
    |succ m=>
     simp only[Tr.put];by_cases h1:n % 2=0<;>by_cases h2:m % 2=0<;>simp only[h1,h2,if_true,if_false,Tr.look,ih _ _ _ hn,Nat.add_right_cancel_iff]
     ·simp only[key (h1.trans h2.symm)]
     ·rw[if_neg (by omega)]
     ·rw[if_neg (by omega)]
     ·simp only[key (show n % 2=m % 2 by omega)]
instance {α:Type}:aB (Tr α) α where
 get:=Tr.look
 set t n x:=Tr.put (n+1) n x t
 law _ n _ x:=Tr.zU x _ _ _ _ (Nat.lt_succ_self n)
instance {α:Type}:aB (List (Nat×α)) α where
 get:=ao.get
 set:=ao.set
 law:=ao.aQ
theorem dM {α:Type} (n:Nat):get ([]:List (Nat×α)) n=none:=rfl
theorem bQ {α:Type} (p:Nat×α) (r:List (Nat×α)) (n:Nat):get (p::r) n=if p.1=n then some p.2 else get r n:=rfl
theorem lM {α:Type} (n:Nat):get (Tr.nil:Tr α) n=none:=Tr.look_nil n
inductive AV where
 |undef
 |iv (x:IV)
 |cG (q:Nat)
 |agg (cs:List AV)
 |aR (vs:List AV)
 |own (id o n v:Nat)
 |ref (id v i j:Nat)
 |bp (f:Nat) (fs ax:List AV)
 deriving Inhabited
abbrev AV.nI (n:Int):AV:=.iv (.int .i64 n)
abbrev AV.bI (b:Bool):AV:=.iv (.bool b)
inductive Ob where
 |cells (cs:List AV)
 |buf (v e:Nat) (es:List (List AV))
 |aZ (v e:Nat) (es:List (List IV))
 |c7 (xs:List IV)
 |map (aL:List (AV×AV))
 deriving Inhabited
mutual
def kZ:IV->IV->Bool
 |.bool a,.bool b=>a==b
 |.int k a,.int j b=>k==j&&a==b
 |.str a,.str b=>a.data.toList==b.data.toList
 |.aq a,.aq b=>a==b
 |.sl a x,.sl b y=>a==b&&mo x y
 |.bc,.bc=>true
 |.ptr x,.ptr y=>mI x y
 |.fn f x,.fn g y=>f==g&&mI x y
 |.junk,.junk=>true
 |_,_=>false
def mI:List IV->List IV->Bool
 |[],[]=>true
 |x::xs,y::ys=>kZ x y&&mI xs ys
 |_,_=>false
def mo:List (List IV)->List (List IV)->Bool
 |[],[]=>true
 |x::xs,y::ys=>mI x y&&mo xs ys
 |_,_=>false
end
mutual
theorem yP:∀{x y:IV},kZ x y=true->x=y
 |.bool a,y,h=>by cases y<;>simp_all [kZ]
 |.int k a,y,h=>by cases y<;>simp_all [kZ]
 |.str a,y,h=>by
  cases y<;>simp[kZ]at h;rename_i b;obtain⟨⟨a⟩⟩:=a;obtain⟨⟨b⟩⟩:=b;simp at h;rw[h]
 |.aq a,y,h=>by cases y<;>simp_all [kZ]
 |.sl a x,y,h=>by
  cases y<;>simp[kZ]at h;rw[h.1,qz h.2]
 |.bc,y,h=>by cases y<;>simp_all [kZ]
 |.ptr x,y,h=>by
  cases y<;>simp[kZ]at h;rw[ng h]
 |.fn f x,y,h=>by
  cases y<;>simp[kZ]at h;rw[h.1,ng h.2]
 |.junk,y,h=>by cases y<;>simp_all [kZ]
theorem ng:∀{x y:List IV},mI x y=true->x=y
 |[],y,h=>by cases y<;>simp_all [mI]
 |x::xs,y,h=>by
  cases y<;>simp[mI]at h;rw[yP h.1,ng h.2]
theorem qz:∀{x y:List (List IV)},mo x y=true->x=y
 |[],y,h=>by cases y<;>simp_all [mo]
 |x::xs,y,h=>by
  cases y<;>simp[mo]at h;rw[ng h.1,qz h.2]
end
mutual
theorem uK:∀x:IV,kZ x x=true
 |.bool _ | .int _ _ | .str _ | .aq _ | .bc | .junk=>by simp[kZ]
 |.sl _ x=>by simp[kZ,rB x]
 |.ptr x | .fn _ x=>by simp[kZ,oX x]
theorem oX:∀x:List IV,mI x x=true
 |[]=>rfl
 |x::xs=>by simp[mI,uK x,oX xs]
theorem rB:∀x:List (List IV),mo x x=true
 |[]=>rfl
 |x::xs=>by simp[mo,oX x,rB xs]
end
mutual
def j6:AV->AV->Bool
 |.undef,.undef=>true
 |.iv x,.iv y=>kZ x y
 |.cG a,.cG b=>a==b
 |.agg x,.agg y=>kS x y
 |.aR x,.aR y=>kS x y
 |.own a b c d,.own a' b' c' d'=>a==a'&&b==b'&&c==c'&&d==d'
 |.ref a b c d,.ref a' b' c' d'=>a==a'&&b==b'&&c==c'&&d==d'
 |.bp f x y,.bp g x' y'=>f==g&&kS x x'&&kS y y'
 |_,_=>false
def kS:List AV->List AV->Bool
 |[],[]=>true
 |x::xs,y::ys=>j6 x y&&kS xs ys
 |_,_=>false
end
mutual
theorem rC:∀{x y:AV},j6 x y=true->x=y
 |.undef,y,h=>by cases y<;>simp_all [j6]
 |.iv x,y,h=>by
  cases y<;>simp[j6]at h;rw[yP h]
 |.cG a,y,h=>by cases y<;>simp_all [j6]
 |.agg x,y,h=>by
  cases y<;>simp[j6]at h;rw[kl h]
 |.aR x,y,h=>by
  cases y<;>simp[j6]at h;rw[kl h]
 |.own a b c d,y,h=>by cases y<;>simp_all [j6]
 |.ref a b c d,y,h=>by cases y<;>simp_all [j6]
 |.bp f x z,y,h=>by
  cases y<;>simp[j6]at h;rw[h.1.1,kl h.1.2,kl h.2]
theorem kl:∀{x y:List AV},kS x y=true->x=y
 |[],y,h=>by cases y<;>simp_all [kS]
 |x::xs,y,h=>by
  cases y<;>simp[kS]at h;rw[rC h.1,kl h.2]
end
mutual
theorem zV:∀x:AV,j6 x x=true
 |.undef | .cG _ | .own _ _ _ _ | .ref _ _ _ _=>by simp[j6]
 |.iv x=>by simp[j6,uK x]
 |.agg x | .aR x=>by simp[j6,mq x]
 |.bp _ x y=>by simp[j6,mq x,mq y]
theorem mq:∀x:List AV,kS x x=true
 |[]=>rfl
 |x::xs=>by simp[kS,zV x,mq xs]
end
def rD:List (List AV)->List (List AV)->Bool
 |[],[]=>true
 |x::xs,y::ys=>kS x y&&rD xs ys
 |_,_=>false
theorem uL:∀{x y:List (List AV)},rD x y=true->x=y
 |[],y,h=>by cases y<;>simp_all [rD]
 |x::xs,y,h=>by
  cases y<;>simp[rD]at h;rw[kl h.1,uL h.2]
def uM:List (AV×AV)->List (AV×AV)->Bool
 |[],[]=>true
 |x::xs,y::ys=>j6 x.1 y.1&&j6 x.2 y.2&&uM xs ys
 |_,_=>false
theorem vX:∀{x y:List (AV×AV)},uM x y=true->x=y
 |[],y,h=>by cases y<;>simp_all [uM]
 |x::xs,y,h=>by
  cases y<;>simp[uM]at h;rename_i y ys;obtain⟨x1,x2⟩:=x;obtain⟨y1,y2⟩:=y;rw[show x1=y1 from rC h.1.1,show x2=y2 from rC h.1.2,vX h.2]
def yQ:Option Ob->Option Ob->Bool
 |none,none=>true
 |some (.cells x),some (.cells y)=>kS x y
 |some (.buf v e x),some (.buf v' e' y)=>v==v'&&e==e'&&rD x y
 |some (.aZ v e x),some (.aZ v' e' y)=>v==v'&&e==e'&&mo x y
 |some (.c7 x),some (.c7 y)=>mI x y
 |some (.map x),some (.map y)=>uM x y
 |_,_=>false
theorem uN {x y:Option Ob} (h:yQ x y=true):x=y:=by
 unfold yQ at h;split at h
 ·rfl
 ·rw[kl h]
 ·simp at h;rw[h.1.1,h.1.2,uL h.2]
 ·simp at h;rw[h.1.1,h.1.2,qz h.2]
 ·rw[ng h]
 ·rw[vX h]
 ·cases h
abbrev Hp:=Tr Ob
abbrev Fr:=List (Nat×AV)
inductive M (α:Type) where
 |ret (a:α)
 |fail
 |get (id:Nat) (k:Option Ob->M α)
 |put (id:Nat) (o:Ob) (k:M α)
namespace M
def bind {α β:Type}:M α->(α->M β)->M β
 |.ret a,f=>f a
 |.fail,_=>.fail
 |.get id k,f=>.get id λo=>(k o).bind f
 |.put id o k,f=>.put id o (k.bind f)
def run {α:Type}:M α->Hp->Option (α×Hp)
 |.ret a,h=>some (a,h)
 |.fail,_=>none
 |.get id k,h=>(k (aB.get h id)).run h
 |.put id o k,h=>k.run (aB.set h id o)
def bz {α:Type}:M α->Hp->List Nat×List Nat
 |.ret _,_=>([],[])
 |.fail,_=>([],[])
 |.get id k,h=>let r:=(k (aB.get h id)).bz h;(id::r.1,r.2)
 |.put id o k,h=>let r:=k.bz (aB.set h id o);(r.1,r.2++[id])
def ok (b:Bool):M Unit:=if b then .ret () else .fail
def lift {α:Type}:Option α->M α
 |some a=>.ret a
 |none=>.fail
def look (id:Nat):M Ob:=.get id fun | some o=>.ret o | none=>.fail
def fresh (id:Nat):M Unit:=.get id fun | some _=>.fail | none=>.ret ()
def write (id:Nat) (o:Ob):M Unit:=.put id o (.ret ())
def aJ {α β:Type} (f:α->M β):List α->M (List β)
 |[]=>.ret []
 |x::r=>(f x).bind λy=>(aJ f r).bind λys=>.ret (y::ys)
end M
def bU:AV->M (List AV)
 |.agg cs=>.ret cs
 |.undef=>.fail
 |.aR _=>.fail
 |x=>.ret [x]
def mk (agg:Bool) (l:List AV):M AV:=
 if agg then .ret (.agg l) else match l with
  |[x]=>.ret x
  |_=>.fail
def fz (w:Bool):Nat->AV->M IV
 |0,_=>.fail
 |n+1,a=>match a with
  |.iv (.aq e)=>.ret (.sl e [])
  |.iv x=>.ret x
  |.own id o m ai=>(M.look id).bind fun
   |.buf v e es=>(M.ok (v==ai)).bind λ_=>if w then
     (M.aJ (M.aJ (fz w n)) es).bind λxs=>(M.look id).bind fun
      |.buf _ _ _=>(M.write id (.aZ v e xs)).bind λ_=>.ret (.sl e ((xs.drop o).take m))
      |_=>.fail
    else(M.aJ (M.aJ (fz w n)) ((es.drop o).take m)).bind λxs=>.ret (.sl e xs)
   |.aZ v e es=>(M.ok (v==ai)).bind λ_=>.ret (.sl e ((es.drop o).take m))
   |_=>.fail
  |.ref id ai i j=>(M.look id).bind fun
   |.buf v e es=>(M.ok (v==ai)).bind λ_=>if w then
     (M.aJ (M.aJ (fz w n)) es).bind λxs=>(M.look id).bind fun
      |.buf _ _ _=>(M.lift xs[i]?).bind λc=>(M.write id (.aZ v e xs)).bind λ_=>.ret (.ptr (c.drop j))
      |_=>.fail
    else(M.lift es[i]?).bind λc=>(M.aJ (fz w n) c).bind λxs=>.ret (.ptr (xs.drop j))
   |.aZ v _ es=>(M.ok (v==ai)).bind λ_=>(M.lift es[i]?).bind λc=>.ret (.ptr (c.drop j))
   |.cells cs=>(M.ok (ai==0&&i==0)).bind λ_=>(M.aJ (fz w n) cs).bind λxs=>if w then(M.look id).bind fun
    |.cells _=>(M.write id (.c7 xs)).bind λ_=>.ret (.ptr (xs.drop j))
    |_=>.fail
    else .ret (.ptr (xs.drop j))
   |.c7 xs=>(M.ok (ai==0&&i==0)).bind λ_=>.ret (.ptr (xs.drop j))
   |.map _=>.fail
  |.bp f [] ax=>(M.aJ (fz w n) ax).bind λxs=>.ret (.fn f xs)
  |_=>.fail
def ek (w:Bool) (a:AV):M ao.AV:=match a with
 |.agg cs=>(M.aJ (fz w 8) cs).bind λl=>.ret (.agg (l.map .iv))
 |a=>(fz w 8 a).bind λx=>.ret (.iv x)
def jV:List ao.AV->Option (List IV)
 |[]=>some []
 |.iv x::r=>(jV r).map (x::·)
 |_=>none
def vY:ao.AV->Option AV
 |.iv x=>some (.iv x)
 |.agg cs=>(jV cs).map λxs=>.agg (xs.map .iv)
 |_=>none
def yR:List ao.AV->Option (List AV)
 |[]=>some []
 |x::r=>(vY x).bind λy=>(yR r).map (y::·)
def yS:ao.AV->Option AV
 |.aR vs=>(yR vs).map .aR
 |x=>vY x
inductive aH where
 |t (n:Nat)
 |c (v:AV)
 deriving Inhabited
inductive jF where
 |nU (x:aH)
 |pick (c a b:aH)
 |alloc (tag:Nat) (z:List AV)
 |box (tag:Nat) (x:aH)
 |build (z:List AV) (ps:List (Nat×Nat×aH))
 |nV (e:Nat) (z:List AV) (len:Nat) (ps:List (Nat×aH))
 |load (agg:Bool) (sz:Nat) (a:aH)
 |store (sz:Nat) (a x:aH)
 |eD (off:Nat) (x:aH)
 |fk (agg:Bool) (off sz:Nat) (x:aH)
 |eE (len e:Nat) (x i:aH)
 |gX (e:Nat) (x i:aH)
 |eF (agg:Bool) (len e:Nat) (x i:aH)
 |fH (x i:aH)
 |bin (op:BinOp) (q:Nat) (x y:aH)
 |oi (neg:Bool) (qs:List Nat) (x y:aH)
 |un (op:UnOp) (x:aH)
 |qO (k:IntKind) (x:aH)
 |tC (x:aH)
 |hU (e:Nat) (x:aH) (lo hi:Option aH)
 |fR (x:aH) (lo hi:Option aH)
 |lh (e:Nat) (x:aH)
 |oY (len:Nat) (x:aH) (lo hi:Option aH)
 |kV (e:Nat) (z:List AV) (x:aH)
 |len (str:Bool) (x:aH)
 |app (e:Nat) (byte:Bool) (x y:aH)
 |mn (x:aH) (ys:List aH)
 |mx (x:aH) (ys:List aH)
 |ext (x:aH) (i:Nat)
 |mz (x:aH)
 |oj (f:Nat) (fs ax:List aH)
 |call (mode:Nat) (f:aH) (args:List aH)
 |nJ (f:aH) (args:List aH)
 |sY (x:aH)
 |sZ
 |gT (ok agg:Bool) (qs:List Nat) (z:List AV) (m k:aH)
 |gU (qs:List Nat) (m k v:aH)
 |gV (qs:List Nat) (m k:aH)
 |qh (m:aH)
 |dead
 |nK (x:aH)
 |mJ (e:Nat) (z:List AV) (x n:aH)
 |jW (k:IntKind) (x:aH)
 |rE (x y:aH)
 |lN (k:IntKind) (x y:aH)
 |mK (k:IntKind) (x o y:aH)
 |pX (x:aH)
 |tz (x:aH)
 |pY (x:aH)
 |pZ (x:aH)
 |lP (p n:aH)
 |AY (e:Nat)
 |te (e:Nat) (z:List AV) (n:aH)
 deriving Inhabited
structure au where
 dst:Option Nat
 op:jF
 gd:Option (Nat×Bool):=none
 iU:List Nat:=[]
 deriving Inhabited
inductive IC where
 |skip
 |gm (draw:Bool) (ops:List au) (keep:List Nat)
 |seq (a b:IC)
 |cond (c:aH) (a b:IC)
 |block (id:Nat) (b:IC)
 |loop (keep:List Nat) (b:IC)
 |exit (id:Nat)
 |ret
 |scope (b:IC)
 |stop
 deriving Inhabited
inductive dZ where
 |t (n:Nat)
 |cell (n:Nat) (agg:Bool) (sz:Nat)
 deriving Inhabited
structure St where
 fr:Fr
 hp:Hp
 nx:Nat
def ev (fr:Fr):aH->AV
 |.t n=>(get fr n).getD .undef
 |.c v=>v
def cP (o:Ob) (ai i j sz:Nat):Option (List AV):=
 match o with
 |.cells cs=>if ai=0/\i=0 then some ((cs.drop j).take sz) else none
 |.buf v _ es=>if v=ai then(es[i]?).map λc=>(c.drop j).take sz else none
 |.aZ v _ es=>if v=ai then(es[i]?).map λc=>((c.drop j).take sz).map .iv else none
 |.c7 xs=>if ai=0/\i=0 then some (((xs.drop j).take sz).map .iv) else none
 |.map _=>none
def load (agg:Bool) (sz:Nat):AV->M AV
 |.ref id ai i j=>(M.look id).bind λo=>(M.lift (cP o ai i j sz)).bind λl=>(M.ok (l.length==sz)).bind λ_=>mk agg l
 |.iv (.ptr cs)=>(M.ok ((cs.take sz).length==sz)).bind λ_=>mk agg ((cs.take sz).map .iv)
 |_=>.fail
def store (sz:Nat) (a x:AV):M AV:=
 (bU x).bind λxs=>(M.ok (xs.length==sz)).bind λ_=>
 match a with
 |.ref id ai i j=>(M.look id).bind fun
  |.cells cs=>(M.ok (Nat.ble (j+sz) cs.length)).bind λ_=>(M.write id (.cells (cn cs j xs))).bind λ_=>.ret (.aR [])
  |.buf v e es=>(M.ok (v==ai&&Nat.ble (j+sz) e)).bind λ_=>(M.lift es[i]?).bind λc=>(M.write id (.buf v e (es.set i (cn c j xs)))).bind λ_=>.ret (.aR [])
  |_=>.fail
 |_=>.fail
def valid (o:Ob) (ai i:Nat):Bool:=
 match o with
 |.cells _=>ai==0&&i==0
 |.c7 _=>ai==0&&i==0
 |.buf v _ _=>v==ai
 |.aZ v _ _=>v==ai
 |.map _=>false
def eD (off:Nat):AV->M AV
 |.ref id ai i j=>(M.look id).bind λo=>(M.ok (valid o ai i)).bind λ_=>.ret (.ref id ai i (j+off))
 |.iv (.ptr cs)=>(M.ok (Nat.ble off cs.length)).bind λ_=>.ret (.iv (.ptr (cs.drop off)))
 |_=>.fail
def fk (agg:Bool) (off sz:Nat):AV->M AV
 |.agg cs=>(M.ok (((cs.drop off).take sz).length==sz)).bind λ_=>mk agg ((cs.drop off).take sz)
 |_=>.fail
def idx:AV->M Int
 |.iv (.int _ n)=>.ret n
 |_=>.fail
def eE (len e:Nat) (x i:AV):M AV:=
 (idx i).bind λn=>(M.ok (decide (0<=n/\n<len))).bind λ_=>
 match x with
 |.ref id ai i j=>(M.look id).bind λo=>(M.ok (valid o ai i)).bind λ_=>.ret (.ref id ai i (j+n.toNat*e))
 |.iv (.ptr cs)=>(M.ok (Nat.ble (n.toNat*e) cs.length)).bind λ_=>.ret (.iv (.ptr (cs.drop (n.toNat*e))))
 |_=>.fail
def gX (e:Nat) (x i:AV):M AV:=
 (idx i).bind λn=>(M.ok (decide (0<=n))).bind λ_=>
 match x with
 |.own id o m ai=>(M.ok (decide (n<m))).bind λ_=>(M.look id).bind fun
  |.buf v e' _=>(M.ok (v==ai&&e'==e)).bind λ_=>.ret (.ref id ai (o+n.toNat) 0)
  |.aZ v e' _=>(M.ok (v==ai&&e'==e)).bind λ_=>.ret (.ref id ai (o+n.toNat) 0)
  |.cells _=>(M.ok (ai==0&&e==1)).bind λ_=>.ret (.ref id 0 0 (o+n.toNat))
  |.c7 _=>(M.ok (ai==0&&e==1)).bind λ_=>.ret (.ref id 0 0 (o+n.toNat))
  |_=>.fail
 |.iv (.sl e' es)=>(M.ok (e'==e)).bind λ_=>(M.lift es[n.toNat]?).bind λc=>.ret (.iv (.ptr c))
 |_=>.fail
def eF (agg:Bool) (len e:Nat) (x i:AV):M AV:=
 (idx i).bind λn=>(M.ok (decide (0<=n/\n<len))).bind λ_=>fk agg (n.toNat*e) e x
def fH:AV->AV->M AV
 |.iv (.str s),.iv (.int _ n)=>(M.ok (decide (0<=n))).bind λ_=>match s[n.toNat]? with
  |some b=>.ret (.iv (.int .u8 b.toNat))
  |none=>.fail
 |_,_=>.fail
def bin (op:BinOp) (q:Nat) (x y:AV):Option IV:=
 match q,x,y with
 |0,.iv (.int k a),.iv (.int k' b)=>ew op k k' a b
 |0,.iv (.str a),.iv (.str b)=>hY op a b
 |1,.iv (.bool a),.iv (.bool b)=>match op with
  |.eql=>some (.bool (a==b))
  |.neq=>some (.bool (!(a==b)))
  |_=>none
 |2,.iv .bc,.iv .bc=>match op with
  |.eql=>some (.bool true)
  |.neq=>some (.bool false)
  |_=>none
 |2,.iv (.ptr _),.iv .bc | 2,.iv .bc,.iv (.ptr _)=>match op with
  |.eql=>some (.bool false)
  |.neq=>some (.bool true)
  |_=>none
 |3,.cG 0,.cG 0=>match op with
  |.eql=>some (.bool true)
  |.neq=>some (.bool false)
  |_=>none
 |3,.bp _ _ _,.cG 0 | 3,.iv (.fn _ _),.cG 0=>match op with
  |.eql=>some (.bool false)
  |.neq=>some (.bool true)
  |_=>none
 |_,_,_=>none
def nL (op:BinOp) (q:Nat) (x y:AV):M AV:=
 match q,x,y with
 |2,.ref id ai i _,.iv .bc | 2,.iv .bc,.ref id ai i _=>(M.look id).bind λo=>(M.ok (valid o ai i)).bind λ_=>match op with
  |.eql=>.ret (.iv (.bool false))
  |.neq=>.ret (.iv (.bool true))
  |_=>.fail
 |2,.ref id ai i j,.ref bW CP i' j'=>(M.look id).bind λo=>(M.ok (valid o ai i&&id==bW&&ai==CP&&i==i'&&j==j')).bind λ_=>match op with
  |.eql=>.ret (.iv (.bool true))
  |.neq=>.ret (.iv (.bool false))
  |_=>.fail
 |q,x,y=>(M.lift (bin op q x y)).bind λv=>.ret (.iv v)
def jv (q:Nat) (x y:AV):Option Bool:=
 match q,x,y with
 |0,.iv (.int k a),.iv (.int k' b)=>if k=k' then some (a==b) else none
 |1,.iv (.bool a),.iv (.bool b)=>some (a==b)
 |2,.iv (.str a),.iv (.str b)=>some (a==b)
 |_,_,_=>none
def eqs:List Nat->List AV->List AV->Option Bool
 |[],[],[]=>some true
 |q::qs,x::xs,y::ys=>(jv q x y).bind λb=>(eqs qs xs ys).bind λc=>some (b&&c)
 |_,_,_=>none
def un (op:UnOp):AV->Option IV
 |.iv (.int k a)=>match op with
  |.neg=>some (.int k (k.wrap (0 - a)))
  |.xor=>some (.int k (bits .xor k (if k.signed then -1 else k.max) a))
  |_=>none
 |.iv (.bool b)=>match op with
  |.not=>some (.bool !b)
  |_=>none
 |_=>none
def bound (y:Nat):Option AV->M (Option Nat)
 |none=>.ret none
 |some (.iv (.int _ n))=>(M.ok (decide (0<=n/\n<=y))).bind λ_=>.ret (some n.toNat)
 |some _=>.fail
def lQ (o:Ob) (ai e:Nat):Option Nat:=
 match o with
 |.buf v e' es=>if v=ai/\e'=e then some es.length else none
 |.aZ v e' es=>if v=ai/\e'=e then some es.length else none
 |.cells cs=>if ai=0/\e=1 then some cs.length else none
 |.c7 cs=>if ai=0/\e=1 then some cs.length else none
 |.map _=>none
def hU (e:Nat) (x:AV) (lo hi:Option AV):M AV:=
 match x with
 |.own id o m ai=>(M.look id).bind λob=>(M.lift (lQ ob ai e)).bind λL=>(bound (L - o) hi).bind λh=>(bound (h.getD m) lo).bind λl=>
   .ret (.own id (o+l.getD 0) (h.getD m - l.getD 0) ai)
 |.iv (.sl e' es)=>(M.ok (e'==e)).bind λ_=>(bound es.length hi).bind λh=>(bound (h.getD es.length) lo).bind λl=>.ret (.iv (.sl e ((es.take (h.getD es.length)).drop (l.getD 0))))
 |.iv (.aq _)=>(bound 0 hi).bind λh=>(bound (h.getD 0) lo).bind λ_=>.ret (.iv (.aq e))
 |_=>.fail
def fR (x:AV) (lo hi:Option AV):M AV:=
 match x with
 |.iv (.str s)=>(bound s.size hi).bind λh=>(bound (h.getD s.size) lo).bind λl=>.ret (.iv (.str (s.extract (l.getD 0) (h.getD s.size))))
 |_=>.fail
def lh (e:Nat):AV->M AV
 |.own id _ _ ai=>(M.look id).bind λo=>(M.lift (lQ o ai e)).bind λ_=>.ret (.iv (.aq e))
 |.iv (.sl _ _)=>.ret (.iv (.aq e))
 |.iv (.aq _)=>.ret (.iv (.aq e))
 |_=>.fail
def oY (n:Nat) (x:AV) (lo hi:Option AV):M AV:=
 match x with
 |.ref id 0 0 0=>(M.look id).bind fun
  |.cells cs=>(M.ok (cs.length==n)).bind λ_=>(bound n hi).bind λh=>(bound (h.getD n) lo).bind λl=>.ret (.own id (l.getD 0) (h.getD n - l.getD 0) 0)
  |_=>.fail
 |_=>.fail
def kV (e:Nat) (z:List AV):AV->M AV
 |.own id o n ai=>(M.look id).bind fun
  |.buf v e' es=>(M.ok (v==ai&&e'==e&&z.length==e)).bind λ_=>(M.write id (.buf v e (es.take o++List.replicate n z++es.drop (o+n)))).bind λ_=>.ret (.aR [])
  |_=>.fail
 |.iv (.aq _)=>.ret (.aR [])
 |_=>.fail
def len (str:Bool) (x:AV):M AV:=
 match str,x with
 |false,.own id _ n ai=>(M.look id).bind fun
  |.buf v _ _=>(M.ok (v==ai)).bind λ_=>.ret (.iv (.int .i64 n))
  |.aZ v _ _=>(M.ok (v==ai)).bind λ_=>.ret (.iv (.int .i64 n))
  |.cells _=>(M.ok (ai==0)).bind λ_=>.ret (.iv (.int .i64 n))
  |.c7 _=>(M.ok (ai==0)).bind λ_=>.ret (.iv (.int .i64 n))
  |.map _=>.fail
 |false,.iv (.sl _ es)=>.ret (.iv (.int .i64 es.length))
 |false,.iv (.aq _)=>.ret (.iv (.int .i64 0))
 |true,.iv (.str s)=>.ret (.iv (.int .i64 s.size))
 |_,_=>.fail
def jB (s:ByteArray):List (List AV):=s.data.toList.map λb=>[.iv (.int .u8 b.toNat)]
def elems (e:Nat):AV->M (List (List AV))
 |.own id o n ai=>(M.look id).bind fun
  |.buf v e' es=>(M.ok (v==ai&&e'==e)).bind λ_=>.ret ((es.drop o).take n)
  |.aZ v e' es=>(M.ok (v==ai&&e'==e)).bind λ_=>.ret (((es.drop o).take n).map λr=>r.map .iv)
  |.cells cs=>(M.ok (ai==0&&e==1)).bind λ_=>.ret (((cs.drop o).take n).map λc=>[c])
  |.c7 cs=>(M.ok (ai==0&&e==1)).bind λ_=>.ret (((cs.drop o).take n).map λc=>[.iv c])
  |_=>.fail
 |.iv (.sl e' es)=>(M.ok (e'==e)).bind λ_=>.ret (es.map λr=>r.map .iv)
 |.iv (.aq _)=>.ret []
 |_=>.fail
def lR (e:Nat):AV->M (List (List AV))
 |.iv (.str s)=>(M.ok (e==1)).bind λ_=>.ret (jB s)
 |x=>elems e x
def app (e slot:Nat) (byte:Bool) (x y:AV):M AV:=
 (lR e y).bind λys=>
 match x with
 |.iv (.aq _)=>if ys.isEmpty then .ret (.iv (.aq e)) else(M.ok (roomy ys.length)).bind λ_=>(M.fresh (4*slot+if byte then 2 else 0)).bind λ_=>
   (M.write (4*slot+if byte then 2 else 0) (.buf 0 e ys)).bind λ_=>.ret (.own (4*slot+if byte then 2 else 0) 0 ys.length 0)
 |.own id o n ai=>(M.look id).bind fun
  |.buf v e' es=>(M.ok (v==ai&&e'==e)).bind λ_=>
   if o+n+ys.length<=es.length then(M.write id (.buf v e (cn es (o+n) ys))).bind λ_=>.ret (.own id o (n+ys.length) v)
   else(M.ok (o==0&&roomy (n+ys.length)&&(id % 4==0||id % 4==2&&byte))).bind λ_=>(M.write id (.buf (v+1) e (es.take n++ys))).bind λ_=>.ret (.own id 0 (n+ys.length) (v+1))
  |_=>.fail
 |_=>.fail
def nK:AV->M AV
 |.iv (.aq _)=>.ret (.iv (.int .i64 0))
 |_=>.fail
def mJ (e slot:Nat) (z:List AV) (x n:AV):M AV:=
 match x with
 |.iv (.aq _)=>(idx n).bind λm=>(M.ok (decide (0<=m)&&roomy m.toNat&&z.length==e)).bind λ_=>
  if m=0 then .ret (.iv (.aq e)) else(M.fresh (4*slot)).bind λ_=>(M.write (4*slot) (.buf 0 e (List.replicate m.toNat z))).bind λ_=>.ret (.own (4*slot) 0 m.toNat 0)
 |_=>.fail
def te (e slot:Nat) (z:List AV) (n:AV):M AV:=
 (idx n).bind λm=>(M.ok (decide (0<=m)&&roomy m.toNat&&z.length==e)).bind λ_=>
 (M.fresh (4*slot)).bind λ_=>(M.write (4*slot) (.buf 0 e (List.replicate m.toNat z))).bind λ_=>.ret (.own (4*slot) 0 m.toNat 0)
def mP:Int->List AV->IntKind->Option Int
 |a,[],_=>some a
 |a,.iv (.int k b)::r,k'=>if k=k' then mP (if b<a then b else a) r k' else none
 |_,_,_=>none
def nW:Int->List AV->IntKind->Option Int
 |a,[],_=>some a
 |a,.iv (.int k b)::r,k'=>if k=k' then nW (if b > a then b else a) r k' else none
 |_,_,_=>none
def callee:AV->Option (Nat×List AV×List AV)
 |.iv (.fn f ax)=>some (f,[],ax.map .iv)
 |.bp f fs ax=>some (f,fs,ax)
 |_=>none
abbrev bS:=Nat->List ao.AV->ao.Hp->Option (ao.AV×ao.Hp)
def gv (call:bS) (f:AV) (args:List AV):M AV:=
 (M.lift (callee f)).bind λq=>
 (M.aJ (ek false) (q.2.1++(args++q.2.2))).bind λU=>(M.lift ((call q.1 U []).bind shut)).bind λr=>
 (M.ok (flat r)).bind λ_=>M.lift (yS r)
def gM (call:bS) (f:AV) (args:List AV):M AV:=
 (M.lift (callee f)).bind λq=>
 (M.aJ (ek true) (q.2.1++(args++q.2.2))).bind λU=>(M.lift ((call q.1 U []).bind shut)).bind λr=>M.lift (yS r)
def gw (qs:List Nat):AV->Bool
 |.agg xs=>xs.length==qs.length&&qs.length != 1
 |.iv _=>qs.length==1
 |_=>false
def kC (qs:List Nat):AV->AV->Option Bool
 |.agg xs,.agg ys=>if qs.length=1 then none else eqs qs xs ys
 |.iv x,.iv y=>if qs.length=1 then eqs qs [.iv x] [.iv y] else none
 |_,_=>none
def cM (qs:List Nat) (k:AV):List (AV×AV)->Nat->Option (Option (Nat×AV))
 |[],_=>some none
 |p::r,i=>match kC qs k p.1 with
  |some true=>some (some (i,p.2))
  |some false=>cM qs k r (i+1)
  |none=>none
def dj:AV->M (Nat×List (AV×AV))
 |.ref id 0 0 0=>(M.look id).bind fun
  |.map aL=>.ret (id,aL)
  |_=>.fail
 |_=>.fail
def gT (ok agg:Bool) (qs:List Nat) (z:List AV) (m k:AV):M AV:=
 (M.ok (gw qs k)).bind λ_=>(dj m).bind λx=>(M.lift (cM qs k x.2 0)).bind fun
  |some p=>.ret (if ok then .aR [p.2,.iv (.bool true)] else p.2)
  |none=>(mk agg z).bind λv=>.ret (if ok then .aR [v,.iv (.bool false)] else v)
def gU (qs:List Nat) (m k v:AV):M AV:=
 (M.ok (gw qs k)).bind λ_=>(dj m).bind λx=>(M.ok (x.1 % 4==0)).bind λ_=>(M.lift (cM qs k x.2 0)).bind fun
  |some p=>(M.write x.1 (.map (x.2.set p.1 (k,v)))).bind λ_=>.ret (.aR [])
  |none=>(M.write x.1 (.map (x.2++[(k,v)]))).bind λ_=>.ret (.aR [])
def gV (qs:List Nat) (m k:AV):M AV:=
 (M.ok (gw qs k)).bind λ_=>(dj m).bind λx=>(M.ok (x.1 % 4==0)).bind λ_=>(M.lift (cM qs k x.2 0)).bind fun
  |some p=>(M.write x.1 (.map (x.2.eraseIdx p.1))).bind λ_=>.ret (.aR [])
  |none=>(M.write x.1 (.map x.2)).bind λ_=>.ret (.aR [])
def bytesOf:List (List AV)->Option (List Int)
 |[]=>some []
 |[.iv (.int .u8 n)]::r=>(bytesOf r).map (n::·)
 |_=>none
def jW (k:IntKind) (a:AV):M Int:=(load false 1 a).bind fun
 |.iv (.int k' n)=>(M.ok (k'==k)).bind λ_=>.ret n
 |_=>.fail
def uO:AV->Bool
 |.iv (.int _ _)=>true
 |_=>false
def lN (k:IntKind) (a d:AV):M AV:=
 match d with
 |.iv (.int k' m)=>(M.ok (k'==k)).bind λ_=>(jW k a).bind λn=>(store 1 a (.iv (.int k (k.wrap (n+m))))).bind λ_=>.ret (.iv (.int k (k.wrap (n+m))))
 |_=>.fail
def mK (k:IntKind) (a o y:AV):M AV:=
 match o,y with
 |.iv (.int k' cu),.iv (.int yg _)=>(M.ok (k'==k&&yg==k)).bind λ_=>(jW k a).bind λn=>
  if n=cu then(store 1 a y).bind λ_=>.ret (.iv (.bool true)) else(store 1 a (.iv (.int k n))).bind λ_=>.ret (.iv (.bool false))
 |_,_=>.fail
def pX:AV->M AV
 |.ref id ai i j=>(M.look id).bind fun
  |.cells cs=>(M.ok (ai==0&&i==0&&Nat.blt j cs.length)).bind λ_=>.ret (.ref id ai i j)
  |_=>.fail
 |_=>.fail
def pY:AV->M AV
 |.ref id ai i j=>(M.look id).bind fun
  |.cells _=>(M.ok (ai==0&&i==0&&j==0&&id % 4==1)).bind λ_=>.ret (.ref id 0 0 0)
  |_=>.fail
 |_=>.fail
def pZ:AV->M AV
 |.own id o n ai=>(M.look id).bind fun
  |.buf v e _=>(M.ok (v==ai&&e==1&&o==0&&Nat.blt 0 n)).bind λ_=>.ret (.ref id ai 0 0)
  |_=>.fail
 |_=>.fail
def vZ (b:List Int):List (List IV):=b.map λx=>[.int .u8 x]
def lP (p n:AV):M AV:=
 match p,n with
 |.ref id ai i j,.iv (.int k m)=>(M.look id).bind fun
  |.buf v e es=>(M.ok (v==ai&&e==1&&i==0&&j==0&&id % 4==2&&k == .i64&&m==(es.length:Int)&&Nat.blt 0 es.length&&roomy es.length)).bind λ_=>
   (M.lift (bytesOf es)).bind λb=>(M.ok (b.all λx=>decide (0<=x/\x<256))).bind λ_=>(M.write id (.aZ v 1 (vZ b))).bind λ_=>.ret (.iv (.str (qi b)))
  |_=>.fail
 |_,_=>.fail
def bk (call:bS) (slot:Nat) (ρ:aH->AV):jF->M AV
 |.nU x=>.ret (ρ x)
 |.pick c a b=>match ρ c with
  |.iv (.bool t)=>.ret (if t then ρ a else ρ b)
  |_=>.fail
 |.alloc tag z=>(M.ok (Nat.ble tag 1)).bind λ_=>(M.fresh (4*slot+tag)).bind λ_=>(M.write (4*slot+tag) (.cells z)).bind λ_=>.ret (.ref (4*slot+tag) 0 0 0)
 |.box tag x=>(bU (ρ x)).bind λxs=>(M.ok (tag==0||tag==1&&xs.length==2)).bind λ_=>(M.fresh (4*slot+tag)).bind λ_=>(M.write (4*slot+tag) (.cells xs)).bind λ_=>.ret (.ref (4*slot+tag) 0 0 0)
 |.build z ps=>(M.aJ (λp=>(bU (ρ p.2.2)).bind λl=>(M.ok (l.length==p.2.1&&Nat.ble (p.1+p.2.1) z.length)).bind λ_=>.ret (p.1,l)) ps).bind λl=>.ret (.agg (fl z l))
 |.nV e z n ps=>(M.ok (z.length==e)).bind λ_=>
   (M.aJ (λp=>(bU (ρ p.2)).bind λxs=>(M.ok (xs.length==e&&Nat.blt p.1 n)).bind λ_=>.ret (p.1,xs)) ps).bind λl=>
   (M.fresh (4*slot)).bind λ_=>(M.write (4*slot) (.buf 0 e (dK (List.replicate n z) l))).bind λ_=>.ret (.own (4*slot) 0 n 0)
 |.load agg sz a=>load agg sz (ρ a)
 |.store sz a x=>store sz (ρ a) (ρ x)
 |.eD off x=>eD off (ρ x)
 |.fk agg off sz x=>fk agg off sz (ρ x)
 |.eE len e x i=>eE len e (ρ x) (ρ i)
 |.gX e x i=>gX e (ρ x) (ρ i)
 |.eF agg len e x i=>eF agg len e (ρ x) (ρ i)
 |.fH x i=>fH (ρ x) (ρ i)
 |.bin op q x y=>nL op q (ρ x) (ρ y)
 |.oi neg qs x y=>match ρ x,ρ y with
  |.agg xs,.agg ys=>(M.lift (eqs qs xs ys)).bind λb=>.ret (.iv (.bool (if neg then !b else b)))
  |_,_=>.fail
 |.un op x=>(M.lift (un op (ρ x))).bind λv=>.ret (.iv v)
 |.qO k x=>(idx (ρ x)).bind λn=>.ret (.iv (.int k (k.wrap n)))
 |.tC x=>match ρ x with
  |.iv (.str s)=>.ret (.iv (.str s))
  |_=>.fail
 |.hU e x lo hi=>hU e (ρ x) (lo.map ρ) (hi.map ρ)
 |.fR x lo hi=>fR (ρ x) (lo.map ρ) (hi.map ρ)
 |.lh e x=>lh e (ρ x)
 |.oY n x lo hi=>oY n (ρ x) (lo.map ρ) (hi.map ρ)
 |.kV e z x=>kV e z (ρ x)
 |.len str x=>len str (ρ x)
 |.app e byte x y=>app e slot byte (ρ x) (ρ y)
 |.mn x ys=>match ρ x with
  |.iv (.int k a)=>(M.lift (mP a (ys.map ρ) k)).bind λn=>.ret (.iv (.int k n))
  |_=>.fail
 |.mx x ys=>match ρ x with
  |.iv (.int k a)=>(M.lift (nW a (ys.map ρ) k)).bind λn=>.ret (.iv (.int k n))
  |_=>.fail
 |.ext x i=>match ρ x with
  |.aR vs=>M.lift vs[i]?
  |_=>.fail
 |.mz x=>match ρ x with
  |.ref id ai i j=>(M.look id).bind λo=>(M.ok (valid o ai i)).bind λ_=>.ret (.ref id ai i j)
  |.iv (.ptr cs)=>.ret (.iv (.ptr cs))
  |.iv (.fn f cs)=>.ret (.iv (.fn f cs))
  |.bp f fs cs=>.ret (.bp f fs cs)
  |_=>.fail
 |.oj f fs ax=>.ret (.bp f (fs.map ρ) (ax.map ρ))
 |.call mode f args=>match mode with
  |0=>gv call (ρ f) (args.map ρ)
  |_=>gM call (ρ f) (args.map ρ)
 |.nJ _ _=>.fail
 |.sY x=>(elems 1 (ρ x)).bind λys=>(M.lift (bytesOf ys)).bind λb=>.ret (.iv (.str (qi b)))
 |.sZ=>(M.fresh (4*slot)).bind λ_=>(M.write (4*slot) (.map [])).bind λ_=>.ret (.ref (4*slot) 0 0 0)
 |.gT ok agg qs z m k=>gT ok agg qs z (ρ m) (ρ k)
 |.gU qs m k v=>gU qs (ρ m) (ρ k) (ρ v)
 |.gV qs m k=>gV qs (ρ m) (ρ k)
 |.qh m=>(dj (ρ m)).bind λx=>.ret (.iv (.int .i64 x.2.length))
 |.dead=>.fail
 |.nK x=>nK (ρ x)
 |.mJ e z x n=>mJ e slot z (ρ x) (ρ n)
 |.te e z n=>te e slot z (ρ n)
 |.jW k x=>(jW k (ρ x)).bind λn=>.ret (.iv (.int k n))
 |.rE x y=>(M.ok (uO (ρ y))).bind λ_=>store 1 (ρ x) (ρ y)
 |.lN k x y=>lN k (ρ x) (ρ y)
 |.mK k x o y=>mK k (ρ x) (ρ o) (ρ y)
 |.AY e=>.ret (.iv (.aq e))
 |.pX x=>pX (ρ x)
 |.tz x=>.ret (ρ x)
 |.pY x=>pY (ρ x)
 |.pZ x=>pZ (ρ x)
 |.lP p n=>lP (ρ p) (ρ n)
def bG (fr:Fr):Option (Nat×Bool)->Option Bool
 |none=>some true
 |some (t,b)=>match get fr t with
  |some (.iv (.bool c))=>some (c==b)
  |some (.aR [])=>some false
  |_=>none
def bh (fr:Fr) (d:Option Nat) (v:AV):Fr:=match d with
 |some d=>set fr d v
 |none=>fr
abbrev cA:=Nat->List AV->Hp->Nat->Option (AV×Hp×Nat)
def dI:jF->Option (aH×List aH)
 |.nJ f args=>some (f,args)
 |_=>none
def step (c1:bS) (cx:cA) (slot:Nat) (o:au) (s:St):Option St:=
 match bG s.fr o.gd with
 |some true=>match dI o.op with
  |some fa=>match callee (ev s.fr fa.1)with
   |some q=>match cx q.1 (q.2.1++(fa.2.map (ev s.fr)++q.2.2)) s.hp s.nx with
    |some (v,h,n)=>some { fr:=bh s.fr o.dst v,hp:=h,nx:=n }
    |none=>none
   |none=>none
  |none=>match(bk c1 slot (ev s.fr) o.op).run s.hp with
   |some (v,h)=>some { s with fr:=bh s.fr o.dst v,hp:=h }
   |none=>none
 |some false=>some { s with fr:=bh s.fr o.dst (.aR []) }
 |none=>none
inductive bn where
 |m (x:List Nat×List Nat)
 |c (h0 h1:Hp)
def bu (c1:bS) (slot:Nat) (o:au) (s:St) (h:Hp):bn:=
 match bG s.fr o.gd with
 |some true=>match dI o.op with
  |some _=>.c s.hp h
  |none=>.m ((bk c1 slot (ev s.fr) o.op).bz s.hp)
 |_=>.m ([],[])
def aX (c1:bS) (cx:cA):List au->Nat->St->Option St
 |[],_,s=>some s
 |o::r,slot,s=>match step c1 cx slot o s with
  |some s'=>aX c1 cx r (slot+1) s'
  |none=>none
def bC (c1:bS) (cx:cA):List au->Nat->St->Option (St×List bn)
 |[],_,s=>some (s,[])
 |o::r,slot,s=>match step c1 cx slot o s with
  |some s'=>match bC c1 cx r (slot+1) s' with
   |some p=>some (p.1,bu c1 slot o s s'.hp::p.2)
   |none=>none
  |none=>none
def meets (a b:List Nat):Bool:=a.any b.contains
def c9:bn->bn->Bool
 |.m x,.m y=>meets x.2 (y.1++y.2)||meets y.2 (x.1++x.2)
 |.c h0 h1,.m y=>!((y.2.isEmpty&&y.1.all λn=>yQ (get h0 n) (get h1 n))||(y.1++y.2).all λn=>(get h1 n).isNone)
 |.m x,.c h0 h1=>!(x.2.isEmpty&&x.1.all λn=>yQ (get h0 n) (get h1 n))
 |.c _ _,.c _ _=>true
def ed (x:bn) (i:Nat):List bn->List (List Nat)->Bool
 |y::ys,c::cs=>(!c9 x y||c.contains i)&&ed x i ys cs
 |_,_=>true
def cC:List bn->Nat->List (List Nat)->Bool
 |x::xs,i,_::cs=>ed x i xs cs&&cC xs (i+1) cs
 |_,_,_=>true
def lS:bn->Bool
 |.m x=>x.2.isEmpty
 |.c _ _=>false
def fS (ops:List au) (tF:List bn):Bool:=tF.all lS||cC tF 0 (ops.map (·.iU))
def bb:List Nat->Fr->Fr
 |[],_=>[]
 |t::r,fr=>match get fr t with
  |some x=>(t,x)::bb r fr
  |none=>bb r fr
def aO (c1:bS) (cx:cA) (draw:Bool) (ops:List au) (keep:List Nat) (s:St):Option St:=
 if draw then match bC c1 cx ops s.nx { s with nx:=s.nx+ops.length } with
  |some p=>if fS ops p.2 then some { p.1 with fr:=bb keep p.1.fr } else none
  |none=>none
 else match aX c1 cx ops s.nx { s with nx:=s.nx+ops.length } with
  |some s'=>some { s' with fr:=bb keep s'.fr }
  |none=>none
def iter (f:St->Option (Ex×St)) (keep:List Nat):Nat->St->Option (Ex×St)
 |0,_=>none
 |m+1,s=>match f s with
  |some (.norm,s')=>iter f keep m { s' with fr:=bb keep s'.fr }
  |r=>r
def aA (c1:bS) (cx:cA) (n:Nat):IC->St->Option (Ex×St)
 |.skip,s=>some (.norm,s)
 |.gm draw ops keep,s=>(aO c1 cx draw ops keep s).map λs'=>(.norm,s')
 |.seq a b,s=>match aA c1 cx n a s with
  |some (.norm,s')=>aA c1 cx n b s'
  |r=>r
 |.cond c a b,s=>match ev s.fr c with
  |.iv (.bool t)=>if t then aA c1 cx n a s else aA c1 cx n b s
  |_=>none
 |.block id b,s=>match aA c1 cx n b s with
  |some (.exit i,s')=>if i=id then some (.norm,s') else some (.exit i,s')
  |r=>r
 |.loop keep b,s=>iter (aA c1 cx n b) keep n { s with fr:=bb keep s.fr }
 |.exit id,s=>some (.exit id,s)
 |.ret,s=>some (.ret,s)
 |.scope b,s=>aA c1 cx n b s
 |.stop,_=>none
structure al where
 np:Nat
 res:List dZ
 body:IC
 iT:Option (bS->cA->List AV->Hp->Nat->Option (AV×Hp×Nat)):=none
 deriving Inhabited
def jG (fr:Fr):dZ->M AV
 |.t n=>.ret (ev fr (.t n))
 |.cell n agg sz=>load agg sz (ev fr (.t n))
def dk (fr:Fr):List dZ->M AV
 |[r]=>jG fr r
 |rs=>(M.aJ (jG fr) rs).bind λl=>.ret (.aR l)
def params:List AV->Nat->Fr
 |[],_=>[]
 |a::r,i=>(i,a)::params r (i+1)
def bg (c1:bS) (prog:Nat->Option al):Nat->cA
 |0,_,_,_,_=>none
 |k+1,g,args,hp,nx=>match prog g with
  |none=>none
  |some fn=>match fn.iT with
   |some p=>p c1 (bg c1 prog k) args hp nx
   |none=>if args.length=fn.np then
     match aA c1 (bg c1 prog k) k fn.body ⟨params args 0,hp,nx⟩with
     |some (.norm,s) | some (.ret,s)=>match(dk s.fr fn.res).run s.hp with
      |some (v,h)=>some (v,h,s.nx)
      |none=>none
     |_=>none
    else none
end aB
namespace aB
open Go Go.RowKit ao
structure Gh where
 I:Nat->Prop
 φ:Nat->Option Nat
 w:World
 h:Hp
def cD (w:World) (p:Option Nat) (e L o n:Nat) (v:Value):Prop:=
 match p with
 |none=>(∃a,v = .slice a 0 0)/\n=0/\o=0/\L=0
 |some b=>∃x cap,v = .slice (some ⟨b,x,none⟩) n cap/\o+n<=L/\L<=o+cap/\n<=cap/\(x=o*e\/n=0/\o≠0/\L<=o)/\(x=o*e->∀c,c<(o+cap)*e->(w.cell? ⟨b,c,none⟩).isSome=true)
def aE (g:Gh) (v:Value) (id o n ai:Nat):Prop:=
 match get g.h id with
 |some (.buf v' e es)=>ai<=v'/\(v'=ai->cD g.w (g.φ id) e es.length o n v)
 |some (.aZ v' e es)=>ai<=v'/\(v'=ai->cD g.w (g.φ id) e es.length o n v)
 |some (.cells cs)=>ai=0/\cD g.w (g.φ id) 1 cs.length o n v
 |some (.c7 cs)=>ai=0/\cD g.w (g.φ id) 1 cs.length o n v
 |_=>False
def aG (g:Gh) (v:Value) (id ai i j:Nat):Prop:=
 match get g.h id with
 |some (.cells _)=>ai=0/\i=0/\∃b,g.φ id=some b/\v = .pointer (some ⟨b,j,none⟩)
 |some (.c7 _)=>ai=0/\i=0/\∃b,g.φ id=some b/\v = .pointer (some ⟨b,j,none⟩)
 |some (.buf v' e _)=>ai<=v'/\(v'=ai->∃b,g.φ id=some b/\v = .pointer (some ⟨b,i*e+j,none⟩))
 |some (.aZ v' e _)=>ai<=v'/\(v'=ai->∃b,g.φ id=some b/\v = .pointer (some ⟨b,i*e+j,none⟩))
 |some (.map _)=>ai=0/\i=0/\j=0/\∃b,g.φ id=some b/\v = .map (some b)
 |none=>False
def zW:Nat->Value
 |0=>.nilFunc
 |1=>.nilIface
 |_=>.map none
inductive RA (ν:Nat->Nat) (g:Gh):Value->AV->Prop
 |undef (v:Value):RA ν g v .undef
 |iv {v:Value} {x:IV} (h:RI ν g.I g.w v x):RA ν g v (.iv x)
 |cG {v:Value} {q:Nat} (h:v=zW q):RA ν g v (.cG q)
 |agg {vs:Array Value} {cs:List AV} (hn:vs.size=cs.length) (h1:∀(j:Nat) (v:Value),vs[j]?=some v->v.oneCell'=true)
   (hr:∀(j:Nat) (v:Value) (c:AV),vs[j]?=some v->cs[j]?=some c->RA ν g v c):RA ν g (.agg vs) (.agg cs)
 |aR {vs:Array Value} {cs:List AV} (hn:vs.size=cs.length) (hr:∀(j:Nat) (v:Value) (c:AV),vs[j]?=some v->cs[j]?=some c->RA ν g v c):RA ν g (.tuple vs) (.aR cs)
 |own {v:Value} {id o n ai:Nat} (h1:v.oneCell'=true) (h:aE g v id o n ai):RA ν g v (.own id o n ai)
 |ref {v:Value} {id ai i j:Nat} (h1:v.oneCell'=true) (h:aG g v id ai i j):RA ν g v (.ref id ai i j)
 |bp {f:Nat} {first ax:Array Value} {fs cs:List AV} (hm:first.size=fs.length) (hs:∀(j:Nat) (v:Value) (c:AV),first[j]?=some v->fs[j]?=some c->RA ν g v c)
   (hn:ax.size=cs.length) (hr:∀(j:Nat) (v:Value) (c:AV),ax[j]?=some v->cs[j]?=some c->RA ν g v c) :
   RA ν g (.func (.func (ν f)) first ax) (.bp f fs cs)
theorem zX (q:Nat):(zW q).oneCell'=true:=by unfold zW;split<;>rfl
theorem RA.mono {ν:Nat->Nat} {g g':Gh} (hI:∀v x,RI ν g.I g.w v x->RI ν g'.I g'.w v x) (ho:∀v id o n ai,aE g v id o n ai->aE g' v id o n ai)
  (hr:∀v id ai i j,aG g v id ai i j->aG g' v id ai i j) {v:Value} {x:AV} (h:RA ν g v x):RA ν g' v x:=by
 induction h with
 |undef v=>exact .undef v
 |iv h=>exact .iv (hI _ _ h)
 |cG h=>exact .cG h
 |agg hn h1 _ ih=>exact .agg hn h1 ih
 |aR hn _ ih=>exact .aR hn ih
 |own h1 h=>exact .own h1 (ho _ _ _ _ _ h)
 |ref h1 h=>exact .ref h1 (hr _ _ _ _ _ h)
 |bp hm _ hn _ Jf ih=>exact .bp hm Jf hn ih
def mL (ν:Nat->Nat) (g:Gh) (b e:Nat) (es:List (List AV)):Prop:=
 (∀c ∈ es,c.length=e)/\∀(i j:Nat) (c:List AV) (x:AV),es[i]?=some c->c[j]?=some x->∃v,g.w.cell? ⟨b,i*e+j,none⟩=some v/\v.oneCell'=true/\RA ν g v x
def jk (es:Array MapEntry) (clock:Nat):Prop:=(es.toList.map (·.born)).Nodup/\∀x ∈ es.toList,x.born<clock
def fI (ν:Nat->Nat) (g:Gh) (id:Nat):Ob->Prop
 |.cells cs=>∃b,g.φ id=some b/\¬g.I b/\sa g.w b/\∀(j:Nat) (c:AV),cs[j]?=some c->∃v,g.w.cell? ⟨b,j,none⟩=some v/\v.oneCell'=true/\RA ν g v c
 |.buf _ e es=>∃b,g.φ id=some b/\¬g.I b/\sa g.w b/\mL ν g b e es
 |.aZ _ e es=>∃b,g.φ id=some b/\g.I b/\Row ν g.I g.w b e es
 |.c7 xs=>∃b,g.φ id=some b/\g.I b/\∀(j:Nat) (x:IV),xs[j]?=some x->∃v,g.w.cell? ⟨b,j,none⟩=some v/\RI ν g.I g.w v x
 |.map aL=>∃b es clock,g.φ id=some b/\¬g.I b/\b<g.w.heap.size/\g.w.heap[b]?=some (.map es clock)/\es.size=aL.length/\jk es clock/\
   ∀(j:Nat) (e:MapEntry) (p:AV×AV),es[j]?=some e->aL[j]?=some p->RA ν g e.key p.1/\RA ν g e.val p.2
structure Cx where
 w:World
 I:Nat->Prop
abbrev pG:Nat:=1000001
abbrev lT:Nat:=1000002
def km (ν:Nat->Nat) (w:World) (id b:Nat):Prop:=(id % 4=1->w.shape? b=some (ν pG,2))/\(id % 4=2->∃n,w.shape? b=some (ν lT,n))/\id % 4≠3
theorem km.zero {ν:Nat->Nat} {w:World} {id b:Nat} (h:id % 4=0):km ν w id b:=⟨by omega,by omega,by omega⟩
theorem km.same {ν:Nat->Nat} {w w':World} {id b:Nat} (h:km ν w id b) (hs:w'.shape? b=w.shape? b):km ν w' id b:=by unfold km at *;rw[hs];exact h
theorem kT {w w':World} {b:Nat} (h:w'.heap[b]?=w.heap[b]?):w'.shape? b=w.shape? b:=by simp[World.shape?,h]
structure Rel (ν:Nat->Nat) (k:Cx) (g:Gh):Prop where
 ob:∀id o,get g.h id=some o->fI ν g id o
 inj:∀id bW o o' b,get g.h id=some o->get g.h bW=some o'->g.φ id=some b->g.φ bW=some b->id=bW
 small:∀b,g.I b->b<g.w.heap.size
 i0:∀b,k.I b->g.I b
 i1:∀b,g.I b->k.I b\/k.w.heap.size<=b
 own:∀id o b,get g.h id=some o->g.φ id=some b->k.w.heap.size<=b
 size:k.w.heap.size<=g.w.heap.size
 os:g.w.os=k.w.os
 tape:g.w.tape=k.w.tape
 output:g.w.output=k.w.output
 cu:∀b,b<k.w.heap.size->g.w.heap[b]?=k.w.heap[b]?
 ty:∀id o b,get g.h id=some o->g.φ id=some b->km ν g.w id b
def aV (ν:Nat->Nat) (g g':Gh):Prop:=∀v x,RA ν g v x->RA ν g' v x
theorem aV.refl (ν:Nat->Nat) (g:Gh):aV ν g g:=λ_ _ h=>h
theorem aV.trans {ν:Nat->Nat} {a b c:Gh} (h:aV ν a b) (k:aV ν b c):aV ν a c:=λv x hx=>k v x (h v x hx)
theorem mL.mono {ν:Nat->Nat} {g g':Gh} {b e:Nat} {es:List (List AV)} (h:mL ν g b e es) (hm:aV ν g g') (hb:∀off v,g.w.cell? ⟨b,off,none⟩=some v->g'.w.cell? ⟨b,off,none⟩=some v):mL ν g' b e es:=
 ⟨h.1,λi j c x h1 h2=>let⟨v,hc,h3,hr⟩:=h.2 i j c x h1 h2;⟨v,hb _ _ hc,h3,hm _ _ hr⟩⟩
theorem fI.block {ν:Nat->Nat} {g:Gh} {id:Nat} {o:Ob} (h:fI ν g id o) {b:Nat} (hb:g.φ id=some b) (hs:∀b,g.I b->b<g.w.heap.size):b<g.w.heap.size:=by
 cases o with
 |cells cs=>obtain⟨b',h1,_,h3,_⟩:=h;rw[hb]at h1;cases h1;exact h3.1
 |buf v e es=>obtain⟨b',h1,_,h3,_⟩:=h;rw[hb]at h1;cases h1;exact h3.1
 |aZ v e es=>obtain⟨b',h1,h2,_⟩:=h;rw[hb]at h1;cases h1;exact hs _ h2
 |c7 xs=>obtain⟨b',h1,h2,_⟩:=h;rw[hb]at h1;cases h1;exact hs _ h2
 |map aL=>obtain⟨b',_,_,h1,_,h3,_⟩:=h;rw[hb]at h1;cases h1;exact h3
theorem cD.same {w w':World} {p:Option Nat} {e L o n:Nat} {v:Value} (h:cD w p e L o n v)
  (hw:∀b,p=some b->∀c,(w.cell? ⟨b,c,none⟩).isSome=true->(w'.cell? ⟨b,c,none⟩).isSome=true):cD w' p e L o n v:=by
 cases p with
 |none=>exact h
 |some b=>
  obtain⟨x,cap,e1,e2,e3,e4,e5,e6⟩:=h;exact⟨x,cap,e1,e2,e3,e4,e5,λhx c hc=>hw b rfl c (e6 hx c hc)⟩
theorem aE.alive {g:Gh} {v:Value} {id o n ai:Nat} (h:aE g v id o n ai):∃ob,get g.h id=some ob:=by
 unfold aE at h;cases hg:get g.h id with
 |none=>rw[hg]at h;exact h.elim
 |some ob=>exact⟨ob,rfl⟩
theorem aG.alive {g:Gh} {v:Value} {id ai i j:Nat} (h:aG g v id ai i j):∃ob,get g.h id=some ob:=by
 unfold aG at h;cases hg:get g.h id with
 |none=>rw[hg]at h;exact h.elim
 |some ob=>exact⟨ob,rfl⟩
theorem aE.other {g g':Gh} {v:Value} {id o n ai:Nat} (h:aE g v id o n ai) (hh:get g'.h id=get g.h id) (ah:g'.φ id=g.φ id)
  (hw:∀b,g.φ id=some b->g'.w.heap[b]?=g.w.heap[b]?):aE g' v id o n ai:=by
 have rF:∀b,g.φ id=some b->∀c,(g.w.cell? ⟨b,c,none⟩).isSome=true->(g'.w.cell? ⟨b,c,none⟩).isSome=true:=λb hb c hc=>by rw[bw (hw b hb)];exact hc
 unfold aE at h ⊢;rw[hh,ah];cases hg:get g.h id with
 |none=>rw[hg]at h;exact h.elim
 |some ob=>
  rw[hg]at h;cases ob with
  |cells cs=>exact⟨h.1,h.2.same rF⟩
  |c7 cs=>exact⟨h.1,h.2.same rF⟩
  |buf v' e es=>exact⟨h.1,λhv=>(h.2 hv).same rF⟩
  |aZ v' e es=>exact⟨h.1,λhv=>(h.2 hv).same rF⟩
  |map aL=>exact h.elim
theorem aG.other {g g':Gh} {v:Value} {id ai i j:Nat} (h:aG g v id ai i j) (hh:get g'.h id=get g.h id) (ah:g'.φ id=g.φ id):aG g' v id ai i j:=by
 unfold aG at h ⊢;rw[hh,ah];exact h
theorem fI.other {ν:Nat->Nat} {g g':Gh} {id:Nat} {o:Ob} (h:fI ν g id o) (ah:g'.φ id=g.φ id) (hm:aV ν g g') (cp:∀v x,RI ν g.I g.w v x->RI ν g'.I g'.w v x)
  (bB:g.w.heap.size<=g'.w.heap.size) (hw:∀b,g.φ id=some b->g'.w.heap[b]?=g.w.heap[b]?) (hI:∀b,g.φ id=some b->(g'.I b↔g.I b)):fI ν g' id o:=by
 cases o with
 |cells cs=>
  obtain⟨b,e1,e2,e3,e4⟩:=h;refine⟨b,ah.trans e1,λhi=>e2 ((hI b e1).1 hi),⟨Nat.lt_of_lt_of_le e3.1 bB,λo=>by rw[eP (hw b e1)];exact e3.2 o⟩,λj c hc=>?_⟩;obtain⟨v,c1,c2,c3⟩:=e4 j c hc;exact⟨v,by rw[bw (hw b e1)];exact c1,c2,hm _ _ c3⟩
 |buf v e es=>
  obtain⟨b,e1,e2,e3,e4⟩:=h;exact⟨b,ah.trans e1,λhi=>e2 ((hI b e1).1 hi),⟨Nat.lt_of_lt_of_le e3.1 bB,λo=>by rw[eP (hw b e1)];exact e3.2 o⟩,e4.mono hm λoff v hc=>by rw[bw (hw b e1)];exact hc⟩
 |aZ v e es=>
  obtain⟨b,e1,e2,e4⟩:=h;exact⟨b,ah.trans e1,(hI b e1).2 e2,e4.mono cp λoff v hc=>by rw[bw (hw b e1)];exact hc⟩
 |c7 xs=>
  obtain⟨b,e1,e2,e4⟩:=h;refine⟨b,ah.trans e1,(hI b e1).2 e2,λj x hx=>?_⟩;obtain⟨v,c1,c2⟩:=e4 j x hx;exact⟨v,by rw[bw (hw b e1)];exact c1,cp _ _ c2⟩
 |map aL=>
  obtain⟨b,es,clock,e1,e2,e3,e4,e5,e7,e6⟩:=h;refine⟨b,es,clock,ah.trans e1,λhi=>e2 ((hI b e1).1 hi),Nat.lt_of_lt_of_le e3 bB,(hw b e1).trans e4,e5,e7,λj e p h1 h2=>?_⟩;obtain⟨c1,c2⟩:=e6 j e p h1 h2;exact⟨hm _ _ c1,hm _ _ c2⟩
theorem Rel.world {ν:Nat->Nat} {k:Cx} {g:Gh} (r:Rel ν k g) {w':World} {I':Nat->Prop} (hI:∀b,g.I b->I' b) (kD:∀b,I' b->g.I b\/g.w.heap.size<=b/\b<w'.heap.size)
  (hs:g.w.heap.size<=w'.heap.size) (h1:w'.os=g.w.os) (h2:w'.tape=g.w.tape) (h3:w'.output=g.w.output) (hb:∀b,b<g.w.heap.size->w'.heap[b]?=g.w.heap[b]?) :
  Rel ν k { g with I:=I',w:=w' }/\aV ν g { g with I:=I',w:=w' }:=by
 have cp:∀v x,RI ν g.I g.w v x->RI ν I' w' v x:=λv x h=>h.mono hI λb off v hi hc=>by rw[bw (hb b (r.small b hi))];exact hc
 have dh:∀id o b,get g.h id=some o->g.φ id=some b->b<g.w.heap.size:=λid o b ho ah=>(r.ob id o ho).block ah r.small
 have hm:aV ν g { g with I:=I',w:=w' }:=by
  intro v x hx;refine hx.mono cp ?_ ?_
  ·intro v id o n ai ho;obtain⟨ob,dB⟩:=ho.alive;exact ho.other rfl rfl λb ah=>hb b (dh id _ b dB ah)
  ·intro v id ai i j hr;exact hr
 refine⟨⟨?_,r.inj,?_,λb h=>hI b (r.i0 b h),?_,r.own,Nat.le_trans r.size hs,h1.trans r.os,h2.trans r.tape,h3.trans r.output,λb h=>(hb b (Nat.lt_of_lt_of_le h r.size)).trans (r.cu b h),λid o b ho ah=>(r.ty id o b ho ah).same (kT (hb b (dh id o b ho ah)))⟩,hm⟩
 ·intro id o ho;exact(r.ob id o ho).other rfl hm cp hs (λb ah=>hb b (dh id _ b ho ah)) λb ah=>⟨λhi=>(kD b hi).resolve_right λh=>by have:=dh id _ b ho ah;omega,hI b⟩
 ·intro b hi;rcases kD b hi with h | h
  ·exact Nat.lt_of_lt_of_le (r.small b h) hs
  ·exact h.2
 ·intro b hi;rcases kD b hi with h | h
  ·exact r.i1 b h
  ·exact .inr (Nat.le_trans r.size h.1)
theorem Rel.wT {ν:Nat->Nat} {k:Cx} {g:Gh} (r:Rel ν k g) {s:Nat} {ob:Ob} {p:Option Nat} {w':World} (hs:get g.h s=none)
  (bB:g.w.heap.size<=w'.heap.size) (h1:w'.os=g.w.os) (h2:w'.tape=g.w.tape) (h3:w'.output=g.w.output) (hb:∀b,b<g.w.heap.size->w'.heap[b]?=g.w.heap[b]?)
  (hp:∀b,p=some b->∀id o,get g.h id=some o->g.φ id≠some b) (bD:∀b,p=some b->k.w.heap.size<=b) (gO:∀b,p=some b->km ν w' s b)
  (dB:aV ν g { g with φ:=bl g.φ s p,w:=w',h:=set g.h s ob }->fI ν { g with φ:=bl g.φ s p,w:=w',h:=set g.h s ob } s ob) :
  Rel ν k { g with φ:=bl g.φ s p,w:=w',h:=set g.h s ob }/\aV ν g { g with φ:=bl g.φ s p,w:=w',h:=set g.h s ob }:=by
 have cp:∀v x,RI ν g.I g.w v x->RI ν g.I w' v x:=λv x h=>h.mono (λ_ h=>h) λb off v hi hc=>by rw[bw (hb b (r.small b hi))];exact hc
 have dh:∀id o b,get g.h id=some o->g.φ id=some b->b<g.w.heap.size:=λid o b ho ah=>(r.ob id o ho).block ah r.small
 have hm:aV ν g { g with φ:=bl g.φ s p,w:=w',h:=set g.h s ob }:=by
  intro v x hx;refine hx.mono cp ?_ ?_
  ·intro v id o n ai ho;obtain⟨jI,er⟩:=ho.alive;have bF:s≠id:=λe=>by rw[<-e,hs]at er;cases er
   exact ho.other (bO _ _ bF) (dO _ _ (Ne.symm bF)) λb ah=>hb b (dh id _ b er ah)
  ·intro v id ai i j hr;obtain⟨jI,er⟩:=hr.alive;have bF:s≠id:=λe=>by rw[<-e,hs]at er;cases er
   exact hr.other (bO _ _ bF) (dO _ _ (Ne.symm bF))
 refine⟨⟨?_,?_,λb hi=>Nat.lt_of_lt_of_le (r.small b hi) bB,r.i0,r.i1,?_,Nat.le_trans r.size bB,h1.trans r.os,h2.trans r.tape,h3.trans r.output,λb h=>(hb b (Nat.lt_of_lt_of_le h r.size)).trans (r.cu b h),?_⟩,hm⟩
 ·intro id o ho;by_cases he:s=id
  ·subst he;have:ob=o:=by simpa[an]using ho
   subst this;exact dB hm
  ·have b9:get g.h id=some o:=by rwa [show get (set g.h s ob) id=get g.h id from bO _ _ he]at ho
   exact(r.ob id o b9).other (dO _ _ (Ne.symm he)) hm cp bB (λb ah=>hb b (dh id _ b b9 ah)) λ_ _=>Iff.rfl
 ·intro id bW o o' b ho b9 ah aN;simp only[aQ]at ho b9;simp only[bl]at ah aN;by_cases he:id=s
  ·by_cases cr:bW=s
   ·rw[he,cr]
   ·rw[if_pos he]at ah;rw[if_neg cr]at aN;rw[if_neg (Ne.symm cr)]at b9;exact absurd aN (hp b ah bW _ b9)
  ·rw[if_neg he]at ah;rw[if_neg (Ne.symm he)]at ho;by_cases cr:bW=s
   ·rw[if_pos cr]at aN;exact absurd ah (hp b aN id _ ho)
   ·rw[if_neg cr]at aN;rw[if_neg (Ne.symm cr)]at b9;exact r.inj id bW o o' b ho b9 ah aN
 ·intro id o b ho ah;simp only[aQ]at ho;simp only[bl]at ah;by_cases he:id=s
  ·rw[if_pos he]at ah;exact bD b ah
  ·rw[if_neg he]at ah;rw[if_neg (Ne.symm he)]at ho;exact r.own id o b ho ah
 ·intro id o b ho ah;simp only[aQ]at ho;simp only[bl]at ah;by_cases he:id=s
  ·rw[if_pos he]at ah;rw[he];exact gO b ah
  ·rw[if_neg he]at ah;rw[if_neg (Ne.symm he)]at ho;exact(r.ty id o b ho ah).same (kT (hb b (dh id o b ho ah)))
theorem Rel.new {ν:Nat->Nat} {k:Cx} {g:Gh} (r:Rel ν k g) {s:Nat} {ob:Ob} {p:Option Nat} {w':World} (hs:get g.h s=none)
  (bB:g.w.heap.size<=w'.heap.size) (h1:w'.os=g.w.os) (h2:w'.tape=g.w.tape) (h3:w'.output=g.w.output) (hb:∀b,b<g.w.heap.size->w'.heap[b]?=g.w.heap[b]?)
  (hp:∀b,p=some b->g.w.heap.size<=b) (gO:∀b,p=some b->km ν w' s b)
  (dB:aV ν g { g with φ:=bl g.φ s p,w:=w',h:=set g.h s ob }->fI ν { g with φ:=bl g.φ s p,w:=w',h:=set g.h s ob } s ob) :
  Rel ν k { g with φ:=bl g.φ s p,w:=w',h:=set g.h s ob }/\aV ν g { g with φ:=bl g.φ s p,w:=w',h:=set g.h s ob }:=
 r.wT hs bB h1 h2 h3 hb (λb fM id o ho ah=>by have:=(r.ob id o ho).block ah r.small;have:=hp b fM;omega) (λb fM=>Nat.le_trans r.size (hp b fM)) gO dB
theorem Rel.iR {ν:Nat->Nat} {k:Cx} {g:Gh} (r:Rel ν k g) {s:Nat} {ye ob:Ob} {p:Option Nat} {w':World} {I':Nat->Prop} (hs:get g.h s=some ye)
  (b8:∀b,g.φ s=some b->¬g.I b)
  (bB:g.w.heap.size<=w'.heap.size) (h1:w'.os=g.w.os) (h2:w'.tape=g.w.tape) (h3:w'.output=g.w.output) (hb:∀b,b<g.w.heap.size->g.φ s≠some b->w'.heap[b]?=g.w.heap[b]?)
  (hI:∀b,g.I b->I' b) (kD:∀b,I' b->g.I b\/g.φ s=some b)
  (hp:p=g.φ s\/∃b,p=some b/\g.w.heap.size<=b) (gO:∀b,p=some b->km ν w' s b)
  (hO:∀v o n ai,aE g v s o n ai->aE ⟨I',bl g.φ s p,w',set g.h s ob⟩ v s o n ai)
  (hR:∀v ai i j,aG g v s ai i j->aG ⟨I',bl g.φ s p,w',set g.h s ob⟩ v s ai i j)
  (dB:(∀v x,RI ν g.I g.w v x->RI ν I' w' v x)->aV ν g ⟨I',bl g.φ s p,w',set g.h s ob⟩->fI ν ⟨I',bl g.φ s p,w',set g.h s ob⟩ s ob) :
  Rel ν k ⟨I',bl g.φ s p,w',set g.h s ob⟩/\aV ν g ⟨I',bl g.φ s p,w',set g.h s ob⟩:=by
 have cp:∀v x,RI ν g.I g.w v x->RI ν I' w' v x:=λv x h=>h.mono hI λb off v hi hc=>by
  rw[bw (hb b (r.small b hi) λe=>b8 b e hi)];exact hc
 have dh:∀id o b,get g.h id=some o->g.φ id=some b->b<g.w.heap.size:=λid o b ho ah=>(r.ob id o ho).block ah r.small
 have cW:∀id o b,s≠id->get g.h id=some o->g.φ id=some b->g.φ s≠some b:=λid o b bF ho ah e=>bF (r.inj s id ye o b hs ho e ah)
 have hm:aV ν g ⟨I',bl g.φ s p,w',set g.h s ob⟩:=by
  intro v x hx;refine hx.mono cp ?_ ?_
  ·intro v id o n ai ho;by_cases he:s=id
   ·subst he;exact hO _ _ _ _ ho
   ·obtain⟨jI,er⟩:=ho.alive;exact ho.other (bO _ _ he) (dO _ _ (Ne.symm he)) λb ah=>hb b (dh id _ b er ah) (cW id _ b he er ah)
  ·intro v id ai i j hr;by_cases he:s=id
   ·subst he;exact hR _ _ _ _ hr
   ·exact hr.other (bO _ _ he) (dO _ _ (Ne.symm he))
 refine⟨⟨?_,?_,?_,λb h=>hI b (r.i0 b h),?_,?_,Nat.le_trans r.size bB,h1.trans r.os,h2.trans r.tape,h3.trans r.output,?_,?_⟩,hm⟩
 ·intro id o ho;by_cases he:s=id
  ·subst he;have:ob=o:=by simpa[an]using ho
   subst this;exact dB cp hm
  ·have b9:get g.h id=some o:=by rwa [show get (set g.h s ob) id=get g.h id from bO _ _ he]at ho
   exact(r.ob id o b9).other (dO _ _ (Ne.symm he)) hm cp bB (λb ah=>hb b (dh id _ b b9 ah) (cW id _ b he b9 ah))
    λb ah=>⟨λhi=>(kD b hi).resolve_right (cW id _ b he b9 ah),hI b⟩
 ·intro id bW o o' b ho b9 ah aN;simp only[aQ]at ho b9;simp only[bl]at ah aN;by_cases he:id=s
  ·by_cases cr:bW=s
   ·rw[he,cr]
   ·rw[if_pos he]at ah;rw[if_neg cr]at aN;rw[if_neg (Ne.symm cr)]at b9;have aT:=dh bW _ b b9 aN;rcases hp with hp | ⟨b',hp,pP⟩
    ·exact absurd (hp▸ah) (cW bW _ b (Ne.symm cr) b9 aN)
    ·rw[hp]at ah;cases ah;omega
  ·rw[if_neg he]at ah;rw[if_neg (Ne.symm he)]at ho;by_cases cr:bW=s
   ·rw[if_pos cr]at aN;have aT:=dh id _ b ho ah;rcases hp with hp | ⟨b',hp,pP⟩
    ·exact absurd (hp▸aN) (cW id _ b (Ne.symm he) ho ah)
    ·rw[hp]at aN;cases aN;omega
   ·rw[if_neg cr]at aN;rw[if_neg (Ne.symm cr)]at b9;exact r.inj id bW o o' b ho b9 ah aN
 ·intro b hi;rcases kD b hi with h | h
  ·exact Nat.lt_of_lt_of_le (r.small b h) bB
  ·exact Nat.lt_of_lt_of_le (dh s _ b hs h) bB
 ·intro b hi;rcases kD b hi with h | h
  ·exact r.i1 b h
  ·exact .inr (r.own s _ b hs h)
 ·intro id o b ho ah;simp only[aQ]at ho;simp only[bl]at ah;by_cases he:id=s
  ·rw[if_pos he]at ah;rcases hp with hp | ⟨b',hp,pP⟩
   ·exact r.own s _ b hs (hp▸ah)
   ·rw[hp]at ah;cases ah;exact Nat.le_trans r.size pP
  ·rw[if_neg he]at ah;rw[if_neg (Ne.symm he)]at ho;exact r.own id o b ho ah
 ·intro b h;have aT:=Nat.lt_of_lt_of_le h r.size;refine(hb b aT λe=>?_).trans (r.cu b h);have:=r.own s _ b hs e;omega
 ·intro id o b ho ah;simp only[aQ]at ho;simp only[bl]at ah;by_cases he:id=s
  ·rw[if_pos he]at ah;rw[he];exact gO b ah
  ·rw[if_neg he]at ah;rw[if_neg (Ne.symm he)]at ho;exact(r.ty id o b ho ah).same (kT (hb b (dh id o b ho ah) (cW id o b (Ne.symm he) ho ah)))
theorem aW {α β:Type} (m:M α) (f:α->M β) (h:Hp):(m.bind f).run h=match m.run h with
  |some (a,h')=>(f a).run h'
  |none=>none:=by
 induction m generalizing h with
 |ret a=>rfl
 |fail=>rfl
 |get id k ih=>simp only[M.bind,M.run];exact ih _ _
 |put id o k ih=>simp only[M.bind,M.run];exact ih _
theorem ag {α β:Type} {m:M α} {f:α->M β} {h pQ:Hp} {b:β} (e:(m.bind f).run h=some (b,pQ)) :
  ∃a h',m.run h=some (a,h')/\(f a).run h'=some (b,pQ):=by
 rw[aW]at e;cases hm:m.run h with
 |none=>rw[hm]at e;cases e
 |some p=>rw[hm]at e;exact⟨p.1,p.2,rfl,e⟩
theorem l7 {b:Bool} {h h':Hp} {u:Unit} (e:(M.ok b).run h=some (u,h')):b=true/\h'=h:=by
 unfold M.ok at e;cases b with
 |true=>simp[M.run]at e;exact⟨rfl,e.symm⟩
 |false=>simp[M.run]at e
theorem ku {id:Nat} {h h':Hp} {o:Ob} (e:(M.look id).run h=some (o,h')):aB.get h id=some o/\h'=h:=by
 simp only[M.look,M.run]at e;cases hg:aB.get h id with
 |none=>simp[hg,M.run]at e
 |some x=>simp[hg,M.run]at e;exact⟨by rw[e.1],e.2.symm⟩
theorem M.ct {id:Nat} {h h':Hp} {u:Unit} (e:(M.fresh id).run h=some (u,h')):aB.get h id=none/\h'=h:=by
 simp only[M.fresh,M.run]at e;cases hg:aB.get h id with
 |none=>simp[hg,M.run]at e;exact⟨rfl,e.symm⟩
 |some x=>simp[hg,M.run]at e
theorem aI {id:Nat} {o:Ob} {h h':Hp} {u:Unit} (e:(M.write id o).run h=some (u,h')):h'=set h id o:=by
 simp[M.write,M.run]at e;exact e.symm
theorem dy {α:Type} {x:Option α} {h h':Hp} {a:α} (e:(M.lift x).run h=some (a,h')):x=some a/\h'=h:=by
 cases x with
 |none=>simp[M.lift,M.run]at e
 |some y=>simp[M.lift,M.run]at e;exact⟨by rw[e.1],e.2.symm⟩
theorem af {α:Type} {x a:α} {h h':Hp} (e:(M.ret x).run h=some (a,h')):x=a/\h'=h:=by
 simp[M.run]at e;exact⟨e.1,e.2.symm⟩
theorem ae {α:Type} {a:α} {h h':Hp} (e:(M.fail:M α).run h=some (a,h')):False:=by simp[M.run]at e
theorem M.aj {α:Type} {b:Bool} {f:Unit->M α} {h:Hp} {r:α×Hp} (e:((M.ok b).bind f).run h=some r):b=true/\(f ()).run h=some r:=by
 obtain⟨a,g⟩:=r;obtain⟨_,h1,e1,e2⟩:=ag e;obtain⟨hb,rfl⟩:=l7 e1;exact⟨hb,e2⟩
theorem M.lift_bind {α β:Type} {x:Option β} {f:β->M α} {h:Hp} {r:α×Hp} (e:((M.lift x).bind f).run h=some r):∃a,x=some a/\(f a).run h=some r:=by
 obtain⟨a,g⟩:=r;obtain⟨y,h1,e1,e2⟩:=ag e;obtain⟨hb,rfl⟩:=dy e1;exact⟨y,hb,e2⟩
theorem M.aM {α:Type} {id:Nat} {f:Ob->M α} {h:Hp} {r:α×Hp} (e:((M.look id).bind f).run h=some r):∃o,aB.get h id=some o/\(f o).run h=some r:=by
 obtain⟨a,g⟩:=r;obtain⟨y,h1,e1,e2⟩:=ag e;obtain⟨hb,rfl⟩:=ku e1;exact⟨y,hb,e2⟩
theorem bR {α β:Type} {f:α->M β} {x:α} {r:List α} {h h':Hp} {ys:List β} (e:(M.aJ f (x::r)).run h=some (ys,h')) :
  ∃y h1 zs,(f x).run h=some (y,h1)/\(M.aJ f r).run h1=some (zs,h')/\ys=y::zs:=by
 obtain⟨y,h1,e1,e2⟩:=ag e;obtain⟨zs,h2,e3,e4⟩:=ag e2;obtain⟨rfl,rfl⟩:=af e4;exact⟨y,h1,zs,e1,e3,rfl⟩
theorem b7 {α β:Type} {f:α->M β} {h h':Hp} {ys:List β} (e:(M.aJ f []).run h=some (ys,h')):ys=[]/\h'=h:=by
 obtain⟨rfl,rfl⟩:=af e;exact⟨rfl,rfl⟩
structure cj (ν:Nat->Nat) (k:Cx) (g:Gh) (h':Hp) (I':Nat->Prop):Prop where
 rel:Rel ν k { g with I:=I',h:=h' }
 mono:aV ν g { g with I:=I',h:=h' }
 sub:∀b,g.I b->I' b
 up:∀b,I' b->g.I b\/∃id o,get g.h id=some o/\g.φ id=some b
 stay:∀id o,get h' id=some o->get g.h id=some o\/(∃v e es,o = .aZ v e es)\/∃xs,o = .c7 xs
 alive:∀id,(get h' id).isSome=(get g.h id).isSome
theorem cj.refl {ν:Nat->Nat} {k:Cx} {g:Gh} (r:Rel ν k g):cj ν k g g.h g.I:=⟨r,.refl ν g,λ_ h=>h,λ_ h=>.inl h,λ_ _ h=>.inl h,λ_=>rfl⟩
theorem cj.trans {ν:Nat->Nat} {k:Cx} {g:Gh} {h1 h2:Hp} {I1 I2:Nat->Prop} (a:cj ν k g h1 I1) (b:cj ν k { g with I:=I1,h:=h1 } h2 I2):cj ν k g h2 I2:=
 ⟨b.rel,a.mono.trans b.mono,λx hx=>b.sub x (a.sub x hx),λx hx=>by
  rcases b.up x hx with h | ⟨id,o,ho,ah⟩
  ·exact a.up x h
  ·have ha:=a.alive id;simp only[]at ho ah;rw[ho]at ha;cases hg:get g.h id with
   |none=>rw[hg]at ha;simp at ha
   |some o'=>exact .inr ⟨id,o',hg,ah⟩,
  λid o h=>by
  rcases b.stay id o h with h | h
  ·exact a.stay id o h
  ·exact .inr h,λid=>(b.alive id).trans (a.alive id)⟩
theorem jX {φ:Nat->Option Nat} {id:Nat}:bl φ id (φ id)=φ:=by funext i;simp only[bl];split<;>simp_all
theorem l8 {ν:Nat->Nat} {k:Cx} {g:Gh} (r:Rel ν k g) {id v e b:Nat} {es:List (List AV)} {xs:List (List IV)} (hg:get g.h id=some (.buf v e es)) (ah:g.φ id=some b) (hn:xs.length=es.length)
  (hl:∀c ∈ xs,c.length=e) (hx:∀(i j:Nat) (c:List IV) (x:IV),xs[i]?=some c->c[j]?=some x->∃u,g.w.cell? ⟨b,i*e+j,none⟩=some u/\RI ν g.I g.w u x) :
  cj ν k g (set g.h id (.aZ v e xs)) (λb=>g.I b\/g.φ id=some b):=by
 have b8:∀b,g.φ id=some b->¬g.I b:=by
  intro b' aN;obtain⟨BY,h1,h2,_⟩:=r.ob id _ hg;rw[aN]at h1;cases h1;exact h2
 have ht:=r.iR (s:=id) (ob:=.aZ v e xs) (p:=g.φ id) (w':=g.w) (I':=λb=>g.I b\/g.φ id=some b) hg b8 (Nat.le_refl _) rfl rfl rfl (λ_ _ _=>rfl) (λ_ h=>.inl h) (λ_ h=>h) (.inl rfl) (λb' h=>r.ty id _ b' hg h)
  (λu o n ai ho=>by
   unfold aE at ho ⊢;rw[hg]at ho;simp only[an,aw];rw[hn];exact ho)
  (λu ai i j hr=>by
   unfold aG at hr ⊢;rw[hg]at hr;simp only[an,aw];exact hr)
  (λcp _=>⟨b,(aw _ _ _).trans ah,.inr ah,hl,λi j c x h1 h2=>let⟨u,c1,c2⟩:=hx i j c x h1 h2;⟨u,c1,cp _ _ c2⟩⟩)
 rw[jX]at ht;refine⟨ht.1,ht.2,λ_ h=>.inl h,λb h=>h.imp _root_.id λh=>⟨id,_,hg,h⟩,λbW o h=>?_,λbW=>?_⟩
 ·rw[aQ]at h;split at h
  ·cases h;exact .inr (.inl ⟨_,_,_,rfl⟩)
  ·exact .inl h
 ·rw[aQ];split
  ·rename_i he;subst he;rw[hg];rfl
  ·rfl
theorem mB {ν:Nat->Nat} {k:Cx} {g:Gh} (r:Rel ν k g) {id b:Nat} {cs:List AV} {xs:List IV} (hg:get g.h id=some (.cells cs)) (ah:g.φ id=some b) (hn:xs.length=cs.length)
  (hx:∀(j:Nat) (x:IV),xs[j]?=some x->∃u,g.w.cell? ⟨b,j,none⟩=some u/\RI ν g.I g.w u x) :
  cj ν k g (set g.h id (.c7 xs)) (λb=>g.I b\/g.φ id=some b):=by
 have b8:∀b,g.φ id=some b->¬g.I b:=by
  intro b' aN;obtain⟨BY,h1,h2,_⟩:=r.ob id _ hg;rw[aN]at h1;cases h1;exact h2
 have ht:=r.iR (s:=id) (ob:=.c7 xs) (p:=g.φ id) (w':=g.w) (I':=λb=>g.I b\/g.φ id=some b) hg b8 (Nat.le_refl _) rfl rfl rfl (λ_ _ _=>rfl) (λ_ h=>.inl h) (λ_ h=>h) (.inl rfl) (λb' h=>r.ty id _ b' hg h)
  (λu o n ai ho=>by
   unfold aE at ho ⊢;rw[hg]at ho;simp only[an,aw];rw[hn];exact ho)
  (λu ai i j hr=>by
   unfold aG at hr ⊢;rw[hg]at hr;simp only[an,aw];exact hr)
  (λcp _=>⟨b,(aw _ _ _).trans ah,.inr ah,λj x h2=>let⟨u,c1,c2⟩:=hx j x h2;⟨u,c1,cp _ _ c2⟩⟩)
 rw[jX]at ht;refine⟨ht.1,ht.2,λ_ h=>.inl h,λb h=>h.imp _root_.id λh=>⟨id,_,hg,h⟩,λbW o h=>?_,λbW=>?_⟩
 ·rw[aQ]at h;split at h
  ·cases h;exact .inr (.inr ⟨_,rfl⟩)
  ·exact .inl h
 ·rw[aQ];split
  ·rename_i he;subst he;rw[hg];rfl
  ·rfl
theorem kE {ν:Nat->Nat} {J:Nat->Prop} {w:World} {p:Option Nat} {e o m L:Nat} {xs:List (List IV)} (hn:xs.length=m)
  (aC:∀b,p=some b->J b/\(∀c ∈ xs,c.length=e)/\∀(i j:Nat) (c:List IV) (x:IV),xs[i]?=some c->c[j]?=some x->∃u,w.cell? ⟨b,(o+i)*e+j,none⟩=some u/\RI ν J w u x) {v:Value}
  (h:cD w p e L o m v):RI ν J w v (.sl e xs):=by
 by_cases hm:m=0
 ·subst hm;have:xs=[]:=List.eq_nil_of_length_eq_zero hn;subst this;cases hp:p with
  |none=>rw[hp]at h;obtain⟨⟨a,rfl⟩,_⟩:=h;exact .dU a 0 e
  |some b=>rw[hp]at h;obtain⟨x,cap,rfl,_⟩:=h;exact .dU _ cap e
 ·cases hp:p with
  |none=>rw[hp]at h;obtain⟨_,h0,_⟩:=h;exact absurd h0 hm
  |some b=>
   rw[hp]at h;obtain⟨x,cap,rfl,h2,h3,h4,h5,_⟩:=h;obtain⟨hI,hl,hc⟩:=aC b hp;have hx:x=o*e:=h5.resolve_right λh=>hm h.1
   subst hx;have wU:∀(i:Nat) (c:List IV),xs[i]?=some c->∃f:Nat->Value,∀(j:Nat) (x:IV),c[j]?=some x->w.cell? ⟨b,(o+i)*e+j,none⟩=some (f j)/\RI ν J w (f j) x:=
    λi c hi=>pick λj x hj=>hc i j c x hi hj
   obtain⟨F,hF⟩:=qS wU;refine .sl b (o*e) m cap e xs F hI hn.symm h4 hl (λi j c x h1 h2=>?_) λi j c x h1 h2=>(hF i c h1 j x h2).2
   have:=(hF i c h1 j x h2).1
   rwa [Nat.add_mul]at this
theorem gy {ν:Nat->Nat} {J:Nat->Prop} {w:World} {off j b:Nat} {c:List IV} (hJ:J b) (hc:∀(l:Nat) (x:IV),c[l]?=some x->∃u,w.cell? ⟨b,off+l,none⟩=some u/\RI ν J w u x) :
  RI ν J w (.pointer (some ⟨b,off+j,none⟩)) (.ptr (c.drop j)):=by
 obtain⟨F,hF⟩:=pick (cs:=c) hc;refine .ptr b (off+j) _ (λl=>F (j+l)) hJ (λl x h=>?_) λl x h=>?_
 ·rw[List.getElem?_drop]at h;have:=(hF _ x h).1
  rwa [<-Nat.add_assoc]at this
 ·rw[List.getElem?_drop]at h;exact(hF _ x h).2
theorem jC {α:Type} {es:List α} {o m i:Nat} {c:α} (h:((es.drop o).take m)[i]?=some c):i<m/\es[o+i]?=some c:=by
 rw[List.getElem?_take]at h;split at h
 ·rename_i hi;rw[List.getElem?_drop]at h;exact⟨hi,h⟩
 ·cases h
theorem cD.fits {w:World} {p:Option Nat} {e L o n:Nat} {v:Value} (h:cD w p e L o n v):o+n<=L:=by
 cases p with
 |none=>obtain⟨_,rfl,rfl,rfl⟩:=h;exact Nat.le_refl _
 |some b=>obtain⟨x,cap,_,h,_⟩:=h;exact h
theorem hZ {ν:Nat->Nat} {k:Cx} {g:Gh} (r:Rel ν k g) {id v' e o m:Nat} {es:List (List IV)} (hg:get g.h id=some (.aZ v' e es)) {v:Value}
  (h:cD g.w (g.φ id) e es.length o m v):RI ν g.I g.w v (.sl e ((es.drop o).take m)):=by
 have hf:=h.fits;refine kE (by simp;omega) (λb hp=>?_) h;obtain⟨b',h1,hI,aC⟩:=r.ob id _ hg;rw[hp]at h1;cases h1;refine⟨hI,λc hc=>aC.1 c (List.mem_of_mem_drop (List.mem_of_mem_take hc)),λi j c x h1 h2=>aC.2 _ j c x (jC h1).2 h2⟩
theorem ia {ν:Nat->Nat} {k:Cx} {g:Gh} (r:Rel ν k g) {id v' e i j:Nat} {es:List (List IV)} {c:List IV} (hg:get g.h id=some (.aZ v' e es)) (hc:es[i]?=some c) {v:Value}
  (h:∃b,g.φ id=some b/\v = .pointer (some ⟨b,i*e+j,none⟩)):RI ν g.I g.w v (.ptr (c.drop j)):=by
 obtain⟨b,ah,rfl⟩:=h;obtain⟨b',h1,hI,aC⟩:=r.ob id _ hg;rw[ah]at h1;cases h1;exact gy hI λl x h=>aC.2 i l c x hc h
theorem oZ {ν:Nat->Nat} {k:Cx} {g:Gh} (r:Rel ν k g) {id j:Nat} {xs:List IV} (hg:get g.h id=some (.c7 xs)) {v:Value} (h:∃b,g.φ id=some b/\v = .pointer (some ⟨b,j,none⟩)) :
  RI ν g.I g.w v (.ptr (xs.drop j)):=by
 obtain⟨b,ah,rfl⟩:=h;obtain⟨b',h1,hI,aC⟩:=r.ob id _ hg;rw[ah]at h1;cases h1;have:=gy (off:=0) (j:=j) hI (c:=xs) λl x h=>by have:=aC l x h;rwa [Nat.zero_add]
 rwa [Nat.zero_add]at this
def qT (ν:Nat->Nat) (f:AV->M IV):Prop:=
 ∀(k:Cx) (g:Gh) (a:AV) (x:IV) (h':Hp),(f a).run g.h=some (x,h')->Rel ν k g->∀v,RA ν g v a->∃I',cj ν k g h' I'/\RI ν I' g.w v x
theorem qT.list {ν:Nat->Nat} {f:AV->M IV} (hf:qT ν f):∀(cs:List AV) (k:Cx) (g:Gh) (xs:List IV) (h':Hp),(M.aJ f cs).run g.h=some (xs,h')->Rel ν k g->
  ∀V:Nat->Value,(∀(j:Nat) (c:AV),cs[j]?=some c->RA ν g (V j) c)->∃I',cj ν k g h' I'/\xs.length=cs.length/\∀(j:Nat) (x:IV),xs[j]?=some x->RI ν I' g.w (V j) x:=by
 intro cs
 induction cs with
 |nil=>
  intro k g xs h' e r V _;obtain⟨rfl,rfl⟩:=b7 e;exact⟨g.I,.refl r,rfl,λj x h=>by simp at h⟩
 |cons c cs ih=>
  intro k g xs h' e r V hV;obtain⟨y,h1,zs,e1,e2,rfl⟩:=bR e;obtain⟨I1,f1,r1⟩:=hf k g c y h1 e1 r (V 0) (hV 0 c rfl);obtain⟨I2,f2,hl,r2⟩:=ih k { g with I:=I1,h:=h1 } zs h' e2 f1.rel (λj=>V (j+1)) λj c' hc=>f1.mono _ _ (hV (j+1) c' (by simpa using hc))
  refine⟨I2,f1.trans f2,by simp[hl],λj x hx=>?_⟩;cases j with
  |zero=>simp at hx;subst hx;exact r1.mono f2.sub λ_ _ _ _ h=>h
  |succ j=>exact r2 j x (by simpa using hx)
theorem qT.rows {ν:Nat->Nat} {f:AV->M IV} (hf:qT ν f):∀(es:List (List AV)) (k:Cx) (g:Gh) (xs:List (List IV)) (h':Hp),(M.aJ (M.aJ f) es).run g.h=some (xs,h')->Rel ν k g->
  ∀V:Nat->Nat->Value,(∀(i j:Nat) (c:List AV) (x:AV),es[i]?=some c->c[j]?=some x->RA ν g (V i j) x)->
  ∃I',cj ν k g h' I'/\xs.length=es.length/\(∀(i:Nat) (c:List AV) (c':List IV),es[i]?=some c->xs[i]?=some c'->c'.length=c.length)/\
   ∀(i j:Nat) (c:List IV) (x:IV),xs[i]?=some c->c[j]?=some x->RI ν I' g.w (V i j) x:=by
 intro es
 induction es with
 |nil=>
  intro k g xs h' e r V _;obtain⟨rfl,rfl⟩:=b7 e;exact⟨g.I,.refl r,rfl,λi c c' h=>by simp at h,λi j c x h=>by simp at h⟩
 |cons c es ih=>
  intro k g xs h' e r V hV;obtain⟨y,h1,zs,e1,e2,rfl⟩:=bR e;obtain⟨I1,f1,l1,r1⟩:=hf.list c k g y h1 e1 r (V 0) λj x h=>hV 0 j c x rfl h
  obtain⟨I2,f2,hl,mS,r2⟩:=ih k { g with I:=I1,h:=h1 } zs h' e2 f1.rel (λi=>V (i+1)) λi j c' x h h'=>f1.mono _ _ (hV (i+1) j c' x (by simpa using h) h')
  refine⟨I2,f1.trans f2,by simp[hl],λi a b ha hb=>?_,λi j a x ha hx=>?_⟩
  ·cases i with
   |zero=>simp at ha hb;subst ha hb;exact l1
   |succ i=>exact mS i a b (by simpa using ha) (by simpa using hb)
  ·cases i with
   |zero=>simp at ha;subst ha;exact(r1 j x hx).mono f2.sub λ_ _ _ _ h=>h
   |succ i=>exact r2 i j a x (by simpa using ha) hx
theorem nM {ν:Nat->Nat} {g:Gh} {b e:Nat} {es:List (List AV)} (h:mL ν g b e es):∃V:Nat->Nat->Value,∀(i j:Nat) (c:List AV) (x:AV),es[i]?=some c->c[j]?=some x->
  g.w.cell? ⟨b,i*e+j,none⟩=some (V i j)/\(V i j).oneCell'=true/\RA ν g (V i j) x:=by
 obtain⟨F,hF⟩:=qS (cs:=es) (P:=λi (f:Nat->Value) c=>∀(j:Nat) (x:AV),c[j]?=some x->g.w.cell? ⟨b,i*e+j,none⟩=some (f j)/\(f j).oneCell'=true/\RA ν g (f j) x)
  λi c hc=>pick λj x hx=>h.2 i j c x hc hx
 exact⟨F,λi j c x h1 h2=>hF i c h1 j x h2⟩
theorem jl (ν:Nat->Nat):∀n,qT ν (fz true n):=by
 intro n
 induction n with
 |zero=>intro k g a x h' e;exact(ae e).elim
 |succ n ih=>
  intro k g a x h' e r v ha;have row:∀{id v' e' b:Nat} {es:List (List AV)} {xs:List (List IV)} {h1:Hp},get g.h id=some (.buf v' e' es)->g.φ id=some b->(M.aJ (M.aJ (fz true n)) es).run g.h=some (xs,h1)->(∃v e es,get h1 id=some (.buf v e es))->
    ∃I',cj ν k g (set h1 id (.aZ v' e' xs)) I'/\xs.length=es.length:=by
   intro id v' e' b es xs h1 hg ah e1 hb;obtain⟨b',mj,b8,cE,aC⟩:=r.ob id _ hg;rw[ah]at mj;cases mj;obtain⟨V,hV⟩:=nM aC;obtain⟨I1,f1,hl,mS,hx⟩:=ih.rows es k g xs h1 e1 r V λi j c x h1 h2=>(hV i j c x h1 h2).2.2
   have fp:get h1 id=some (.buf v' e' es):=by
    obtain⟨a1,a2,a3,ha⟩:=hb;rcases f1.stay id _ ha with h | h | h
    ·rw[hg]at h;cases h;exact ha
    ·obtain⟨_,_,_,h⟩:=h;cases h
    ·obtain⟨_,h⟩:=h;cases h
   have hlen:∀(i:Nat) (c:List IV),xs[i]?=some c->∃c',es[i]?=some c'/\c.length=c'.length:=λi c h=>by
    have h':=ay h;exact⟨_,List.getElem?_eq_getElem (by omega),mS i _ c (List.getElem?_eq_getElem (by omega)) h⟩
   have hf:=l8 (xs:=xs) f1.rel fp ah hl (λc hc=>by
     obtain⟨i,hi⟩:=List.getElem?_of_mem hc;obtain⟨c',h1,h2⟩:=hlen i c hi;rw[h2];exact aC.1 c' (List.mem_of_getElem? h1)) λi j c x h1 h2=>by
    obtain⟨c',h3,h4⟩:=hlen i c h1;have hj:=ay h2;exact⟨V i j,(hV i j c' _ h3 (List.getElem?_eq_getElem (by omega))).1,hx i j c x h1 h2⟩
   exact⟨_,f1.trans hf,hl⟩
  cases ha with
  |undef=>exact(ae e).elim
  |agg=>exact(ae e).elim
  |aR=>exact(ae e).elim
  |cG=>exact(ae e).elim
  |iv hr=>
   cases hr with
   |aq a e'=>obtain⟨rfl,rfl⟩:=af e;exact⟨g.I,.refl r,.dU _ _ _⟩
   |bool b=>obtain⟨rfl,rfl⟩:=af e;exact⟨g.I,.refl r,.bool _⟩
   |int k' n'=>obtain⟨rfl,rfl⟩:=af e;exact⟨g.I,.refl r,.int _ _⟩
   |str s=>obtain⟨rfl,rfl⟩:=af e;exact⟨g.I,.refl r,.str _⟩
   |dU a c e'=>obtain⟨rfl,rfl⟩:=af e;exact⟨g.I,.refl r,.dU _ _ _⟩
   |sl b off n' cap e' es f h1 h2 h3 h4 h5 h6=>obtain⟨rfl,rfl⟩:=af e;exact⟨g.I,.refl r,.sl b off n' cap e' es f h1 h2 h3 h4 h5 h6⟩
   |bc=>obtain⟨rfl,rfl⟩:=af e;exact⟨g.I,.refl r,.bc⟩
   |ptr b off cs f h1 h2 h3=>obtain⟨rfl,rfl⟩:=af e;exact⟨g.I,.refl r,.ptr b off cs f h1 h2 h3⟩
   |fn f ax cs h1 h2=>obtain⟨rfl,rfl⟩:=af e;exact⟨g.I,.refl r,.fn f ax cs h1 h2⟩
   |junk v h1=>obtain⟨rfl,rfl⟩:=af e;exact⟨g.I,.refl r,.junk _ h1⟩
  |@own _ id o m ai j4 ho=>
   obtain⟨ob,hg,e2⟩:=M.aM e;cases ob with
   |cells cs=>exact(ae e2).elim
   |c7 cs=>exact(ae e2).elim
   |map _=>exact(ae e2).elim
   |buf v' e' es=>
    obtain⟨hv,e4⟩:=M.aj e2;simp only[if_true]at e4;obtain⟨xs,h3,e5,e6⟩:=ag e4;obtain⟨jI,dc,e8⟩:=M.aM e6;cases jI with
    |cells cs=>exact(ae e8).elim
    |c7 cs=>exact(ae e8).elim
    |map _=>exact(ae e8).elim
    |aZ _ _ _=>exact(ae e8).elim
    |buf v2 CQ Jg=>
     obtain⟨_,h5,e9,dg⟩:=ag e8;obtain rfl:=aI e9;obtain⟨rfl,rfl⟩:=af dg;have dm:v'=ai:=by simpa using hv
     obtain⟨b,ah, -⟩:=r.ob id _ hg;obtain⟨I',hf,hl⟩:=row hg ah e5 ⟨_,_,_,dc⟩;refine⟨I',hf,?_⟩;unfold aE at ho;rw[hg]at ho;have hs:=ho.2 dm;rw[<-hl]at hs;exact hZ hf.rel (id:=id) (an _ _ _) hs
   |aZ v' e' es=>
    obtain⟨hv,e4⟩:=M.aj e2;obtain⟨rfl,rfl⟩:=af e4;have dm:v'=ai:=by simpa using hv
    unfold aE at ho;rw[hg]at ho;exact⟨g.I,.refl r,hZ r hg (ho.2 dm)⟩
  |@ref _ id ai i j kF hr=>
   obtain⟨ob,hg,e2⟩:=M.aM e;unfold aG at hr;rw[hg]at hr;cases ob with
   |map _=>exact(ae e2).elim
   |c7 xs=>
    obtain⟨rfl,rfl,hb⟩:=hr;obtain⟨-,e4⟩:=M.aj e2;obtain⟨rfl,rfl⟩:=af e4;exact⟨g.I,.refl r,oZ r hg hb⟩
   |cells cs=>
    obtain⟨rfl,rfl,b,ah,rfl⟩:=hr;obtain⟨-,e4⟩:=M.aj e2;obtain⟨xs,h3,e5,e6⟩:=ag e4;simp only[if_true]at e6;obtain⟨jI,dc,e8⟩:=M.aM e6;obtain⟨b',aN,b8,_,hc⟩:=r.ob id _ hg;rw[ah]at aN;cases aN;obtain⟨V,hV⟩:=pick hc;obtain⟨I1,f1,hl,hx⟩:=ih.list cs k g xs _ e5 r V λj c h=>(hV j c h).2.2
    cases jI with
    |buf _ _ _=>exact(ae e8).elim
    |aZ _ _ _=>exact(ae e8).elim
    |c7 _=>exact(ae e8).elim
    |map _=>exact(ae e8).elim
    |cells BZ=>
     have jJ:get g.h id=some (.cells BZ):=by
      rcases f1.stay id _ dc with h | h | h
      ·exact h
      ·obtain⟨_,_,_,h⟩:=h;cases h
      ·obtain⟨_,h⟩:=h;cases h
     rw[hg]at jJ;cases jJ;obtain⟨_,h5,e9,dg⟩:=ag e8;obtain rfl:=aI e9;obtain⟨rfl,rfl⟩:=af dg;have hlen:∀(j:Nat) (x:IV),xs[j]?=some x->∃c,cs[j]?=some c:=λj x h=>by
      have:=ay h;exact⟨_,List.getElem?_eq_getElem (by omega)⟩
     have hf:=mB (xs:=xs) f1.rel dc ah hl λj x h=>let⟨c,bJ⟩:=hlen j x h;⟨V j,(hV j c bJ).1,hx j x h⟩
     exact⟨_,f1.trans hf,oZ hf.rel (id:=id) (an _ _ _) ⟨b,ah,rfl⟩⟩
   |buf v' e' es=>
    obtain⟨hv,e4⟩:=M.aj e2;simp only[if_true]at e4;obtain⟨xs,h3,e5,e6⟩:=ag e4;obtain⟨jI,dc,e8⟩:=M.aM e6;cases jI with
    |cells cs=>exact(ae e8).elim
    |c7 cs=>exact(ae e8).elim
    |map _=>exact(ae e8).elim
    |aZ _ _ _=>exact(ae e8).elim
    |buf v2 CQ Jg=>
     obtain⟨c,hc,dg⟩:=M.lift_bind e8;obtain⟨_,h6,ow,lr⟩:=ag dg;obtain rfl:=aI ow;obtain⟨rfl,rfl⟩:=af lr;have dm:v'=ai:=by simpa using hv
     obtain⟨b,ah, -⟩:=r.ob id _ hg;obtain⟨I',hf,hl⟩:=row hg ah e5 ⟨_,_,_,dc⟩;exact⟨I',hf,ia hf.rel (id:=id) (v':=v') (es:=xs) (an _ _ _) hc (hr.2 dm)⟩
   |aZ v' e' es=>
    obtain⟨hv,e4⟩:=M.aj e2;obtain⟨c,hc,e6⟩:=M.lift_bind e4;obtain⟨rfl,rfl⟩:=af e6;have dm:v'=ai:=by simpa using hv
    exact⟨g.I,.refl r,ia r hg hc (hr.2 dm)⟩
  |@bp f first ax fs cs hm hs hn hr=>
   cases fs with
   |cons=>exact(ae e).elim
   |nil=>
    have:first=#[]:=Array.eq_empty_of_size_eq_zero hm
    subst this;obtain⟨xs,h1,e1,e2⟩:=ag e;obtain⟨rfl,rfl⟩:=af e2;obtain⟨I1,f1,hl,hx⟩:=ih.list cs k g xs _ e1 r (λj=>ax.getD j (.bool true)) λj c h=>by
     have:=ay h;exact hr j _ c (by simp[Array.getD,show j<ax.size by omega]) h
    refine⟨I1,f1,.fn f ax xs (by omega) λj v x h1 h2=>?_⟩;have:=hx j x h2
    rwa [show ax.getD j (.bool true)=v from by
     obtain⟨hj,he⟩:=Array.getElem?_eq_some_iff.1 h1;simp[Array.getD,hj,he]]at this
def qU (ν:Nat->Nat) (f:AV->M IV):Prop:=
 ∀(k:Cx) (g:Gh) (a:AV) (x:IV) (h':Hp),(f a).run g.h=some (x,h')->Rel ν k g->∀v,RA ν g v a->
  h'=g.h/\∀J:Nat->Prop,(∀b,g.I b->J b)->(∀id o b,get g.h id=some o->g.φ id=some b->J b)->RI ν J g.w v x
theorem qU.list {ν:Nat->Nat} {f:AV->M IV} (hf:qU ν f) (k:Cx) (g:Gh) (r:Rel ν k g):∀(cs:List AV) (xs:List IV) (h':Hp),(M.aJ f cs).run g.h=some (xs,h')->
  ∀V:Nat->Value,(∀(j:Nat) (c:AV),cs[j]?=some c->RA ν g (V j) c)->h'=g.h/\xs.length=cs.length/\
   ∀J:Nat->Prop,(∀b,g.I b->J b)->(∀id o b,get g.h id=some o->g.φ id=some b->J b)->∀(j:Nat) (x:IV),xs[j]?=some x->RI ν J g.w (V j) x:=by
 intro cs
 induction cs with
 |nil=>
  intro xs h' e V _;obtain⟨rfl,rfl⟩:=b7 e;exact⟨rfl,rfl,λ_ _ _ j x h=>by simp at h⟩
 |cons c cs ih=>
  intro xs h' e V hV;obtain⟨y,h1,zs,e1,e2,rfl⟩:=bR e;obtain⟨rfl,r1⟩:=hf k g c y h1 e1 r (V 0) (hV 0 c rfl);obtain⟨rfl,hl,r2⟩:=ih zs h' e2 (λj=>V (j+1)) λj c' hc=>hV (j+1) c' (by simpa using hc)
  refine⟨rfl,by simp[hl],λJ hJ fN j x hx=>?_⟩;cases j with
  |zero=>simp at hx;subst hx;exact r1 J hJ fN
  |succ j=>exact r2 J hJ fN j x (by simpa using hx)
theorem qU.rows {ν:Nat->Nat} {f:AV->M IV} (hf:qU ν f) (k:Cx) (g:Gh) (r:Rel ν k g):∀(es:List (List AV)) (xs:List (List IV)) (h':Hp),(M.aJ (M.aJ f) es).run g.h=some (xs,h')->
  ∀V:Nat->Nat->Value,(∀(i j:Nat) (c:List AV) (x:AV),es[i]?=some c->c[j]?=some x->RA ν g (V i j) x)->h'=g.h/\xs.length=es.length/\
   (∀(i:Nat) (c:List AV) (c':List IV),es[i]?=some c->xs[i]?=some c'->c'.length=c.length)/\
   ∀J:Nat->Prop,(∀b,g.I b->J b)->(∀id o b,get g.h id=some o->g.φ id=some b->J b)->∀(i j:Nat) (c:List IV) (x:IV),xs[i]?=some c->c[j]?=some x->RI ν J g.w (V i j) x:=by
 intro es
 induction es with
 |nil=>
  intro xs h' e V _;obtain⟨rfl,rfl⟩:=b7 e;exact⟨rfl,rfl,λi c c' h=>by simp at h,λ_ _ _ i j c x h=>by simp at h⟩
 |cons c es ih=>
  intro xs h' e V hV;obtain⟨y,h1,zs,e1,e2,rfl⟩:=bR e;obtain⟨rfl,l1,r1⟩:=hf.list k g r c y h1 e1 (V 0) λj x h=>hV 0 j c x rfl h
  obtain⟨rfl,hl,mS,r2⟩:=ih zs h' e2 (λi=>V (i+1)) λi j c' x h h'=>hV (i+1) j c' x (by simpa using h) h'
  refine⟨rfl,by simp[hl],λi a b ha hb=>?_,λJ hJ fN i j a x ha hx=>?_⟩
  ·cases i with
   |zero=>simp at ha hb;subst ha hb;exact l1
   |succ i=>exact mS i a b (by simpa using ha) (by simpa using hb)
  ·cases i with
   |zero=>simp at ha;subst ha;exact r1 J hJ fN j x hx
   |succ i=>exact r2 J hJ fN i j a x (by simpa using ha) hx
theorem ln (ν:Nat->Nat):∀n,qU ν (fz false n):=by
 intro n
 induction n with
 |zero=>intro k g a x h' e;exact(ae e).elim
 |succ n ih=>
  intro k g a x h' e r v ha;have up:∀{J:Nat->Prop},(∀b,g.I b->J b)->∀{v:Value} {x:IV},RI ν g.I g.w v x->RI ν J g.w v x:=λhJ _ _ h=>h.mono hJ λ_ _ _ _ h=>h
  cases ha with
  |undef=>exact(ae e).elim
  |agg=>exact(ae e).elim
  |aR=>exact(ae e).elim
  |cG=>exact(ae e).elim
  |iv hr=>
   have key:∀y:IV,(M.ret y).run g.h=some (x,h')->RI ν g.I g.w v y->h'=g.h/\∀J:Nat->Prop,(∀b,g.I b->J b)->(∀id o b,get g.h id=some o->g.φ id=some b->J b)->RI ν J g.w v x:=by
    intro y e hy;obtain⟨rfl,rfl⟩:=af e;exact⟨rfl,λJ hJ _=>up hJ hy⟩
   cases hr with
   |aq a e'=>exact key _ e (.dU _ _ _)
   |bool b=>exact key _ e (.bool _)
   |int k' n'=>exact key _ e (.int _ _)
   |str s=>exact key _ e (.str _)
   |dU a c e'=>exact key _ e (.dU _ _ _)
   |sl b off n' cap e' es f h1 h2 h3 h4 h5 h6=>exact key _ e (.sl b off n' cap e' es f h1 h2 h3 h4 h5 h6)
   |bc=>exact key _ e .bc
   |ptr b off cs f h1 h2 h3=>exact key _ e (.ptr b off cs f h1 h2 h3)
   |fn f ax cs h1 h2=>exact key _ e (.fn f ax cs h1 h2)
   |junk v h1=>exact key _ e (.junk _ h1)
  |@own _ id o m ai j4 ho=>
   obtain⟨ob,hg,e2⟩:=M.aM e;unfold aE at ho;rw[hg]at ho;cases ob with
   |cells cs=>exact(ae e2).elim
   |c7 cs=>exact(ae e2).elim
   |map _=>exact(ae e2).elim
   |buf v' e' es=>
    obtain⟨hv,e4⟩:=M.aj e2;simp only[Bool.false_eq_true,if_false]at e4;obtain⟨xs,h3,e5,e6⟩:=ag e4;obtain⟨rfl,rfl⟩:=af e6;have dm:v'=ai:=by simpa using hv
    have hs:=ho.2 dm;have cK:=hs.fits;obtain⟨b,ah,b8,cE,aC⟩:=r.ob id _ hg;obtain⟨V,hV⟩:=nM aC;obtain⟨rfl,hl,mS,hx⟩:=ih.rows k g r _ xs _ e5 (λi j=>V (o+i) j) λi j c x h1 h2=>(hV _ j c x (jC h1).2 h2).2.2
    have oT:xs.length=m:=by rw[hl];simp;omega
    have ij:∀(i:Nat) (c:List IV),xs[i]?=some c->∃c',es[o+i]?=some c'/\c.length=c'.length:=λi c h=>by
     have h':=ay h;have aT:i<((es.drop o).take m).length:=by omega
     have h2:=List.getElem?_eq_getElem aT;exact⟨_,(jC h2).2,mS i _ c h2 h⟩
    refine⟨rfl,λJ hJ fN=>kE oT (λb' hp=>?_) hs⟩;rw[ah]at hp;cases hp;refine⟨fN id _ b hg ah,λc hc=>?_,λi j c x h1 h2=>?_⟩
    ·obtain⟨i,hi⟩:=List.getElem?_of_mem hc;obtain⟨c',h1,h2⟩:=ij i c hi;rw[h2];exact aC.1 c' (List.mem_of_getElem? h1)
    ·obtain⟨c',h3,h4⟩:=ij i c h1;have hj:=ay h2;exact⟨_,(hV (o+i) j c' _ h3 (List.getElem?_eq_getElem (by omega))).1,hx J hJ fN i j c x h1 h2⟩
   |aZ v' e' es=>
    obtain⟨hv,e4⟩:=M.aj e2;obtain⟨rfl,rfl⟩:=af e4;have dm:v'=ai:=by simpa using hv
    exact⟨rfl,λJ hJ _=>up hJ (hZ r hg (ho.2 dm))⟩
  |@ref _ id ai i j kF hr=>
   obtain⟨ob,hg,e2⟩:=M.aM e;unfold aG at hr;rw[hg]at hr;cases ob with
   |map _=>exact(ae e2).elim
   |c7 xs=>
    obtain⟨rfl,rfl,hb⟩:=hr;obtain⟨-,e4⟩:=M.aj e2;obtain⟨rfl,rfl⟩:=af e4;exact⟨rfl,λJ hJ _=>up hJ (oZ r hg hb)⟩
   |cells cs=>
    obtain⟨rfl,rfl,b,ah,rfl⟩:=hr;obtain⟨-,e4⟩:=M.aj e2;obtain⟨xs,h3,e5,e6⟩:=ag e4;simp only[Bool.false_eq_true,if_false]at e6;obtain⟨rfl,rfl⟩:=af e6;obtain⟨b',aN,b8,_,hc⟩:=r.ob id _ hg;rw[ah]at aN;cases aN;obtain⟨V,hV⟩:=pick hc;obtain⟨rfl,hl,hx⟩:=ih.list k g r cs xs _ e5 V λj c h=>(hV j c h).2.2
    refine⟨rfl,λJ hJ fN=>?_⟩;have:=gy (off:=0) (j:=j) (fN id _ b hg ah) (c:=xs) λl x h=>by
     have:=ay h;exact⟨V l,by rw[Nat.zero_add];exact(hV l _ (List.getElem?_eq_getElem (by omega))).1,hx J hJ fN l x h⟩
    rwa [Nat.zero_add]at this
   |buf v' e' es=>
    obtain⟨hv,e4⟩:=M.aj e2;simp only[Bool.false_eq_true,if_false]at e4;obtain⟨c,hc,e6⟩:=M.lift_bind e4;obtain⟨xs,h4,e7,e8⟩:=ag e6;obtain⟨rfl,rfl⟩:=af e8;have dm:v'=ai:=by simpa using hv
    obtain⟨b,ah,rfl⟩:=hr.2 dm;obtain⟨b',aN,b8,_,aC⟩:=r.ob id _ hg;rw[ah]at aN;cases aN;obtain⟨V,hV⟩:=nM aC;obtain⟨rfl,hl,hx⟩:=ih.list k g r c xs _ e7 (V i) λj x h=>(hV i j c x hc h).2.2
    refine⟨rfl,λJ hJ fN=>gy (fN id _ b hg ah) λl x h=>?_⟩;have:=ay h;exact⟨V i l,(hV i l c _ hc (List.getElem?_eq_getElem (by omega))).1,hx J hJ fN l x h⟩
   |aZ v' e' es=>
    obtain⟨hv,e4⟩:=M.aj e2;obtain⟨c,hc,e6⟩:=M.lift_bind e4;obtain⟨rfl,rfl⟩:=af e6;have dm:v'=ai:=by simpa using hv
    exact⟨rfl,λJ hJ _=>up hJ (ia r hg hc (hr.2 dm))⟩
  |@bp f first ax fs cs hm hs hn hr=>
   cases fs with
   |cons=>exact(ae e).elim
   |nil=>
    have:first=#[]:=Array.eq_empty_of_size_eq_zero hm
    subst this;obtain⟨xs,h1,e1,e2⟩:=ag e;obtain⟨rfl,rfl⟩:=af e2;obtain⟨rfl,hl,hx⟩:=ih.list k g r cs xs _ e1 (λj=>ax.getD j (.bool true)) λj c h=>by
     have:=ay h;exact hr j _ c (by simp[Array.getD,show j<ax.size by omega]) h
    refine⟨rfl,λJ hJ fN=>.fn f ax xs (by omega) λj v x h1 h2=>?_⟩;have:=hx J hJ fN j x h2
    rwa [show ax.getD j (.bool true)=v from by
     obtain⟨hj,he⟩:=Array.getElem?_eq_some_iff.1 h1;simp[Array.getD,hj,he]]at this
def bf (ν:Nat->Nat) (k:Cx) (g:Gh) (h':Hp) (r:AV) (res:Result Value):Prop:=
 ∃g' v,res = .ok v g'.w/\g'.h=h'/\Rel ν k g'/\aV ν g g'/\RA ν g' v r
theorem bf.same {ν:Nat->Nat} {k:Cx} {g:Gh} (r:Rel ν k g) {v:Value} {x:AV} {res:Result Value} (hr:res = .ok v g.w) (h:RA ν g v x):bf ν k g g.h x res:=
 ⟨g,v,hr,rfl,r,.refl ν g,h⟩
theorem iB {agg:Bool} {l:List AV} {h h':Hp} {r:AV} (e:(mk agg l).run h=some (r,h')):h'=h/\(agg=true/\r = .agg l\/agg=false/\l=[r]):=by
 unfold mk at e;cases agg with
 |true=>simp only[if_true]at e;obtain⟨rfl,rfl⟩:=af e;exact⟨rfl,.inl ⟨rfl,rfl⟩⟩
 |false=>
  simp only[Bool.false_eq_true,if_false]at e
  match l with
  |[]=>exact(ae e).elim
  |[x]=>obtain⟨rfl,rfl⟩:=af e;exact⟨rfl,.inr ⟨rfl,rfl⟩⟩
  |_::_::_=>exact(ae e).elim
theorem jK {ν:Nat->Nat} {P:Program} {g:Gh} {t:TypeId} {sz:Nat} {agg:Bool} (ht:fO P t sz agg=true) {b off:Nat} {l:List AV} (hl:l.length=sz)
  (hc:∀(i:Nat) (x:AV),l[i]?=some x->∃v,g.w.cell? ⟨b,off+i,none⟩=some v/\v.oneCell'=true/\RA ν g v x) {r:AV} (hr:agg=true/\r = .agg l\/agg=false/\l=[r]) :
  ∃v,(loadVar t ⟨b,off,none⟩).run P g.w = .ok v g.w/\RA ν g v r:=by
 obtain⟨d,i,hu,hi,ha,hs,h1⟩:=c8 ht;obtain⟨V,hV⟩:=pick hc;rcases hr with⟨di,rfl⟩|⟨di,rfl⟩
 ·have ey:(loadCells ⟨b,off,none⟩ i.size).run P g.w = .ok ((List.range i.size).map V).toArray g.w:=run_loadCells g.w _ _ V λj hj=>by
   have:=(hV j (l[j]'(by omega)) (List.getElem?_eq_getElem (by omega))).1
   rwa [Addr.add_lit]
  refine⟨.agg ((List.range i.size).map V).toArray,?_,.agg (by simp;omega) (λj v h=>?_) λj v c h1 h2=>?_⟩
  ·simp[loadVar,cJ hu,ha,di,run_sizeOf hi,ey]
  ·obtain⟨hj,rfl⟩:j<i.size/\V j=v:=by
    have hj:j<i.size:=by
     rcases Nat.lt_or_ge j i.size with h' | h'
     ·exact h'
     ·simp[List.getElem?_eq_none (show(List.range i.size).length<=j by simpa using h')]at h
    exact⟨hj,by simpa[hj]using h⟩
   exact(hV j (l[j]'(by omega)) (List.getElem?_eq_getElem (by omega))).2.1
  ·have hj:j<l.length:=by
    rcases Nat.lt_or_ge j l.length with h' | h'
    ·exact h'
    ·rw[List.getElem?_eq_none h']at h2;cases h2
   obtain rfl:V j=v:=by simpa[show j<i.size by omega]using h1
   exact(hV j c h2).2.2
 ·have h0:=hV 0 r rfl;refine⟨V 0,?_,h0.2.2⟩;have:=h0.1;simp only[Nat.add_zero]at this;simp[loadVar,cJ hu,ha,di,this]
theorem l9 {ν:Nat->Nat} {k:Cx} {g:Gh} (r:Rel ν k g) {id ai i j sz:Nat} {ob:Ob} {l:List AV} (hg:get g.h id=some ob) (hl:cP ob ai i j sz=some l) {v:Value}
  (h:aG g v id ai i j):∃b off,v = .pointer (some ⟨b,off,none⟩)/\∀(m:Nat) (x:AV),l[m]?=some x->∃v,g.w.cell? ⟨b,off+m,none⟩=some v/\v.oneCell'=true/\RA ν g v x:=by
 unfold aG at h;rw[hg]at h;have cu:=r.ob id _ hg;have sub:∀{α:Type} {cs:List α} {m:Nat} {x:α},((cs.drop j).take sz)[m]?=some x->cs[j+m]?=some x:=λh=>(jC h).2
 cases ob with
 |cells cs=>
  obtain⟨rfl,rfl,b,ah,rfl⟩:=h;obtain⟨b',aN,_,_,hc⟩:=cu;rw[ah]at aN;cases aN;simp only[cP,true_and,if_true,Option.some.injEq]at hl;subst hl;exact⟨b,j,rfl,λm x hx=>hc _ _ (sub hx)⟩
 |c7 cs=>
  obtain⟨rfl,rfl,b,ah,rfl⟩:=h;obtain⟨b',aN,_,hc⟩:=cu;rw[ah]at aN;cases aN;simp only[cP,true_and,if_true,Option.some.injEq]at hl;subst hl;refine⟨b,j,rfl,λm x hx=>?_⟩;simp only[List.getElem?_map,Option.map_eq_some_iff]at hx;obtain⟨y,hy,rfl⟩:=hx;obtain⟨v,h1,h2⟩:=hc _ _ (sub hy);exact⟨v,h1,h2.one,.iv h2⟩
 |buf v' e es=>
  simp only[cP]at hl;split at hl
  ·rename_i hv;obtain⟨b,ah,rfl⟩:=h.2 hv;simp only[Option.map_eq_some_iff]at hl;obtain⟨c,hc,rfl⟩:=hl;obtain⟨b',h1,_,_,aC⟩:=cu;rw[ah]at h1;cases h1;refine⟨b,_,rfl,λm x hx=>?_⟩;obtain⟨v,h1,h2⟩:=aC.2 i (j+m) c x hc (sub hx);exact⟨v,by rw[Nat.add_assoc];exact h1,h2⟩
  ·cases hl
 |aZ v' e es=>
  simp only[cP]at hl;split at hl
  ·rename_i hv;obtain⟨b,ah,rfl⟩:=h.2 hv;simp only[Option.map_eq_some_iff]at hl;obtain⟨c,hc,rfl⟩:=hl;obtain⟨b',h1,_,aC⟩:=cu;rw[ah]at h1;cases h1;refine⟨b,_,rfl,λm x hx=>?_⟩;simp only[List.getElem?_map,Option.map_eq_some_iff]at hx;obtain⟨y,hy,rfl⟩:=hx;obtain⟨v,h1,h2⟩:=aC.2 i (j+m) c y hc (sub hy);exact⟨v,by rw[Nat.add_assoc];exact h1,h2.one,.iv h2⟩
  ·cases hl
 |map _=>simp[cP]at hl
theorem lf {ν:Nat->Nat} {P:Program} {k:Cx} {g:Gh} (r:Rel ν k g) {t:TypeId} {sz:Nat} {agg:Bool} (ht:fO P t sz agg=true) {v:Value} {x y:AV} {h':Hp} (hv:RA ν g v x)
  (e:(load agg sz x).run g.h=some (y,h')):h'=g.h/\∃u,(Instr.loadAt t v).run P g.w = .ok u g.w/\RA ν g u y:=by
 cases hv with
 |undef=>exact(ae e).elim
 |cG=>exact(ae e).elim
 |agg=>exact(ae e).elim
 |aR=>exact(ae e).elim
 |own=>exact(ae e).elim
 |bp=>exact(ae e).elim
 |iv hr=>
  cases hr with
  |ptr b off cs f hI hc hr=>
   obtain⟨hl,e2⟩:=M.aj e;obtain⟨rfl,hm⟩:=iB e2;have jL:((cs.take sz).map AV.iv).length=sz:=by simpa using hl
   obtain⟨u,hu,hR⟩:=jK (ν:=ν) (g:=g) ht (b:=b) (off:=off) jL (λi x hx=>by
    simp only[List.getElem?_map,Option.map_eq_some_iff,List.getElem?_take]at hx;obtain⟨y,hy,rfl⟩:=hx;split at hy
    ·exact⟨f i,hc i y hy,(hr i y hy).one,.iv (hr i y hy)⟩
    ·cases hy) hm
   exact⟨rfl,u,by simp[Instr.loadAt,Instr.sureAddr,hu],hR⟩
  |_=>exact(ae e).elim
 |ref kF hr=>
  obtain⟨ob,hg,e2⟩:=M.aM e;obtain⟨l,hl,e4⟩:=M.lift_bind e2;obtain⟨jL,e6⟩:=M.aj e4;obtain⟨rfl,hm⟩:=iB e6;obtain⟨b,off,rfl,hc⟩:=l9 r hg hl hr;obtain⟨u,hu,hR⟩:=jK (ν:=ν) (g:=g) ht (b:=b) (off:=off) (by simpa using jL) hc hm;exact⟨rfl,u,by simp[Instr.loadAt,Instr.sureAddr,hu],hR⟩
theorem sb {ν:Nat->Nat} {P:Program} {k:Cx} {g:Gh} (r:Rel ν k g) {t:TypeId} {sz:Nat} {agg:Bool} (ht:fO P t sz agg=true) {v:Value} {x y:AV} {h':Hp} (hv:RA ν g v x)
  (e:(load agg sz x).run g.h=some (y,h')):bf ν k g h' y ((Instr.loadAt t v).run P g.w):=by
 obtain⟨rfl,u,hu,hR⟩:=lf r ht hv e;exact .same r hu hR
theorem aG.move {g:Gh} {v:Value} {id ai i j:Nat} {ob:Ob} (hg:get g.h id=some ob) (hv:valid ob ai i=true) (h:aG g v id ai i j) (n:Nat) :
  ∃b off,v = .pointer (some ⟨b,off,none⟩)/\aG g (.pointer (some ⟨b,off+n,none⟩)) id ai i (j+n):=by
 unfold aG at h ⊢;rw[hg]at h ⊢;cases ob with
 |cells cs=>
  obtain⟨rfl,rfl,b,ah,rfl⟩:=h;exact⟨b,j,rfl,rfl,rfl,b,ah,rfl⟩
 |c7 cs=>
  obtain⟨rfl,rfl,b,ah,rfl⟩:=h;exact⟨b,j,rfl,rfl,rfl,b,ah,rfl⟩
 |buf v' e es=>
  obtain⟨b,ah,rfl⟩:=h.2 (by simpa[valid]using hv);exact⟨b,_,rfl,h.1,λ_=>⟨b,ah,by rw[Nat.add_assoc]⟩⟩
 |aZ v' e es=>
  obtain⟨b,ah,rfl⟩:=h.2 (by simpa[valid]using hv);exact⟨b,_,rfl,h.1,λ_=>⟨b,ah,by rw[Nat.add_assoc]⟩⟩
 |map _=>simp[valid]at hv
theorem sc {ν:Nat->Nat} {P:Program} {k:Cx} {g:Gh} (r:Rel ν k g) {s:TypeId} {f off:Nat} (ht:pr P s f off=true) {v:Value} {x y:AV} {h':Hp} (hv:RA ν g v x)
  (e:(eD off x).run g.h=some (y,h')):bf ν k g h' y ((Instr.fieldAt s v f).run P g.w):=by
 unfold pr at ht;split at ht
 ·rename_i fs hu;split at ht
  ·rename_i fd hf;simp only[Bool.and_eq_true,beq_iff_eq]at ht;obtain⟨rfl,bB⟩:=ht;split at bB
   ·rename_i i hi;have bF:¬i.size=0:=by simpa using bB
    have key:∀(b o:Nat),(Instr.fieldAt s (.pointer (some ⟨b,o,none⟩)) f).run P g.w = .ok (.pointer (some ⟨b,o+fd.offset,none⟩)) g.w:=by
     intro b o;simp[Instr.fieldAt,run_underlying hu,hf,Instr.sureAddr,fieldPlace,run_sizeOf hi,bF,Addr.add_lit]
    cases hv with
    |undef=>exact(ae e).elim
    |cG=>exact(ae e).elim
    |agg=>exact(ae e).elim
    |aR=>exact(ae e).elim
    |own=>exact(ae e).elim
    |bp=>exact(ae e).elim
    |iv hr=>
     cases hr with
     |ptr b o cs f' hI hc hr=>
      obtain⟨-,e2⟩:=M.aj e;obtain⟨rfl,rfl⟩:=af e2;exact .same r (key _ _) (.iv (RI.drop (.ptr b o cs f' hI hc hr)))
     |_=>exact(ae e).elim
    |ref kF hr=>
     obtain⟨ob,hg,e2⟩:=M.aM e;obtain⟨cc,e4⟩:=M.aj e2;obtain⟨rfl,rfl⟩:=af e4;obtain⟨b,o,rfl,hR⟩:=hr.move hg cc fd.offset;exact .same r (key _ _) (.ref rfl hR)
   ·cases bB
  ·cases ht
 ·cases ht
theorem dC {x:AV} {n:Int} {h h':Hp} (e:(idx x).run h=some (n,h')):h'=h/\∃k,x = .iv (.int k n):=by
 unfold idx at e;split at e
 ·obtain⟨rfl,rfl⟩:=af e;exact⟨rfl,_,rfl⟩
 ·exact(ae e).elim
theorem se {ν:Nat->Nat} {P:Program} {k:Cx} {g:Gh} (r:Rel ν k g) {t:TypeId} {len e:Nat} (ht:px P t len e=true) {v u:Value} {x z y:AV} {h':Hp} (hv:RA ν g v x) (hu:RA ν g u z)
  (e':(eE len e x z).run g.h=some (y,h')):bf ν k g h' y ((Instr.indexAt t v u).run P g.w):=by
 obtain⟨el,i,dD,hi,rfl⟩:=qV ht;obtain⟨n,h1,e1,e2⟩:=ag e';obtain⟨rfl,kk,rfl⟩:=dC e1;cases hu with
 |iv hz=>
  cases hz;obtain⟨hn,e4⟩:=M.aj e2;have cZ:0<=n/\n<len:=by simpa using hn
  have key:∀(b o:Nat),(Instr.indexAt t (.pointer (some ⟨b,o,none⟩)) (.int kk n)).run P g.w = .ok (.pointer (some ⟨b,o+n.toNat*i.size,none⟩)) g.w:=by
   intro b o;simp[Instr.indexAt,run_underlying dD,Instr.sureAddr,asIntOf,cZ,run_sizeOf hi,Addr.add_lit]
  cases hv with
  |undef=>exact(ae e4).elim
  |cG=>exact(ae e4).elim
  |agg=>exact(ae e4).elim
  |aR=>exact(ae e4).elim
  |own=>exact(ae e4).elim
  |bp=>exact(ae e4).elim
  |iv hr=>
   cases hr with
   |ptr b o cs f' hI hc hr=>
    obtain⟨-,e2⟩:=M.aj e4;obtain⟨rfl,rfl⟩:=af e2;exact .same r (key _ _) (.iv (RI.drop (.ptr b o cs f' hI hc hr)))
   |_=>exact(ae e4).elim
  |ref kF hr=>
   obtain⟨ob,hg,e2⟩:=M.aM e4;obtain⟨cc,e4⟩:=M.aj e2;obtain⟨rfl,rfl⟩:=af e4;obtain⟨b,o,rfl,hR⟩:=hr.move hg cc (n.toNat*i.size);exact .same r (key _ _) (.ref rfl hR)
theorem tL {ν:Nat->Nat} {P:Program} {k:Cx} {g:Gh} (r:Rel ν k g) {t:TypeId} {e:Nat} (ht:sliceB P t e=true) {v u:Value} {x z y:AV} {h':Hp} (hv:RA ν g v x) (hu:RA ν g u z)
  (e':(gX e x z).run g.h=some (y,h')):bf ν k g h' y ((Instr.indexAt t v u).run P g.w):=by
 obtain⟨el,i,dD,hi,rfl⟩:=dz ht;obtain⟨n,h1,e1,e2⟩:=ag e';obtain⟨rfl,kk,rfl⟩:=dC e1;cases hu with
 |iv hz=>
  cases hz;obtain⟨hn,e4⟩:=M.aj e2;have cZ:0<=n:=by simpa using hn
  have key:∀(b o len cap:Nat),n<(len:Int)->(Instr.indexAt t (.slice (some ⟨b,o,none⟩) len cap) (.int kk n)).run P g.w = .ok (.pointer (some ⟨b,o+n.toNat*i.size,none⟩)) g.w:=by
   intro b o len cap aT;simp[Instr.indexAt,run_underlying dD,asIntOf,cZ,aT,run_sizeOf hi,Addr.add_lit]
  cases hv with
  |undef=>exact(ae e4).elim
  |cG=>exact(ae e4).elim
  |agg=>exact(ae e4).elim
  |aR=>exact(ae e4).elim
  |ref=>exact(ae e4).elim
  |bp=>exact(ae e4).elim
  |iv hr=>
   cases hr with
   |dU a cap aD=>
    obtain⟨-,e2⟩:=M.aj e4;obtain⟨c,hc,e6⟩:=M.lift_bind e2;simp at hc
   |sl b off m cap aD es f hI hm eH hl hc hr=>
    obtain⟨he,e2⟩:=M.aj e4;obtain⟨c,bJ,e6⟩:=M.lift_bind e2;obtain⟨rfl,rfl⟩:=af e6;have cr:aD=i.size:=by simpa using he
    subst cr;have aT:n.toNat<es.length:=by
     rcases Nat.lt_or_ge n.toNat es.length with h | h
     ·exact h
     ·rw[List.getElem?_eq_none h]at bJ;cases bJ
    refine .same r (key b off m cap (by omega)) (.iv (.ptr b _ c (λj=>f n.toNat j) hI (λj x hx=>?_) λj x hx=>hr _ _ _ _ bJ hx));exact hc _ _ _ _ bJ hx
   |_=>exact(ae e4).elim
  |@own _ id o m ai j4 ho=>
   obtain⟨hm,e2⟩:=M.aj e4;obtain⟨ob,hg,e5⟩:=M.aM e2;have dv:n<(m:Int):=by simpa using hm
   unfold aE at ho;rw[hg]at ho;have fin:∀{v' aD L:Nat} {ob:Ob},get g.h id=some ob->(∃es,ob = .buf v' aD es\/∃xs,ob = .aZ v' aD xs)->v'=ai->aD=i.size->cD g.w (g.φ id) aD L o m v->
     bf ν k g g.h (.ref id ai (o+n.toNat) 0) ((Instr.indexAt t v (.int kk n)).run P g.w):=by
    intro v' aD L ob dc dB hv he hs;cases ah:g.φ id with
    |none=>rw[ah]at hs;obtain⟨_,rfl,_⟩:=hs;omega
    |some b=>
     rw[ah]at hs;obtain⟨x,cap,rfl,h2,_,h3,h4,_⟩:=hs;have hx:x=o*aD:=h4.resolve_right λh=>by have:=h.1;omega
     subst hx he;refine .same r (key b _ m cap dv) (.ref rfl ?_);unfold aG;rw[dc];obtain⟨es,rfl | ⟨xs,rfl⟩⟩:=dB<;>exact⟨Nat.le_of_eq hv.symm,λ_=>⟨b,ah,by rw[Nat.add_mul];rfl⟩⟩
   have CR:∀{L:Nat} {ob:Ob},get g.h id=some ob->(∃cs,ob = .cells cs\/∃xs,ob = .c7 xs)->1=i.size->cD g.w (g.φ id) 1 L o m v->
     bf ν k g g.h (.ref id 0 0 (o+n.toNat)) ((Instr.indexAt t v (.int kk n)).run P g.w):=by
    intro L ob dc dB he hs;cases ah:g.φ id with
    |none=>rw[ah]at hs;obtain⟨_,rfl,_⟩:=hs;omega
    |some b=>
     rw[ah]at hs;obtain⟨x,cap,rfl,h2,_,h3,h4,_⟩:=hs;have hx:x=o*1:=h4.resolve_right λh=>by have:=h.1;omega
     subst hx;refine .same r (key b _ m cap dv) (.ref rfl ?_);unfold aG;rw[dc];rw[<-he];obtain⟨es,rfl | ⟨xs,rfl⟩⟩:=dB<;>exact⟨rfl,rfl,b,ah,by simp⟩
   cases ob with
   |cells cs=>
    obtain⟨cw,e7⟩:=M.aj e5;obtain⟨rfl,rfl⟩:=af e7;simp only[Bool.and_eq_true,beq_iff_eq]at cw;exact CR hg ⟨cs,.inl rfl⟩ cw.2.symm ho.2
   |c7 cs=>
    obtain⟨cw,e7⟩:=M.aj e5;obtain⟨rfl,rfl⟩:=af e7;simp only[Bool.and_eq_true,beq_iff_eq]at cw;exact CR hg ⟨[],.inr ⟨cs,rfl⟩⟩ cw.2.symm ho.2
   |buf v' aD es=>
    obtain⟨cw,e7⟩:=M.aj e5;obtain⟨rfl,rfl⟩:=af e7;simp only[Bool.and_eq_true,beq_iff_eq]at cw;exact fin hg ⟨es,.inl rfl⟩ cw.1 cw.2 (ho.2 cw.1)
   |aZ v' aD es=>
    obtain⟨cw,e7⟩:=M.aj e5;obtain⟨rfl,rfl⟩:=af e7;simp only[Bool.and_eq_true,beq_iff_eq]at cw;exact fin hg ⟨[],.inr ⟨es,rfl⟩⟩ cw.1 cw.2 (ho.2 cw.1)
   |map _=>exact ho.elim
section
variable {ν:Nat->Nat} {P:Program} {k:Cx} {g:Gh}
theorem RA.int {v:Value} {kk:IntKind} {n:Int} (h:RA ν g v (.iv (.int kk n))):v = .int kk n:=by cases h with | iv h=>cases h;rfl
theorem RA.bool {v:Value} {b:Bool} (h:RA ν g v (.iv (.bool b))):v = .bool b:=by cases h with | iv h=>cases h;rfl
theorem RA.str {v:Value} {s:ByteArray} (h:RA ν g v (.iv (.str s))):v = .string s:=by cases h with | iv h=>cases h;rfl
theorem RA.bc {v:Value} (h:RA ν g v (.iv .bc)):v = .pointer none:=by cases h with | iv h=>cases h;rfl
theorem RA.ptr {v:Value} {cs:List IV} (h:RA ν g v (.iv (.ptr cs))):∃b off,v = .pointer (some ⟨b,off,none⟩):=by cases h with | iv h=>cases h;exact⟨_,_,rfl⟩
theorem mkInt {kk:IntKind} {n:Int}:RA ν g (.int kk n) (.iv (.int kk n)):=.iv (.int _ _)
theorem bK {b:Bool}:RA ν g (.bool b) (.iv (.bool b)):=.iv (.bool _)
theorem mkStr {s:ByteArray}:RA ν g (.string s) (.iv (.str s)):=.iv (.str _)
theorem j7 {t:TypeId} {sz off:Nat} {agg:Bool} (ht:fO P t sz agg=true) {vs:Array Value} {cs:List AV} (hv:RA ν g (.agg vs) (.agg cs)) (hl:((cs.drop off).take sz).length=sz)
  {r:AV} (hr:agg=true/\r = .agg ((cs.drop off).take sz)\/agg=false/\(cs.drop off).take sz=[r]) (w:World):∃v,(part t vs off).run P w = .ok v w/\RA ν g v r:=by
 obtain⟨d,i,hu,hi,ha,hs,h1⟩:=c8 ht;subst hs;cases hv with
 |agg hn ho fg=>
  have cK:off+i.size<=cs.length\/i.size=0:=by simp only[List.length_take,List.length_drop]at hl;omega
  rcases hr with⟨di,rfl⟩|⟨di,hr⟩
  ·have key:∀(j:Nat) (v:Value),(vs.extract off (off+i.size))[j]?=some v->vs[off+j]?=some v/\j<i.size:=by
    intro j v h;rw[Array.getElem?_extract]at h;split at h
    ·exact⟨h,by omega⟩
    ·cases h
   refine⟨.agg (vs.extract off (off+i.size)),by simp[part,cJ hu,ha,di,run_sizeOf hi],.agg (by simp only[Array.size_extract,hl];omega) (λj v h=>ho _ v (key j v h).1) λj v c h h2=>?_⟩;obtain⟨h',aT⟩:=key j v h;rw[List.getElem?_take,if_pos aT,List.getElem?_drop]at h2;exact fg _ v c h' h2
  ·have hz:i.size=1:=h1 di;have hc:cs[off]?=some r:=by
    have:((cs.drop off).take i.size)[0]?=some r:=by rw[hr];rfl
    rw[List.getElem?_take,if_pos (by omega),List.getElem?_drop]at this;simpa using this
   have aT:off<vs.size:=by omega
   refine⟨vs[off],by simp[part,cJ hu,ha,di,Array.getElem?_eq_getElem aT],fg off _ r (Array.getElem?_eq_getElem aT) hc⟩
theorem mR {agg:Bool} {off sz:Nat} {x y:AV} {h h':Hp} (e:(fk agg off sz x).run h=some (y,h')) :
  h'=h/\∃cs,x = .agg cs/\((cs.drop off).take sz).length=sz/\(agg=true/\y = .agg ((cs.drop off).take sz)\/agg=false/\(cs.drop off).take sz=[y]):=by
 unfold fk at e;split at e
 ·rename_i cs;obtain⟨hl,e2⟩:=M.aj e;obtain⟨rfl,hm⟩:=iB e2;exact⟨rfl,cs,rfl,by simpa using hl,hm⟩
 ·exact(ae e).elim
theorem RA.dP {v:Value} {cs:List AV} (h:RA ν g v (.agg cs)):∃vs,v = .agg vs:=by cases h;exact⟨_,rfl⟩
theorem tM (r:Rel ν k g) {s:TypeId} {f off sz:Nat} {agg:Bool} (ht:sf P s f agg off sz=true) {v:Value} {x y:AV} {h':Hp} (hv:RA ν g v x)
  (e:(fk agg off sz x).run g.h=some (y,h')):bf ν k g h' y ((Instr.field s v f).run P g.w):=by
 unfold sf at ht;split at ht
 ·rename_i fs hu;split at ht
  ·rename_i fd hf;simp only[Bool.and_eq_true,beq_iff_eq]at ht;obtain⟨rfl,ht⟩:=ht;obtain⟨rfl,cs,rfl,hl,hm⟩:=mR e;obtain⟨vs,rfl⟩:=hv.dP;obtain⟨u,dD,hR⟩:=j7 ht hv hl hm g.w;exact .same r (by simp[Instr.field,run_underlying hu,hf,asAgg,dD]) hR
  ·cases ht
 ·cases ht
theorem sg (r:Rel ν k g) {t:TypeId} {len e:Nat} {agg:Bool} (ht:py P t agg len e=true) {v u:Value} {x z y:AV} {h':Hp} (hv:RA ν g v x) (hu:RA ν g u z)
  (e':(eF agg len e x z).run g.h=some (y,h')):bf ν k g h' y ((Instr.index t v u).run P g.w):=by
 unfold py at ht;split at ht
 ·rename_i n el dD;simp only[Bool.and_eq_true,beq_iff_eq]at ht;obtain⟨rfl,ht⟩:=ht;obtain⟨m,h1,e1,e2⟩:=ag e';obtain⟨rfl,kk,rfl⟩:=dC e1;obtain rfl:=hu.int;obtain⟨hm,e4⟩:=M.aj e2;have dv:0<=m/\m<n:=by simpa using hm
  obtain⟨rfl,cs,rfl,hl,tN⟩:=mR e4;obtain⟨vs,rfl⟩:=hv.dP;obtain⟨d,i,_,hi,_,hs,_⟩:=c8 ht;obtain⟨u,zE,hR⟩:=j7 ht hv hl tN g.w;exact .same r (by simp[Instr.index,run_underlying dD,asIntOf,dv,run_sizeOf hi,hs,zE]) hR
 ·cases ht
theorem sh (r:Rel ν k g) {t:TypeId} (ht:P.underlying t=some .string) {v u:Value} {x z y:AV} {h':Hp} (hv:RA ν g v x) (hu:RA ν g u z)
  (e:(fH x z).run g.h=some (y,h')):bf ν k g h' y ((Instr.index t v u).run P g.w):=by
 unfold fH at e;split at e
 ·rename_i s kk n;obtain rfl:=hv.str;obtain rfl:=hu.int;obtain⟨hn,e2⟩:=M.aj e;have cZ:0<=n:=by simpa using hn
  split at e2
  ·rename_i b hb;obtain⟨rfl,rfl⟩:=af e2;exact .same r (by simp[Instr.index,run_underlying ht,asIntOf,cZ,hb]) mkInt
  ·exact(ae e2).elim
 ·exact(ae e).elim
theorem oo {op:BinOp} {t:TypeId} {kk k':IntKind} {a b:Int} {z:IV} (h:ew op kk k' a b=some z) (w:World) :
  ∃v,(binOp op t (.int kk a) (.int k' b)).run P w = .ok v w/\RI ν g.I g.w v z:=by
 cases op
 case shl=>
  simp only[ew]at h;split at h
  ·cases h
  ·rename_i hb;cases h;exact⟨_,by simp[binOp,Op.shift,hb],.int _ _⟩
 case shr=>
  simp only[ew]at h;split at h
  ·cases h
  ·rename_i hb;cases h;exact⟨_,by simp[binOp,Op.shift,hb],.int _ _⟩
 all_goals
  simp only[ew]at h;split at h
  case isFalse=>cases h
  rename_i hk;subst hk
 case quo=>
  split at h
  ·cases h
  ·rename_i hb;cases h;exact⟨_,by simp[binOp,Op.intDiv,hb],.int _ _⟩
 case rem=>
  split at h
  ·cases h
  ·rename_i hb;cases h;exact⟨_,by simp[binOp,Op.intDiv,hb],.int _ _⟩
 all_goals cases h
 case add | sub | mul=>exact⟨_,by simp[binOp,Op.intArith],.int _ _⟩
 case and | or | xor | andNot=>exact⟨_,by simp[binOp];rfl,.int _ _⟩
 all_goals exact⟨_,by simp[binOp,Op.intCmp],.bool _⟩
theorem oq {op:BinOp} {t:TypeId} {a b:ByteArray} {z:IV} (h:hY op a b=some z) (w:World) :
  ∃v,(binOp op t (.string a) (.string b)).run P w = .ok v w/\RI ν g.I g.w v z:=by
 cases op<;>simp only[hY]at h<;>(try cases h)
 case add=>
  split at h
  ·rename_i hb;cases h;refine⟨.string (a++b),?_,.str _⟩;have:¬(9223372036854775807:Int)<((a.size:Int)+b.size):=by omega
   simp[binOp,Op.stringOp,this]
  ·cases h
 all_goals exact⟨_,by simp[binOp,Op.stringOp,po,beq_toListBytes],.bool _⟩
theorem RA.Gz {v:Value} {f:Nat} {fs cs:List AV} (h:RA ν g v (.bp f fs cs)):∃f c1 c2,v = .func f c1 c2:=by cases h;exact⟨_,_,_,rfl⟩
theorem RA.Jh {v:Value} {f:Nat} {cs:List IV} (h:RA ν g v (.iv (.fn f cs))):∃f c1 c2,v = .func f c1 c2:=by cases h with | iv h=>cases h;exact⟨_,_,_,rfl⟩
def qA (P:Program) (t:TypeId) (q:Nat):Bool:=
 match q with
 |0=>true
 |1=>(match P.underlying t with | some .bool=>true | _=>false)
 |2=>(match P.underlying t with | some (.pointer el)=>(P.info? el).isSome | _=>false)
 |3=>(match P.underlying t with | some (.func _ _ _)=>true | _=>false)
 |_=>true
theorem tO (r:Rel ν k g) {op:BinOp} {t:TypeId} {q:Nat} (ht:qA P t q=true) {a b:Operand} {v u:Value} {x z:AV} {y:IV} (hv:RA ν g v x) (hu:RA ν g u z) (e:bin op q x z=some y) :
  bf ν k g g.h (.iv y) ((do eqGuard op t a b v u;binOp op t v u:Sem Value).run P g.w):=by
 unfold bin at e;split at e
 ·obtain rfl:=hv.int;obtain rfl:=hu.int;obtain⟨w',h1,h2⟩:=oo (ν:=ν) (P:=P) (g:=g) (t:=t) e g.w;exact .same r (by simp[eqGuard_at_int,h1]) (.iv h2)
 ·obtain rfl:=hv.str;obtain rfl:=hu.str;obtain⟨w',h1,h2⟩:=oq (ν:=ν) (P:=P) (g:=g) (t:=t) e g.w;exact .same r (by simp[eqGuard_at_string,h1]) (.iv h2)
 ·obtain rfl:=hv.bool;obtain rfl:=hu.bool;have dE:P.underlying t=some .bool:=by
   simp only[qA]at ht;split at ht
   ·assumption
   ·cases ht
  split at e
  ·cases e;exact .same r (by simp only[Sem.run_bind,eqGuard_at_bool,Sem.run_pure,Result.andThen_ok];exact run_eql_bool _ _ _ _ dE) bK
  ·cases e;refine .same r (v:=.bool (!_)) ?_ bK;simp only[Sem.run_bind,eqGuard_at_bool,Sem.run_pure,Result.andThen_ok,binOp];simp[run_equal_bool g.w t _ _ dE]
  ·cases e
 case h_10=>cases e
 case h_4 | h_5 | h_6=>
  have dE:∃el,P.underlying t=some (.pointer el):=by
   simp only[qA]at ht;split at ht
   ·exact⟨_,by assumption⟩
   ·cases ht
  obtain⟨el,dE⟩:=dE
  first
  |obtain rfl:=hv.bc
   obtain rfl:=hu.bc;have key:=iC (P:=P) (λd w=>ma d dE w) a b g.w;split at e
   ·cases e;exact .same r key.1 bK
   ·cases e;exact .same r key.2 bK
   ·cases e
  |obtain⟨b',off,rfl⟩:=hv.ptr
   obtain rfl:=hu.bc;have key:=iC (P:=P) (λd w=>jm d dE ⟨b',off,none⟩ w) a b g.w;split at e
   ·cases e;exact .same r key.1 bK
   ·cases e;exact .same r key.2 bK
   ·cases e
  |obtain rfl:=hv.bc
   obtain⟨b',off,rfl⟩:=hu.ptr;have key:=iC (P:=P) (λd w=>jn d dE ⟨b',off,none⟩ w) a b g.w;split at e
   ·cases e;exact .same r key.1 bK
   ·cases e;exact .same r key.2 bK
   ·cases e
 all_goals
  have dE:∃p1 p2 p3,P.underlying t=some (.func p1 p2 p3):=by
   simp only[qA]at ht;split at ht
   ·exact⟨_,_,_,by assumption⟩
   ·cases ht
  obtain⟨p1,p2,p3,dE⟩:=dE;have nn:∀(d:Nat) (w:World),(Op.equalIn (d+1) t .nilFunc .nilFunc).run P w = .ok true w:=λd w=>by simp[Op.equalIn,run_underlying dE]
  have fn:∀(f:Fn) (c1 c2:Array Value) (d:Nat) (w:World),(Op.equalIn (d+1) t (.func f c1 c2) .nilFunc).run P w = .ok false w:=λf c1 c2 d w=>by simp[Op.equalIn,run_underlying dE]
  have key:∀{c d:Value} {z:Bool},(∀(d':Nat) (w:World),(Op.equalIn (d'+1) t c d).run P w = .ok z w)->(eqGuard .eql t a b c d).run P g.w = .ok () g.w->(eqGuard .neq t a b c d).run P g.w = .ok () g.w->
    (binOp .eql t c d=(do pure (.bool (<-Op.equal t c d)):Sem Value))->(binOp .neq t c d=(do pure (.bool (!(<-Op.equal t c d))):Sem Value))->
    ((do eqGuard .eql t a b c d;binOp .eql t c d:Sem Value).run P g.w = .ok (.bool z) g.w)/\((do eqGuard .neq t a b c d;binOp .neq t c d:Sem Value).run P g.w = .ok (.bool (!z)) g.w):=by
   intro c d z h g1 g2 b1 b2;have h':(Op.equal t c d).run P g.w = .ok z g.w:=h 9999 g.w;constructor
   ·simp only[Sem.run_bind,g1,Result.andThen_ok,b1,h',Sem.run_pure]
   ·simp only[Sem.run_bind,g2,Result.andThen_ok,b2,h',Sem.run_pure]
  first
  |obtain rfl:v = .nilFunc:=by cases hv with | cG h=>exact h
   obtain rfl:u = .nilFunc:=by cases hu with | cG h=>exact h
   have key:=key nn (by simp[eqGuard]) (by simp[eqGuard]) rfl rfl;split at e
   ·cases e;exact .same r key.1 bK
   ·cases e;exact .same r key.2 bK
   ·cases e
  |obtain⟨f,c1,c2,rfl⟩:∃f c1 c2,v = .func f c1 c2:=hv.Gz
   obtain rfl:u = .nilFunc:=by cases hu with | cG h=>exact h
   have key:=key (fn f c1 c2) (by simp[eqGuard]) (by simp[eqGuard]) rfl rfl;split at e
   ·cases e;exact .same r key.1 bK
   ·cases e;exact .same r key.2 bK
   ·cases e
  |obtain⟨f,c1,c2,rfl⟩:∃f c1 c2,v = .func f c1 c2:=hv.Jh
   obtain rfl:u = .nilFunc:=by cases hu with | cG h=>exact h
   have key:=key (fn f c1 c2) (by simp[eqGuard]) (by simp[eqGuard]) rfl rfl;split at e
   ·cases e;exact .same r key.1 bK
   ·cases e;exact .same r key.2 bK
   ·cases e
theorem sJ {id ai i j:Nat} {ob:Ob} (hg:get g.h id=some ob) (hv:valid ob ai i=true) {v:Value} (h:aG g v id ai i j):∃b off,v = .pointer (some ⟨b,off,none⟩)/\∀v',aG g v' id ai i j->v'=v:=by
 unfold aG at h;rw[hg]at h;have key:∀v',aG g v' id ai i j->_:=λv' h'=>by unfold aG at h';rw[hg]at h';exact h'
 cases ob with
 |cells cs=>
  obtain⟨rfl,rfl,b,ah,rfl⟩:=h;refine⟨b,j,rfl,λv' h'=>?_⟩;obtain⟨_,_,b',aN,rfl⟩:=key v' h';rw[ah]at aN;cases aN;rfl
 |c7 cs=>
  obtain⟨rfl,rfl,b,ah,rfl⟩:=h;refine⟨b,j,rfl,λv' h'=>?_⟩;obtain⟨_,_,b',aN,rfl⟩:=key v' h';rw[ah]at aN;cases aN;rfl
 |buf v' e es=>
  have dm:v'=ai:=by simpa[valid]using hv
  obtain⟨b,ah,rfl⟩:=h.2 dm;refine⟨b,_,rfl,λv' h'=>?_⟩;obtain⟨b',aN,rfl⟩:=(key v' h').2 dm;rw[ah]at aN;cases aN;rfl
 |aZ v' e es=>
  have dm:v'=ai:=by simpa[valid]using hv
  obtain⟨b,ah,rfl⟩:=h.2 dm;refine⟨b,_,rfl,λv' h'=>?_⟩;obtain⟨b',aN,rfl⟩:=(key v' h').2 dm;rw[ah]at aN;cases aN;rfl
 |map _=>simp[valid]at hv
theorem qB (d:Nat) {t el:TypeId} {i:TypeInfo} (h:P.underlying t=some (.pointer el)) (hi:P.info? el=some i) (b off:Nat) (w:World):(Op.equalIn (d+1) t (.pointer (some ⟨b,off,none⟩)) (.pointer (some ⟨b,off,none⟩))).run P w = .ok true w:=by
 simp[Op.equalIn,run_underlying h,run_sizeOf hi,sameAddr]
theorem Bo (r:Rel ν k g) {op:BinOp} {t:TypeId} {q:Nat} (ht:qA P t q=true) {a b:Operand} {v u:Value} {x z y:AV} {h':Hp} (hv:RA ν g v x) (hu:RA ν g u z) (e:(nL op q x z).run g.h=some (y,h')) :
  bf ν k g h' y ((do eqGuard op t a b v u;binOp op t v u:Sem Value).run P g.w):=by
 have tp:q=2->∃el i,P.underlying t=some (.pointer el)/\P.info? el=some i:=by
  rintro rfl;simp only[qA]at ht;split at ht
  ·obtain⟨i,hi⟩:=Option.isSome_iff_exists.1 ht;exact⟨_,i,by assumption,hi⟩
  ·cases ht
 unfold nL at e;split at e
 ·obtain⟨el,ii,dE,oy⟩:=tp rfl;obtain⟨ob,hg,e2⟩:=M.aM e;obtain⟨cc,e4⟩:=M.aj e2;obtain rfl:=hu.bc;cases hv with
  |ref _ hr=>
   obtain⟨b',off,rfl, -⟩:=sJ hg cc hr;have key:=iC (P:=P) (λd w=>jm d dE ⟨b',off,none⟩ w) a b g.w;split at e4
   ·obtain⟨rfl,rfl⟩:=af e4;exact .same r key.1 bK
   ·obtain⟨rfl,rfl⟩:=af e4;exact .same r key.2 bK
   ·exact(ae e4).elim
 ·obtain⟨el,ii,dE,oy⟩:=tp rfl;obtain⟨ob,hg,e2⟩:=M.aM e;obtain⟨cc,e4⟩:=M.aj e2;obtain rfl:=hv.bc;cases hu with
  |ref _ hr=>
   obtain⟨b',off,rfl, -⟩:=sJ hg cc hr;have key:=iC (P:=P) (λd w=>jn d dE ⟨b',off,none⟩ w) a b g.w;split at e4
   ·obtain⟨rfl,rfl⟩:=af e4;exact .same r key.1 bK
   ·obtain⟨rfl,rfl⟩:=af e4;exact .same r key.2 bK
   ·exact(ae e4).elim
 ·rename_i id ai i j bW CP i' j';obtain⟨el,ii,dE,oy⟩:=tp rfl;obtain⟨ob,hg,e2⟩:=M.aM e;obtain⟨cc,e4⟩:=M.aj e2;simp only[Bool.and_eq_true,beq_iff_eq]at cc;obtain⟨⟨⟨⟨cc,rfl⟩,rfl⟩,rfl⟩,rfl⟩:=cc;cases hv with
  |ref _ hr=>
   obtain⟨b',off,rfl,xe⟩:=sJ hg cc hr;cases hu with
   |ref _ gp=>
    obtain rfl:=xe _ gp;have key:=iC (P:=P) (λd w=>qB d dE oy b' off w) a b g.w;split at e4
    ·obtain⟨rfl,rfl⟩:=af e4;exact .same r key.1 bK
    ·obtain⟨rfl,rfl⟩:=af e4;exact .same r key.2 bK
    ·exact(ae e4).elim
 ·obtain⟨y',hb,e2⟩:=M.lift_bind e;obtain⟨rfl,rfl⟩:=af e2;exact tO r ht hv hu hb
theorem lp {q:Nat} {t:TypeId} {x y:AV} {b:Bool} (e:jv q x y=some b) (ht:du q (P.underlying t)=true) {v u:Value} (hv:RA ν g v x) (hu:RA ν g u y) (d:Nat) (w:World) :
  (Op.equalIn (d+1) t v u).run P w = .ok b w:=by
 unfold jv at e;split at e
 ·obtain rfl:=hv.int;obtain rfl:=hu.int;obtain⟨kk,h1⟩:=nw ht;simp only[Option.ite_none_right_eq_some,Option.some.injEq]at e;obtain⟨hk,rfl⟩:=e;subst hk;exact run_equalIn_int w d t _ _ _ _ h1
 ·cases e;obtain rfl:=hv.bool;obtain rfl:=hu.bool;exact run_equalIn_bool w d t _ _ (mb ht)
 ·cases e;obtain rfl:=hv.str;obtain rfl:=hu.str;rw[run_equalIn_string w d t _ _ (ny ht),beq_toListBytes]
 ·cases e
theorem RA.dQ {vs:Array Value} {cs:List AV} (h:RA ν g (.agg vs) (.agg cs)) (j:Nat) (c:AV) (hc:cs[j]?=some c):∃v,vs[j]?=some v/\RA ν g v c:=by
 cases h with
 |agg hn _ hr=>
  have hj:j<cs.length:=by
   rcases Nat.lt_or_ge j cs.length with h' | h'
   ·exact h'
   ·rw[List.getElem?_eq_none h']at hc;cases hc
  exact⟨vs[j],Array.getElem?_eq_getElem (by omega),hr j _ c (Array.getElem?_eq_getElem (by omega)) hc⟩
theorem wV (r:Rel ν k g) {op:UnOp} {v:Value} {x:AV} {y:IV} (hv:RA ν g v x) (e:un op x=some y):bf ν k g g.h (.iv y) ((Op.unary op v).run P g.w):=by
 unfold un at e;split at e
 ·obtain rfl:=hv.int;split at e
  ·cases e;exact .same r (by simp[Op.unary,Op.intArith]) mkInt
  ·cases e;exact .same r (v:=.int _ _) (by simp only[Op.unary,intBits_xor];rfl) mkInt
  ·cases e
 ·obtain rfl:=hv.bool;split at e
  ·cases e;exact .same r (by simp[Op.unary]) bK
  ·cases e
 ·cases e
theorem tQ (r:Rel ν k g) {s d:TypeId} {kk:IntKind} (ht:si P s d kk=true) {v:Value} {x:AV} {n:Int} {h':Hp} (hv:RA ν g v x) (e:(idx x).run g.h=some (n,h')) :
  bf ν k g g.h (.iv (.int kk (kk.wrap n))) ((convert s d v).run P g.w):=by
 obtain⟨_,k',rfl⟩:=dC e;obtain rfl:=hv.int;unfold si at ht;simp only[Bool.and_eq_true]at ht;obtain⟨h1,h2⟩:=ht;obtain⟨sd,hs⟩:=Option.isSome_iff_exists.1 h1;split at h2
 ·rename_i yg hd;have:yg=kk:=by simpa using h2
  subst this;exact .same r (by simp[convert,run_underlying hs,run_underlying hd,Conv.intToInt]) mkInt
 ·cases h2
theorem tR (r:Rel ν k g) {s d:TypeId} (hs:P.underlying s=some .string) (hd:P.underlying d=some .string) {v:Value} {t:ByteArray} (hv:RA ν g v (.iv (.str t))) :
  bf ν k g g.h (.iv (.str t)) ((convert s d v).run P g.w):=by
 obtain rfl:=hv.str;exact .same r (by simp[convert,run_underlying hs,run_underlying hd]) mkStr
end
end aB

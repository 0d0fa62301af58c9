/-
  A part of the proof: two abstract machines for the code, and what the program does on them. No condition.
-/
import Derived.Test.YtolpagjajaknbaaGreatArbA
set_option linter.all false
namespace ao
open Go Go.RowKit
section
variable {ν:Nat->Nat} {P:Program} {k:Cx} {g:Gh}
theorem bE {o:Oper} {a:Act} {h':Hp} {y:AV} {s:Sem Value} (hx:execOp a.eval o=(do pure (.value (<-s)):Sem Next)) (d:dj ν k g h' y (s.run P g.w)) {next:Act->World->Prop} {Q:Exit->Act->World->Prop}
  (hn:∀g' v,g'.h=h'->Rel ν k g'->bY ν g g'->RA ν g' v y->next (a.put o.dst v) g'.w):o.wp P a g.w next Q:=by
 obtain⟨g',v,hr,hh,r',m,hR⟩:=d;unfold Oper.wp;rw[hx];simp only[Sem.run_bind,hr,Result.andThen_ok,Sem.run_pure];exact hn g' v hh r' m hR
theorem nH {o:Oper} {a:Act} {h':Hp} {y:AV} {fo:Operand} {bP:Array Operand} {jv:Array TypeId} (ho:o.op = .call { callee:=.value fo,args:=bP,argTypes:=jv })
  (d:ll ν P k g h' y (a.eval fo) (bP.map a.eval)) {next:Act->World->Prop} {Q:Exit->Act->World->Prop}
  (hn:∀g' v,g'.h=h'->Rel ν k g'->bY ν g g'->RA ν g' v y->next (a.put o.dst v) g'.w):o.wp P a g.w next Q:=by
 obtain⟨q,caps,fn,hf,iw,hb,Al,hc⟩:=d;unfold Oper.wp;rw[wv ho hf iw hb Al];rw[Oper.upon_enter];refine hc.mono ?_;rintro e w' ⟨v,g',rfl,rfl,hh,r',m,hR⟩;exact hn g' v hh r' m hR
theorem kL {a:Act} {fr:Fr} (hf:jB ν g a.tmps fr) {xs:Array Operand} {ys:List bf} (h:gP ν xs.toList ys=true):RL ν g (xs.map a.eval).toList (ys.map (ev fr)):=by
 obtain⟨h1,h2⟩:=rL hf h;exact⟨by simpa using h1,λj v x hv hx=>h2 j v x (by simpa using hv) hx⟩
theorem rQ {a:Act} {fr:Fr} (hf:jB ν g a.tmps fr):∀{ps:List (Nat×Operand)} {qs:List (Nat×bf)},kK ν ps qs=true->
  (ps.map λp=>(p.1,a.eval p.2)).length=(qs.map λp=>(p.1,ev fr p.2)).length/\
  ∀(j:Nat) (q:Nat×Value) (p:Nat×AV),(ps.map λp=>(p.1,a.eval p.2))[j]?=some q->(qs.map λp=>(p.1,ev fr p.2))[j]?=some p->q.1=p.1/\RA ν g q.2 p.2
 |[],[],_=>⟨rfl,λj v x h=>by simp at h⟩
 |x::xs,y::ys,h=>by
  simp only[kK,Bool.and_eq_true,beq_iff_eq]at h;obtain⟨h1,h2⟩:=rQ hf h.2;refine⟨by simpa using h1,λj v z hv hz=>?_⟩;cases j with
  |zero=>simp at hv hz;subst hv hz;exact⟨h.1.1,aY hf h.1.2⟩
  |succ j=>exact h2 j v z (by simpa using hv) (by simpa using hz)
 |[],_::_,h=>by simp[kK]at h
 |_::_,[],h=>by simp[kK]at h
set_option maxHeartbeats 4000000 in
theorem Jj {call:Nat->List AV->Hp->Option (AV×Hp)} (hs:cR ν P call) {o:Oper} {a:Act} {fr:Fr} {io:jt} {slot:Nat} (hc:Ah P ν o.op io=true) (r:Rel ν k g) (hf:jB ν g a.tmps fr) {y:AV} {h':Hp}
  (e:(bp call slot (ev fr) io).run g.h=some (y,h')) {next:Act->World->Prop} {Q:Exit->Act->World->Prop}
  (hn:∀g' v,g'.h=h'->Rel ν k g'->bY ν g g'->RA ν g' v y->next (a.put o.dst v) g'.w):o.wp P a g.w next Q:=by
 unfold Ah at hc;split at hc
 case h_1 y'=>
  obtain⟨rfl,rfl⟩:=ai e;split at hc
  ·rename_i x ho;exact bE (s:=pure (a.eval x)) (by simp[execOp,ho]) (.same r rfl (aY hf hc)) hn
  ·rename_i x ho;exact bE (s:=pure (a.eval x)) (by simp[execOp,ho]) (.same r rfl (aY hf hc)) hn
  ·cases hc
 case h_2=>
  split at hc
  ·rename_i ho;exact bE (s:=pure (.slice none 0 0)) (by simp[execOp,ho,Act.eval]) (Hc (a:=none) r e) hn
  ·rename_i ho;exact bE (s:=pure (.slice none 0 0)) (by simp[execOp,ho,Act.eval]) (Hc (a:=none) r e) hn
  ·cases hc
 case h_3=>
  split at hc
  case h_2=>cases hc
  rename_i c x z ho;simp only[Bool.and_eq_true]at hc;simp only[bp]at e;split at e
  case h_2=>exact(ah e).elim
  rename_i t ht;obtain⟨rfl,rfl⟩:=ai e;have h1:=aY hf hc.1.1;rw[ht]at h1;have hb:=h1.bool;refine bE (s:=do pure (if <-asBool (a.eval c) then a.eval x else a.eval z)) (by simp[execOp,ho]) (.same r (v:=if t then a.eval x else a.eval z) (by simp[hb,asBool]) ?_) hn;cases t
  ·exact aY hf hc.2
  ·exact aY hf hc.1.2
 case h_4=>
  split at hc
  case h_2=>cases hc
  rename_i t ho;exact bE (s:=Instr.alloc t true (.tuple #[])) (by simp[execOp,ho]) (wb r hc e) hn
 case h_5=>
  split at hc
  case h_2=>cases hc
  rename_i t x ho;exact bE (s:=Instr.box t (a.eval x)) (by simp[execOp,ho]) (D3 r (aY hf hc) e) hn
 case h_6=>
  split at hc
  case h_2=>cases hc
  rename_i t ps ho;simp only[Bool.and_eq_true]at hc;obtain⟨hz,hc⟩:=hc;split at hc
  case h_2=>cases hc
  rename_i pl ma;exact bE (s:=Instr.build t (ps.map fun(i,x)=>(i,a.eval x))) (by simp[execOp,ho]) (yU r hf hz ma hc e) hn
 case h_7 e0 z n' qs=>
  split at hc
  case h_2=>cases hc
  rename_i t n ps ho;simp only[Bool.and_eq_true,beq_iff_eq]at hc;obtain⟨⟨rfl,hb⟩,hq⟩:=hc;obtain⟨hl,hp⟩:=rQ hf hq;refine bE (s:=Instr.buildSlice t n (ps.toList.map λp=>(p.1,a.eval p.2)).toArray) (by
   have:(ps.map fun(p:Nat×Operand)=>(p.1,a.eval p.2))=(ps.toList.map λp=>(p.1,a.eval p.2)).toArray:=by apply Array.ext';simp
   simp only[execOp,ho];rw[<-this]) (D8 (slot:=slot) r hb hl hp ?_) hn
  rw[M.rI];exact e
 case h_8=>
  split at hc
  case h_2=>cases hc
  rename_i t x ho;simp only[Bool.and_eq_true]at hc;exact bE (s:=Instr.loadAt t (a.eval x)) (by simp[execOp,ho]) (BD r hc.1 (aY hf hc.2) e) hn
 case h_9=>
  split at hc
  case h_2=>cases hc
  rename_i t x z ho;simp only[Bool.and_eq_true]at hc;obtain⟨g',cP,rfl,hh,r',m⟩:=yR r hc.1.1 (aY hf hc.1.2) (aY hf hc.2) e;unfold Oper.wp;have hx:(execOp a.eval o).run P g.w = .ok .skip g'.w:=by simp[execOp,ho,cP]
  rw[hx];exact hn g' undef hh r' m (.bD rfl λj v c h=>by simp at h)
 case h_10=>
  split at hc
  case h_2=>cases hc
  rename_i t x f ho;simp only[Bool.and_eq_true]at hc;exact bE (s:=Instr.fieldAt t (a.eval x) f) (by simp[execOp,ho]) (BE r hc.1 (aY hf hc.2) e) hn
 case h_11=>cases hc
 case h_12=>
  split at hc
  case h_2=>cases hc
  rename_i t x z ho;simp only[Bool.and_eq_true]at hc;exact bE (s:=Instr.indexAt t (a.eval x) (a.eval z)) (by simp[execOp,ho]) (QG r hc.1.1 (aY hf hc.1.2) (aY hf hc.2) e) hn
 case h_13=>
  split at hc
  case h_2=>cases hc
  rename_i t x z ho;simp only[Bool.and_eq_true]at hc;exact bE (s:=Instr.indexAt t (a.eval x) (a.eval z)) (by simp[execOp,ho]) (DW r hc.1.1 (aY hf hc.1.2) (aY hf hc.2) e) hn
 case h_14=>
  split at hc
  case h_2=>cases hc
  rename_i t x z ho;simp only[Bool.and_eq_true]at hc;exact bE (s:=Instr.index t (a.eval x) (a.eval z)) (by simp[execOp,ho]) (QJ r hc.1.1 (aY hf hc.1.2) (aY hf hc.2) e) hn
 case h_15=>
  split at hc
  case h_2=>cases hc
  rename_i t x z ho;simp only[Bool.and_eq_true]at hc;exact bE (s:=Instr.index t (a.eval x) (a.eval z)) (by simp[execOp,ho]) (QK r (Af hc.1.1) (aY hf hc.1.2) (aY hf hc.2) e) hn
 case h_16 bo q x' y'=>
  split at hc
  case h_2=>cases hc
  rename_i b t x z yt ho;simp only[Bool.and_eq_true,beq_iff_eq]at hc;obtain⟨⟨⟨rfl,hq⟩,hx⟩,hz⟩:=hc;obtain⟨w',hb,e2⟩:=M.lift_bind e;obtain⟨rfl,rfl⟩:=ai e2;exact bE (s:=do eqGuard b t x z (a.eval x) (a.eval z);binOp b t (a.eval x) (a.eval z)) (by simp[execOp,ho]) (DX r hq (aY hf hx) (aY hf hz) hb) hn
 case h_17 neg qs x' y'=>
  split at hc
  case h_2=>cases hc
  rename_i b t x z yt ho;simp only[Bool.and_eq_true,beq_iff_eq]at hc;obtain⟨⟨⟨rfl,hq⟩,hx⟩,hz⟩:=hc;simp only[bp]at e;split at e
  case h_2=>exact(ah e).elim
  rename_i xs ys Cq tC;obtain⟨w',hb,e2⟩:=M.lift_bind e;obtain⟨rfl,rfl⟩:=ai e2;have h1:=aY hf hx;have h2:=aY hf hz;rw[Cq]at h1;rw[tC]at h2;exact bE (s:=do eqGuard (if neg then .neq else .eql) t x z (a.eval x) (a.eval z);binOp (if neg then .neq else .eql) t (a.eval x) (a.eval z)) (by simp[execOp,ho]) (Sq r hq neg h1 h2 hb) hn
 case h_18 uo x'=>
  split at hc
  case h_2=>cases hc
  rename_i u t x ho;simp only[Bool.and_eq_true,beq_iff_eq]at hc;obtain⟨rfl,hx⟩:=hc;obtain⟨w',hb,e2⟩:=M.lift_bind e;obtain⟨rfl,rfl⟩:=ai e2;exact bE (s:=Op.unary u (a.eval x)) (by simp[execOp,ho]) (I9 r (aY hf hx) hb) hn
 case h_19=>
  split at hc
  case h_2=>cases hc
  rename_i s d x ho;simp only[Bool.and_eq_true]at hc;obtain⟨n,h1,e1,e2⟩:=aw e;have hh:=(ki e1).1;subst hh;obtain⟨rfl,rfl⟩:=ai e2;exact bE (s:=convert s d (a.eval x)) (by simp[execOp,ho]) (DZ r hc.1 (aY hf hc.2) e1) hn
 case h_20=>cases hc
 case h_21=>
  split at hc
  case h_2=>cases hc
  rename_i t x lo hi ho;simp only[Bool.and_eq_true]at hc;exact bE (s:=Instr.sliceAt t (a.eval x) (lo.map a.eval) (hi.map a.eval) none) (by simp[execOp,ho]) (D0 r hc.1.1.1 (aY hf hc.1.1.2) (rM hf hc.1.2) (rM hf hc.2) e) hn
 case h_22=>cases hc
 case h_23=>cases hc
 case h_24=>
  split at hc
  case h_2=>cases hc
  rename_i args jv ho;split at hc
  case h_2=>cases hc
  rename_i x t hx ht;obtain rfl:args=#[x]:=Array.ext' hx;obtain rfl:jv=#[t]:=Array.ext' ht;simp only[Bool.and_eq_true]at hc;exact bE (s:=Builtin.clear_ #[t] o.type #[a.eval x]) (by simp[execOp,ho,resolve,invoke,builtin]) (SB r hc.1 (aY hf hc.2) e) hn
 case h_25=>
  split at hc
  case h_2=>cases hc
  rename_i args jv ho;split at hc
  case h_2=>cases hc
  rename_i x t hx ht;obtain rfl:args=#[x]:=Array.ext' hx;obtain rfl:jv=#[t]:=Array.ext' ht;simp only[Bool.and_eq_true]at hc;exact bE (s:=Builtin.len_ #[t] o.type #[a.eval x]) (by simp[execOp,ho,resolve,invoke,builtin]) (D2 r hc.1 (aY hf hc.2) e) hn
 case h_26=>
  split at hc
  case h_2=>cases hc
  rename_i args jv ho;split at hc
  case h_2=>cases hc
  rename_i x z t u hx ht;obtain rfl:args=#[x,z]:=Array.ext' hx;obtain rfl:jv=#[t,u]:=Array.ext' ht;simp only[Bool.and_eq_true]at hc;exact bE (s:=Builtin.append_ #[t,u] o.type #[a.eval x,a.eval z]) (by simp[execOp,ho,resolve,invoke,builtin]) (D9 r hc.1.1 (aY hf hc.1.2) (aY hf hc.2) e) hn
 case h_27 x' ys=>
  split at hc
  case h_2=>cases hc
  rename_i args jv ho;have hR:=kL hf hc;simp only[bp]at e;split at e
  case h_2=>exact(ah e).elim
  rename_i kk n hx;obtain⟨z,hz,e2⟩:=M.lift_bind e;obtain⟨rfl,rfl⟩:=ai e2;simp only[List.map_cons]at hR;generalize kV:(args.map a.eval).toList=vs at hR;cases vs with
  |nil=>have:=hR.1;simp at this
  |cons v vs=>
   have h0:=hR.tail.1;rw[hx]at h0;obtain rfl:=h0.int;have cP:=Ja P g.w (ys.map (ev fr)) vs n kk z hz hR.tail.2.1 hR.tail.2.2;exact bE (s:=Builtin.min_ jv o.type (args.map a.eval)) (by simp[execOp,ho,resolve,invoke,builtin]) (.same r (v:=.int kk z) (by simp only[Builtin.min_,kV];exact cP) mkInt) hn
 case h_28 x' ys=>
  split at hc
  case h_2=>cases hc
  rename_i args jv ho;have hR:=kL hf hc;simp only[bp]at e;split at e
  case h_2=>exact(ah e).elim
  rename_i kk n hx;obtain⟨z,hz,e2⟩:=M.lift_bind e;obtain⟨rfl,rfl⟩:=ai e2;simp only[List.map_cons]at hR;generalize kV:(args.map a.eval).toList=vs at hR;cases vs with
  |nil=>have:=hR.1;simp at this
  |cons v vs=>
   have h0:=hR.tail.1;rw[hx]at h0;obtain rfl:=h0.int;have cP:=Jb P g.w (ys.map (ev fr)) vs n kk z hz hR.tail.2.1 hR.tail.2.2;exact bE (s:=Builtin.max_ jv o.type (args.map a.eval)) (by simp[execOp,ho,resolve,invoke,builtin]) (.same r (v:=.int kk z) (by simp only[Builtin.max_,kV];exact cP) mkInt) hn
 case h_29 x' i'=>
  split at hc
  case h_2=>cases hc
  rename_i x i ho;simp only[Bool.and_eq_true,beq_iff_eq]at hc;obtain⟨rfl,hx⟩:=hc;simp only[bp]at e;split at e
  case h_2=>exact(ah e).elim
  rename_i vs kV;obtain⟨hy,rfl⟩:=gN e;have h1:=aY hf hx;rw[kV]at h1;obtain⟨us,SQ,fD,jY⟩:∃us,a.eval x = .tuple us/\us.size=vs.length/\∀(j:Nat) (v:Value) (c:AV),us[j]?=some v->vs[j]?=some c->RA ν g v c:=by
   generalize a.eval x=vv at h1;cases h1 with | bD h1 h2=>exact⟨_,rfl,h1,h2⟩
  have bC:=bg hy;have hu:us[i]?=some us[i]:=Array.getElem?_eq_getElem (by omega);exact bE (s:=Instr.extract (a.eval x) i) (by simp[execOp,ho]) (.same r (v:=us[i]) (by simp[SQ,Instr.extract,hu]) (jY i _ _ hu hy)) hn
 case h_30=>
  split at hc
  case h_2=>cases hc
  rename_i x ho;have h1:=aY hf hc;simp only[bp]at e;split at e
  ·rename_i id aC i j hx;rw[hx]at h1;obtain⟨ob,hg,e2⟩:=M.cf e;obtain⟨iI,e4⟩:=M.aL e2;obtain⟨rfl,rfl⟩:=ai e4;have hr:bA g (a.eval x) id aC i j:=by
    generalize a.eval x=vv at h1;cases h1 with | ref _ hr=>exact hr
   obtain⟨b,off,hv, -⟩:=hr.move hg iI 0;refine bE (s:=pure (a.eval x)) ?_ (.same r rfl h1) hn;simp[execOp,ho,hv]
  ·rename_i cs hx;rw[hx]at h1;obtain⟨rfl,rfl⟩:=ai e;obtain⟨b,off,hv⟩:=h1.ptr;refine bE (s:=pure (a.eval x)) ?_ (.same r rfl h1) hn;simp[execOp,ho,hv]
  ·rename_i f cs hx;rw[hx]at h1;obtain⟨rfl,rfl⟩:=ai e;have hv:∃caps,a.eval x = .func (.func (ν f)) #[] caps:=by
    generalize a.eval x=v at h1;cases h1 with | iv h=>cases h with | fn f caps cs h1 h2=>exact⟨caps,rfl⟩
   obtain⟨caps,hv⟩:=hv;refine bE (s:=pure (a.eval x)) ?_ (.same r rfl h1) hn;simp[execOp,ho,hv]
  ·rename_i f cs hx;rw[hx]at h1;obtain⟨rfl,rfl⟩:=ai e;have hv:∃caps,a.eval x = .func (.func (ν f)) #[] caps:=by
    generalize a.eval x=v at h1;cases h1 with | dg h1 h2=>exact⟨_,rfl⟩
   obtain⟨caps,hv⟩:=hv;refine bE (s:=pure (a.eval x)) ?_ (.same r rfl h1) hn;simp[execOp,ho,hv]
  ·exact(ah e).elim
 case h_31 f' Ai=>
  split at hc
  case h_2=>cases hc
  rename_i f first caps ho
  simp only[Bool.and_eq_true,beq_iff_eq]at hc;obtain⟨⟨rfl,om⟩,j3⟩:=hc;obtain⟨rfl,rfl⟩:=ai e;have hR:=kL hf j3;have Lu:first=#[]:=by simpa using om
  subst Lu;refine bE (s:=Instr.makeFunc (.func (ν f')) (Array.map a.eval #[]) (caps.map a.eval)) (by simp[execOp,ho]) (.same r (v:=.func (.func (ν f')) #[] (caps.map a.eval)) (by simp[Instr.makeFunc]) ?_) hn;exact .dg (by have:=hR.1;simpa using this) λj v c h1 h2=>hR.2 j v c (by simpa using h1) h2
 case h_32 mode f' pG=>
  split at hc
  case h_2=>cases hc
  rename_i fo bP jv ho;simp only[Bool.and_eq_true]at hc;have wy:=aY hf hc.1;have hR:=kL hf hc.2;simp only[bp]at e;split at e
  ·exact nH ho (yW hs r e wy hR) hn
  ·exact nH ho (Ls hs r e wy hR) hn
  ·exact nH ho (Lq hs r e wy hR) hn
  ·exact(ah e).elim
  ·exact nH ho (wx hs r e wy hR) hn
 case h_33 x'=>
  split at hc
  case h_2=>cases hc
  rename_i s d x ho;simp only[Bool.and_eq_true]at hc;exact bE (s:=convert s d (a.eval x)) (by simp[execOp,ho]) (SH r hc.1.1 hc.1.2 (aY hf hc.2) e) hn
 case h_34=>cases hc
 case h_35=>cases hc
 case h_36=>cases hc
 case h_37=>cases hc
 case h_38=>cases hc
end
end ao
namespace ao
open Go
def GE {α:Type} (h h':List (Nat×α)):Prop:=∀n,get h n=get h' n
theorem GE.refl {α:Type} (h:List (Nat×α)):GE h h:=λ_=>rfl
theorem GE.symm {α:Type} {h h':List (Nat×α)} (e:GE h h'):GE h' h:=λn=>(e n).symm
theorem GE.trans {α:Type} {a b c:List (Nat×α)} (e:GE a b) (f:GE b c):GE a c:=λn=>(e n).trans (f n)
theorem GE.set {α:Type} {h h':List (Nat×α)} (e:GE h h') (n:Nat) (x:α):GE (set h n x) (set h' n x):=λm=>by simp[bU,e m]
theorem M.frame {α:Type}:∀(m:M α) (h h' h1:Hp) (a:α),m.run h=some (a,h1)->(∀n ∈ (m.bN h).1,ao.get h n=ao.get h' n)->
  ∃sB,m.run h'=some (a,sB)/\m.bN h'=m.bN h/\(∀n ∈ (m.bN h).2,ao.get sB n=ao.get h1 n)/\∀n,n ∉ (m.bN h).2->ao.get sB n=ao.get h' n/\ao.get h1 n=ao.get h n
 |.ret x,h,h',h1,a,e,_=>by
  simp only[M.run,Option.some.injEq,Prod.mk.injEq]at e;obtain⟨rfl,rfl⟩:=e;exact⟨h',rfl,rfl,λn hn=>by simp[M.bN]at hn,λn _=>⟨rfl,rfl⟩⟩
 |.fail,h,h',h1,a,e,_=>by simp[M.run]at e
 |.get id k,h,h',h1,a,e,hr=>by
  simp only[M.run]at e;simp only[M.bN,List.mem_cons]at hr ⊢;have cV:=hr id (.inl rfl);obtain⟨sB,e1,e2,e3,e4⟩:=M.frame (k (ao.get h id)) h h' h1 a e λn hn=>hr n (.inr hn)
  refine⟨sB,?_,?_,e3,e4⟩
  ·simp only[M.run,<-cV];exact e1
  ·simp only[<-cV];rw[e2]
 |.put id o k,h,h',h1,a,e,hr=>by
  simp only[M.run]at e;simp only[M.bN,List.mem_append,List.mem_singleton,not_or]at hr ⊢;obtain⟨sB,e1,e2,e3,e4⟩:=M.frame k (ao.set h id o) (ao.set h' id o) h1 a e λn hn=>by simp[bU,hr n hn]
  refine⟨sB,e1,by rw[e2],?_,?_⟩
  ·rintro n (hn | rfl)
   ·exact e3 n hn
   ·by_cases eV:n ∈ (k.bN (ao.set h n o)).2
    ·exact e3 n eV
    ·obtain⟨a1,a2⟩:=e4 n eV;rw[a1,a2];simp[bU]
  ·intro n hn;obtain⟨a1,a2⟩:=e4 n hn.1;have cA:id≠n:=λh=>hn.2 h.symm
   exact⟨by rw[a1];simp[bU,cA],by rw[a2];simp[bU,cA]⟩
def eb:bf->List Nat
 |.t n=>[n]
 |.c _=>[]
def nz:Option bf->List Nat
 |some x=>eb x
 |none=>[]
def kE:List bf->List Nat
 |[]=>[]
 |x::r=>eb x++kE r
def mJ {α:Type} (f:α->bf):List α->List Nat
 |[]=>[]
 |x::r=>eb (f x)++mJ f r
def lG:jt->List Nat
 |.eM x | .box x | .di _ x | .ep _ _ _ x | .un _ x | .tt _ x | .Cf x | .Cg x | .tu _ x | .qG _ _ x | .len _ x | .ext x _ | .oY x | .load _ _ x=>eb x
 |.Iv _ | .alloc _ | .Ch=>[]
 |.yN x=>eb x
 |.jb _ _ _ _ x y | .nk _ x y=>eb x++eb y
 |.kh _ x y z=>eb x++(eb y++eb z)
 |.pick c a b=>eb c++(eb a++eb b)
 |.build _ ps=>mJ (λp=>p.2.2) ps
 |.qF _ _ _ ps=>mJ (λp=>p.2) ps
 |.store _ x y | .dn _ _ x y | .dQ _ x y | .dB _ _ _ x y | .jN x y | .bin _ _ x y | .sj _ _ x y | .app _ x y=>eb x++eb y
 |.eu _ x lo hi | .nj x lo hi=>eb x++(nz lo++nz hi)
 |.mn x ys | .mx x ys=>eb x++kE ys
 |.sk _ cs=>kE cs
 |.call _ f U=>eb f++kE U
def ji (o:aJ):List Nat:=lG o.op++(match o.gd with | some (t,_)=>[t] | none=>[])
theorem gE {ρ kM:bf->AV}:∀{l:List bf},(∀x:bf,(∀n ∈ eb x,n ∈ kE l)->ρ x=kM x)->l.map ρ=l.map kM
 |[],_=>rfl
 |x::r,h=>by
  simp only[List.map_cons,h x λn hn=>by simp[kE,hn]];rw[gE (l:=r) λy hy=>h y λn hn=>by simp[kE,hy n hn]]
theorem mb {α β:Type} {f:α->bf} {ρ kM:bf->AV} {F:α->AV->M β}:∀{l:List α},(∀x:bf,(∀n ∈ eb x,n ∈ mJ f l)->ρ x=kM x)->
  M.aG (λp=>F p (ρ (f p))) l=M.aG (λp=>F p (kM (f p))) l
 |[],_=>rfl
 |x::r,h=>by
  simp only[M.aG];rw[h (f x) λn hn=>by simp[mJ,hn],mb (l:=r) λy hy=>h y λn hn=>by simp[mJ,hy n hn]]
theorem uC {call:Nat->List AV->Hp->Option (AV×Hp)} {slot:Nat} {ρ kM:bf->AV} {op:jt} (h:∀x:bf,(∀n ∈ eb x,n ∈ lG op)->ρ x=kM x):bp call slot ρ op=bp call slot kM op:=by
 cases op<;>simp only[lG]at h<;>simp only[bp]
 case pick c a b=>rw[h c λn hn=>by simp[hn],h a λn hn=>by simp[hn],h b λn hn=>by simp[hn]]
 case build z ps=>rw[mb (F:=λp v=>(bh v).bind λl=>(M.ok (l.length==p.2.1&&Nat.ble (p.1+p.2.1) z.length)).bind λ_=>.ret (p.1,l)) h]
 case qF e z n ps=>rw[mb (F:=λp v=>(bh v).bind λxs=>(M.ok (xs.length==e&&Nat.blt p.1 n)).bind λ_=>(M.aG (fz true 8) xs).bind λl=>.ret (p.1,l)) h]
 case eu e x lo hi=>
  rw[h x λn hn=>by simp[hn]];have h1:lo.map ρ=lo.map kM:=by cases lo with | none=>rfl | some l=>simp[h l λn hn=>by simp[nz,hn]]
  have h2:hi.map ρ=hi.map kM:=by cases hi with | none=>rfl | some l=>simp[h l λn hn=>by simp[nz,hn]]
  rw[h1,h2]
 case nj x lo hi=>
  rw[h x λn hn=>by simp[hn]];have h1:lo.map ρ=lo.map kM:=by cases lo with | none=>rfl | some l=>simp[h l λn hn=>by simp[nz,hn]]
  have h2:hi.map ρ=hi.map kM:=by cases hi with | none=>rfl | some l=>simp[h l λn hn=>by simp[nz,hn]]
  rw[h1,h2]
 case mn x ys=>rw[h x λn hn=>by simp[hn],gE (l:=ys) λy hy=>h y λn hn=>by simp[hy n hn]]
 case mx x ys=>rw[h x λn hn=>by simp[hn],gE (l:=ys) λy hy=>h y λn hn=>by simp[hy n hn]]
 case sk f ys=>rw[gE (l:=ys) h]
 case call mode f ys=>rw[h f λn hn=>by simp[hn],gE (l:=ys) λy hy=>h y λn hn=>by simp[hy n hn]]
 case kh qs x y z=>rw[h x λn hn=>by simp[hn],h y λn hn=>by simp[hn],h z λn hn=>by simp[hn]]
 case jb ok agg qs z x y=>rw[h x λn hn=>by simp[hn],h y λn hn=>by simp[hn]]
 case nk qs x y=>rw[h x λn hn=>by simp[hn],h y λn hn=>by simp[hn]]
 case store sz x y=>rw[h x λn hn=>by simp[hn],h y λn hn=>by simp[hn]]
 case dn len e x y=>rw[h x λn hn=>by simp[hn],h y λn hn=>by simp[hn]]
 case dQ e x y=>rw[h x λn hn=>by simp[hn],h y λn hn=>by simp[hn]]
 case dB a len e x y=>rw[h x λn hn=>by simp[hn],h y λn hn=>by simp[hn]]
 case jN x y=>rw[h x λn hn=>by simp[hn],h y λn hn=>by simp[hn]]
 case bin op q x y=>rw[h x λn hn=>by simp[hn],h y λn hn=>by simp[hn]]
 case sj neg qs x y=>rw[h x λn hn=>by simp[hn],h y λn hn=>by simp[hn]]
 case app e x y=>rw[h x λn hn=>by simp[hn],h y λn hn=>by simp[hn]]
 all_goals first | rfl | (rename_i x;rw[h x λn hn=>hn]) | (rename_i x _;rw[h x λn hn=>hn])
def SE (s s':St):Prop:=GE s.fr s'.fr/\GE s.hp s'.hp/\s.nx=s'.nx
theorem SE.refl (s:St):SE s s:=⟨.refl _,.refl _,rfl⟩
theorem SE.symm {s s':St} (h:SE s s'):SE s' s:=⟨h.1.symm,h.2.1.symm,h.2.2.symm⟩
theorem SE.trans {a b c:St} (h:SE a b) (h':SE b c):SE a c:=⟨h.1.trans h'.1,h.2.1.trans h'.2.1,h.2.2.trans h'.2.2⟩
theorem GE.bT {fr vF:Fr} (e:GE fr vF) (d:Option Nat) (v:AV):GE (bT fr d v) (bT vF d v):=by
 cases d with
 |none=>exact e
 |some d=>exact e.set d v
theorem mK {fr:Fr} {d:Option Nat} {v:AV} {n:Nat} (h:d≠some n):get (bT fr d v) n=get fr n:=by
 cases d with
 |none=>rfl
 |some d=>simp[ao.bT,bU,show d≠n from λe=>h (by rw[e])]
theorem wz {fr:Fr} {d d':Option Nat} {v v':AV} (h:d≠d'\/d=none):GE (bT (bT fr d v) d' v') (bT (bT fr d' v') d v):=by
 intro n;cases d with
 |none=>rfl
 |some d=>
  cases d' with
  |none=>rfl
  |some d'=>
   have cA:d≠d':=λe=>by rcases h with h | h;exact h (by rw[e]);cases h
   simp only[ao.bT,bU];by_cases h1:d'=n
   ·have:d≠n:=λe=>cA (e.trans h1.symm)
    simp[h1,this]
   ·simp[h1]
theorem BL {fr vF:Fr} {l:List Nat} (h:∀n ∈ l,get fr n=get vF n) (x:bf) (hx:∀n ∈ eb x,n ∈ l):ev fr x=ev vF x:=by
 cases x with
 |c v=>rfl
 |t n=>simp only[ev];rw[h n (hx n (by simp[eb]))]
abbrev cB:=List Nat×List Nat
section
variable {call:Nat->List AV->Hp->Option (AV×Hp)}
theorem mc {slot:Nat} {o:aJ} {s s' s1:St} (e:step call slot o s=some s1) (hf:∀n ∈ ji o,get s.fr n=get s'.fr n)
  (hh:∀n ∈ (bH call slot o s).1,get s.hp n=get s'.hp n) :
  ∃jj v,step call slot o s'=some jj/\bH call slot o s'=bH call slot o s/\s1.fr=bT s.fr o.dst v/\jj.fr=bT s'.fr o.dst v/\s1.nx=s.nx/\jj.nx=s'.nx/\
   (∀n ∈ (bH call slot o s).2,get jj.hp n=get s1.hp n)/\∀n,n ∉ (bH call slot o s).2->get jj.hp n=get s'.hp n/\get s1.hp n=get s.hp n:=by
 have hw:cw s'.fr o.gd=cw s.fr o.gd:=by
  cases hg:o.gd with
  |none=>rfl
  |some g=>
   simp only[cw];rw[hf g.1 (by simp[ji,hg])]
 have ho:bp call slot (ev s'.fr) o.op=bp call slot (ev s.fr) o.op:=uC λx hx=>(BL hf x λn hn=>by simp[ji,hx n hn]).symm
 unfold step at e ⊢;unfold bH at hh ⊢;rw[hw,ho];cases Lv:cw s.fr o.gd with
 |none=>rw[Lv]at e;cases e
 |some b=>
  rw[Lv]at e hh;cases b with
  |false=>
   simp only[Option.some.injEq]at e;subst e;exact⟨_,.bD [],rfl,rfl,rfl,rfl,rfl,rfl,λn h0=>by simp at h0,λn _=>⟨rfl,rfl⟩⟩
  |true=>
   simp only[]at e hh ⊢;cases hr:(bp call slot (ev s.fr) o.op).run s.hp with
   |none=>rw[hr]at e;cases e
   |some p=>
    obtain⟨v,h1⟩:=p;rw[hr]at e;simp only[Option.some.injEq]at e;subst e;obtain⟨sB,e1,e2,e3,e4⟩:=M.frame _ _ s'.hp _ _ hr hh;rw[e1];exact⟨_,v,rfl,e2,rfl,rfl,rfl,rfl,e3,e4⟩
theorem Nu {slot:Nat} {o:aJ} {s s' s1:St} (e:step call slot o s=some s1) (h:SE s s') :
  ∃jj,step call slot o s'=some jj/\bH call slot o s'=bH call slot o s/\SE s1 jj:=by
 obtain⟨jj,v,e1,e2,e3,e4,e5,e6,e7,e8⟩:=mc e (λn _=>h.1 n) λn _=>h.2.1 n
 refine⟨jj,e1,e2,?_,?_,?_⟩
 ·rw[e3,e4];exact h.1.bT _ _
 ·intro n;by_cases hn:n ∈ (bH call slot o s).2
  ·exact(e7 n hn).symm
  ·rw[(e8 n hn).1,(e8 n hn).2];exact h.2.1 n
 ·rw[e5,e6];exact h.2.2
def kN (x y:aJ):Bool:=
 (match x.dst with | some d=>!(ji y).contains d&&y.dst != some d | none=>true)&&(match y.dst with | some d=>!(ji x).contains d | none=>true)
theorem td {x y:aJ} (h:kN x y=true):(∀d,x.dst=some d->d ∉ ji y)/\(x.dst≠y.dst\/x.dst=none)/\∀d,y.dst=some d->d ∉ ji x:=by
 unfold kN at h;simp only[Bool.and_eq_true]at h;obtain⟨h1,h2⟩:=h;refine⟨λd hd=>?_,?_,λd hd=>?_⟩
 ·rw[hd]at h1;simp at h1;exact h1.1
 ·cases hx:x.dst with
  |none=>exact .inr rfl
  |some d=>
   rw[hx]at h1;simp at h1;exact .inl λe=>h1.2 e.symm
 ·rw[hd]at h2;simpa using h2
theorem oo {a b:List Nat} (h:meets a b=false):∀n ∈ a,n ∉ b:=by
 intro n hn hb;have:meets a b=true:=by simp only[meets,List.any_eq_true,List.contains_iff_mem];exact⟨n,hn,hb⟩
 rw[h]at this;cases this
theorem swap {sx sy:Nat} {x y:aJ} {s s1 s2:St} (e1:step call sx x s=some s1) (e2:step call sy y s1=some s2) (hT:kN x y=true)
  (hc:c9 (bH call sx x s) (bH call sy y s1)=false) :
  ∃t1 t2,step call sy y s=some t1/\bH call sy y s=bH call sy y s1/\step call sx x t1=some t2/\bH call sx x t1=bH call sx x s/\SE s2 t2:=by
 obtain⟨a1,a2,a3⟩:=td hT;simp only[c9,Bool.or_eq_false_iff]at hc;have c1:=oo hc.1;have c2:=oo hc.2;obtain⟨_,v,_,_,f1,_,n1,_,_,w1⟩:=mc (s':=s) e1 (λn _=>rfl) λn _=>rfl
 obtain⟨t1,u,e3,e4,f2,f3,n2,n3,w2,w3⟩:=mc (s':=s) e2 (λn hn=>by
   rw[f1];exact mK λh=>a1 n h hn) (λn hn=>(w1 n λhm=>c1 n hm (by simp[hn])).2)
 obtain⟨t2,v',e5,e6,f4,f5,n4,n5,w4,w5⟩:=mc (s':=t1) e1 (λn hn=>by
   rw[f3];exact(mK λh=>a3 n h hn).symm) (λn hn=>((w3 n λhm=>c2 n hm (by simp[hn])).1).symm)
 refine⟨t1,t2,e3,e4,e5,e6,?_,?_,?_⟩
 ·have hv:bT (bT s.fr y.dst u) x.dst v'=bT (bT s.fr y.dst u) x.dst v\/x.dst=none:=by
   cases hx:x.dst with
   |none=>exact .inr rfl
   |some d=>
    rw[f1,hx]at f4;have:=congrArg (λl=>get l d) f4;simp[ao.bT,ar]at this;exact .inl (by rw[this])
  rw[f2,f5,f1,f3];rcases hv with hv | hv
  ·rw[hv];exact wz a2
  ·rw[hv];exact .refl _
 ·intro n;by_cases hx:n ∈ (bH call sx x s).2
  ·have hy:n ∉ (bH call sy y s1).2:=λh=>c1 n hx (by simp[h])
   rw[w4 n hx,(w3 n hy).2]
  ·rw[(w5 n hx).1];by_cases hy:n ∈ (bH call sy y s1).2
   ·rw[w2 n hy]
   ·rw[(w3 n hy).1,(w3 n hy).2,(w1 n hx).2]
 ·rw[n2,n1,n5,n3]
inductive jk (call:Nat->List AV->Hp->Option (AV×Hp)) (s0:Nat):List (Nat×aJ×cB)->St->St->Prop
 |nil {s s':St} (h:SE s s'):jk call s0 [] s s'
 |cons {i:Nat} {o:aJ} {f:cB} {r:List (Nat×aJ×cB)} {s s1 s':St} (e:step call (s0+64*i) o s=some s1) (hf:bH call (s0+64*i) o s=f)
   (hr:jk call s0 r s1 s'):jk call s0 ((i,o,f)::r) s s'
theorem jk.ext {s0:Nat} {l:List (Nat×aJ×cB)} {s t s':St} (h:jk call s0 l s s') (e:SE s t):jk call s0 l t s':=by
 induction h generalizing t with
 |nil h=>exact .nil (e.symm.trans h)
 |cons e1 hf _ ih=>
  obtain⟨t1,e2,e3,e4⟩:=Nu e1 e;exact .cons e2 (e3.trans hf) (ih e4)
def Am (x y:Nat×aJ×cB):Prop:=kN x.2.1 y.2.1=true/\c9 x.2.2 y.2.2=false
theorem jk.front {s0:Nat} {x:Nat×aJ×cB} {l2:List (Nat×aJ×cB)} {s':St}:∀(l1:List (Nat×aJ×cB)) (s:St),jk call s0 (l1++x::l2) s s'->(∀y ∈ l1,Am y x)->
  ∃s1,step call (s0+64*x.1) x.2.1 s=some s1/\bH call (s0+64*x.1) x.2.1 s=x.2.2/\jk call s0 (l1++l2) s1 s'
 |[],s,h,_=>by
  cases h with
  |cons e hf hr=>exact⟨_,e,hf,hr⟩
 |y::l1,s,h,ha=>by
  cases h with
  |cons e hf hr=>
   obtain⟨t1,e2,f2,r2⟩:=jk.front l1 _ hr λz hz=>ha z (by simp[hz])
   obtain⟨h1,h2⟩:=ha _ (List.mem_cons_self ..);obtain⟨u1,u2,e3,e4,e5,e6,e7⟩:=swap e e2 h1 (by rw[hf,f2];exact h2);exact⟨u1,e3,e4.trans f2,.cons e5 (e6.trans hf) (r2.ext e7)⟩
end
section
variable {prog:Nat->Option aA}
def Ev (prog:Nat->Option aA) (f:Nat) (args:List AV) (hp:Hp) (p:AV×Hp):Prop:=∃K,∀n,K<=n->aZ prog n f args hp=some p
def a8 (prog:Nat->Option aA) (f:Nat) (args:List AV) (y:AV):Prop:=∃K,∀n,K<=n->(aZ prog n f args []).bind shut=some y
theorem Ev.X6 {f:Nat} {args:List AV} {p:AV×Hp} (h:Ev prog f args [] p) {y:AV} (hy:shut p=some y):a8 prog f args y:=by
 obtain⟨K,h⟩:=h;exact⟨K,λn hn=>by rw[h n hn];exact hy⟩
def Wp (prog:Nat->Option aA) (c:IC) (s:St) (Q:Ex->St->Prop):Prop:=∃K ex s',(∀n,K<=n->bd (aZ prog n) n c s=some (ex,s'))/\Q ex s'
def Ex.then (k:St->Prop) (Q:Ex->St->Prop):Ex->St->Prop
 |.norm,s=>k s
 |e,s=>Q e s
def Ex.inBlock (id:Nat) (Q:Ex->St->Prop):Ex->St->Prop
 |.exit i,s=>if i=id then Q .norm s else Q (.exit i) s
 |e,s=>Q e s
theorem Wp.mono {c:IC} {s:St} {Q Q':Ex->St->Prop} (h:Wp prog c s Q) (hq:∀e s,Q e s->Q' e s):Wp prog c s Q':=by
 obtain⟨K,ex,s',h,q⟩:=h;exact⟨K,ex,s',h,hq _ _ q⟩
theorem ak {s:St} {Q:Ex->St->Prop} (h:Q .norm s):Wp prog .skip s Q:=⟨0,_,_,λ_ _=>rfl,h⟩
theorem aO {id:Nat} {s:St} {Q:Ex->St->Prop} (h:Q (.exit id) s):Wp prog (.exit id) s Q:=⟨0,_,_,λ_ _=>rfl,h⟩
theorem ax {s:St} {Q:Ex->St->Prop} (h:Q .ret s):Wp prog .ret s Q:=⟨0,_,_,λ_ _=>rfl,h⟩
theorem af {a b:IC} {s:St} {Q:Ex->St->Prop} (h:Wp prog a s (Ex.then (λs'=>Wp prog b s' Q) Q)):Wp prog (.seq a b) s Q:=by
 obtain⟨K,ex,s',h,q⟩:=h;cases ex with
 |norm=>
  obtain⟨K2,Eh,s2,h2,q2⟩:=q;exact⟨max K K2,Eh,s2,λn hn=>by simp only[bd,h n (by omega),h2 n (by omega)],q2⟩
 |exit i=>exact⟨K,_,_,λn hn=>by simp only[bd,h n hn],q⟩
 |ret=>exact⟨K,_,_,λn hn=>by simp only[bd,h n hn],q⟩
theorem ag {c:bf} {a b:IC} {s:St} {Q:Ex->St->Prop} {t:Bool} (hc:ev s.fr c = .iv (.bool t)) (h:Wp prog (if t then a else b) s Q):Wp prog (.cond c a b) s Q:=by
 obtain⟨K,ex,s',h,q⟩:=h;refine⟨K,ex,s',λn hn=>?_,q⟩;have:=h n hn;cases t<;>simpa[bd,hc]using this
theorem aq {id:Nat} {b:IC} {s:St} {Q:Ex->St->Prop} (h:Wp prog b s (Ex.inBlock id Q)):Wp prog (.block id b) s Q:=by
 obtain⟨K,ex,s',h,q⟩:=h;cases ex with
 |norm=>exact⟨K,_,_,λn hn=>by simp only[bd,h n hn],q⟩
 |ret=>exact⟨K,_,_,λn hn=>by simp only[bd,h n hn],q⟩
 |exit i=>
  simp only[Ex.inBlock]at q;by_cases hi:i=id
  ·rw[if_pos hi]at q;exact⟨K,.norm,s',λn hn=>by simp only[bd,h n hn,if_pos hi],q⟩
  ·rw[if_neg hi]at q;exact⟨K,.exit i,s',λn hn=>by simp only[bd,h n hn,if_neg hi],q⟩
theorem aI {draw:Bool} {ops:List aJ} {aX:List Nat} {s s':St} {Q:Ex->St->Prop} {K:Nat} (h:∀n,K<=n->aS (aZ prog n) draw ops aX s=some s') (q:Q .norm s'):Wp prog (.ff draw ops aX) s Q:=
 ⟨K,_,_,λn hn=>by simp only[bd,h n hn,Option.map_some],q⟩
theorem bK {draw:Bool} {ops:List aJ} {aX:List Nat} {s s':St} {Q:Ex->St->Prop} (q:Q .norm s') (h:∀n,0<=n->aS (aZ prog n) draw ops aX s=some s':=by intro n hn;simp;rfl):Wp prog (.ff draw ops aX) s Q:=aI (K:=0) h q
theorem aD {draw:Bool} {ops:List aJ} {aX:List Nat} {s s':St} {Q:Ex->St->Prop} (h:∀{n:Nat},aS (aZ prog n) draw ops aX s=some s') (q:Q .norm s'):Wp prog (.ff draw ops aX) s Q:=aI (K:=0) (λ_ _=>h) q
theorem au {draw:Bool} {ops:List aJ} {aX:List Nat} {b:IC} {s s':St} {Q:Ex->St->Prop} (h:∀{n:Nat},aS (aZ prog n) draw ops aX s=some s') (q:Wp prog b s' Q):Wp prog (.seq (.ff draw ops aX) b) s Q:=af (aI (K:=0) (λ_ _=>h) q)
theorem aj {draw:Bool} {ops:List aJ} {aX:List Nat} {b:IC} {s s':St} {Q:Ex->St->Prop} (q:Wp prog b s' Q) (h:∀n,0<=n->aS (aZ prog n) draw ops aX s=some s':=by intro n hn;simp;rfl):Wp prog (.seq (.ff draw ops aX) b) s Q:=af (aI (K:=0) h q)
theorem cq {draw:Bool} {ops:List aJ} {aX:List Nat} {b:IC} {s s':St} {Q:Ex->St->Prop} {K:Nat} (h:∀n,K<=n->aS (aZ prog n) draw ops aX s=some s') (q:Wp prog b s' Q):Wp prog (.seq (.ff draw ops aX) b) s Q:=af (aI h q)
theorem b7 {aX:List Nat} {b:IC} {s:St} {Q:Ex->St->Prop} (I:Nat->St->Prop) {m:Nat} (h0:I m { s with fr:=an aX s.fr })
  (round:∀m s1,I m s1->Wp prog b s1 (Ex.then (λs2=>∃j,j<m/\I j (again aX s.nx s2)) Q)):Wp prog (.loop aX b) s Q:=by
 have key:∀m s1,I m s1->∃K ex s',(∀n,K<=n->∀j,K<=j->iter (bd (aZ prog n) n b) aX s.nx j s1=some (ex,s'))/\Q ex s':=by
  intro m
  induction m using Nat.strongRecOn with
  |_ m ih=>
   intro s1 hI;obtain⟨K,ex,s2,h,q⟩:=round m s1 hI;cases ex with
   |norm=>
    obtain⟨j,hj,SR⟩:=q;obtain⟨K2,Eh,s3,h2,q2⟩:=ih j hj _ SR;refine⟨max K K2+1,Eh,s3,λn hn i hi=>?_,q2⟩;obtain⟨i,rfl⟩:∃i',i=i'+1:=⟨i - 1,by omega⟩;simp only[iter,h n (by omega)];exact h2 n (by omega) i (by omega)
   |exit e=>
    refine⟨K+1,.exit e,s2,λn hn i hi=>?_,q⟩;obtain⟨i,rfl⟩:∃i',i=i'+1:=⟨i - 1,by omega⟩;simp only[iter,h n (by omega)]
   |ret=>
    refine⟨K+1,.ret,s2,λn hn i hi=>?_,q⟩;obtain⟨i,rfl⟩:∃i',i=i'+1:=⟨i - 1,by omega⟩;simp only[iter,h n (by omega)]
 obtain⟨K,ex,s',h,q⟩:=key m _ h0;exact⟨K,ex,s',λn hn=>by simp only[bd];exact h n hn n hn,q⟩
def Fin (res:List iO) (p:AV×Hp):Ex->St->Prop
 |.norm,s | .ret,s=>(ck s.fr res).run s.hp=some p
 |_,_=>False
theorem Ev.of {f:Nat} {fn:aA} (hf:prog f=some fn) (fe:fn.cl=none) {args:List AV} (hn:args.length=fn.np) {hp:Hp} {p:AV×Hp} (h:Wp prog fn.body ⟨params args 0,hp,1000⟩ (Fin fn.res p)):Ev prog f args hp p:=by
 obtain⟨K,ex,s',h,q⟩:=h;refine⟨K+1,λn fD=>?_⟩;obtain⟨n,rfl⟩:∃n',n=n'+1:=⟨n - 1,by omega⟩;simp only[aZ,hf,fe,if_pos hn,h n (by omega)];cases ex with
 |norm=>exact q
 |ret=>exact q
 |exit i=>exact q.elim
theorem Ev.X7 {f:Nat} {fn:aA} (hf:prog f=some fn) {q:Nat×List IV} (fe:fn.cl=some q) (hq:Nat.blt q.1 1000000=false) {args:List AV} (hn:args.length=fn.np) {hp:Hp} (hs:k7 q.1 args hp=none) {p:AV×Hp} (h:Wp prog fn.body ⟨params args 0,hp,1000⟩ (Fin fn.res p)):Ev prog f args hp p:=by
 obtain⟨K,ex,s',h,k⟩:=h;refine⟨K+1,λn fD=>?_⟩;obtain⟨n,rfl⟩:∃n',n=n'+1:=⟨n - 1,by omega⟩;simp only[aZ,hf,fe,hq,Bool.false_eq_true,if_false,hs,if_pos hn,h n (by omega)];cases ex with
 |norm=>exact k
 |ret=>exact k
 |exit i=>exact k.elim
theorem Ev.X8 {f:Nat} {fn:aA} (hf:prog f=some fn) {q:Nat×List IV} (fe:fn.cl=some q) (hq:Nat.blt q.1 1000000=false) {args:List AV} {hp:Hp} {p:AV×Hp} (hs:k7 q.1 args hp=some p):Ev prog f args hp p:=by
 refine⟨1,λn fD=>?_⟩;obtain⟨n,rfl⟩:∃n',n=n'+1:=⟨n - 1,by omega⟩;simp only[aZ,hf,fe,hq,Bool.false_eq_true,if_false,hs]
def dI (res:List iO) (y:AV):Ex->St->Prop
 |.norm,s | .ret,s=>((ck s.fr res).run s.hp).bind shut=some y
 |_,_=>False
theorem a8.of {f:Nat} {fn:aA} (hf:prog f=some fn) (fe:fn.cl=none) {args:List AV} (hn:args.length=fn.np) {y:AV} (h:Wp prog fn.body ⟨params args 0,[],1000⟩ (dI fn.res y)):a8 prog f args y:=by
 obtain⟨K,ex,s',h,q⟩:=h;refine⟨K+1,λn fD=>?_⟩;obtain⟨n,rfl⟩:∃n',n=n'+1:=⟨n - 1,by omega⟩;simp only[aZ,hf,fe,if_pos hn,h n (by omega)];cases ex with
 |norm=>exact q
 |ret=>exact q
 |exit i=>exact q.elim
end
abbrev pH:=Nat->List AV->Hp->Option (AV×Hp)
def He (c c':pH):Prop:=∀f U hp p,c f U hp=some p->c' f U hp=some p
def oq {α:Type} (m m':M α):Prop:=∀h p,m.run h=some p->m'.run h=some p/\m'.bN h=m.bN h
theorem oq.refl {α:Type} (m:M α):oq m m:=λ_ _ e=>⟨e,rfl⟩
theorem M.j5 {α β:Type} (m:M α) (f:α->M β) (h:Hp):(m.bind f).bN h=match m.run h with
  |some (a,h1)=>((m.bN h).1++((f a).bN h1).1,((f a).bN h1).2++(m.bN h).2)
  |none=>m.bN h:=by
 induction m generalizing h with
 |ret a=>simp[M.bind,M.run,M.bN]
 |fail=>simp[M.bind,M.run,M.bN]
 |get id k ih=>
  simp only[M.bind,M.run,M.bN,ih];cases(k (ao.get h id)).run h<;>simp
 |put id o k ih=>
  simp only[M.bind,M.run,M.bN,ih];cases k.run (ao.set h id o)<;>simp
theorem oq.bind {α β:Type} {m m':M α} {f f':α->M β} (h:oq m m') (hf:∀a,oq (f a) (f' a)):oq (m.bind f) (m'.bind f'):=by
 intro g p e;obtain⟨a,h1,e1,e2⟩:=aw e;obtain⟨q1,q2⟩:=h _ _ e1;obtain⟨q3,q4⟩:=hf a _ _ e2;refine⟨by rw[az,q1];exact q3,?_⟩;rw[M.j5,M.j5,q1,e1];simp only[q2,q4]
theorem oq.lift {α:Type} {x y:Option α} (h:∀a,x=some a->y=some a):oq (M.lift x) (M.lift y):=by
 cases x with
 |none=>intro g p e;exact(ah e).elim
 |some a=>rw[h a rfl];exact .refl _
theorem BM {c c':pH} (h:He c c') {slot:Nat} {ρ:bf->AV} (op:jt):oq (bp c slot ρ op) (bp c' slot ρ op):=by
 cases op<;>first | exact .refl _ | skip
 rename_i mode f args;simp only[bp]
 match mode with
 |0=>
  refine .bind (.refl _) λq=>.bind (.refl _) λU=>.bind (.lift λa ha=>?_) λr=>.refl _
  simp only[Option.bind_eq_some_iff]at ha ⊢;obtain⟨p,h1,h2⟩:=ha;exact⟨p,h _ _ _ _ h1,h2⟩
 |1=>exact .bind (.refl _) λq=>.bind (.refl _) λ_=>.bind (.refl _) λU=>.bind (.refl _) λos=>.bind (.lift λp hp=>h _ _ _ _ hp) λp=>.refl _
 |2=>exact .bind (.refl _) λq=>.bind (.refl _) λU=>.bind (.lift λp hp=>h _ _ _ _ hp) λp=>.refl _
 |4=>exact .refl _
 |3 | _+5=>
  refine .bind (.refl _) λq=>.bind (.refl _) λU=>.lift λa ha=>?_
  simp only[Option.bind_eq_some_iff]at ha ⊢;obtain⟨p,h1,h2⟩:=ha;exact⟨p,h _ _ _ _ h1,h2⟩
theorem xT {c c':pH} (h:He c c') {slot:Nat} {o:aJ} {s s1:St} (e:step c slot o s=some s1):step c' slot o s=some s1/\bH c' slot o s=bH c slot o s:=by
 unfold step at e ⊢;unfold bH;split at e
 ·rename_i hw;cases hr:(bp c slot (ev s.fr) o.op).run s.hp with
  |none=>rw[hr]at e;cases e
  |some p=>
   obtain⟨q1,q2⟩:=BM h o.op _ _ hr;rw[hr]at e;rw[hw,q1];exact⟨e,q2⟩
 ·rename_i hw;rw[hw];exact⟨e,rfl⟩
 ·cases e
theorem wA {c c':pH} (h:He c c'):∀(ops:List aJ) (slot:Nat) (s s1:St),a7 c ops slot s=some s1->a7 c' ops slot s=some s1/\bn c' ops slot s=bn c ops slot s
 |[],slot,s,s1,e=>⟨e,rfl⟩
 |o::r,slot,s,s1,e=>by
  simp only[a7,bn]at e ⊢;cases h1:step c slot o s with
  |none=>rw[h1]at e;cases e
  |some s2=>
   obtain⟨q1,q2⟩:=xT h h1;rw[h1]at e;rw[q1];obtain⟨q3,q4⟩:=wA h r _ _ _ e;exact⟨q3,by simp only[q2,q4]⟩
theorem Ei {c c':pH} (h:He c c') {draw:Bool} {ops:List aJ} {aX:List Nat} {s s1:St} (e:aS c draw ops aX s=some s1):aS c' draw ops aX s=some s1:=by
 unfold aS at e ⊢;cases h1:a7 c ops s.nx s with
 |none=>rw[h1]at e;cases e
 |some s2=>
  obtain⟨q1,q2⟩:=wA h ops _ _ _ h1;rw[h1]at e;rw[q1,q2];exact e
theorem tJ {f f':St->Option (Ex×St)} (h:∀s r,f s=some r->f' s=some r) {aX:List Nat} {n0:Nat}:∀(m m':Nat) (s:St) (r:Ex×St),m<=m'->iter f aX n0 m s=some r->iter f' aX n0 m' s=some r
 |0,_,s,r,_,e=>by simp[iter]at e
 |m+1,m',s,r,hm,e=>by
  obtain⟨m',rfl⟩:∃k,m'=k+1:=⟨m' - 1,by omega⟩;simp only[iter]at e ⊢;cases h1:f s with
  |none=>rw[h1]at e;cases e
  |some p=>
   obtain⟨ex,s1⟩:=p;rw[h1]at e;rw[h _ _ h1];cases ex with
   |norm=>exact tJ h m m' _ r (by omega) e
   |exit i=>exact e
   |ret=>exact e
theorem tK {c c':pH} (h:He c c') {n n':Nat} (hn:n<=n'):∀(ic:IC) (s:St) (r:Ex×St),bd c n ic s=some r->bd c' n' ic s=some r:=by
 intro ic
 induction ic with
 |skip=>exact λs r e=>e
 |exit id=>exact λs r e=>e
 |ret=>exact λs r e=>e
 |ff draw ops aX=>
  intro s r e;simp only[bd,Option.map_eq_some_iff]at e ⊢;obtain⟨s1,h1,h2⟩:=e;exact⟨s1,Ei h h1,h2⟩
 |seq a b wB wC=>
  intro s r e;simp only[bd]at e ⊢;cases h1:bd c n a s with
  |none=>rw[h1]at e;cases e
  |some p=>
   obtain⟨ex,s1⟩:=p;rw[h1]at e;rw[wB _ _ h1];cases ex with
   |norm=>exact wC _ _ e
   |exit i=>exact e
   |ret=>exact e
 |cond d a b wB wC=>
  intro s r e;simp only[bd]at e ⊢;generalize ev s.fr d=v at e;split at e
  ·rename_i t;cases t with
   |true=>exact wB _ _ e
   |false=>exact wC _ _ e
  ·cases e
 |block id b ih=>
  intro s r e;simp only[bd]at e ⊢;cases h1:bd c n b s with
  |none=>rw[h1]at e;cases e
  |some p=>
   rw[h1]at e;rw[ih _ _ h1];exact e
 |loop aX b ih=>
  intro s r e;simp only[bd]at e ⊢;exact tJ ih n n' _ r hn e
theorem yY {prog:Nat->Option aA}:∀(n n':Nat),n<=n'->He (aZ prog n) (aZ prog n')
 |0,_,_=>λf U hp p e=>by simp[aZ]at e
 |n+1,n',hn=>by
  obtain⟨n',rfl⟩:∃k,n'=k+1:=⟨n' - 1,by omega⟩;have ih:=yY (prog:=prog) n n' (by omega);intro f U hp p e;simp only[aZ]at e ⊢;cases hf:prog f with
  |none=>rw[hf]at e;cases e
  |some fn=>
   rw[hf]at e;simp only[]at e ⊢;cases fe:fn.cl with
   |some q=>
    rw[fe]at e;simp only[]at e ⊢;split at e
    ·rename_i hb;rw[if_pos hb];exact e
    ·rename_i hb;rw[if_neg hb];cases hs:k7 q.1 U hp with
     |some r=>rw[hs]at e;exact e
     |none=>
      rw[hs]at e;simp only[]at e ⊢;split at e
      ·rename_i hl;rw[if_pos hl];cases h1:bd (aZ prog n) n fn.body ⟨params U 0,hp,1000⟩with
       |none=>rw[h1]at e;cases e
       |some q=>
        rw[h1]at e;rw[tK ih (by omega) _ _ _ h1];exact e
      ·cases e
   |none=>
    rw[fe]at e;simp only[]at e ⊢;split at e
    ·rename_i hl;rw[if_pos hl];cases h1:bd (aZ prog n) n fn.body ⟨params U 0,hp,1000⟩with
     |none=>rw[h1]at e;cases e
     |some q=>
      rw[h1]at e;rw[tK ih (by omega) _ _ _ h1];exact e
    ·cases e
theorem Ev.at {prog:Nat->Option aA} {n f:Nat} {args:List AV} {hp:Hp} {p:AV×Hp} (e:aZ prog n f args hp=some p):Ev prog f args hp p:=⟨n,λm hm=>yY n m hm _ _ _ _ e⟩
def NP {α:Type} (m:M α):Prop:=∀h,(m.bN h).2=[]
theorem NP.ret {α:Type} (a:α):NP (M.ret a):=λ_=>rfl
theorem NP.fail {α:Type}:NP (M.fail:M α):=λ_=>rfl
theorem NP.bind {α β:Type} {m:M α} {f:α->M β} (h:NP m) (hf:∀a,NP (f a)):NP (m.bind f):=by
 intro g;rw[M.j5];cases hr:m.run g with
 |none=>exact h g
 |some p=>simp[h g,hf p.1 p.2]
theorem NP.ok (b:Bool):NP (M.ok b):=by cases b<;>exact λ_=>rfl
theorem NP.lift {α:Type} (x:Option α):NP (M.lift x):=by cases x<;>exact λ_=>rfl
theorem NP.look (id:Nat):NP (M.look id):=by
 intro h;simp only[M.look,M.bN];cases get h id<;>rfl
theorem NP.aG {α β:Type} {f:α->M β} (hf:∀a,NP (f a)):∀l:List α,NP (M.aG f l)
 |[]=>.ret _
 |x::r=>.bind (hf x) λ_=>.bind (NP.aG hf r) λ_=>.ret _
theorem NP.fz:∀(n:Nat) (a:AV),NP (fz false n a)
 |0,a=>.fail
 |n+1,a=>by
  have ih:=NP.fz n;unfold ao.fz;cases a with
  |iv x=>cases x<;>exact .ret _
  |own id o m aC=>
   refine .bind (.look id) λob=>?_
   cases ob with
   |cells cs=>exact .fail
   |buf v e es=>exact .bind (.ok _) λ_=>.ret _
   |cm v e es=>exact .bind (.ok _) λ_=>.ret _
   |map _=>exact .fail
  |ref id aC i j=>
   refine .bind (.look id) λob=>?_
   cases ob with
   |cells cs=>exact .bind (.ok _) λ_=>.bind (.aG ih _) λ_=>.ret _
   |buf v e es=>exact .bind (.ok _) λ_=>.bind (.lift _) λ_=>.ret _
   |cm v e es=>exact .bind (.ok _) λ_=>.bind (.lift _) λ_=>.ret _
   |map _=>exact .fail
  |dg f caps=>exact .bind (.aG ih _) λ_=>.ret _
  |undef=>exact .fail
  |agg cs=>exact .fail
  |bD vs=>exact .fail
theorem NP.cE (a:AV):NP (cE false a):=.bind (NP.fz 8 a) λ_=>.ret _
theorem NP.bZ (a:AV):NP (bZ false a):=by
 cases a with
 |agg cs=>exact .bind (.aG NP.cE _) λ_=>.ret _
 |iv x=>exact NP.cE _
 |own id o n v=>exact NP.cE _
 |ref id v i j=>exact NP.cE _
 |dg f c=>exact NP.cE _
 |undef=>exact NP.cE _
 |bD vs=>exact NP.cE _
theorem NP.mk (agg:Bool) (l:List AV):NP (mk agg l):=by
 unfold ao.mk;cases agg
 ·match l with
  |[]=>exact .fail
  |[x]=>exact .ret _
  |_::_::_=>exact .fail
 ·exact .ret _
theorem NP.load (agg:Bool) (sz:Nat) (a:AV):NP (load agg sz a):=by
 unfold ao.load;split
 ·exact .bind (.look _) λo=>.bind (.lift _) λ_=>.bind (.ok _) λ_=>.mk _ _
 ·exact .bind (.ok _) λ_=>.mk _ _
 ·exact .fail
theorem NP.idx (a:AV):NP (idx a):=by unfold ao.idx;split<;>first | exact .ret _ | exact .fail
theorem NP.bound (y:Nat) (a:Option AV):NP (bound y a):=by unfold ao.bound;split<;>first | exact .ret _ | exact .fail | exact .bind (.ok _) λ_=>.ret _
theorem NP.ep (agg:Bool) (off sz:Nat) (a:AV):NP (ep agg off sz a):=by
 unfold ao.ep;split
 ·exact .bind (.ok _) λ_=>.mk _ _
 ·exact .fail
def quiet:jt->Bool
 |.eM _ | .pick _ _ _ | .load _ _ _ | .di _ _ | .ep _ _ _ _ | .dn _ _ _ _ | .dQ _ _ _ | .dB _ _ _ _ _ | .bin _ _ _ _ | .sj _ _ _ _ | .un _ _ | .tt _ _ | .Cf _ | .len _ _ | .mn _ _ | .mx _ _ | .ext _ _ | .oY _ | .call 0 _ _=>true
 |_=>false
theorem Nv {call:pH} {slot:Nat} {ρ:bf->AV} {op:jt} (h:quiet op=true):NP (bp call slot ρ op):=by
 unfold quiet at h;split at h<;>first | cases h | skip
 ·exact .ret _
 ·simp only[bp];split<;>first | exact .ret _ | exact .fail
 ·exact .load _ _ _
 ·simp only[bp,di];split
  ·exact .bind (.look _) λ_=>.bind (.ok _) λ_=>.ret _
  ·exact .bind (.ok _) λ_=>.ret _
  ·exact .fail
 ·exact .ep _ _ _ _
 ·simp only[bp,dn];refine .bind (.idx _) λ_=>.bind (.ok _) λ_=>?_
  split
  ·exact .bind (.look _) λ_=>.bind (.ok _) λ_=>.ret _
  ·exact .bind (.ok _) λ_=>.ret _
  ·exact .fail
 ·simp only[bp,dQ];refine .bind (.idx _) λ_=>.bind (.ok _) λ_=>?_
  split
  ·refine .bind (.ok _) λ_=>.bind (.look _) λo=>?_
   cases o<;>first | exact .bind (.ok _) λ_=>.ret _ | exact .fail
  ·exact .bind (.ok _) λ_=>.bind (.lift _) λ_=>.ret _
  ·exact .fail
 ·exact .bind (.idx _) λ_=>.bind (.ok _) λ_=>.ep _ _ _ _
 ·exact .bind (.lift _) λ_=>.ret _
 ·simp only[bp];split<;>first | exact .bind (.lift _) λ_=>.ret _ | exact .fail
 ·exact .bind (.lift _) λ_=>.ret _
 ·exact .bind (.idx _) λ_=>.ret _
 ·simp only[bp];split<;>first | exact .ret _ | exact .fail
 ·simp only[bp,len];split
  ·refine .bind (.look _) λo=>?_
   cases o<;>first | exact .bind (.ok _) λ_=>.ret _ | exact .fail
  ·exact .ret _
  ·exact .ret _
  ·exact .ret _
  ·exact .fail
 ·simp only[bp];split<;>first | exact .bind (.lift _) λ_=>.ret _ | exact .fail
 ·simp only[bp];split<;>first | exact .bind (.lift _) λ_=>.ret _ | exact .fail
 ·simp only[bp];split<;>first | exact .lift _ | exact .fail
 ·simp only[bp];split<;>first | exact .bind (.look _) λ_=>.bind (.ok _) λ_=>.ret _ | exact .ret _ | exact .fail
 ·exact .bind (.lift _) λ_=>.bind (.aG NP.bZ _) λ_=>.bind (.lift _) λ_=>.bind (.ok _) λ_=>.ret _
theorem An {call:pH}:∀(ops:List aJ) (slot:Nat) (s:St),ops.all (λo=>quiet o.op)=true->(bn call ops slot s).all (·.2.isEmpty)=true
 |[],_,_,_=>rfl
 |o::r,slot,s,h=>by
  simp only[List.all_cons,Bool.and_eq_true]at h;simp only[bn,List.all_cons,Bool.and_eq_true];refine⟨?_,?_⟩
  ·unfold bH;split
   ·rw[Nv h.1];rfl
   ·rfl
  ·split
   ·exact An r _ _ h.2
   ·rfl
theorem Cs {call:pH} {draw:Bool} {ops:List aJ} {aX:List Nat} {s s1:St} (hq:ops.all (λo=>quiet o.op)=true) (h:a7 call ops s.nx s=some s1) :
  aS call draw ops aX s=some { fr:=an aX s1.fr,hp:=s1.hp,nx:=s.nx+64*ops.length }:=by
 unfold aS;rw[h];simp only[dw,An ops s.nx s hq,Bool.true_or,Bool.or_true,if_true]
theorem Wp.quiet {prog:Nat->Option aA} {draw:Bool} {ops:List aJ} {aX:List Nat} {s s1:St} {Q:Ex->St->Prop} {K:Nat} (hq:ops.all (λo=>ao.quiet o.op)=true) (h:∀n,K<=n->a7 (aZ prog n) ops s.nx s=some s1)
  (q:Q .norm { fr:=an aX s1.fr,hp:=s1.hp,nx:=s.nx+64*ops.length }):Wp prog (.ff draw ops aX) s Q:=aI (K:=K) (λn hn=>Cs hq (h n hn)) q
theorem cM {call:pH} {draw:Bool} {ops:List aJ} {aX:List Nat} {s s2:St} (hq:ops.all (λo=>ao.quiet o.op)=true)
  (h:(a7 call ops s.nx s).map (λs1=>({ fr:=an aX s1.fr,hp:=s1.hp,nx:=s.nx+64*ops.length }:St))=some s2):aS call draw ops aX s=some s2:=by
 simp only[Option.map_eq_some_iff]at h;obtain⟨s1,h1,rfl⟩:=h;exact Cs hq h1
end ao
namespace ao
open Go Go.RowKit
section
variable {ν:Nat->Nat} {P:Program} {k:Cx}
theorem Rel.he {g:Gh} (r:Rel ν k g) {h':Hp} (e:GE g.h h'):Rel ν k { g with h:=h' }/\bY ν g { g with h:=h' }:=by
 have hm:bY ν g { g with h:=h' }:=λv x hx=>RA.mono (g:=g) (g':={ g with h:=h' }) (λ_ _ h=>h)
  (λv id o n aC h=>by unfold br at h ⊢;rw[e id]at h;exact h) (λv id aC i j h=>by unfold bA at h ⊢;rw[e id]at h;exact h) hx
 refine⟨⟨λid o ho=>?_,λid ed o o' b h1 h2=>r.inj id ed o o' b ((e id).trans h1) ((e ed).trans h2),r.small,r.i0,r.i1,λid o b h=>r.own id o b ((e id).trans h),r.size,r.os,r.tape,r.output,r.bu⟩,hm⟩;have bu:=r.ob id o ((e id).trans ho);cases o with
 |cells cs=>
  obtain⟨b,e1,e2,e3,e4⟩:=bu;exact⟨b,e1,e2,e3,λj c hc=>let⟨v,c1,c2,c3⟩:=e4 j c hc;⟨v,c1,c2,hm _ _ c3⟩⟩
 |buf v e es=>exact bu
 |cm v e es=>exact bu
 |map dh=>
  obtain⟨b,es,clock,e1,e2,e3,e4,e5,e6⟩:=bu;exact⟨b,es,clock,e1,e2,e3,e4,e5,λj e p h1 h2=>let⟨c1,c2⟩:=e6 j e p h1 h2;⟨hm _ _ c1,hm _ _ c2⟩⟩
structure ef (ν:Nat->Nat) (k:Cx) (nt:Nat) (g:Gh) (a:Act) (s:St):Prop where
 h:g.h=s.hp
 r:Rel ν k g
 f:jB ν g a.tmps s.fr
 n:nt<=a.tmps.size
 d:a.defers=[]
theorem ef.nA {nt:Nat} {g:Gh} {a:Act} {s s':St} (m:ef ν k nt g a s) (e:SE s s'):ef ν k nt { g with h:=s'.hp } a s'/\bY ν g { g with h:=s'.hp }:=by
 have he:GE g.h s'.hp:=by rw[m.h];exact e.2.1
 obtain⟨r,hm⟩:=m.r.he he;exact⟨⟨rfl,r,λt x ht=>let⟨v,h1,h2⟩:=m.f t x ((e.1 t).trans ht);⟨v,h1,hm _ _ h2⟩,m.n,m.d⟩,hm⟩
theorem ef.put {nt:Nat} {g g':Gh} {a:Act} {s:St} (m:ef ν k nt g a s) {h':Hp} {v:Value} {y:AV} {d:Option Nat} (hd:∀t,d=some t->t<nt) (hh:g'.h=h') (r':Rel ν k g') (hm:bY ν g g')
  (hv:RA ν g' v y):ef ν k nt g' (a.put d v) { s with fr:=bT s.fr d y,hp:=h' }:=by
 refine⟨hh,r',?_,?_,?_⟩
 ·cases d with
  |none=>exact m.f.mono hm
  |some d=>
   intro t x ht;simp only[ao.bT,bU]at ht;have bC:d<a.tmps.size:=Nat.lt_of_lt_of_le (hd d rfl) m.n;by_cases Ej:d=t
   ·subst Ej;simp only[if_true,Option.some.injEq]at ht;subst ht;exact⟨v,by simp[Act.put,bC],hv⟩
   ·rw[if_neg Ej]at ht;obtain⟨u,h1,h2⟩:=m.f t x ht;exact⟨u,by simp[Act.put,Array.getElem?_setIfInBounds_ne Ej,h1],hm _ _ h2⟩
 ·cases d with
  |none=>exact m.n
  |some d=>simpa[Act.put]using m.n
 ·cases d with
  |none=>exact m.d
  |some d=>exact m.d
def kF (P:Program) (ν:Nat->Nat) (nt:Nat) (ops:Array Oper) (o:Oper) (io:aJ):Bool:=
 o.dst==io.dst&&(match io.dst with | some d=>Nat.blt d nt | none=>true) &&
 (match o.guard,io.gd with | none,none=>true | some (j,b),some (t,c)=>b==c&&(ops[j]?).bind (·.dst)==some t | _,_=>false)&&Ah P ν o.op io.op
theorem mV {g:Gh} {a:Act} {s:St} {nt:Nat} (m:ef ν k nt g a s) {ops:Array Oper} {o:Oper} {io:aJ} (hc:kF P ν nt ops o io=true) {b:Bool} (h:cw s.fr io.gd=some b) :
  Region.wanted o (yielded ops a.tmps)=b:=by
 simp only[kF,Bool.and_eq_true]at hc;obtain⟨⟨_,hg⟩,_⟩:=hc;unfold Region.wanted;split at hg
 ·rename_i h1 h2;rw[h2]at h;simp only[cw,Option.some.injEq]at h;rw[h1];exact h
 ·rename_i j want t c h1 h2;simp only[Bool.and_eq_true,beq_iff_eq]at hg;obtain⟨rfl,hj⟩:=hg;rw[h2]at h;simp only[h1,yielded,hj,Option.bind_some];simp only[cw]at h;split at h
  ·rename_i c' ez;obtain⟨v,hv,hR⟩:=m.f _ _ ez;cases hR with
   |iv hI=>cases hI with
    |bool=>simp only[Option.some.injEq]at h;subst h;rw[hv];cases c'<;>cases want<;>rfl
  ·rename_i ez;obtain⟨v,hv,hR⟩:=m.f _ _ ez;cases hR with
   |bD hn _=>simp only[Option.some.injEq]at h;subst h;rw[hv];rfl
  ·cases h
 ·cases hg
theorem o9 {call:Nat->List AV->Hp->Option (AV×Hp)} (hs:cR ν P call) {nt:Nat} {ops:Array Oper} {o:Oper} {io:aJ} (hc:kF P ν nt ops o io=true) {g:Gh} {a:Act} {s s1:St} (m:ef ν k nt g a s)
  {slot:Nat} (e:step call slot io s=some s1) {next:Act->World->Prop} {Q:Exit->Act->World->Prop} (hn:∀g' a',ef ν k nt g' a' s1->bY ν g g'->next a' g'.w) :
  if Region.wanted o (yielded ops a.tmps) then o.wp P a g.w next Q else next (a.put o.dst undef) g.w:=by
 have dm:=hc;simp only[kF,Bool.and_eq_true,beq_iff_eq]at dm;obtain⟨⟨⟨hd,bC⟩, -⟩,qK⟩:=dm;have sC:∀t,io.dst=some t->t<nt:=by
  intro t ht;rw[ht]at bC;simpa[Nat.blt_eq]using bC
 unfold step at e;split at e
 ·rename_i hw;rw[mV m hc hw,if_pos rfl];cases hr:(bp call slot (ev s.fr) io.op).run s.hp with
  |none=>rw[hr]at e;cases e
  |some p=>
   obtain⟨y,h1⟩:=p;rw[hr]at e;simp only[Option.some.injEq]at e;subst e;refine Jj hs qK m.r m.f (slot:=slot) (y:=y) (h':=h1) (by rw[m.h];exact hr) λg' v hh r' hm hR=>?_
   rw[hd];exact hn g' _ (m.put sC hh r' hm hR) hm
 ·rename_i hw;rw[mV m hc hw,if_neg (by simp)];simp only[Option.some.injEq]at e;subst e;rw[hd];exact hn g _ (m.put sC m.h m.r (.refl ν g) (.bD rfl λj v c h=>by simp at h)) (.refl ν g)
 ·cases e
def fO (P:Program) (ν:Nat->Nat) (nt:Nat) (ops:Array Oper):List Oper->List aJ->Bool
 |[],[]=>true
 |o::r,io::ir=>kF P ν nt ops o io&&fO P ν nt ops r ir
 |_,_=>false
theorem j6 {nt:Nat} {ops:Array Oper}:∀{l:List Oper} {il:List aJ},fO P ν nt ops l il=true->l.length=il.length/\∀(i:Nat) (o:Oper) (io:aJ),l[i]?=some o->il[i]?=some io->kF P ν nt ops o io=true
 |[],[],_=>⟨rfl,λi o io h=>by simp at h⟩
 |o::r,io::ir,h=>by
  simp only[fO,Bool.and_eq_true]at h;obtain⟨h1,h2⟩:=j6 h.2;refine⟨by simp[h1],λi o' Lw e1 e2=>?_⟩;cases i with
  |zero=>simp at e1 e2;subst e1 e2;exact h.1
  |succ i=>exact h2 i o' Lw (by simpa using e1) (by simpa using e2)
 |[],_::_,h=>by simp[fO]at h
 |_::_,[],h=>by simp[fO]at h
theorem rR {call:Nat->List AV->Hp->Option (AV×Hp)} (hs:cR ν P call) {nt:Nat} {ops:Array Oper} {Q:Exit->Act->World->Prop}:∀(l:List Oper) (il:List aJ) (slot:Nat) (g:Gh) (a:Act) (s s':St),
  fO P ν nt ops l il=true->a7 call il slot s=some s'->ef ν k nt g a s->(∀g' a',ef ν k nt g' a' s'->bY ν g g'->Q .normal a' g'.w)->wpList P ops Q l a g.w
 |[],[],slot,g,a,s,s',_,e,m,hQ=>by
  simp only[a7,Option.some.injEq]at e;subst e;exact wpList_nil (hQ g a m (.refl ν g))
 |o::r,io::ir,slot,g,a,s,s',hc,e,m,hQ=>by
  simp only[fO,Bool.and_eq_true]at hc;simp only[a7]at e;cases h1:step call slot io s with
  |none=>rw[h1]at e;cases e
  |some s1=>
   rw[h1]at e;exact wpList_step λK hK=>o9 hs hc.1 m h1 λg' a' m' hm=>hK _ _ (rR hs r ir _ g' a' s1 s' hc.2 e m' λgQ wD wE eN=>hQ gQ wD wE (hm.trans eN))
 |[],_::_,_,_,_,_,_,hc,_,_,_=>by simp[fO]at hc
 |_::_,[],_,_,_,_,_,hc,_,_,_=>by simp[fO]at hc
def tag:Nat->List aJ->List cB->List (Nat×aJ×cB)
 |i,o::r,f::fs=>(i,o,f)::tag (i+1) r fs
 |_,_,_=>[]
theorem jk.tL {call:Nat->List AV->Hp->Option (AV×Hp)} {s0:Nat}:∀(il:List aJ) (i:Nat) (s s':St),a7 call il (s0+64*i) s=some s'->
  jk call s0 (tag i il (bn call il (s0+64*i) s)) s s'/\(bn call il (s0+64*i) s).length=il.length
 |[],i,s,s',e=>by
  simp only[a7,Option.some.injEq]at e;subst e;exact⟨.nil (.refl _),rfl⟩
 |o::r,i,s,s',e=>by
  simp only[a7]at e;simp only[bn];cases h1:step call (s0+64*i) o s with
  |none=>rw[h1]at e;cases e
  |some s1=>
   rw[h1]at e;obtain⟨q1,q2⟩:=jk.tL (s0:=s0) r (i+1) s1 s' e;exact⟨.cons h1 rfl q1,by simp only[List.length_cons];exact congrArg (·+ 1) q2⟩
theorem pa:∀{il:List aJ} {fs:List cB} {i:Nat} {x:Nat×aJ×cB},x ∈ tag i il fs->i<=x.1/\il[x.1 - i]?=some x.2.1/\fs[x.1 - i]?=some x.2.2
 |[],fs,i,x,h=>by simp[tag]at h
 |_::_,[],i,x,h=>by simp[tag]at h
 |o::r,f::fs,i,x,h=>by
  simp only[tag,List.mem_cons]at h;rcases h with rfl | h
  ·simp
  ·obtain⟨h1,h2,h3⟩:=pa h;have:x.1 - i=(x.1 - (i+1))+1:=by omega
   exact⟨by omega,by rw[this];simpa using h2,by rw[this];simpa using h3⟩
theorem tM:∀{il:List aJ} {fs:List cB} {i j:Nat} {o:aJ},fs.length=il.length->il[j]?=some o->∃x ∈ tag i il fs,x.1=i+j
 |[],fs,i,j,o,_,h=>by simp at h
 |_::_,[],i,j,o,hl,_=>by simp at hl
 |o'::r,f::fs,i,j,o,hl,h=>by
  cases j with
  |zero=>exact⟨_,List.mem_cons_self ..,rfl⟩
  |succ j=>
   obtain⟨x,h1,h2⟩:=tM (i:=i+1) (fs:=fs) (by simpa using hl) (by simpa using h);exact⟨x,List.mem_cons_of_mem _ h1,by omega⟩
def mL (x:aJ) (i:Nat):List aJ->Bool
 |[]=>true
 |y::r=>(y.lO.contains i||kN x y)&&mL x i r
def j7:Nat->List aJ->Bool
 |_,[]=>true
 |i,x::r=>mL x i r&&j7 (i+1) r
theorem me {x:aJ} {i:Nat}:∀{r:List aJ},mL x i r=true->∀y ∈ r,i ∉ y.lO->kN x y=true
 |[],_,y,hy,_=>by simp at hy
 |z::r,h,y,hy,hi=>by
  simp only[mL,Bool.and_eq_true,Bool.or_eq_true,List.contains_iff_mem]at h;rcases List.mem_cons.1 hy with rfl | hy
  ·exact h.1.resolve_left hi
  ·exact me h.2 y hy hi
theorem mW {x:cB} {i:Nat}:∀{fs:List cB} {cs:List (List Nat)},dC x i fs cs=true->∀(j:Nat) (f:cB) (c:List Nat),fs[j]?=some f->cs[j]?=some c->i ∉ c->c9 x f=false
 |[],cs,_,j,f,c,h,_,_=>by simp at h
 |_::_,[],_,j,f,c,_,h,_=>by simp at h
 |f'::fs,c'::cs,h,j,f,c,h1,h2,hi=>by
  simp only[dC,Bool.and_eq_true,Bool.or_eq_true,Bool.not_eq_true',List.contains_iff_mem]at h;cases j with
  |zero=>simp at h1 h2;subst h1 h2;exact h.1.resolve_right hi
  |succ j=>exact mW h.2 j f c (by simpa using h1) (by simpa using h2) hi
def PW (x y:Nat×aJ×cB):Prop:=x.1<y.1/\(x.1 ∉ y.2.1.lO->Am x y)
theorem wF:∀(il:List aJ) (fs:List cB) (i:Nat),j7 i il=true->(cL fs i (il.map (·.lO))=true\/∀f ∈ fs,f.2=[])->(tag i il fs).Pairwise PW
 |[],fs,i,_,_=>by simp[tag]
 |_::_,[],i,_,_=>by simp[tag]
 |o::r,f::fs,i,hT,hF=>by
  simp only[j7,Bool.and_eq_true]at hT;simp only[tag,List.pairwise_cons];refine⟨λy hy=>?_,wF r fs (i+1) hT.2 ?_⟩
  ·obtain⟨h1,h2,h3⟩:=pa hy;refine⟨by show i<y.1;omega,λhi=>⟨me hT.1 _ (List.mem_of_getElem? h2) hi,?_⟩⟩;rcases hF with hF | hF
   ·simp only[List.map_cons,cL,Bool.and_eq_true]at hF;exact mW hF.1 _ _ y.2.1.lO h3 (by simp[h2]) hi
   ·have e1:=hF f (List.mem_cons_self ..);have e2:=hF _ (List.mem_cons_of_mem _ (List.mem_of_getElem? h3));simp[c9,meets,e1,e2]
  ·rcases hF with hF | hF
   ·simp only[List.map_cons,cL,Bool.and_eq_true]at hF;exact .inl hF.2
   ·exact .inr λf' SS=>hF f' (List.mem_cons_of_mem _ SS)
def uD (cW:List aJ) (i:Nat) (o:Oper) (io:aJ):Bool:=
 o.after.toList.all (λe=>!Region.binds .any e||Nat.blt e.on i) &&
 io.lO.all λa=>o.after.toList.any λe=>Region.binds .any e&&(e.on==a||(match cW[e.on]? with | some x=>x.lO.contains a | none=>false))
def ot (cW:List aJ):Nat->List Oper->List aJ->Bool
 |i,o::r,io::ir=>uD cW i o io&&ot cW (i+1) r ir
 |_,_,_=>true
theorem mf {cW:List aJ}:∀{l:List Oper} {il:List aJ} {i:Nat},ot cW i l il=true->∀(j:Nat) (o:Oper) (io:aJ),l[j]?=some o->il[j]?=some io->uD cW (i+j) o io=true
 |[],_,_,_,j,o,io,h,_=>by simp at h
 |_::_,[],_,_,j,o,io,_,h=>by simp at h
 |o'::r,Lw::ir,i,h,j,o,io,h1,h2=>by
  simp only[ot,Bool.and_eq_true]at h;cases j with
  |zero=>simp at h1 h2;subst h1 h2;exact h.1
  |succ j=>have:=mf h.2 j o io (by simpa using h1) (by simpa using h2);rwa [show i+1+j=i+(j+1) by omega]at this
structure Rest (ops:Array Oper) (cW:List aJ) (L:List (Nat×aJ×cB)) (c7:Array Bool):Prop where
 size:c7.size=ops.size
 left:∀x ∈ L,x.1<ops.size/\c7[x.1]?=some false/\cW[x.1]?=some x.2.1
 all:∀(i:Nat),c7[i]?=some false->∃x ∈ L,x.1=i
 down:∀(i:Nat) (io:aJ),cW[i]?=some io->c7[i]?=some true->∀a ∈ io.lO,c7[a]?=some true
 pw:L.Pairwise PW
theorem BN {call:Nat->List AV->Hp->Option (AV×Hp)} (hs:cR ν P call) {nt:Nat} {ops:Array Oper} {cW:List aJ} {Q:Exit->Act->World->Prop} {s0:Nat} {s':St}
  (hc:fO P ν nt ops ops.toList cW=true) (Ek:ot cW 0 ops.toList cW=true):∀(n:Nat) (L:List (Nat×aJ×cB)) (c7:Array Bool) (g:Gh) (a:Act) (s:St),L.length=n->Rest ops cW L c7->
  jk call s0 L s s'->ef ν k nt g a s->(∀g' a',ef ν k nt g' a' s'->bY ν g g'->Q .normal a' g'.w)->wpAny P .any ops Q n c7 a g.w:=by
 intro n
 induction n with
 |zero=>
  intro L c7 g a s hn hl hr m hQ;cases L with
  |cons=>simp at hn
  |nil=>
   refine⟨?_,?_⟩
   ·refine List.eq_nil_iff_forall_not_mem.2 λj hj=>?_
    obtain⟨h1,o,ho, -⟩:=mem_ready.1 hj;have Lx:j<c7.size:=by rw[hl.size];exact(Array.getElem?_eq_some_iff.1 ho).1
    obtain⟨x,hx, -⟩:=hl.all j (by simp[Array.getD,Lx]at h1;simp[Lx,h1]);cases hx
   ·cases hr with
    |nil h=>
     obtain⟨m',hm⟩:=m.nA h;exact hQ { g with h:=s'.hp } a m' hm
 |succ n ih=>
  intro L c7 g a s hn hl hr m hQ;have dc:∀{j:Nat} {b:Bool} {d:Bool},c7.getD j d=b->b≠d->c7[j]?=some b:=by
   intro j b d h hb;by_cases hj:j<c7.size
   ·simp[Array.getD,hj]at h;simp[hj,h]
   ·simp[Array.getD,hj]at h;exact absurd h.symm hb
  obtain⟨hlen,ez⟩:=j6 hc;refine⟨λh0=>?_,λj hj=>?_⟩
  ·exfalso;cases L with
   |nil=>simp at hn
   |cons x r=>
    obtain⟨h1,h2,h3⟩:=hl.left x (List.mem_cons_self ..);have:x.1 ∈ Region.ready .any ops c7:=by
     have ho:ops[x.1]?=some ops[x.1]:=by simp[h1]
     refine mem_ready.2 ⟨by simp[Array.getD_eq_getD_getElem?,h2],_,ho,λe he hb=>?_⟩;have hA:=mf Ek x.1 ops[x.1] x.2.1 (by simp[h1]) h3;simp only[uD,Bool.and_eq_true,List.all_eq_true,Nat.zero_add]at hA;have bC:=hA.1 e (by simpa using he);simp only[hb,Bool.not_true,Bool.false_or,Nat.blt_eq]at bC;have El:e.on<c7.size:=by rw[hl.size];omega
     cases hv:c7[e.on]with
     |true=>simp[El,hv]
     |false=>
      obtain⟨y,hy,tD⟩:=hl.all e.on (by simp[El,hv]);rcases List.mem_cons.1 hy with rfl | hy
      ·omega
      ·have:=(List.pairwise_cons.1 hl.pw).1 y hy;have:=this.1;omega
    rw[h0]at this;cases this
  ·obtain⟨h1,o,ho,Jk⟩:=mem_ready.1 hj;obtain⟨x,hx,rfl⟩:=hl.all j (dc h1 (by simp));obtain⟨L1,L2,rfl⟩:=List.append_of_mem hx;obtain⟨bC,wG,rS⟩:=hl.left x hx;have hA:=mf Ek x.1 o x.2.1 (by simpa using ho) rS;simp only[uD,Bool.and_eq_true,List.all_eq_true,List.any_eq_true,Nat.zero_add]at hA;have sC:∀b ∈ x.2.1.lO,c7[b]?=some true:=by
    intro b hb;obtain⟨e,he,h2,h3⟩:=hA.2 b hb;have fp:=dc (Jk e (by simpa using he) h2) (by simp);simp only[Bool.or_eq_true,beq_iff_eq]at h3;rcases h3 with h3 | h3
    ·subst h3;exact fp
    ·split at h3
     ·rename_i y hy;exact hl.down e.on y hy fp b (by simpa using h3)
     ·cases h3
   have mX:=List.pairwise_append.1 hl.pw;have Em:=List.pairwise_cons.1 mX.2.1;obtain⟨s1,e1, -,r1⟩:=jk.front L1 s hr λy hy=>by
    obtain⟨q1,q2⟩:=mX.2.2 y hy x (List.mem_cons_self ..);refine q2 λhb=>?_
    have:=sC _ hb;rw[(hl.left y (by simp[hy])).2.1]at this;cases this
   have kU:Rest ops cW (L1++L2) (c7.setIfInBounds x.1 true):=by
    have cA:∀y ∈ L1++L2,x.1≠y.1:=by
     intro y hy;rcases List.mem_append.1 hy with hy | hy
     ·have:=(mX.2.2 y hy x (List.mem_cons_self ..)).1;omega
     ·have:=(Em.1 y hy).1;omega
    have rT:x.1<c7.size:=by rw[hl.size];exact bC
    refine⟨by simpa using hl.size,λy hy=>?_,λi hi=>?_,λi io Ao hi b hb=>?_,List.pairwise_append.2 ⟨mX.1,Em.2,λy hy z hz=>mX.2.2 y hy z (List.mem_cons_of_mem _ hz)⟩⟩
    ·obtain⟨q1,q2,q3⟩:=hl.left y (by rcases List.mem_append.1 hy with h | h<;>simp[h]);exact⟨q1,by rw[Array.getElem?_setIfInBounds_ne (cA y hy)];exact q2,q3⟩
    ·by_cases j8:x.1=i
     ·subst j8;simp[rT]at hi
     ·rw[Array.getElem?_setIfInBounds_ne j8]at hi;obtain⟨y,hy,Ap⟩:=hl.all i hi;refine⟨y,?_,Ap⟩;simp only[List.mem_append,List.mem_cons]at hy ⊢;rcases hy with h | rfl | h
      ·exact .inl h
      ·exact absurd Ap j8
      ·exact .inr h
    ·have jh:∀{b:Nat},c7[b]?=some true->(c7.setIfInBounds x.1 true)[b]?=some true:=by
      intro b hb;by_cases Ly:x.1=b
      ·subst Ly;simp[rT]
      ·rw[Array.getElem?_setIfInBounds_ne Ly];exact hb
     by_cases j8:x.1=i
     ·subst j8;rw[rS]at Ao;cases Ao;exact jh (sC b hb)
     ·rw[Array.getElem?_setIfInBounds_ne j8]at hi;exact jh (hl.down i io Ao hi b hb)
   unfold wpOp;simp only[ho];have hw:=o9 (Q:=Q) hs (ez x.1 o x.2.1 (by simpa using ho) rS) m e1 (next:=wpAny P .any ops Q n (c7.setIfInBounds x.1 true)) λg' a' m' hm=>
    ih (L1++L2) _ g' a' s1 (by simp at hn ⊢;omega) kU r1 m' λgQ wD wE eN=>hQ gQ wD wE (hm.trans eN)
   split
   ·rename_i h;rw[if_pos h]at hw;exact .inl hw
   ·rename_i h;rw[if_neg h]at hw;exact hw
def ou (P:Program) (ν:Nat->Nat) (nt:Nat) (draw:Bool) (ops:Array Oper) (cW:List aJ):Bool:=
 fO P ν nt ops ops.toList cW&&(!draw||(ot cW 0 ops.toList cW&&j7 0 cW))
theorem j9:∀(aX:List Nat) (fr:Fr) (t:Nat) (x:AV),get (an aX fr) t=some x->get fr t=some x
 |[],fr,t,x,h=>by simp[an,get]at h
 |k::r,fr,t,x,h=>by
  simp only[an]at h;cases hk:get fr k with
  |none=>rw[hk]at h;exact j9 r fr t x h
  |some y=>
   rw[hk]at h;simp only[get]at h;split at h
   ·rename_i h0;subst h0;rw[hk];exact h
   ·exact j9 r fr t x h
theorem ef.aX {nt:Nat} {g:Gh} {a:Act} {s:St} (m:ef ν k nt g a s) (aX:List Nat) (nx:Nat):ef ν k nt g a { fr:=an aX s.fr,hp:=s.hp,nx:=nx }:=
 ⟨m.h,m.r,λt x ht=>m.f t x (j9 aX s.fr t x ht),m.n,m.d⟩
theorem ov {call:Nat->List AV->Hp->Option (AV×Hp)} (hs:cR ν P call) (je:P.follows .mixedOrders=true) {nt id:Nat} {draw:Bool} {ops:Array Oper} {cW:List aJ} {aX:List Nat}
  (hc:ou P ν nt draw ops cW=true) {g:Gh} {a:Act} {s s':St} (e:aS call draw cW aX s=some s') (m:ef ν k nt g a s) {Q:Exit->Act->World->Prop}
  (hQ:∀g' a',ef ν k nt g' a' s'->bY ν g g'->Q .normal a' g'.w):(Code.region id ops draw).wp P Q a g.w:=by
 unfold aS at e;cases h1:a7 call cW s.nx s with
 |none=>rw[h1]at e;cases e
 |some s1=>
  rw[h1]at e;simp only[ou,Bool.and_eq_true]at hc;simp only[]at e;split at e
  ·rename_i wH;simp only[Option.some.injEq]at e;subst e;cases draw with
   |false=>exact wp_region_list (rR hs ops.toList cW s.nx g a s s1 hc.1 h1 m λg' a' m' hm=>hQ g' a' (m'.aX aX _) hm)
   |true=>
    simp only[Bool.not_true,Bool.false_or,Bool.and_eq_true]at wH hc;refine wp_region_any je ?_;obtain⟨r',hm⟩:=m.r.world (w':={ g.w with drawn:=g.w.drawn+1 }) (I':=g.I) (λ_ h=>h) (λ_ h=>.inl h) (Nat.le_refl _) rfl rfl rfl λ_ _=>rfl
    obtain⟨cP,hlen⟩:=jk.tL (s0:=s.nx) cW 0 s s1 (by simpa using h1);have hn:=(j6 hc.1).1;simp only[Array.length_toList]at hn;have mX:=wF cW (bn call cW (s.nx+64*0) s) 0 hc.2.2 (by
     simp only[dw,Bool.or_eq_true,List.all_eq_true,List.isEmpty_iff]at wH;exact wH.symm)
    have bC:(tag 0 cW (bn call cW (s.nx+64*0) s)).length=ops.size:=by
     rw[hn];generalize bn call cW (s.nx+64*0) s=fs at hlen;generalize 0=i;clear cP mX wH h1 hc hn hQ
     induction cW generalizing fs i with
     |nil=>simp[tag]
     |cons o r ih=>
      cases fs with
      |nil=>simp at hlen
      |cons f fs=>simp only[tag,List.length_cons];rw[ih fs (by simpa using hlen)]
    refine BN hs hc.1 hc.2.1 ops.size _ _ { g with w:={ g.w with drawn:=g.w.drawn+1 } } a s bC ?_ cP ⟨m.h,r',m.f.mono hm,m.n,m.d⟩ λg' a' m' eN=>hQ g' a' (m'.aX aX _) (hm.trans eN)
    refine⟨by simp,λx hx=>?_,λi hi=>?_,λi io _ hi=>?_,mX⟩
    ·obtain⟨q1,q2,q3⟩:=pa hx;simp only[Nat.sub_zero]at q2;have:x.1<ops.size:=by rw[hn];exact(List.getElem?_eq_some_iff.1 q2).1
     exact⟨this,by simp[this],q2⟩
    ·have cK:i<ops.size:=by
      have:=(Array.getElem?_eq_some_iff.1 hi).1;simpa using this
     obtain⟨x,hx,j8⟩:=tM (i:=0) (j:=i) (il:=cW) hlen (List.getElem?_eq_getElem (by omega));exact⟨x,hx,by omega⟩
    ·have cK:=(Array.getElem?_eq_some_iff.1 hi);obtain⟨q1,q2⟩:=cK;simp at q2
  ·cases e
end
section
variable {ν:Nat->Nat} {P:Program} {k:Cx}
theorem get_map {α β:Type} (f:Nat->α->β):∀(l:List (Nat×α)) (n:Nat),get (l.map λp=>(p.1,f p.1 p.2)) n=(get l n).map (f n)
 |[],_=>rfl
 |p::r,n=>by
  simp only[List.map_cons,get];by_cases h:p.1=n
  ·subst h;simp
  ·rw[if_neg h,if_neg h];exact get_map f r n
theorem get_filter {α:Type} (q:Nat->Bool):∀(l:List (Nat×α)) (n:Nat),get (l.filter λp=>q p.1) n=if q n then get l n else none
 |[],n=>by simp[get]
 |p::r,n=>by
  simp only[List.filter_cons];by_cases hq:q p.1=true
  ·rw[if_pos hq];simp only[get];by_cases h:p.1=n
   ·subst h;simp[hq]
   ·rw[if_neg h,if_neg h];exact get_filter q r n
  ·rw[if_neg hq,get_filter q r n];simp only[get];by_cases h:p.1=n
   ·subst h;simp[hq]
   ·rw[if_neg h]
theorem rU (kp:List Nat) (n0:Nat) (s:St) (id:Nat):get (again kp n0 s).hp id=if id<1000\/id<n0 then(get s.hp id).map (bG n0 s.hp id) else none:=by
 show get (List.map (λp=>(p.1,bG n0 s.hp p.1 p.2)) (List.filter (λp=>decide (p.1<1000)||decide (p.1<n0)) s.hp)) id=_
 rw[get_map (λn=>bG n0 s.hp n),get_filter (λn=>decide (n<1000)||decide (n<n0))];by_cases h:id<1000\/id<n0
 ·rw[if_pos h,if_pos (by simpa using h)]
 ·rw[if_neg h,if_neg (by simpa using h)];rfl
section
variable {kp:List Nat} {n0:Nat} {g:Gh} {s:St}
theorem Ct (hh:g.h=s.hp) {v:Value} {id o n aC:Nat} (cV:id<1000) (h:br g v id o n aC):br { g with h:=(again kp n0 s).hp } v id o n aC:=by
 unfold br at h ⊢;rw[hh]at h;rw[show get (again kp n0 s).hp id=(get s.hp id).map (bG n0 s.hp id) by rw[rU,if_pos (.inl cV)]];cases hg:get s.hp id with
 |none=>rw[hg]at h;exact h
 |some ob=>
  rw[hg]at h;cases ob with
  |cells cs=>exact h
  |buf v' e es=>simp only[Option.map_some,bG,if_pos cV];exact h
  |cm v' e es=>simp only[Option.map_some,bG,if_pos cV];exact h
  |map dh=>exact h
theorem Cu (hh:g.h=s.hp) {v:Value} {id aC i j:Nat} (cV:id<1000) (h:bA g v id aC i j):bA { g with h:=(again kp n0 s).hp } v id aC i j:=by
 unfold bA at h ⊢;rw[hh]at h;rw[show get (again kp n0 s).hp id=(get s.hp id).map (bG n0 s.hp id) by rw[rU,if_pos (.inl cV)]];cases hg:get s.hp id with
 |none=>rw[hg]at h;exact h
 |some ob=>
  rw[hg]at h;cases ob with
  |cells cs=>exact h
  |buf v' e es=>simp only[Option.map_some,bG,if_pos cV];exact h
  |cm v' e es=>simp only[Option.map_some,bG,if_pos cV];exact h
  |map dh=>exact h
theorem rV (hh:g.h=s.hp):∀(d:Nat) (v:Value) (x:AV),RA ν g v x->RA ν { g with h:=(again kp n0 s).hp } v (nrm n0 s.hp d x)
 |0,v,x,_=>.undef v
 |d+1,v,x,hx=>by
  cases hx with
  |undef=>exact .undef v
  |iv h=>exact .iv h
  |agg hn h1 hr=>
   refine .agg (by simpa using hn) h1 λj v c hv hc=>?_
   simp only[List.getElem?_map,Option.map_eq_some_iff]at hc;obtain⟨c',dm,rfl⟩:=hc;exact rV hh d v c' (hr j v c' hv dm)
  |bD hn hr=>
   refine .bD (by simpa using hn) λj v c hv hc=>?_
   simp only[List.getElem?_map,Option.map_eq_some_iff]at hc;obtain⟨c',dm,rfl⟩:=hc;exact rV hh d v c' (hr j v c' hv dm)
  |dg hn hr=>
   refine .dg (by simpa using hn) λj v c hv hc=>?_
   simp only[List.getElem?_map,Option.map_eq_some_iff]at hc;obtain⟨c',dm,rfl⟩:=hc;exact rV hh d v c' (hr j v c' hv dm)
  |@own _ id o n aC h1 h=>
   simp only[nrm];by_cases cV:id<1000
   ·rw[if_pos cV];exact .own h1 (Ct hh cV h)
   ·rw[if_neg cV];by_cases hn:id<n0
    ·rw[if_pos hn];have iq:get (again kp n0 s).hp id=(get s.hp id).map (bG n0 s.hp id):=by rw[rU,if_pos (.inr hn)]
     unfold br at h;rw[hh]at h;split
     ·rename_i v' e es hg;rw[hg]at h;split
      ·rename_i hv;refine .own h1 ?_;unfold br;rw[iq,hg];simp only[Option.map_some,bG,if_neg cV];exact⟨Nat.le_refl _,λ_=>h.2 hv⟩
      ·exact .undef v
     ·rename_i v' e es hg;rw[hg]at h;split
      ·rename_i hv;refine .own h1 ?_;unfold br;rw[iq,hg];simp only[Option.map_some,bG,if_neg cV];exact⟨Nat.le_refl _,λ_=>h.2 hv⟩
      ·exact .undef v
     ·exact .undef v
    ·rw[if_neg hn];exact .undef v
  |@ref _ id aC i j h1 h=>
   simp only[nrm];by_cases cV:id<1000
   ·rw[if_pos cV];exact .ref h1 (Cu hh cV h)
   ·rw[if_neg cV];by_cases hn:id<n0
    ·rw[if_pos hn];have iq:get (again kp n0 s).hp id=(get s.hp id).map (bG n0 s.hp id):=by rw[rU,if_pos (.inr hn)]
     unfold bA at h;rw[hh]at h;split
     ·rename_i v' e es hg;rw[hg]at h;split
      ·rename_i hv;refine .ref h1 ?_;unfold bA;rw[iq,hg];simp only[Option.map_some,bG,if_neg cV];exact⟨Nat.le_refl _,λ_=>h.2 hv⟩
      ·exact .undef v
     ·rename_i v' e es hg;rw[hg]at h;split
      ·rename_i hv;refine .ref h1 ?_;unfold bA;rw[iq,hg];simp only[Option.map_some,bG,if_neg cV];exact⟨Nat.le_refl _,λ_=>h.2 hv⟩
      ·exact .undef v
     ·rename_i cs hg;rw[hg]at h;refine .ref h1 ?_;unfold bA;rw[iq,hg];exact h
     ·rename_i dh hg;rw[hg]at h;refine .ref h1 ?_;unfold bA;rw[iq,hg];exact h
     ·exact .undef v
    ·rw[if_neg hn];exact .undef v
theorem Nw {nt:Nat} {a:Act} (m:ef ν k nt g a s):ef ν k nt { g with h:=(again kp n0 s).hp } a (again kp n0 s)/\lk g { g with h:=(again kp n0 s).hp }:=by
 have ez:∀{id:Nat} {o:Ob},get (again kp n0 s).hp id=some o->∃o',get g.h id=some o'/\o=bG n0 s.hp id o':=by
  intro id o ho;rw[rU]at ho;split at ho
  ·simp only[Option.map_eq_some_iff]at ho;obtain⟨o',h1,rfl⟩:=ho;exact⟨o',by rw[m.h];exact h1,rfl⟩
  ·cases ho
 refine⟨⟨rfl,⟨λid o ho=>?_,λid ed o o' b h1 h2 h3 h4=>?_,m.r.small,m.r.i0,m.r.i1,λid o b ho aB=>?_,m.r.size,m.r.os,m.r.tape,m.r.output,m.r.bu⟩,λt x ht=>?_,m.n,m.d⟩,
  ⟨λv id o n aC cV _ h=>Ct m.h cV h,λv id aC i j cV _ h=>Cu m.h cV h⟩⟩
 ·obtain⟨o',h1,rfl⟩:=ez ho;have bu:=m.r.ob id o' h1;cases o' with
  |cells cs=>
   obtain⟨b,e1,e2,e3,e4⟩:=bu;refine⟨b,e1,e2,e3,λj c hc=>?_⟩;simp only[List.getElem?_map,Option.map_eq_some_iff]at hc;obtain⟨c',dm,rfl⟩:=hc;obtain⟨v,c1,c2,c3⟩:=e4 j c' dm;exact⟨v,c1,c2,rV m.h 8 v c' c3⟩
  |buf v e es=>exact bu
  |cm v e es=>exact bu
  |map dh=>
   obtain⟨b,es,clock,e1,e2,e3,e4,e5,e6⟩:=bu;refine⟨b,es,clock,e1,e2,e3,e4,by simpa using e5,λj e p h1 h2=>?_⟩;simp only[List.getElem?_map,Option.map_eq_some_iff]at h2;obtain⟨p',hp,rfl⟩:=h2;obtain⟨c1,c2⟩:=e6 j e p' h1 hp;exact⟨rV m.h 8 _ _ c1,rV m.h 8 _ _ c2⟩
 ·obtain⟨p,q1, -⟩:=ez h1;obtain⟨p',q1', -⟩:=ez h2;exact m.r.inj id ed p p' b q1 q1' h3 h4
 ·obtain⟨p,q1, -⟩:=ez ho;exact m.r.own id p b q1 aB
 ·have:get (again kp n0 s).fr t=(get (an kp s.fr) t).map (nrm n0 s.hp 8):=get_map (λ_=>nrm n0 s.hp 8) (an kp s.fr) t;rw[this]at ht;simp only[Option.map_eq_some_iff]at ht;obtain⟨y,hy,rfl⟩:=ht;obtain⟨v,h1,h2⟩:=m.f t y (j9 _ _ _ _ hy);exact⟨v,h1,rV m.h 8 v y h2⟩
end
def Ex.U:Ex->Exit
 |.norm=>.normal
 |.exit i=>.exit i
 |.ret=>.ret
def ek (P:Program) (ν:Nat->Nat) (nt:Nat):Code->IC->Bool
 |.skip,.skip=>true
 |.label _,.skip=>true
 |.region _ ops draw,.ff d cW _=>draw==d&&ou P ν nt draw ops cW
 |.seq a b,.seq x y=>ek P ν nt a x&&ek P ν nt b y
 |.cond c a b,.cond d x y=>cp ν c d&&ek P ν nt a x&&ek P ν nt b y
 |.block id a,.block jd x=>id==jd&&ek P ν nt a x
 |.loop a,.loop _ x=>ek P ν nt a x
 |.exit id,.exit jd=>id==jd
 |.ret,.ret=>true
 |_,_=>false
theorem Cv {c:Code} {Q:Exit->Act->World->Prop} (I:Nat->Act->World->Prop) (h0:∀a w,¬I 0 a w)
  (round:∀n a w,I (n+1) a w->c.wp P (Exit.then (I n) Q) a w) {n:Nat} {a:Act} {w:World} (h:I n a w):(Code.loop c).wp P Q a w:=by
 intro b kk cs;have key:∀n a w,I n a w->∃e a' w',Q e a' w'/\Arrives P (lone (b.at a (.code c::.inLoop c::kk)) cs w) b kk cs e a' w':=by
  intro n
  induction n with
  |zero=>exact λa w h=>(h0 a w h).elim
  |succ n ih=>
   intro a w hI;obtain⟨e,BO,BP,hq,wI⟩:=round n a w hI b (.inLoop c::kk) cs;cases e with
   |normal=>
    obtain⟨Zp,Zq,Zr,Wm,QL⟩:=ih BO BP hq;exact⟨Zp,Zq,Zr,Wm,.of_steps (Steps.trans wI (.one step_inLoop)) QL⟩
   |exit id=>exact⟨_,BO,BP,hq,.pass (x:=.inLoop c) rfl (λ_ _=>.inl (by simp)) wI⟩
   |goto l=>exact⟨_,BO,BP,hq,.pass (x:=.inLoop c) rfl (λ_ _=>.inl (by simp)) wI⟩
   |ret=>exact⟨_,BO,BP,hq,.pass (x:=.inLoop c) rfl (λ_ _=>.inl (by simp)) wI⟩
   |panic ch=>exact⟨_,BO,BP,hq,.pass (x:=.inLoop c) rfl (λ_ _=>.inl (by simp)) wI⟩
   |outgrown=>exact⟨_,BO,BP,hq,.pass (x:=.inLoop c) rfl (λ_ _=>.inl (by simp)) wI⟩
 obtain⟨e,a',w',hq,wI⟩:=key n a w h;exact⟨e,a',w',hq,.of_steps (.one step_loop) wI⟩
theorem BQ {call:Nat->List AV->Hp->Option (AV×Hp)} (hs:cR ν P call) (je:P.follows .mixedOrders=true) {nt n:Nat}:∀(ic:IC) (c:Code),ek P ν nt c ic=true->
  ∀(g:Gh) (a:Act) (s:St) (r:Ex) (s':St),bd call n ic s=some (r,s')->ef ν k nt g a s->∀Q:Exit->Act->World->Prop,(∀g' a',ef ν k nt g' a' s'->lk g g'->Q r.U a' g'.w)->c.wp P Q a g.w:=by
 intro ic
 induction ic with
 |skip=>
  intro c hc g a s r s' e m Q hQ;simp only[bd,Option.some.injEq,Prod.mk.injEq]at e;obtain⟨rfl,rfl⟩:=e;cases c<;>simp only[ek,Bool.false_eq_true]at hc
  ·exact wp_skip (hQ g a m (.refl g))
  ·exact wp_label (hQ g a m (.refl g))
 |ff draw ops aX=>
  intro c hc g a s r s' e m Q hQ;cases c<;>simp only[ek,Bool.false_eq_true]at hc;rename_i id Zs Wn;simp only[Bool.and_eq_true,beq_iff_eq]at hc;obtain⟨rfl,hc⟩:=hc;simp only[bd,Option.map_eq_some_iff,Prod.mk.injEq]at e;obtain⟨s1,e1,rfl,rfl⟩:=e;exact ov hs je hc e1 m λg' a' m' hm=>hQ g' a' m' hm.low
 |seq x y En Eo=>
  intro c hc g a s r s' e m Q hQ;cases c<;>simp only[ek,Bool.false_eq_true]at hc;simp only[Bool.and_eq_true]at hc;refine wp_seq ?_;simp only[bd]at e;cases h1:bd call n x s with
  |none=>rw[h1]at e;cases e
  |some p=>
   obtain⟨r1,s1⟩:=p;rw[h1]at e;refine En _ hc.1 g a s r1 s1 h1 m _ λg' a' m' hm=>?_
   cases r1 with
   |norm=>exact Eo _ hc.2 g' a' s1 r s' e m' Q λgQ wD wE eN=>hQ gQ wD wE (hm.trans eN)
   |exit i=>simp only[Option.some.injEq,Prod.mk.injEq]at e;obtain⟨rfl,rfl⟩:=e;exact hQ g' a' m' hm
   |ret=>simp only[Option.some.injEq,Prod.mk.injEq]at e;obtain⟨rfl,rfl⟩:=e;exact hQ g' a' m' hm
 |cond d x y En Eo=>
  intro c hc g a s r s' e m Q hQ;cases c<;>simp only[ek,Bool.false_eq_true]at hc;rename_i cd cx cy;simp only[Bool.and_eq_true]at hc;simp only[bd]at e;split at e
  ·rename_i t ht;have hR:=aY m.f hc.1.1;rw[ht]at hR;generalize hv:a.eval cd=v at hR;cases hR with
   |iv h=>
    cases h with
    |bool=>
     refine wp_cond hv ?_;cases t with
     |true=>exact En _ hc.1.2 g a s r s' e m Q hQ
     |false=>exact Eo _ hc.2 g a s r s' e m Q hQ
  ·cases e
 |block id x ih=>
  intro c hc g a s r s' e m Q hQ;cases c<;>simp only[ek,Bool.false_eq_true]at hc;simp only[Bool.and_eq_true,beq_iff_eq]at hc;obtain⟨rfl,hc⟩:=hc;refine wp_block ?_;simp only[bd]at e;cases h1:bd call n x s with
  |none=>rw[h1]at e;cases e
  |some p=>
   obtain⟨r1,s1⟩:=p;rw[h1]at e;refine ih _ hc g a s r1 s1 h1 m _ λg' a' m' hm=>?_
   cases r1 with
   |norm=>simp only[Option.some.injEq,Prod.mk.injEq]at e;obtain⟨rfl,rfl⟩:=e;exact hQ g' a' m' hm
   |ret=>simp only[Option.some.injEq,Prod.mk.injEq]at e;obtain⟨rfl,rfl⟩:=e;exact hQ g' a' m' hm
   |exit i=>
    simp only[Ex.U,Exit.inBlock];simp only[]at e;split at e
    ·rename_i hi;simp only[Option.some.injEq,Prod.mk.injEq]at e;obtain⟨rfl,rfl⟩:=e;rw[if_pos hi];exact hQ g' a' m' hm
    ·rename_i hi;simp only[Option.some.injEq,Prod.mk.injEq]at e;obtain⟨rfl,rfl⟩:=e;rw[if_neg hi];exact hQ g' a' m' hm
 |loop aX x ih=>
  intro c hc g a s r s' e m Q hQ;cases c<;>simp only[ek,Bool.false_eq_true]at hc;rename_i cx;simp only[bd]at e;generalize mO:s.nx=n0 at e;subst mO;refine Cv (λj a w=>∃g1 s1,g1.w=w/\ef ν k nt g1 a s1/\lk g g1/\iter (bd call n x) aX s.nx j s1=some (r,s')) ?_ ?_ (n:=n) ⟨g,_,rfl,m.aX aX s.nx,.refl g,e⟩
  ·rintro a w ⟨g1,s1, -, -, -,h⟩;simp[iter]at h
  ·rintro j a w ⟨g1,s1,rfl,m1,jy,h⟩;simp only[iter]at h;cases h1:bd call n x s1 with
   |none=>rw[h1]at h;cases h
   |some p=>
    obtain⟨r2,s2⟩:=p;rw[h1]at h;refine ih _ hc g1 a s1 r2 s2 h1 m1 _ λg' a' m' hm=>?_
    cases r2 with
    |norm=>
     obtain⟨m2,iX⟩:=Nw (kp:=aX) (n0:=s.nx) m';exact⟨{ g' with h:=(again aX s.nx s2).hp },_,rfl,m2,(jy.trans hm).trans iX,h⟩
    |exit i=>simp only[Option.some.injEq,Prod.mk.injEq]at h;obtain⟨rfl,rfl⟩:=h;exact hQ g' a' m' (jy.trans hm)
    |ret=>simp only[Option.some.injEq,Prod.mk.injEq]at h;obtain⟨rfl,rfl⟩:=h;exact hQ g' a' m' (jy.trans hm)
 |exit id=>
  intro c hc g a s r s' e m Q hQ;cases c<;>simp only[ek,Bool.false_eq_true]at hc;simp only[bd,Option.some.injEq,Prod.mk.injEq]at e;obtain⟨rfl,rfl⟩:=e;rw[beq_iff_eq]at hc;subst hc;exact wp_exit (hQ g a m (.refl g))
 |ret=>
  intro c hc g a s r s' e m Q hQ;cases c<;>simp only[ek,Bool.false_eq_true]at hc;simp only[bd,Option.some.injEq,Prod.mk.injEq]at e;obtain⟨rfl,rfl⟩:=e;exact wp_ret (hQ g a m (.refl g))
end
section
variable {ν:Nat->Nat} {P:Program} {k:Cx}
theorem Hf {g:Gh} (r:Rel ν k g) {x y:AV} {h':Hp} (e:(eE x).run g.h=some (y,h')) {v:Value} (hv:RA ν g v x):∃I',ej ν k g h' I'/\RA ν { g with I:=I',h:=h' } v y:=by
 have rest:∀{x:AV},(bZ true x).run g.h=some (y,h')->RA ν g v x->∃I',ej ν k g h' I'/\RA ν { g with I:=I',h:=h' } v y:=by
  intro x e hv;obtain⟨I',f,hR⟩:=rO r e hv;exact⟨I',f,hR.up λ_ _ h=>h⟩
 cases x with
 |own id o n aC=>
  obtain⟨ob,hg,e2⟩:=M.cf e;cases hv with
  |own da ho=>
   cases ob with
   |cells cs=>exact(ah e2).elim
   |buf v' ee es=>
    obtain⟨_,e4⟩:=M.aL e2;obtain⟨rfl,rfl⟩:=ai e4;exact⟨g.I,.refl r,.own da ho⟩
   |cm v' ee es=>
    obtain⟨hb,e4⟩:=M.aL e2;obtain⟨rfl,rfl⟩:=ai e4;refine⟨g.I,.refl r,.iv (lZ r hg rfl ?_)⟩;unfold br at ho;rw[hg]at ho;exact ho.2 (beq_iff_eq.1 hb)
   |map _=>exact(ah e2).elim
 |undef=>exact rest (x:=.undef) e hv
 |iv x=>exact rest (x:=.iv x) e hv
 |bD vs=>exact rest (x:=.bD vs) e hv
 |agg cs=>exact rest (x:=.agg cs) e hv
 |ref id v i j=>exact rest (x:=.ref id v i j) e hv
 |dg f caps=>exact rest (x:=.dg f caps) e hv
def mY (tmps:Array Value):ResultVar->Sem Value
 |.tmp t=>pure (tmps.getD t undef)
 |.cell a t=>do loadVar t (<-asAddr (tmps.getD a undef))
def mg (P:Program):ResultVar->iO->Bool
 |.tmp t,.t n=>t==n
 |.cell a t,.cell n agg sz=>a==n&&lQ P t sz agg
 |.tmp t,.aX n=>t==n
 |.cell a t,.Iw n agg sz=>a==n&&lQ P t sz agg
 |_,_=>false
def fE (P:Program):List ResultVar->List iO->Bool
 |[],[]=>true
 |r::rs,x::xs=>mg P r x&&fE P rs xs
 |_,_=>false
theorem BR {t:TypeId} {v u:Value} {w w':World} (h:(Instr.loadAt t v).run P w = .ok u w'):(do loadVar t (<-asAddr v):Sem Value).run P w = .ok u w':=by
 unfold Instr.loadAt at h;cases v with
 |pointer a=>
  cases a with
  |none=>simp[Instr.sureAddr]at h
  |some a=>simpa[Instr.sureAddr,asAddr]using h
 |_=>simp[Instr.sureAddr]at h
theorem tN {g:Gh} (r:Rel ν k g) {a:Act} {fr:Fr} (hf:jB ν g a.tmps fr) {rv:ResultVar} {x:iO} (hc:mg P rv x=true) {y:AV} {h':Hp} (e:(dJ fr x).run g.h=some (y,h')) :
  ∃v g',(mY a.tmps rv).run P g.w = .ok v g.w/\g'.w=g.w/\g'.h=h'/\Rel ν k g'/\bY ν g g'/\RA ν g' v y:=by
 cases x with
 |t n=>
  cases rv with
  |cell=>simp[mg]at hc
  |tmp t=>
   obtain⟨I',f,hR⟩:=Hf r e (aY (ν:=ν) (x:=.tmp t) hf (by simpa[cp,mg]using hc));exact⟨_,{ g with I:=I',h:=h' },by simp[mY,Act.eval],rfl,rfl,f.rel,f.mono,hR⟩
 |cell n agg sz=>
  cases rv with
  |tmp=>simp[mg]at hc
  |cell t ty=>
   simp only[mg,Bool.and_eq_true]at hc;obtain⟨z,h1,e1,e2⟩:=aw e;obtain⟨rfl,u,hu,Lz⟩:=rC r hc.2 (aY (ν:=ν) (x:=.tmp t) hf (by simpa[cp]using hc.1)) e1;obtain⟨I',f,hR⟩:=Hf r e2 Lz;exact⟨u,{ g with I:=I',h:=h' },BR hu,rfl,rfl,f.rel,f.mono,hR⟩
 |aX n=>
  cases rv with
  |cell=>simp[mg]at hc
  |tmp t=>
   obtain⟨rfl,rfl⟩:=ai e;exact⟨_,g,by simp[mY,Act.eval],rfl,rfl,r,.refl ν g,aY (ν:=ν) (x:=.tmp t) (a:=a) hf (by simpa[cp,mg]using hc)⟩
 |Iw n agg sz=>
  cases rv with
  |tmp=>simp[mg]at hc
  |cell t ty=>
   simp only[mg,Bool.and_eq_true]at hc;obtain⟨rfl,u,hu,Lz⟩:=rC r hc.2 (aY (ν:=ν) (x:=.tmp t) hf (by simpa[cp]using hc.1)) e;exact⟨u,g,BR hu,rfl,rfl,r,.refl ν g,Lz⟩
theorem p8:∀(jl:List ResultVar) (xs:List iO) (g:Gh) (a:Act) (fr:Fr) (ys:List AV) (h':Hp),fE P jl xs=true->Rel ν k g->jB ν g a.tmps fr->(M.aG (dJ fr) xs).run g.h=some (ys,h')->
  ∃vs g',vs.length=jl.length/\(∀(j:Nat) (rv:ResultVar) (v:Value),jl[j]?=some rv->vs[j]?=some v->(mY a.tmps rv).run P g.w = .ok v g.w)/\g'.w=g.w/\g'.h=h'/\Rel ν k g'/\bY ν g g'/\RL ν g' vs ys
 |[],[],g,a,fr,ys,h',_,r,_,e=>by
  obtain⟨rfl,rfl⟩:=dS e;exact⟨[],g,rfl,λj rv v h=>by simp at h,rfl,rfl,r,.refl ν g,.nil⟩
 |rv::jl,x::xs,g,a,fr,ys,h',hc,r,hf,e=>by
  simp only[fE,Bool.and_eq_true]at hc;obtain⟨y,h1,zs,e1,e2,rfl⟩:=dx e;obtain⟨v,g1,q1,q2,q3,q4,q5,q6⟩:=tN r hf hc.1 e1;obtain⟨vs,g2,p1,p2,p3,p4,p5,p6,p7⟩:=p8 jl xs g1 a fr zs h' hc.2 q4 (hf.mono q5) (by rw[q3];exact e2);refine⟨v::vs,g2,by simp[p1],λj LA v' hj hv=>?_,p3.trans q2,p4,p5,q5.trans p6,.cons (p6 _ _ q6) p7⟩;cases j with
  |zero=>simp at hj hv;subst hj hv;exact q1
  |succ j=>have:=p2 j LA v' (by simpa using hj) (by simpa using hv);rwa [q2]at this
 |[],_::_,_,_,_,_,_,hc,_,_,_=>by simp[fE]at hc
 |_::_,[],_,_,_,_,_,hc,_,_,_=>by simp[fE]at hc
def BS:List Value->Value
 |[v]=>v
 |vs=>.tuple vs.toArray
theorem pI {fn:Func} {tmps:Array Value} {w:World} {jl:List ResultVar} (LC:fn.results=jl.toArray) (h4:jl.length<=4) {vs:List Value} (hl:vs.length=jl.length)
  (h:∀(j:Nat) (rv:ResultVar) (v:Value),jl[j]?=some rv->vs[j]?=some v->(mY tmps rv).run P w = .ok v w) :
  (results fn tmps).run P w = .ok (BS vs) w:=by
 have hd:(results fn tmps)=(do
   let vs <-fn.results.mapM (mY tmps)
   pure (if h:vs.size=1 then vs[0] else .tuple vs)):=by
  have hf:mY tmps=λrv=>(match rv with | .tmp t=>pure (tmps.getD t undef) | .cell a t=>do loadVar t (<-asAddr (tmps.getD a undef)):Sem Value):=by
   funext rv;cases rv<;>rfl
  rw[hf];rfl
 rw[hd,LC];clear LC
 match jl,vs,hl,h4,h with
 |[],[],_,_,_=>simp[BS]
 |[a],[v],_,_,h=>simp[BS,h 0 a v rfl rfl]
 |[a,b],[v,u],_,_,h=>simp[BS,h 0 a v rfl rfl,h 1 b u rfl rfl]
 |[a,b,c],[v,u,x],_,_,h=>simp[BS,h 0 a v rfl rfl,h 1 b u rfl rfl,h 2 c x rfl rfl]
 |[a,b,c,d],[v,u,x,y],_,_,h=>simp[BS,h 0 a v rfl rfl,h 1 b u rfl rfl,h 2 c x rfl rfl,h 3 d y rfl rfl]
 |_::_::_::_::_::_,_,_,h4,_=>simp at h4
theorem p9 {g:Gh} (r:Rel ν k g) {a:Act} {fr:Fr} (hf:jB ν g a.tmps fr) {fn:Func} {xs:List iO} (hc:fE P fn.results.toList xs=true) (h4:xs.length<=4) {y:AV} {h':Hp} (e:(ck fr xs).run g.h=some (y,h')) :
  ∃v g',(results fn a.tmps).run P g.w = .ok v g.w/\g'.w=g.w/\g'.h=h'/\Rel ν k g'/\bY ν g g'/\RA ν g' v y:=by
 have hlen:∀{jl:List ResultVar} {xs:List iO},fE P jl xs=true->jl.length=xs.length:=by
  intro jl
  induction jl with
  |nil=>intro xs h;cases xs with | nil=>rfl | cons=>simp[fE]at h
  |cons a r ih=>intro xs h;cases xs with | nil=>simp[fE]at h | cons x xs=>simp only[fE,Bool.and_eq_true]at h;simp[ih h.2]
 have hn:=hlen hc;have many:∀{ys:List AV},(M.aG (dJ fr) xs).run g.h=some (ys,h')->xs.length≠1->∃v g',(results fn a.tmps).run P g.w = .ok v g.w/\g'.w=g.w/\g'.h=h'/\Rel ν k g'/\bY ν g g'/\RA ν g' v (.bD ys):=by
  intro ys e cA;obtain⟨vs,g',p1,p2,p3,p4,p5,p6,p7⟩:=p8 fn.results.toList xs g a fr ys h' hc r hf e;refine⟨.tuple vs.toArray,g',?_,p3,p4,p5,p6,.bD (by simpa using p7.1) λj v c h1 h2=>p7.2 j v c (by simpa using h1) h2⟩;rw[pI (jl:=fn.results.toList) (by simp) (by omega) p1 p2];rcases vs with _ | ⟨v,_ | ⟨u,vs⟩⟩
  ·rfl
  ·exact absurd (hn.symm.trans p1.symm) (by simpa using cA)
  ·rfl
 rcases xs with _ | ⟨x,_ | ⟨x2,xs⟩⟩
 ·obtain⟨l,h1,e1,e2⟩:=aw e;obtain⟨rfl,rfl⟩:=ai e2;exact many e1 (by simp)
 ·rcases hl:fn.results.toList with _ | ⟨rv,_ | ⟨rv2,jl⟩⟩
  ·rw[hl]at hn;simp at hn
  ·rw[hl]at hc;simp only[fE,Bool.and_true]at hc;obtain⟨v,g',q1,q2,q3,q4,q5,q6⟩:=tN r hf hc e;refine⟨v,g',?_,q2,q3,q4,q5,q6⟩;refine pI (jl:=[rv]) (vs:=[v]) (by rw[<-hl]) (by simp) rfl λj LA v' hj hv=>?_
   cases j with
   |zero=>simp at hj hv;subst hj hv;exact q1
   |succ j=>simp at hj
  ·rw[hl]at hn;simp at hn
 ·obtain⟨l,h1,e1,e2⟩:=aw e;obtain⟨rfl,rfl⟩:=ai e2;exact many e1 (by simp)
end
def jq (d:Nat) (x:bf):aJ:=⟨some d,.eM x,none,[]⟩
def uE (e:Nat) (z:List IV):List aJ:=[⟨some 5,.qF e z 0 [],none,[]⟩,jq 6 (.t 0),⟨some 7,.app e (.t 5) (.t 6),none,[]⟩,jq 2 (.t 7)]
def Aq (P:Program) (nt e:Nat) (b:Oper):Bool:=
 b.dst==some 4&&Nat.blt 4 nt&&(match b.guard with | none=>true | _=>false)&&(match b.op with | .binOp .eql t (.tmp 3) (.const (.slice none 0 0)) _=>sliceB P t e | _=>false)
def rW (P:Program) (ν:Nat->Nat) (nt:Nat) (c:Code) (e:Nat) (z:List IV):Bool:=
 match c with
 |.seq (.region _ o1 false) (.seq (.seq (.region _ o2 false) (.cond (.tmp 4) (.seq (.region _ o3 false) .ret) .skip)) (.seq (.region _ o4 false) .ret))=>
  ou P ν nt false o1 [jq 2 (.c (.aV e))]&&(match o2.toList with | [a,b]=>kF P ν nt o2 a (jq 3 (.t 0))&&Aq P nt e b | _=>false) &&
  ou P ν nt false o3 [jq 2 (.c (.aV e))]&&ou P ν nt false o4 (uE e z)
 |_=>false
section
variable {ν:Nat->Nat} {P:Program} {k:Cx}
def mh:Nat->List AV->Hp->Option (AV×Hp):=λ_ _ _=>none
theorem gR:cR ν P mh:=λf args hp r dG e=>by simp[mh]at e
theorem Jl (h:Hp) (n:Nat) (x y:Ob):GE (set h n y) (set (set h n x) n y):=λm=>by
 by_cases hm:n=m<;>simp[bU,hm]
theorem ef.nx {nt:Nat} {g:Gh} {a:Act} {s:St} (m:ef ν k nt g a s) {fr:Fr} (hf:fr=s.fr) {hp:Hp} (hh:hp=s.hp) (n:Nat):ef ν k nt g a ⟨fr,hp,n⟩:=by
 subst hf hh;exact⟨m.h,m.r,m.f,m.n,m.d⟩
theorem Ep (e:Nat) (x:AV) (hp:Hp):aS mh false [jq 2 (.c (.aV e))] [0] ⟨[(0,x)],hp,1000⟩=some ⟨[(0,x)],hp,1064⟩:=rfl
theorem Er (e:Nat) (fr:Fr) (hp:Hp):aS mh false [jq 2 (.c (.aV e))] [2] ⟨fr,hp,1000⟩=some ⟨an [2] (set fr 2 (.iv (.aV e))),hp,1064⟩:=rfl
theorem Es {e:Nat} {z:List IV} (hz:z.length=e) {es:List (List IV)} {hp:Hp} (hf:get hp 1000=none) (hr:roomy es.length=true) :
  aS mh false (uE e z) [2] ⟨[(0,.iv (.sl e es))],hp,1000⟩=some ⟨[(2,.own 1000 0 es.length 1)],set (set hp 1000 (.buf 0 e [])) 1000 (.buf 1 e es),1256⟩:=by
 simp[aS,uE,jq,a7,step,cw,bp,az,M.aG,M.run,M.ok,M.fresh,M.write,hz,hf,bT,ao.set,ev,get,app,elems,M.look,bU,bO,hr,an]
theorem yZ {f:Nat} {fn:Func} {c:Code} (iw:P.funcs[ν f]?=some fn) (hb:fn.body=some c) (je:P.follows .mixedOrders=true) {e:Nat} {z:List IV} (hc:rW P ν fn.ntmps c e z=true)
  (Et:fE P fn.results.toList [.t 2]=true) {args:List AV} {hp:Hp} {r:AV} {dG:Hp} (he:(nX e args).run hp=some (r,dG)):mU ν P f args hp r dG:=by
 intro k0 g0 bP hh SU LD r0 gM;unfold nX at he;split at he
 case h_2=>exact(ah he).elim
 rename_i e' es;obtain⟨_,h1,e1,e2⟩:=aw he;obtain⟨hk,rfl⟩:=sn e1;simp only[Bool.and_eq_true,beq_iff_eq]at hk;obtain⟨rfl,iM⟩:=hk;obtain⟨_,h2,e3,e4⟩:=aw e2;obtain⟨eJ,rfl⟩:=M.fC e3;obtain⟨_,h3,e5,e6⟩:=aw e4;obtain rfl:=bV e5;obtain⟨_,h4,e7,e8⟩:=aw e6;obtain rfl:=bV e7;obtain⟨rfl,rfl⟩:=ai e8;clear he e1 e2 e3 e4 e5 e6 e7 e8;obtain⟨cv,mT⟩:∃cv,bP=#[cv]:=by
  have:=gM.1;simp only[List.length_cons,List.length_nil,Nat.zero_add,Array.length_toList]at this;obtain⟨l⟩:=bP
  match l,this with
  |[v],_=>exact⟨v,rfl⟩
 subst mT;have Hg:RA ν g0 cv (.iv (.sl e' es)):=gM.2 0 _ _ rfl rfl;refine calls_of_wp iw hb ?_;have m0:ef ν k0 fn.ntmps g0 { tmps:=#[cv]++Array.replicate (fn.ntmps - 1) undef,defers:=[] } ⟨[(0,.iv (.sl e' es))],h2,1000⟩:=by
  refine⟨hh,r0,λt x ht=>?_,by simp;omega,rfl⟩;simp only[get]at ht;split at ht
  ·rename_i h0;subst h0;simp only[Option.some.injEq]at ht;subst ht;exact⟨cv,by simp[Array.getElem?_append],Hg⟩
  ·cases ht
 unfold rW at hc;split at hc
 case h_2=>cases hc
 rename_i i1 o1 i2 o2 i3 o3 i4 o4;simp only[Bool.and_eq_true]at hc;obtain⟨⟨⟨nJ,sD⟩,Eu⟩,Ew⟩:=hc;split at sD
 case h_2=>cases sD
 rename_i oa ob hl;simp only[Bool.and_eq_true]at sD;obtain⟨SV,jI⟩:=sD;simp only[Aq,Bool.and_eq_true,beq_iff_eq]at jI;obtain⟨⟨⟨sE,yg⟩,LF⟩,Ey⟩:=jI;have Nx:ob.guard=none:=by
  split at LF
  ·assumption
  ·cases LF
 split at Ey
 case h_2=>cases Ey
 rename_i t yt Ny;obtain⟨el,ti,pT, -, -⟩:=ju Ey;refine wp_seq (ov gR je nJ (Ep e' (.iv (.sl e' es)) h2) m0 λg1 a1 m1 jy=>?_);refine wp_seq (wp_seq (wp_region_list ?_));rw[hl];refine wpList_step λK hK=>o9 (slot:=0) (s1:=⟨[(0,.iv (.sl e' es)),(3,.iv (.sl e' es))],h2,1064⟩) gR SV m1 rfl λg2 a2 m2 iX=>hK _ _ ?_
 refine wpList_step λK2 cZ=>?_
 simp only[Region.wanted,Nx,if_true];obtain⟨v3,LH,SX⟩:=m2.f 3 _ rfl;have oS:a2.eval (.tmp 3)=v3:=by simp[Act.eval,Array.getD,(Array.getElem?_eq_some_iff.1 LH).1,(Array.getElem?_eq_some_iff.1 LH).2]
 obtain⟨aa,n,cap,kV,uw⟩:∃aa n cap,v3 = .slice aa n cap/\(aa=none->es=[]):=by
  cases SX with
  |iv h=>
   cases h with
   |jg a cap e=>exact⟨a,0,cap,rfl,λ_=>rfl⟩
   |sl b off n cap e es f=>exact⟨_,n,cap,rfl,λh=>by cases h⟩
 subst kV;have cP:(execOp a2.eval ob).run P g2.w = .ok (.value (.bool aa.isNone)) g2.w:=by
  have hg:eqGuard .eql t (.tmp 3) (.const (.slice none 0 0)) (.slice aa n cap) (.slice none 0 0)=pure ():=rfl;have:=Lib.run_eql_slice_nil g2.w t el aa n cap 0 0 pT;simp only[execOp,Ny,oS,show a2.eval (.const (.slice none 0 0)) = .slice none 0 0 from rfl,hg];simp only[Sem.run_bind,Sem.run_pure,Result.andThen_ok,this]
 unfold Oper.wp;rw[cP,Oper.upon_value];refine cZ _ _ (wpList_nil ?_);have m3:=m2.put (d:=some 4) (v:=.bool aa.isNone) (y:=.iv (.bool aa.isNone)) (λt ht=>by cases ht;simpa using yg) m2.h m2.r (.refl ν g2) (.iv (.bool _));rw[<-sE]at m3;simp only[Exit.then];have uF:(a2.put ob.dst (.bool aa.isNone)).eval (.tmp 4) = .bool aa.isNone:=by
  have:=aY (ν:=ν) (x:=.tmp 4) (y:=.t 4) m3.f (by rfl);have Nz:ev (bT [(0,AV.iv (.sl e' es)),(3,.iv (.sl e' es))] ob.dst (.iv (.bool aa.isNone))) (.t 4) = .iv (.bool aa.isNone):=by rw[sE];rfl
  rw[Nz]at this;generalize(a2.put ob.dst (.bool aa.isNone)).eval (.tmp 4)=u at this;cases this with
  |iv h=>cases h;rfl
 refine wp_cond uF ?_;have fin:∀(g':Gh) (a':Act),ef ν k0 fn.ntmps g' a' ⟨[(2,.own 1000 0 es.length 1)],set (set h2 1000 (.buf 0 e' [])) 1000 (.buf 1 e' es),1256⟩->lk g0 g'->
   a'.defers=[]/\∃v,(results fn a'.tmps).run P g'.w = .ok v g'.w/\∃u gQ,Ending.returned v = .returned u/\gQ.w=g'.w/\gQ.h=set (set h2 1000 (.buf 0 e' [])) 1000 (.buf 1 e' es)/\Rel ν k0 gQ/\lk g0 gQ/\
    RA ν gQ u (.own 1000 0 es.length 1):=by
  intro g' a' m' hm;obtain⟨v,gQ,q1,q2,q3,q4,q5,q6⟩:=p9 (y:=.own 1000 0 es.length 1) (h':=set (set h2 1000 (.buf 0 e' [])) 1000 (.buf 1 e' es)) m'.r m'.f Et (by simp) (by
   rw[m'.h];simp[ck,dJ,eE,ev,get,M.look,M.bind,M.run,bU,M.ok])
  exact⟨m'.d,v,q1,v,gQ,rfl,q2,q3,q4,hm.trans q5.low,q6⟩
 cases aa with
 |none=>
  obtain rfl:=uw rfl;simp only[Option.isNone_none,if_true]at m3 ⊢;refine wp_seq (ov gR je Eu (Er e' _ h2) (m3.nx rfl rfl 1000) λg4 a4 m4 wJ=>wp_ret ?_);have yX:=m4.r.new (s:=1000) (ob:=.buf 1 e' []) (p:=none) (w':=g4.w) (by rw[m4.h];exact eJ) (Nat.le_refl _) rfl rfl rfl (λ_ _=>rfl) (λb h=>by cases h) λ_=>.inl ⟨aU g4.φ 1000 none,rfl⟩
  have ye:GE (set g4.h 1000 (.buf 1 e' [])) (set (set h2 1000 (.buf 0 e' [])) 1000 (.buf 1 e' [])):=by rw[m4.h];exact Jl _ _ _ _
  obtain⟨r5,PH⟩:=Rel.he yX.1 ye;refine fin { g4 with φ:=cG g4.φ 1000 none,h:=set (set h2 1000 (.buf 0 e' [])) 1000 (.buf 1 e' []) } a4 ⟨rfl,r5,λt x ht=>?_,m4.n,m4.d⟩ ((((jy.trans iX).trans wJ).trans yX.2).trans PH).low;simp only[get]at ht;split at ht
  ·rename_i SY;subst SY;simp only[Option.some.injEq]at ht;subst ht;obtain⟨u,hu,hRu⟩:=m4.f 2 (.iv (.aV e')) (by rw[sE];rfl);refine⟨u,hu,?_⟩;cases hRu with
   |iv h=>
    cases h with
    |aV a e=>
     refine .own rfl ?_;unfold br;simp only[ar,aU];exact⟨Nat.le_refl _,λ_=>⟨⟨a,rfl⟩,rfl⟩⟩
  ·cases ht
 |some ad=>
  simp only[Option.isNone_some,Bool.false_eq_true,if_false]at m3 ⊢;refine wp_skip ?_;simp only[Exit.then];have m3':ef ν k0 fn.ntmps g2 (a2.put ob.dst (.bool false)) ⟨[(0,.iv (.sl e' es))],h2,1000⟩:=⟨m3.h,m3.r,λt x ht=>m3.f t x (by
   simp only[get]at ht;split at ht
   ·rename_i h0;subst h0;rw[sE];exact ht
   ·cases ht),m3.n,m3.d⟩
  have hz:z.length=e':=by
   simp only[ou,Bool.and_eq_true]at Ew;have:=(j6 Ew.1);have hlen:=this.1;have h0:=this.2 0 (o4.toList[0]'(by rw[hlen];simp[uE])) _ (List.getElem?_eq_getElem _) rfl;simp only[kF,Bool.and_eq_true]at h0;have h1:=h0.2;simp only[Ah]at h1;split at h1
   ·simp only[Bool.and_eq_true,Jd]at h1;have h2:=h1.1.2;split at h2
    ·simp only[Bool.and_eq_true,beq_iff_eq]at h2;exact h2.1.2
    ·cases h2
   ·cases h1
  refine wp_seq (ov gR je Ew (Es hz eJ iM) m3' λg4 a4 m4 wJ=>wp_ret ?_);exact fin g4 a4 m4 ((jy.trans iX).trans wJ).low
end
section
variable {ν:Nat->Nat} {P:Program} {k:Cx}
def yh (P:Program) (ν:Nat->Nat) (fn:Func) (c:Code) (ir:aA):Bool:=
 (match ir.cl with | some p=>(if Nat.blt p.1 1000000 then rW P ν fn.ntmps c p.1 p.2&&fE P fn.results.toList [.t 2] else ek P ν fn.ntmps c ir.body) | none=>ek P ν fn.ntmps c ir.body)&&fE P fn.results.toList ir.res&&Nat.ble ir.res.length 4
def tO (P:Program) (ν:Nat->Nat) (f:Nat) (ir:aA):Prop:=
 match ir.cl with
 |none=>True
 |some p=>Nat.blt p.1 1000000=true\/∀args hp r dG,k7 p.1 args hp=some (r,dG)->mU ν P f args hp r dG
def oT (P:Program) (ν:Nat->Nat) (prog:Nat->Option aA):Prop:=
 ∀f ir,prog f=some ir->∃fn c,P.funcs[ν f]?=some fn/\fn.body=some c/\(fn.name=="runtime.NumGoroutine")=false/\yh P ν fn c ir=true/\tO P ν f ir
theorem ow:∀(l:List AV) (i t:Nat),get (params l i) t=if i<=t then l[t - i]? else none
 |[],i,t=>by simp[params,get]
 |x::r,i,t=>by
  simp only[params,get];by_cases h:i=t
  ·subst h;simp
  ·rw[if_neg h,ow r (i+1) t];by_cases h':i+1<=t
   ·rw[if_pos h',if_pos (by omega)];have:t - i=(t - (i+1))+1:=by omega
    rw[this];simp
   ·rw[if_neg h',if_neg (by omega)]
theorem sound (je:P.follows .mixedOrders=true) {prog:Nat->Option aA} (tie:oT P ν prog):∀n,cR ν P (aZ prog n):=by
 intro n
 induction n with
 |zero=>intro f args hp r dG e;simp[aZ]at e
 |succ n ih=>
  intro f args hp r dG e;simp only[aZ]at e;cases hf:prog f with
  |none=>rw[hf]at e;cases e
  |some ir=>
   rw[hf]at e;simp only[]at e;obtain⟨fn,c,iw,hb,Al,nK,PI⟩:=tie f ir hf;refine⟨⟨fn,iw,by simp[hb],Al⟩,?_⟩;simp only[yh,Bool.and_eq_true,Nat.ble_eq]at nK;have main:ek P ν fn.ntmps c ir.body=true->(if args.length=ir.np then
     match bd (aZ prog n) n ir.body ⟨params args 0,hp,1000⟩with
     |some (.norm,s) | some (.ret,s)=>(ck s.fr ir.res).run s.hp
     |_=>none
    else none)=some (r,dG)->mU ν P f args hp r dG:=by
    intro wc e;split at e
    ·rename_i hlen;intro k0 g0 bP hh SU LD r0 gM;refine calls_of_wp iw hb ?_;have m0:ef ν k0 fn.ntmps g0 { tmps:=bP++Array.replicate (fn.ntmps - bP.size) undef,defers:=[] } ⟨params args 0,hp,1000⟩:=by
      refine⟨hh,r0,λt x ht=>?_,by simp;omega,rfl⟩;simp only[ow,Nat.zero_le,if_true,Nat.sub_zero]at ht;have bC:t<bP.size:=by have:=gM.1;have:=bg ht;simp only[Array.length_toList]at *;omega
      refine⟨bP[t],by simp[Array.getElem?_append,bC],gM.2 t _ _ (by simp[bC]) ht⟩
     cases he:bd (aZ prog n) n ir.body ⟨params args 0,hp,1000⟩with
     |none=>rw[he]at e;cases e
     |some p=>
      obtain⟨ex,s⟩:=p;rw[he]at e;have fin:∀(g':Gh) (a':Act),ef ν k0 fn.ntmps g' a' s->lk g0 g'->(ck s.fr ir.res).run s.hp=some (r,dG)->a'.defers=[]/\∃v,(results fn a'.tmps).run P g'.w = .ok v g'.w/\
        ∃u gQ,Ending.returned v = .returned u/\gQ.w=g'.w/\gQ.h=dG/\Rel ν k0 gQ/\lk g0 gQ/\RA ν gQ u r:=by
       intro g' a' m' hm hr;obtain⟨v,gQ,q1,q2,q3,q4,q5,q6⟩:=p9 m'.r m'.f nK.1.2 nK.2 (by rw[m'.h];exact hr);exact⟨m'.d,v,q1,v,gQ,rfl,q2,q3,q4,hm.trans q5.low,q6⟩
      refine BQ ih je ir.body c wc g0 _ _ ex s he m0 _ λg' a' m' hm=>?_
      cases ex with
      |norm=>exact fin g' a' m' hm e
      |ret=>exact fin g' a' m' hm e
      |exit i=>cases e
    ·cases e
   cases fe:ir.cl with
   |some p=>
    unfold tO at PI;rw[fe]at e nK PI;simp only[]at e nK PI;split at e
    ·rename_i hq;rw[if_pos hq]at nK;simp only[Bool.and_eq_true]at nK;exact yZ iw hb je nK.1.1.1 nK.1.1.2 e
    ·rename_i hq;rw[if_neg hq]at nK;split at e
     ·rename_i r' hr;cases e;exact(PI.resolve_left hq) _ _ _ _ hr
     ·exact main nK.1.1 e
   |none=>
   rw[fe]at e nK;exact main nK.1.1 e
end
end ao
class ay (H:Type) (α:outParam Type) where make::
 get:H->Nat->Option α
 set:H->Nat->α->H
 law:∀(h:H) (n m:Nat) (x:α),get (set h n x) m=if n=m then some x else get h m
namespace ay
open Go ao
theorem bU {H α:Type} [ay H α] (h:H) (n m:Nat) (x:α):get (set h n x) m=if n=m then some x else get h m:=ay.law h n m x
theorem ar {H α:Type} [ay H α] (h:H) (n:Nat) (x:α):get (set h n x) n=some x:=by simp[bU]
theorem aF {H α:Type} [ay H α] (h:H) {n m:Nat} (x:α) (cA:n≠m):get (set h n x) m=get h m:=by simp[bU,cA]
inductive Tr (α:Type) where
 |nil
 |node (v:Option α) (l r:Tr α)
 deriving Inhabited
def Tr.look {α:Type}:Tr α->Nat->Option α
 |.nil,_=>none
 |.node v _ _,0=>v
 |.node _ l r,n+1=>if n % 2=0 then l.look (n / 2) else r.look (n / 2)
def Tr.put {α:Type}:Nat->Nat->α->Tr α->Tr α
 |0,_,_,t=>t
 |_+1,0,x,.nil=>.node (some x) .nil .nil
 |_+1,0,x,.node _ l r=>.node (some x) l r
 |f+1,n+1,x,.nil=>if n % 2=0 then .node none (Tr.put f (n / 2) x .nil) .nil else .node none .nil (Tr.put f (n / 2) x .nil)
 |f+1,n+1,x,.node v l r=>if n % 2=0 then .node v (Tr.put f (n / 2) x l) r else .node v l (Tr.put f (n / 2) x r)
theorem Tr.look_nil {α:Type} (n:Nat):(Tr.nil:Tr α).look n=none:=by cases n<;>rfl
theorem Tr.NA {α:Type} (x:α):∀(f n m:Nat) (t:Tr α),n<f->(Tr.put f n x t).look m=if n=m then some x else t.look m:=by
 intro f
 induction f with
 |zero=>intro n m t h;omega
 |succ f ih=>
  intro n m t h;have key:∀{n m:Nat},n % 2=m % 2->(n / 2=m / 2↔n=m):=λh=>by omega
  cases n with
  |zero=>cases t<;>cases m<;>simp[Tr.put,Tr.look]
  |succ n=>
   have hn:n / 2<f:=by omega
   cases t with
   |nil=>
    cases m with
    |zero=>simp only[Tr.put];split<;>simp[Tr.look]
    |succ m=>
     simp only[Tr.put];by_cases h1:n % 2=0<;>by_cases h2:m % 2=0<;>simp only[h1,h2,if_true,if_false,Tr.look,ih _ _ _ hn,Nat.add_right_cancel_iff]
     ·simp only[key (h1.trans h2.symm)]
     ·rw[if_neg (by omega)]
     ·rw[if_neg (by omega)]
     ·simp only[key (show n % 2=m % 2 by omega)]
   |node v l r=>
    cases m with
    |zero=>simp only[Tr.put];split<;>simp[Tr.look]
    |succ m=>
     simp only[Tr.put];by_cases h1:n % 2=0<;>by_cases h2:m % 2=0<;>simp only[h1,h2,if_true,if_false,Tr.look,ih _ _ _ hn,Nat.add_right_cancel_iff]
     ·simp only[key (h1.trans h2.symm)]
     ·rw[if_neg (by omega)]
     ·rw[if_neg (by omega)]
     ·simp only[key (show n % 2=m % 2 by omega)]
instance {α:Type}:ay (Tr α) α where
 get:=Tr.look
 set t n x:=Tr.put (n+1) n x t
 law _ n _ x:=Tr.NA x _ _ _ _ (Nat.lt_succ_self n)
instance {α:Type}:ay (List (Nat×α)) α where
 get:=ao.get
 set:=ao.set
 law:=ao.bU
theorem dV {α:Type} (n:Nat):get ([]:List (Nat×α)) n=none:=rfl
theorem aP {α:Type} (p:Nat×α) (r:List (Nat×α)) (n:Nat):get (p::r) n=if p.1=n then some p.2 else get r n:=rfl
theorem wK {α:Type} (n:Nat):get (Tr.nil:Tr α) n=none:=Tr.look_nil n
inductive AV where
 |undef
 |iv (x:IV)
 |iQ (q:Nat)
 |agg (cs:List AV)
 |bD (vs:List AV)
 |own (id o n v:Nat)
 |ref (id v i j:Nat)
 |dg (f:Nat) (fs caps:List AV)
 deriving Inhabited
abbrev AV.nI (n:Int):AV:=.iv (.int .i64 n)
abbrev AV.bI (b:Bool):AV:=.iv (.bool b)
inductive Ob where
 |cells (cs:List AV)
 |buf (v e:Nat) (es:List (List AV))
 |cm (v e:Nat) (es:List (List IV))
 |gX (xs:List IV)
 |map (dh:List (AV×AV))
 deriving Inhabited
mutual
def qM:IV->IV->Bool
 |.bool a,.bool b=>a==b
 |.int k a,.int j b=>k==j&&a==b
 |.str a,.str b=>a.data.toList==b.data.toList
 |.aV a,.aV b=>a==b
 |.sl a x,.sl b y=>a==b&&sF x y
 |.dM,.dM=>true
 |.ptr x,.ptr y=>te x y
 |.fn f x,.fn g y=>f==g&&te x y
 |.junk,.junk=>true
 |_,_=>false
def te:List IV->List IV->Bool
 |[],[]=>true
 |x::xs,y::ys=>qM x y&&te xs ys
 |_,_=>false
def sF:List (List IV)->List (List IV)->Bool
 |[],[]=>true
 |x::xs,y::ys=>te x y&&sF xs ys
 |_,_=>false
end
mutual
theorem LI:∀{x y:IV},qM x y=true->x=y
 |.bool a,y,h=>by cases y<;>simp_all [qM]
 |.int k a,y,h=>by cases y<;>simp_all [qM]
 |.str a,y,h=>by
  cases y<;>simp[qM]at h;rename_i b;obtain⟨⟨a⟩⟩:=a;obtain⟨⟨b⟩⟩:=b;simp at h;rw[h]
 |.aV a,y,h=>by cases y<;>simp_all [qM]
 |.sl a x,y,h=>by
  cases y<;>simp[qM]at h;rw[h.1,y5 h.2]
 |.dM,y,h=>by cases y<;>simp_all [qM]
 |.ptr x,y,h=>by
  cases y<;>simp[qM]at h;rw[tP h]
 |.fn f x,y,h=>by
  cases y<;>simp[qM]at h;rw[h.1,tP h.2]
 |.junk,y,h=>by cases y<;>simp_all [qM]
theorem tP:∀{x y:List IV},te x y=true->x=y
 |[],y,h=>by cases y<;>simp_all [te]
 |x::xs,y,h=>by
  cases y<;>simp[te]at h;rw[LI h.1,tP h.2]
theorem y5:∀{x y:List (List IV)},sF x y=true->x=y
 |[],y,h=>by cases y<;>simp_all [sF]
 |x::xs,y,h=>by
  cases y<;>simp[sF]at h;rw[tP h.1,y5 h.2]
end
mutual
theorem Ez:∀x:IV,qM x x=true
 |.bool _ | .int _ _ | .str _ | .aV _ | .dM | .junk=>by simp[qM]
 |.sl _ x=>by simp[qM,uG x]
 |.ptr x | .fn _ x=>by simp[qM,sG x]
theorem sG:∀x:List IV,te x x=true
 |[]=>rfl
 |x::xs=>by simp[te,Ez x,sG xs]
theorem uG:∀x:List (List IV),sF x x=true
 |[]=>rfl
 |x::xs=>by simp[sF,sG x,uG xs]
end
mutual
def qa:AV->AV->Bool
 |.undef,.undef=>true
 |.iv x,.iv y=>qM x y
 |.iQ a,.iQ b=>a==b
 |.agg x,.agg y=>qq x y
 |.bD x,.bD y=>qq x y
 |.own a b c d,.own a' b' c' d'=>a==a'&&b==b'&&c==c'&&d==d'
 |.ref a b c d,.ref a' b' c' d'=>a==a'&&b==b'&&c==c'&&d==d'
 |.dg f x y,.dg g x' y'=>f==g&&qq x x'&&qq y y'
 |_,_=>false
def qq:List AV->List AV->Bool
 |[],[]=>true
 |x::xs,y::ys=>qa x y&&qq xs ys
 |_,_=>false
end
mutual
theorem EA:∀{x y:AV},qa x y=true->x=y
 |.undef,y,h=>by cases y<;>simp_all [qa]
 |.iv x,y,h=>by
  cases y<;>simp[qa]at h;rw[LI h]
 |.iQ a,y,h=>by cases y<;>simp_all [qa]
 |.agg x,y,h=>by
  cases y<;>simp[qa]at h;rw[pb h]
 |.bD x,y,h=>by
  cases y<;>simp[qa]at h;rw[pb h]
 |.own a b c d,y,h=>by cases y<;>simp_all [qa]
 |.ref a b c d,y,h=>by cases y<;>simp_all [qa]
 |.dg f x z,y,h=>by
  cases y<;>simp[qa]at h;rw[h.1.1,pb h.1.2,pb h.2]
theorem pb:∀{x y:List AV},qq x y=true->x=y
 |[],y,h=>by cases y<;>simp_all [qq]
 |x::xs,y,h=>by
  cases y<;>simp[qq]at h;rw[EA h.1,pb h.2]
end
mutual
theorem EB:∀x:AV,qa x x=true
 |.undef | .iQ _ | .own _ _ _ _ | .ref _ _ _ _=>by simp[qa]
 |.iv x=>by simp[qa,Ez x]
 |.agg x | .bD x=>by simp[qa,nL x]
 |.dg _ x y=>by simp[qa,nL x,nL y]
theorem nL:∀x:List AV,qq x x=true
 |[]=>rfl
 |x::xs=>by simp[qq,EB x,nL xs]
end
def uH:List (List AV)->List (List AV)->Bool
 |[],[]=>true
 |x::xs,y::ys=>qq x y&&uH xs ys
 |_,_=>false
theorem EC:∀{x y:List (List AV)},uH x y=true->x=y
 |[],y,h=>by cases y<;>simp_all [uH]
 |x::xs,y,h=>by
  cases y<;>simp[uH]at h;rw[pb h.1,EC h.2]
theorem Ar:∀x:List (List AV),uH x x=true
 |[]=>rfl
 |x::xs=>by simp[uH,nL x,Ar xs]
def y7:List (AV×AV)->List (AV×AV)->Bool
 |[],[]=>true
 |x::xs,y::ys=>qa x.1 y.1&&qa x.2 y.2&&y7 xs ys
 |_,_=>false
theorem Hh:∀{x y:List (AV×AV)},y7 x y=true->x=y
 |[],y,h=>by cases y<;>simp_all [y7]
 |x::xs,y,h=>by
  cases y<;>simp[y7]at h;rename_i y ys;obtain⟨x1,x2⟩:=x;obtain⟨y1,y2⟩:=y;rw[show x1=y1 from EA h.1.1,show x2=y2 from EA h.1.2,Hh h.2]
theorem Cw:∀x:List (AV×AV),y7 x x=true
 |[]=>rfl
 |x::xs=>by simp[y7,EB,Cw xs]
def Hi:Option Ob->Option Ob->Bool
 |none,none=>true
 |some (.cells x),some (.cells y)=>qq x y
 |some (.buf v e x),some (.buf v' e' y)=>v==v'&&e==e'&&uH x y
 |some (.cm v e x),some (.cm v' e' y)=>v==v'&&e==e'&&sF x y
 |some (.gX x),some (.gX y)=>te x y
 |some (.map x),some (.map y)=>y7 x y
 |_,_=>false
theorem LJ {x y:Option Ob} (h:Hi x y=true):x=y:=by
 unfold Hi at h;split at h
 ·rfl
 ·rw[pb h]
 ·simp at h;rw[h.1.1,h.1.2,EC h.2]
 ·simp at h;rw[h.1.1,h.1.2,y5 h.2]
 ·rw[tP h]
 ·rw[Hh h]
 ·cases h
theorem y9 (x:Option Ob):Hi x x=true:=by
 cases x with
 |none=>rfl
 |some o=>cases o<;>simp[Hi,nL,Ar,uG,sG,Cw]
abbrev Hp:=Tr Ob
abbrev Fr:=List (Nat×AV)
inductive M (α:Type) where
 |ret (a:α)
 |fail
 |get (id:Nat) (k:Option Ob->M α)
 |put (id:Nat) (o:Ob) (k:M α)
namespace M
def bind {α β:Type}:M α->(α->M β)->M β
 |.ret a,f=>f a
 |.fail,_=>.fail
 |.get id k,f=>.get id λo=>(k o).bind f
 |.put id o k,f=>.put id o (k.bind f)
def run {α:Type}:M α->Hp->Option (α×Hp)
 |.ret a,h=>some (a,h)
 |.fail,_=>none
 |.get id k,h=>(k (ay.get h id)).run h
 |.put id o k,h=>k.run (ay.set h id o)
def bN {α:Type}:M α->Hp->List Nat×List Nat
 |.ret _,_=>([],[])
 |.fail,_=>([],[])
 |.get id k,h=>let r:=(k (ay.get h id)).bN h;(id::r.1,r.2)
 |.put id o k,h=>let r:=k.bN (ay.set h id o);(r.1,r.2++[id])
def ok (b:Bool):M Unit:=if b then .ret () else .fail
def lift {α:Type}:Option α->M α
 |some a=>.ret a
 |none=>.fail
def look (id:Nat):M Ob:=.get id fun | some o=>.ret o | none=>.fail
def fresh (id:Nat):M Unit:=.get id fun | some _=>.fail | none=>.ret ()
def write (id:Nat) (o:Ob):M Unit:=.put id o (.ret ())
def aG {α β:Type} (f:α->M β):List α->M (List β)
 |[]=>.ret []
 |x::r=>(f x).bind λy=>(aG f r).bind λys=>.ret (y::ys)
end M
def bh:AV->M (List AV)
 |.agg cs=>.ret cs
 |.undef=>.fail
 |.bD _=>.fail
 |x=>.ret [x]
def mk (agg:Bool) (l:List AV):M AV:=
 if agg then .ret (.agg l) else match l with
  |[x]=>.ret x
  |_=>.fail
def fz (w:Bool):Nat->AV->M IV
 |0,_=>.fail
 |n+1,a=>match a with
  |.iv (.aV e)=>.ret (.sl e [])
  |.iv x=>.ret x
  |.own id o m aC=>(M.look id).bind fun
   |.buf v e es=>(M.ok (v==aC)).bind λ_=>if w then
     (M.aG (M.aG (fz w n)) es).bind λxs=>(M.look id).bind fun
      |.buf _ _ _=>(M.write id (.cm v e xs)).bind λ_=>.ret (.sl e ((xs.drop o).take m))
      |_=>.fail
    else(M.aG (M.aG (fz w n)) ((es.drop o).take m)).bind λxs=>.ret (.sl e xs)
   |.cm v e es=>(M.ok (v==aC)).bind λ_=>.ret (.sl e ((es.drop o).take m))
   |_=>.fail
  |.ref id aC i j=>(M.look id).bind fun
   |.buf v e es=>(M.ok (v==aC)).bind λ_=>if w then
     (M.aG (M.aG (fz w n)) es).bind λxs=>(M.look id).bind fun
      |.buf _ _ _=>(M.lift xs[i]?).bind λc=>(M.write id (.cm v e xs)).bind λ_=>.ret (.ptr (c.drop j))
      |_=>.fail
    else(M.lift es[i]?).bind λc=>(M.aG (fz w n) c).bind λxs=>.ret (.ptr (xs.drop j))
   |.cm v _ es=>(M.ok (v==aC)).bind λ_=>(M.lift es[i]?).bind λc=>.ret (.ptr (c.drop j))
   |.cells cs=>(M.ok (aC==0&&i==0)).bind λ_=>(M.aG (fz w n) cs).bind λxs=>if w then(M.look id).bind fun
    |.cells _=>(M.write id (.gX xs)).bind λ_=>.ret (.ptr (xs.drop j))
    |_=>.fail
    else .ret (.ptr (xs.drop j))
   |.gX xs=>(M.ok (aC==0&&i==0)).bind λ_=>.ret (.ptr (xs.drop j))
   |.map _=>.fail
  |.dg f [] caps=>(M.aG (fz w n) caps).bind λxs=>.ret (.fn f xs)
  |_=>.fail
def bZ (w:Bool) (a:AV):M ao.AV:=match a with
 |.agg cs=>(M.aG (fz w 8) cs).bind λl=>.ret (.agg (l.map .iv))
 |a=>(fz w 8 a).bind λx=>.ret (.iv x)
def ln:List ao.AV->Option (List IV)
 |[]=>some []
 |.iv x::r=>(ln r).map (x::·)
 |_=>none
def ks:ao.AV->Option AV
 |.iv x=>some (.iv x)
 |.agg cs=>(ln cs).map λxs=>.agg (xs.map .iv)
 |_=>none
def Hj:List ao.AV->Option (List AV)
 |[]=>some []
 |x::r=>(ks x).bind λy=>(Hj r).map (y::·)
def kX:ao.AV->Option AV
 |.bD vs=>(Hj vs).map .bD
 |x=>ks x
inductive bf where
 |t (n:Nat)
 |c (v:AV)
 deriving Inhabited
inductive jt where
 |eM (x:bf)
 |pick (c a b:bf)
 |alloc (tag:Nat) (z:List AV)
 |box (tag:Nat) (x:bf)
 |build (z:List AV) (ps:List (Nat×Nat×bf))
 |qF (e:Nat) (z:List AV) (len:Nat) (ps:List (Nat×bf))
 |load (agg:Bool) (sz:Nat) (a:bf)
 |store (sz:Nat) (a x:bf)
 |di (off:Nat) (x:bf)
 |ep (agg:Bool) (off sz:Nat) (x:bf)
 |dn (len e:Nat) (x i:bf)
 |dQ (e:Nat) (x i:bf)
 |dB (agg:Bool) (len e:Nat) (x i:bf)
 |jN (x i:bf)
 |bin (op:BinOp) (q:Nat) (x y:bf)
 |sj (neg:Bool) (qs:List Nat) (x y:bf)
 |un (op:UnOp) (x:bf)
 |tt (k:IntKind) (x:bf)
 |Cf (x:bf)
 |eu (e:Nat) (x:bf) (lo hi:Option bf)
 |nj (x:bf) (lo hi:Option bf)
 |tu (e:Nat) (x:bf)
 |Cy (len:Nat) (x:bf) (lo hi:Option bf)
 |qG (e:Nat) (z:List AV) (x:bf)
 |len (str:Bool) (x:bf)
 |app (e:Nat) (byte:Bool) (x y:bf)
 |mn (x:bf) (ys:List bf)
 |mx (x:bf) (ys:List bf)
 |ext (x:bf) (i:Nat)
 |oY (x:bf)
 |sk (f:Nat) (fs caps:List bf)
 |call (mode:Nat) (f:bf) (args:List bf)
 |nf (f:bf) (args:List bf)
 |Cg (x:bf)
 |Ch
 |jb (ok agg:Bool) (qs:List Nat) (z:List AV) (m k:bf)
 |kh (qs:List Nat) (m k v:bf)
 |nk (qs:List Nat) (m k:bf)
 |yN (m:bf)
 |dead
 |pd (x:bf)
 |qt (e:Nat) (z:List AV) (x n:bf)
 |qZ (k:IntKind) (x:bf)
 |As (x y:bf)
 |wL (k:IntKind) (x y:bf)
 |wM (k:IntKind) (x o y:bf)
 |ED (x:bf)
 |Jm (x:bf)
 |EE (x:bf)
 |EF (x:bf)
 |wN (p n:bf)
 |PJ (e:Nat)
 |EG (e:Nat) (z:List AV) (n:bf)
 deriving Inhabited
structure aJ where
 dst:Option Nat
 op:jt
 gd:Option (Nat×Bool):=none
 lO:List Nat:=[]
 deriving Inhabited
inductive IC where
 |skip
 |ff (draw:Bool) (ops:List aJ) (aX:List Nat)
 |seq (a b:IC)
 |cond (c:bf) (a b:IC)
 |block (id:Nat) (b:IC)
 |loop (aX:List Nat) (b:IC)
 |exit (id:Nat)
 |ret
 |scope (b:IC)
 |stop
 deriving Inhabited
inductive iO where
 |t (n:Nat)
 |cell (n:Nat) (agg:Bool) (sz:Nat)
 deriving Inhabited
structure St where
 fr:Fr
 hp:Hp
 nx:Nat
def ev (fr:Fr):bf->AV
 |.t n=>(get fr n).getD .undef
 |.c v=>v
def bB (o:Ob) (aC i j sz:Nat):Option (List AV):=
 match o with
 |.cells cs=>if aC=0/\i=0 then some ((cs.drop j).take sz) else none
 |.buf v _ es=>if v=aC then(es[i]?).map λc=>(c.drop j).take sz else none
 |.cm v _ es=>if v=aC then(es[i]?).map λc=>((c.drop j).take sz).map .iv else none
 |.gX xs=>if aC=0/\i=0 then some (((xs.drop j).take sz).map .iv) else none
 |.map _=>none
def load (agg:Bool) (sz:Nat):AV->M AV
 |.ref id aC i j=>(M.look id).bind λo=>(M.lift (bB o aC i j sz)).bind λl=>(M.ok (l.length==sz)).bind λ_=>mk agg l
 |.iv (.ptr cs)=>(M.ok ((cs.take sz).length==sz)).bind λ_=>mk agg ((cs.take sz).map .iv)
 |_=>.fail
def store (sz:Nat) (a x:AV):M AV:=
 (bh x).bind λxs=>(M.ok (xs.length==sz)).bind λ_=>
 match a with
 |.ref id aC i j=>(M.look id).bind fun
  |.cells cs=>(M.ok (Nat.ble (j+sz) cs.length)).bind λ_=>(M.write id (.cells (bl cs j xs))).bind λ_=>.ret (.bD [])
  |.buf v e es=>(M.ok (v==aC&&Nat.ble (j+sz) e)).bind λ_=>(M.lift es[i]?).bind λc=>(M.write id (.buf v e (es.set i (bl c j xs)))).bind λ_=>.ret (.bD [])
  |_=>.fail
 |_=>.fail
def valid (o:Ob) (aC i:Nat):Bool:=
 match o with
 |.cells _=>aC==0&&i==0
 |.gX _=>aC==0&&i==0
 |.buf v _ _=>v==aC
 |.cm v _ _=>v==aC
 |.map _=>false
def di (off:Nat):AV->M AV
 |.ref id aC i j=>(M.look id).bind λo=>(M.ok (valid o aC i)).bind λ_=>.ret (.ref id aC i (j+off))
 |.iv (.ptr cs)=>(M.ok (Nat.ble off cs.length)).bind λ_=>.ret (.iv (.ptr (cs.drop off)))
 |_=>.fail
def ep (agg:Bool) (off sz:Nat):AV->M AV
 |.agg cs=>(M.ok (((cs.drop off).take sz).length==sz)).bind λ_=>mk agg ((cs.drop off).take sz)
 |_=>.fail
def idx:AV->M Int
 |.iv (.int _ n)=>.ret n
 |_=>.fail
def dn (len e:Nat) (x i:AV):M AV:=
 (idx i).bind λn=>(M.ok (decide (0<=n/\n<len))).bind λ_=>
 match x with
 |.ref id aC i j=>(M.look id).bind λo=>(M.ok (valid o aC i)).bind λ_=>.ret (.ref id aC i (j+n.toNat*e))
 |.iv (.ptr cs)=>(M.ok (Nat.ble (n.toNat*e) cs.length)).bind λ_=>.ret (.iv (.ptr (cs.drop (n.toNat*e))))
 |_=>.fail
def dQ (e:Nat) (x i:AV):M AV:=
 (idx i).bind λn=>(M.ok (decide (0<=n))).bind λ_=>
 match x with
 |.own id o m aC=>(M.ok (decide (n<m))).bind λ_=>(M.look id).bind fun
  |.buf v e' _=>(M.ok (v==aC&&e'==e)).bind λ_=>.ret (.ref id aC (o+n.toNat) 0)
  |.cm v e' _=>(M.ok (v==aC&&e'==e)).bind λ_=>.ret (.ref id aC (o+n.toNat) 0)
  |.cells _=>(M.ok (aC==0&&e==1)).bind λ_=>.ret (.ref id 0 0 (o+n.toNat))
  |.gX _=>(M.ok (aC==0&&e==1)).bind λ_=>.ret (.ref id 0 0 (o+n.toNat))
  |_=>.fail
 |.iv (.sl e' es)=>(M.ok (e'==e)).bind λ_=>(M.lift es[n.toNat]?).bind λc=>.ret (.iv (.ptr c))
 |_=>.fail
def dB (agg:Bool) (len e:Nat) (x i:AV):M AV:=
 (idx i).bind λn=>(M.ok (decide (0<=n/\n<len))).bind λ_=>ep agg (n.toNat*e) e x
def jN:AV->AV->M AV
 |.iv (.str s),.iv (.int _ n)=>(M.ok (decide (0<=n))).bind λ_=>match s[n.toNat]? with
  |some b=>.ret (.iv (.int .u8 b.toNat))
  |none=>.fail
 |_,_=>.fail
def bin (op:BinOp) (q:Nat) (x y:AV):Option IV:=
 match q,x,y with
 |0,.iv (.int k a),.iv (.int k' b)=>cU op k k' a b
 |0,.iv (.str a),.iv (.str b)=>db op a b
 |1,.iv (.bool a),.iv (.bool b)=>match op with
  |.eql=>some (.bool (a==b))
  |.neq=>some (.bool (!(a==b)))
  |_=>none
 |2,.iv .dM,.iv .dM=>match op with
  |.eql=>some (.bool true)
  |.neq=>some (.bool false)
  |_=>none
 |2,.iv (.ptr _),.iv .dM | 2,.iv .dM,.iv (.ptr _)=>match op with
  |.eql=>some (.bool false)
  |.neq=>some (.bool true)
  |_=>none
 |3,.iQ 0,.iQ 0=>match op with
  |.eql=>some (.bool true)
  |.neq=>some (.bool false)
  |_=>none
 |3,.dg _ _ _,.iQ 0 | 3,.iv (.fn _ _),.iQ 0=>match op with
  |.eql=>some (.bool false)
  |.neq=>some (.bool true)
  |_=>none
 |_,_,_=>none
def fX (op:BinOp) (q:Nat) (x y:AV):M AV:=
 match q,x,y with
 |2,.ref id aC i _,.iv .dM | 2,.iv .dM,.ref id aC i _=>(M.look id).bind λo=>(M.ok (valid o aC i)).bind λ_=>match op with
  |.eql=>.ret (.iv (.bool false))
  |.neq=>.ret (.iv (.bool true))
  |_=>.fail
 |2,.ref id aC i j,.ref ed SZ i' j'=>(M.look id).bind λo=>(M.ok (valid o aC i&&id==ed&&aC==SZ&&i==i'&&j==j')).bind λ_=>match op with
  |.eql=>.ret (.iv (.bool true))
  |.neq=>.ret (.iv (.bool false))
  |_=>.fail
 |q,x,y=>(M.lift (bin op q x y)).bind λv=>.ret (.iv v)
def ly (q:Nat) (x y:AV):Option Bool:=
 match q,x,y with
 |0,.iv (.int k a),.iv (.int k' b)=>if k=k' then some (a==b) else none
 |1,.iv (.bool a),.iv (.bool b)=>some (a==b)
 |2,.iv (.str a),.iv (.str b)=>some (a==b)
 |_,_,_=>none
def eqs:List Nat->List AV->List AV->Option Bool
 |[],[],[]=>some true
 |q::qs,x::xs,y::ys=>(ly q x y).bind λb=>(eqs qs xs ys).bind λc=>some (b&&c)
 |_,_,_=>none
def un (op:UnOp):AV->Option IV
 |.iv (.int k a)=>match op with
  |.neg=>some (.int k (k.wrap (0 - a)))
  |.xor=>some (.int k (bits .xor k (if k.signed then -1 else k.max) a))
  |_=>none
 |.iv (.bool b)=>match op with
  |.not=>some (.bool !b)
  |_=>none
 |_=>none
def bound (y:Nat):Option AV->M (Option Nat)
 |none=>.ret none
 |some (.iv (.int _ n))=>(M.ok (decide (0<=n/\n<=y))).bind λ_=>.ret (some n.toNat)
 |some _=>.fail
def ea (o:Ob) (aC e:Nat):Option Nat:=
 match o with
 |.buf v e' es=>if v=aC/\e'=e then some es.length else none
 |.cm v e' es=>if v=aC/\e'=e then some es.length else none
 |.cells cs=>if aC=0/\e=1 then some cs.length else none
 |.gX cs=>if aC=0/\e=1 then some cs.length else none
 |.map _=>none
def eu (e:Nat) (x:AV) (lo hi:Option AV):M AV:=
 match x with
 |.own id o m aC=>(M.look id).bind λob=>(M.lift (ea ob aC e)).bind λL=>(bound (L - o) hi).bind λh=>(bound (h.getD m) lo).bind λl=>
   .ret (.own id (o+l.getD 0) (h.getD m - l.getD 0) aC)
 |.iv (.sl e' es)=>(M.ok (e'==e)).bind λ_=>(bound es.length hi).bind λh=>(bound (h.getD es.length) lo).bind λl=>.ret (.iv (.sl e ((es.take (h.getD es.length)).drop (l.getD 0))))
 |.iv (.aV _)=>(bound 0 hi).bind λh=>(bound (h.getD 0) lo).bind λ_=>.ret (.iv (.aV e))
 |_=>.fail
def nj (x:AV) (lo hi:Option AV):M AV:=
 match x with
 |.iv (.str s)=>(bound s.size hi).bind λh=>(bound (h.getD s.size) lo).bind λl=>.ret (.iv (.str (s.extract (l.getD 0) (h.getD s.size))))
 |_=>.fail
def tu (e:Nat):AV->M AV
 |.own id _ _ aC=>(M.look id).bind λo=>(M.lift (ea o aC e)).bind λ_=>.ret (.iv (.aV e))
 |.iv (.sl _ _)=>.ret (.iv (.aV e))
 |.iv (.aV _)=>.ret (.iv (.aV e))
 |_=>.fail
def Cy (n:Nat) (x:AV) (lo hi:Option AV):M AV:=
 match x with
 |.ref id 0 0 0=>(M.look id).bind fun
  |.cells cs=>(M.ok (cs.length==n)).bind λ_=>(bound n hi).bind λh=>(bound (h.getD n) lo).bind λl=>.ret (.own id (l.getD 0) (h.getD n - l.getD 0) 0)
  |_=>.fail
 |_=>.fail
def qG (e:Nat) (z:List AV):AV->M AV
 |.own id o n aC=>(M.look id).bind fun
  |.buf v e' es=>(M.ok (v==aC&&e'==e&&z.length==e)).bind λ_=>(M.write id (.buf v e (es.take o++List.replicate n z++es.drop (o+n)))).bind λ_=>.ret (.bD [])
  |_=>.fail
 |.iv (.aV _)=>.ret (.bD [])
 |_=>.fail
def len (str:Bool) (x:AV):M AV:=
 match str,x with
 |false,.own id _ n aC=>(M.look id).bind fun
  |.buf v _ _=>(M.ok (v==aC)).bind λ_=>.ret (.iv (.int .i64 n))
  |.cm v _ _=>(M.ok (v==aC)).bind λ_=>.ret (.iv (.int .i64 n))
  |.cells _=>(M.ok (aC==0)).bind λ_=>.ret (.iv (.int .i64 n))
  |.gX _=>(M.ok (aC==0)).bind λ_=>.ret (.iv (.int .i64 n))
  |.map _=>.fail
 |false,.iv (.sl _ es)=>.ret (.iv (.int .i64 es.length))
 |false,.iv (.aV _)=>.ret (.iv (.int .i64 0))
 |true,.iv (.str s)=>.ret (.iv (.int .i64 s.size))
 |_,_=>.fail
def nM (s:ByteArray):List (List AV):=s.data.toList.map λb=>[.iv (.int .u8 b.toNat)]
def elems (e:Nat):AV->M (List (List AV))
 |.own id o n aC=>(M.look id).bind fun
  |.buf v e' es=>(M.ok (v==aC&&e'==e)).bind λ_=>.ret ((es.drop o).take n)
  |.cm v e' es=>(M.ok (v==aC&&e'==e)).bind λ_=>.ret (((es.drop o).take n).map λr=>r.map .iv)
  |.cells cs=>(M.ok (aC==0&&e==1)).bind λ_=>.ret (((cs.drop o).take n).map λc=>[c])
  |.gX cs=>(M.ok (aC==0&&e==1)).bind λ_=>.ret (((cs.drop o).take n).map λc=>[.iv c])
  |_=>.fail
 |.iv (.sl e' es)=>(M.ok (e'==e)).bind λ_=>.ret (es.map λr=>r.map .iv)
 |.iv (.aV _)=>.ret []
 |_=>.fail
def kO (e:Nat):AV->M (List (List AV))
 |.iv (.str s)=>(M.ok (e==1)).bind λ_=>.ret (nM s)
 |x=>elems e x
def app (e slot:Nat) (byte:Bool) (x y:AV):M AV:=
 (kO e y).bind λys=>
 match x with
 |.iv (.aV _)=>if ys.isEmpty then .ret (.iv (.aV e)) else(M.ok (roomy ys.length)).bind λ_=>(M.fresh (4*slot+if byte then 2 else 0)).bind λ_=>
   (M.write (4*slot+if byte then 2 else 0) (.buf 0 e ys)).bind λ_=>.ret (.own (4*slot+if byte then 2 else 0) 0 ys.length 0)
 |.own id o n aC=>(M.look id).bind fun
  |.buf v e' es=>(M.ok (v==aC&&e'==e)).bind λ_=>
   if o+n+ys.length<=es.length then(M.write id (.buf v e (bl es (o+n) ys))).bind λ_=>.ret (.own id o (n+ys.length) v)
   else(M.ok (o==0&&roomy (n+ys.length)&&(id % 4==0||id % 4==2&&byte))).bind λ_=>(M.write id (.buf (v+1) e (es.take n++ys))).bind λ_=>.ret (.own id 0 (n+ys.length) (v+1))
  |_=>.fail
 |_=>.fail
def pd:AV->M AV
 |.iv (.aV _)=>.ret (.iv (.int .i64 0))
 |_=>.fail
def qt (e slot:Nat) (z:List AV) (x n:AV):M AV:=
 match x with
 |.iv (.aV _)=>(idx n).bind λm=>(M.ok (decide (0<=m)&&roomy m.toNat&&z.length==e)).bind λ_=>
  if m=0 then .ret (.iv (.aV e)) else(M.fresh (4*slot)).bind λ_=>(M.write (4*slot) (.buf 0 e (List.replicate m.toNat z))).bind λ_=>.ret (.own (4*slot) 0 m.toNat 0)
 |_=>.fail
def EG (e slot:Nat) (z:List AV) (n:AV):M AV:=
 (idx n).bind λm=>(M.ok (decide (0<=m)&&roomy m.toNat&&z.length==e)).bind λ_=>
 (M.fresh (4*slot)).bind λ_=>(M.write (4*slot) (.buf 0 e (List.replicate m.toNat z))).bind λ_=>.ret (.own (4*slot) 0 m.toNat 0)
def sm:Int->List AV->IntKind->Option Int
 |a,[],_=>some a
 |a,.iv (.int k b)::r,k'=>if k=k' then sm (if b<a then b else a) r k' else none
 |_,_,_=>none
def qH:Int->List AV->IntKind->Option Int
 |a,[],_=>some a
 |a,.iv (.int k b)::r,k'=>if k=k' then qH (if b > a then b else a) r k' else none
 |_,_,_=>none
def callee:AV->Option (Nat×List AV×List AV)
 |.iv (.fn f caps)=>some (f,[],caps.map .iv)
 |.dg f fs caps=>some (f,fs,caps)
 |_=>none
abbrev dK:=Nat->List ao.AV->ao.Hp->Option (ao.AV×ao.Hp)
def dF (call:dK) (f:AV) (args:List AV):M AV:=
 (M.lift (callee f)).bind λq=>
 (M.aG (bZ false) (q.2.1++(args++q.2.2))).bind λU=>(M.lift ((call q.1 U []).bind shut)).bind λr=>
 (M.ok (flat r)).bind λ_=>M.lift (kX r)
def dR (call:dK) (f:AV) (args:List AV):M AV:=
 (M.lift (callee f)).bind λq=>
 (M.aG (bZ true) (q.2.1++(args++q.2.2))).bind λU=>(M.lift ((call q.1 U []).bind shut)).bind λr=>M.lift (kX r)
def k6 (qs:List Nat):AV->Bool
 |.agg xs=>xs.length==qs.length&&qs.length != 1
 |.iv _=>qs.length==1
 |_=>false
def vQ (qs:List Nat):AV->AV->Option Bool
 |.agg xs,.agg ys=>if qs.length=1 then none else eqs qs xs ys
 |.iv x,.iv y=>if qs.length=1 then eqs qs [.iv x] [.iv y] else none
 |_,_=>none
def iK (qs:List Nat) (k:AV):List (AV×AV)->Nat->Option (Option (Nat×AV))
 |[],_=>some none
 |p::r,i=>match vQ qs k p.1 with
  |some true=>some (some (i,p.2))
  |some false=>iK qs k r (i+1)
  |none=>none
def gg:AV->M (Nat×List (AV×AV))
 |.ref id 0 0 0=>(M.look id).bind fun
  |.map dh=>.ret (id,dh)
  |_=>.fail
 |_=>.fail
def jb (ok agg:Bool) (qs:List Nat) (z:List AV) (m k:AV):M AV:=
 (M.ok (k6 qs k)).bind λ_=>(gg m).bind λx=>(M.lift (iK qs k x.2 0)).bind fun
  |some p=>.ret (if ok then .bD [p.2,.iv (.bool true)] else p.2)
  |none=>(mk agg z).bind λv=>.ret (if ok then .bD [v,.iv (.bool false)] else v)
def kh (qs:List Nat) (m k v:AV):M AV:=
 (M.ok (k6 qs k)).bind λ_=>(gg m).bind λx=>(M.ok (x.1 % 4==0)).bind λ_=>(M.lift (iK qs k x.2 0)).bind fun
  |some p=>(M.write x.1 (.map (x.2.set p.1 (k,v)))).bind λ_=>.ret (.bD [])
  |none=>(M.write x.1 (.map (x.2++[(k,v)]))).bind λ_=>.ret (.bD [])
def nk (qs:List Nat) (m k:AV):M AV:=
 (M.ok (k6 qs k)).bind λ_=>(gg m).bind λx=>(M.ok (x.1 % 4==0)).bind λ_=>(M.lift (iK qs k x.2 0)).bind fun
  |some p=>(M.write x.1 (.map (x.2.eraseIdx p.1))).bind λ_=>.ret (.bD [])
  |none=>(M.write x.1 (.map x.2)).bind λ_=>.ret (.bD [])
def bytesOf:List (List AV)->Option (List Int)
 |[]=>some []
 |[.iv (.int .u8 n)]::r=>(bytesOf r).map (n::·)
 |_=>none
def qZ (k:IntKind) (a:AV):M Int:=(load false 1 a).bind fun
 |.iv (.int k' n)=>(M.ok (k'==k)).bind λ_=>.ret n
 |_=>.fail
def S0:AV->Bool
 |.iv (.int _ _)=>true
 |_=>false
def wL (k:IntKind) (a d:AV):M AV:=
 match d with
 |.iv (.int k' m)=>(M.ok (k'==k)).bind λ_=>(qZ k a).bind λn=>(store 1 a (.iv (.int k (k.wrap (n+m))))).bind λ_=>.ret (.iv (.int k (k.wrap (n+m))))
 |_=>.fail
def wM (k:IntKind) (a o y:AV):M AV:=
 match o,y with
 |.iv (.int k' bu),.iv (.int Lk _)=>(M.ok (k'==k&&Lk==k)).bind λ_=>(qZ k a).bind λn=>
  if n=bu then(store 1 a y).bind λ_=>.ret (.iv (.bool true)) else(store 1 a (.iv (.int k n))).bind λ_=>.ret (.iv (.bool false))
 |_,_=>.fail
def ED:AV->M AV
 |.ref id aC i j=>(M.look id).bind fun
  |.cells cs=>(M.ok (aC==0&&i==0&&Nat.blt j cs.length)).bind λ_=>.ret (.ref id aC i j)
  |_=>.fail
 |_=>.fail
def EE:AV->M AV
 |.ref id aC i j=>(M.look id).bind fun
  |.cells _=>(M.ok (aC==0&&i==0&&j==0&&id % 4==1)).bind λ_=>.ret (.ref id 0 0 0)
  |_=>.fail
 |_=>.fail
def EF:AV->M AV
 |.own id o n aC=>(M.look id).bind fun
  |.buf v e _=>(M.ok (v==aC&&e==1&&o==0&&Nat.blt 0 n)).bind λ_=>.ret (.ref id aC 0 0)
  |_=>.fail
 |_=>.fail
def u8s (b:List Int):List (List IV):=b.map λx=>[.int .u8 x]
def wN (p n:AV):M AV:=
 match p,n with
 |.ref id aC i j,.iv (.int k m)=>(M.look id).bind fun
  |.buf v e es=>(M.ok (v==aC&&e==1&&i==0&&j==0&&id % 4==2&&k == .i64&&m==(es.length:Int)&&Nat.blt 0 es.length&&roomy es.length)).bind λ_=>
   (M.lift (bytesOf es)).bind λb=>(M.ok (b.all λx=>decide (0<=x/\x<256))).bind λ_=>(M.write id (.cm v 1 (u8s b))).bind λ_=>.ret (.iv (.str (iP b)))
  |_=>.fail
 |_,_=>.fail
def bp (call:dK) (slot:Nat) (ρ:bf->AV):jt->M AV
 |.eM x=>.ret (ρ x)
 |.pick c a b=>match ρ c with
  |.iv (.bool t)=>.ret (if t then ρ a else ρ b)
  |_=>.fail
 |.alloc tag z=>(M.ok (Nat.ble tag 1)).bind λ_=>(M.fresh (4*slot+tag)).bind λ_=>(M.write (4*slot+tag) (.cells z)).bind λ_=>.ret (.ref (4*slot+tag) 0 0 0)
 |.box tag x=>(bh (ρ x)).bind λxs=>(M.ok (tag==0||tag==1&&xs.length==2)).bind λ_=>(M.fresh (4*slot+tag)).bind λ_=>(M.write (4*slot+tag) (.cells xs)).bind λ_=>.ret (.ref (4*slot+tag) 0 0 0)
 |.build z ps=>(M.aG (λp=>(bh (ρ p.2.2)).bind λl=>(M.ok (l.length==p.2.1&&Nat.ble (p.1+p.2.1) z.length)).bind λ_=>.ret (p.1,l)) ps).bind λl=>.ret (.agg (cz z l))
 |.qF e z n ps=>(M.ok (z.length==e)).bind λ_=>
   (M.aG (λp=>(bh (ρ p.2)).bind λxs=>(M.ok (xs.length==e&&Nat.blt p.1 n)).bind λ_=>.ret (p.1,xs)) ps).bind λl=>
   (M.fresh (4*slot)).bind λ_=>(M.write (4*slot) (.buf 0 e (bO (List.replicate n z) l))).bind λ_=>.ret (.own (4*slot) 0 n 0)
 |.load agg sz a=>load agg sz (ρ a)
 |.store sz a x=>store sz (ρ a) (ρ x)
 |.di off x=>di off (ρ x)
 |.ep agg off sz x=>ep agg off sz (ρ x)
 |.dn len e x i=>dn len e (ρ x) (ρ i)
 |.dQ e x i=>dQ e (ρ x) (ρ i)
 |.dB agg len e x i=>dB agg len e (ρ x) (ρ i)
 |.jN x i=>jN (ρ x) (ρ i)
 |.bin op q x y=>fX op q (ρ x) (ρ y)
 |.sj neg qs x y=>match ρ x,ρ y with
  |.agg xs,.agg ys=>(M.lift (eqs qs xs ys)).bind λb=>.ret (.iv (.bool (if neg then !b else b)))
  |_,_=>.fail
 |.un op x=>(M.lift (un op (ρ x))).bind λv=>.ret (.iv v)
 |.tt k x=>(idx (ρ x)).bind λn=>.ret (.iv (.int k (k.wrap n)))
 |.Cf x=>match ρ x with
  |.iv (.str s)=>.ret (.iv (.str s))
  |_=>.fail
 |.eu e x lo hi=>eu e (ρ x) (lo.map ρ) (hi.map ρ)
 |.nj x lo hi=>nj (ρ x) (lo.map ρ) (hi.map ρ)
 |.tu e x=>tu e (ρ x)
 |.Cy n x lo hi=>Cy n (ρ x) (lo.map ρ) (hi.map ρ)
 |.qG e z x=>qG e z (ρ x)
 |.len str x=>len str (ρ x)
 |.app e byte x y=>app e slot byte (ρ x) (ρ y)
 |.mn x ys=>match ρ x with
  |.iv (.int k a)=>(M.lift (sm a (ys.map ρ) k)).bind λn=>.ret (.iv (.int k n))
  |_=>.fail
 |.mx x ys=>match ρ x with
  |.iv (.int k a)=>(M.lift (qH a (ys.map ρ) k)).bind λn=>.ret (.iv (.int k n))
  |_=>.fail
 |.ext x i=>match ρ x with
  |.bD vs=>M.lift vs[i]?
  |_=>.fail
 |.oY x=>match ρ x with
  |.ref id aC i j=>(M.look id).bind λo=>(M.ok (valid o aC i)).bind λ_=>.ret (.ref id aC i j)
  |.iv (.ptr cs)=>.ret (.iv (.ptr cs))
  |.iv (.fn f cs)=>.ret (.iv (.fn f cs))
  |.dg f fs cs=>.ret (.dg f fs cs)
  |_=>.fail
 |.sk f fs caps=>.ret (.dg f (fs.map ρ) (caps.map ρ))
 |.call mode f args=>match mode with
  |0=>dF call (ρ f) (args.map ρ)
  |_=>dR call (ρ f) (args.map ρ)
 |.nf _ _=>.fail
 |.Cg x=>(elems 1 (ρ x)).bind λys=>(M.lift (bytesOf ys)).bind λb=>.ret (.iv (.str (iP b)))
 |.Ch=>(M.fresh (4*slot)).bind λ_=>(M.write (4*slot) (.map [])).bind λ_=>.ret (.ref (4*slot) 0 0 0)
 |.jb ok agg qs z m k=>jb ok agg qs z (ρ m) (ρ k)
 |.kh qs m k v=>kh qs (ρ m) (ρ k) (ρ v)
 |.nk qs m k=>nk qs (ρ m) (ρ k)
 |.yN m=>(gg (ρ m)).bind λx=>.ret (.iv (.int .i64 x.2.length))
 |.dead=>.fail
 |.pd x=>pd (ρ x)
 |.qt e z x n=>qt e slot z (ρ x) (ρ n)
 |.EG e z n=>EG e slot z (ρ n)
 |.qZ k x=>(qZ k (ρ x)).bind λn=>.ret (.iv (.int k n))
 |.As x y=>(M.ok (S0 (ρ y))).bind λ_=>store 1 (ρ x) (ρ y)
 |.wL k x y=>wL k (ρ x) (ρ y)
 |.wM k x o y=>wM k (ρ x) (ρ o) (ρ y)
 |.PJ e=>.ret (.iv (.aV e))
 |.ED x=>ED (ρ x)
 |.Jm x=>.ret (ρ x)
 |.EE x=>EE (ρ x)
 |.EF x=>EF (ρ x)
 |.wN p n=>wN (ρ p) (ρ n)
def cw (fr:Fr):Option (Nat×Bool)->Option Bool
 |none=>some true
 |some (t,b)=>match get fr t with
  |some (.iv (.bool c))=>some (c==b)
  |some (.bD [])=>some false
  |_=>none
def bT (fr:Fr) (d:Option Nat) (v:AV):Fr:=match d with
 |some d=>set fr d v
 |none=>fr
abbrev fb:=Nat->List AV->Hp->Nat->Option (AV×Hp×Nat)
def fJ:jt->Option (bf×List bf)
 |.nf f args=>some (f,args)
 |_=>none
def step (c1:dK) (cx:fb) (slot:Nat) (o:aJ) (s:St):Option St:=
 match cw s.fr o.gd with
 |some true=>match fJ o.op with
  |some fa=>match callee (ev s.fr fa.1)with
   |some q=>match cx q.1 (q.2.1++(fa.2.map (ev s.fr)++q.2.2)) s.hp s.nx with
    |some (v,h,n)=>some { fr:=bT s.fr o.dst v,hp:=h,nx:=n }
    |none=>none
   |none=>none
  |none=>match(bp c1 slot (ev s.fr) o.op).run s.hp with
   |some (v,h)=>some { s with fr:=bT s.fr o.dst v,hp:=h }
   |none=>none
 |some false=>some { s with fr:=bT s.fr o.dst (.bD []) }
 |none=>none
inductive cB where
 |m (x:List Nat×List Nat)
 |c (h0 h1:Hp)
def bH (c1:dK) (slot:Nat) (o:aJ) (s:St) (h:Hp):cB:=
 match cw s.fr o.gd with
 |some true=>match fJ o.op with
  |some _=>.c s.hp h
  |none=>.m ((bp c1 slot (ev s.fr) o.op).bN s.hp)
 |_=>.m ([],[])
def a7 (c1:dK) (cx:fb):List aJ->Nat->St->Option St
 |[],_,s=>some s
 |o::r,slot,s=>match step c1 cx slot o s with
  |some s'=>a7 c1 cx r (slot+1) s'
  |none=>none
def bn (c1:dK) (cx:fb):List aJ->Nat->St->Option (St×List cB)
 |[],_,s=>some (s,[])
 |o::r,slot,s=>match step c1 cx slot o s with
  |some s'=>match bn c1 cx r (slot+1) s' with
   |some p=>some (p.1,bH c1 slot o s s'.hp::p.2)
   |none=>none
  |none=>none
def meets (a b:List Nat):Bool:=a.any b.contains
def c9:cB->cB->Bool
 |.m x,.m y=>meets x.2 (y.1++y.2)||meets y.2 (x.1++x.2)
 |.c h0 h1,.m y=>!((y.2.isEmpty&&y.1.all λn=>Hi (get h0 n) (get h1 n))||(y.1++y.2).all λn=>(get h1 n).isNone)
 |.m x,.c h0 h1=>!(x.2.isEmpty&&x.1.all λn=>Hi (get h0 n) (get h1 n))
 |.c _ _,.c _ _=>true
def dC (x:cB) (i:Nat):List cB->List (List Nat)->Bool
 |y::ys,c::cs=>(!c9 x y||c.contains i)&&dC x i ys cs
 |_,_=>true
def cL:List cB->Nat->List (List Nat)->Bool
 |x::xs,i,_::cs=>dC x i xs cs&&cL xs (i+1) cs
 |_,_,_=>true
def rX:cB->Bool
 |.m x=>x.2.isEmpty
 |.c _ _=>false
def dw (ops:List aJ) (DD:List cB):Bool:=DD.all rX||cL DD 0 (ops.map (·.lO))
def an:List Nat->Fr->Fr
 |[],_=>[]
 |t::r,fr=>match get fr t with
  |some x=>(t,x)::an r fr
  |none=>an r fr
def aS (c1:dK) (cx:fb) (draw:Bool) (ops:List aJ) (aX:List Nat) (s:St):Option St:=
 if draw then match bn c1 cx ops s.nx { s with nx:=s.nx+ops.length } with
  |some p=>if dw ops p.2 then some { p.1 with fr:=an aX p.1.fr } else none
  |none=>none
 else match a7 c1 cx ops s.nx { s with nx:=s.nx+ops.length } with
  |some s'=>some { s' with fr:=an aX s'.fr }
  |none=>none
def iter (f:St->Option (Ex×St)) (aX:List Nat):Nat->St->Option (Ex×St)
 |0,_=>none
 |m+1,s=>match f s with
  |some (.norm,s')=>iter f aX m { s' with fr:=an aX s'.fr }
  |r=>r
def bd (c1:dK) (cx:fb) (n:Nat):IC->St->Option (Ex×St)
 |.skip,s=>some (.norm,s)
 |.ff draw ops aX,s=>(aS c1 cx draw ops aX s).map λs'=>(.norm,s')
 |.seq a b,s=>match bd c1 cx n a s with
  |some (.norm,s')=>bd c1 cx n b s'
  |r=>r
 |.cond c a b,s=>match ev s.fr c with
  |.iv (.bool t)=>if t then bd c1 cx n a s else bd c1 cx n b s
  |_=>none
 |.block id b,s=>match bd c1 cx n b s with
  |some (.exit i,s')=>if i=id then some (.norm,s') else some (.exit i,s')
  |r=>r
 |.loop aX b,s=>iter (bd c1 cx n b) aX n { s with fr:=an aX s.fr }
 |.exit id,s=>some (.exit id,s)
 |.ret,s=>some (.ret,s)
 |.scope b,s=>bd c1 cx n b s
 |.stop,_=>none
structure aA where
 np:Nat
 res:List iO
 body:IC
 pe:Option (dK->fb->List AV->Hp->Nat->Option (AV×Hp×Nat)):=none
 deriving Inhabited
def dJ (fr:Fr):iO->M AV
 |.t n=>.ret (ev fr (.t n))
 |.cell n agg sz=>load agg sz (ev fr (.t n))
def ck (fr:Fr):List iO->M AV
 |[r]=>dJ fr r
 |rs=>(M.aG (dJ fr) rs).bind λl=>.ret (.bD l)
def params:List AV->Nat->Fr
 |[],_=>[]
 |a::r,i=>(i,a)::params r (i+1)
def aZ (c1:dK) (prog:Nat->Option aA):Nat->fb
 |0,_,_,_,_=>none
 |k+1,g,args,hp,nx=>match prog g with
  |none=>none
  |some fn=>match fn.pe with
   |some p=>p c1 (aZ c1 prog k) args hp nx
   |none=>if args.length=fn.np then
     match bd c1 (aZ c1 prog k) k fn.body ⟨params args 0,hp,nx⟩with
     |some (.norm,s) | some (.ret,s)=>match(ck s.fr fn.res).run s.hp with
      |some (v,h)=>some (v,h,s.nx)
      |none=>none
     |_=>none
    else none
end ay
namespace ay
open Go Go.RowKit ao
structure Gh where
 I:Nat->Prop
 φ:Nat->Option Nat
 w:World
 h:Hp
def fq (w:World) (p:Option Nat) (e L o n:Nat) (v:Value):Prop:=
 match p with
 |none=>(∃a,v = .slice a 0 0)/\n=0/\o=0/\L=0
 |some b=>∃x cap,v = .slice (some ⟨b,x,none⟩) n cap/\o+n<=L/\L<=o+cap/\n<=cap/\(x=o*e\/n=0/\o≠0/\L<=o)/\(x=o*e->∀c,c<(o+cap)*e->(w.cell? ⟨b,c,none⟩).isSome=true)
def br (g:Gh) (v:Value) (id o n aC:Nat):Prop:=
 match get g.h id with
 |some (.buf v' e es)=>aC<=v'/\(v'=aC->fq g.w (g.φ id) e es.length o n v)
 |some (.cm v' e es)=>aC<=v'/\(v'=aC->fq g.w (g.φ id) e es.length o n v)
 |some (.cells cs)=>aC=0/\fq g.w (g.φ id) 1 cs.length o n v
 |some (.gX cs)=>aC=0/\fq g.w (g.φ id) 1 cs.length o n v
 |_=>False
def bA (g:Gh) (v:Value) (id aC i j:Nat):Prop:=
 match get g.h id with
 |some (.cells _)=>aC=0/\i=0/\∃b,g.φ id=some b/\v = .pointer (some ⟨b,j,none⟩)
 |some (.gX _)=>aC=0/\i=0/\∃b,g.φ id=some b/\v = .pointer (some ⟨b,j,none⟩)
 |some (.buf v' e _)=>aC<=v'/\(v'=aC->∃b,g.φ id=some b/\v = .pointer (some ⟨b,i*e+j,none⟩))
 |some (.cm v' e _)=>aC<=v'/\(v'=aC->∃b,g.φ id=some b/\v = .pointer (some ⟨b,i*e+j,none⟩))
 |some (.map _)=>aC=0/\i=0/\j=0/\∃b,g.φ id=some b/\v = .map (some b)
 |none=>False
def NB:Nat->Value
 |0=>.nilFunc
 |1=>.nilIface
 |_=>.map none
inductive RA (ν:Nat->Nat) (g:Gh):Value->AV->Prop
 |undef (v:Value):RA ν g v .undef
 |iv {v:Value} {x:IV} (h:RI ν g.I g.w v x):RA ν g v (.iv x)
 |iQ {v:Value} {q:Nat} (h:v=NB q):RA ν g v (.iQ q)
 |agg {vs:Array Value} {cs:List AV} (hn:vs.size=cs.length) (h1:∀(j:Nat) (v:Value),vs[j]?=some v->v.oneCell'=true)
   (hr:∀(j:Nat) (v:Value) (c:AV),vs[j]?=some v->cs[j]?=some c->RA ν g v c):RA ν g (.agg vs) (.agg cs)
 |bD {vs:Array Value} {cs:List AV} (hn:vs.size=cs.length) (hr:∀(j:Nat) (v:Value) (c:AV),vs[j]?=some v->cs[j]?=some c->RA ν g v c):RA ν g (.tuple vs) (.bD cs)
 |own {v:Value} {id o n aC:Nat} (h1:v.oneCell'=true) (h:br g v id o n aC):RA ν g v (.own id o n aC)
 |ref {v:Value} {id aC i j:Nat} (h1:v.oneCell'=true) (h:bA g v id aC i j):RA ν g v (.ref id aC i j)
 |dg {f:Nat} {first caps:Array Value} {fs cs:List AV} (hm:first.size=fs.length) (hs:∀(j:Nat) (v:Value) (c:AV),first[j]?=some v->fs[j]?=some c->RA ν g v c)
   (hn:caps.size=cs.length) (hr:∀(j:Nat) (v:Value) (c:AV),caps[j]?=some v->cs[j]?=some c->RA ν g v c) :
   RA ν g (.func (.func (ν f)) first caps) (.dg f fs cs)
theorem NC (q:Nat):(NB q).oneCell'=true:=by unfold NB;split<;>rfl
theorem RA.mono {ν:Nat->Nat} {g g':Gh} (hI:∀v x,RI ν g.I g.w v x->RI ν g'.I g'.w v x) (ho:∀v id o n aC,br g v id o n aC->br g' v id o n aC)
  (hr:∀v id aC i j,bA g v id aC i j->bA g' v id aC i j) {v:Value} {x:AV} (h:RA ν g v x):RA ν g' v x:=by
 induction h with
 |undef v=>exact .undef v
 |iv h=>exact .iv (hI _ _ h)
 |iQ h=>exact .iQ h
 |agg hn h1 _ ih=>exact .agg hn h1 ih
 |bD hn _ ih=>exact .bD hn ih
 |own h1 h=>exact .own h1 (ho _ _ _ _ _ h)
 |ref h1 h=>exact .ref h1 (hr _ _ _ _ _ h)
 |dg hm _ hn _ ihs ih=>exact .dg hm ihs hn ih
def tf (ν:Nat->Nat) (g:Gh) (b e:Nat) (es:List (List AV)):Prop:=
 (∀c ∈ es,c.length=e)/\∀(i j:Nat) (c:List AV) (x:AV),es[i]?=some c->c[j]?=some x->∃v,g.w.cell? ⟨b,i*e+j,none⟩=some v/\v.oneCell'=true/\RA ν g v x
def q8 (es:Array MapEntry) (clock:Nat):Prop:=(es.toList.map (·.born)).Nodup/\∀x ∈ es.toList,x.born<clock
def k8 (ν:Nat->Nat) (g:Gh) (id:Nat):Ob->Prop
 |.cells cs=>∃b,g.φ id=some b/\¬g.I b/\yO g.w b/\∀(j:Nat) (c:AV),cs[j]?=some c->∃v,g.w.cell? ⟨b,j,none⟩=some v/\v.oneCell'=true/\RA ν g v c
 |.buf _ e es=>∃b,g.φ id=some b/\¬g.I b/\yO g.w b/\tf ν g b e es
 |.cm _ e es=>∃b,g.φ id=some b/\g.I b/\Row ν g.I g.w b e es
 |.gX xs=>∃b,g.φ id=some b/\g.I b/\∀(j:Nat) (x:IV),xs[j]?=some x->∃v,g.w.cell? ⟨b,j,none⟩=some v/\RI ν g.I g.w v x
 |.map dh=>∃b es clock,g.φ id=some b/\¬g.I b/\b<g.w.heap.size/\g.w.heap[b]?=some (.map es clock)/\es.size=dh.length/\q8 es clock/\
   ∀(j:Nat) (e:MapEntry) (p:AV×AV),es[j]?=some e->dh[j]?=some p->RA ν g e.key p.1/\RA ν g e.val p.2
structure Cx where
 w:World
 I:Nat->Prop
abbrev Au:Nat:=1000001
abbrev wO:Nat:=1000002
def pf (ν:Nat->Nat) (w:World) (id b:Nat):Prop:=(id % 4=1->w.shape? b=some (ν Au,2))/\(id % 4=2->∃n,w.shape? b=some (ν wO,n))/\id % 4≠3
theorem pf.zero {ν:Nat->Nat} {w:World} {id b:Nat} (h:id % 4=0):pf ν w id b:=⟨by omega,by omega,by omega⟩
theorem pf.same {ν:Nat->Nat} {w w':World} {id b:Nat} (h:pf ν w id b) (hs:w'.shape? b=w.shape? b):pf ν w' id b:=by unfold pf at *;rw[hs];exact h
theorem qu {w w':World} {b:Nat} (h:w'.heap[b]?=w.heap[b]?):w'.shape? b=w.shape? b:=by simp[World.shape?,h]
structure Rel (ν:Nat->Nat) (k:Cx) (g:Gh):Prop where
 ob:∀id o,get g.h id=some o->k8 ν g id o
 inj:∀id ed o o' b,get g.h id=some o->get g.h ed=some o'->g.φ id=some b->g.φ ed=some b->id=ed
 small:∀b,g.I b->b<g.w.heap.size
 i0:∀b,k.I b->g.I b
 i1:∀b,g.I b->k.I b\/k.w.heap.size<=b
 own:∀id o b,get g.h id=some o->g.φ id=some b->k.w.heap.size<=b
 size:k.w.heap.size<=g.w.heap.size
 os:g.w.os=k.w.os
 tape:g.w.tape=k.w.tape
 output:g.w.output=k.w.output
 bu:∀b,b<k.w.heap.size->g.w.heap[b]?=k.w.heap[b]?
 ty:∀id o b,get g.h id=some o->g.φ id=some b->pf ν g.w id b
def bY (ν:Nat->Nat) (g g':Gh):Prop:=∀v x,RA ν g v x->RA ν g' v x
theorem bY.refl (ν:Nat->Nat) (g:Gh):bY ν g g:=λ_ _ h=>h
theorem bY.trans {ν:Nat->Nat} {a b c:Gh} (h:bY ν a b) (k:bY ν b c):bY ν a c:=λv x hx=>k v x (h v x hx)
theorem tf.mono {ν:Nat->Nat} {g g':Gh} {b e:Nat} {es:List (List AV)} (h:tf ν g b e es) (hm:bY ν g g') (hb:∀off v,g.w.cell? ⟨b,off,none⟩=some v->g'.w.cell? ⟨b,off,none⟩=some v):tf ν g' b e es:=
 ⟨h.1,λi j c x h1 h2=>let⟨v,hc,h3,hr⟩:=h.2 i j c x h1 h2;⟨v,hb _ _ hc,h3,hm _ _ hr⟩⟩
theorem k8.block {ν:Nat->Nat} {g:Gh} {id:Nat} {o:Ob} (h:k8 ν g id o) {b:Nat} (hb:g.φ id=some b) (hs:∀b,g.I b->b<g.w.heap.size):b<g.w.heap.size:=by
 cases o with
 |cells cs=>obtain⟨b',h1,_,h3,_⟩:=h;rw[hb]at h1;cases h1;exact h3.1
 |buf v e es=>obtain⟨b',h1,_,h3,_⟩:=h;rw[hb]at h1;cases h1;exact h3.1
 |cm v e es=>obtain⟨b',h1,h2,_⟩:=h;rw[hb]at h1;cases h1;exact hs _ h2
 |gX xs=>obtain⟨b',h1,h2,_⟩:=h;rw[hb]at h1;cases h1;exact hs _ h2
 |map dh=>obtain⟨b',_,_,h1,_,h3,_⟩:=h;rw[hb]at h1;cases h1;exact h3
theorem fq.same {w w':World} {p:Option Nat} {e L o n:Nat} {v:Value} (h:fq w p e L o n v)
  (hw:∀b,p=some b->∀c,(w.cell? ⟨b,c,none⟩).isSome=true->(w'.cell? ⟨b,c,none⟩).isSome=true):fq w' p e L o n v:=by
 cases p with
 |none=>exact h
 |some b=>
  obtain⟨x,cap,e1,e2,e3,e4,e5,e6⟩:=h;exact⟨x,cap,e1,e2,e3,e4,e5,λhx c hc=>hw b rfl c (e6 hx c hc)⟩
theorem br.alive {g:Gh} {v:Value} {id o n aC:Nat} (h:br g v id o n aC):∃ob,get g.h id=some ob:=by
 unfold br at h;cases hg:get g.h id with
 |none=>rw[hg]at h;exact h.elim
 |some ob=>exact⟨ob,rfl⟩
theorem bA.alive {g:Gh} {v:Value} {id aC i j:Nat} (h:bA g v id aC i j):∃ob,get g.h id=some ob:=by
 unfold bA at h;cases hg:get g.h id with
 |none=>rw[hg]at h;exact h.elim
 |some ob=>exact⟨ob,rfl⟩
theorem br.other {g g':Gh} {v:Value} {id o n aC:Nat} (h:br g v id o n aC) (hh:get g'.h id=get g.h id) (aB:g'.φ id=g.φ id)
  (hw:∀b,g.φ id=some b->g'.w.heap[b]?=g.w.heap[b]?):br g' v id o n aC:=by
 have Av:∀b,g.φ id=some b->∀c,(g.w.cell? ⟨b,c,none⟩).isSome=true->(g'.w.cell? ⟨b,c,none⟩).isSome=true:=λb hb c hc=>by rw[c6 (hw b hb)];exact hc
 unfold br at h ⊢;rw[hh,aB];cases hg:get g.h id with
 |none=>rw[hg]at h;exact h.elim
 |some ob=>
  rw[hg]at h;cases ob with
  |cells cs=>exact⟨h.1,h.2.same Av⟩
  |gX cs=>exact⟨h.1,h.2.same Av⟩
  |buf v' e es=>exact⟨h.1,λhv=>(h.2 hv).same Av⟩
  |cm v' e es=>exact⟨h.1,λhv=>(h.2 hv).same Av⟩
  |map dh=>exact h.elim
theorem bA.other {g g':Gh} {v:Value} {id aC i j:Nat} (h:bA g v id aC i j) (hh:get g'.h id=get g.h id) (aB:g'.φ id=g.φ id):bA g' v id aC i j:=by
 unfold bA at h ⊢;rw[hh,aB];exact h
theorem k8.other {ν:Nat->Nat} {g g':Gh} {id:Nat} {o:Ob} (h:k8 ν g id o) (aB:g'.φ id=g.φ id) (hm:bY ν g g') (eD:∀v x,RI ν g.I g.w v x->RI ν g'.I g'.w v x)
  (dZ:g.w.heap.size<=g'.w.heap.size) (hw:∀b,g.φ id=some b->g'.w.heap[b]?=g.w.heap[b]?) (hI:∀b,g.φ id=some b->(g'.I b↔g.I b)):k8 ν g' id o:=by
 cases o with
 |cells cs=>
  obtain⟨b,e1,e2,e3,e4⟩:=h;refine⟨b,aB.trans e1,λhi=>e2 ((hI b e1).1 hi),⟨Nat.lt_of_lt_of_le e3.1 dZ,λo=>by rw[jw (hw b e1)];exact e3.2 o⟩,λj c hc=>?_⟩;obtain⟨v,c1,c2,c3⟩:=e4 j c hc;exact⟨v,by rw[c6 (hw b e1)];exact c1,c2,hm _ _ c3⟩
 |buf v e es=>
  obtain⟨b,e1,e2,e3,e4⟩:=h;exact⟨b,aB.trans e1,λhi=>e2 ((hI b e1).1 hi),⟨Nat.lt_of_lt_of_le e3.1 dZ,λo=>by rw[jw (hw b e1)];exact e3.2 o⟩,e4.mono hm λoff v hc=>by rw[c6 (hw b e1)];exact hc⟩
 |cm v e es=>
  obtain⟨b,e1,e2,e4⟩:=h;exact⟨b,aB.trans e1,(hI b e1).2 e2,e4.mono eD λoff v hc=>by rw[c6 (hw b e1)];exact hc⟩
 |gX xs=>
  obtain⟨b,e1,e2,e4⟩:=h;refine⟨b,aB.trans e1,(hI b e1).2 e2,λj x hx=>?_⟩;obtain⟨v,c1,c2⟩:=e4 j x hx;exact⟨v,by rw[c6 (hw b e1)];exact c1,eD _ _ c2⟩
 |map dh=>
  obtain⟨b,es,clock,e1,e2,e3,e4,e5,e7,e6⟩:=h;refine⟨b,es,clock,aB.trans e1,λhi=>e2 ((hI b e1).1 hi),Nat.lt_of_lt_of_le e3 dZ,(hw b e1).trans e4,e5,e7,λj e p h1 h2=>?_⟩;obtain⟨c1,c2⟩:=e6 j e p h1 h2;exact⟨hm _ _ c1,hm _ _ c2⟩
theorem Rel.world {ν:Nat->Nat} {k:Cx} {g:Gh} (r:Rel ν k g) {w':World} {I':Nat->Prop} (hI:∀b,g.I b->I' b) (pQ:∀b,I' b->g.I b\/g.w.heap.size<=b/\b<w'.heap.size)
  (hs:g.w.heap.size<=w'.heap.size) (h1:w'.os=g.w.os) (h2:w'.tape=g.w.tape) (h3:w'.output=g.w.output) (hb:∀b,b<g.w.heap.size->w'.heap[b]?=g.w.heap[b]?) :
  Rel ν k { g with I:=I',w:=w' }/\bY ν g { g with I:=I',w:=w' }:=by
 have eD:∀v x,RI ν g.I g.w v x->RI ν I' w' v x:=λv x h=>h.mono hI λb off v hi hc=>by rw[c6 (hb b (r.small b hi))];exact hc
 have hblk:∀id o b,get g.h id=some o->g.φ id=some b->b<g.w.heap.size:=λid o b ho aB=>(r.ob id o ho).block aB r.small
 have hm:bY ν g { g with I:=I',w:=w' }:=by
  intro v x hx;refine hx.mono eD ?_ ?_
  ·intro v id o n aC ho;obtain⟨ob,jI⟩:=ho.alive;exact ho.other rfl rfl λb aB=>hb b (hblk id _ b jI aB)
  ·intro v id aC i j hr;exact hr
 refine⟨⟨?_,r.inj,?_,λb h=>hI b (r.i0 b h),?_,r.own,Nat.le_trans r.size hs,h1.trans r.os,h2.trans r.tape,h3.trans r.output,λb h=>(hb b (Nat.lt_of_lt_of_le h r.size)).trans (r.bu b h),λid o b ho aB=>(r.ty id o b ho aB).same (qu (hb b (hblk id o b ho aB)))⟩,hm⟩
 ·intro id o ho;exact(r.ob id o ho).other rfl hm eD hs (λb aB=>hb b (hblk id _ b ho aB)) λb aB=>⟨λhi=>(pQ b hi).resolve_right λh=>by have:=hblk id _ b ho aB;omega,hI b⟩
 ·intro b hi;rcases pQ b hi with h | h
  ·exact Nat.lt_of_lt_of_le (r.small b h) hs
  ·exact h.2
 ·intro b hi;rcases pQ b hi with h | h
  ·exact r.i1 b h
  ·exact .inr (Nat.le_trans r.size h.1)
theorem Rel.I5 {ν:Nat->Nat} {k:Cx} {g:Gh} (r:Rel ν k g) {s:Nat} {ob:Ob} {p:Option Nat} {w':World} (hs:get g.h s=none)
  (dZ:g.w.heap.size<=w'.heap.size) (h1:w'.os=g.w.os) (h2:w'.tape=g.w.tape) (h3:w'.output=g.w.output) (hb:∀b,b<g.w.heap.size->w'.heap[b]?=g.w.heap[b]?)
  (hp:∀b,p=some b->∀id o,get g.h id=some o->g.φ id≠some b) (bF:∀b,p=some b->k.w.heap.size<=b) (lB:∀b,p=some b->pf ν w' s b)
  (jI:bY ν g { g with φ:=cG g.φ s p,w:=w',h:=set g.h s ob }->k8 ν { g with φ:=cG g.φ s p,w:=w',h:=set g.h s ob } s ob) :
  Rel ν k { g with φ:=cG g.φ s p,w:=w',h:=set g.h s ob }/\bY ν g { g with φ:=cG g.φ s p,w:=w',h:=set g.h s ob }:=by
 have eD:∀v x,RI ν g.I g.w v x->RI ν g.I w' v x:=λv x h=>h.mono (λ_ h=>h) λb off v hi hc=>by rw[c6 (hb b (r.small b hi))];exact hc
 have hblk:∀id o b,get g.h id=some o->g.φ id=some b->b<g.w.heap.size:=λid o b ho aB=>(r.ob id o ho).block aB r.small
 have hm:bY ν g { g with φ:=cG g.φ s p,w:=w',h:=set g.h s ob }:=by
  intro v x hx;refine hx.mono eD ?_ ?_
  ·intro v id o n aC ho;obtain⟨pR,k9⟩:=ho.alive;have cA:s≠id:=λe=>by rw[<-e,hs]at k9;cases k9
   exact ho.other (aF _ _ cA) (iD _ _ (Ne.symm cA)) λb aB=>hb b (hblk id _ b k9 aB)
  ·intro v id aC i j hr;obtain⟨pR,k9⟩:=hr.alive;have cA:s≠id:=λe=>by rw[<-e,hs]at k9;cases k9
   exact hr.other (aF _ _ cA) (iD _ _ (Ne.symm cA))
 refine⟨⟨?_,?_,λb hi=>Nat.lt_of_lt_of_le (r.small b hi) dZ,r.i0,r.i1,?_,Nat.le_trans r.size dZ,h1.trans r.os,h2.trans r.tape,h3.trans r.output,λb h=>(hb b (Nat.lt_of_lt_of_le h r.size)).trans (r.bu b h),?_⟩,hm⟩
 ·intro id o ho;by_cases he:s=id
  ·subst he;have:ob=o:=by simpa[ar]using ho
   subst this;exact jI hm
  ·have fc:get g.h id=some o:=by rwa [show get (set g.h s ob) id=get g.h id from aF _ _ he]at ho
   exact(r.ob id o fc).other (iD _ _ (Ne.symm he)) hm eD dZ (λb aB=>hb b (hblk id _ b fc aB)) λ_ _=>Iff.rfl
 ·intro id ed o o' b ho fc aB bS;simp only[bU]at ho fc;simp only[cG]at aB bS;by_cases he:id=s
  ·by_cases fB:ed=s
   ·rw[he,fB]
   ·rw[if_pos he]at aB;rw[if_neg fB]at bS;rw[if_neg (Ne.symm fB)]at fc;exact absurd bS (hp b aB ed _ fc)
  ·rw[if_neg he]at aB;rw[if_neg (Ne.symm he)]at ho;by_cases fB:ed=s
   ·rw[if_pos fB]at bS;exact absurd aB (hp b bS id _ ho)
   ·rw[if_neg fB]at bS;rw[if_neg (Ne.symm fB)]at fc;exact r.inj id ed o o' b ho fc aB bS
 ·intro id o b ho aB;simp only[bU]at ho;simp only[cG]at aB;by_cases he:id=s
  ·rw[if_pos he]at aB;exact bF b aB
  ·rw[if_neg he]at aB;rw[if_neg (Ne.symm he)]at ho;exact r.own id o b ho aB
 ·intro id o b ho aB;simp only[bU]at ho;simp only[cG]at aB;by_cases he:id=s
  ·rw[if_pos he]at aB;rw[he];exact lB b aB
  ·rw[if_neg he]at aB;rw[if_neg (Ne.symm he)]at ho;exact(r.ty id o b ho aB).same (qu (hb b (hblk id o b ho aB)))
theorem Rel.new {ν:Nat->Nat} {k:Cx} {g:Gh} (r:Rel ν k g) {s:Nat} {ob:Ob} {p:Option Nat} {w':World} (hs:get g.h s=none)
  (dZ:g.w.heap.size<=w'.heap.size) (h1:w'.os=g.w.os) (h2:w'.tape=g.w.tape) (h3:w'.output=g.w.output) (hb:∀b,b<g.w.heap.size->w'.heap[b]?=g.w.heap[b]?)
  (hp:∀b,p=some b->g.w.heap.size<=b) (lB:∀b,p=some b->pf ν w' s b)
  (jI:bY ν g { g with φ:=cG g.φ s p,w:=w',h:=set g.h s ob }->k8 ν { g with φ:=cG g.φ s p,w:=w',h:=set g.h s ob } s ob) :
  Rel ν k { g with φ:=cG g.φ s p,w:=w',h:=set g.h s ob }/\bY ν g { g with φ:=cG g.φ s p,w:=w',h:=set g.h s ob }:=
 r.I5 hs dZ h1 h2 h3 hb (λb lY id o ho aB=>by have:=(r.ob id o ho).block aB r.small;have:=hp b lY;omega) (λb lY=>Nat.le_trans r.size (hp b lY)) lB jI
theorem Rel.nq {ν:Nat->Nat} {k:Cx} {g:Gh} (r:Rel ν k g) {s:Nat} {Lj ob:Ob} {p:Option Nat} {w':World} {I':Nat->Prop} (hs:get g.h s=some Lj)
  (eU:∀b,g.φ s=some b->¬g.I b)
  (dZ:g.w.heap.size<=w'.heap.size) (h1:w'.os=g.w.os) (h2:w'.tape=g.w.tape) (h3:w'.output=g.w.output) (hb:∀b,b<g.w.heap.size->g.φ s≠some b->w'.heap[b]?=g.w.heap[b]?)
  (hI:∀b,g.I b->I' b) (pQ:∀b,I' b->g.I b\/g.φ s=some b)
  (hp:p=g.φ s\/∃b,p=some b/\g.w.heap.size<=b) (lB:∀b,p=some b->pf ν w' s b)
  (hO:∀v o n aC,br g v s o n aC->br ⟨I',cG g.φ s p,w',set g.h s ob⟩ v s o n aC)
  (hR:∀v aC i j,bA g v s aC i j->bA ⟨I',cG g.φ s p,w',set g.h s ob⟩ v s aC i j)
  (jI:(∀v x,RI ν g.I g.w v x->RI ν I' w' v x)->bY ν g ⟨I',cG g.φ s p,w',set g.h s ob⟩->k8 ν ⟨I',cG g.φ s p,w',set g.h s ob⟩ s ob) :
  Rel ν k ⟨I',cG g.φ s p,w',set g.h s ob⟩/\bY ν g ⟨I',cG g.φ s p,w',set g.h s ob⟩:=by
 have eD:∀v x,RI ν g.I g.w v x->RI ν I' w' v x:=λv x h=>h.mono hI λb off v hi hc=>by
  rw[c6 (hb b (r.small b hi) λe=>eU b e hi)];exact hc
 have hblk:∀id o b,get g.h id=some o->g.φ id=some b->b<g.w.heap.size:=λid o b ho aB=>(r.ob id o ho).block aB r.small
 have ga:∀id o b,s≠id->get g.h id=some o->g.φ id=some b->g.φ s≠some b:=λid o b cA ho aB e=>cA (r.inj s id Lj o b hs ho e aB)
 have hm:bY ν g ⟨I',cG g.φ s p,w',set g.h s ob⟩:=by
  intro v x hx;refine hx.mono eD ?_ ?_
  ·intro v id o n aC ho;by_cases he:s=id
   ·subst he;exact hO _ _ _ _ ho
   ·obtain⟨pR,k9⟩:=ho.alive;exact ho.other (aF _ _ he) (iD _ _ (Ne.symm he)) λb aB=>hb b (hblk id _ b k9 aB) (ga id _ b he k9 aB)
  ·intro v id aC i j hr;by_cases he:s=id
   ·subst he;exact hR _ _ _ _ hr
   ·exact hr.other (aF _ _ he) (iD _ _ (Ne.symm he))
 refine⟨⟨?_,?_,?_,λb h=>hI b (r.i0 b h),?_,?_,Nat.le_trans r.size dZ,h1.trans r.os,h2.trans r.tape,h3.trans r.output,?_,?_⟩,hm⟩
 ·intro id o ho;by_cases he:s=id
  ·subst he;have:ob=o:=by simpa[ar]using ho
   subst this;exact jI eD hm
  ·have fc:get g.h id=some o:=by rwa [show get (set g.h s ob) id=get g.h id from aF _ _ he]at ho
   exact(r.ob id o fc).other (iD _ _ (Ne.symm he)) hm eD dZ (λb aB=>hb b (hblk id _ b fc aB) (ga id _ b he fc aB))
    λb aB=>⟨λhi=>(pQ b hi).resolve_right (ga id _ b he fc aB),hI b⟩
 ·intro id ed o o' b ho fc aB bS;simp only[bU]at ho fc;simp only[cG]at aB bS;by_cases he:id=s
  ·by_cases fB:ed=s
   ·rw[he,fB]
   ·rw[if_pos he]at aB;rw[if_neg fB]at bS;rw[if_neg (Ne.symm fB)]at fc;have bC:=hblk ed _ b fc bS;rcases hp with hp | ⟨b',hp,ye⟩
    ·exact absurd (hp▸aB) (ga ed _ b (Ne.symm fB) fc bS)
    ·rw[hp]at aB;cases aB;omega
  ·rw[if_neg he]at aB;rw[if_neg (Ne.symm he)]at ho;by_cases fB:ed=s
   ·rw[if_pos fB]at bS;have bC:=hblk id _ b ho aB;rcases hp with hp | ⟨b',hp,ye⟩
    ·exact absurd (hp▸bS) (ga id _ b (Ne.symm he) ho aB)
    ·rw[hp]at bS;cases bS;omega
   ·rw[if_neg fB]at bS;rw[if_neg (Ne.symm fB)]at fc;exact r.inj id ed o o' b ho fc aB bS
 ·intro b hi;rcases pQ b hi with h | h
  ·exact Nat.lt_of_lt_of_le (r.small b h) dZ
  ·exact Nat.lt_of_lt_of_le (hblk s _ b hs h) dZ
 ·intro b hi;rcases pQ b hi with h | h
  ·exact r.i1 b h
  ·exact .inr (r.own s _ b hs h)
 ·intro id o b ho aB;simp only[bU]at ho;simp only[cG]at aB;by_cases he:id=s
  ·rw[if_pos he]at aB;rcases hp with hp | ⟨b',hp,ye⟩
   ·exact r.own s _ b hs (hp▸aB)
   ·rw[hp]at aB;cases aB;exact Nat.le_trans r.size ye
  ·rw[if_neg he]at aB;rw[if_neg (Ne.symm he)]at ho;exact r.own id o b ho aB
 ·intro b h;have bC:=Nat.lt_of_lt_of_le h r.size;refine(hb b bC λe=>?_).trans (r.bu b h);have:=r.own s _ b hs e;omega
 ·intro id o b ho aB;simp only[bU]at ho;simp only[cG]at aB;by_cases he:id=s
  ·rw[if_pos he]at aB;rw[he];exact lB b aB
  ·rw[if_neg he]at aB;rw[if_neg (Ne.symm he)]at ho;exact(r.ty id o b ho aB).same (qu (hb b (hblk id o b ho aB) (ga id o b (Ne.symm he) ho aB)))
theorem az {α β:Type} (m:M α) (f:α->M β) (h:Hp):(m.bind f).run h=match m.run h with
  |some (a,h')=>(f a).run h'
  |none=>none:=by
 induction m generalizing h with
 |ret a=>rfl
 |fail=>rfl
 |get id k ih=>simp only[M.bind,M.run];exact ih _ _
 |put id o k ih=>simp only[M.bind,M.run];exact ih _
theorem aw {α β:Type} {m:M α} {f:α->M β} {h zY:Hp} {b:β} (e:(m.bind f).run h=some (b,zY)) :
  ∃a h',m.run h=some (a,h')/\(f a).run h'=some (b,zY):=by
 rw[az]at e;cases hm:m.run h with
 |none=>rw[hm]at e;cases e
 |some p=>rw[hm]at e;exact⟨p.1,p.2,rfl,e⟩
theorem sn {b:Bool} {h h':Hp} {u:Unit} (e:(M.ok b).run h=some (u,h')):b=true/\h'=h:=by
 unfold M.ok at e;cases b with
 |true=>simp[M.run]at e;exact⟨rfl,e.symm⟩
 |false=>simp[M.run]at e
theorem pE {id:Nat} {h h':Hp} {o:Ob} (e:(M.look id).run h=some (o,h')):ay.get h id=some o/\h'=h:=by
 simp only[M.look,M.run]at e;cases hg:ay.get h id with
 |none=>simp[hg,M.run]at e
 |some x=>simp[hg,M.run]at e;exact⟨by rw[e.1],e.2.symm⟩
theorem M.fC {id:Nat} {h h':Hp} {u:Unit} (e:(M.fresh id).run h=some (u,h')):ay.get h id=none/\h'=h:=by
 simp only[M.fresh,M.run]at e;cases hg:ay.get h id with
 |none=>simp[hg,M.run]at e;exact⟨rfl,e.symm⟩
 |some x=>simp[hg,M.run]at e
theorem bV {id:Nat} {o:Ob} {h h':Hp} {u:Unit} (e:(M.write id o).run h=some (u,h')):h'=set h id o:=by
 simp[M.write,M.run]at e;exact e.symm
theorem gN {α:Type} {x:Option α} {h h':Hp} {a:α} (e:(M.lift x).run h=some (a,h')):x=some a/\h'=h:=by
 cases x with
 |none=>simp[M.lift,M.run]at e
 |some y=>simp[M.lift,M.run]at e;exact⟨by rw[e.1],e.2.symm⟩
theorem ai {α:Type} {x a:α} {h h':Hp} (e:(M.ret x).run h=some (a,h')):x=a/\h'=h:=by
 simp[M.run]at e;exact⟨e.1,e.2.symm⟩
theorem ah {α:Type} {a:α} {h h':Hp} (e:(M.fail:M α).run h=some (a,h')):False:=by simp[M.run]at e
theorem M.aL {α:Type} {b:Bool} {f:Unit->M α} {h:Hp} {r:α×Hp} (e:((M.ok b).bind f).run h=some r):b=true/\(f ()).run h=some r:=by
 obtain⟨a,g⟩:=r;obtain⟨_,h1,e1,e2⟩:=aw e;obtain⟨hb,rfl⟩:=sn e1;exact⟨hb,e2⟩
theorem M.lift_bind {α β:Type} {x:Option β} {f:β->M α} {h:Hp} {r:α×Hp} (e:((M.lift x).bind f).run h=some r):∃a,x=some a/\(f a).run h=some r:=by
 obtain⟨a,g⟩:=r;obtain⟨y,h1,e1,e2⟩:=aw e;obtain⟨hb,rfl⟩:=gN e1;exact⟨y,hb,e2⟩
theorem M.cf {α:Type} {id:Nat} {f:Ob->M α} {h:Hp} {r:α×Hp} (e:((M.look id).bind f).run h=some r):∃o,ay.get h id=some o/\(f o).run h=some r:=by
 obtain⟨a,g⟩:=r;obtain⟨y,h1,e1,e2⟩:=aw e;obtain⟨hb,rfl⟩:=pE e1;exact⟨y,hb,e2⟩
theorem dx {α β:Type} {f:α->M β} {x:α} {r:List α} {h h':Hp} {ys:List β} (e:(M.aG f (x::r)).run h=some (ys,h')) :
  ∃y h1 zs,(f x).run h=some (y,h1)/\(M.aG f r).run h1=some (zs,h')/\ys=y::zs:=by
 obtain⟨y,h1,e1,e2⟩:=aw e;obtain⟨zs,h2,e3,e4⟩:=aw e2;obtain⟨rfl,rfl⟩:=ai e4;exact⟨y,h1,zs,e1,e3,rfl⟩
theorem dS {α β:Type} {f:α->M β} {h h':Hp} {ys:List β} (e:(M.aG f []).run h=some (ys,h')):ys=[]/\h'=h:=by
 obtain⟨rfl,rfl⟩:=ai e;exact⟨rfl,rfl⟩
structure ej (ν:Nat->Nat) (k:Cx) (g:Gh) (h':Hp) (I':Nat->Prop):Prop where
 rel:Rel ν k { g with I:=I',h:=h' }
 mono:bY ν g { g with I:=I',h:=h' }
 sub:∀b,g.I b->I' b
 up:∀b,I' b->g.I b\/∃id o,get g.h id=some o/\g.φ id=some b
 stay:∀id o,get h' id=some o->get g.h id=some o\/(∃v e es,o = .cm v e es)\/∃xs,o = .gX xs
 alive:∀id,(get h' id).isSome=(get g.h id).isSome
theorem ej.refl {ν:Nat->Nat} {k:Cx} {g:Gh} (r:Rel ν k g):ej ν k g g.h g.I:=⟨r,.refl ν g,λ_ h=>h,λ_ h=>.inl h,λ_ _ h=>.inl h,λ_=>rfl⟩
theorem ej.trans {ν:Nat->Nat} {k:Cx} {g:Gh} {h1 h2:Hp} {I1 I2:Nat->Prop} (a:ej ν k g h1 I1) (b:ej ν k { g with I:=I1,h:=h1 } h2 I2):ej ν k g h2 I2:=
 ⟨b.rel,a.mono.trans b.mono,λx hx=>b.sub x (a.sub x hx),λx hx=>by
  rcases b.up x hx with h | ⟨id,o,ho,aB⟩
  ·exact a.up x h
  ·have ha:=a.alive id;simp only[]at ho aB;rw[ho]at ha;cases hg:get g.h id with
   |none=>rw[hg]at ha;simp at ha
   |some o'=>exact .inr ⟨id,o',hg,aB⟩,
  λid o h=>by
  rcases b.stay id o h with h | h
  ·exact a.stay id o h
  ·exact .inr h,λid=>(b.alive id).trans (a.alive id)⟩
theorem q9 {φ:Nat->Option Nat} {id:Nat}:cG φ id (φ id)=φ:=by funext i;simp only[cG];split<;>simp_all
theorem so {ν:Nat->Nat} {k:Cx} {g:Gh} (r:Rel ν k g) {id v e b:Nat} {es:List (List AV)} {xs:List (List IV)} (hg:get g.h id=some (.buf v e es)) (aB:g.φ id=some b) (hn:xs.length=es.length)
  (hl:∀c ∈ xs,c.length=e) (hx:∀(i j:Nat) (c:List IV) (x:IV),xs[i]?=some c->c[j]?=some x->∃u,g.w.cell? ⟨b,i*e+j,none⟩=some u/\RI ν g.I g.w u x) :
  ej ν k g (set g.h id (.cm v e xs)) (λb=>g.I b\/g.φ id=some b):=by
 have eU:∀b,g.φ id=some b->¬g.I b:=by
  intro b' bS;obtain⟨Sk,h1,h2,_⟩:=r.ob id _ hg;rw[bS]at h1;cases h1;exact h2
 have ht:=r.nq (s:=id) (ob:=.cm v e xs) (p:=g.φ id) (w':=g.w) (I':=λb=>g.I b\/g.φ id=some b) hg eU (Nat.le_refl _) rfl rfl rfl (λ_ _ _=>rfl) (λ_ h=>.inl h) (λ_ h=>h) (.inl rfl) (λb' h=>r.ty id _ b' hg h)
  (λu o n aC ho=>by
   unfold br at ho ⊢;rw[hg]at ho;simp only[ar,aU];rw[hn];exact ho)
  (λu aC i j hr=>by
   unfold bA at hr ⊢;rw[hg]at hr;simp only[ar,aU];exact hr)
  (λeD _=>⟨b,(aU _ _ _).trans aB,.inr aB,hl,λi j c x h1 h2=>let⟨u,c1,c2⟩:=hx i j c x h1 h2;⟨u,c1,eD _ _ c2⟩⟩)
 rw[q9]at ht;refine⟨ht.1,ht.2,λ_ h=>.inl h,λb h=>h.imp _root_.id λh=>⟨id,_,hg,h⟩,λed o h=>?_,λed=>?_⟩
 ·rw[bU]at h;split at h
  ·cases h;exact .inr (.inl ⟨_,_,_,rfl⟩)
  ·exact .inl h
 ·rw[bU];split
  ·rename_i he;subst he;rw[hg];rfl
  ·rfl
theorem s9 {ν:Nat->Nat} {k:Cx} {g:Gh} (r:Rel ν k g) {id b:Nat} {cs:List AV} {xs:List IV} (hg:get g.h id=some (.cells cs)) (aB:g.φ id=some b) (hn:xs.length=cs.length)
  (hx:∀(j:Nat) (x:IV),xs[j]?=some x->∃u,g.w.cell? ⟨b,j,none⟩=some u/\RI ν g.I g.w u x) :
  ej ν k g (set g.h id (.gX xs)) (λb=>g.I b\/g.φ id=some b):=by
 have eU:∀b,g.φ id=some b->¬g.I b:=by
  intro b' bS;obtain⟨Sk,h1,h2,_⟩:=r.ob id _ hg;rw[bS]at h1;cases h1;exact h2
 have ht:=r.nq (s:=id) (ob:=.gX xs) (p:=g.φ id) (w':=g.w) (I':=λb=>g.I b\/g.φ id=some b) hg eU (Nat.le_refl _) rfl rfl rfl (λ_ _ _=>rfl) (λ_ h=>.inl h) (λ_ h=>h) (.inl rfl) (λb' h=>r.ty id _ b' hg h)
  (λu o n aC ho=>by
   unfold br at ho ⊢;rw[hg]at ho;simp only[ar,aU];rw[hn];exact ho)
  (λu aC i j hr=>by
   unfold bA at hr ⊢;rw[hg]at hr;simp only[ar,aU];exact hr)
  (λeD _=>⟨b,(aU _ _ _).trans aB,.inr aB,λj x h2=>let⟨u,c1,c2⟩:=hx j x h2;⟨u,c1,eD _ _ c2⟩⟩)
 rw[q9]at ht;refine⟨ht.1,ht.2,λ_ h=>.inl h,λb h=>h.imp _root_.id λh=>⟨id,_,hg,h⟩,λed o h=>?_,λed=>?_⟩
 ·rw[bU]at h;split at h
  ·cases h;exact .inr (.inr ⟨_,rfl⟩)
  ·exact .inl h
 ·rw[bU];split
  ·rename_i he;subst he;rw[hg];rfl
  ·rfl
theorem pS {ν:Nat->Nat} {J:Nat->Prop} {w:World} {p:Option Nat} {e o m L:Nat} {xs:List (List IV)} (hn:xs.length=m)
  (aH:∀b,p=some b->J b/\(∀c ∈ xs,c.length=e)/\∀(i j:Nat) (c:List IV) (x:IV),xs[i]?=some c->c[j]?=some x->∃u,w.cell? ⟨b,(o+i)*e+j,none⟩=some u/\RI ν J w u x) {v:Value}
  (h:fq w p e L o m v):RI ν J w v (.sl e xs):=by
 by_cases hm:m=0
 ·subst hm;have:xs=[]:=List.eq_nil_of_length_eq_zero hn;subst this;cases hp:p with
  |none=>rw[hp]at h;obtain⟨⟨a,rfl⟩,_⟩:=h;exact .jg a 0 e
  |some b=>rw[hp]at h;obtain⟨x,cap,rfl,_⟩:=h;exact .jg _ cap e
 ·cases hp:p with
  |none=>rw[hp]at h;obtain⟨_,h0,_⟩:=h;exact absurd h0 hm
  |some b=>
   rw[hp]at h;obtain⟨x,cap,rfl,h2,h3,h4,h5,_⟩:=h;obtain⟨hI,hl,hc⟩:=aH b hp;have hx:x=o*e:=h5.resolve_right λh=>hm h.1
   subst hx;have I6:∀(i:Nat) (c:List IV),xs[i]?=some c->∃f:Nat->Value,∀(j:Nat) (x:IV),c[j]?=some x->w.cell? ⟨b,(o+i)*e+j,none⟩=some (f j)/\RI ν J w (f j) x:=
    λi c hi=>pick λj x hj=>hc i j c x hi hj
   obtain⟨F,hF⟩:=zZ I6;refine .sl b (o*e) m cap e xs F hI hn.symm h4 hl (λi j c x h1 h2=>?_) λi j c x h1 h2=>(hF i c h1 j x h2).2
   have:=(hF i c h1 j x h2).1
   rwa [Nat.add_mul]at this
theorem lf {ν:Nat->Nat} {J:Nat->Prop} {w:World} {off j b:Nat} {c:List IV} (hJ:J b) (hc:∀(l:Nat) (x:IV),c[l]?=some x->∃u,w.cell? ⟨b,off+l,none⟩=some u/\RI ν J w u x) :
  RI ν J w (.pointer (some ⟨b,off+j,none⟩)) (.ptr (c.drop j)):=by
 obtain⟨F,hF⟩:=pick (cs:=c) hc;refine .ptr b (off+j) _ (λl=>F (j+l)) hJ (λl x h=>?_) λl x h=>?_
 ·rw[List.getElem?_drop]at h;have:=(hF _ x h).1
  rwa [<-Nat.add_assoc]at this
 ·rw[List.getElem?_drop]at h;exact(hF _ x h).2
theorem nN {α:Type} {es:List α} {o m i:Nat} {c:α} (h:((es.drop o).take m)[i]?=some c):i<m/\es[o+i]?=some c:=by
 rw[List.getElem?_take]at h;split at h
 ·rename_i hi;rw[List.getElem?_drop]at h;exact⟨hi,h⟩
 ·cases h
theorem fq.fits {w:World} {p:Option Nat} {e L o n:Nat} {v:Value} (h:fq w p e L o n v):o+n<=L:=by
 cases p with
 |none=>obtain⟨_,rfl,rfl,rfl⟩:=h;exact Nat.le_refl _
 |some b=>obtain⟨x,cap,_,h,_⟩:=h;exact h
theorem lZ {ν:Nat->Nat} {k:Cx} {g:Gh} (r:Rel ν k g) {id v' e o m:Nat} {es:List (List IV)} (hg:get g.h id=some (.cm v' e es)) {v:Value}
  (h:fq g.w (g.φ id) e es.length o m v):RI ν g.I g.w v (.sl e ((es.drop o).take m)):=by
 have hf:=h.fits;refine pS (by simp;omega) (λb hp=>?_) h;obtain⟨b',h1,hI,aH⟩:=r.ob id _ hg;rw[hp]at h1;cases h1;refine⟨hI,λc hc=>aH.1 c (List.mem_of_mem_drop (List.mem_of_mem_take hc)),λi j c x h1 h2=>aH.2 _ j c x (nN h1).2 h2⟩
theorem l3 {ν:Nat->Nat} {k:Cx} {g:Gh} (r:Rel ν k g) {id v' e i j:Nat} {es:List (List IV)} {c:List IV} (hg:get g.h id=some (.cm v' e es)) (hc:es[i]?=some c) {v:Value}
  (h:∃b,g.φ id=some b/\v = .pointer (some ⟨b,i*e+j,none⟩)):RI ν g.I g.w v (.ptr (c.drop j)):=by
 obtain⟨b,aB,rfl⟩:=h;obtain⟨b',h1,hI,aH⟩:=r.ob id _ hg;rw[aB]at h1;cases h1;exact lf hI λl x h=>aH.2 i l c x hc h
theorem wP {ν:Nat->Nat} {k:Cx} {g:Gh} (r:Rel ν k g) {id j:Nat} {xs:List IV} (hg:get g.h id=some (.gX xs)) {v:Value} (h:∃b,g.φ id=some b/\v = .pointer (some ⟨b,j,none⟩)) :
  RI ν g.I g.w v (.ptr (xs.drop j)):=by
 obtain⟨b,aB,rfl⟩:=h;obtain⟨b',h1,hI,aH⟩:=r.ob id _ hg;rw[aB]at h1;cases h1;have:=lf (off:=0) (j:=j) hI (c:=xs) λl x h=>by have:=aH l x h;rwa [Nat.zero_add]
 rwa [Nat.zero_add]at this
def z6 (ν:Nat->Nat) (f:AV->M IV):Prop:=
 ∀(k:Cx) (g:Gh) (a:AV) (x:IV) (h':Hp),(f a).run g.h=some (x,h')->Rel ν k g->∀v,RA ν g v a->∃I',ej ν k g h' I'/\RI ν I' g.w v x
theorem z6.list {ν:Nat->Nat} {f:AV->M IV} (hf:z6 ν f):∀(cs:List AV) (k:Cx) (g:Gh) (xs:List IV) (h':Hp),(M.aG f cs).run g.h=some (xs,h')->Rel ν k g->
  ∀V:Nat->Value,(∀(j:Nat) (c:AV),cs[j]?=some c->RA ν g (V j) c)->∃I',ej ν k g h' I'/\xs.length=cs.length/\∀(j:Nat) (x:IV),xs[j]?=some x->RI ν I' g.w (V j) x:=by
 intro cs
 induction cs with
 |nil=>
  intro k g xs h' e r V _;obtain⟨rfl,rfl⟩:=dS e;exact⟨g.I,.refl r,rfl,λj x h=>by simp at h⟩
 |cons c cs ih=>
  intro k g xs h' e r V hV;obtain⟨y,h1,zs,e1,e2,rfl⟩:=dx e;obtain⟨I1,f1,r1⟩:=hf k g c y h1 e1 r (V 0) (hV 0 c rfl);obtain⟨I2,f2,hl,r2⟩:=ih k { g with I:=I1,h:=h1 } zs h' e2 f1.rel (λj=>V (j+1)) λj c' hc=>f1.mono _ _ (hV (j+1) c' (by simpa using hc))
  refine⟨I2,f1.trans f2,by simp[hl],λj x hx=>?_⟩;cases j with
  |zero=>simp at hx;subst hx;exact r1.mono f2.sub λ_ _ _ _ h=>h
  |succ j=>exact r2 j x (by simpa using hx)
theorem z6.rows {ν:Nat->Nat} {f:AV->M IV} (hf:z6 ν f):∀(es:List (List AV)) (k:Cx) (g:Gh) (xs:List (List IV)) (h':Hp),(M.aG (M.aG f) es).run g.h=some (xs,h')->Rel ν k g->
  ∀V:Nat->Nat->Value,(∀(i j:Nat) (c:List AV) (x:AV),es[i]?=some c->c[j]?=some x->RA ν g (V i j) x)->
  ∃I',ej ν k g h' I'/\xs.length=es.length/\(∀(i:Nat) (c:List AV) (c':List IV),es[i]?=some c->xs[i]?=some c'->c'.length=c.length)/\
   ∀(i j:Nat) (c:List IV) (x:IV),xs[i]?=some c->c[j]?=some x->RI ν I' g.w (V i j) x:=by
 intro es
 induction es with
 |nil=>
  intro k g xs h' e r V _;obtain⟨rfl,rfl⟩:=dS e;exact⟨g.I,.refl r,rfl,λi c c' h=>by simp at h,λi j c x h=>by simp at h⟩
 |cons c es ih=>
  intro k g xs h' e r V hV;obtain⟨y,h1,zs,e1,e2,rfl⟩:=dx e;obtain⟨I1,f1,l1,r1⟩:=hf.list c k g y h1 e1 r (V 0) λj x h=>hV 0 j c x rfl h
  obtain⟨I2,f2,hl,tB,r2⟩:=ih k { g with I:=I1,h:=h1 } zs h' e2 f1.rel (λi=>V (i+1)) λi j c' x h h'=>f1.mono _ _ (hV (i+1) j c' x (by simpa using h) h')
  refine⟨I2,f1.trans f2,by simp[hl],λi a b ha hb=>?_,λi j a x ha hx=>?_⟩
  ·cases i with
   |zero=>simp at ha hb;subst ha hb;exact l1
   |succ i=>exact tB i a b (by simpa using ha) (by simpa using hb)
  ·cases i with
   |zero=>simp at ha;subst ha;exact(r1 j x hx).mono f2.sub λ_ _ _ _ h=>h
   |succ i=>exact r2 i j a x (by simpa using ha) hx
theorem uI {ν:Nat->Nat} {g:Gh} {b e:Nat} {es:List (List AV)} (h:tf ν g b e es):∃V:Nat->Nat->Value,∀(i j:Nat) (c:List AV) (x:AV),es[i]?=some c->c[j]?=some x->
  g.w.cell? ⟨b,i*e+j,none⟩=some (V i j)/\(V i j).oneCell'=true/\RA ν g (V i j) x:=by
 obtain⟨F,hF⟩:=zZ (cs:=es) (P:=λi (f:Nat->Value) c=>∀(j:Nat) (x:AV),c[j]?=some x->g.w.cell? ⟨b,i*e+j,none⟩=some (f j)/\(f j).oneCell'=true/\RA ν g (f j) x)
  λi c hc=>pick λj x hx=>h.2 i j c x hc hx
 exact⟨F,λi j c x h1 h2=>hF i c h1 j x h2⟩
theorem nr (ν:Nat->Nat):∀n,z6 ν (fz true n):=by
 intro n
 induction n with
 |zero=>intro k g a x h' e;exact(ah e).elim
 |succ n ih=>
  intro k g a x h' e r v ha;have row:∀{id v' e' b:Nat} {es:List (List AV)} {xs:List (List IV)} {h1:Hp},get g.h id=some (.buf v' e' es)->g.φ id=some b->(M.aG (M.aG (fz true n)) es).run g.h=some (xs,h1)->(∃v e es,get h1 id=some (.buf v e es))->
    ∃I',ej ν k g (set h1 id (.cm v' e' xs)) I'/\xs.length=es.length:=by
   intro id v' e' b es xs h1 hg aB e1 hb;obtain⟨b',sB,eU,dP,aH⟩:=r.ob id _ hg;rw[aB]at sB;cases sB;obtain⟨V,hV⟩:=uI aH;obtain⟨I1,f1,hl,tB,hx⟩:=ih.rows es k g xs h1 e1 r V λi j c x h1 h2=>(hV i j c x h1 h2).2.2
   have oR:get h1 id=some (.buf v' e' es):=by
    obtain⟨a1,a2,a3,ha⟩:=hb;rcases f1.stay id _ ha with h | h | h
    ·rw[hg]at h;cases h;exact ha
    ·obtain⟨_,_,_,h⟩:=h;cases h
    ·obtain⟨_,h⟩:=h;cases h
   have hlen:∀(i:Nat) (c:List IV),xs[i]?=some c->∃c',es[i]?=some c'/\c.length=c'.length:=λi c h=>by
    have h':=bg h;exact⟨_,List.getElem?_eq_getElem (by omega),tB i _ c (List.getElem?_eq_getElem (by omega)) h⟩
   have hf:=so (xs:=xs) f1.rel oR aB hl (λc hc=>by
     obtain⟨i,hi⟩:=List.getElem?_of_mem hc;obtain⟨c',h1,h2⟩:=hlen i c hi;rw[h2];exact aH.1 c' (List.mem_of_getElem? h1)) λi j c x h1 h2=>by
    obtain⟨c',h3,h4⟩:=hlen i c h1;have hj:=bg h2;exact⟨V i j,(hV i j c' _ h3 (List.getElem?_eq_getElem (by omega))).1,hx i j c x h1 h2⟩
   exact⟨_,f1.trans hf,hl⟩
  cases ha with
  |undef=>exact(ah e).elim
  |agg=>exact(ah e).elim
  |bD=>exact(ah e).elim
  |iQ=>exact(ah e).elim
  |iv hr=>
   cases hr with
   |aV a e'=>obtain⟨rfl,rfl⟩:=ai e;exact⟨g.I,.refl r,.jg _ _ _⟩
   |bool b=>obtain⟨rfl,rfl⟩:=ai e;exact⟨g.I,.refl r,.bool _⟩
   |int k' n'=>obtain⟨rfl,rfl⟩:=ai e;exact⟨g.I,.refl r,.int _ _⟩
   |str s=>obtain⟨rfl,rfl⟩:=ai e;exact⟨g.I,.refl r,.str _⟩
   |jg a c e'=>obtain⟨rfl,rfl⟩:=ai e;exact⟨g.I,.refl r,.jg _ _ _⟩
   |sl b off n' cap e' es f h1 h2 h3 h4 h5 h6=>obtain⟨rfl,rfl⟩:=ai e;exact⟨g.I,.refl r,.sl b off n' cap e' es f h1 h2 h3 h4 h5 h6⟩
   |dM=>obtain⟨rfl,rfl⟩:=ai e;exact⟨g.I,.refl r,.dM⟩
   |ptr b off cs f h1 h2 h3=>obtain⟨rfl,rfl⟩:=ai e;exact⟨g.I,.refl r,.ptr b off cs f h1 h2 h3⟩
   |fn f caps cs h1 h2=>obtain⟨rfl,rfl⟩:=ai e;exact⟨g.I,.refl r,.fn f caps cs h1 h2⟩
   |junk v h1=>obtain⟨rfl,rfl⟩:=ai e;exact⟨g.I,.refl r,.junk _ h1⟩
  |@own _ id o m aC jV ho=>
   obtain⟨ob,hg,e2⟩:=M.cf e;cases ob with
   |cells cs=>exact(ah e2).elim
   |gX cs=>exact(ah e2).elim
   |map _=>exact(ah e2).elim
   |buf v' e' es=>
    obtain⟨hv,e4⟩:=M.aL e2;simp only[if_true]at e4;obtain⟨xs,h3,e5,e6⟩:=aw e4;obtain⟨pR,iq,e8⟩:=M.cf e6;cases pR with
    |cells cs=>exact(ah e8).elim
    |gX cs=>exact(ah e8).elim
    |map _=>exact(ah e8).elim
    |cm _ _ _=>exact(ah e8).elim
    |buf v2 S1 es2=>
     obtain⟨_,h5,e9,gV⟩:=aw e8;obtain rfl:=bV e9;obtain⟨rfl,rfl⟩:=ai gV;have gy:v'=aC:=by simpa using hv
     obtain⟨b,aB, -⟩:=r.ob id _ hg;obtain⟨I',hf,hl⟩:=row hg aB e5 ⟨_,_,_,iq⟩;refine⟨I',hf,?_⟩;unfold br at ho;rw[hg]at ho;have hs:=ho.2 gy;rw[<-hl]at hs;exact lZ hf.rel (id:=id) (ar _ _ _) hs
   |cm v' e' es=>
    obtain⟨hv,e4⟩:=M.aL e2;obtain⟨rfl,rfl⟩:=ai e4;have gy:v'=aC:=by simpa using hv
    unfold br at ho;rw[hg]at ho;exact⟨g.I,.refl r,lZ r hg (ho.2 gy)⟩
  |@ref _ id aC i j gA hr=>
   obtain⟨ob,hg,e2⟩:=M.cf e;unfold bA at hr;rw[hg]at hr;cases ob with
   |map _=>exact(ah e2).elim
   |gX xs=>
    obtain⟨rfl,rfl,hb⟩:=hr;obtain⟨-,e4⟩:=M.aL e2;obtain⟨rfl,rfl⟩:=ai e4;exact⟨g.I,.refl r,wP r hg hb⟩
   |cells cs=>
    obtain⟨rfl,rfl,b,aB,rfl⟩:=hr;obtain⟨-,e4⟩:=M.aL e2;obtain⟨xs,h3,e5,e6⟩:=aw e4;simp only[if_true]at e6;obtain⟨pR,iq,e8⟩:=M.cf e6;obtain⟨b',bS,eU,_,hc⟩:=r.ob id _ hg;rw[aB]at bS;cases bS;obtain⟨V,hV⟩:=pick hc;obtain⟨I1,f1,hl,hx⟩:=ih.list cs k g xs _ e5 r V λj c h=>(hV j c h).2.2
    cases pR with
    |buf _ _ _=>exact(ah e8).elim
    |cm _ _ _=>exact(ah e8).elim
    |gX _=>exact(ah e8).elim
    |map _=>exact(ah e8).elim
    |cells Sl=>
     have fI:get g.h id=some (.cells Sl):=by
      rcases f1.stay id _ iq with h | h | h
      ·exact h
      ·obtain⟨_,_,_,h⟩:=h;cases h
      ·obtain⟨_,h⟩:=h;cases h
     rw[hg]at fI;cases fI;obtain⟨_,h5,e9,gV⟩:=aw e8;obtain rfl:=bV e9;obtain⟨rfl,rfl⟩:=ai gV;have hlen:∀(j:Nat) (x:IV),xs[j]?=some x->∃c,cs[j]?=some c:=λj x h=>by
      have:=bg h;exact⟨_,List.getElem?_eq_getElem (by omega)⟩
     have hf:=s9 (xs:=xs) f1.rel iq aB hl λj x h=>let⟨c,dm⟩:=hlen j x h;⟨V j,(hV j c dm).1,hx j x h⟩
     exact⟨_,f1.trans hf,wP hf.rel (id:=id) (ar _ _ _) ⟨b,aB,rfl⟩⟩
   |buf v' e' es=>
    obtain⟨hv,e4⟩:=M.aL e2;simp only[if_true]at e4;obtain⟨xs,h3,e5,e6⟩:=aw e4;obtain⟨pR,iq,e8⟩:=M.cf e6;cases pR with
    |cells cs=>exact(ah e8).elim
    |gX cs=>exact(ah e8).elim
    |map _=>exact(ah e8).elim
    |cm _ _ _=>exact(ah e8).elim
    |buf v2 S1 es2=>
     obtain⟨c,hc,gV⟩:=M.lift_bind e8;obtain⟨_,h6,Aa,tA⟩:=aw gV;obtain rfl:=bV Aa;obtain⟨rfl,rfl⟩:=ai tA;have gy:v'=aC:=by simpa using hv
     obtain⟨b,aB, -⟩:=r.ob id _ hg;obtain⟨I',hf,hl⟩:=row hg aB e5 ⟨_,_,_,iq⟩;exact⟨I',hf,l3 hf.rel (id:=id) (v':=v') (es:=xs) (ar _ _ _) hc (hr.2 gy)⟩
   |cm v' e' es=>
    obtain⟨hv,e4⟩:=M.aL e2;obtain⟨c,hc,e6⟩:=M.lift_bind e4;obtain⟨rfl,rfl⟩:=ai e6;have gy:v'=aC:=by simpa using hv
    exact⟨g.I,.refl r,l3 r hg hc (hr.2 gy)⟩
  |@dg f first caps fs cs hm hs hn hr=>
   cases fs with
   |cons=>exact(ah e).elim
   |nil=>
    have:first=#[]:=Array.eq_empty_of_size_eq_zero hm
    subst this;obtain⟨xs,h1,e1,e2⟩:=aw e;obtain⟨rfl,rfl⟩:=ai e2;obtain⟨I1,f1,hl,hx⟩:=ih.list cs k g xs _ e1 r (λj=>caps.getD j (.bool true)) λj c h=>by
     have:=bg h;exact hr j _ c (by simp[Array.getD,show j<caps.size by omega]) h
    refine⟨I1,f1,.fn f caps xs (by omega) λj v x h1 h2=>?_⟩;have:=hx j x h2
    rwa [show caps.getD j (.bool true)=v from by
     obtain⟨hj,he⟩:=Array.getElem?_eq_some_iff.1 h1;simp[Array.getD,hj,he]]at this
def z7 (ν:Nat->Nat) (f:AV->M IV):Prop:=
 ∀(k:Cx) (g:Gh) (a:AV) (x:IV) (h':Hp),(f a).run g.h=some (x,h')->Rel ν k g->∀v,RA ν g v a->
  h'=g.h/\∀J:Nat->Prop,(∀b,g.I b->J b)->(∀id o b,get g.h id=some o->g.φ id=some b->J b)->RI ν J g.w v x
theorem z7.list {ν:Nat->Nat} {f:AV->M IV} (hf:z7 ν f) (k:Cx) (g:Gh) (r:Rel ν k g):∀(cs:List AV) (xs:List IV) (h':Hp),(M.aG f cs).run g.h=some (xs,h')->
  ∀V:Nat->Value,(∀(j:Nat) (c:AV),cs[j]?=some c->RA ν g (V j) c)->h'=g.h/\xs.length=cs.length/\
   ∀J:Nat->Prop,(∀b,g.I b->J b)->(∀id o b,get g.h id=some o->g.φ id=some b->J b)->∀(j:Nat) (x:IV),xs[j]?=some x->RI ν J g.w (V j) x:=by
 intro cs
 induction cs with
 |nil=>
  intro xs h' e V _;obtain⟨rfl,rfl⟩:=dS e;exact⟨rfl,rfl,λ_ _ _ j x h=>by simp at h⟩
 |cons c cs ih=>
  intro xs h' e V hV;obtain⟨y,h1,zs,e1,e2,rfl⟩:=dx e;obtain⟨rfl,r1⟩:=hf k g c y h1 e1 r (V 0) (hV 0 c rfl);obtain⟨rfl,hl,r2⟩:=ih zs h' e2 (λj=>V (j+1)) λj c' hc=>hV (j+1) c' (by simpa using hc)
  refine⟨rfl,by simp[hl],λJ hJ kq j x hx=>?_⟩;cases j with
  |zero=>simp at hx;subst hx;exact r1 J hJ kq
  |succ j=>exact r2 J hJ kq j x (by simpa using hx)
theorem z7.rows {ν:Nat->Nat} {f:AV->M IV} (hf:z7 ν f) (k:Cx) (g:Gh) (r:Rel ν k g):∀(es:List (List AV)) (xs:List (List IV)) (h':Hp),(M.aG (M.aG f) es).run g.h=some (xs,h')->
  ∀V:Nat->Nat->Value,(∀(i j:Nat) (c:List AV) (x:AV),es[i]?=some c->c[j]?=some x->RA ν g (V i j) x)->h'=g.h/\xs.length=es.length/\
   (∀(i:Nat) (c:List AV) (c':List IV),es[i]?=some c->xs[i]?=some c'->c'.length=c.length)/\
   ∀J:Nat->Prop,(∀b,g.I b->J b)->(∀id o b,get g.h id=some o->g.φ id=some b->J b)->∀(i j:Nat) (c:List IV) (x:IV),xs[i]?=some c->c[j]?=some x->RI ν J g.w (V i j) x:=by
 intro es
 induction es with
 |nil=>
  intro xs h' e V _;obtain⟨rfl,rfl⟩:=dS e;exact⟨rfl,rfl,λi c c' h=>by simp at h,λ_ _ _ i j c x h=>by simp at h⟩
 |cons c es ih=>
  intro xs h' e V hV;obtain⟨y,h1,zs,e1,e2,rfl⟩:=dx e;obtain⟨rfl,l1,r1⟩:=hf.list k g r c y h1 e1 (V 0) λj x h=>hV 0 j c x rfl h
  obtain⟨rfl,hl,tB,r2⟩:=ih zs h' e2 (λi=>V (i+1)) λi j c' x h h'=>hV (i+1) j c' x (by simpa using h) h'
  refine⟨rfl,by simp[hl],λi a b ha hb=>?_,λJ hJ kq i j a x ha hx=>?_⟩
  ·cases i with
   |zero=>simp at ha hb;subst ha hb;exact l1
   |succ i=>exact tB i a b (by simpa using ha) (by simpa using hb)
  ·cases i with
   |zero=>simp at ha;subst ha;exact r1 J hJ kq j x hx
   |succ i=>exact r2 J hJ kq i j a x (by simpa using ha) hx
theorem rH (ν:Nat->Nat):∀n,z7 ν (fz false n):=by
 intro n
 induction n with
 |zero=>intro k g a x h' e;exact(ah e).elim
 |succ n ih=>
  intro k g a x h' e r v ha;have up:∀{J:Nat->Prop},(∀b,g.I b->J b)->∀{v:Value} {x:IV},RI ν g.I g.w v x->RI ν J g.w v x:=λhJ _ _ h=>h.mono hJ λ_ _ _ _ h=>h
  cases ha with
  |undef=>exact(ah e).elim
  |agg=>exact(ah e).elim
  |bD=>exact(ah e).elim
  |iQ=>exact(ah e).elim
  |iv hr=>
   have key:∀y:IV,(M.ret y).run g.h=some (x,h')->RI ν g.I g.w v y->h'=g.h/\∀J:Nat->Prop,(∀b,g.I b->J b)->(∀id o b,get g.h id=some o->g.φ id=some b->J b)->RI ν J g.w v x:=by
    intro y e hy;obtain⟨rfl,rfl⟩:=ai e;exact⟨rfl,λJ hJ _=>up hJ hy⟩
   cases hr with
   |aV a e'=>exact key _ e (.jg _ _ _)
   |bool b=>exact key _ e (.bool _)
   |int k' n'=>exact key _ e (.int _ _)
   |str s=>exact key _ e (.str _)
   |jg a c e'=>exact key _ e (.jg _ _ _)
   |sl b off n' cap e' es f h1 h2 h3 h4 h5 h6=>exact key _ e (.sl b off n' cap e' es f h1 h2 h3 h4 h5 h6)
   |dM=>exact key _ e .dM
   |ptr b off cs f h1 h2 h3=>exact key _ e (.ptr b off cs f h1 h2 h3)
   |fn f caps cs h1 h2=>exact key _ e (.fn f caps cs h1 h2)
   |junk v h1=>exact key _ e (.junk _ h1)
  |@own _ id o m aC jV ho=>
   obtain⟨ob,hg,e2⟩:=M.cf e;unfold br at ho;rw[hg]at ho;cases ob with
   |cells cs=>exact(ah e2).elim
   |gX cs=>exact(ah e2).elim
   |map _=>exact(ah e2).elim
   |buf v' e' es=>
    obtain⟨hv,e4⟩:=M.aL e2;simp only[Bool.false_eq_true,if_false]at e4;obtain⟨xs,h3,e5,e6⟩:=aw e4;obtain⟨rfl,rfl⟩:=ai e6;have gy:v'=aC:=by simpa using hv
    have hs:=ho.2 gy;have eR:=hs.fits;obtain⟨b,aB,eU,dP,aH⟩:=r.ob id _ hg;obtain⟨V,hV⟩:=uI aH;obtain⟨rfl,hl,tB,hx⟩:=ih.rows k g r _ xs _ e5 (λi j=>V (o+i) j) λi j c x h1 h2=>(hV _ j c x (nN h1).2 h2).2.2
    have rT:xs.length=m:=by rw[hl];simp;omega
    have dc:∀(i:Nat) (c:List IV),xs[i]?=some c->∃c',es[o+i]?=some c'/\c.length=c'.length:=λi c h=>by
     have h':=bg h;have bC:i<((es.drop o).take m).length:=by omega
     have h2:=List.getElem?_eq_getElem bC;exact⟨_,(nN h2).2,tB i _ c h2 h⟩
    refine⟨rfl,λJ hJ kq=>pS rT (λb' hp=>?_) hs⟩;rw[aB]at hp;cases hp;refine⟨kq id _ b hg aB,λc hc=>?_,λi j c x h1 h2=>?_⟩
    ·obtain⟨i,hi⟩:=List.getElem?_of_mem hc;obtain⟨c',h1,h2⟩:=dc i c hi;rw[h2];exact aH.1 c' (List.mem_of_getElem? h1)
    ·obtain⟨c',h3,h4⟩:=dc i c h1;have hj:=bg h2;exact⟨_,(hV (o+i) j c' _ h3 (List.getElem?_eq_getElem (by omega))).1,hx J hJ kq i j c x h1 h2⟩
   |cm v' e' es=>
    obtain⟨hv,e4⟩:=M.aL e2;obtain⟨rfl,rfl⟩:=ai e4;have gy:v'=aC:=by simpa using hv
    exact⟨rfl,λJ hJ _=>up hJ (lZ r hg (ho.2 gy))⟩
  |@ref _ id aC i j gA hr=>
   obtain⟨ob,hg,e2⟩:=M.cf e;unfold bA at hr;rw[hg]at hr;cases ob with
   |map _=>exact(ah e2).elim
   |gX xs=>
    obtain⟨rfl,rfl,hb⟩:=hr;obtain⟨-,e4⟩:=M.aL e2;obtain⟨rfl,rfl⟩:=ai e4;exact⟨rfl,λJ hJ _=>up hJ (wP r hg hb)⟩
   |cells cs=>
    obtain⟨rfl,rfl,b,aB,rfl⟩:=hr;obtain⟨-,e4⟩:=M.aL e2;obtain⟨xs,h3,e5,e6⟩:=aw e4;simp only[Bool.false_eq_true,if_false]at e6;obtain⟨rfl,rfl⟩:=ai e6;obtain⟨b',bS,eU,_,hc⟩:=r.ob id _ hg;rw[aB]at bS;cases bS;obtain⟨V,hV⟩:=pick hc;obtain⟨rfl,hl,hx⟩:=ih.list k g r cs xs _ e5 V λj c h=>(hV j c h).2.2
    refine⟨rfl,λJ hJ kq=>?_⟩;have:=lf (off:=0) (j:=j) (kq id _ b hg aB) (c:=xs) λl x h=>by
     have:=bg h;exact⟨V l,by rw[Nat.zero_add];exact(hV l _ (List.getElem?_eq_getElem (by omega))).1,hx J hJ kq l x h⟩
    rwa [Nat.zero_add]at this
   |buf v' e' es=>
    obtain⟨hv,e4⟩:=M.aL e2;simp only[Bool.false_eq_true,if_false]at e4;obtain⟨c,hc,e6⟩:=M.lift_bind e4;obtain⟨xs,h4,e7,e8⟩:=aw e6;obtain⟨rfl,rfl⟩:=ai e8;have gy:v'=aC:=by simpa using hv
    obtain⟨b,aB,rfl⟩:=hr.2 gy;obtain⟨b',bS,eU,_,aH⟩:=r.ob id _ hg;rw[aB]at bS;cases bS;obtain⟨V,hV⟩:=uI aH;obtain⟨rfl,hl,hx⟩:=ih.list k g r c xs _ e7 (V i) λj x h=>(hV i j c x hc h).2.2
    refine⟨rfl,λJ hJ kq=>lf (kq id _ b hg aB) λl x h=>?_⟩;have:=bg h;exact⟨V i l,(hV i l c _ hc (List.getElem?_eq_getElem (by omega))).1,hx J hJ kq l x h⟩
   |cm v' e' es=>
    obtain⟨hv,e4⟩:=M.aL e2;obtain⟨c,hc,e6⟩:=M.lift_bind e4;obtain⟨rfl,rfl⟩:=ai e6;have gy:v'=aC:=by simpa using hv
    exact⟨rfl,λJ hJ _=>up hJ (l3 r hg hc (hr.2 gy))⟩
  |@dg f first caps fs cs hm hs hn hr=>
   cases fs with
   |cons=>exact(ah e).elim
   |nil=>
    have:first=#[]:=Array.eq_empty_of_size_eq_zero hm
    subst this;obtain⟨xs,h1,e1,e2⟩:=aw e;obtain⟨rfl,rfl⟩:=ai e2;obtain⟨rfl,hl,hx⟩:=ih.list k g r cs xs _ e1 (λj=>caps.getD j (.bool true)) λj c h=>by
     have:=bg h;exact hr j _ c (by simp[Array.getD,show j<caps.size by omega]) h
    refine⟨rfl,λJ hJ kq=>.fn f caps xs (by omega) λj v x h1 h2=>?_⟩;have:=hx J hJ kq j x h2
    rwa [show caps.getD j (.bool true)=v from by
     obtain⟨hj,he⟩:=Array.getElem?_eq_some_iff.1 h1;simp[Array.getD,hj,he]]at this
def dj (ν:Nat->Nat) (k:Cx) (g:Gh) (h':Hp) (r:AV) (res:Result Value):Prop:=
 ∃g' v,res = .ok v g'.w/\g'.h=h'/\Rel ν k g'/\bY ν g g'/\RA ν g' v r
theorem dj.same {ν:Nat->Nat} {k:Cx} {g:Gh} (r:Rel ν k g) {v:Value} {x:AV} {res:Result Value} (hr:res = .ok v g.w) (h:RA ν g v x):dj ν k g g.h x res:=
 ⟨g,v,hr,rfl,r,.refl ν g,h⟩
theorem rB {agg:Bool} {l:List AV} {h h':Hp} {r:AV} (e:(mk agg l).run h=some (r,h')):h'=h/\(agg=true/\r = .agg l\/agg=false/\l=[r]):=by
 unfold mk at e;cases agg with
 |true=>simp only[if_true]at e;obtain⟨rfl,rfl⟩:=ai e;exact⟨rfl,.inl ⟨rfl,rfl⟩⟩
 |false=>
  simp only[Bool.false_eq_true,if_false]at e
  match l with
  |[]=>exact(ah e).elim
  |[x]=>obtain⟨rfl,rfl⟩:=ai e;exact⟨rfl,.inr ⟨rfl,rfl⟩⟩
  |_::_::_=>exact(ah e).elim
theorem od {ν:Nat->Nat} {P:Program} {g:Gh} {t:TypeId} {sz:Nat} {agg:Bool} (ht:lQ P t sz agg=true) {b off:Nat} {l:List AV} (hl:l.length=sz)
  (hc:∀(i:Nat) (x:AV),l[i]?=some x->∃v,g.w.cell? ⟨b,off+i,none⟩=some v/\v.oneCell'=true/\RA ν g v x) {r:AV} (hr:agg=true/\r = .agg l\/agg=false/\l=[r]) :
  ∃v,(loadVar t ⟨b,off,none⟩).run P g.w = .ok v g.w/\RA ν g v r:=by
 obtain⟨d,i,hu,hi,ha,hs,h1⟩:=jc ht;obtain⟨V,hV⟩:=pick hc;rcases hr with⟨gv,rfl⟩|⟨gv,rfl⟩
 ·have iu:(loadCells ⟨b,off,none⟩ i.size).run P g.w = .ok ((List.range i.size).map V).toArray g.w:=run_loadCells g.w _ _ V λj hj=>by
   have:=(hV j (l[j]'(by omega)) (List.getElem?_eq_getElem (by omega))).1
   rwa [Addr.add_lit]
  refine⟨.agg ((List.range i.size).map V).toArray,?_,.agg (by simp;omega) (λj v h=>?_) λj v c h1 h2=>?_⟩
  ·simp[loadVar,gB hu,ha,gv,run_sizeOf hi,iu]
  ·obtain⟨hj,rfl⟩:j<i.size/\V j=v:=by
    have hj:j<i.size:=by
     rcases Nat.lt_or_ge j i.size with h' | h'
     ·exact h'
     ·simp[List.getElem?_eq_none (show(List.range i.size).length<=j by simpa using h')]at h
    exact⟨hj,by simpa[hj]using h⟩
   exact(hV j (l[j]'(by omega)) (List.getElem?_eq_getElem (by omega))).2.1
  ·have hj:j<l.length:=by
    rcases Nat.lt_or_ge j l.length with h' | h'
    ·exact h'
    ·rw[List.getElem?_eq_none h']at h2;cases h2
   obtain rfl:V j=v:=by simpa[show j<i.size by omega]using h1
   exact(hV j c h2).2.2
 ·have h0:=hV 0 r rfl;refine⟨V 0,?_,h0.2.2⟩;have:=h0.1;simp only[Nat.add_zero]at this;simp[loadVar,gB hu,ha,gv,this]
theorem vX {ν:Nat->Nat} {k:Cx} {g:Gh} (r:Rel ν k g) {id aC i j sz:Nat} {ob:Ob} {l:List AV} (hg:get g.h id=some ob) (hl:bB ob aC i j sz=some l) {v:Value}
  (h:bA g v id aC i j):∃b off,v = .pointer (some ⟨b,off,none⟩)/\∀(m:Nat) (x:AV),l[m]?=some x->∃v,g.w.cell? ⟨b,off+m,none⟩=some v/\v.oneCell'=true/\RA ν g v x:=by
 unfold bA at h;rw[hg]at h;have bu:=r.ob id _ hg;have sub:∀{α:Type} {cs:List α} {m:Nat} {x:α},((cs.drop j).take sz)[m]?=some x->cs[j+m]?=some x:=λh=>(nN h).2
 cases ob with
 |cells cs=>
  obtain⟨rfl,rfl,b,aB,rfl⟩:=h;obtain⟨b',bS,_,_,hc⟩:=bu;rw[aB]at bS;cases bS;simp only[bB,true_and,if_true,Option.some.injEq]at hl;subst hl;exact⟨b,j,rfl,λm x hx=>hc _ _ (sub hx)⟩
 |gX cs=>
  obtain⟨rfl,rfl,b,aB,rfl⟩:=h;obtain⟨b',bS,_,hc⟩:=bu;rw[aB]at bS;cases bS;simp only[bB,true_and,if_true,Option.some.injEq]at hl;subst hl;refine⟨b,j,rfl,λm x hx=>?_⟩;simp only[List.getElem?_map,Option.map_eq_some_iff]at hx;obtain⟨y,hy,rfl⟩:=hx;obtain⟨v,h1,h2⟩:=hc _ _ (sub hy);exact⟨v,h1,h2.one,.iv h2⟩
 |buf v' e es=>
  simp only[bB]at hl;split at hl
  ·rename_i hv;obtain⟨b,aB,rfl⟩:=h.2 hv;simp only[Option.map_eq_some_iff]at hl;obtain⟨c,hc,rfl⟩:=hl;obtain⟨b',h1,_,_,aH⟩:=bu;rw[aB]at h1;cases h1;refine⟨b,_,rfl,λm x hx=>?_⟩;obtain⟨v,h1,h2⟩:=aH.2 i (j+m) c x hc (sub hx);exact⟨v,by rw[Nat.add_assoc];exact h1,h2⟩
  ·cases hl
 |cm v' e es=>
  simp only[bB]at hl;split at hl
  ·rename_i hv;obtain⟨b,aB,rfl⟩:=h.2 hv;simp only[Option.map_eq_some_iff]at hl;obtain⟨c,hc,rfl⟩:=hl;obtain⟨b',h1,_,aH⟩:=bu;rw[aB]at h1;cases h1;refine⟨b,_,rfl,λm x hx=>?_⟩;simp only[List.getElem?_map,Option.map_eq_some_iff]at hx;obtain⟨y,hy,rfl⟩:=hx;obtain⟨v,h1,h2⟩:=aH.2 i (j+m) c y hc (sub hy);exact⟨v,by rw[Nat.add_assoc];exact h1,h2.one,.iv h2⟩
  ·cases hl
 |map _=>simp[bB]at hl
theorem rC {ν:Nat->Nat} {P:Program} {k:Cx} {g:Gh} (r:Rel ν k g) {t:TypeId} {sz:Nat} {agg:Bool} (ht:lQ P t sz agg=true) {v:Value} {x y:AV} {h':Hp} (hv:RA ν g v x)
  (e:(load agg sz x).run g.h=some (y,h')):h'=g.h/\∃u,(Instr.loadAt t v).run P g.w = .ok u g.w/\RA ν g u y:=by
 cases hv with
 |undef=>exact(ah e).elim
 |iQ=>exact(ah e).elim
 |agg=>exact(ah e).elim
 |bD=>exact(ah e).elim
 |own=>exact(ah e).elim
 |dg=>exact(ah e).elim
 |iv hr=>
  cases hr with
  |ptr b off cs f hI hc hr=>
   obtain⟨hl,e2⟩:=M.aL e;obtain⟨rfl,hm⟩:=rB e2;have kU:((cs.take sz).map AV.iv).length=sz:=by simpa using hl
   obtain⟨u,hu,hR⟩:=od (ν:=ν) (g:=g) ht (b:=b) (off:=off) kU (λi x hx=>by
    simp only[List.getElem?_map,Option.map_eq_some_iff,List.getElem?_take]at hx;obtain⟨y,hy,rfl⟩:=hx;split at hy
    ·exact⟨f i,hc i y hy,(hr i y hy).one,.iv (hr i y hy)⟩
    ·cases hy) hm
   exact⟨rfl,u,by simp[Instr.loadAt,Instr.sureAddr,hu],hR⟩
  |_=>exact(ah e).elim
 |ref gA hr=>
  obtain⟨ob,hg,e2⟩:=M.cf e;obtain⟨l,hl,e4⟩:=M.lift_bind e2;obtain⟨kU,e6⟩:=M.aL e4;obtain⟨rfl,hm⟩:=rB e6;obtain⟨b,off,rfl,hc⟩:=vX r hg hl hr;obtain⟨u,hu,hR⟩:=od (ν:=ν) (g:=g) ht (b:=b) (off:=off) (by simpa using kU) hc hm;exact⟨rfl,u,by simp[Instr.loadAt,Instr.sureAddr,hu],hR⟩
theorem BD {ν:Nat->Nat} {P:Program} {k:Cx} {g:Gh} (r:Rel ν k g) {t:TypeId} {sz:Nat} {agg:Bool} (ht:lQ P t sz agg=true) {v:Value} {x y:AV} {h':Hp} (hv:RA ν g v x)
  (e:(load agg sz x).run g.h=some (y,h')):dj ν k g h' y ((Instr.loadAt t v).run P g.w):=by
 obtain⟨rfl,u,hu,hR⟩:=rC r ht hv e;exact .same r hu hR
theorem bA.move {g:Gh} {v:Value} {id aC i j:Nat} {ob:Ob} (hg:get g.h id=some ob) (hv:valid ob aC i=true) (h:bA g v id aC i j) (n:Nat) :
  ∃b off,v = .pointer (some ⟨b,off,none⟩)/\bA g (.pointer (some ⟨b,off+n,none⟩)) id aC i (j+n):=by
 unfold bA at h ⊢;rw[hg]at h ⊢;cases ob with
 |cells cs=>
  obtain⟨rfl,rfl,b,aB,rfl⟩:=h;exact⟨b,j,rfl,rfl,rfl,b,aB,rfl⟩
 |gX cs=>
  obtain⟨rfl,rfl,b,aB,rfl⟩:=h;exact⟨b,j,rfl,rfl,rfl,b,aB,rfl⟩
 |buf v' e es=>
  obtain⟨b,aB,rfl⟩:=h.2 (by simpa[valid]using hv);exact⟨b,_,rfl,h.1,λ_=>⟨b,aB,by rw[Nat.add_assoc]⟩⟩
 |cm v' e es=>
  obtain⟨b,aB,rfl⟩:=h.2 (by simpa[valid]using hv);exact⟨b,_,rfl,h.1,λ_=>⟨b,aB,by rw[Nat.add_assoc]⟩⟩
 |map _=>simp[valid]at hv
theorem BE {ν:Nat->Nat} {P:Program} {k:Cx} {g:Gh} (r:Rel ν k g) {s:TypeId} {f off:Nat} (ht:xP P s f off=true) {v:Value} {x y:AV} {h':Hp} (hv:RA ν g v x)
  (e:(di off x).run g.h=some (y,h')):dj ν k g h' y ((Instr.fieldAt s v f).run P g.w):=by
 unfold xP at ht;split at ht
 ·rename_i fs hu;split at ht
  ·rename_i fd hf;simp only[Bool.and_eq_true,beq_iff_eq]at ht;obtain⟨rfl,dZ⟩:=ht;split at dZ
   ·rename_i i hi;have cA:¬i.size=0:=by simpa using dZ
    have key:∀(b o:Nat),(Instr.fieldAt s (.pointer (some ⟨b,o,none⟩)) f).run P g.w = .ok (.pointer (some ⟨b,o+fd.offset,none⟩)) g.w:=by
     intro b o;simp[Instr.fieldAt,run_underlying hu,hf,Instr.sureAddr,fieldPlace,run_sizeOf hi,cA,Addr.add_lit]
    cases hv with
    |undef=>exact(ah e).elim
    |iQ=>exact(ah e).elim
    |agg=>exact(ah e).elim
    |bD=>exact(ah e).elim
    |own=>exact(ah e).elim
    |dg=>exact(ah e).elim
    |iv hr=>
     cases hr with
     |ptr b o cs f' hI hc hr=>
      obtain⟨-,e2⟩:=M.aL e;obtain⟨rfl,rfl⟩:=ai e2;exact .same r (key _ _) (.iv (RI.drop (.ptr b o cs f' hI hc hr)))
     |_=>exact(ah e).elim
    |ref gA hr=>
     obtain⟨ob,hg,e2⟩:=M.cf e;obtain⟨iI,e4⟩:=M.aL e2;obtain⟨rfl,rfl⟩:=ai e4;obtain⟨b,o,rfl,hR⟩:=hr.move hg iI fd.offset;exact .same r (key _ _) (.ref rfl hR)
   ·cases dZ
  ·cases ht
 ·cases ht
theorem ki {x:AV} {n:Int} {h h':Hp} (e:(idx x).run h=some (n,h')):h'=h/\∃k,x = .iv (.int k n):=by
 unfold idx at e;split at e
 ·obtain⟨rfl,rfl⟩:=ai e;exact⟨rfl,_,rfl⟩
 ·exact(ah e).elim
theorem DW {ν:Nat->Nat} {P:Program} {k:Cx} {g:Gh} (r:Rel ν k g) {t:TypeId} {e:Nat} (ht:sliceB P t e=true) {v u:Value} {x z y:AV} {h':Hp} (hv:RA ν g v x) (hu:RA ν g u z)
  (e':(dQ e x z).run g.h=some (y,h')):dj ν k g h' y ((Instr.indexAt t v u).run P g.w):=by
 obtain⟨el,i,jW,hi,rfl⟩:=ju ht;obtain⟨n,h1,e1,e2⟩:=aw e';obtain⟨rfl,kk,rfl⟩:=ki e1;cases hu with
 |iv hz=>
  cases hz;obtain⟨hn,e4⟩:=M.aL e2;have fD:0<=n:=by simpa using hn
  have key:∀(b o len cap:Nat),n<(len:Int)->(Instr.indexAt t (.slice (some ⟨b,o,none⟩) len cap) (.int kk n)).run P g.w = .ok (.pointer (some ⟨b,o+n.toNat*i.size,none⟩)) g.w:=by
   intro b o len cap bC;simp[Instr.indexAt,run_underlying jW,asIntOf,fD,bC,run_sizeOf hi,Addr.add_lit]
  cases hv with
  |undef=>exact(ah e4).elim
  |iQ=>exact(ah e4).elim
  |agg=>exact(ah e4).elim
  |bD=>exact(ah e4).elim
  |ref=>exact(ah e4).elim
  |dg=>exact(ah e4).elim
  |iv hr=>
   cases hr with
   |jg a cap bq=>
    obtain⟨-,e2⟩:=M.aL e4;obtain⟨c,hc,e6⟩:=M.lift_bind e2;simp at hc
   |sl b off m cap bq es f hI hm jx hl hc hr=>
    obtain⟨he,e2⟩:=M.aL e4;obtain⟨c,dm,e6⟩:=M.lift_bind e2;obtain⟨rfl,rfl⟩:=ai e6;have fB:bq=i.size:=by simpa using he
    subst fB;have bC:n.toNat<es.length:=by
     rcases Nat.lt_or_ge n.toNat es.length with h | h
     ·exact h
     ·rw[List.getElem?_eq_none h]at dm;cases dm
    refine .same r (key b off m cap (by omega)) (.iv (.ptr b _ c (λj=>f n.toNat j) hI (λj x hx=>?_) λj x hx=>hr _ _ _ _ dm hx));exact hc _ _ _ _ dm hx
   |_=>exact(ah e4).elim
  |@own _ id o m aC jV ho=>
   obtain⟨hm,e2⟩:=M.aL e4;obtain⟨ob,hg,e5⟩:=M.cf e2;have eN:n<(m:Int):=by simpa using hm
   unfold br at ho;rw[hg]at ho;have fin:∀{v' bq L:Nat} {ob:Ob},get g.h id=some ob->(∃es,ob = .buf v' bq es\/∃xs,ob = .cm v' bq xs)->v'=aC->bq=i.size->fq g.w (g.φ id) bq L o m v->
     dj ν k g g.h (.ref id aC (o+n.toNat) 0) ((Instr.indexAt t v (.int kk n)).run P g.w):=by
    intro v' bq L ob iq jI hv he hs;cases aB:g.φ id with
    |none=>rw[aB]at hs;obtain⟨_,rfl,_⟩:=hs;omega
    |some b=>
     rw[aB]at hs;obtain⟨x,cap,rfl,h2,_,h3,h4,_⟩:=hs;have hx:x=o*bq:=h4.resolve_right λh=>by have:=h.1;omega
     subst hx he;refine .same r (key b _ m cap eN) (.ref rfl ?_);unfold bA;rw[iq];obtain⟨es,rfl | ⟨xs,rfl⟩⟩:=jI<;>exact⟨Nat.le_of_eq hv.symm,λ_=>⟨b,aB,by rw[Nat.add_mul];rfl⟩⟩
   have S2:∀{L:Nat} {ob:Ob},get g.h id=some ob->(∃cs,ob = .cells cs\/∃xs,ob = .gX xs)->1=i.size->fq g.w (g.φ id) 1 L o m v->
     dj ν k g g.h (.ref id 0 0 (o+n.toNat)) ((Instr.indexAt t v (.int kk n)).run P g.w):=by
    intro L ob iq jI he hs;cases aB:g.φ id with
    |none=>rw[aB]at hs;obtain⟨_,rfl,_⟩:=hs;omega
    |some b=>
     rw[aB]at hs;obtain⟨x,cap,rfl,h2,_,h3,h4,_⟩:=hs;have hx:x=o*1:=h4.resolve_right λh=>by have:=h.1;omega
     subst hx;refine .same r (key b _ m cap eN) (.ref rfl ?_);unfold bA;rw[iq];rw[<-he];obtain⟨es,rfl | ⟨xs,rfl⟩⟩:=jI<;>exact⟨rfl,rfl,b,aB,by simp⟩
   cases ob with
   |cells cs=>
    obtain⟨eQ,e7⟩:=M.aL e5;obtain⟨rfl,rfl⟩:=ai e7;simp only[Bool.and_eq_true,beq_iff_eq]at eQ;exact S2 hg ⟨cs,.inl rfl⟩ eQ.2.symm ho.2
   |gX cs=>
    obtain⟨eQ,e7⟩:=M.aL e5;obtain⟨rfl,rfl⟩:=ai e7;simp only[Bool.and_eq_true,beq_iff_eq]at eQ;exact S2 hg ⟨[],.inr ⟨cs,rfl⟩⟩ eQ.2.symm ho.2
   |buf v' bq es=>
    obtain⟨eQ,e7⟩:=M.aL e5;obtain⟨rfl,rfl⟩:=ai e7;simp only[Bool.and_eq_true,beq_iff_eq]at eQ;exact fin hg ⟨es,.inl rfl⟩ eQ.1 eQ.2 (ho.2 eQ.1)
   |cm v' bq es=>
    obtain⟨eQ,e7⟩:=M.aL e5;obtain⟨rfl,rfl⟩:=ai e7;simp only[Bool.and_eq_true,beq_iff_eq]at eQ;exact fin hg ⟨[],.inr ⟨es,rfl⟩⟩ eQ.1 eQ.2 (ho.2 eQ.1)
   |map _=>exact ho.elim
section
variable {ν:Nat->Nat} {P:Program} {k:Cx} {g:Gh}
theorem RA.int {v:Value} {kk:IntKind} {n:Int} (h:RA ν g v (.iv (.int kk n))):v = .int kk n:=by cases h with | iv h=>cases h;rfl
theorem RA.bool {v:Value} {b:Bool} (h:RA ν g v (.iv (.bool b))):v = .bool b:=by cases h with | iv h=>cases h;rfl
theorem RA.str {v:Value} {s:ByteArray} (h:RA ν g v (.iv (.str s))):v = .string s:=by cases h with | iv h=>cases h;rfl
theorem RA.dM {v:Value} (h:RA ν g v (.iv .dM)):v = .pointer none:=by cases h with | iv h=>cases h;rfl
theorem RA.ptr {v:Value} {cs:List IV} (h:RA ν g v (.iv (.ptr cs))):∃b off,v = .pointer (some ⟨b,off,none⟩):=by cases h with | iv h=>cases h;exact⟨_,_,rfl⟩
theorem mkInt {kk:IntKind} {n:Int}:RA ν g (.int kk n) (.iv (.int kk n)):=.iv (.int _ _)
theorem dD {b:Bool}:RA ν g (.bool b) (.iv (.bool b)):=.iv (.bool _)
theorem xQ {t:TypeId} {sz off:Nat} {agg:Bool} (ht:lQ P t sz agg=true) {vs:Array Value} {cs:List AV} (hv:RA ν g (.agg vs) (.agg cs)) (hl:((cs.drop off).take sz).length=sz)
  {r:AV} (hr:agg=true/\r = .agg ((cs.drop off).take sz)\/agg=false/\(cs.drop off).take sz=[r]) (w:World):∃v,(part t vs off).run P w = .ok v w/\RA ν g v r:=by
 obtain⟨d,i,hu,hi,ha,hs,h1⟩:=jc ht;subst hs;cases hv with
 |agg hn ho l5=>
  have eR:off+i.size<=cs.length\/i.size=0:=by simp only[List.length_take,List.length_drop]at hl;omega
  rcases hr with⟨gv,rfl⟩|⟨gv,hr⟩
  ·have key:∀(j:Nat) (v:Value),(vs.extract off (off+i.size))[j]?=some v->vs[off+j]?=some v/\j<i.size:=by
    intro j v h;rw[Array.getElem?_extract]at h;split at h
    ·exact⟨h,by omega⟩
    ·cases h
   refine⟨.agg (vs.extract off (off+i.size)),by simp[part,gB hu,ha,gv,run_sizeOf hi],.agg (by simp only[Array.size_extract,hl];omega) (λj v h=>ho _ v (key j v h).1) λj v c h h2=>?_⟩;obtain⟨h',bC⟩:=key j v h;rw[List.getElem?_take,if_pos bC,List.getElem?_drop]at h2;exact l5 _ v c h' h2
  ·have hz:i.size=1:=h1 gv;have hc:cs[off]?=some r:=by
    have:((cs.drop off).take i.size)[0]?=some r:=by rw[hr];rfl
    rw[List.getElem?_take,if_pos (by omega),List.getElem?_drop]at this;simpa using this
   have bC:off<vs.size:=by omega
   refine⟨vs[off],by simp[part,gB hu,ha,gv,Array.getElem?_eq_getElem bC],l5 off _ r (Array.getElem?_eq_getElem bC) hc⟩
theorem RA.lg {v:Value} {cs:List AV} (h:RA ν g v (.agg cs)):∃vs,v = .agg vs:=by cases h;exact⟨_,rfl⟩
theorem vY {op:BinOp} {t:TypeId} {kk k':IntKind} {a b:Int} {z:IV} (h:cU op kk k' a b=some z) (w:World) :
  ∃v,(binOp op t (.int kk a) (.int k' b)).run P w = .ok v w/\RI ν g.I g.w v z:=by
 cases op
 case shl=>
  simp only[cU]at h;split at h
  ·cases h
  ·rename_i hb;cases h;exact⟨_,by simp[binOp,Op.shift,hb],.int _ _⟩
 case shr=>
  simp only[cU]at h;split at h
  ·cases h
  ·rename_i hb;cases h;exact⟨_,by simp[binOp,Op.shift,hb],.int _ _⟩
 all_goals
  simp only[cU]at h;split at h
  case isFalse=>cases h
  rename_i hk;subst hk
 case quo=>
  split at h
  ·cases h
  ·rename_i hb;cases h;exact⟨_,by simp[binOp,Op.intDiv,hb],.int _ _⟩
 case rem=>
  split at h
  ·cases h
  ·rename_i hb;cases h;exact⟨_,by simp[binOp,Op.intDiv,hb],.int _ _⟩
 all_goals cases h
 case add | sub | mul=>exact⟨_,by simp[binOp,Op.intArith],.int _ _⟩
 case and | or | xor | andNot=>exact⟨_,by simp[binOp];rfl,.int _ _⟩
 all_goals exact⟨_,by simp[binOp,Op.intCmp],.bool _⟩
theorem vZ {op:BinOp} {t:TypeId} {a b:ByteArray} {z:IV} (h:db op a b=some z) (w:World) :
  ∃v,(binOp op t (.string a) (.string b)).run P w = .ok v w/\RI ν g.I g.w v z:=by
 cases op<;>simp only[db]at h<;>(try cases h)
 case add=>
  split at h
  ·rename_i hb;cases h;refine⟨.string (a++b),?_,.str _⟩;have:¬(9223372036854775807:Int)<((a.size:Int)+b.size):=by omega
   simp[binOp,Op.stringOp,this]
  ·cases h
 all_goals exact⟨_,by simp[binOp,Op.stringOp,fL,beq_toListBytes],.bool _⟩
theorem RA.Zt {v:Value} {f:Nat} {fs cs:List AV} (h:RA ν g v (.dg f fs cs)):∃f c1 c2,v = .func f c1 c2:=by cases h;exact⟨_,_,_,rfl⟩
theorem RA.fnv {v:Value} {f:Nat} {cs:List IV} (h:RA ν g v (.iv (.fn f cs))):∃f c1 c2,v = .func f c1 c2:=by cases h with | iv h=>cases h;exact⟨_,_,_,rfl⟩
def za (P:Program) (t:TypeId) (q:Nat):Bool:=
 match q with
 |0=>true
 |1=>(match P.underlying t with | some .bool=>true | _=>false)
 |2=>(match P.underlying t with | some (.pointer el)=>(P.info? el).isSome | _=>false)
 |3=>(match P.underlying t with | some (.func _ _ _)=>true | _=>false)
 |_=>true
theorem DX (r:Rel ν k g) {op:BinOp} {t:TypeId} {q:Nat} (ht:za P t q=true) {a b:Operand} {v u:Value} {x z:AV} {y:IV} (hv:RA ν g v x) (hu:RA ν g u z) (e:bin op q x z=some y) :
  dj ν k g g.h (.iv y) ((do eqGuard op t a b v u;binOp op t v u:Sem Value).run P g.w):=by
 unfold bin at e;split at e
 ·obtain rfl:=hv.int;obtain rfl:=hu.int;obtain⟨w',h1,h2⟩:=vY (ν:=ν) (P:=P) (g:=g) (t:=t) e g.w;exact .same r (by simp[eqGuard_at_int,h1]) (.iv h2)
 ·obtain rfl:=hv.str;obtain rfl:=hu.str;obtain⟨w',h1,h2⟩:=vZ (ν:=ν) (P:=P) (g:=g) (t:=t) e g.w;exact .same r (by simp[eqGuard_at_string,h1]) (.iv h2)
 ·obtain rfl:=hv.bool;obtain rfl:=hu.bool;have fU:P.underlying t=some .bool:=by
   simp only[za]at ht;split at ht
   ·assumption
   ·cases ht
  split at e
  ·cases e;exact .same r (by simp only[Sem.run_bind,eqGuard_at_bool,Sem.run_pure,Result.andThen_ok];exact run_eql_bool _ _ _ _ fU) dD
  ·cases e;refine .same r (v:=.bool (!_)) ?_ dD;simp only[Sem.run_bind,eqGuard_at_bool,Sem.run_pure,Result.andThen_ok,binOp];simp[run_equal_bool g.w t _ _ fU]
  ·cases e
 case h_10=>cases e
 case h_4 | h_5 | h_6=>
  have fU:∃el,P.underlying t=some (.pointer el):=by
   simp only[za]at ht;split at ht
   ·exact⟨_,by assumption⟩
   ·cases ht
  obtain⟨el,fU⟩:=fU
  first
  |obtain rfl:=hv.dM
   obtain rfl:=hu.dM;have key:=mF (P:=P) (λd w=>sq d fU w) a b g.w;split at e
   ·cases e;exact .same r key.1 dD
   ·cases e;exact .same r key.2 dD
   ·cases e
  |obtain⟨b',off,rfl⟩:=hv.ptr
   obtain rfl:=hu.dM;have key:=mF (P:=P) (λd w=>ns d fU ⟨b',off,none⟩ w) a b g.w;split at e
   ·cases e;exact .same r key.1 dD
   ·cases e;exact .same r key.2 dD
   ·cases e
  |obtain rfl:=hv.dM
   obtain⟨b',off,rfl⟩:=hu.ptr;have key:=mF (P:=P) (λd w=>nv d fU ⟨b',off,none⟩ w) a b g.w;split at e
   ·cases e;exact .same r key.1 dD
   ·cases e;exact .same r key.2 dD
   ·cases e
 all_goals
  have fU:∃p1 p2 p3,P.underlying t=some (.func p1 p2 p3):=by
   simp only[za]at ht;split at ht
   ·exact⟨_,_,_,by assumption⟩
   ·cases ht
  obtain⟨p1,p2,p3,fU⟩:=fU;have nn:∀(d:Nat) (w:World),(Op.equalIn (d+1) t .nilFunc .nilFunc).run P w = .ok true w:=λd w=>by simp[Op.equalIn,run_underlying fU]
  have fn:∀(f:Fn) (c1 c2:Array Value) (d:Nat) (w:World),(Op.equalIn (d+1) t (.func f c1 c2) .nilFunc).run P w = .ok false w:=λf c1 c2 d w=>by simp[Op.equalIn,run_underlying fU]
  have key:∀{c d:Value} {z:Bool},(∀(d':Nat) (w:World),(Op.equalIn (d'+1) t c d).run P w = .ok z w)->(eqGuard .eql t a b c d).run P g.w = .ok () g.w->(eqGuard .neq t a b c d).run P g.w = .ok () g.w->
    (binOp .eql t c d=(do pure (.bool (<-Op.equal t c d)):Sem Value))->(binOp .neq t c d=(do pure (.bool (!(<-Op.equal t c d))):Sem Value))->
    ((do eqGuard .eql t a b c d;binOp .eql t c d:Sem Value).run P g.w = .ok (.bool z) g.w)/\((do eqGuard .neq t a b c d;binOp .neq t c d:Sem Value).run P g.w = .ok (.bool (!z)) g.w):=by
   intro c d z h g1 g2 b1 b2;have h':(Op.equal t c d).run P g.w = .ok z g.w:=h 9999 g.w;constructor
   ·simp only[Sem.run_bind,g1,Result.andThen_ok,b1,h',Sem.run_pure]
   ·simp only[Sem.run_bind,g2,Result.andThen_ok,b2,h',Sem.run_pure]
  first
  |obtain rfl:v = .nilFunc:=by cases hv with | iQ h=>exact h
   obtain rfl:u = .nilFunc:=by cases hu with | iQ h=>exact h
   have key:=key nn (by simp[eqGuard]) (by simp[eqGuard]) rfl rfl;split at e
   ·cases e;exact .same r key.1 dD
   ·cases e;exact .same r key.2 dD
   ·cases e
  |obtain⟨f,c1,c2,rfl⟩:∃f c1 c2,v = .func f c1 c2:=hv.Zt
   obtain rfl:u = .nilFunc:=by cases hu with | iQ h=>exact h
   have key:=key (fn f c1 c2) (by simp[eqGuard]) (by simp[eqGuard]) rfl rfl;split at e
   ·cases e;exact .same r key.1 dD
   ·cases e;exact .same r key.2 dD
   ·cases e
  |obtain⟨f,c1,c2,rfl⟩:∃f c1 c2,v = .func f c1 c2:=hv.fnv
   obtain rfl:u = .nilFunc:=by cases hu with | iQ h=>exact h
   have key:=key (fn f c1 c2) (by simp[eqGuard]) (by simp[eqGuard]) rfl rfl;split at e
   ·cases e;exact .same r key.1 dD
   ·cases e;exact .same r key.2 dD
   ·cases e
theorem BT {id aC i j:Nat} {ob:Ob} (hg:get g.h id=some ob) (hv:valid ob aC i=true) {v:Value} (h:bA g v id aC i j):∃b off,v = .pointer (some ⟨b,off,none⟩)/\∀v',bA g v' id aC i j->v'=v:=by
 unfold bA at h;rw[hg]at h;have key:∀v',bA g v' id aC i j->_:=λv' h'=>by unfold bA at h';rw[hg]at h';exact h'
 cases ob with
 |cells cs=>
  obtain⟨rfl,rfl,b,aB,rfl⟩:=h;refine⟨b,j,rfl,λv' h'=>?_⟩;obtain⟨_,_,b',bS,rfl⟩:=key v' h';rw[aB]at bS;cases bS;rfl
 |gX cs=>
  obtain⟨rfl,rfl,b,aB,rfl⟩:=h;refine⟨b,j,rfl,λv' h'=>?_⟩;obtain⟨_,_,b',bS,rfl⟩:=key v' h';rw[aB]at bS;cases bS;rfl
 |buf v' e es=>
  have gy:v'=aC:=by simpa[valid]using hv
  obtain⟨b,aB,rfl⟩:=h.2 gy;refine⟨b,_,rfl,λv' h'=>?_⟩;obtain⟨b',bS,rfl⟩:=(key v' h').2 gy;rw[aB]at bS;cases bS;rfl
 |cm v' e es=>
  have gy:v'=aC:=by simpa[valid]using hv
  obtain⟨b,aB,rfl⟩:=h.2 gy;refine⟨b,_,rfl,λv' h'=>?_⟩;obtain⟨b',bS,rfl⟩:=(key v' h').2 gy;rw[aB]at bS;cases bS;rfl
 |map _=>simp[valid]at hv
theorem zb (d:Nat) {t el:TypeId} {i:TypeInfo} (h:P.underlying t=some (.pointer el)) (hi:P.info? el=some i) (b off:Nat) (w:World):(Op.equalIn (d+1) t (.pointer (some ⟨b,off,none⟩)) (.pointer (some ⟨b,off,none⟩))).run P w = .ok true w:=by
 simp[Op.equalIn,run_underlying h,run_sizeOf hi,sameAddr]
theorem QM (r:Rel ν k g) {op:BinOp} {t:TypeId} {q:Nat} (ht:za P t q=true) {a b:Operand} {v u:Value} {x z y:AV} {h':Hp} (hv:RA ν g v x) (hu:RA ν g u z) (e:(fX op q x z).run g.h=some (y,h')) :
  dj ν k g h' y ((do eqGuard op t a b v u;binOp op t v u:Sem Value).run P g.w):=by
 have tp:q=2->∃el i,P.underlying t=some (.pointer el)/\P.info? el=some i:=by
  rintro rfl;simp only[za]at ht;split at ht
  ·obtain⟨i,hi⟩:=Option.isSome_iff_exists.1 ht;exact⟨_,i,by assumption,hi⟩
  ·cases ht
 unfold fX at e;split at e
 ·obtain⟨el,ii,fU,pW⟩:=tp rfl;obtain⟨ob,hg,e2⟩:=M.cf e;obtain⟨iI,e4⟩:=M.aL e2;obtain rfl:=hu.dM;cases hv with
  |ref _ hr=>
   obtain⟨b',off,rfl, -⟩:=BT hg iI hr;have key:=mF (P:=P) (λd w=>ns d fU ⟨b',off,none⟩ w) a b g.w;split at e4
   ·obtain⟨rfl,rfl⟩:=ai e4;exact .same r key.1 dD
   ·obtain⟨rfl,rfl⟩:=ai e4;exact .same r key.2 dD
   ·exact(ah e4).elim
 ·obtain⟨el,ii,fU,pW⟩:=tp rfl;obtain⟨ob,hg,e2⟩:=M.cf e;obtain⟨iI,e4⟩:=M.aL e2;obtain rfl:=hv.dM;cases hu with
  |ref _ hr=>
   obtain⟨b',off,rfl, -⟩:=BT hg iI hr;have key:=mF (P:=P) (λd w=>nv d fU ⟨b',off,none⟩ w) a b g.w;split at e4
   ·obtain⟨rfl,rfl⟩:=ai e4;exact .same r key.1 dD
   ·obtain⟨rfl,rfl⟩:=ai e4;exact .same r key.2 dD
   ·exact(ah e4).elim
 ·rename_i id aC i j ed SZ i' j';obtain⟨el,ii,fU,pW⟩:=tp rfl;obtain⟨ob,hg,e2⟩:=M.cf e;obtain⟨iI,e4⟩:=M.aL e2;simp only[Bool.and_eq_true,beq_iff_eq]at iI;obtain⟨⟨⟨⟨iI,rfl⟩,rfl⟩,rfl⟩,rfl⟩:=iI;cases hv with
  |ref _ hr=>
   obtain⟨b',off,rfl,Wo⟩:=BT hg iI hr;cases hu with
   |ref _ jY=>
    obtain rfl:=Wo _ jY;have key:=mF (P:=P) (λd w=>zb d fU pW b' off w) a b g.w;split at e4
    ·obtain⟨rfl,rfl⟩:=ai e4;exact .same r key.1 dD
    ·obtain⟨rfl,rfl⟩:=ai e4;exact .same r key.2 dD
    ·exact(ah e4).elim
 ·obtain⟨y',hb,e2⟩:=M.lift_bind e;obtain⟨rfl,rfl⟩:=ai e2;exact DX r ht hv hu hb
theorem v8 {q:Nat} {t:TypeId} {x y:AV} {b:Bool} (e:ly q x y=some b) (ht:kj q (P.underlying t)=true) {v u:Value} (hv:RA ν g v x) (hu:RA ν g u y) (d:Nat) (w:World) :
  (Op.equalIn (d+1) t v u).run P w = .ok b w:=by
 unfold ly at e;split at e
 ·obtain rfl:=hv.int;obtain rfl:=hu.int;obtain⟨kk,h1⟩:=yP ht;simp only[Option.ite_none_right_eq_some,Option.some.injEq]at e;obtain⟨hk,rfl⟩:=e;subst hk;exact run_equalIn_int w d t _ _ _ _ h1
 ·cases e;obtain rfl:=hv.bool;obtain rfl:=hu.bool;exact run_equalIn_bool w d t _ _ (v7 ht)
 ·cases e;obtain rfl:=hv.str;obtain rfl:=hu.str;rw[run_equalIn_string w d t _ _ (yQ ht),beq_toListBytes]
 ·cases e
theorem RA.jQ {vs:Array Value} {cs:List AV} (h:RA ν g (.agg vs) (.agg cs)) (j:Nat) (c:AV) (hc:cs[j]?=some c):∃v,vs[j]?=some v/\RA ν g v c:=by
 cases h with
 |agg hn _ hr=>
  have hj:j<cs.length:=by
   rcases Nat.lt_or_ge j cs.length with h' | h'
   ·exact h'
   ·rw[List.getElem?_eq_none h']at hc;cases hc
  exact⟨vs[j],Array.getElem?_eq_getElem (by omega),hr j _ c (Array.getElem?_eq_getElem (by omega)) hc⟩
theorem I9 (r:Rel ν k g) {op:UnOp} {v:Value} {x:AV} {y:IV} (hv:RA ν g v x) (e:un op x=some y):dj ν k g g.h (.iv y) ((Op.unary op v).run P g.w):=by
 unfold un at e;split at e
 ·obtain rfl:=hv.int;split at e
  ·cases e;exact .same r (by simp[Op.unary,Op.intArith]) mkInt
  ·cases e;exact .same r (v:=.int _ _) (by simp only[Op.unary,intBits_xor];rfl) mkInt
  ·cases e
 ·obtain rfl:=hv.bool;split at e
  ·cases e;exact .same r (by simp[Op.unary]) dD
  ·cases e
 ·cases e
theorem DZ (r:Rel ν k g) {s d:TypeId} {kk:IntKind} (ht:BF P s d kk=true) {v:Value} {x:AV} {n:Int} {h':Hp} (hv:RA ν g v x) (e:(idx x).run g.h=some (n,h')) :
  dj ν k g g.h (.iv (.int kk (kk.wrap n))) ((convert s d v).run P g.w):=by
 obtain⟨_,k',rfl⟩:=ki e;obtain rfl:=hv.int;unfold BF at ht;simp only[Bool.and_eq_true]at ht;obtain⟨h1,h2⟩:=ht;obtain⟨sd,hs⟩:=Option.isSome_iff_exists.1 h1;split at h2
 ·rename_i Lk hd;have:Lk=kk:=by simpa using h2
  subst this;exact .same r (by simp[convert,run_underlying hs,run_underlying hd,Conv.intToInt]) mkInt
 ·cases h2
end
section
variable {ν:Nat->Nat} {P:Program} {k:Cx} {g:Gh}
def RO (ν:Nat->Nat) (g:Gh):Option Value->Option AV->Prop
 |none,none=>True
 |some v,some x=>RA ν g v x
 |_,_=>False
theorem l6 {y:Nat} {o:Option AV} {n:Option Nat} {h h':Hp} (e:(bound y o).run h=some (n,h')) {c:Option Value} (hc:RO ν g c o) :
  h'=h/\(o=none/\n=none/\c=none\/∃(kk:IntKind) (m:Nat),c=some (.int kk m)/\m<=y/\n=some m):=by
 unfold bound at e;split at e
 ·obtain⟨rfl,rfl⟩:=ai e;cases c with
  |none=>exact⟨rfl,.inl ⟨rfl,rfl,rfl⟩⟩
  |some v=>exact hc.elim
 ·rename_i kk m;obtain⟨hm,e2⟩:=M.aL e;obtain⟨rfl,rfl⟩:=ai e2;have eN:0<=m/\m<=y:=by simpa using hm
  cases c with
  |none=>exact hc.elim
  |some v=>
   obtain rfl:=RA.int hc;exact⟨rfl,.inr ⟨kk,m.toNat,by rw[Int.toNat_of_nonneg eN.1],by omega,rfl⟩⟩
 ·exact(ah e).elim
theorem iL {n y cap:Nat} (hy:n<=y) (jx:y<=cap) {lo hi:Option AV} {cl ch:Option Value} {l h:Option Nat} {g0 g1 g2:Hp} (fJ:Bool)
  (eh:(bound y hi).run g0=some (h,g1)) (el:(bound (h.getD n) lo).run g1=some (l,g2)) (hh:RO ν g ch hi) (hl:RO ν g cl lo) (w:World) :
  g2=g0/\l.getD 0<=h.getD n/\h.getD n<=y/\(Instr.sliceBounds fJ n cap cl ch none).run P w = .ok (l.getD 0,h.getD n,cap) w:=by
 obtain⟨rfl,h1⟩:=l6 eh hh;obtain⟨rfl,h2⟩:=l6 el hl;refine⟨rfl,?_⟩;rcases h1 with⟨-,rfl,rfl⟩|⟨k1,m1,rfl,jy,rfl⟩
 ·rcases h2 with⟨-,rfl,rfl⟩|⟨k2,m2,rfl,iX,rfl⟩
  ·simp[Instr.sliceBounds,hy]
  ·simp only[Option.getD_none]at iX;have:(Instr.sliceBound (.int k2 m2) n .sliceB).run P w = .ok m2 w:=by simp[Instr.sliceBound,asIntOf,iX]
   simp[Instr.sliceBounds,this,iX,hy]
 ·have hs:∀c,(Instr.sliceBound (.int k1 m1) cap c).run P w = .ok m1 w:=λc=>by
   have:m1<=cap:=by omega
   simp[Instr.sliceBound,asIntOf,this]
  rcases h2 with⟨-,rfl,rfl⟩|⟨k2,m2,rfl,iX,rfl⟩
  ·simp[Instr.sliceBounds,hs,jy]
  ·simp only[Option.getD_some]at iX;have:(Instr.sliceBound (.int k2 m2) m1 .sliceB).run P w = .ok m2 w:=by simp[Instr.sliceBound,asIntOf,iX]
   simp[Instr.sliceBounds,hs,this,iX,jy]
theorem br.row {id o n aC e L:Nat} {ob:Ob} (hg:get g.h id=some ob) (hl:ea ob aC e=some L) {v:Value} (h:br g v id o n aC) :
  fq g.w (g.φ id) e L o n v/\∀v' o' n',fq g.w (g.φ id) e L o' n' v'->br g v' id o' n' aC:=by
 unfold br at h;rw[hg]at h;cases ob with
 |buf v' e' es=>
  simp only[ea]at hl;split at hl
  ·rename_i hh;cases hl;obtain⟨rfl,rfl⟩:=hh;exact⟨h.2 rfl,λv2 o' n' hs=>by unfold br;rw[hg];exact⟨Nat.le_refl _,λ_=>hs⟩⟩
  ·cases hl
 |cm v' e' es=>
  simp only[ea]at hl;split at hl
  ·rename_i hh;cases hl;obtain⟨rfl,rfl⟩:=hh;exact⟨h.2 rfl,λv2 o' n' hs=>by unfold br;rw[hg];exact⟨Nat.le_refl _,λ_=>hs⟩⟩
  ·cases hl
 |cells cs=>
  simp only[ea]at hl;split at hl
  ·rename_i hh;cases hl;obtain⟨rfl,rfl⟩:=hh;exact⟨h.2,λv2 o' n' hs=>by unfold br;rw[hg];exact⟨rfl,hs⟩⟩
  ·cases hl
 |gX cs=>
  simp only[ea]at hl;split at hl
  ·rename_i hh;cases hl;obtain⟨rfl,rfl⟩:=hh;exact⟨h.2,λv2 o' n' hs=>by unfold br;rw[hg];exact⟨rfl,hs⟩⟩
  ·cases hl
 |map _=>exact h.elim
theorem gO {t el:TypeId} {i:TypeInfo} (hu:P.underlying t=some (.slice el)) (hi:P.info? el=some i) {a:Option Addr} {n cap l h:Nat} {cl ch:Option Value} {w:World}
  (hb:(Instr.sliceBounds true n cap cl ch none).run P w = .ok (l,h,cap) w) :
  (Instr.sliceAt t (.slice a n cap) cl ch none).run P w = .ok (.slice (if cap=l then a else a.map (·.add (l*i.size))) (h - l) (cap - l)) w:=by
 have:(Instr.slice t (.slice a n cap) cl ch none).run P w = .ok (.slice (if cap=l then a else a.map (·.add (l*i.size))) (h - l) (cap - l)) w:=by
  simp[Instr.slice,run_underlying hu,hb,run_sizeOf hi]
 simp[Instr.sliceAt,run_underlying hu,this]
theorem D0 (r:Rel ν k g) {t:TypeId} {e:Nat} (ht:sliceB P t e=true) {v:Value} {cl ch:Option Value} {x y:AV} {lo hi:Option AV} {h':Hp} (hv:RA ν g v x) (hl:RO ν g cl lo) (hh:RO ν g ch hi)
  (e':(eu e x lo hi).run g.h=some (y,h')):dj ν k g h' y ((Instr.sliceAt t v cl ch none).run P g.w):=by
 obtain⟨el,i,hu,cK,rfl⟩:=ju ht;cases hv with
 |undef=>exact(ah e').elim
 |iQ=>exact(ah e').elim
 |agg=>exact(ah e').elim
 |bD=>exact(ah e').elim
 |ref=>exact(ah e').elim
 |dg=>exact(ah e').elim
 |iv hr=>
  cases hr with
  |aV a bq=>
   obtain⟨hb,h2,e3,e4⟩:=aw e';obtain⟨lb,h3,e5,e6⟩:=aw e4;obtain⟨rfl,h4,h5,h6⟩:=iL (ν:=ν) (g:=g) (P:=P) (n:=0) (y:=0) (cap:=0) (Nat.le_refl _) (Nat.le_refl _) true e3 e5 hh hl g.w;obtain⟨rfl,rfl⟩:=ai e6;have hz:hb.getD 0=0:=by omega
   have D1:lb.getD 0=0:=by omega
   refine .same r (gO hu cK h6) (.iv ?_);simp only[hz,D1,Nat.sub_zero,if_true];exact .aV _ _
  |jg a cap bq=>
   obtain⟨-,e2⟩:=M.aL e';obtain⟨hb,h2,e3,e4⟩:=aw e2;obtain⟨lb,h3,e5,e6⟩:=aw e4;obtain⟨rfl,h4,h5,h6⟩:=iL (ν:=ν) (g:=g) (P:=P) (n:=0) (y:=0) (cap:=cap) (Nat.le_refl _) (Nat.zero_le _) true e3 e5 hh hl g.w;obtain⟨rfl,rfl⟩:=ai e6;simp only[List.length_nil]at *;have hz:hb.getD 0=0:=by omega
   have D1:lb.getD 0=0:=by omega
   refine .same r (gO hu cK h6) (.iv ?_);simp only[hz,D1,List.take_nil,List.drop_nil,Nat.sub_zero];exact .jg _ _ _
  |sl b off n cap bq es f hI hn jx pU hc hr=>
   obtain⟨he,e2⟩:=M.aL e';obtain⟨hb,h2,e3,e4⟩:=aw e2;obtain⟨lb,h3,e5,e6⟩:=aw e4;subst hn;obtain⟨rfl,h4,h5,h6⟩:=iL (ν:=ν) (g:=g) (P:=P) (Nat.le_refl _) jx true e3 e5 hh hl g.w;obtain⟨rfl,rfl⟩:=ai e6;have fB:bq=i.size:=by simpa using he
   subst fB;refine .same r (gO hu cK h6) (.iv ?_);generalize lb.getD 0=l at *;generalize hb.getD es.length=h at *;by_cases Sr:l=h
   ·subst Sr;have:(es.take l).drop l=[]:=by simp
    rw[this,Nat.sub_self];exact .jg _ _ _
   ·have cA:¬cap=l:=by omega
    rw[if_neg cA];simp only[Option.map_some,Addr.add_lit];have eK:∀(j:Nat) (c:List IV),((es.take h).drop l)[j]?=some c->es[l+j]?=some c:=by
     intro j c hj;rw[List.getElem?_drop,List.getElem?_take]at hj;split at hj
     ·exact hj
     ·cases hj
    refine .sl b _ _ _ i.size _ (λa b=>f (l+a) b) hI (by simp;omega) (by omega) (λc dm=>pU c (List.mem_of_mem_take (List.mem_of_mem_drop dm))) (λa j c x h1 h2=>?_) λa j c x h1 h2=>hr _ _ _ _ (eK a c h1) h2
    have:=hc _ _ _ _ (eK a c h1) h2
    rwa [Nat.add_mul,<-Nat.add_assoc]at this
  |_=>exact(ah e').elim
 |@own _ id o m aC jV ho=>
  obtain⟨ob,hg,e8⟩:=M.cf e';obtain⟨L,hL,gV⟩:=M.lift_bind e8;obtain⟨hb,h2,e3,e4⟩:=aw gV;obtain⟨lb,h3,e5,e6⟩:=aw e4;obtain⟨hs,PK⟩:=ho.row hg hL;have eR:=hs.fits;cases aB:g.φ id with
  |none=>
   rw[aB]at hs;obtain⟨⟨a,rfl⟩,rfl,rfl,rfl⟩:=hs;obtain⟨rfl,h4,h5,h6⟩:=iL (ν:=ν) (g:=g) (P:=P) (n:=0) (y:=0) (cap:=0) (Nat.le_refl _) (Nat.le_refl _) true e3 e5 hh hl g.w;obtain⟨rfl,rfl⟩:=ai e6;refine .same r (gO hu cK h6) (.own rfl (PK _ _ _ ?_));rw[aB];have h1:hb.getD 0=0:=by omega
   have h2:lb.getD 0=0:=by omega
   exact⟨⟨a,by simp[h1,h2]⟩,by omega,by omega,rfl⟩
  |some b=>
   rw[aB]at hs;obtain⟨x,cap,rfl,q2,qL,q3,q4,q5⟩:=hs;obtain⟨rfl,h4,h5,h6⟩:=iL (ν:=ν) (g:=g) (P:=P) (n:=m) (y:=L - o) (cap:=cap) (by omega) (by omega) true e3 e5 hh hl g.w;obtain⟨rfl,rfl⟩:=ai e6;refine .same r (gO hu cK h6) (.own rfl (PK _ _ _ ?_));rw[aB];generalize lb.getD 0=l at *;generalize hb.getD m=h at *;by_cases fe:cap=l
   ·rw[if_pos fe];refine⟨x,cap - l,rfl,by omega,by omega,by omega,?_,λhx c hc=>?_⟩
    ·rcases q4 with q4 | q4
     ·by_cases qI:l=0
      ·left;subst qI;simpa using q4
      ·right;omega
     ·right;omega
    ·by_cases wa:x=o*i.size
     ·exact q5 wa c (Nat.lt_of_lt_of_le hc (Nat.mul_le_mul_right _ (by omega)))
     ·have:=q4.resolve_left wa;have qI:l=0:=by omega
      subst qI;exact absurd (by simpa using hx) wa
   ·rw[if_neg fe];refine⟨x+l*i.size,cap - l,by simp[Addr.add_lit],by omega,by omega,by omega,?_,λhx c hc=>?_⟩
    ·rcases q4 with q4 | q4
     ·left;rw[q4,Nat.add_mul]
     ·right;omega
    ·have wa:x=o*i.size:=by rw[Nat.add_mul]at hx;omega
     exact q5 wa c (Nat.lt_of_lt_of_le hc (Nat.mul_le_mul_right _ (by omega)))
theorem D2 (r:Rel ν k g) {t ty:TypeId} {str:Bool} (ht:BG P t str=true) {v:Value} {x y:AV} {h':Hp} (hv:RA ν g v x) (e:(len str x).run g.h=some (y,h')) :
  dj ν k g h' y ((Builtin.len_ #[t] ty #[v]).run P g.w):=by
 unfold BG at ht;split at ht
 ·rename_i el hu;have:str=false:=by simpa using ht
  subst this;have key:∀(a:Option Addr) (n cap:Nat),dj ν k g g.h (.iv (.int .i64 n)) ((Builtin.len_ #[t] ty #[.slice a n cap]).run P g.w):=λa n cap=>
   .same r (v:=.int .i64 n) (by simp[Builtin.len_,run_underlying hu,goInt]) mkInt
  cases hv with
  |undef=>exact(ah e).elim
  |iQ=>exact(ah e).elim
  |agg=>exact(ah e).elim
  |bD=>exact(ah e).elim
  |ref=>exact(ah e).elim
  |dg=>exact(ah e).elim
  |iv hr=>
   cases hr with
   |aV a bq=>obtain⟨rfl,rfl⟩:=ai e;exact key _ _ _
   |jg a cap bq=>obtain⟨rfl,rfl⟩:=ai e;exact key _ 0 _
   |sl b off n cap bq es f hI hn jx pU hc hr=>obtain⟨rfl,rfl⟩:=ai e;rw[hn];exact key _ _ _
   |_=>exact(ah e).elim
  |@own _ id o m aC jV ho=>
   obtain⟨ob,hg,e2⟩:=M.cf e;unfold br at ho;rw[hg]at ho;have fin:∀{bq L:Nat},fq g.w (g.φ id) bq L o m v->dj ν k g g.h (.iv (.int .i64 m)) ((Builtin.len_ #[t] ty #[v]).run P g.w):=by
    intro bq L hs;cases aB:g.φ id with
    |none=>rw[aB]at hs;obtain⟨⟨a,rfl⟩,rfl,_⟩:=hs;exact key _ _ _
    |some b=>rw[aB]at hs;obtain⟨x,cap,rfl,_⟩:=hs;exact key _ _ _
   cases ob with
   |cells cs=>
    obtain⟨iI,e4⟩:=M.aL e2;obtain⟨rfl,rfl⟩:=ai e4;exact fin ho.2
   |gX cs=>
    obtain⟨iI,e4⟩:=M.aL e2;obtain⟨rfl,rfl⟩:=ai e4;exact fin ho.2
   |buf v' bq es=>
    obtain⟨iI,e4⟩:=M.aL e2;obtain⟨rfl,rfl⟩:=ai e4;exact fin (ho.2 (by simpa using iI))
   |cm v' bq es=>
    obtain⟨iI,e4⟩:=M.aL e2;obtain⟨rfl,rfl⟩:=ai e4;exact fin (ho.2 (by simpa using iI))
   |map _=>exact ho.elim
 ·rename_i hu;have:str=true:=ht;subst this;unfold len at e;split at e
  ·rename_i h;cases h
  ·rename_i h;cases h
  ·rename_i h;cases h
  ·obtain⟨rfl,rfl⟩:=ai e;obtain rfl:=hv.str;exact .same r (v:=.int .i64 _) (by simp[Builtin.len_,run_underlying hu,goInt]) mkInt
  ·exact(ah e).elim
 ·cases ht
theorem Ja (P:Program) (w:World):∀(xs:List AV) (vs:List Value) (a:Int) (kk:IntKind) (z:Int),sm a xs kk=some z->vs.length=xs.length->(∀(j:Nat) (v:Value) (x:AV),vs[j]?=some v->xs[j]?=some x->RA ν g v x)->
  (vs.foldlM Builtin.min2 (.int kk a)).run P w = .ok (.int kk z) w:=by
 intro xs
 induction xs with
 |nil=>
  intro vs a kk z h hl _;have:vs=[]:=List.eq_nil_of_length_eq_zero hl;subst this;simp[sm]at h;subst h;rfl
 |cons x xs ih=>
  intro vs a kk z h hl hr;cases vs with
  |nil=>simp at hl
  |cons v vs=>
   have h0:=hr 0 v x rfl rfl;unfold sm at h;split at h
   ·rename_i heq;cases heq
   ·rename_i Su b r heq;cases heq;split at h
    ·rename_i hk;subst hk;obtain rfl:=h0.int;simp only[List.foldlM_cons,Sem.run_bind,Builtin.min2,Sem.run_pure,Result.andThen_ok];exact ih vs _ _ _ h (by simpa using hl) λj v' x' h1 h2=>hr (j+1) v' x' (by simpa using h1) (by simpa using h2)
    ·cases h
   ·cases h
theorem Jb (P:Program) (w:World):∀(xs:List AV) (vs:List Value) (a:Int) (kk:IntKind) (z:Int),qH a xs kk=some z->vs.length=xs.length->(∀(j:Nat) (v:Value) (x:AV),vs[j]?=some v->xs[j]?=some x->RA ν g v x)->
  (vs.foldlM Builtin.max2 (.int kk a)).run P w = .ok (.int kk z) w:=by
 intro xs
 induction xs with
 |nil=>
  intro vs a kk z h hl _;have:vs=[]:=List.eq_nil_of_length_eq_zero hl;subst this;simp[qH]at h;subst h;rfl
 |cons x xs ih=>
  intro vs a kk z h hl hr;cases vs with
  |nil=>simp at hl
  |cons v vs=>
   have h0:=hr 0 v x rfl rfl;unfold qH at h;split at h
   ·rename_i heq;cases heq
   ·rename_i Su b r heq;cases heq;split at h
    ·rename_i hk;subst hk;obtain rfl:=h0.int;simp only[List.foldlM_cons,Sem.run_bind,Builtin.max2,Sem.run_pure,Result.andThen_ok];exact ih vs _ _ _ h (by simpa using hl) λj v' x' h1 h2=>hr (j+1) v' x' (by simpa using h1) (by simpa using h2)
    ·cases h
   ·cases h
theorem jX {x:AV} {l:List AV} {h h':Hp} (e:(bh x).run h=some (l,h')) {v:Value} (hv:RA ν g v x) :
  h'=h/\v.cells.size=l.length/\∀(j:Nat) (c:AV),l[j]?=some c->∃u,v.cells[j]?=some u/\u.oneCell'=true/\RA ν g u c:=by
 have one:∀{z:AV},(M.ret [z]).run h=some (l,h')->RA ν g v z->v.oneCell'=true->h'=h/\v.cells.size=l.length/\∀(j:Nat) (c:AV),l[j]?=some c->∃u,v.cells[j]?=some u/\u.oneCell'=true/\RA ν g u c:=by
  intro z e hz h1;obtain⟨rfl,rfl⟩:=ai e;have hc:v.cells=#[v]:=by cases v<;>first | rfl | simp[Value.oneCell']at h1
  refine⟨rfl,by rw[hc];rfl,λj c hj=>?_⟩;cases j with
  |zero=>simp at hj;subst hj;exact⟨v,by rw[hc];rfl,h1,hz⟩
  |succ j=>simp at hj
 cases hv with
 |undef=>exact(ah e).elim
 |iQ h=>exact one e (.iQ h) (by rw[h];exact NC _)
 |bD=>exact(ah e).elim
 |agg hn h1 hr=>
  obtain⟨rfl,rfl⟩:=ai e;refine⟨rfl,hn,λj c hj=>?_⟩;obtain⟨u,hu,hR⟩:=RA.jQ (.agg hn h1 hr) j c hj;exact⟨u,hu,h1 j u hu,hR⟩
 |iv hr=>exact one e (.iv hr) hr.one
 |own h1 h2=>exact one e (.own h1 h2) h1
 |ref h1 h2=>exact one e (.ref h1 h2) h1
 |dg hm hs hn hr=>exact one e (.dg hm hs hn hr) rfl
def RC (ν:Nat->Nat) (g:Gh) (vs:Array Value) (cs:List AV):Prop:=
 vs.size=cs.length/\∀(j:Nat) (c:AV),cs[j]?=some c->∃u,vs[j]?=some u/\u.oneCell'=true/\RA ν g u c
theorem RC.agg {vs:Array Value} {cs:List AV} (h:RC ν g vs cs):RA ν g (.agg vs) (.agg cs):=by
 have key:∀(j:Nat) (v:Value),vs[j]?=some v->∃c,cs[j]?=some c/\v.oneCell'=true/\RA ν g v c:=by
  intro j v hv;have hj:j<vs.size:=(Array.getElem?_eq_some_iff.1 hv).1;have hc:cs[j]?=some (cs[j]'(by have:=h.1;omega)):=List.getElem?_eq_getElem _;obtain⟨u,hu,h1,hR⟩:=h.2 j _ hc;rw[hv]at hu;cases hu;exact⟨_,hc,h1,hR⟩
 exact .agg h.1 (λj v hv=>let⟨_,_,h1,_⟩:=key j v hv;h1) λj v c hv hc=>by
  obtain⟨c',dm,_,hR⟩:=key j v hv;rw[hc]at dm;cases dm;exact hR
theorem RC.bl {vs us:Array Value} {cs l:List AV} {o:Nat} (h:RC ν g vs cs) (hu:RC ν g us l) (eR:o+l.length<=cs.length) :
  RC ν g ((us.toList.zipIdx).foldl (λcs (p:Value×Nat)=>cs.setIfInBounds (o+p.2) p.1) vs) (bl cs o l):=by
 have hs:=nc o us.toList 0 vs (by have:=h.1;have:=hu.1;simp;omega);simp only[Nat.add_zero,Array.length_toList]at hs;refine⟨by rw[hs.1,gm _ _ _ eR,h.1],λj c hc=>?_⟩;rw[lh _ _ _ eR]at hc;rw[hs.2 j];have:=hu.1;by_cases hj:o<=j/\j<o+l.length
 ·rw[if_pos hj]at hc;rw[if_pos (by omega)];simpa using hu.2 _ c hc
 ·rw[if_neg hj]at hc;rw[if_neg (by omega)];exact h.2 j c hc
end
section
variable {ν:Nat->Nat} {P:Program} {k:Cx} {g:Gh}
theorem RC.mono {g':Gh} {vs:Array Value} {cs:List AV} (h:RC ν g vs cs) (hm:bY ν g g'):RC ν g' vs cs:=
 ⟨h.1,λj c hc=>let⟨u,h1,h2,h3⟩:=h.2 j c hc;⟨u,h1,h2,hm _ _ h3⟩⟩
theorem pV (r:Rel ν k g) {slot:Nat} {t:TypeId} {vs:Array Value} {cs:List AV} (hv:RC ν g vs cs) (lB:pf ν (g.w.alloc (.cells vs t)) slot g.w.heap.size) {h':Hp} {y:AV}
  (e:((M.fresh slot).bind λ_=>(M.write slot (.cells cs)).bind λ_=>M.ret (.ref slot 0 0 0)).run g.h=some (y,h')) :
  dj ν k g h' y (.ok (.pointer (some ⟨g.w.heap.size,0,none⟩)) (g.w.alloc (.cells vs t))):=by
 obtain⟨_,h1,e1,e2⟩:=aw e;obtain⟨hf,rfl⟩:=M.fC e1;obtain⟨_,h3,e5,e6⟩:=aw e2;obtain rfl:=bV e5;obtain⟨rfl,rfl⟩:=ai e6;have hn:=r.new (s:=slot) (ob:=.cells cs) (p:=some g.w.heap.size) (w':=g.w.alloc (.cells vs t)) hf (by simp) rfl rfl rfl (λb hb=>alloc_old _ _ _ hb)
  (λb h=>by cases h;exact Nat.le_refl _) (λb h=>by cases h;exact lB) λhm=>by
   refine⟨g.w.heap.size,aU _ _ _,λhi=>?_,⟨by simp,λo=>World.frozen?_alloc_new _ _ _ _⟩,λj c hc=>?_⟩
   ·exact Nat.lt_irrefl _ (r.small _ hi)
   ·obtain⟨u,h1,h2,h3⟩:=hv.2 j c hc;exact⟨u,by rw[World.cell?_alloc_new];exact h1,h2,hm _ _ h3⟩
 refine⟨_,_,rfl,rfl,hn.1,hn.2,.ref rfl ?_⟩;unfold bA;simp only[ar,aU];exact⟨trivial,trivial,_,rfl,rfl⟩
theorem lR (w:World) (vs:Array Value) (t:TypeId):(w.alloc (.cells vs t)).shape? w.heap.size=some (t,vs.size):=by
 unfold World.shape?;rw[heap_alloc_new]
theorem D3 (r:Rel ν k g) {slot tag:Nat} {t:TypeId} (EH:(tag==0||tag==1&&t==ν Au)=true) {v:Value} {x y:AV} (hv:RA ν g v x) {h':Hp}
  (e:((bh x).bind λxs=>(M.ok (tag==0||tag==1&&xs.length==2)).bind λ_=>(M.fresh (4*slot+tag)).bind λ_=>(M.write (4*slot+tag) (.cells xs)).bind λ_=>M.ret (.ref (4*slot+tag) 0 0 0)).run g.h=some (y,h')) :
  dj ν k g h' y ((Instr.box t v).run P g.w):=by
 obtain⟨xs,h1,e1,e2⟩:=aw e;obtain⟨rfl,hs,hc⟩:=jX e1 hv;obtain⟨cg,e4⟩:=M.aL e2;have lB:pf ν (g.w.alloc (.cells v.cells t)) (4*slot+tag) g.w.heap.size:=by
  simp only[Bool.or_eq_true,Bool.and_eq_true,beq_iff_eq]at EH cg;by_cases h0:tag=0
  ·subst h0;exact .zero (by omega)
  ·obtain⟨rfl,rfl⟩:=EH.resolve_left h0;have h2:=(cg.resolve_left h0).2;exact⟨λ_=>by rw[lR,hs,h2],by omega,by omega⟩
 have:=pV (t:=t) r ⟨hs,hc⟩ lB e4;simpa[Instr.box,newVar,newRow]using this
def EI:Value->AV->Bool
 |v,.iv x=>BH v x
 |.nilFunc,.iQ 0=>true
 |.nilIface,.iQ 1=>true
 |.map none,.iQ 2=>true
 |_,_=>false
theorem tQ {v:Value} {x:AV} (h:EI v x=true) (g:Gh):v.oneCell'=true/\RA ν g v x:=by
 unfold EI at h;split at h
 ·have hR:RI ν g.I g.w v _:=rD h _ _;exact⟨hR.one,.iv hR⟩
 ·exact⟨rfl,.iQ rfl⟩
 ·exact⟨rfl,.iQ rfl⟩
 ·exact⟨rfl,.iQ rfl⟩
 ·cases h
def lS:List Value->List AV->Bool
 |[],[]=>true
 |v::vs,x::xs=>EI v x&&lS vs xs
 |_,_=>false
theorem pg:∀{vs:List Value} {xs:List AV},lS vs xs=true->vs.length=xs.length/\∀(j:Nat) (x:AV),xs[j]?=some x->∃v,vs[j]?=some v/\EI v x=true
 |[],[],_=>⟨rfl,λj x h=>by simp at h⟩
 |v::vs,x::xs,h=>by
  simp only[lS,Bool.and_eq_true]at h;obtain⟨h1,h2⟩:=pg h.2;refine⟨by simp[h1],λj y hj=>?_⟩;cases j with
  |zero=>simp at hj;subst hj;exact⟨v,rfl,h.1⟩
  |succ j=>simpa using h2 j y (by simpa using hj)
 |[],_::_,h=>by simp[lS]at h
 |_::_,[],h=>by simp[lS]at h
theorem zc {vs:Array Value} {xs:List AV} (h:lS vs.toList xs=true):RC ν g vs xs:=by
 obtain⟨h1,h2⟩:=pg h;refine⟨by simpa using h1,λj c hc=>?_⟩;obtain⟨v,hv,mT⟩:=h2 j c hc;obtain⟨h3,h4⟩:=tQ (ν:=ν) mT g;exact⟨v,by simpa using hv,h3,h4⟩
def sH (P:Program) (t:TypeId) (z:List AV):Bool:=
 match P.info? t with
 |some i=>(match i.zero with | some v=>lS v.cells.toList z | none=>false)
 |none=>false
theorem rf {t:TypeId} {z:List AV} (h:sH P t z=true):∃i v,P.info? t=some i/\i.zero=some v/\lS v.cells.toList z=true:=by
 unfold sH at h;split at h
 ·rename_i i hi;split at h
  ·rename_i v hv;exact⟨i,v,hi,hv,h⟩
  ·cases h
 ·cases h
def ND (ν:Nat->Nat) (t:TypeId) (tag:Nat) (z:List AV):Bool:=tag==0||(tag==1&&t==ν Au&&z.length==2)
theorem wb (r:Rel ν k g) {slot tag:Nat} {t:TypeId} {z:List AV} (ht:sH P t z=true) (EH:ND ν t tag z=true) {y:AV} {h':Hp}
  (e:((M.ok (Nat.ble tag 1)).bind λ_=>(M.fresh (4*slot+tag)).bind λ_=>(M.write (4*slot+tag) (.cells z)).bind λ_=>M.ret (.ref (4*slot+tag) 0 0 0)).run g.h=some (y,h')) :
  dj ν k g h' y ((Instr.alloc t true (.tuple #[])).run P g.w):=by
 obtain⟨i,v,hi,hz,hc⟩:=rf ht;obtain⟨-,e2⟩:=M.aL e;have lB:pf ν (g.w.alloc (.cells v.cells t)) (4*slot+tag) g.w.heap.size:=by
  simp only[ND,Bool.or_eq_true,Bool.and_eq_true,beq_iff_eq]at EH;rcases EH with rfl | ⟨⟨rfl,rfl⟩,h2⟩
  ·exact .zero (by omega)
  ·have:=(pg hc).1;simp only[Array.length_toList]at this;exact⟨λ_=>by rw[lR,this,h2],by omega,by omega⟩
 have:=pV (t:=t) r (zc hc) lB e2;simpa[Instr.alloc,zeroValue,typeInfo,hi,hz,newVar,newRow]using this
end
section
variable {ν:Nat->Nat} {P:Program} {k:Cx} {g:Gh}
theorem fq.put {w w':World} {b e o n L L':Nat} {v:Value} (h:fq w (some b) e L o n v) (hl:L=L')
  (hc:∀c,(w.cell? ⟨b,c,none⟩).isSome=true->(w'.cell? ⟨b,c,none⟩).isSome=true):fq w' (some b) e L' o n v:=by
 subst hl;obtain⟨x,cap,e1,e2,eL,e3,e4,e5⟩:=h;exact⟨x,cap,e1,e2,eL,e3,e4,λhx c h'=>hc c (e5 hx c h')⟩
theorem tR (w:World) (b:Nat):∀(vs:List Value) (o c:Nat),(w.setCells b o vs).shape? c=w.shape? c:=by
 intro vs
 induction vs generalizing w with
 |nil=>intro o c;rfl
 |cons v vs ih=>
  intro o c;rw[World.setCells,ih];simp only[World.shape?,World.setCell,Array.getElem?_modify];by_cases h:b=c
  ·subst h;cases hb:w.heap[b]? with
   |none=>simp
   |some ob=>cases ob<;>simp
  ·simp[h]
theorem Rel.put (r:Rel ν k g) {id v e b off v':Nat} {es es':List (List AV)} {vs:List Value} (hg:get g.h id=some (.buf v e es)) (aB:g.φ id=some b)
  (iu:∀j,j<vs.length->(g.w.cell? ⟨b,off+j,none⟩).isSome=true) (hv:v'=v/\es.length=es'.length\/v'=v+1)
  (aH:∀g':Gh,g'.w=g.w.setCells b off vs->bY ν g g'->tf ν g' b e es') :
  Rel ν k { g with w:=g.w.setCells b off vs,h:=set g.h id (.buf v' e es') }/\bY ν g { g with w:=g.w.setCells b off vs,h:=set g.h id (.buf v' e es') }:=by
 obtain⟨eU,dP⟩:¬g.I b/\yO g.w b:=by
  obtain⟨b',h1,h2,h3,_⟩:=r.ob id _ hg;rw[aB]at h1;cases h1;exact⟨h2,h3⟩
 have gl:=nd g.w b vs off;have ht:=r.nq (s:=id) (ob:=.buf v' e es') (p:=g.φ id) (w':=g.w.setCells b off vs) (I':=g.I) hg (λb' h=>by rw[aB]at h;cases h;exact eU) (by rw[gW];exact Nat.le_refl _) gl.1 gl.2.1 gl.2.2
  (λb' _ cA=>mG _ _ _ _ _ λhe=>cA (by rw[he];exact aB)) (λ_ h=>h) (λ_ h=>.inl h) (.inl rfl) (λb' h=>(r.ty id _ b' hg h).same (tR _ _ _ _ _))
  (λu o n aC ho=>by
   unfold br at ho ⊢;rw[hg]at ho;simp only[ar,aU];obtain⟨h1,h2⟩:=ho;rcases hv with⟨rfl,hl⟩|rfl
   ·refine⟨h1,λhe=>?_⟩;have:=h2 he;rw[aB]at this ⊢;exact this.put hl λc hc=>jR _ _ _ _ iu _ hc
   ·exact⟨by omega,λhe=>by omega⟩)
  (λu aC i j hr=>by
   unfold bA at hr ⊢;rw[hg]at hr;simp only[ar,aU];obtain⟨h1,h2⟩:=hr;rcases hv with⟨rfl,hl⟩|rfl
   ·exact⟨h1,h2⟩
   ·exact⟨by omega,λhe=>by omega⟩)
  (λ_ hm=>⟨b,(aU _ _ _).trans aB,eU,⟨by rw[gW];exact dP.1,λo=>by rw[World.frozen?_setCells];exact dP.2 o⟩,aH _ rfl hm⟩)
 rw[q9]at ht;exact ht
theorem tf.len {b e:Nat} {es:List (List AV)} (h:tf ν g b e es) {i j:Nat} {c:List AV} {x:AV} (h1:es[i]?=some c) (h2:c[j]?=some x):j<e:=by
 have:=bg h2
 rwa [h.1 c (List.mem_of_getElem? h1)]at this
theorem QN {g':Gh} {b e i j:Nat} {es:List (List AV)} {c l:List AV} {vs:List Value} (aH:tf ν g b e es) (hc:es[i]?=some c) (eR:j+l.length<=e) (hl:vs.length=l.length)
  (hv:∀(m:Nat) (x:AV),l[m]?=some x->∃u,vs[m]?=some u/\u.oneCell'=true/\RA ν g u x) (hex:∀m,m<vs.length->(g.w.cell? ⟨b,i*e+j+m,none⟩).isSome=true)
  (hw:g'.w=g.w.setCells b (i*e+j) vs) (hm:bY ν g g'):tf ν g' b e (es.set i (bl c j l)):=by
 have PF:c.length=e:=aH.1 c (List.mem_of_getElem? hc);have hi:=bg hc;refine⟨λc' dm=>?_,λi2 j2 c' x' h1 h2=>?_⟩
 ·rcases List.mem_or_eq_of_mem_set dm with h | h
  ·exact aH.1 c' h
  ·rw[h,gm _ _ _ (by omega)];exact PF
 ·rw[hw,gn _ _ _ _ hex];rw[List.getElem?_set]at h1;by_cases D6:i=i2
  ·subst D6;rw[if_pos rfl,if_pos hi]at h1;cases h1;rw[lh _ _ _ (by omega)]at h2;by_cases eV:j<=j2/\j2<j+l.length
   ·rw[if_pos eV]at h2;rw[if_pos (by omega)];obtain⟨u,hu,h3,h4⟩:=hv _ x' h2;exact⟨u,by rw[show i*e+j2 - (i*e+j)=j2 - j by omega];exact hu,h3,hm _ _ h4⟩
   ·rw[if_neg eV]at h2;rw[if_neg (by omega)];obtain⟨u,h3,h4,h5⟩:=aH.2 i j2 c x' hc h2;exact⟨u,h3,h4,hm _ _ h5⟩
  ·rw[if_neg D6]at h1;have vB:=aH.len h1 h2;have ga:¬(i*e+j<=i2*e+j2/\i2*e+j2<i*e+j+vs.length):=by
    intro⟨ha,hb⟩;rcases Nat.lt_or_gt_of_ne D6 with bC | bC
    ·have:i*e+e<=i2*e:=by rw[<-Nat.succ_mul];exact Nat.mul_le_mul_right _ bC
     omega
    ·have:i2*e+e<=i*e:=by rw[<-Nat.succ_mul];exact Nat.mul_le_mul_right _ bC
     omega
   rw[if_neg ga];obtain⟨u,h3,h4,h5⟩:=aH.2 i2 j2 c' x' h1 h2;exact⟨u,h3,h4,hm _ _ h5⟩
theorem NF (r:Rel ν k g) {sz:Nat} {va vx:Value} {a x y:AV} (iI:RA ν g va a) (Ll:RA ν g vx x) {h':Hp}
  (e':(store sz a x).run g.h=some (y,h')) :
  ∃b off g',va = .pointer (some ⟨b,off,none⟩)/\y = .bD []/\g'.w=g.w.setCells b off vx.cells.toList/\vx.cells.size=sz/\(∀o,g.w.frozen? ⟨b,o,none⟩=false)/\(∀m,m<sz->(g.w.cell? ⟨b,off+m,none⟩).isSome=true)/\
   g'.h=h'/\Rel ν k g'/\bY ν g g'/\∀u ∈ vx.cells.toList,u.oneCell'=true:=by
 obtain⟨xs,h1,e1,e2⟩:=aw e';obtain⟨rfl,hs,hc⟩:=jX e1 Ll;obtain⟨hl,e4⟩:=M.aL e2;have kU:xs.length=sz:=by simpa using hl
 have da:∀u ∈ vx.cells.toList,u.oneCell'=true:=by
  intro u hu;obtain⟨j,hj,rfl⟩:=List.getElem_of_mem hu;simp only[Array.length_toList]at hj;obtain⟨u',h1,h2,_⟩:=hc j _ (List.getElem?_eq_getElem (by omega));rw[Array.getElem?_eq_getElem hj]at h1;cases h1;simpa using h2
 split at e4
 case h_2=>exact(ah e4).elim
 rename_i id aC i' j;cases iI with
 |ref gA hr=>
  obtain⟨ob,hg,e6⟩:=M.cf e4;unfold bA at hr;rw[hg]at hr;cases ob with
  |cm _ _ _=>exact(ah e6).elim
  |gX _=>exact(ah e6).elim
  |map _=>exact(ah e6).elim
  |cells cs=>
   obtain⟨rfl,rfl,b,aB,rfl⟩:=hr;obtain⟨eR,e8⟩:=M.aL e6;have z8:j+sz<=cs.length:=by simpa using eR
   obtain⟨_,h6,Aa,tA⟩:=aw e8;obtain rfl:=bV Aa;obtain⟨rfl,rfl⟩:=ai tA;obtain⟨b',bS,eU,dP,wc⟩:=r.ob id _ hg;rw[aB]at bS;cases bS;have hex:∀m,m<vx.cells.toList.length->(g.w.cell? ⟨b,j+m,none⟩).isSome=true:=by
    intro m hm;simp only[Array.length_toList]at hm;obtain⟨u,hu,_⟩:=wc (j+m) _ (List.getElem?_eq_getElem (by omega));rw[hu];rfl
   have gl:=nd g.w b vx.cells.toList j;have ht:=r.nq (s:=id) (ob:=.cells (bl cs j xs)) (p:=g.φ id) (w':=g.w.setCells b j vx.cells.toList) (I':=g.I) hg (λb' h=>by rw[aB]at h;cases h;exact eU)
    (by rw[gW];exact Nat.le_refl _) gl.1 gl.2.1 gl.2.2
    (λb' _ cA=>mG _ _ _ _ _ λhe=>cA (by rw[he];exact aB)) (λ_ h=>h) (λ_ h=>.inl h) (.inl rfl) (λb' h=>(r.ty id _ b' hg h).same (tR _ _ _ _ _))
    (λu o n aC ho=>by
     unfold br at ho ⊢;rw[hg]at ho;simp only[ar,aU];refine⟨ho.1,?_⟩;have:=ho.2;rw[aB]at this ⊢;exact this.put (by rw[gm _ _ _ (by omega)]) λc hc=>jR _ _ _ _ hex _ hc)
    (λu aC m n hr=>by
     unfold bA at hr ⊢;rw[hg]at hr;simp only[ar,aU];exact hr)
    (λ_ hm=>by
     refine⟨b,(aU _ _ _).trans aB,eU,⟨by rw[gW];exact dP.1,λo=>by rw[World.frozen?_setCells];exact dP.2 o⟩,λm c eN=>?_⟩;rw[lh _ _ _ (by omega)]at eN;simp only[];rw[gn _ _ _ _ hex];simp only[Array.length_toList,hs,kU];by_cases eV:j<=m/\m<j+sz
     ·rw[if_pos (by omega)]at eN;rw[if_pos eV];obtain⟨u,h1,h2,h3⟩:=hc _ c eN;exact⟨u,by simpa using h1,h2,hm _ _ h3⟩
     ·rw[if_neg (by omega)]at eN;rw[if_neg eV];obtain⟨u,h1,h2,h3⟩:=wc m c eN;exact⟨u,h1,h2,hm _ _ h3⟩)
   rw[q9]at ht;exact⟨b,j,_,rfl,rfl,rfl,by omega,dP.2,by simpa[hs,kU]using hex,rfl,ht.1,ht.2,da⟩
  |buf v e es=>
   obtain⟨cg,tA⟩:=M.aL e6;simp only[Bool.and_eq_true,beq_iff_eq,Nat.ble_eq]at cg;obtain⟨hv,eR⟩:=cg;obtain⟨c,qJ,D5⟩:=M.lift_bind tA;obtain⟨_,h8,Sv,Sw⟩:=aw D5;obtain rfl:=bV Sv;obtain⟨rfl,rfl⟩:=ai Sw;obtain⟨b,aB,rfl⟩:=hr.2 hv;obtain⟨b',h1,eU,dP,aH⟩:=r.ob id _ hg;rw[aB]at h1;cases h1;have PF:c.length=e:=aH.1 c (List.mem_of_getElem? qJ);have hex:∀m,m<vx.cells.toList.length->(g.w.cell? ⟨b,i'*e+j+m,none⟩).isSome=true:=by
    intro m hm;simp only[Array.length_toList]at hm;obtain⟨u,hu,_⟩:=aH.2 i' (j+m) c _ qJ (List.getElem?_eq_getElem (by omega));rw[Nat.add_assoc,hu];rfl
   have jz:=r.put (id:=id) (v:=v) (e:=e) (b:=b) (off:=i'*e+j) (v':=v) (es:=es) (es':=es.set i' (bl c j xs)) (vs:=vx.cells.toList) hg aB hex (.inl ⟨rfl,by simp⟩)
    (λg' hw hm=>QN aH qJ (by omega) (by simp;omega) (λm x h=>by obtain⟨u,h1,h2,h3⟩:=hc m x h;exact⟨u,by simpa using h1,h2,h3⟩) hex hw hm)
   exact⟨b,i'*e+j,_,rfl,rfl,rfl,by omega,dP.2,by simpa[hs,kU]using hex,rfl,jz.1,jz.2,da⟩
theorem yR (r:Rel ν k g) {t:TypeId} {sz:Nat} (ht:qW P t sz=true) {va vx:Value} {a x y:AV} (iI:RA ν g va a) (Ll:RA ν g vx x) {h':Hp}
  (e':(store sz a x).run g.h=some (y,h')) :
  ∃g',(Instr.storeAt t va vx).run P g.w = .ok () g'.w/\y = .bD []/\g'.h=h'/\Rel ν k g'/\bY ν g g':=by
 obtain⟨i,hi,rfl⟩:=og ht;obtain⟨b,off,g',rfl,h1,h2,h3,h4,h5,h6,h7,h8,h9⟩:=NF r iI Ll e';exact⟨g',by rw[h2];exact ta hi h3 (by simpa using h5) h4 h9,h1,h6,h7,h8⟩
end
section
variable {ν:Nat->Nat} {P:Program} {k:Cx} {g:Gh}
def oZ (ν:Nat->Nat) (g:Gh) (vs:Array Value) (e:Nat) (es:List (List AV)):Prop:=
 vs.size=es.length*e/\(∀c ∈ es,c.length=e)/\∀(i j:Nat) (c:List AV) (x:AV),es[i]?=some c->c[j]?=some x->∃u,vs[i*e+j]?=some u/\u.oneCell'=true/\RA ν g u x
theorem oZ.step {vs us:Array Value} {e i0:Nat} {es:List (List AV)} {l:List AV} (h:oZ ν g vs e es) (hi:i0<es.length) (hu:us.size=e) (hl:l.length=e)
  (hr:∀(m:Nat) (x:AV),l[m]?=some x->∃u,us[m]?=some u/\u.oneCell'=true/\RA ν g u x) :
  oZ ν g ((us.toList.zipIdx).foldl (λcs (p:Value×Nat)=>cs.setIfInBounds (i0*e+p.2) p.1) vs) e (es.set i0 l):=by
 have eR:i0*e+e<=vs.size:=by rw[h.1,<-Nat.succ_mul];exact Nat.mul_le_mul_right _ hi
 have hs:=nc (i0*e) us.toList 0 vs (by simp;omega);simp only[Nat.add_zero,Array.length_toList,hu]at hs;refine⟨by rw[hs.1,h.1];simp,λc hc=>?_,λi j c x h1 h2=>?_⟩
 ·rcases List.mem_or_eq_of_mem_set hc with h' | h'
  ·exact h.2.1 c h'
  ·rw[h',hl]
 ·rw[hs.2,List.getElem?_set]at *;by_cases pW:i0=i
  ·subst pW;rw[if_pos rfl,if_pos hi]at h1;cases h1;have hj:=bg h2;rw[if_pos (by omega),show i0*e+j - i0*e=j by omega];simpa using hr j x h2
  ·rw[if_neg pW]at h1;have hj:j<e:=by have:=bg h2;rw[h.2.1 c (List.mem_of_getElem? h1)]at this;exact this
   have ga:¬(i0*e<=i*e+j/\i*e+j<i0*e+e):=by
    intro⟨ha,hb⟩;rcases Nat.lt_or_gt_of_ne pW with bC | bC
    ·have:i0*e+e<=i*e:=by rw[<-Nat.succ_mul];exact Nat.mul_le_mul_right _ bC
     omega
    ·have:i*e+e<=i0*e:=by rw[<-Nat.succ_mul];exact Nat.mul_le_mul_right _ bC
     omega
   rw[if_neg ga];exact h.2.2 i j c x h1 h2
theorem LK {e n:Nat}:∀(ps:List (Nat×AV)) (h h':Hp) (out:List (Nat×List AV)),
  (M.aG (λp:Nat×AV=>(bh p.2).bind λxs=>(M.ok (xs.length==e&&Nat.blt p.1 n)).bind λ_=>M.ret (p.1,xs)) ps).run h=some (out,h')->
  ∀vs:List (Nat×Value),vs.length=ps.length->(∀(j:Nat) (q:Nat×Value) (p:Nat×AV),vs[j]?=some q->ps[j]?=some p->q.1=p.1/\RA ν g q.2 p.2)->
  h'=h/\out.length=vs.length/\∀(j:Nat) (p:Nat×List AV) (q:Nat×Value),out[j]?=some p->vs[j]?=some q->
   q.1=p.1/\p.1<n/\q.2.cells.size=e/\p.2.length=e/\∀(m:Nat) (x:AV),p.2[m]?=some x->∃u,q.2.cells[m]?=some u/\u.oneCell'=true/\RA ν g u x:=by
 intro ps
 induction ps with
 |nil=>
  intro h h' out e' vs hl _;obtain⟨rfl,rfl⟩:=dS e';have:vs=[]:=List.eq_nil_of_length_eq_zero hl;subst this;exact⟨rfl,rfl,λj p q h=>by simp at h⟩
 |cons p ps ih=>
  intro h h' out e' vs hl hv;obtain⟨y,h1,zs,e1,e2,rfl⟩:=dx e';cases vs with
  |nil=>simp at hl
  |cons q vs=>
   obtain⟨hq,Sy⟩:=hv 0 q p rfl rfl;obtain⟨xs,h2,e3,e4⟩:=aw e1;obtain⟨rfl,hs,hc⟩:=jX e3 Sy;obtain⟨cg,e6⟩:=M.aL e4;simp only[Bool.and_eq_true,beq_iff_eq,Nat.blt_eq]at cg;obtain⟨rfl,rfl⟩:=ai e6;obtain⟨rfl,tB,pX⟩:=ih _ h' zs e2 vs (by simpa using hl) λj q' p' h1 h2=>hv (j+1) q' p' (by simpa using h1) (by simpa using h2)
   refine⟨rfl,by simp[tB],λj p' q' h1 h2=>?_⟩;cases j with
   |zero=>
    simp at h1 h2;subst h1 h2;exact⟨hq,cg.2,by omega,cg.1,hc⟩
   |succ j=>exact pX j p' q' (by simpa using h1) (by simpa using h2)
theorem yS {e:Nat}:∀(out:List (Nat×List AV)) (vs:List (Nat×Value)) (cells:Array Value) (es:List (List AV)),out.length=vs.length->oZ ν g cells e es->
  (∀(j:Nat) (p:Nat×List AV) (q:Nat×Value),out[j]?=some p->vs[j]?=some q->
   q.1=p.1/\p.1<es.length/\q.2.cells.size=e/\p.2.length=e/\∀(m:Nat) (x:AV),p.2[m]?=some x->∃u,q.2.cells[m]?=some u/\u.oneCell'=true/\RA ν g u x)->
  ∃jA,Instr.fill (λi=>some (i*e,e)) cells vs=some jA/\oZ ν g jA e (bO es out):=by
 intro out
 induction out with
 |nil=>
  intro vs cells es hl aH _;have:vs=[]:=List.eq_nil_of_length_eq_zero hl.symm;subst this;exact⟨cells,rfl,aH⟩
 |cons p out ih=>
  intro vs cells es hl aH hh;cases vs with
  |nil=>simp at hl
  |cons q vs=>
   obtain⟨h1,h2,h3,h4,h5⟩:=hh 0 p q rfl rfl;have xR:=aH.step (i0:=p.1) (us:=q.2.cells) (l:=p.2) h2 h3 h4 h5;obtain⟨c',dm,jY⟩:=ih vs _ (es.set p.1 p.2) (by simpa using hl) xR λj p' q' a b=>by
    obtain⟨x1,x2,x3⟩:=hh (j+1) p' q' (by simpa using a) (by simpa using b);exact⟨x1,by simpa using x2,x3⟩
   refine⟨c',?_,jY⟩;rw[<-dm];have eR:¬(cells.size<q.1*e+e):=by
    have:p.1*e+e<=es.length*e:=by rw[<-Nat.succ_mul];exact Nat.mul_le_mul_right _ h2
    rw[aH.1,h1];omega
   obtain⟨i,v⟩:=q;simp only at h1 h3 eR;subst h1;simp only[Instr.fill,h3];rw[if_neg (by simp;omega)];congr 1;rw[<-Array.foldl_toList,Array.toList_zipIdx]
def NG (P:Program) (t:TypeId) (len e:Nat) (z:List AV):Bool:=
 match P.underlying t with
 |some (.slice el)=>qW P el e&&sH P el z&&Nat.ble (len*e) 16777216&&z.length==e&&Nat.blt 0 e
 |_=>false
theorem we {zs:Array Value} {z:List AV} (hz:lS zs.toList z=true) (n:Nat) :
  oZ ν g ((Array.range (n*zs.size)).map (zs[· % zs.size]!)) zs.size (List.replicate n z):=by
 obtain⟨h1,h2⟩:=pg hz;refine⟨by simp,λc hc=>by rw[List.eq_of_mem_replicate hc];simpa using h1.symm,λi j c x hi hj=>?_⟩;have cK:=bg hi;simp only[List.length_replicate]at cK;rw[List.getElem?_replicate,if_pos cK]at hi;cases hi;have l7:=bg hj;obtain⟨v,hv,hc⟩:=h2 j x hj;have D7:j<zs.size:=by simp at h1;omega
 have bC:i*zs.size+j<n*zs.size:=by
  have:i*zs.size+zs.size<=n*zs.size:=by rw[<-Nat.succ_mul];exact Nat.mul_le_mul_right _ cK
  omega
 obtain⟨k1,k2⟩:=tQ (ν:=ν) hc g;refine⟨v,?_,k1,k2⟩;have ux:(i*zs.size+j) % zs.size=j:=by rw[Nat.add_comm,Nat.add_mul_mod_self_right,Nat.mod_eq_of_lt D7]
 simp only[Array.getElem?_map,Array.getElem?_range,if_pos bC,Option.map_some,ux];rw[getElem!_pos zs j D7];have:zs[j]?=some v:=by simpa using hv
 rw[Array.getElem?_eq_getElem D7]at this;exact this
theorem wQ (r:Rel ν k g) {slot e n cap:Nat} {el:TypeId} {es:List (List AV)} {cells:Array Value} {w0:World} (hw:w0=g.w\/w0=g.w.drew) (hf:get g.h slot=none) (lB:slot % 4=0\/slot % 4=2/\el=ν wO) (hn:es.length=n) (hl:∀c ∈ es,c.length=e) (jx:n<=cap)
  (dZ:cells.size=cap*e) (aH:∀(i j:Nat) (c:List AV) (x:AV),es[i]?=some c->c[j]?=some x->∃u,cells[i*e+j]?=some u/\u.oneCell'=true/\RA ν g u x) :
  dj ν k g (set g.h slot (.buf 0 e es)) (.own slot 0 n 0) (.ok (.slice (some ⟨g.w.heap.size,0,none⟩) n cap) (w0.alloc (.cells cells el))):=by
 have Cz:w0.heap=g.w.heap:=by rcases hw with rfl | rfl<;>rfl
 have NH:(w0.alloc (.cells cells el)).os=g.w.os/\(w0.alloc (.cells cells el)).tape=g.w.tape/\(w0.alloc (.cells cells el)).output=g.w.output:=by rcases hw with rfl | rfl<;>exact⟨rfl,rfl,rfl⟩
 have fD:=r.new (s:=slot) (ob:=.buf 0 e es) (p:=some g.w.heap.size) (w':=w0.alloc (.cells cells el)) hf (by simp[Cz]) NH.1 NH.2.1 NH.2.2 (λb hb=>by rw[alloc_old w0 _ _ (by rw[Cz];exact hb),Cz])
  (λb h=>by cases h;exact Nat.le_refl _) (λb h=>by
   cases h;rcases lB with h | ⟨h,rfl⟩
   ·exact .zero h
   ·exact⟨by omega,λ_=>⟨cells.size,by rw[<-Cz];exact lR _ _ _⟩,by omega⟩) λhm=>by
   refine⟨g.w.heap.size,aU _ _ _,λcK=>Nat.lt_irrefl _ (r.small _ cK),⟨by simp[Cz],λo=>by rw[<-Cz];exact World.frozen?_alloc_new _ _ _ _⟩,hl,λa b c x h1 h2=>?_⟩;obtain⟨u,jW,h3,hR⟩:=aH a b c x h1 h2;exact⟨u,by simp only[];rw[<-Cz,World.cell?_alloc_new];exact jW,h3,hm _ _ hR⟩
 refine⟨_,_,rfl,rfl,fD.1,fD.2,.own rfl ?_⟩;unfold br;simp only[ar,aU];refine⟨Nat.le_refl _,λ_=>⟨0,cap,rfl,by omega,by omega,jx,.inl (by simp),λ_ c hc=>?_⟩⟩;rw[<-Cz,World.cell?_alloc_new,Array.getElem?_eq_getElem (by rw[dZ];simpa using hc)];rfl
theorem D8 (r:Rel ν k g) {slot:Nat} {t:TypeId} {n e:Nat} {z:List AV} (ht:NG P t n e z=true) {ps:List (Nat×AV)} {vs:List (Nat×Value)} (hl:vs.length=ps.length)
  (hv:∀(j:Nat) (q:Nat×Value) (p:Nat×AV),vs[j]?=some q->ps[j]?=some p->q.1=p.1/\RA ν g q.2 p.2) {y:AV} {h':Hp}
  (e':((M.ok (z.length==e)).bind λ_=>
   (M.aG (λp:Nat×AV=>(bh p.2).bind λxs=>(M.ok (xs.length==e&&Nat.blt p.1 n)).bind λ_=>M.ret (p.1,xs)) ps).bind λl=>
   (M.fresh (4*slot)).bind λ_=>(M.write (4*slot) (.buf 0 e (bO (List.replicate n z) l))).bind λ_=>M.ret (.own (4*slot) 0 n 0)).run g.h=some (y,h')) :
  dj ν k g h' y ((Instr.buildSlice t n vs.toArray).run P g.w):=by
 unfold NG at ht;split at ht
 case h_2=>cases ht
 rename_i el hu;simp only[Bool.and_eq_true,beq_iff_eq,Nat.ble_eq,Nat.blt_eq]at ht;obtain⟨⟨⟨⟨dZ,hz⟩,Zm⟩,wg⟩,pY⟩:=ht;obtain⟨i,hi,wh⟩:=og dZ;obtain⟨i',v,cK,Ab,mT⟩:=rf hz;rw[hi]at cK;cases cK;subst wh;have kV:v.cells.size=i.size:=by have:=(pg mT).1;simp at this;omega
 obtain⟨-,e2⟩:=M.aL e';obtain⟨out,h2,e3,e4⟩:=aw e2;obtain⟨rfl,kr,Je⟩:=LK ps _ _ out e3 vs hl hv;obtain⟨_,h3,e5,e6⟩:=aw e4;obtain⟨hf,rfl⟩:=M.fC e5;obtain⟨_,h4,e7,e8⟩:=aw e6;obtain rfl:=bV e7;obtain⟨rfl,rfl⟩:=ai e8;have Ac:=we (ν:=ν) (g:=g) mT n;rw[kV]at Ac;obtain⟨cells,jZ,aH⟩:=yS out vs _ _ kr Ac λj p q a b=>by
  obtain⟨x1,x2,x3⟩:=Je j p q a b;exact⟨x1,by simpa using x2,x3⟩
 have hlen:(bO (List.replicate n z) out).length=n:=by
  have:∀(o:List (Nat×List AV)) (l:List (List AV)),(bO l o).length=l.length:=by
   intro o
   induction o with
   |nil=>intro l;rfl
   |cons a o ih=>intro l;simp[bO,ih]
  rw[this];simp
 have cP:(Instr.buildSlice t n vs.toArray).run P g.w = .ok (.slice (some ⟨g.w.heap.size,0,none⟩) n n) (g.w.alloc (.cells cells el)):=by
  have Ad:¬(2 ^ 24<n*i.size):=by omega
  by_cases mO:n=0
  ·subst mO;simp only[Nat.zero_mul,Array.range_zero',List.map_toArray]at jZ;simp only[Instr.buildSlice,Sem.run_bind,run_underlying hu,Result.andThen_ok,run_sizeOf hi];simp at jZ;simp[jZ,newRow,Array.range_zero']
  ·simp only[Instr.buildSlice,Sem.run_bind,run_underlying hu,Result.andThen_ok,run_sizeOf hi];have Sz:¬n*i.size=0:=Nat.mul_ne_zero mO (by omega);simp[Ad,Sz,zeroValue,typeInfo,hi,Ab,kV,jZ,newRow]
 rw[cP];exact wQ r (.inl rfl) hf (.inl (by omega)) hlen aH.2.1 (Nat.le_refl _) (by rw[aH.1,hlen]) aH.2.2
theorem S3 (r:Rel ν k g) {t:TypeId} {e:Nat} (ht:sliceB P t e=true):dj ν k g g.h (.iv (.aV e)) ((Instr.buildSlice t 0 #[]).run P g.w):=by
 obtain⟨el,i,hu,hi,rfl⟩:=ju ht;have cP:(Instr.buildSlice t 0 #[]).run P g.w = .ok (.slice (some ⟨g.w.heap.size,0,none⟩) 0 0) (g.w.alloc (.cells #[] el)):=by
  simp only[Instr.buildSlice,Sem.run_bind,run_underlying hu,Result.andThen_ok,run_sizeOf hi];simp[newRow,Array.range_zero',Instr.fill]
 obtain⟨r',m⟩:=r.world (w':=g.w.alloc (.cells #[] el)) (I':=g.I) (λ_ h=>h) (λ_ h=>.inl h) (by simp) rfl rfl rfl λb hb=>alloc_old _ _ _ hb
 exact⟨{ g with I:=g.I,w:=g.w.alloc (.cells #[] el) },_,cP,rfl,r',m,.iv (.aV _ _)⟩
end
end ay

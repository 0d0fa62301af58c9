/-
  A part of the proof: two abstract machines for the code, and what the program does on them. No condition.
-/
import Derived.Test.YtolpagjajaknbaaGreatArbE
set_option linter.all false
namespace ao
open Go
attribute [local simp] aS Option.map_some a7 step cw bp az M.aG M.run M.ok M.fresh M.write M.look M.lift bT ao.set ev ao.get an bin cU db mk params bh load bB di ep dQ dn dB idx len valid eu bound store bl fV un eqs ly bn bH M.bN dw cL dC c9 meets dF dR callee bZ cE fz flat ew eI eZ Option.bind_some cz M.bind
def yL (r:Int×Int):List V:=[vI r.1,vI r.2]++((if -9223372036854775808<r.1 then[vI (IntKind.wrap .i64 (r.1 - 1))] else[])++(if r.2<9223372036854775807 then[vI (IntKind.wrap .i64 (r.2+1))] else[]))
def C8 (x:S):List V:=x.i.flatMap yL++x.s.map vS
def Ic:List V:=[⟨0,0,⟨#[]⟩⟩,vI (-9223372036854775808),vI 9223372036854775807,vI 0]
def points (l:List S) (t:ByteArray):List V:=Ic++l.flatMap C8++[vS t]
theorem Ie (r:Int×Int):(yL r).length<=4:=by unfold yL;split<;>split<;>simp
theorem pA {α β:Type} {f:α->List β} {c:Nat} (h:∀x,(f x).length<=c):∀l:List α,(l.flatMap f).length<=c*l.length
 |[]=>by simp
 |x::l=>by have:=pA h l;have:=h x;rw[List.flatMap_cons,List.length_append,List.length_cons,Nat.mul_add];omega
theorem gH {α β:Type} {f:α->List β} {l:List α} {i:Nat} {x:α} (h:l[i]?=some x):(l.take (i+1)).flatMap f=(l.take i).flatMap f++f x:=by
 rw[List.take_add_one,h];simp
theorem Rt {x:S} {c:Nat} (h:x.i.length<=c/\x.s.length<=c):(C8 x).length<=5*c:=by
 have:=pA Ie x.i;unfold C8;rw[List.length_append,List.length_map];omega
theorem C9 {c:Nat}:∀(i:Nat) (l:List S),(∀x ∈ l,x.i.length<=c/\x.s.length<=c)->((l.take i).flatMap C8).length<=5*c*i
 |0,_,_=>by simp
 |i+1,[],_=>by simp
 |i+1,x::l,h=>by
  have:=C9 i l λy hy=>h y (List.mem_cons_of_mem _ hy)
  have:=Rt (h x (List.mem_cons_self ..));rw[List.take_succ_cons,List.flatMap_cons,List.length_append,Nat.mul_add];omega
section
variable {prog:Nat->Option aA}
set_option maxHeartbeats 8000000 in
theorem OO (tZ:prog 49=some DK) (xB:prog 114=some Bz) (Cc:prog 113=some DN) (Kk:prog 111=some IT) (h:prog 110=some IS) (l:List S) (hl:l.length<=2) (hL:∀x ∈ l,x.i.length<=2000/\x.s.length<=2000) :
  ∃y,(∃t:ByteArray,y = .iv (.sl 3 ((points l t).map V.enc))/\(points l t).length<=100000/\t.size<=8/\∀x ∈ l,dN x.s t=false)/\a8 prog 110 [dk l] y:=by
 have hT:Kj l<100000:=by
  have:∀l:List S,(∀x ∈ l,x.i.length<=2000/\x.s.length<=2000)->(l.flatMap S.s).length<=2000*l.length:=by
   intro l
   induction l with
   |nil=>intro _;simp
   |cons x l ih=>
    intro h;have:=ih λy hy=>h y (List.mem_cons_of_mem _ hy)
    have:=(h x (List.mem_cons_self ..)).2;rw[List.flatMap_cons,List.length_append,List.length_cons];omega
  have:=this l hL;unfold Kj;omega
 obtain⟨_,⟨ft,rfl,aaO,aaP⟩,KF,hKF⟩:=Rs tZ xB Cc Kk l (by unfold maxLen;omega) (λx hx=>by have:=(hL x hx).2;unfold maxLen;omega) hT;refine a8.jn h rfl rfl _ (aj ?_);refine au (by simp[bO];rfl) ?_;refine aj ?_;refine af (aj ?_);refine aq ?_;refine b7 (λm s1=>∃(i:Nat) (qs:List V),i+m=l.length/\qs=Ic++(l.take i).flatMap C8/\s1=⟨[(0,dk l),(3,.own 1320 0 qs.length 0),(4,.iv (.str ⟨#[126]⟩)),(5,.nI i)],[(1000,.buf 0 3 []),(1320,.buf 0 3 (qs.map V.enc))],1576⟩) (m:=l.length) ⟨0,Ic,by omega,by simp,rfl⟩ ?_;rintro m s1 ⟨i,qs,hm,Ig,rfl⟩;have hq:qs.length<=4+10000*i:=by
  have:=C9 i l hL;have h4:Ic.length=4:=rfl;rw[Ig,List.length_append];omega
 have kz:IntKind.wrap .i64 ((i:Int)+1)=(i:Int)+1:=IntWalk.i64_in _ (by omega);cases m with
 |zero=>
  have tY:¬(i:Int)<l.length:=by omega
  have gA:qs.length+1<=1073741824:=by omega
  refine af (au (s':=⟨[(0,dk l),(3,.own 1320 0 qs.length 0),(4,.iv (.str ⟨#[126]⟩)),(5,.nI i),(17,.bI false)],[(1000,.buf 0 3 []),(1320,.buf 0 3 (qs.map V.enc))],1832⟩) (by simp[dk];omega) ?_);refine ag rfl (aO ?_);simp only[Ex.then,Ex.inBlock,if_true];have mB:∀a,List.take qs.length (qs.map V.enc)++[a]=qs.map V.enc++[a]:=λa=>by rw[cD]
  refine cq (K:=KF) (λn hn=>by
   have e1:=hKF n hn;simp only[dk]at e1;generalize aZ prog n=g at e1;simp[dk,bO,app,elems,roomy,gA,cD,e1];rfl) ?_
  have gZ:i=l.length:=by omega
  rw[gZ,List.take_length]at Ig;refine ax ⟨_,⟨ft,rfl,by rw[points,<-Ig];simp;omega,aaO,aaP⟩,?_⟩;rw[points,<-Ig];have YS:List.take (qs.length+1) (qs.map V.enc++[[.int .i64 2,.int .i64 0,.str ft]])=qs.map V.enc++[[.int .i64 2,.int .i64 0,.str ft]]:=List.take_of_length_le (by simp);simp[dI,IS,ck,dJ,eE,ev,get,M.look,M.bind,M.run,az,M.ok,shut,im,bZ,cE,fz,M.write,M.lift,vS,V.enc]
  first | exact YS | exact⟨YS⟩|skip
 |succ m=>
  have hi:i<l.length:=by omega
  have cK:(i:Int)<l.length:=by omega
  obtain⟨x,hx⟩:∃x,l[i]?=some x:=⟨_,List.getElem?_eq_getElem hi⟩;obtain⟨j8,Cq⟩:=hL x (List.mem_of_getElem? hx);refine af (au (s':=⟨[(0,dk l),(3,.own 1320 0 qs.length 0),(4,.iv (.str ⟨#[126]⟩)),(5,.nI i),(17,.bI true)],[(1000,.buf 0 3 []),(1320,.buf 0 3 (qs.map V.enc))],1832⟩) (by simp[dk,hi]) ?_);refine ag rfl (ak (af (aq (af (aj ?_)))));refine aq ?_;have Hm:=hq;generalize Vl:qs=q0 at Hm Ig hq;refine b7 (λm s1=>∃(k:Nat) (qs:List V),k+m=x.i.length/\qs=q0++(x.i.take k).flatMap yL/\s1=⟨[(0,dk l),(3,.own 1320 0 qs.length 0),(4,.iv (.str ⟨#[126]⟩)),(5,.nI i),(6,.nI k)],[(1000,.buf 0 3 []),(1320,.buf 0 3 (qs.map V.enc))],1896⟩) (m:=x.i.length) ⟨0,q0,by omega,by simp,by simp[an,get]⟩ ?_
  clear hq Vl;rintro m2 s2 ⟨k,qs,hk,Da,rfl⟩;have hq:qs.length<=4+10000*i+4*k:=by
   have:=pA Ie (x.i.take k);have:(x.i.take k).length<=k:=List.length_take_le _ _;rw[Da,List.length_append];omega
  have lU:IntKind.wrap .i64 ((k:Int)+1)=(k:Int)+1:=IntWalk.i64_in _ (by omega);cases m2 with
  |zero=>
   have tY:¬(k:Int)<x.i.length:=by omega
   refine af (au (s':=⟨[(0,dk l),(3,.own 1320 0 qs.length 0),(4,.iv (.str ⟨#[126]⟩)),(5,.nI i),(6,.nI k),(27,.bI false)],[(1000,.buf 0 3 []),(1320,.buf 0 3 (qs.map V.enc))],2408⟩) (by simp[dk,hx,S.enc];omega) ?_);refine ag rfl (aO ?_);simp only[Ex.then,Ex.inBlock,if_true];refine aj ?_;refine aq ?_;have YT:k=x.i.length:=by omega
   rw[YT,List.take_length]at Da;have Hw:qs.length<=4+10000*i+8000:=by omega
   generalize Vl:qs=q1 at Da hq Hw;refine b7 (λm s1=>∃(k:Nat) (qs:List V),k+m=x.s.length/\qs=q1++(x.s.take k).map vS/\s1=⟨[(0,dk l),(3,.own 1320 0 qs.length 0),(4,.iv (.str ⟨#[126]⟩)),(5,.nI i),(8,.nI k)],[(1000,.buf 0 3 []),(1320,.buf 0 3 (qs.map V.enc))],2472⟩) (m:=x.s.length) ⟨0,q1,by omega,by simp,by simp[an,get]⟩ ?_;clear hq hk lU tY YT Vl;rintro m3 s3 ⟨k,qs,hk,Qr,rfl⟩;have hq:qs.length<=4+10000*i+8000+k:=by
    have:(x.s.take k).length<=k:=List.length_take_le _ _;rw[Qr,List.length_append,List.length_map];omega
   have lU:IntKind.wrap .i64 ((k:Int)+1)=(k:Int)+1:=IntWalk.i64_in _ (by omega);cases m3 with
   |zero=>
    have tY:¬(k:Int)<x.s.length:=by omega
    refine af (au (s':=⟨[(0,dk l),(3,.own 1320 0 qs.length 0),(4,.iv (.str ⟨#[126]⟩)),(5,.nI i),(8,.nI k),(74,.bI false)],[(1000,.buf 0 3 []),(1320,.buf 0 3 (qs.map V.enc))],2984⟩) (by simp[dk,hx,S.enc];omega) ?_);refine ag rfl (aO ?_);simp only[Ex.then,Ex.inBlock,if_true];refine bK ?_;have hks:k=x.s.length:=by omega
    rw[hks,List.take_length,Da,Ig,List.append_assoc,List.append_assoc,<-C8,<-gH hx]at Qr;exact⟨m,by omega,i+1,qs,by omega,Qr,by simp[again,an,get,nrm,bG,dk,kz]⟩
   |succ m3=>
    have oV:k<x.s.length:=by omega
    have CJ:(k:Int)<x.s.length:=by omega
    have gA:qs.length+1<=1073741824:=by omega
    obtain⟨t,ht⟩:∃t,x.s[k]?=some t:=⟨_,List.getElem?_eq_getElem oV⟩;refine af (au (by simp[dk,hx,S.enc,oV];rfl) ?_);refine ag rfl (ak (af (aq ?_)));refine aD (by simp[dk,hx,S.enc,ht,st1,bO,app,elems,roomy,gA,cD];rfl) ?_;simp only[Ex.then,Ex.inBlock];refine bK ?_;exact⟨m3,by omega,k+1,qs++[vS t],by omega,by rw[Qr,List.take_add_one,ht];simp,by simp[again,an,get,nrm,bG,dk,lU,V.enc,vS]⟩
  |succ m2=>
   rename_i m;have oV:k<x.i.length:=by omega
   obtain⟨r,hr⟩:∃r,x.i[k]?=some r:=⟨_,List.getElem?_eq_getElem oV⟩;have gA:qs.length+1<=1073741824:=by omega
   have pX:qs.length+2<=1073741824:=by omega
   have A8:qs.length+3<=1073741824:=by omega
   have Mz:qs.length+4<=1073741824:=by omega
   have Mx:∀a b,List.take (qs.length+2) (qs.map V.enc++[a,b])=qs.map V.enc++[a,b]:=λa b=>List.take_of_length_le (by simp)
   have ht3:∀a b c,List.take (qs.length+3) (qs.map V.enc++[a,b,c])=qs.map V.enc++[a,b,c]:=λa b c=>List.take_of_length_le (by simp)
   refine af (au (by simp[dk,hx,S.enc,oV];rfl) ?_);refine ag rfl (ak (af (aq (au (by simp[dk,hx,S.enc,hr,bM];rfl) ?_))));refine au (by simp[bO,app,elems,roomy,cD,pX];rfl) ?_;refine af (aj ?_);refine ag rfl ?_;cases h1:decide (-9223372036854775808<r.1)with
   |true=>
    refine aD (by simp[bO,app,elems,roomy,A8,Mx];rfl) ?_;simp only[Ex.then];refine aj ?_;refine ag rfl ?_;cases h2:decide (r.2<9223372036854775807)with
    |true=>
     refine aD (by simp[bO,app,elems,roomy,Mz,ht3];rfl) ?_;simp only[Ex.then,Ex.inBlock];refine bK ?_;exact⟨m2,by omega,k+1,qs++[vI r.1,vI r.2,vI (IntKind.wrap .i64 (r.1 - 1)),vI (IntKind.wrap .i64 (r.2+1))],by omega,by rw[Da,gH hr,yL];simp at h1 h2;simp[h1,h2];try omega,by simp[again,an,get,nrm,bG,dk,lU,V.enc,vI];try omega⟩
    |false=>
     refine ak ?_;simp only[Ex.then,Ex.inBlock];refine bK ?_;exact⟨m2,by omega,k+1,qs++[vI r.1,vI r.2,vI (IntKind.wrap .i64 (r.1 - 1))],by omega,by rw[Da,gH hr,yL];simp at h1 h2;simp[h1,h2];try omega,by simp[again,an,get,nrm,bG,dk,lU,V.enc,vI];try omega⟩
   |false=>
    refine ak ?_;simp only[Ex.then];refine aj ?_;refine ag rfl ?_;cases h2:decide (r.2<9223372036854775807)with
    |true=>
     refine aD (by simp[bO,app,elems,roomy,A8,Mx];rfl) ?_;simp only[Ex.then,Ex.inBlock];refine bK ?_;exact⟨m2,by omega,k+1,qs++[vI r.1,vI r.2,vI (IntKind.wrap .i64 (r.2+1))],by omega,by rw[Da,gH hr,yL];simp at h1 h2;simp[h1,h2];try omega,by simp[again,an,get,nrm,bG,dk,lU,V.enc,vI];try omega⟩
    |false=>
     refine ak ?_;simp only[Ex.then,Ex.inBlock];refine bK ?_;exact⟨m2,by omega,k+1,qs++[vI r.1,vI r.2],by omega,by rw[Da,gH hr,yL];simp at h1 h2;simp[h1,h2];try omega,by simp[again,an,get,nrm,bG,dk,lU,V.enc,vI];try omega⟩
end
structure MP (prog:Nat->Option aA):Prop extends UC prog,JY prog where
 Vm:prog 104=some R7
 Vn:prog 109=some R8
 Vo:prog 110=some IS
 Kk:prog 111=some IT
 Cc:prog 113=some DN
 xB:prog 114=some Bz
section
variable {prog:Nat->Option aA}
def B.small (b:B):Prop:=∀i,i<4->(b.get i).i.length<=6/\(b.get i).s.length<=6
end
theorem Vp {x y:S} (hx:x.eo) (hy:y.eo) (kx:dA x.i) (ky:dA y.i) (h:kS x y=true) {v:V} (hv:gK x v=true):gK y v=true:=by
 have e:kQ x y=y:=w8.1 h;have:=Rh x y v (xX hx hy kx ky).2.2;rw[e,hv,Bool.true_or]at this;exact this
theorem vt (x:S) (n:Int):gK x (vI n)=po x.i n:=rfl
theorem vu (x:S) {t:ByteArray} (h:t.size<=8):gK x (vS t)=eA x t:=by
 simp[gK,kg,vS,eA,h]
theorem Bk:∀{l:List (Int×Int)},normal l->∀{q:Int×Int},q ∈ l->¬fK l (q.2+1)
 |[],_,_,h=>by cases h
 |p::l,hn,q,hq=>by
  have ht:=List.pairwise_cons.1 hn.2;rw[dO];rintro(h | h)
  ·rcases List.mem_cons.1 hq with rfl | hq
   ·omega
   ·have:=ht.1 q hq;have:=hn.1 q (List.mem_cons_of_mem _ hq);omega
  ·rcases List.mem_cons.1 hq with rfl | hq
   ·have:=iS hn h;omega
   ·exact Bk (lI hn) hq h
theorem MQ {x y:S} (hx:x.eo) (hy:y.eo) (kx:dA x.i) (ky:dA y.i) {t:ByteArray} (ht:t.size<=8) (tx:dN x.s t=false) (ty:dN y.s t=false)
  (h:∀v ∈ points [x,y] t,gK x v=true->gK y v=true):kS x y=true:=by
 have oX:∀v,(v ∈ Ic\/v ∈ C8 x\/v ∈ C8 y\/v=vS t)->gK x v=true->gK y v=true:=λv hv=>h v (by
  simp only[points,List.mem_append,List.mem_flatMap,List.mem_cons,List.not_mem_nil,or_false];rcases hv with h | h | h | h
  ·exact .inl (.inl h)
  ·exact .inl (.inr ⟨x,.inl rfl,h⟩)
  ·exact .inl (.inr ⟨y,.inr rfl,h⟩)
  ·exact .inr h)
 have ha:x.a=true->y.a=true:=oX ⟨0,0,⟨#[]⟩⟩ (.inl (by simp[Ic]));have hc:x.c=true->y.c=true:=by
  have:=oX (vS t) (.inr (.inr (.inr rfl)));rw[vu x ht,vu y ht,eA,eA,tx,ty]at this;simpa using this
 have hs:∀u,eA x u=true->eA y u=true:=by
  intro u;by_cases m:u ∈ x.s\/u ∈ y.s
  ·have sz:u.size<=8:=m.elim (hx.len u) (hy.len u);have:=oX (vS u) (m.elim (λm=>.inr (.inl (List.mem_append_right _ (List.mem_map_of_mem m)))) λm=>.inr (.inr (.inl (List.mem_append_right _ (List.mem_map_of_mem m)))))
   rwa [vu x sz,vu y sz]at this
  ·have mx:dN x.s u=false:=Bool.eq_false_iff.2 λe=>m (.inl (gf.1 e))
   have my:dN y.s u=false:=Bool.eq_false_iff.2 λe=>m (.inr (gf.1 e))
   rw[eA,eA,mx,my];simpa using hc
 have hi:∀n,fK x.i n->fK y.i n:=by
  intro n ⟨r,hr,h1,h2⟩;have xC:=kx r hr;have e1:fK y.i r.1:=by
   have:=oX (vI r.1) (.inr (.inl (List.mem_append_left _ (List.mem_flatMap.2 ⟨r,hr,by simp[yL]⟩))));rw[vt,vt,nB,nB]at this;exact this ⟨r,hr,Int.le_refl _,by omega⟩
  obtain⟨q,hq,h3,h4⟩:=e1;by_cases hn:n<=q.2
  ·exact⟨q,hq,by omega,hn⟩
  ·exfalso;have bC:q.2<9223372036854775807:=by unfold dE at xC;omega
   have aaQ:=ky q hq;have hw:IntKind.wrap .i64 (q.2+1)=q.2+1:=IntWalk.i64_in _ (by unfold dE at aaQ;omega);have:=oX (vI (IntKind.wrap .i64 (q.2+1))) (.inr (.inr (.inl (List.mem_append_left _ (List.mem_flatMap.2 ⟨q,hq,by simp[yL,bC]⟩)))));rw[vt,vt,nB,nB,hw]at this;exact Bk hy.i hq (this ⟨r,hr,by omega,by omega⟩)
 have ca:(x.a||y.a)=y.a:=by cases e:x.a with
  |false=>rfl
  |true=>rw[ha e];rfl
 have cc:(x.c||y.c)=y.c:=by cases e:x.c with
  |false=>rfl
  |true=>rw[hc e];rfl
 have ho:=xX hx hy kx ky;have ci:(kQ x y).i=y.i:=oE ho.1.i hy.i λn=>by rw[ho.2.2 n];exact⟨λh=>h.elim (hi n) id,.inr⟩
 have cs:qO x y=y.s:=uW (FB hx.s hy.s) hy.s λu=>by
  have h1:=A0 x y u;have h2:(eA x u||eA y u)=eA y u:=by cases e:eA x u with
   |false=>rfl
   |true=>rw[hs u e];rfl
  rw[h2]at h1;unfold eA at h1;rw[show(kQ x y).s=qO x y from rfl,show(kQ x y).c=(x.c||y.c) from rfl,cc]at h1;rw[<-gf,<-gf];have h3:dN (qO x y) u=dN y.s u:=by
   revert h1;cases dN (qO x y) u<;>cases dN y.s u<;>cases y.c<;>simp
  rw[h3]
 refine w8.2 ?_
 show S.mk _ _ _ _=y
 rw[ca,cc,cs]
 show S.mk y.a (kQ x y).i y.c y.s=y
 rw[ci]
section
variable {prog:Nat->Option aA}
set_option maxHeartbeats 4000000 in
theorem XB (I:MP prog) (x y:S) (fx:x.eo) (fy:y.eo) (hx:x.lim 2000 2000) (hy:y.lim 2000 2000):a8 prog 109 [x.av,y.av] (.bI (kS x y)):=by
 obtain⟨_,⟨t,rfl,hps,ht8,Ck⟩,KP,YV⟩:=OO I.tZ I.xB I.Cc I.Kk I.Vo [x,y] (by simp) (λz hz=>by
  simp at hz;rcases hz with rfl | rfl
  ·exact⟨hx.i,hx.s⟩
  ·exact⟨hy.i,hy.s⟩)
 have Vq:=MQ fx fy hx.k hy.k ht8 (Ck x (by simp)) (Ck y (by simp));generalize points [x,y] t=ps at hps YV Vq;have aaR:ps.length<=maxLen:=by unfold maxLen;omega
 have j8:=hx.i;have Cq:=hx.s;have Ap:=hy.i;have tC:=hy.s;refine a8.of I.Vn rfl rfl (au (by simp[S.av];rfl) ?_);refine cq (K:=KP) (s':=⟨_,[(1000,.cells [.bI x.a,.iv (.sl 2 (x.i.map bM)),.bI x.c,.iv (.sl 1 (x.s.map st1))]),(1064,.cells [.bI y.a,.iv (.sl 2 (y.i.map bM)),.bI y.c,.iv (.sl 1 (y.s.map st1))]),(1320,.cm 0 4 [x.enc,y.enc])],1512⟩) (λn hn=>by
  have e1:=YV n hn;simp only[dk,List.map_cons,List.map_nil,S.enc]at e1;generalize aZ prog n=g at e1;simp[bO,S.enc,e1];rfl) ?_
 refine af (aj ?_);refine aq ?_;refine bQ ps.length (λi=>⟨[(2,.ref 1000 0 0 0),(3,.ref 1064 0 0 0),(5,.iv (.sl 3 (ps.map V.enc))),(6,.nI i)],[(1000,.cells [.bI x.a,.iv (.sl 2 (x.i.map bM)),.bI x.c,.iv (.sl 1 (x.s.map st1))]),(1064,.cells [.bI y.a,.iv (.sl 2 (y.i.map bM)),.bI y.c,.iv (.sl 1 (y.s.map st1))]),(1320,.cm 0 4 [x.enc,y.enc])],1576⟩) (λi=>∀(j:Nat) v,j<i->ps[j]?=some v->(gK x v&&!gK y v)=false) (by simp[an,get]) (λj _ h=>absurd h (Nat.not_lt_zero _)) ?_ ?_
 ·intro i hi hg;obtain⟨v,hv⟩:∃v,ps[i]?=some v:=⟨_,List.getElem?_eq_getElem hi⟩;obtain⟨K1,ct⟩:=FO I.toJY x v (by unfold maxLen;omega) (by unfold maxLen;omega);obtain⟨K2,cZ⟩:=FO I.toJY y v (by unfold maxLen;omega) (by unfold maxLen;omega);refine af (au (by simp[hi];rfl) ?_);refine ag rfl (ak (af (aq (af ?_))));refine aI (K:=max K1 K2) (s':=⟨[(2,.ref 1000 0 0 0),(3,.ref 1064 0 0 0),(5,.iv (.sl 3 (ps.map V.enc))),(6,.nI i),(31,.bI (gK x v&&!gK y v))],[(1000,.cells [.bI x.a,.iv (.sl 2 (x.i.map bM)),.bI x.c,.iv (.sl 1 (x.s.map st1))]),(1064,.cells [.bI y.a,.iv (.sl 2 (y.i.map bM)),.bI y.c,.iv (.sl 1 (y.s.map st1))]),(1320,.cm 0 4 [x.enc,y.enc])],2792⟩) (λn hn=>cM rfl (by
   have e1:=ct n (by omega);have e2:=cZ n (by omega);simp only[S.av,V.av]at e1 e2;generalize aZ prog n=g at e1 e2;cases h1:gK x v<;>rw[h1]at e1<;>simp[hv,V.enc,e1,e2])) ?_
  refine ag rfl ?_;cases hc:gK x v&&!gK y v with
  |true=>
   refine aj ?_;have:kS x y=false:=by
    cases eV:kS x y with
    |false=>rfl
    |true=>
     rw[Bool.and_eq_true]at hc;rw[Vp fx fy hx.k hy.k eV hc.1]at hc;exact absurd hc.2 (by simp)
   rw[this];exact ax rfl
  |false=>
   refine ak ?_;refine bK ?_;refine⟨by simp[again,an,get,cC,eP,bG,nrm,bw hi aaR],λj w hj hw=>?_⟩;by_cases qP:j=i
   ·subst qP;rw[hv]at hw;cases hw;exact hc
   ·exact hg j w (by omega) hw
 ·intro hg;refine af (aj ?_);refine ag rfl (aO ?_);simp only[Ex.then,Ex.inBlock,if_true];refine aj ?_;have:kS x y=true:=Vq λv hv hx=>by
   obtain⟨j,hj,he⟩:=List.getElem_of_mem hv;have:=hg j v hj (by rw[List.getElem?_eq_getElem hj,he]);rw[hx,Bool.true_and]at this;simpa using this
  rw[this];exact ax rfl
end
section
variable {prog:Nat->Option aA}
end
def B.fit (b:B):Prop:=∀i,i<4->(b.get i).eo/\(b.get i).lim 1000 400
theorem S.Bl {x:S} (h:x.eo/\x.lim 1000 400):x.ok:=⟨by have:=h.2.i;unfold maxLen;omega,by have:=h.2.s;unfold maxLen;omega,h.2.k,λt ht=>by have:=h.1.len t ht;unfold maxLen;omega⟩
theorem B.fit.ok {b:B} (h:b.fit):b.ok:=⟨S.Bl (h 0 (by omega)),S.Bl (h 1 (by omega)),S.Bl (h 2 (by omega)),S.Bl (h 3 (by omega))⟩
section
variable {prog:Nat->Option aA}
set_option maxHeartbeats 4000000 in
theorem Qs (I:MP prog) (x y:B) (fx:x.fit) (fy:y.fit):a8 prog 104 [x.av,y.av] (.bI (mP x y)):=by
 obtain⟨K1,ct⟩:=C0 I.FV I.Ol x fx.ok;refine a8.of I.Vm rfl rfl (au (by simp[-cE, -fz,B.av,B.cI];rfl) ?_);refine af (cq (K:=K1) (λn hn=>by
  have e1:=ct n hn;simp only[B.av]at e1;generalize aZ prog n=g at e1;simp[-cE, -fz,B.hZ,B.bR,B.c8,e1];rfl) ?_)
 refine ag rfl ?_;cases he:eW cS x with
 |true=>
  refine aj ?_;have:mP x y=true:=by unfold mP;rw[he];rfl
  rw[this];exact ax rfl
 |false=>
  refine ak (af (aj ?_));refine aq ?_;refine bQ 4 (λi=>⟨[(2,.ref 1000 0 0 0),(3,.ref 1064 0 0 0),(5,.nI i)],[(1000,.cells x.cs),(1064,.cells y.cs)],1384⟩) (λi=>∀j,j<i->kS (x.get j) (y.get j)=true) rfl (λj h=>absurd h (Nat.not_lt_zero _)) ?_ ?_
  ·intro i hi hg;have cK:(i:Int)<4:=by omega
   have hm:min 4 (16 - i*4)=4:=by omega
   obtain⟨K2,cZ⟩:=XB I (x.get i) (y.get i) (fx i hi).1 (fy i hi).1 ((fx i hi).2.mono (by omega) (by omega)) ((fy i hi).2.mono (by omega) (by omega));generalize hv:kS (x.get i) (y.get i)=v at cZ;refine af (au (by simp[cK];rfl) ?_);refine ag rfl (ak (af (aq (af ?_))));refine aI (K:=K2) (s':=⟨[(2,.ref 1000 0 0 0),(3,.ref 1064 0 0 0),(5,.nI i),(19,.bI (!v))],[(1000,.cells x.cs),(1064,.cells y.cs)],2024⟩) (λn hn=>cM rfl (by
    have e1:=cZ n hn;simp only[S.av]at e1;generalize aZ prog n=g at e1;simp[cK,B.iY x hi,B.iY y hi,e1])) ?_
   refine ag rfl ?_;cases v with
   |false=>
    refine aj ?_;rw[xc he hi hv];exact ax rfl
   |true=>
    refine ak ?_;refine bK ?_;refine⟨by simp[again,an,get,cC,eP,bG,B.cT,gS hi],λj hj=>?_⟩;by_cases qP:j=i
    ·rw[qP];exact hv
    ·exact hg j (by omega)
  ·intro hg;refine af (aj ?_);refine ag rfl (aO ?_);simp only[Ex.then,Ex.inBlock,if_true];refine aj ?_;rw[FH hg];exact ax rfl
set_option maxHeartbeats 8000000 in
theorem Bm (I:MP prog) (f:List B) (hl:f.length<=100000) (hf:∀b ∈ f,b.fit):a8 prog 99 [aT f] (aT (eB f)):=by
 refine a8.of I.Yt rfl rfl (aj ?_);refine aj ?_;refine af (aj ?_);refine aq ?_;refine b7 (λm s1=>∃(i:Nat) (o:List B),i+m=f.length/\o=gj f i/\s1=⟨[(0,aT f),(3,.own 1064 0 o.length 0),(4,.nI i)],[(1000,.buf 0 16 []),(1064,.buf 0 16 (o.map B.enc))],1192⟩) (m:=f.length) ⟨0,[],by omega,rfl,rfl⟩ ?_;rintro m s1 ⟨i,o,hm,F2,rfl⟩;have ho:o.length<=i:=by rw[F2];exact rl f i
 have kz:IntKind.wrap .i64 ((i:Int)+1)=(i:Int)+1:=IntWalk.i64_in _ (by omega);cases m with
 |zero=>
  have tY:¬(i:Int)<f.length:=by omega
  refine af (au (s':=⟨[(0,aT f),(3,.own 1064 0 o.length 0),(4,.nI i),(10,.bI false)],[(1000,.buf 0 16 []),(1064,.buf 0 16 (o.map B.enc))],1448⟩) (by simp[aT];omega) ?_);refine ag rfl (aO ?_);simp only[Ex.then,Ex.inBlock,if_true];refine aj ?_;have hif:i=f.length:=by omega
  rw[hif]at F2;refine ax ?_;rw[show eB f=o from F2.symm];simp[dI,aT,R6,ck,dJ,eE,ev,get,M.look,M.bind,M.run,az,M.ok,shut,im,bZ,cE,fz,M.write,M.lift,cD]
 |succ m=>
  have hi:i<f.length:=by omega
  obtain⟨z,hz⟩:∃z,f[i]?=some z:=⟨_,List.getElem?_eq_getElem hi⟩;have fz:=hf z (List.mem_of_getElem? hz);have b9:=tn hz;rw[<-F2]at b9;obtain⟨K1,ct⟩:=C0 I.FV I.Ol z fz.ok;refine af (au (by simp[aT,hi];rfl) ?_);refine ag rfl (ak (af (aq (cq (K:=K1) (s':=⟨[(0,aT f),(3,.own 1064 0 o.length 0),(4,.nI i),(5,.bI (!eW cS z))],[(1000,.buf 0 16 []),(1064,.buf 0 16 (o.map B.enc))],1896⟩) (λn hn=>by
   have e1:=ct n hn;simp only[B.av]at e1;generalize aZ prog n=g at e1;simp[-cE, -fz,aT,hz,B.gh,B.gw,B.jm,B.c8,e1]) ?_))))
  refine af (aj ?_);refine aq ?_;refine b7 (λm s1=>∃(k:Nat) (kp:Bool),k+m=f.length/\kp=(!eW cS z&&!ib f z i k)/\s1=⟨[(0,aT f),(3,.own 1064 0 o.length 0),(4,.nI i),(5,.bI kp),(6,.nI k)],[(1000,.buf 0 16 []),(1064,.buf 0 16 (o.map B.enc))],1960⟩) (m:=f.length) ⟨0,!eW cS z,by omega,by simp[ib],by simp[an,get]⟩ ?_;rintro m2 s2 ⟨k,kp,hk,Ih,rfl⟩;have lU:IntKind.wrap .i64 ((k:Int)+1)=(k:Int)+1:=IntWalk.i64_in _ (by omega);cases m2 with
  |zero=>
   have tY:¬(k:Int)<f.length:=by omega
   refine af (au (s':=⟨[(0,aT f),(3,.own 1064 0 o.length 0),(4,.nI i),(5,.bI kp),(6,.nI k),(22,.bI false)],[(1000,.buf 0 16 []),(1064,.buf 0 16 (o.map B.enc))],2216⟩) (by simp[aT];omega) ?_);refine ag rfl (aO ?_);simp only[Ex.then,Ex.inBlock,if_true];refine aj ?_;refine ag rfl ?_;have hkf:k=f.length:=by omega
   rw[hkf]at Ih;have uF:(eW cS z||ib f z i f.length)=!kp:=by rw[Ih];simp
   rw[uF]at b9;cases kp with
   |false=>
    refine ak ?_;simp only[Ex.then,Ex.inBlock];refine bK ?_;exact⟨m,by omega,i+1,o,by omega,by simpa using b9.symm,by simp[again,an,get,nrm,bG,aT,kz]⟩
   |true=>
    have gA:o.length+1<=1073741824:=by omega
    refine aD (by simp[-cE, -fz,aT,hz,B.gh,B.gw,B.jm,B.sM,B.bR,bO,app,elems,roomy,gA,cD];rfl) ?_;simp only[Ex.then,Ex.inBlock];refine bK ?_;exact⟨m,by omega,i+1,o++[z],by omega,by simpa using b9.symm,by simp[again,an,get,nrm,bG,aT,kz]⟩
  |succ m2=>
   have oV:k<f.length:=by omega
   obtain⟨w,hw⟩:∃w,f[k]?=some w:=⟨_,List.getElem?_eq_getElem oV⟩;have fw:=hf w (List.mem_of_getElem? hw);have Qt:=u0 (b:=z) (i:=i) hw;unfold mw at Qt;obtain⟨K2,cZ⟩:=Qs I z w fz fw;obtain⟨K3,fP⟩:=Qs I w z fw fz;generalize mP z w=v1 at cZ Qt;generalize mP w z=v2 at fP Qt;have xD:((k:Int) != (i:Int))=(k != i):=by
    by_cases h:k=i
    ·subst h;simp
    ·have h1:(k:Int)≠i:=by omega
     rw[bne_iff_ne.2 h1,bne_iff_ne.2 h]
   refine af (au (by simp[aT,oV];rfl) ?_);refine ag rfl (ak (af (aq (af ?_))));refine aI (K:=max K2 K3) (s':=⟨[(0,aT f),(3,.own 1064 0 o.length 0),(4,.nI i),(5,.bI kp),(6,.nI k),(58,.bI ((((k:Int) != i)&&kp)&&v1&&(decide (k<i)||!v2)))],[(1000,.buf 0 16 []),(1064,.buf 0 16 (o.map B.enc))],4392⟩) (λn hn=>cM rfl (by
    have e1:=cZ n (by omega);have e2:=fP n (by omega);simp only[B.av]at e1 e2;generalize aZ prog n=g at e1 e2;cases h1:((k:Int) != i)with
    |false=>simp[-cE, -fz,aT,h1]
    |true=>
     cases kp with
     |false=>simp[-cE, -fz,aT,h1]
     |true=>
      cases v1 with
      |false=>simp[-cE, -fz,aT,hz,hw,B.gh,B.gw,B.jm,B.c8,e1,h1]
      |true=>cases h2:decide (k<i)<;>simp[-cE, -fz,aT,hz,hw,B.gh,B.gw,B.jm,B.c8,e1,e2,h1,h2])) ?_
   have yw:(!eW cS z&&!ib f z i (k+1))=(kp&&!((((k:Int) != i)&&kp)&&v1&&(decide (k<i)||!v2))):=by
    rw[Qt,Ih,xD];cases eW cS z<;>cases ib f z i k<;>cases(k != i)<;>cases v1<;>cases v2<;>cases decide (k<i)<;>rfl
   generalize((((k:Int) != i)&&kp)&&v1&&(decide (k<i)||!v2))=cv at yw;refine ag rfl ?_;cases cv with
   |true=>
    refine aD (by simp;rfl) ?_;simp only[Ex.then,Ex.inBlock];refine bK ?_;exact⟨m2,by omega,k+1,false,by omega,by rw[yw];simp,by simp[again,an,get,nrm,bG,aT,lU]⟩
   |false=>
    refine ak ?_;simp only[Ex.then,Ex.inBlock];refine bK ?_;exact⟨m2,by omega,k+1,kp,by omega,by rw[yw];simp,by simp[again,an,get,nrm,bG,aT,lU]⟩
set_option maxHeartbeats 4000000 in
theorem OP (I:MP prog) (f:List B) (hl:f.length<=100000) (hf:∀b ∈ f,b.fit):a8 prog 98 [aT f] (.bI (fg f)):=by
 have yC:f.length<=maxLen:=by unfold maxLen;omega
 refine a8.of I.Ys rfl rfl (aj ?_);refine af (aj ?_);refine aq ?_;refine bQ f.length (λi=>⟨[(0,aT f),(3,.nI i)],[],1128⟩) (λi=>(f.take i).all Mp=true) rfl (by simp) ?_ ?_
 ·intro i hi hg;obtain⟨z,hz⟩:∃z,f[i]?=some z:=⟨_,List.getElem?_eq_getElem hi⟩;have oz:=(hf z (List.mem_of_getElem? hz)).ok;obtain⟨K1,ct⟩:=Mu I.u7 I.UD z oz;obtain⟨K2,cZ⟩:=Mv I.u9 I.UE z oz;refine af (au (by simp[aT,hi];rfl) ?_);refine ag rfl (ak (af (aq (cq (K:=max K1 K2) (s':=⟨[(0,aT f),(3,.nI i),(23,.bI (!(jC dp z&&jC fF z)))],[],2280⟩) (λn hn=>by
   have e1:=ct n (by omega);have e2:=cZ n (by omega);simp only[B.av]at e1 e2;generalize aZ prog n=g at e1 e2;cases h1:jC dp z<;>rw[h1]at e1<;>simp[-cE, -fz,aT,hz,B.gh,B.gw,B.jm,B.c8,e1,e2]) ?_))))
  refine ag rfl ?_;cases hr:jC dp z&&jC fF z with
  |false=>
   refine aj ?_;have:fg f=false:=by
    unfold fg;rw[all_false hz (show Mp z=false from hr)];simp
   rw[this];exact ax rfl
  |true=>
   refine ak ?_;refine bK ?_;refine⟨by simp[again,an,get,nrm,aT,bw hi yC],?_⟩;rw[gY hz,hg,Bool.true_and];exact hr
 ·intro hg;refine af (au (by simp[aT];rfl) ?_);refine ag rfl (aO ?_);simp only[Ex.then,Ex.inBlock,if_true];refine af ?_;rw[List.take_length]at hg;have hrf:fg f=(decide (f.length<=4)&&(eB f).length==f.length):=by unfold fg;rw[hg,Bool.true_and]
  rw[hrf];by_cases h4:f.length<=4
  ·have FK:(f.length:Int)<=4:=by omega
   obtain⟨K3,fP⟩:=Bm I f hl hf;have Vr:(((eB f).length:Int)==(f.length:Int))=((eB f).length==f.length):=by
    by_cases h:(eB f).length=f.length
    ·rw[h];simp
    ·have h1:((eB f).length:Int)≠f.length:=by omega
     rw[beq_eq_false_iff_ne.2 h1,beq_eq_false_iff_ne.2 h]
   refine aI (K:=K3) (λn hn=>by
    have e1:=fP n hn;simp only[aT]at e1;generalize aZ prog n=g at e1;simp[FK,e1,Vr];rfl) ?_
   rw[decide_eq_true h4];exact ax rfl
  ·have FK:¬(f.length:Int)<=4:=by omega
   refine aD (s':=⟨[(2,.bI false)],[],2152⟩) (by simp[FK];try omega) ?_;rw[decide_eq_false h4];exact ax rfl
end
end ao
namespace ao
open Go
theorem Ru {l:List (Int×Int)} (h:dA l) {n:Int} (hn:fK l n):dE n:=by
 obtain⟨p,hp,h1,h2⟩:=hn;have:=h p hp;unfold dE at this ⊢;omega
theorem Db:∀(l:List (Int×Int)) (a:Int),dA l->(∀p ∈ l,a<=p.1)->normal l->∀q ∈ fj a l,a<=q.1
 |[],a,_,_,_,q,hq=>by rw[fj,List.mem_singleton]at hq;rw[hq];exact Int.le_refl _
 |r::l,a,gq,oF,hn,q,hq=>by
  rw[fj,List.mem_append]at hq;have hr:=oF r (List.mem_cons_self ..);have l5:=hn.1 r (List.mem_cons_self ..);have xC:=gq r (List.mem_cons_self ..);rcases hq with hq | hq
  ·split at hq
   ·rw[List.mem_singleton]at hq;rw[hq];exact Int.le_refl _
   ·cases hq
  ·split at hq
   ·cases hq
   ·rename_i cA;have hw:IntKind.wrap .i64 (r.2+1)=r.2+1:=IntWalk.i64_in _ (by unfold dE at xC;omega);rw[hw]at hq;have:=Db l (r.2+1) (λp hp=>gq p (List.mem_cons_of_mem _ hp)) (λp hp=>by have:=(List.pairwise_cons.1 hn.2).1 p hp;omega) (lI hn) q hq;omega
theorem Dc:∀(l:List (Int×Int)) (a:Int),dE a->dA l->(∀p ∈ l,a<=p.1)->normal l->normal (fj a l)/\∀n,fK (fj a l) n↔(a<=n/\n<=9223372036854775807)/\¬fK l n
 |[],a,ha,_,_,_=>by
  rw[fj];refine⟨⟨λp hp=>?_,List.pairwise_singleton _ _⟩,λn=>?_⟩
  ·rw[List.mem_singleton]at hp;rw[hp];exact ha.2
  ·rw[dO];simp[lH]
 |r::l,a,ha,gq,oF,hn=>by
  have hr:=oF r (List.mem_cons_self ..);have l5:=hn.1 r (List.mem_cons_self ..);have xC:=gq r (List.mem_cons_self ..);have ht:=List.pairwise_cons.1 hn.2;have dX:a<r.1->IntKind.wrap .i64 (r.1 - 1)=r.1 - 1:=λh=>IntWalk.i64_in _ (by unfold dE at xC ha;omega)
  have CU:∀n,fK l n->r.2+1<n:=λn h=>iS hn h
  rw[fj];by_cases hm:r.2=9223372036854775807
  ·rw[if_pos hm,List.append_nil];have tY:∀n,n<=9223372036854775807->¬fK l n:=λn h1 h=>by have:=CU n h;omega
   by_cases Gi:a<r.1
   ·rw[if_pos Gi,dX Gi];refine⟨⟨λp hp=>?_,List.pairwise_singleton _ _⟩,λn=>?_⟩
    ·rw[List.mem_singleton]at hp;rw[hp];show a<=r.1 - 1;omega
    ·rw[dO,dO];simp only[lH,or_false,not_or];constructor
     ·rintro⟨h1,h2⟩;exact⟨⟨h1,by omega⟩,by omega,tY n (by omega)⟩
     ·rintro⟨⟨h1,h2⟩,h3, -⟩;omega
   ·rw[if_neg Gi];refine⟨⟨λp hp=>(by cases hp),List.Pairwise.nil⟩,λn=>?_⟩;rw[dO];simp only[lH,false_iff,not_or];rintro⟨⟨h1,h2⟩,h3, -⟩;omega
  ·have hw:IntKind.wrap .i64 (r.2+1)=r.2+1:=IntWalk.i64_in _ (by unfold dE at xC;omega);rw[if_neg hm,hw];have Vs:∀p ∈ l,r.2+1<=p.1:=λp hp=>by have:=ht.1 p hp;omega
   have Vt:dA l:=λp hp=>gq p (List.mem_cons_of_mem _ hp)
   obtain⟨Mr,HJ⟩:=Dc l (r.2+1) (by unfold dE at xC ⊢;omega) Vt Vs (lI hn);have low:=Db l (r.2+1) Vt Vs (lI hn);by_cases Gi:a<r.1
   ·rw[if_pos Gi,dX Gi];refine⟨⟨λp hp=>?_,?_⟩,λn=>?_⟩
    ·rcases List.mem_append.1 hp with hp | hp
     ·rw[List.mem_singleton]at hp;rw[hp];show a<=r.1 - 1;omega
     ·exact Mr.1 p hp
    ·rw[List.singleton_append];exact List.pairwise_cons.2 ⟨λq hq=>by have:=low q hq;show r.1 - 1+1<q.1;omega,Mr.2⟩
    ·rw[oD,HJ n,dO,dO];simp only[lH,or_false,not_or,not_and];constructor
     ·rintro(h | h)
      ·refine⟨by unfold dE at xC;omega,by omega,λhi=>?_⟩;have:=CU n hi;omega
      ·exact⟨by omega,by omega,h.2⟩
     ·rintro⟨h1,h2,h3⟩;by_cases P5:n<r.1
      ·exact .inl (by omega)
      ·exact .inr ⟨by omega,h3⟩
   ·rw[if_neg Gi,List.nil_append];refine⟨Mr,λn=>?_⟩;rw[HJ n,dO];simp only[not_or,not_and];constructor
    ·rintro⟨h1,h3⟩;exact⟨by omega,by omega,h3⟩
    ·rintro⟨h1,h2,h3⟩;exact⟨by omega,h3⟩
theorem zJ {l:List (Int×Int)} (h:normal l) (gq:dA l):iZ l=l:=oE (mr gq).1 h (mr gq).2.2
def Kl (x:S):S:=⟨!x.a,fj mQ x.i,!x.c,x.s⟩
theorem Rv {x:S} (h:x.eo) (k:dA x.i):Kl x=eF x:=by unfold Kl eF;rw[zJ h.i k]
theorem qn {x:S} (h:x.eo) (k:dA x.i):(eF x).eo/\∀n,fK (eF x).i n↔dE n/\¬fK x.i n:=by
 have hg:=Dc x.i mQ JW k (λp hp=>(k p hp).1.1) h.i;refine⟨⟨?_,h.s,h.len⟩,λn=>?_⟩
 ·show normal (fj mQ (iZ x.i));rw[zJ h.i k];exact hg.1
 ·show fK (fj mQ (iZ x.i)) n↔_;rw[zJ h.i k,hg.2 n];rfl
theorem zK (x:S) (t:ByteArray):eA (eF x) t=!eA x t:=by
 show(dN x.s t != !x.c)=!(dN x.s t != x.c)
 cases dN x.s t<;>cases x.c<;>rfl
theorem Bn {x:S} (k:dA x.i):dA (eF x).i:=zA _ _ JW (mr k).2.1
def sZ (a b:Int):Int:=if b > a then b else a
def s6 (a b:Int):Int:=if b<a then b else a
def lM (r q:Int×Int):List (Int×Int):=if sZ r.1 q.1<=s6 r.2 q.2 then[(sZ r.1 q.1,s6 r.2 q.2)] else[]
def caps (a b:List (Int×Int)):List (Int×Int):=a.flatMap λr=>b.flatMap (lM r)
theorem nE {r q p:Int×Int}:p ∈ lM r q↔sZ r.1 q.1<=s6 r.2 q.2/\p=(sZ r.1 q.1,s6 r.2 q.2):=by
 unfold lM;split<;>simp[*]
theorem Rw (a b:List (Int×Int)) (n:Int):fK (caps a b) n↔fK a n/\fK b n:=by
 constructor
 ·rintro⟨p,hp,h1,h2⟩;obtain⟨r,hr,hp⟩:=List.mem_flatMap.1 hp;obtain⟨q,hq,hp⟩:=List.mem_flatMap.1 hp;obtain⟨h3,rfl⟩:=nE.1 hp;simp only[sZ,s6]at h1 h2;refine⟨⟨r,hr,?_,?_⟩,⟨q,hq,?_,?_⟩⟩<;>(split at h1<;>split at h2<;>omega)
 ·rintro⟨⟨r,hr,h1,h2⟩,⟨q,hq,h3,h4⟩⟩;refine⟨(sZ r.1 q.1,s6 r.2 q.2),List.mem_flatMap.2 ⟨r,hr,List.mem_flatMap.2 ⟨q,hq,nE.2 ⟨?_,rfl⟩⟩⟩,?_,?_⟩
  ·simp only[sZ,s6];split<;>split<;>omega
  ·simp only[sZ];split<;>omega
  ·simp only[s6];split<;>omega
theorem GV {a b:List (Int×Int)} (ha:normal a) (hb:normal b):normal (caps a b):=by
 refine⟨λp hp=>?_,?_⟩
 ·obtain⟨r,hr,hp⟩:=List.mem_flatMap.1 hp;obtain⟨q,hq,hp⟩:=List.mem_flatMap.1 hp;obtain⟨h3,rfl⟩:=nE.1 hp;exact h3
 ·unfold caps;rw[List.pairwise_flatMap];refine⟨λr hr=>?_,ha.2.imp λ{r r'} l5 p hp p' dG=>?_⟩
  ·rw[List.pairwise_flatMap];refine⟨λq hq=>by unfold lM;split<;>simp,hb.2.imp λ{q q'} hqq p hp p' dG=>?_⟩;obtain⟨h3,rfl⟩:=nE.1 hp;obtain⟨h4,rfl⟩:=nE.1 dG;simp only[sZ,s6]at *;split at h3<;>split at h4<;>(repeat' split)<;>omega
  ·obtain⟨q,hq,hp⟩:=List.mem_flatMap.1 hp;obtain⟨q',Ya,dG⟩:=List.mem_flatMap.1 dG;obtain⟨h3,rfl⟩:=nE.1 hp;obtain⟨h4,rfl⟩:=nE.1 dG;simp only[sZ,s6]at *
   (repeat' split)<;>omega
def eC:List ByteArray->List ByteArray->List ByteArray
 |[],b=>b
 |a::l,[]=>a::l
 |a::l,b::m=>if fL a b then a::eC l (b::m) else if fL b a then b::eC (a::l) m else a::eC l m
termination_by l m=>l.length+m.length
theorem Bo (a:List ByteArray):eC a []=a:=by cases a<;>simp[eC]
theorem ru (s:ByteArray):∀(n:Nat) (a b:List ByteArray),a.length+b.length<=n->(s ∈ eC a b↔s ∈ a\/s ∈ b):=by
 intro n
 induction n with
 |zero=>intro a b h;cases a<;>cases b<;>simp_all [eC]
 |succ n ih=>
  intro a b h;cases a with
  |nil=>simp[eC]
  |cons x l=>
   cases b with
   |nil=>simp[eC]
   |cons y m=>
    simp only[List.length_cons]at h;rw[eC];split
    ·rw[List.mem_cons,ih l (y::m) (by simp;omega),List.mem_cons,List.mem_cons];exact or_assoc.symm
    ·split
     ·rw[List.mem_cons,ih (x::l) m (by simp;omega),List.mem_cons,List.mem_cons];constructor
      ·rintro(h | h | h)
       ·exact .inr (.inl h)
       ·exact .inl h
       ·exact .inr (.inr h)
      ·rintro(h | h | h)
       ·exact .inr (.inl h)
       ·exact .inl h
       ·exact .inr (.inr h)
     ·rename_i h1 h2;have:=qg h1 h2;subst this;rw[List.mem_cons,ih l m (by omega),List.mem_cons,List.mem_cons];constructor
      ·rintro(h | h | h)
       ·exact .inl (.inl h)
       ·exact .inl (.inr h)
       ·exact .inr (.inr h)
      ·rintro((h | h) | (h | h))
       ·exact .inl h
       ·exact .inr (.inl h)
       ·exact .inl h
       ·exact .inr (.inr h)
theorem GW:∀(n:Nat) (a b:List ByteArray),a.length+b.length<=n->mv a->mv b->mv (eC a b):=by
 intro n
 induction n with
 |zero=>intro a b h _ _;cases a<;>cases b<;>simp_all [eC,mv]
 |succ n ih=>
  intro a b h ra rb;cases a with
  |nil=>simpa[eC]using rb
  |cons x l=>
   cases b with
   |nil=>simpa[eC]using ra
   |cons y m=>
    simp only[List.length_cons]at h;have iA:=List.pairwise_cons.1 ra;have MR:=List.pairwise_cons.1 rb;rw[eC];split
    ·rename_i h1;refine List.pairwise_cons.2 ⟨λs hs=>?_,ih l (y::m) (by simp;omega) iA.2 rb⟩;rcases(ru s _ l (y::m) (Nat.le_refl _)).1 hs with hs | hs
     ·exact iA.1 s hs
     ·rcases List.mem_cons.1 hs with rfl | hs
      ·exact h1
      ·exact na h1 (MR.1 s hs)
    ·split
     ·rename_i h1 h2;refine List.pairwise_cons.2 ⟨λs hs=>?_,ih (x::l) m (by simp;omega) ra MR.2⟩;rcases(ru s _ (x::l) m (Nat.le_refl _)).1 hs with hs | hs
      ·rcases List.mem_cons.1 hs with rfl | hs
       ·exact h2
       ·exact na h2 (iA.1 s hs)
      ·exact MR.1 s hs
     ·rename_i h1 h2;have:=qg h1 h2;subst this;refine List.pairwise_cons.2 ⟨λs hs=>?_,ih l m (by omega) iA.2 MR.2⟩;rcases(ru s _ l m (Nat.le_refl _)).1 hs with hs | hs
      ·exact iA.1 s hs
      ·exact MR.1 s hs
theorem Km:∀(n:Nat) (a b:List ByteArray),a.length+b.length<=n->(eC a b).length<=a.length+b.length:=by
 intro n
 induction n with
 |zero=>intro a b h;cases a<;>cases b<;>simp_all [eC]
 |succ n ih=>
  intro a b h;cases a with
  |nil=>simp[eC]
  |cons x l=>
   cases b with
   |nil=>simp[eC]
   |cons y m=>
    simp only[List.length_cons]at h;rw[eC];split
    ·have:=ih l (y::m) (by simp;omega);simp at this ⊢;omega
    ·split
     ·have:=ih (x::l) m (by simp;omega);simp at this ⊢;omega
     ·have:=ih l m (by omega);simp at this ⊢;omega
def pB (x y:S) (t:ByteArray):Bool:=((dN x.s t != x.c)&&(dN y.s t != y.c)) != (x.c&&y.c)
def sg (x y:S):S:=⟨x.a&&y.a,caps x.i y.i,x.c&&y.c,(eC x.s y.s).filter (pB x y)⟩
theorem uq {x y:S} (hx:x.eo) (hy:y.eo) (kx:dA x.i) (ky:dA y.i):sg x y=gL x y/\(gL x y).eo/\dA (gL x y).i:=by
 obtain⟨fx,ix⟩:=qn hx kx;obtain⟨fy,iy⟩:=qn hy ky;have k1:=Bn kx;have k2:=Bn ky;obtain⟨fo,ko,io⟩:=xX fx fy k1 k2;obtain⟨fa,ia⟩:=qn fo ko;have hc:(gL x y).c=(x.c&&y.c):=by show(!(!x.c||!y.c))=_;cases x.c<;>cases y.c<;>rfl
 have oR:∀t,eA (gL x y) t=(eA x t&&eA y t):=λt=>by
  show eA (eF (kQ (eF x) (eF y))) t=_
  rw[zK,A0,zK,zK];cases eA x t<;>cases eA y t<;>rfl
 refine⟨?_,fa,Bn ko⟩;have e1:(x.a&&y.a)=(gL x y).a:=by show _=(!(!x.a||!y.a));cases x.a<;>cases y.a<;>rfl
 have e2:caps x.i y.i=(gL x y).i:=oE (GV hx.i hy.i) fa.i λn=>by
  rw[Rw];refine Iff.trans ?_ (ia n).symm;rw[io n,ix n,iy n];constructor
  ·rintro⟨h1,h2⟩;exact⟨Ru kx h1,λh=>h.elim (λh=>h.2 h1) λh=>h.2 h2⟩
  ·rintro⟨h1,h2⟩;exact⟨Classical.byContradiction λh=>h2 (.inl ⟨h1,h⟩),Classical.byContradiction λh=>h2 (.inr ⟨h1,h⟩)⟩
 have e3:(eC x.s y.s).filter (pB x y)=(gL x y).s:=uW (List.Pairwise.filter _ (GW _ _ _ (Nat.le_refl _) hx.s hy.s)) fa.s λt=>by
  have h:=oR t;rw[List.mem_filter,ru t _ _ _ (Nat.le_refl _),<-gf,<-gf,<-gf (l:=(gL x y).s)];unfold eA at h;unfold pB;rw[hc]at h;revert h;cases dN x.s t<;>cases dN y.s t<;>cases x.c<;>cases y.c<;>cases dN (gL x y).s t<;>simp
 unfold sg;rw[e1,e2,e3,<-hc]
end ao
namespace ao
open Go
attribute [local simp] aS Option.map_some a7 step cw bp az M.aG M.run M.ok M.fresh M.write M.look M.lift bT ao.set ev ao.get an bin cU db mk params bh load bB di ep dQ dn dB idx len valid eu bound store bl fV un eqs ly bn bH M.bN dw cL dC c9 meets dF dR callee bZ cE fz flat ew eI eZ Option.bind_some cz M.bind
section
variable {prog:Nat->Option aA}
set_option maxHeartbeats 4000000 in
theorem Rx (h:prog 282=some BC) (a b:List ByteArray) (hl:a.length+b.length<=100000):a8 prog 282 [.iv (.sl 1 (a.map st1)),.iv (.sl 1 (b.map st1))] (.iv (.sl 1 ((eC a b).map st1))):=by
 refine a8.of h rfl rfl (aj ?_);refine aj ?_;refine aj ?_;refine af ?_;refine aq ?_;refine b7 (λm s1=>∃(i k:Nat) (o:List ByteArray),(a.length - i)+(b.length - k)=m/\i<=a.length/\k<=b.length/\o.length<=i+k/\o++eC (a.drop i) (b.drop k)=eC a b/\
  s1=⟨[(0,.iv (.sl 1 (a.map st1))),(1,.iv (.sl 1 (b.map st1))),(5,.own 1064 0 o.length 0),(6,.nI i),(7,.nI k)],[(1000,.buf 0 1 []),(1064,.buf 0 1 (o.map st1))],1256⟩) (m:=a.length+b.length) ⟨0,0,[],by omega,by omega,by omega,by simp,by simp,rfl⟩ ?_
 rintro m s1 ⟨i,k,o,hm,hia,CB,ho,hg,rfl⟩;have gA:o.length+1<=1073741824:=by omega
 have kz:IntKind.wrap .i64 ((i:Int)+1)=(i:Int)+1:=IntWalk.i64_in _ (by omega);have lU:IntKind.wrap .i64 ((k:Int)+1)=(k:Int)+1:=IntWalk.i64_in _ (by omega);refine af (au (s':=⟨[(0,.iv (.sl 1 (a.map st1))),(1,.iv (.sl 1 (b.map st1))),(5,.own 1064 0 o.length 0),(6,.nI i),(7,.nI k),(17,.bI (decide (i<a.length)||decide (k<b.length)))],[(1000,.buf 0 1 []),(1064,.buf 0 1 (o.map st1))],1896⟩) (by
  by_cases h1:i<a.length<;>simp[h1]) ?_)
 refine ag rfl ?_;by_cases vw:i<a.length
 ·obtain⟨x,hx⟩:∃x,a[i]?=some x:=⟨_,List.getElem?_eq_getElem vw⟩;have qN:a[i]'vw=x:=(List.getElem?_eq_some_iff.1 hx).2;have CI:((i:Int)==a.length)=false:=by rw[beq_eq_false_iff_ne];omega
  have mo:(i:Int)<a.length:=by omega
  rw[decide_eq_true vw,Bool.true_or];refine ak (aq (af ?_));rw[drop_cons hx]at hg;by_cases sh:k<b.length
  ·obtain⟨y,hy⟩:∃y,b[k]?=some y:=⟨_,List.getElem?_eq_getElem sh⟩;have tW:b[k]'sh=y:=(List.getElem?_eq_some_iff.1 hy).2;have Dd:((k:Int)==b.length)=false:=by rw[beq_eq_false_iff_ne];omega
   have Bp:(k:Int)<b.length:=by omega
   rw[drop_cons hy,eC]at hg;refine aI (K:=0) (s':=⟨[(0,.iv (.sl 1 (a.map st1))),(1,.iv (.sl 1 (b.map st1))),(5,.own 1064 0 o.length 0),(6,.nI i),(7,.nI k),(38,.bI (fL x y))],[(1000,.buf 0 1 []),(1064,.buf 0 1 (o.map st1))],3240⟩) (λn _=>cM rfl (by
    cases h1:fL x y<;>simp[vw,sh,mo,Dd,Bp,hx,hy,qN,tW,st1,h1])) ?_
   refine ag rfl ?_;cases h1:fL x y with
   |true=>
    rw[if_pos h1]at hg;refine au (by simp[bO,app,elems,roomy,gA,cD,hx,qN,mo,vw,st1];rfl) ?_;refine bK ?_;refine⟨m - 1,by omega,i+1,k,o++[x],by omega,by omega,by omega,by simp;omega,by rw[drop_cons hy,<-hg,List.append_assoc];rfl,?_⟩;simp[again,an,get,nrm,bG,kz,st1]
   |false=>
    rw[if_neg (by rw[h1];simp)]at hg;refine af ?_;refine aI (K:=0) (s':=⟨[(0,.iv (.sl 1 (a.map st1))),(1,.iv (.sl 1 (b.map st1))),(5,.own 1064 0 o.length 0),(6,.nI i),(7,.nI k),(62,.bI (fL y x))],[(1000,.buf 0 1 []),(1064,.buf 0 1 (o.map st1))],4200⟩) (λn _=>cM rfl (by
     cases h2:fL y x<;>simp[vw,sh,CI,mo,Bp,hx,hy,qN,tW,st1,h2])) ?_
    refine ag rfl ?_;cases h2:fL y x with
    |true=>
     rw[if_pos h2]at hg;refine au (by simp[bO,app,elems,roomy,gA,cD,hy,tW,Bp,sh,st1];rfl) ?_;refine bK ?_;refine⟨m - 1,by omega,i,k+1,o++[y],by omega,by omega,by omega,by simp;omega,by rw[drop_cons hx,<-hg,List.append_assoc];rfl,?_⟩;simp[again,an,get,nrm,bG,lU,st1]
    |false=>
     rw[if_neg (by rw[h2];simp)]at hg;refine au (by simp[bO,app,elems,roomy,gA,cD,hx,qN,mo,vw,st1];rfl) ?_;refine aj ?_;refine bK ?_;refine⟨m - 2,by omega,i+1,k+1,o++[x],by omega,by omega,by omega,by simp;omega,by rw[<-hg,List.append_assoc];rfl,?_⟩;simp[again,an,get,nrm,bG,kz,lU,st1]
  ·have abL:k=b.length:=by omega
   have Dd:((k:Int)==b.length)=true:=by rw[beq_iff_eq];omega
   have yg:b.drop k=[]:=List.drop_eq_nil_of_le (by omega);rw[yg,Bo]at hg;refine aI (K:=0) (s':=⟨[(0,.iv (.sl 1 (a.map st1))),(1,.iv (.sl 1 (b.map st1))),(5,.own 1064 0 o.length 0),(6,.nI i),(7,.nI k),(38,.bI true)],[(1000,.buf 0 1 []),(1064,.buf 0 1 (o.map st1))],3240⟩) (λn _=>cM rfl (by
    simp[Dd])) ?_
   refine ag rfl (au (by simp[bO,app,elems,roomy,gA,cD,hx,qN,mo,vw,st1];rfl) ?_);refine bK ?_;refine⟨m - 1,by omega,i+1,k,o++[x],by omega,by omega,by omega,by simp;omega,by rw[yg,Bo,<-hg,List.append_assoc];rfl,?_⟩;simp[again,an,get,nrm,bG,kz,st1]
 ·have aaS:i=a.length:=by omega
  have CI:((i:Int)==a.length)=true:=by rw[beq_iff_eq];omega
  have mo:¬(i:Int)<a.length:=by omega
  have YW:a.drop i=[]:=List.drop_eq_nil_of_le (by omega);rw[YW,eC]at hg;rw[decide_eq_false vw,Bool.false_or];by_cases sh:k<b.length
  ·obtain⟨y,hy⟩:∃y,b[k]?=some y:=⟨_,List.getElem?_eq_getElem sh⟩;have tW:b[k]'sh=y:=(List.getElem?_eq_some_iff.1 hy).2;have Dd:((k:Int)==b.length)=false:=by rw[beq_eq_false_iff_ne];omega
   have Bp:(k:Int)<b.length:=by omega
   rw[decide_eq_true sh];rw[drop_cons hy]at hg;refine ak (aq (af ?_));refine aI (K:=0) (s':=⟨[(0,.iv (.sl 1 (a.map st1))),(1,.iv (.sl 1 (b.map st1))),(5,.own 1064 0 o.length 0),(6,.nI i),(7,.nI k),(38,.bI false)],[(1000,.buf 0 1 []),(1064,.buf 0 1 (o.map st1))],3240⟩) (λn _=>cM rfl (by
    simp[Dd,aaS])) ?_
   refine ag rfl (af ?_);refine aI (K:=0) (s':=⟨[(0,.iv (.sl 1 (a.map st1))),(1,.iv (.sl 1 (b.map st1))),(5,.own 1064 0 o.length 0),(6,.nI i),(7,.nI k),(62,.bI true)],[(1000,.buf 0 1 []),(1064,.buf 0 1 (o.map st1))],4200⟩) (λn _=>cM rfl (by
    simp[CI])) ?_
   refine ag rfl (au (by simp[bO,app,elems,roomy,gA,cD,hy,tW,Bp,sh,st1];rfl) ?_);refine bK ?_;refine⟨m - 1,by omega,i,k+1,o++[y],by omega,by omega,by omega,by simp;omega,by rw[YW,eC,<-hg,List.append_assoc];rfl,?_⟩;simp[again,an,get,nrm,bG,lU,st1]
  ·have yg:b.drop k=[]:=List.drop_eq_nil_of_le (by omega);rw[yg,List.append_nil]at hg;rw[decide_eq_false sh];refine aO ?_;simp only[Ex.then,Ex.inBlock,if_true];refine aj ?_;refine ax ?_;rw[<-hg];simp[dI,BC,ck,dJ,eE,ev,get,M.look,M.bind,M.run,az,M.ok,shut,im,bZ,cE,fz,M.write,M.lift,cD]
end
def iW (x:S) (w:Nat) (o:List (Int×Int)):Hp:=[(1000,.cells [.iv (.bool x.a),.iv (.sl 2 (x.i.map bM)),.iv (.bool x.c),.iv (.sl 1 (x.s.map st1))]),(1066,.buf 0 2 []),(1068,.buf 0 1 []),(1064,.cells [.iv (.bool false),.own 1066 0 0 0,.iv (.bool false),.own 1068 0 0 0]),
 (1512,.buf w 1 (x.s.map st1)),(1834,.buf 0 2 []),(1836,.buf 0 1 []),(1832,.cells [.iv (.bool (!x.a)),.own 1897 0 o.length 0,.iv (.bool (!x.c)),.own 1512 0 x.s.length w]),(1897,.buf 0 2 (o.map bM))]
section
variable {prog:Nat->Option aA}
set_option maxHeartbeats 8000000 in
theorem XC (h:prog 283=some DV) (x:S) (fx:x.eo) (kx:dA x.i) (hi:x.i.length<=100000) (hs:x.s.length<=100000):a8 prog 283 [x.av] (eF x).av:=by
 rw[<-Rv fx kx];have hr:x.s.length<=1073741824:=by omega
 refine a8.of h rfl rfl (au (by simp[S.av];rfl) ?_);refine au (s':=⟨[(1,.ref 1000 0 0 0),(2,.ref 1064 0 0 0),(3,.ref 1832 0 0 0)],iW x 1 [],1960⟩) (by simp[bO,app,elems,roomy,hr,iW]) ?_;refine aj ?_;refine aj ?_;refine af (aj ?_);refine aq ?_;refine b7 (λm s1=>∃(i:Nat) (a:Int) (b:Bool) (o:List (Int×Int)) (w:Nat),i+m=x.i.length/\o.length<=i/\(if b then o++fj a (x.i.drop i)=fj mQ x.i else(i=x.i.length/\o=fj mQ x.i))/\
  s1=⟨[(1,.ref 1000 0 0 0),(2,.ref 1064 0 0 0),(3,.ref 1832 0 0 0),(4,.nI a),(5,.bI b),(6,.nI i)],iW x w o,2152⟩) (m:=x.i.length) ⟨0,mQ,true,[],1,by omega,by simp,by simp,by simp[an,get,mQ]⟩ ?_
 rintro m s1 ⟨i,a,b,o,w,oC,ho,hg,rfl⟩;have gA:o.length+1<=1073741824:=by omega
 have kz:IntKind.wrap .i64 ((i:Int)+1)=(i:Int)+1:=IntWalk.i64_in _ (by omega);refine af (af ?_);by_cases gZ:i<x.i.length
 ·obtain⟨r,jY⟩:∃r,x.i[i]?=some r:=⟨_,List.getElem?_eq_getElem gZ⟩;have hd:=drop_cons jY;cases b with
  |false=>simp at hg;omega
  |true=>
   rw[if_pos rfl,hd,fj]at hg;refine aD (s':=⟨[(1,.ref 1000 0 0 0),(2,.ref 1064 0 0 0),(3,.ref 1832 0 0 0),(4,.nI a),(5,.bI true),(6,.nI i),(22,.bI true)],iW x w o,2472⟩) (by simp[iW,gZ]) ?_;refine ag rfl (ak (af (aq (af (au (s':=⟨[(1,.ref 1000 0 0 0),(2,.ref 1064 0 0 0),(3,.ref 1832 0 0 0),(4,.nI a),(5,.bI true),(6,.nI i),(32,.bI (decide (a<r.1)))],iW x w o,2984⟩) (by simp[iW,jY,bM]) ?_)))));refine ag rfl ?_;have fin:∀(o':List (Int×Int)) (v w' nx:Nat) (H:Hp),o'.length<=i+1->o'++(if r.2=9223372036854775807 then[] else fj (IntKind.wrap .i64 (r.2+1)) (x.i.drop (i+1)))=fj mQ x.i->True:=λ_ _ _ _ _ _ _=>trivial
   have uw:r.2=9223372036854775807->i+1=x.i.length:=by
    intro hm;refine Classical.byContradiction λcA=>?_
    obtain⟨q,hq⟩:∃q,x.i[i+1]?=some q:=⟨_,List.getElem?_eq_getElem (by omega)⟩;have h1:=zz fx.i.2 jY hq;have h2:=fx.i.1 q (List.mem_of_getElem? hq);have h3:=(kx q (List.mem_of_getElem? hq)).2.2;omega
   cases hb:decide (a<r.1)with
   |true=>
    rw[if_pos (of_decide_eq_true hb)]at hg;refine aD (by simp[iW,bO,app,elems,roomy,gA,jY,bM,cD];rfl) ?_;refine au (by simp[jY,bM];rfl) ?_;refine ag rfl ?_;cases hm:r.2==9223372036854775807 with
    |true=>
     have eN:r.2=9223372036854775807:=by simpa using hm
     rw[if_pos eN,List.append_nil]at hg;refine bK ?_;simp only[Ex.then,Ex.inBlock];refine aD (by simp[kz];rfl) ?_;refine⟨m - 1,by omega,i+1,a,false,o++[(a,IntKind.wrap .i64 (r.1 - 1))],0,by omega,by simp;omega,?_,?_⟩
     ·rw[if_neg (by simp)];exact⟨uw eN,hg⟩
     ·simp[again,an,get,cC,de,du,bG,iW,bM]
    |false=>
     have eN:¬r.2=9223372036854775807:=by simpa using hm
     rw[if_neg eN]at hg;refine aD (by simp[jY,bM];rfl) ?_;simp only[Ex.then,Ex.inBlock];refine aD (by simp[kz];rfl) ?_;refine⟨m - 1,by omega,i+1,IntKind.wrap .i64 (r.2+1),true,o++[(a,IntKind.wrap .i64 (r.1 - 1))],0,by omega,by simp;omega,?_,?_⟩
     ·rw[if_pos rfl,<-hg];simp
     ·simp[again,an,get,cC,de,du,bG,iW,bM]
   |false=>
    rw[if_neg (of_decide_eq_false hb),List.nil_append]at hg;refine ak ?_;simp only[Ex.then];refine au (by simp[iW,jY,bM];rfl) ?_;refine ag rfl ?_;cases hm:r.2==9223372036854775807 with
    |true=>
     have eN:r.2=9223372036854775807:=by simpa using hm
     rw[if_pos eN,List.append_nil]at hg;refine bK ?_;simp only[Ex.then,Ex.inBlock];refine aD (by simp[kz];rfl) ?_;refine⟨m - 1,by omega,i+1,a,false,o,0,by omega,by omega,?_,?_⟩
     ·rw[if_neg (by simp)];exact⟨uw eN,hg⟩
     ·simp[again,an,get,cC,de,du,bG,iW]
    |false=>
     have eN:¬r.2=9223372036854775807:=by simpa using hm
     rw[if_neg eN]at hg;refine aD (by simp[jY,bM];rfl) ?_;simp only[Ex.then,Ex.inBlock];refine aD (by simp[kz];rfl) ?_;refine⟨m - 1,by omega,i+1,IntKind.wrap .i64 (r.2+1),true,o,0,by omega,by omega,?_,?_⟩
     ·rw[if_pos rfl,<-hg]
     ·simp[again,an,get,cC,de,du,bG,iW]
 ·refine aD (s':=⟨[(1,.ref 1000 0 0 0),(2,.ref 1064 0 0 0),(3,.ref 1832 0 0 0),(4,.nI a),(5,.bI b),(6,.nI i),(22,.bI false)],iW x w o,2472⟩) (by simp[iW];omega) ?_;refine ag rfl (aO ?_);simp only[Ex.then,Ex.inBlock,if_true];have sC:x.i.drop i=[]:=List.drop_eq_nil_of_le (by omega);rw[sC,fj]at hg;refine af (aj ?_);refine ag rfl ?_;cases b with
  |true=>
   rw[if_pos rfl]at hg;refine aD (by simp[iW,bO,app,elems,roomy,gA,cD];rfl) ?_;simp only[Ex.then];refine au (by simp;rfl) ?_;refine ax ?_;have hT:List.take (o.length+1) (o.map bM++[[.int .i64 a,.int .i64 9223372036854775807]])=o.map bM++[[.int .i64 a,.int .i64 9223372036854775807]]:=List.take_of_length_le (by simp);simp[dI,ao.set,hT,DV,ck,dJ,eE,load,bB,mk,ev,get,M.look,M.bind,M.run,az,M.ok,M.lift,M.write,shut,im,bZ,cE,fz,M.aG,S.av,Kl,<-hg,cD,bM]
  |false=>
   obtain⟨-,hg⟩:=hg;refine ak ?_;simp only[Ex.then];refine au (by simp[iW];rfl) ?_;refine ax ?_;simp[dI,ao.set,DV,ck,dJ,eE,load,bB,mk,ev,get,M.look,M.bind,M.run,az,M.ok,M.lift,M.write,shut,im,bZ,cE,fz,M.aG,S.av,Kl,<-hg,cD]
end
def eY (x y:S) (o:List (Int×Int)) (t:List ByteArray):Hp:=[(1000,.cells [.iv (.bool x.a),.iv (.sl 2 (x.i.map bM)),.iv (.bool x.c),.iv (.sl 1 (x.s.map st1))]),(1064,.cells [.iv (.bool y.a),.iv (.sl 2 (y.i.map bM)),.iv (.bool y.c),.iv (.sl 1 (y.s.map st1))]),
 (1130,.buf 0 2 []),(1132,.buf 0 1 []),(1128,.cells [.iv (.bool false),.own 1130 0 0 0,.iv (.bool false),.own 1132 0 0 0]),(2026,.buf 0 2 []),(2028,.buf 0 1 []),
 (2024,.cells [.iv (.bool (x.a&&y.a)),.own 2089 0 o.length 0,.iv (.bool (x.c&&y.c)),.own 2091 0 t.length 0]),(2089,.buf 0 2 (o.map bM)),(2091,.buf 0 1 (t.map st1))]
theorem OQ (r q:Int×Int):(lM r q).length<=1:=by unfold lM;split<;>simp
theorem De (r:Int×Int) (b:List (Int×Int)):(b.flatMap (lM r)).length<=b.length:=by have:=pA (c:=1) (OQ r) b;omega
theorem OR (a b:List (Int×Int)):(caps a b).length<=b.length*a.length:=pA (c:=b.length) (λr=>De r b) a
section
variable {prog:Nat->Option aA}
set_option maxHeartbeats 16000000 in
theorem XD (tZ:prog 49=some DK) (Cd:prog 282=some BC) (h:prog 281=some DU) (x y:S) (fx:x.eo) (fy:y.eo) (hx:x.lim 1000 400) (hy:y.lim 1000 400):a8 prog 281 [x.av,y.av] (gL x y).av:=by
 rw[<-(uq fx fy hx.k hy.k).1];have j8:=hx.i;have Cq:=hx.s;have Ap:=hy.i;have tC:=hy.s;obtain⟨K1,ct⟩:=Rx Cd x.s y.s (by omega);have hJl:=Km _ x.s y.s (Nat.le_refl _);unfold sg;generalize eC x.s y.s=J at ct hJl;have jy:y.i.length*x.i.length<=1000*1000:=Nat.mul_le_mul Ap j8;refine a8.of h rfl rfl (au (by simp[S.av];rfl) ?_);refine au (s':=⟨[(2,.ref 1000 0 0 0),(3,.ref 1064 0 0 0),(4,.ref 1128 0 0 0),(5,.ref 2024 0 0 0)],eY x y [] [],2152⟩) (by
  cases ha:x.a<;>cases hc:x.c<;>simp[eY,ha,hc]) ?_
 refine af (aj ?_);refine aq ?_;refine b7 (λm s1=>∃(i:Nat),i+m=x.i.length/\s1=⟨[(2,.ref 1000 0 0 0),(3,.ref 1064 0 0 0),(4,.ref 1128 0 0 0),(5,.ref 2024 0 0 0),(6,.nI i)],eY x y (caps (x.i.take i) y.i) [],2216⟩) (m:=x.i.length) ⟨0,by omega,by simp[an,get,caps]⟩ ?_;rintro m s1 ⟨i,oC,rfl⟩;have kz:IntKind.wrap .i64 ((i:Int)+1)=(i:Int)+1:=IntWalk.i64_in _ (by omega);have kr:(caps (x.i.take i) y.i).length<=1000000:=by
  have:=OR (x.i.take i) y.i;have h2:(x.i.take i).length<=1000:=by rw[List.length_take];omega
  have:=Nat.mul_le_mul Ap h2;omega
 refine af (af ?_);by_cases gZ:i<x.i.length
 ·obtain⟨r,hr⟩:∃r,x.i[i]?=some r:=⟨_,List.getElem?_eq_getElem gZ⟩;have b9:caps (x.i.take (i+1)) y.i=caps (x.i.take i) y.i++y.i.flatMap (lM r):=gH hr;generalize caps (x.i.take i) y.i=o0 at kr b9;refine aD (s':=⟨[(2,.ref 1000 0 0 0),(3,.ref 1064 0 0 0),(4,.ref 1128 0 0 0),(5,.ref 2024 0 0 0),(6,.nI i),(30,.bI true)],eY x y o0 [],2536⟩) (by simp[eY,gZ]) ?_;refine ag rfl (ak (af (aq (aj ?_))));refine aq ?_;refine b7 (λm s1=>∃(k:Nat),k+m=y.i.length/\s1=⟨[(2,.ref 1000 0 0 0),(3,.ref 1064 0 0 0),(4,.ref 1128 0 0 0),(5,.ref 2024 0 0 0),(6,.nI i),(7,.nI k)],eY x y (o0++(y.i.take k).flatMap (lM r)) [],2600⟩) (m:=y.i.length) ⟨0,by omega,by simp[an,get]⟩ ?_
  rintro m2 s2 ⟨k,C6,rfl⟩;have lU:IntKind.wrap .i64 ((k:Int)+1)=(k:Int)+1:=IntWalk.i64_in _ (by omega);have Vu:(o0++(y.i.take k).flatMap (lM r)).length<=1001000:=by
   have:=De r (y.i.take k);have h2:(y.i.take k).length<=1000:=by rw[List.length_take];omega
   rw[List.length_append];omega
  refine af (af ?_);by_cases vP:k<y.i.length
  ·obtain⟨q,hq⟩:∃q,y.i[k]?=some q:=⟨_,List.getElem?_eq_getElem vP⟩;have xD:o0++(y.i.take (k+1)).flatMap (lM r)=o0++(y.i.take k).flatMap (lM r)++lM r q:=by rw[gH hq,List.append_assoc]
   generalize o0++(y.i.take k).flatMap (lM r)=o at Vu xD;have gA:o.length+1<=1073741824:=by omega
   refine aD (by simp[eY,vP];rfl) ?_;refine ag rfl (ak (af (aq (af ?_))));refine aI (K:=0) (s':=⟨[(2,.ref 1000 0 0 0),(3,.ref 1064 0 0 0),(4,.ref 1128 0 0 0),(5,.ref 2024 0 0 0),(6,.nI i),(7,.nI k),(8,.nI (sZ r.1 q.1)),(9,.nI (s6 r.2 q.2))],eY x y o [],4712⟩) (λn _=>cM rfl (by
    simp[eY,hr,hq,bM,qH,sm,sZ,s6])) ?_
   refine aj ?_;refine ag rfl ?_;cases hc:decide (sZ r.1 q.1<=s6 r.2 q.2)with
   |true=>
    have jx:lM r q=[(sZ r.1 q.1,s6 r.2 q.2)]:=by unfold lM;rw[if_pos (of_decide_eq_true hc)]
    refine aD (by simp[eY,bO,app,elems,roomy,gA,cD];rfl) ?_;simp only[Ex.then,Ex.inBlock];refine aD (by simp[lU];rfl) ?_;refine⟨m2 - 1,by omega,k+1,by omega,?_⟩;rw[xD,jx];simp[again,an,get,cC,de,du,bG,eY,bM]
   |false=>
    have jx:lM r q=[]:=by unfold lM;rw[if_neg (of_decide_eq_false hc)]
    refine ak ?_;simp only[Ex.then,Ex.inBlock];refine aD (by simp[lU];rfl) ?_;refine⟨m2 - 1,by omega,k+1,by omega,?_⟩;rw[xD,jx,List.append_nil];simp[again,an,get,cC,de,du,bG,eY]
  ·have hky:k=y.i.length:=by omega
   rw[hky,List.take_length,<-b9];refine aD (by simp[eY];rfl) ?_;refine ag rfl (aO ?_);simp only[Ex.then,Ex.inBlock,if_true];refine aD (by simp[kz];rfl) ?_;refine⟨m - 1,by omega,i+1,by omega,?_⟩;simp[again,an,get,cC,de,du,bG,eY]
 ·have rS:i=x.i.length:=by omega
  rw[rS,List.take_length]at kr ⊢;generalize caps x.i y.i=o at kr;refine aD (by simp[eY];rfl) ?_;refine ag rfl (aO ?_);simp only[Ex.then,Ex.inBlock,if_true];refine cq (K:=K1) (s':=⟨_,eY x y o [],2920⟩) (λn hn=>by
   have e1:=ct n hn;generalize aZ prog n=g at e1;simp[eY,e1];rfl) ?_
  refine af (aj ?_);refine aq ?_;refine b7 (λm s1=>∃(k:Nat),k+m=J.length/\s1=⟨[(2,.ref 1000 0 0 0),(3,.ref 1064 0 0 0),(4,.ref 1128 0 0 0),(5,.ref 2024 0 0 0),(10,.iv (.sl 1 (J.map st1))),(11,.nI k)],eY x y o ((J.take k).filter (pB x y)),2984⟩) (m:=J.length) ⟨0,by omega,by simp[an,get]⟩ ?_;rintro m3 s3 ⟨k,C6,rfl⟩;have lU:IntKind.wrap .i64 ((k:Int)+1)=(k:Int)+1:=IntWalk.i64_in _ (by omega);have tF:((J.take k).filter (pB x y)).length<=J.length:=tV _ _ _;refine af (af ?_);by_cases vP:k<J.length
  ·have CJ:(k:Int)<J.length:=by omega
   obtain⟨s,YX⟩:∃s,J[k]?=some s:=⟨_,List.getElem?_eq_getElem vP⟩;have Vv:J[k]'vP=s:=(List.getElem?_eq_some_iff.1 YX).2;have b9:(J.take (k+1)).filter (pB x y)=(J.take k).filter (pB x y)++if pB x y s then[s] else[]:=r8 YX
   generalize(J.take k).filter (pB x y)=t at tF b9;have gA:t.length+1<=1073741824:=by omega
   obtain⟨K2,cZ⟩:=A2 tZ x.s s (by unfold maxLen;omega);obtain⟨K3,fP⟩:=A2 tZ y.s s (by unfold maxLen;omega);refine aD (by simp[vP];rfl) ?_;refine ag rfl (ak (af (aq (af ?_))));refine aI (K:=max K2 K3) (s':=⟨[(2,.ref 1000 0 0 0),(3,.ref 1064 0 0 0),(4,.ref 1128 0 0 0),(5,.ref 2024 0 0 0),(10,.iv (.sl 1 (J.map st1))),(11,.nI k),(12,.bI ((dN x.s s != x.c)&&(dN y.s s != y.c)))],eY x y o t,4712⟩) (λn hn=>cM rfl (by
    have e1:=cZ n (by omega);have e2:=fP n (by omega);generalize aZ prog n=g at e1 e2;have ex:∀a b:Bool,(!(a==b))=(a != b):=λ_ _=>rfl
    cases h1:dN x.s s != x.c<;>simp[eY,vP,Vv,st1,e1,e2,ex,h1])) ?_
   refine au (s':=⟨[(2,.ref 1000 0 0 0),(3,.ref 1064 0 0 0),(4,.ref 1128 0 0 0),(5,.ref 2024 0 0 0),(10,.iv (.sl 1 (J.map st1))),(11,.nI k),(113,.bI (pB x y s))],eY x y o t,4968⟩) (by
    have ex:∀a b:Bool,(!(a==b))=(a != b):=λ_ _=>rfl
    unfold pB;generalize((dN x.s s != x.c)&&(dN y.s s != y.c))=q;simp[eY,ex]) ?_
   refine ag rfl ?_;cases Ih:pB x y s with
   |true=>
    rw[Ih,if_pos rfl]at b9;refine aD (by simp[eY,bO,app,elems,roomy,vP,Vv,gA,st1,cD];rfl) ?_;simp only[Ex.then,Ex.inBlock];refine aD (by simp[lU];rfl) ?_;refine⟨m3 - 1,by omega,k+1,by omega,?_⟩;rw[b9];simp[again,an,get,cC,de,du,bG,eY,st1]
   |false=>
    rw[Ih,if_neg Bool.false_ne_true,List.append_nil]at b9;refine ak ?_;simp only[Ex.then,Ex.inBlock];refine aD (by simp[lU];rfl) ?_;refine⟨m3 - 1,by omega,k+1,by omega,?_⟩;rw[b9];simp[again,an,get,cC,de,du,bG,eY]
  ·have hkJ:k=J.length:=by omega
   rw[hkJ,List.take_length];generalize J.filter (pB x y)=t;refine aD (by simp;rfl) ?_;refine ag rfl (aO ?_);simp only[Ex.then,Ex.inBlock,if_true];refine au (by simp[eY];rfl) ?_;refine ax ?_;simp[dI,ao.set,DU,ck,dJ,eE,load,bB,mk,ev,get,M.look,M.bind,M.run,az,M.ok,M.lift,M.write,shut,im,bZ,cE,fz,M.aG,S.av,cD]
end
end ao
namespace ao
open Go ay
theorem OS {x e:S} (hx:x.eo) (he:e.eo) (kx:dA x.i) (ke:dA e.i) (h1:cS x=false) (h2:cS e=true):kS x e=false:=by
 cases h:kS x e with
 |false=>rfl
 |true=>
  have e1:kQ x e=e:=w8.1 h;have:=GU hx h1 (xX hx he kx ke).2.2;rw[e1,h2]at this;cases this
theorem MS {b c:B} (hb:b.fit) (hc:c.fit) (h1:eW cS b=false) (h2:eW cS c=true):mP b c=false:=by
 have h3:=Gf.1 h1;obtain⟨i,hi,he⟩:∃i,i<4/\cS (c.get i)=true:=by
  refine Classical.byContradiction λh=>?_
  have:eW cS c=false:=Gf.2 λi hi=>by
   cases e:cS (c.get i)with
   |false=>rfl
   |true=>exact absurd ⟨i,hi,e⟩ h
  rw[h2]at this;cases this
 exact xc h1 hi (OS (hb i hi).1 (hc i hi).1 (hb i hi).2.k (hc i hi).2.k (h3 i hi) he)
def x8 (b:B) (pre post:List B):Bool:=pre.any (λc=>mP b c)||post.any (λc=>mP b c&&!mP c b)
def ry:List B->List B->List B
 |_,[]=>[]
 |pre,b::post=>(if eW cS b||x8 b pre post then[] else[b])++ry (pre++[b]) post
theorem Df (l:List B) (b:B) (i:Nat):∀n,n<=l.length->(ib l b i n=true↔∃k c,k<n/\k≠i/\l[k]?=some c/\mw b c (decide (k<i))=true)
 |0,_=>by simp[ib]
 |n+1,hn=>by
  obtain⟨c,hc⟩:∃c,l[n]?=some c:=⟨_,List.getElem?_eq_getElem (by omega)⟩;rw[u0 hc,Bool.or_eq_true,Df l b i n (by omega),Bool.and_eq_true,bne_iff_ne];constructor
  ·rintro(⟨k,c',h1,h2⟩|⟨h1,h2⟩)
   ·exact⟨k,c',by omega,h2⟩
   ·exact⟨n,c,by omega,h1,hc,h2⟩
  ·rintro⟨k,c',h1,h2,h3,h4⟩;by_cases hk:k=n
   ·subst hk;rw[hc]at h3;cases h3;exact .inr ⟨h2,h4⟩
   ·exact .inl ⟨k,c',by omega,h2,h3,h4⟩
theorem Ry (pre post:List B) (b:B):ib (pre++b::post) b pre.length (pre++b::post).length=x8 b pre post:=by
 rw[Bool.eq_iff_iff,Df _ _ _ _ (Nat.le_refl _)];unfold x8;rw[Bool.or_eq_true,List.any_eq_true,List.any_eq_true];constructor
 ·rintro⟨k,c,h1,h2,h3,h4⟩;unfold mw at h4;by_cases hk:k<pre.length
  ·rw[List.getElem?_append_left hk]at h3;rw[Bool.and_eq_true]at h4;exact .inl ⟨c,List.mem_of_getElem? h3,h4.1⟩
  ·rw[List.getElem?_append_right (by omega)]at h3;obtain⟨j,hj⟩:∃j,k - pre.length=j+1:=⟨k - pre.length - 1,by omega⟩;rw[hj,List.getElem?_cons_succ]at h3;rw[decide_eq_false (by omega),Bool.false_or]at h4;exact .inr ⟨c,List.mem_of_getElem? h3,h4⟩
 ·rintro(⟨c,h1,h2⟩|⟨c,h1,h2⟩)
  ·obtain⟨k,hk,he⟩:=List.getElem_of_mem h1;refine⟨k,c,by simp;omega,by omega,by rw[List.getElem?_append_left hk,List.getElem?_eq_getElem hk,he],?_⟩;unfold mw;rw[h2,decide_eq_true hk];rfl
  ·obtain⟨k,hk,he⟩:=List.getElem_of_mem h1;refine⟨pre.length+(k+1),c,by simp;omega,by omega,?_,?_⟩
   ·rw[List.getElem?_append_right (by omega),show pre.length+(k+1) - pre.length=k+1 by omega,List.getElem?_cons_succ,List.getElem?_eq_getElem hk,he]
   ·unfold mw;rw[decide_eq_false (by omega),Bool.false_or];exact h2
theorem Gj:∀(post pre:List B),gj (pre++post) (pre++post).length=gj (pre++post) pre.length++ry pre post
 |[],pre=>by simp[ry]
 |b::post,pre=>by
  have h:=Gj post (pre++[b]);have hb:(pre++b::post)[pre.length]?=some b:=by rw[List.getElem?_append_right (Nat.le_refl _)];simp
  have hs:=tn hb;rw[Ry]at hs;rw[List.append_assoc,List.singleton_append,@List.length_append _ pre [b],List.length_singleton,hs]at h;rw[h,ry,List.append_assoc]
theorem Ii (l:List B):eB l=ry [] l:=by
 have:=Gj l [];simpa[eB,gj]using this
def ur (c:B):Bool:=!eW cS c
theorem Gk {b:B} (hb:b.fit) (h:eW cS b=false) (f:B->Bool):∀l:List B,(∀c ∈ l,c.fit)->(l.filter ur).any (λc=>mP b c&&f c)=l.any λc=>mP b c&&f c
 |[],_=>rfl
 |c::l,hl=>by
  have ih:=Gk hb h f l λc hc=>hl c (List.mem_cons_of_mem _ hc)
  rw[List.any_cons,List.filter_cons];cases hc:eW cS c with
  |false=>rw[if_pos (by unfold ur;rw[hc];rfl),List.any_cons,ih]
  |true=>rw[if_neg (by unfold ur;rw[hc];simp),ih,MS hb (hl c (List.mem_cons_self ..)) h hc];rfl
theorem Gl:∀(l pre:List B),(∀c ∈ pre,c.fit)->(∀c ∈ l,c.fit)->ry (pre.filter ur) (l.filter ur)=ry pre l
 |[],_,_,_=>rfl
 |b::post,pre,hp,hl=>by
  have hb:=hl b (List.mem_cons_self ..);have ih:=Gl post (pre++[b]) (λc hc=>(List.mem_append.1 hc).elim (hp c) λh=>by rw[List.mem_singleton.1 h];exact hb) λc hc=>hl c (List.mem_cons_of_mem _ hc)
  rw[List.filter_append]at ih;rw[ry,List.filter_cons];cases he:eW cS b with
  |true=>
   rw[if_neg (by unfold ur;rw[he];simp),Bool.true_or,if_pos rfl,List.nil_append,<-ih];congr 1;rw[List.filter_cons,if_neg (by unfold ur;rw[he];simp),List.filter_nil,List.append_nil]
  |false=>
   have h1:=Gk hb he (λ_=>true) pre hp;have h2:=Gk hb he (λc=>!mP c b) post λc hc=>hl c (List.mem_cons_of_mem _ hc)
   simp only[Bool.and_true]at h1;rw[if_pos (by unfold ur;rw[he];rfl),ry,he];have:x8 b (pre.filter ur) (post.filter ur)=x8 b pre post:=by unfold x8;rw[h1,h2]
   rw[this];congr 1;rw[<-ih];congr 1;rw[List.filter_cons,if_pos (by unfold ur;rw[he];rfl),List.filter_nil]
theorem Rz {l:List B} (h:∀b ∈ l,b.fit):eB (l.filter ur)=eB l:=by
 rw[Ii,Ii];exact Gl l [] (λc hc=>by cases hc) h
def XE (x y:B):B:=⟨sg x.s0 y.s0,sg x.s1 y.s1,sg x.s2 y.s2,sg x.s3 y.s3⟩
def B.eo (b:B):Prop:=∀i,i<4->(b.get i).eo/\dA (b.get i).i
theorem B.fit.eo {b:B} (h:b.fit):b.eo:=λi hi=>⟨(h i hi).1,(h i hi).2.k⟩
theorem xE {x y:B} (hx:x.eo) (hy:y.eo):XE x y=dW x y/\(dW x y).eo:=by
 have h0:=uq (hx 0 (by omega)).1 (hy 0 (by omega)).1 (hx 0 (by omega)).2 (hy 0 (by omega)).2;have h1:=uq (hx 1 (by omega)).1 (hy 1 (by omega)).1 (hx 1 (by omega)).2 (hy 1 (by omega)).2;have h2:=uq (hx 2 (by omega)).1 (hy 2 (by omega)).1 (hx 2 (by omega)).2 (hy 2 (by omega)).2;have h3:=uq (hx 3 (by omega)).1 (hy 3 (by omega)).1 (hx 3 (by omega)).2 (hy 3 (by omega)).2;refine⟨?_,λi hi=>?_⟩
 ·show B.mk _ _ _ _=B.mk _ _ _ _
  rw[show sg x.s0 y.s0=gL x.s0 y.s0 from h0.1,show sg x.s1 y.s1=gL x.s1 y.s1 from h1.1,show sg x.s2 y.s2=gL x.s2 y.s2 from h2.1,show sg x.s3 y.s3=gL x.s3 y.s3 from h3.1]
 ·match i,hi with
  |0,_=>exact h0.2
  |1,_=>exact h1.2
  |2,_=>exact h2.2
  |3,_=>exact h3.2
def oP (a b:List B):List B:=a.flatMap λx=>b.map (dW x)
theorem RD (a b:List B):gI a b=(oP a b).filter ur:=by
 unfold gI oP;rw[List.filter_flatMap];rfl
theorem s7:qx.eo/\dA qx.i:=by
 refine⟨⟨⟨λp hp=>?_,List.pairwise_singleton _ _⟩,List.Pairwise.nil,λt ht=>by cases ht⟩,λp hp=>?_⟩
 ·simp[qx]at hp;subst hp;simp
 ·simp[qx]at hp;subst hp;unfold dE;omega
theorem Gm {b:B} {s:S} (hb:b.eo) (hs:s.eo/\dA s.i) (i:Nat):(b.put i s).eo:=by
 intro j hj;unfold B.put;have h0:=hb 0 (by omega);have h1:=hb 1 (by omega);have h2:=hb 2 (by omega);have h3:=hb 3 (by omega);split<;>(match j,hj with
  |0,_=>first | exact hs | exact h0
  |1,_=>first | exact hs | exact h1
  |2,_=>first | exact hs | exact h2
  |3,_=>first | exact hs | exact h3)
theorem rA:bL.eo:=λi hi=>match i,hi with
 |0,_=>s7
 |1,_=>s7
 |2,_=>s7
 |3,_=>s7
theorem Bq {both:Bool} {l m:List B} (hl:∀b ∈ l,b.eo) (hm:∀b ∈ m,b.eo):∀b ∈ ij both l m,b.eo:=by
 intro b hb;unfold ij at hb;split at hb
 ·obtain⟨x,hx,y,hy,rfl⟩:=xm (nS hb);exact(xE (hl x hx) (hm y hy)).2
 ·exact(List.mem_append.1 (nS hb)).elim (hl b) (hm b)
theorem xF {a:Int} {s:S} {sub:List Xp} (h:iF (.mk 1 a s sub)=true):dp s=true:=by
 unfold iF at h;simp only[if_true,Bool.and_eq_true]at h;exact h.2.2.2.1
theorem Br {x:Xp} (hx:x.ok):∀neg,iG x=true->∀b ∈ (bX neg x).1,b.eo:=by
 induction hx with
 |@mk k a s sub hk ha hs hl eK ih=>
  intro neg dt;obtain⟨lv,da⟩:=rF dt;unfold bX;by_cases k1:k=1
  ·subst k1;simp only[if_true];have Gn:=(uY hs.ri).1 (xF da);intro b hb;have:=nS hb;simp only[List.mem_singleton]at this;subst this;refine Gm rA ?_ _;cases neg
   ·exact⟨Gn,hs.ri⟩
   ·exact⟨(qn Gn hs.ri).1,Bn hs.ri⟩
  ·simp only[if_neg k1];by_cases k4:k=4
   ·subst k4;simp only[if_true];obtain⟨x,rfl⟩:=xZ da;unfold qj;exact ih x (by simp) (!neg) (lv x (by simp))
   ·simp only[if_neg k4];generalize(decide (k=2) != neg)=both;have key:∀(r:List Xp) (l:List B),(∀x ∈ r,x ∈ sub)->(∀b ∈ l,b.eo)->∀b ∈ (fh neg both r l).1,b.eo:=by
     intro r
     induction r with
     |nil=>
      intro l _ h1;unfold fh;exact h1
     |cons x r UH=>
      intro l hr h1;unfold fh;split
      ·exact λb hb=>by simp at hb
      ·split
       ·exact λb hb=>by simp at hb
       ·exact UH _ (λy hy=>hr y (by simp[hy])) (Bq h1 (ih x (hr x (by simp)) neg (lv x (hr x (by simp)))))
    exact key sub _ (λx hx=>hx) (λb hb=>by
     split at hb
     ·simp only[List.mem_singleton]at hb;subst hb;exact rA
     ·simp at hb)
theorem qo {b:B} {n m:Nat} (h1:b.eo) (h2:b.lim n m) (hn:n<=1000) (hm:m<=400):b.fit:=λi hi=>⟨(h1 i hi).1,(h2 i hi).mono hn hm⟩
def Bs (both:Bool) (l m:List B):List B:=eB (if both then oP l m else l++m)
theorem OT {both:Bool} {l m:List B} {q1 k1 q2 k2:Nat} (fl:∀b ∈ l,b.eo) (fm:∀b ∈ m,b.eo) (hL:∀b ∈ l,b.lim q1 k1) (hM:∀b ∈ m,b.lim q2 k2) (hq:q1+q2+3<=1000) (hk:k1+k2<=400):Bs both l m=ij both l m:=by
 unfold Bs ij;cases both with
 |false=>rfl
 |true=>
  simp only[if_true];rw[RD];refine(Rz λb hb=>?_).symm;obtain⟨x,hx,hb⟩:=List.mem_flatMap.1 hb;obtain⟨y,hy,rfl⟩:=List.mem_map.1 hb;exact qo (xE (fl x hx) (fm y hy)).2 (u3 (hL x hx) (hM y hy)) hq hk
mutual
def dep:Xp->Nat
 |.mk _ _ _ sub=>oQ sub+1
def oQ:List Xp->Nat
 |[]=>0
 |x::l=>max (dep x) (oQ l)
end
theorem Gp:∀l:List Xp,l.length<=ec l
 |[]=>by simp
 |x::l=>by have:=Gp l;have:=x4 x;rw[iU,List.length_cons];omega
mutual
theorem Ij:∀(x:Xp) (left:Nat) (p:Int),(fu left x p).2.2=true↔p+hC x<=40/\dep x<=left
 |.mk k a s sub,left,p=>by
  unfold fu hC dep;split
  ·rename_i h;simp;omega
  ·rename_i h;rw[Gq sub (left - 1) (p+1) 0 (by omega)];omega
theorem Gq:∀(l:List Xp) (left:Nat) (p d:Int),p<=40->((ig left l p d).2.2=true↔p+ec l<=40/\oQ l<=left)
 |[],left,p,d,hp=>by unfold ig ec oQ;simp;omega
 |x::l,left,p,d,hp=>by
  have hx:=Ij x left p;unfold ig oQ;rw[iU];split
  ·rename_i cg;have h1:=vg x left p cg;have h2:=hx.1 cg;rw[Gq l left _ _ (by rw[h1];omega),h1];omega
  ·rename_i cg;have:¬(p+hC x<=40/\dep x<=left):=λh=>cg (hx.2 h)
   simp only[Bool.false_eq_true,false_iff];omega
end
mutual
theorem count_eq:∀(x:Xp) (d:Int),x.count d<100->x.count d=hC x
 |.mk k a s sub,d,h=>by
  unfold Xp.count hC at *;split at h
  ·omega
  ·rename_i hd;rw[if_neg hd];split at h
   ·omega
   ·rename_i h1;rw[if_neg h1];rw[Dg sub (d+1) 1 (by omega) h];omega
theorem Dg:∀(l:List Xp) (d n:Int),0<=n->Xp.counts d l n<100->Xp.counts d l n=n+ec l
 |[],d,n,_,h=>by unfold Xp.counts ec;simp
 |x::l,d,n,mO,h=>by
  have hx:=count_eq x d;unfold Xp.counts at *;rw[iU];split at h
  ·rename_i hn;rw[if_pos hn];have h2:=Dg l d (n+x.count d) (by omega) h;rw[h2]at h ⊢;rw[hx (by omega)];omega
  ·omega
end
mutual
theorem count_le:∀(x:Xp) (d:Int),d+dep x<=21->x.count d<=hC x
 |.mk k a s sub,d,h=>by
  unfold dep at h;unfold Xp.count hC;rw[if_neg (by omega)];have:=Dh sub (d+1) 1 (by omega);split<;>omega
theorem Dh:∀(l:List Xp) (d n:Int),d+oQ l<=21->Xp.counts d l n<=n+ec l
 |[],d,n,h=>by unfold Xp.counts ec;simp
 |x::l,d,n,h=>by
  unfold oQ at h;unfold Xp.counts;rw[iU];have h1:=count_le x d (by omega);have h2:=Dh l d (n+x.count d) (by omega);split<;>omega
end
mutual
theorem Ik:∀(x:Xp) (d:Int),d+dep x<=21->x.deep d<=dep x
 |.mk k a s sub,d,h=>by
  unfold dep at h;unfold Xp.deep dep;rw[if_neg (by omega)];have:=Gr sub (d+1) 100 0 (by omega);split<;>omega
theorem Gr:∀(l:List Xp) (d:Int) (k:Nat) (n:Int),d+oQ l<=21->Xp.fZ d k l n<=max n (oQ l)
 |[],d,k,n,h=>by unfold Xp.fZ oQ;omega
 |x::l,d,0,n,h=>by unfold Xp.fZ;omega
 |x::l,d,k+1,n,h=>by
  unfold oQ at h ⊢;unfold Xp.fZ;have h1:=Ik x d (by omega);have h3:(if x.deep d > n then x.deep d else n)=max n (x.deep d):=by split<;>omega
  rw[h3];have h2:=Gr l d k (max n (x.deep d)) (by omega);omega
end
mutual
theorem MT:∀(x:Xp) (d:Int),hC x<=100->x.deep d<20->(dep x:Int)<=x.deep d
 |.mk k a s sub,d,hc,h=>by
  unfold hC at hc;unfold Xp.deep dep at *;split at h
  ·omega
  ·rename_i hd;rw[if_neg hd];split at h
   ·omega
   ·rename_i h1;rw[if_neg h1];have:=Il sub (d+1) 100 0 (by have:=Gp sub;omega) (by omega) (by omega);omega
theorem Il:∀(l:List Xp) (d:Int) (k:Nat) (n:Int),l.length<=k->ec l<=100->Xp.fZ d k l n<20->n<=Xp.fZ d k l n/\(oQ l:Int)<=max (Xp.fZ d k l n) 0
 |[],d,k,n,hk,hc,h=>by unfold Xp.fZ oQ;omega
 |x::l,d,0,n,hk,hc,h=>by simp at hk
 |x::l,d,k+1,n,hk,hc,h=>by
  rw[iU]at hc;have hx:=MT x d (by omega);unfold oQ;unfold Xp.fZ at h ⊢;have h2:=Il l d k (if x.deep d > n then x.deep d else n) (by simpa using hk) (by omega) h;have h3:(if x.deep d > n then x.deep d else n)=max n (x.deep d):=by split<;>omega
  rw[h3]at h h2 ⊢;omega
end
def vy (x:Xp):Bool:=decide (x.count 0<=40)&&decide (x.deep 0<=8)
theorem RE (x:Xp):vy x=decide (0<(pM x).1):=by
 have h1:vy x=(fu 8 x 0).2.2:=by
  rw[Bool.eq_iff_iff,Ij];unfold vy;rw[Bool.and_eq_true,decide_eq_true_eq,decide_eq_true_eq];constructor
  ·rintro⟨h1,h2⟩;have e:=count_eq x 0 (by omega);have:=MT x 0 (by omega) (by omega);omega
  ·rintro⟨h1,h2⟩;have:=count_le x 0 (by omega);have:=Ik x 0 (by omega);omega
 rw[h1];unfold pM;cases h:(fu 8 x 0).2.2 with
 |false=>simp
 |true=>
  have h2:=vg x 8 0 h;have:=x4 x;rw[if_pos rfl,h2];exact(decide_eq_true (by show(0:Int)<0+hC x;omega)).symm
end ao
namespace ao
open Go ay
attribute [local simp] aS Option.map_some a7 step cw bp az M.aG M.run M.ok M.fresh M.write M.look M.lift bT ao.set ev ao.get an bin cU db mk params bh load bB di ep dQ dn dB idx len valid eu bound store bl fV un eqs ly bn bH M.bN dw cL dC c9 meets dF dR callee bZ cE fz flat ew eI eZ Option.bind_some cz M.bind
theorem Xp.Ko (k a:Int) (s:S) (sub:List Xp):(Xp.mk k a s sub).cs=[.nI k,.nI a,.bI s.a,.iv (.sl 2 (s.i.map bM)),.bI s.c,.iv (.sl 1 (s.s.map st1)),.iv (.sl 7 (sub.map Xp.enc))]:=by
 simp[Xp.cs,Xp.enc,Xp.cJ,S.enc]
section
variable {prog:Nat->Option aA}
set_option maxHeartbeats 4000000 in
theorem Vw (Im:prog 41=some Ld) (u7:prog 105=some Bx) (u9:prog 106=some By) (h:prog 168=some DS) {x:Xp} (hx:x.ok):a8 prog 168 [x.av] (.bI (iG x)):=by
 induction hx with
 |@mk k a s sub hk ha hs hl _ ih=>
  have dt:iG (Xp.mk k a s sub)=(sub.all iG&&iF (Xp.mk k a s sub)):=by conv=>lhs;unfold iG;rw[xj]
  have da:iF (Xp.mk k a s sub)=if k=1 then decide (0<=a)&&(decide (a<4)&&(decide (sub.length=0)&&(dp s&&fF s))) else if k=2\/k=3 then jo a s else if k=4 then jo a s&&decide (sub.length=1) else false:=rfl
  have fI:=Xp.Ko k a s sub;obtain⟨K1,ct⟩:=CZ u7 s hs;obtain⟨K2,cZ⟩:=CY u9 s;obtain⟨K3,fP⟩:=QX Im s xh hs.li hs.ls;simp only[S.av]at ct cZ fP;generalize hX:Xp.mk k a s sub=X at dt da fI;have eK:X.sub=sub:=by rw[<-hX];rfl
  refine a8.of h rfl rfl (au (by simp[Xp.av,Xp.cI];rfl) ?_);refine af (Wp.mono (Q:=λe st=>(e = .norm/\iF X=true/\∃c v nx,c≠3/\1000<nx/\st=⟨[(1,.ref 1000 0 0 0),(c,v)],[(1000,.cells X.cs)],nx⟩)\/(e = .ret/\iF X=false/\dI DS.res (.bI false) .ret st)) (af ?_) ?_)
  ·refine aD (s':=⟨[(1,.ref 1000 0 0 0),(5,.nI k)],[(1000,.cells X.cs)],1256⟩) (by simp[fI]) ?_;refine aq (au (by simp;rfl) ?_);refine ag rfl ?_;cases k1:k==1 with
   |true=>
    have Bt:k=1:=by simpa using k1
    rw[if_pos Bt]at da;refine cq (K:=max K1 K2) (s':=⟨[(1,.ref 1000 0 0 0),(33,.bI (!iF X))],[(1000,.cells X.cs)],3048⟩) (λn hn=>by
     have e1:=ct n (by omega);have e2:=cZ n (by omega);generalize aZ prog n=g at e1 e2;rw[da];have q1:decide (a<0)=!decide (0<=a):=by by_cases hh:0<=a<;>simp[hh]<;>omega
     have q2:decide (3<a)=!decide (a<4):=by by_cases hh:a<4<;>simp[hh]<;>omega
     cases c1:decide (0<=a)with
     |false=>simp[fI,q1,c1]
     |true=>
      cases c2:decide (a<4)with
      |false=>simp[fI,q1,q2,c1,c2]
      |true=>
       cases sub with
       |cons y r=>simp[fI,q1,q2,c1,c2]
       |nil=>cases c4:dp s<;>rw[c4]at e1<;>simp[fI,q1,q2,c1,c2,e1,e2]) ?_
    refine ag rfl ?_;cases ho:iF X with
    |true=>exact ak (.inl ⟨rfl,rfl,_,_,_,by decide,by omega,rfl⟩)
    |false=>
     refine aj ?_;exact ax (.inr ⟨rfl,rfl,rfl⟩)
   |false=>
    have Bt:¬k=1:=by simpa using k1
    rw[if_neg Bt]at da;refine af (Wp.mono (Q:=λe st=>e = .norm/\∃fr nx,1000<nx/\ao.get fr 1=some (.ref 1000 0 0 0)/\ao.get fr 34=some (.bI (k==2||(k==3||k==4)))/\st=⟨fr,[(1000,.cells X.cs)],nx⟩) (af ?_) ?_)
    ·refine aD (by simp;rfl) ?_;refine ag rfl ?_;cases k2:k==2 with
     |true=>exact ak ⟨rfl,_,_,by omega,rfl,rfl,rfl⟩
     |false=>
      refine au (by simp;rfl) ?_;refine ag rfl ?_;cases k3:k==3 with
      |true=>exact ak ⟨rfl,_,_,by omega,rfl,rfl,rfl⟩
      |false=>
       refine aD (by simp;rfl) ?_;exact⟨rfl,_,_,by omega,rfl,rfl,rfl⟩
    ·rintro e st ⟨rfl,fr,nx,xG,g1,g34,rfl⟩;refine ag (t:=(k==2||(k==3||k==4))) (by simp[ev,g34]) ?_;cases kk:(k==2||(k==3||k==4))with
     |false=>
      simp only[Bool.false_eq_true,if_false];have:iF X=false:=by
       rw[da];simp only[Bool.or_eq_false_iff,beq_eq_false_iff_ne]at kk;rw[if_neg (by omega),if_neg (by omega)]
      refine au (by simp[ao.bU];rfl) ?_;exact ax (.inr ⟨rfl,this,rfl⟩)
     |true=>
      simp only[if_true];refine af ?_;have hv:iF X=(jo a s&&(!(k==4)||decide (sub.length=1))):=by
       rw[da];simp only[Bool.or_eq_true,beq_iff_eq]at kk;by_cases k4:k=4
       ·subst k4;simp
       ·have:k=2\/k=3:=by omega
        rw[if_pos this];simp[k4]
      refine aI (K:=K3) (s':=⟨[(1,.ref 1000 0 0 0),(58,.bI (!iF X))],[(1000,.cells X.cs)],nx+1344⟩) (λn hn=>by
       have e1:=fP n hn;simp only[xh,List.map_nil]at e1;generalize aZ prog n=g at e1;rw[hv];unfold jo;have Io:((sub.length:Int)==1)=decide (sub.length=1):=by by_cases hh:sub.length=1<;>simp[hh];omega
       have tB:((sub.length:Int) != 1)=!decide (sub.length=1):=by rw[<-Io];rfl
       have d1:(a != 0)=!(a==0):=rfl;cases c1:a==0 with
       |false=>simp[ao.bU,fI,g1,d1,c1]
       |true=>
        cases c2:kb s xh<;>simp only[xh]at c2<;>rw[c2]at e1
        ·simp[ao.bU,fI,g1,d1,c1,e1,xh,c2]
        ·cases c3:k==4<;>simp[ao.bU,fI,g1,d1,c1,e1,xh,c2,c3,tB]) ?_
      refine ag rfl ?_;cases ho:iF X with
      |true=>exact ak (.inl ⟨rfl,rfl,_,_,_,by decide,by omega,rfl⟩)
      |false=>
       refine aj ?_;exact ax (.inr ⟨rfl,rfl,rfl⟩)
  ·rintro e st (⟨rfl,ho,c,v,nx,Eu,xG,rfl⟩|⟨rfl,ho,hf⟩)
   ·rw[ho,Bool.and_true]at dt;refine af (au (by simp[Eu];rfl) ?_);refine aq (bQ sub.length (λi=>⟨[(1,.ref 1000 0 0 0),(3,.nI i)],[(1000,.cells X.cs)],nx+64⟩)
     (λi=>(sub.take i).all iG=true) (by simp[an,get]) (by simp) ?_ ?_)
    ·intro i hi hg;have hx:sub[i]?=some sub[i]:=List.getElem?_eq_getElem hi;obtain⟨K,hK⟩:=ih sub[i] (List.getElem_mem _);refine af (af ?_);refine aI (K:=0) (λn' _=>by simp[X.iR,eK,hi];rfl) ?_;refine ag (t:=true) rfl (ak (af (aq (af ?_))));refine aI (K:=K) (λn' fD=>by
      have dm:=hK n' fD;simp only[Xp.av]at dm;simp[X.iR,eK,hx,Xp.zu,Xp.mq,Xp.kR,Xp.bR,Xp.c8,dm];rfl) ?_
     cases Mf:iG sub[i]with
     |false=>
      refine ag (t:=true) rfl (aj ?_);refine ax ?_;rw[dt,all_false hx Mf];rfl
     |true=>
      refine ag (t:=false) rfl (ak ?_);refine aD (by simp[bw hi hl];rfl) ?_;refine⟨by simp[again,an,get,cC,zt (show 1000<nx+64 by omega),show 1000<nx+64 by omega,bG,Xp.cT],?_⟩;rw[gY hx,hg,Mf];rfl
    ·intro hg;refine af (af ?_);refine aI (K:=0) (λn' _=>by simp[X.iR,eK];rfl) ?_;refine ag (t:=false) rfl (aO ?_);simp only[Ex.then,Ex.inBlock,if_true];refine aj ?_;refine ax ?_;rw[List.take_length]at hg;rw[dt,hg];rfl
   ·rw[ho,Bool.and_false]at dt;rw[dt];exact hf
set_option maxHeartbeats 1000000 in
theorem Vx (qv:prog 169=some vU) (qw:prog 170=some vV) (h:prog 167=some IZ) {x:Xp} (hx:x.ok):a8 prog 167 [x.av] (.bI (vy x)):=by
 obtain⟨K1,ct⟩:=HI qv hx 0 (by omega) (by omega);obtain⟨K2,cZ⟩:=Me qw hx 0 (by omega) (by omega);refine a8.of h rfl rfl (au (by simp[Xp.av,Xp.cI];rfl) ?_);refine cq (K:=max K1 K2) (s':=⟨[(2,.bI (vy x))],[(1000,.cells x.cs)],1704⟩) (λn hn=>by
  have e1:=ct n (by omega);have e2:=cZ n (by omega);simp only[Xp.av]at e1 e2;generalize aZ prog n=g at e1 e2;unfold vy;cases c1:decide (x.count 0<=40)<;>simp[Xp.B3,Xp.bR,Xp.c8,e1,e2,c1]) ?_
 exact ax rfl
theorem OU (Im:prog 41=some Ld) (u7:prog 105=some Bx) (u9:prog 106=some By) (Kp:prog 168=some DS) (qv:prog 169=some vU) (qw:prog 170=some vV) (Kq:prog 167=some IZ) (h:prog 166=some Nj) {x:Xp} (hx:x.ok):a8 prog 166 [x.av] (.bI (mA x)):=by
 obtain⟨K1,ct⟩:=Vx qv qw Kq hx;obtain⟨K2,cZ⟩:=Vw Im u7 u9 Kp hx;refine a8.of h rfl rfl (au (by simp[Xp.av,Xp.cI];rfl) ?_);refine cq (K:=max K1 K2) (s':=⟨[(2,.bI (mA x))],[(1000,.cells x.cs)],1576⟩) (λn hn=>by
  have e1:=ct n (by omega);have e2:=cZ n (by omega);simp only[Xp.av]at e1 e2;generalize aZ prog n=g at e1 e2;unfold mA;rw[<-RE];cases c1:vy x<;>rw[c1]at e1<;>simp[Xp.B3,Xp.bR,Xp.c8,e1,e2]) ?_
 exact ax rfl
end
def nb (_x y:B) (cs:List AV):Hp:=[(1000,.cells cs),(1064,.cells y.cs),(1130,.buf 0 2 []),(1132,.buf 0 1 []),(1134,.buf 0 2 []),(1136,.buf 0 1 []),(1138,.buf 0 2 []),(1140,.buf 0 1 []),(1142,.buf 0 2 []),(1144,.buf 0 1 []),(1128,.cells (fR 1128))]
section
variable {prog:Nat->Option aA}
set_option maxHeartbeats 8000000 in
theorem Vy (tZ:prog 49=some DK) (Cd:prog 282=some BC) (Kr:prog 281=some DU) (h:prog 279=some I0) (x y:B) (hx:x.fit) (hy:y.fit):a8 prog 279 [x.av,y.av] (dW x y).av:=by
 refine a8.of h rfl rfl (au (s':=⟨[(2,.ref 1000 0 0 0),(3,.ref 1064 0 0 0),(4,.ref 1128 0 0 0)],nb x y x.cs,1192⟩) (by simp[B.av,B.cI,nb,fR]) ?_);refine af (aj ?_);refine aq ?_;refine bQ 4 (λi=>⟨[(2,.ref 1000 0 0 0),(3,.ref 1064 0 0 0),(4,.ref 1128 0 0 0),(5,.nI i)],nb x y ((dW x y).cs.take (i*4)++x.cs.drop (i*4)),1256⟩) (λ_=>True) (by simp[an,get]) trivial ?_ ?_
 ·intro i hi _;have mo:(i:Int)<4:=by omega
  obtain⟨K,hK⟩:=XD tZ Cd Kr (x.get i) (y.get i) (hx i hi).1 (hy i hi).1 (hx i hi).2 (hy i hi).2;refine af (au (by simp[mo,hi];rfl) ?_);refine ag rfl (ak (af (aq ?_)));refine aI (K:=K) (s':=⟨[(2,.ref 1000 0 0 0),(3,.ref 1064 0 0 0),(4,.ref 1128 0 0 0),(5,.nI i)],nb x y ((dW x y).cs.take ((i+1)*4)++x.cs.drop ((i+1)*4)),2024⟩) (λn hn=>by
   have e1:=hK n (by omega);generalize aZ prog n=g at e1;have P8:(((dW x y).cs.take (i*4)++x.cs.drop (i*4)).drop (i*4)).take 4=[.iv (.bool (x.get i).a),.iv (.sl 2 ((x.get i).i.map bM)),.iv (.bool (x.get i).c),.iv (.sl 1 ((x.get i).s.map st1))]:=by
    match i,hi with
    |0,_=>rfl
    |1,_=>rfl
    |2,_=>rfl
    |3,_=>rfl
   have iJ:=B.iY y hi;have hz:bl ((dW x y).cs.take (i*4)++x.cs.drop (i*4)) (i*4) [.iv (.bool (gL (x.get i) (y.get i)).a),.iv (.sl 2 ((gL (x.get i) (y.get i)).i.map bM)),.iv (.bool (gL (x.get i) (y.get i)).c),.iv (.sl 1 ((gL (x.get i) (y.get i)).s.map st1))] =
     (dW x y).cs.take ((i+1)*4)++x.cs.drop ((i+1)*4):=by
    match i,hi with
    |0,_=>rfl
    |1,_=>rfl
    |2,_=>rfl
    |3,_=>rfl
   have wg:((dW x y).cs.take (i*4)++x.cs.drop (i*4)).length=16:=by
    match i,hi with
    |0,_=>rfl
    |1,_=>rfl
    |2,_=>rfl
    |3,_=>rfl
   simp only[S.av]at e1;have hm:i*4+4<=16:=by omega
   generalize(dW x y).cs.take (i*4)++x.cs.drop (i*4)=zs at hz wg P8;simp[-cE, -fz,nb,mo,hi,P8,iJ,B.bR,cE,fz,e1,wg,hm];simpa[bl]using hz) ?_
  simp only[Ex.then,Ex.inBlock];refine aD (by simp[gS hi];rfl) ?_;refine⟨?_,trivial⟩
  match i,hi with
  |0,_=>simp[again,an,get,cC,de,du,bG,nb,B.cT,fR,B.cs,B.enc,S.enc]
  |1,_=>simp[again,an,get,cC,de,du,bG,nb,B.cT,fR,B.cs,B.enc,S.enc]
  |2,_=>simp[again,an,get,cC,de,du,bG,nb,B.cT,fR,B.cs,B.enc,S.enc]
  |3,_=>simp[again,an,get,cC,de,du,bG,nb,B.cT,fR,B.cs,B.enc,S.enc]
 ·intro _;refine af (aj ?_);refine ag rfl (aO ?_);simp only[Ex.then,Ex.inBlock,if_true];refine af ?_;have vL:(dW x y).cs.take (4*4)++x.cs.drop (4*4)=(dW x y).cs:=rfl;rw[vL];have YY:(fR 1128).length=16:=rfl;refine aI (K:=0) (s':=⟨[(4,.ref 1128 0 0 0)],[(1000,.cells (dW x y).cs),(1064,.cells y.cs),(1130,.buf 0 2 []),(1132,.buf 0 1 []),(1134,.buf 0 2 []),(1136,.buf 0 1 []),(1138,.buf 0 2 []),(1140,.buf 0 1 []),(1142,.buf 0 2 []),(1144,.buf 0 1 []),(1128,.cells (dW x y).cs)],1512⟩) (λn _=>by
   have hp:bl (fR 1128) 0 (dW x y).cs=(dW x y).cs:=B.pk _ _ YY;simp[-cE, -fz, -bl,nb,B.hZ,B.bR,B.cI,hp,YY]) ?_
  refine ax ?_;simp[dI,I0,ck,dJ,eE,load,bB,mk,ev,get,M.look,M.bind,M.run,az,M.ok,M.lift,shut,im,bZ,B.hZ,B.bR,B.c8,B.av]
end
structure zL (prog:Nat->Option aA):Prop extends MP prog where
 Im:prog 41=some Ld
 Vz:prog 164=some vW
 VA:prog 165=some iC
 VB:prog 166=some Nj
 Kq:prog 167=some IZ
 Kp:prog 168=some DS
 qv:prog 169=some vU
 qw:prog 170=some vV
 VC:prog 279=some I0
 Kr:prog 281=some DU
 Cd:prog 282=some BC
 VD:prog 283=some DV
 OV:a8 prog 280 [] bL.av
theorem RF (b:B) (i:Nat) (s t:S):(b.put i s).put i t=b.put i t:=by
 match i with
 |0=>rfl
 |1=>rfl
 |2=>rfl
 |_+3=>rfl
theorem OW {a:Int} {s:S} {sub:List Xp} (hs:s.ok) (h:iF (.mk 1 a s sub)=true) (neg:Bool) (i:Nat):(bL.put i (if neg then eF s else s)).fit:=by
 obtain⟨-, -,sw⟩:=sc h;have Gn:=(uY hs.ri).1 (xF h);refine qo (Gm rA ?_ i) (nh hs sw neg i) (by omega) (by omega);cases neg
 ·exact⟨Gn,hs.ri⟩
 ·exact⟨(qn Gn hs.ri).1,Bn hs.ri⟩
def xH (cs:List AV) (b:List AV):Hp:=[(1000,.cells cs),(1064,.buf 0 16 []),(1514,.buf 0 2 []),(1516,.buf 0 1 []),(1518,.buf 0 2 []),(1520,.buf 0 1 []),(1522,.buf 0 2 []),(1524,.buf 0 1 []),(1526,.buf 0 2 []),(1528,.buf 0 1 []),(1512,.cells b)]
section
variable {prog:Nat->Option aA}
def Ip:IC:=match iC.body with
 |.seq _ (.seq (.seq _ (.block _ (.seq _ (.cond _ a _)))) _)=>a
 |_=>.skip
set_option maxHeartbeats 8000000 in
theorem RG (L:zL prog) {a:Int} {s:S} {sub:List Xp} (hs:s.ok) (h:iF (.mk 1 a s sub)=true) (neg:Bool) (fr:Fr) (eJ:fr=[(1,.bI neg),(2,.ref 1000 0 0 0),(16,.nI 1),(17,.bI true)]) :
  Wp prog Ip ⟨fr,[(1000,.cells (Xp.mk 1 a s sub).cs),(1064,.buf 0 16 [])],1448⟩ (λe st=>e = .ret/\dI iC.res (.bD [aT (eB [bL.put a.toNat (if neg then eF s else s)]),.bI true]) .ret st):=by
 subst eJ;obtain⟨h0,h4,sw⟩:=sc h;obtain⟨i,rfl⟩:∃i:Nat,a=i:=⟨a.toNat,by omega⟩;have hi:i<4:=by omega
 have mo:(i:Int)<4:=by omega
 have hm:i*4+4<=16:=by omega
 have eR:=OW hs h neg i;obtain⟨K1,ct⟩:=L.OV;have fI:=Xp.Ko 1 i s sub;have Gn:=(uY hs.ri).1 (xF h);have hl:=Qe hs sw;obtain⟨K2,cZ⟩:=XC L.VD s Gn hs.ri (by have:=hl.i;omega) (by have:=hl.s;omega);obtain⟨K3,fP⟩:=Bm L.toMP [bL.put i (if neg then eF s else s)] (by simp) (λb hb=>by rw[List.mem_singleton.1 hb];exact eR);simp only[Int.toNat_natCast];generalize(Xp.mk 1 i s sub).cs=cs at fI;simp only[B.av]at ct;simp only[S.av]at cZ;have Qu:=B.Fp bL hi s;have gD:=B.bR bL;have abM:=B.hZ bL;have vz:=B.c8 bL;unfold Ip iC
 refine cq (K:=K1) (s':=⟨[(1,.bI neg),(2,.ref 1000 0 0 0),(6,.ref 1512 0 0 0)],xH cs bL.cs,1640⟩) (λn hn=>by
  have e1:=ct n (by omega);generalize aZ prog n=g at e1;have YZ:=B.cI bL;generalize bL.cs=ac at e1 gD YZ;simp[xH,e1,gD,YZ]) ?_
 refine au (s':=⟨[(1,.bI neg),(2,.ref 1000 0 0 0),(6,.ref 1512 0 0 0)],xH cs (bL.put i s).cs,2024⟩) (by
  generalize bL.cs=ac at Qu gD;generalize(bL.put i s).cs=bc at Qu;simp only[bl]at Qu;simp[-cE, -fz, -bl,xH,fI,mo,hm,gD];simpa[bl]using Qu) ?_
 cases neg with
 |false=>
  simp only[Bool.false_eq_true,if_false]at fP ⊢;refine af (aj ?_);refine ag rfl (ak (af ?_));have VE:=B.hZ (bL.put i s);have VF:=B.sM (bL.put i s);have VG:=B.bR (bL.put i s);simp only[aT,List.map_cons,List.map_nil]at fP;refine aI (K:=K3) (λn hn=>by
   have e1:=fP n (by omega);generalize aZ prog n=g at e1;simp[-cE, -fz,xH,bO,VE,VG,VF,e1,xW];rfl) ?_
  exact ax ⟨rfl,rfl⟩
 |true=>
  simp only[if_true]at fP ⊢;refine af (aj ?_);refine ag rfl ?_;have MU:=B.Fp (bL.put i s) hi (eF s);rw[RF]at MU;have VH:=B.bR (bL.put i s);refine aI (K:=K2) (s':=⟨[(6,.ref 1512 0 0 0)],xH cs (bL.put i (eF s)).cs,2536⟩) (λn hn=>by
   have e1:=cZ n (by omega);generalize aZ prog n=g at e1;generalize(bL.put i s).cs=ac at MU VH;generalize(bL.put i (eF s)).cs=bc at MU;simp only[bl]at MU;simp[-cE, -fz, -bl,xH,fI,mo,hm,VH,cE,fz,e1];simpa[bl]using MU) ?_
  simp only[Ex.then];refine af ?_;have VE:=B.hZ (bL.put i (eF s));have VF:=B.sM (bL.put i (eF s));have VG:=B.bR (bL.put i (eF s));simp only[aT,List.map_cons,List.map_nil]at fP;refine aI (K:=K3) (λn hn=>by
   have e1:=fP n (by omega);generalize aZ prog n=g at e1;simp[-cE, -fz,xH,bO,VE,VG,VF,e1,xW];rfl) ?_
  exact ax ⟨rfl,rfl⟩
end
def x9:IC:=match iC.body with
 |.seq _ (.seq _ (.seq _ (.seq _ (.seq _ x))))=>x
 |_=>.skip
def lN (p:List B×Int):AV:=.bD [aT p.1,.iv (.bool (p.2==0))]
def YU (y:AV) (l:List B):Prop:=(y = .own 1576 0 0 0/\l=[])\/y = .iv (.sl 16 (l.map B.enc))
structure Bu (sub:List Xp) (i:Nat) (l:List B):Prop where
 f:∀b ∈ l,b.eo
 m:∀b ∈ l,b.lim (1+10*ec (sub.take i)) (6*ec (sub.take i))
 n:l.length<=16
theorem xI (sub:List Xp) (i:Nat):ec (sub.take i)<=ec sub:=by have:=C1 sub i;omega
theorem Bu.next {sub:List Xp} {i:Nat} {l:List B} (h:Bu sub i l) {both neg:Bool} {x:Xp} (hx:sub[i]?=some x) (ho:x.ok) (ha:iG x=true) (hc:ec sub<=39) :
  Bs both l (bX neg x).1=ij both l (bX neg x).1/\(∀b ∈ (if both then oP l (bX neg x).1 else l++(bX neg x).1),b.fit)/\(∀b ∈ (bX neg x).1,b.fit)/\(∀b ∈ l,b.fit)/\(bX neg x).1.length<=16/\
   ((ij both l (bX neg x).1).length<=16->Bu sub (i+1) (ij both l (bX neg x).1)):=by
 obtain⟨m1,m2⟩:=qk ho neg ha;have m3:=Br ho neg ha;have ht:=xp hx;have hle:=xI sub (i+1);have hp:=x4 x;generalize(bX neg x).1=m at *;have hl:=h.m;refine⟨OT h.f m3 h.m m1 (by omega) (by omega),λb hb=>?_,λb hb=>qo (m3 b hb) (m1 b hb) (by omega) (by omega),λb hb=>qo (h.f b hb) (hl b hb) (by omega) (by omega),m2,λhn=>⟨Bq h.f m3,?_,hn⟩⟩
 ·cases both with
  |true=>
   simp only[if_true]at hb;obtain⟨x',qN,hb⟩:=List.mem_flatMap.1 hb;obtain⟨y,hy,rfl⟩:=List.mem_map.1 hb;exact qo (xE (h.f x' qN) (m3 y hy)).2 (u3 (hl x' qN) (m1 y hy)) (by omega) (by omega)
  |false=>
   simp only[Bool.false_eq_true,if_false]at hb;rcases List.mem_append.1 hb with hb | hb
   ·exact qo (h.f b hb) (hl b hb) (by omega) (by omega)
   ·exact qo (m3 b hb) (m1 b hb) (by omega) (by omega)
 ·intro b hb;have:=xn (both:=both) hl m1 b hb;rw[ht];exact lu this (by omega) (by omega)
section
variable {prog:Nat->Option aA}
set_option maxHeartbeats 8000000 in
theorem RH (L:zL prog) (X:Xp) {sub:List Xp} (eK:X.sub=sub) (neg:Bool) (hl:sub.length<=maxLen) (cg:∀x ∈ sub,x.ok) (dt:∀x ∈ sub,iG x=true) (hc:ec sub<=39)
  (ih:∀x ∈ sub,a8 prog 165 [x.av,.bI neg] (lN (bX neg x))) (v:AV) :
  Wp prog x9 ⟨[(1,.bI neg),(2,.ref 1000 0 0 0),(7,.own 1576 0 0 0),(8,.bI false),(61,v)],[(1000,.cells X.cs),(1064,.buf 0 16 []),(1576,.buf 0 16 [])],2728⟩ (dI iC.res (lN (fh neg false sub []))):=by
 generalize hR:fh neg false sub []=R;unfold x9 iC;refine af (aj ?_);refine aq ?_;refine b7 (λm s1=>∃(i:Nat) (y:AV) (l:List B),i+m=sub.length/\YU y l/\Bu sub i l/\fh neg false (sub.drop i) l=R/\
  s1=⟨[(1,.bI neg),(2,.ref 1000 0 0 0),(7,y),(8,.bI false),(9,.nI i)],[(1000,.cells X.cs),(1064,.buf 0 16 []),(1576,.buf 0 16 [])],2792⟩) (m:=sub.length)
  ⟨0,.own 1576 0 0 0,[],by omega,.inl ⟨rfl,rfl⟩,⟨λb hb=>(by cases hb),λb hb=>(by cases hb),by simp⟩,hR,by simp[an,get]⟩ ?_
 rintro m s1 ⟨i,y,l,oC,hy,hs,hb,rfl⟩;refine af (af ?_);by_cases gZ:i<sub.length
 ·obtain⟨x,hx⟩:∃x,sub[i]?=some x:=⟨_,List.getElem?_eq_getElem gZ⟩;have Gs:=List.mem_of_getElem? hx;obtain⟨xG,Gt,Qp,Co,Qv,b9⟩:=hs.next (both:=false) (neg:=neg) hx (cg x Gs) (dt x Gs) hc;rw[drop_cons hx]at hb;unfold fh at hb;obtain⟨K1,ct⟩:=ih x Gs;simp only[Bool.false_eq_true,if_false]at Gt;unfold Bs at xG;simp only[Bool.false_eq_true,if_false]at xG;have sa:=hs.n;have pU:(l++(bX neg x).1).length=l.length+(bX neg x).1.length:=List.length_append;obtain⟨K2,cZ⟩:=Bm L.toMP (l++(bX neg x).1) (by omega) Gt;rw[xG]at cZ;have OX:(ij false l (bX neg x).1).length<=32:=by
   have:=xl (l++(bX neg x).1);rw[xG]at this;omega
  generalize ij false l (bX neg x).1=N at cZ hb b9 OX;unfold lN at ct;generalize bX neg x=bx at *;obtain⟨bm,be⟩:=bx;simp only[]at *;refine aD (by simp[X.iR,eK,gZ];rfl) ?_;refine ag rfl (ak (af (aq (cq (K:=K1) (λn hn=>by
   have e1:=ct n hn;simp only[Xp.av]at e1;generalize aZ prog n=g at e1;simp[X.iR,eK,hx,Xp.zu,Xp.mq,Xp.kR,Xp.bR,Xp.c8,e1];rfl) ?_))))
  refine af (aj ?_);refine ag rfl ?_;cases Gu:be==0 with
  |false=>
   have zM:be≠0:=by simpa using Gu
   rw[if_pos zM]at hb;refine aj ?_;refine ax ?_
   show dI iC.res _ .ret _
   rw[<-hb];simp[dI,iC,lN,aT,Gu,ck,dJ,eE,ev,get,M.look,M.bind,M.run,az,M.aG,M.ok,shut,im,bZ,cE,fz,M.write,M.lift]
  |true=>
   have zM:¬be≠0:=by simpa using Gu
   rw[if_neg zM]at hb;refine ak (af (aj ?_));refine ag rfl ?_;have gA:l.length<=1073741824:=by omega
   have pX:l.length+bm.length<=1073741824:=by omega
   have A8:bm.length<=1073741824:=by omega
   refine aD (s':=⟨[(1,.bI neg),(2,.ref 1000 0 0 0),(7,.own 4072 0 (l.length+bm.length) 2),(8,.bI false),(9,.nI i)],[(1000,.cells X.cs),(1064,.buf 0 16 []),(1576,.buf 0 16 []),(4072,.buf 2 16 ((l++bm).map B.enc))],4456⟩) (by
    rcases hy with⟨rfl,rfl⟩|rfl
    ·simp[aT,bO,app,elems,roomy,gA,pX,A8,cD]
    ·simp[aT,bO,app,elems,roomy,gA,pX,A8,cD]) ?_
   simp only[Ex.then];refine af ?_;have mB:List.take (l.length+bm.length) ((l++bm).map B.enc)=(l++bm).map B.enc:=List.take_of_length_le (by simp);refine aI (K:=K2) (s':=⟨[(1,.bI neg),(2,.ref 1000 0 0 0),(7,aT N),(8,.bI false),(9,.nI i)],[(1000,.cells X.cs),(1064,.buf 0 16 []),(1576,.buf 0 16 []),(4072,.cm 2 16 ((l++bm).map B.enc))],4648⟩) (λn hn=>by
    have e1:=cZ n hn;simp only[aT]at e1;generalize aZ prog n=g at e1;generalize(l++bm).map B.enc=rows at e1 mB;simp[-cE, -fz,xW,mB,e1,aT]) ?_
   refine af ?_;have vL:decide ((16:Int)<(N.length:Int))=decide (16<N.length):=decide_eq_decide.2 (by omega);refine aD (by simp[aT,vL];rfl) ?_;refine ag rfl ?_;cases hN:decide (16<N.length)with
   |true=>
    rw[if_pos (of_decide_eq_true hN)]at hb;refine aj ?_;refine ax ?_
    show dI iC.res _ .ret _
    rw[<-hb];simp[dI,iC,lN,aT,ck,dJ,eE,ev,get,M.look,M.bind,M.run,az,M.aG,M.ok,shut,im,bZ,cE,fz,M.write,M.lift]
   |false=>
    rw[if_neg (of_decide_eq_false hN)]at hb;refine ak ?_;simp only[Ex.then,Ex.inBlock];refine aD (by simp[bw gZ hl];rfl) ?_;exact⟨m - 1,by omega,i+1,aT N,N,by omega,.inr rfl,b9 (by have:=of_decide_eq_false hN;omega),hb,by simp[again,an,get,cC,de,du,bG,Xp.cT,aT]⟩
 ·have hd:sub.drop i=[]:=List.drop_eq_nil_of_le (by omega);rw[hd]at hb;unfold fh at hb;refine aD (s':=⟨[(1,.bI neg),(2,.ref 1000 0 0 0),(7,y),(8,.bI false),(9,.nI i),(68,.bI false)],[(1000,.cells X.cs),(1064,.buf 0 16 []),(1576,.buf 0 16 [])],3112⟩) (by simp[X.iR,eK];omega) ?_;refine ag rfl (aO ?_);simp only[Ex.then,Ex.inBlock,if_true];refine aj ?_;refine ax ?_
  show dI iC.res _ .ret _
  rw[<-hb];rcases hy with⟨rfl,rfl⟩|rfl
  ·simp[dI,iC,lN,aT,ck,dJ,eE,ev,get,M.look,M.bind,M.run,az,M.aG,M.ok,shut,im,bZ,cE,fz,M.write,M.lift]
  ·simp[dI,iC,lN,aT,ck,dJ,eE,ev,get,M.look,M.bind,M.run,az,M.aG,M.ok,shut,im,bZ,cE,fz,M.write,M.lift]
end
def YP (y:AV) (l:List B):Prop:=(y = .own 2792 0 1 0/\l=[bL])\/y = .iv (.sl 16 (l.map B.enc))
theorem Ks {l:List B} {j:Nat} {b:B} (m:List B) (h:l[j]?=some b):oP (l.take (j+1)) m=oP (l.take j) m++m.map (dW b):=gH h
theorem Di (l m:List B):(oP l m).length<=m.length*l.length:=pA (c:=m.length) (λx=>by simp) l
section
variable {prog:Nat->Option aA}
set_option maxHeartbeats 8000000 in
theorem VI (L:zL prog) (X:Xp) {sub:List Xp} (eK:X.sub=sub) (neg:Bool) (hl:sub.length<=maxLen) (cg:∀x ∈ sub,x.ok) (dt:∀x ∈ sub,iG x=true) (hc:ec sub<=39)
  (ih:∀x ∈ sub,a8 prog 165 [x.av,.bI neg] (lN (bX neg x))) :
  Wp prog x9 ⟨[(1,.bI neg),(2,.ref 1000 0 0 0),(7,.own 2792 0 1 0),(8,.bI true)],[(1000,.cells X.cs),(1064,.buf 0 16 []),(1576,.buf 0 16 []),(2792,.buf 0 16 [bL.enc])],2920⟩ (dI iC.res (lN (fh neg true sub [bL]))):=by
 generalize hR:fh neg true sub [bL]=R;unfold x9 iC;refine af (aj ?_);refine aq ?_;refine b7 (λm s1=>∃(i:Nat) (y:AV) (l:List B),i+m=sub.length/\YP y l/\Bu sub i l/\fh neg true (sub.drop i) l=R/\
  s1=⟨[(1,.bI neg),(2,.ref 1000 0 0 0),(7,y),(8,.bI true),(9,.nI i)],[(1000,.cells X.cs),(1064,.buf 0 16 []),(1576,.buf 0 16 []),(2792,.buf 0 16 [bL.enc])],2984⟩) (m:=sub.length)
  ⟨0,.own 2792 0 1 0,[bL],by omega,.inl ⟨rfl,rfl⟩,⟨λb hb=>by rw[List.mem_singleton.1 hb];exact rA,λb hb=>by rw[List.mem_singleton.1 hb];exact lu sS (by omega) (by omega),by simp⟩,hR,by simp[an,get]⟩ ?_
 rintro m s1 ⟨i,y,l,oC,hy,hs,hb,rfl⟩;refine af (af ?_);by_cases gZ:i<sub.length
 ·obtain⟨x,hx⟩:∃x,sub[i]?=some x:=⟨_,List.getElem?_eq_getElem gZ⟩;have Gs:=List.mem_of_getElem? hx;obtain⟨xG,Gt,Qp,Co,Qv,b9⟩:=hs.next (both:=true) (neg:=neg) hx (cg x Gs) (dt x Gs) hc;rw[drop_cons hx]at hb;unfold fh at hb;obtain⟨K1,ct⟩:=ih x Gs;simp only[if_true]at Gt;unfold Bs at xG;simp only[if_true]at xG;have sa:=hs.n;have pU:(oP l (bX neg x).1).length<=256:=by
   have:=Di l (bX neg x).1;have:=Nat.mul_le_mul Qv hs.n;omega
  obtain⟨K2,cZ⟩:=Bm L.toMP (oP l (bX neg x).1) (by omega) Gt;rw[xG]at cZ;have OX:(ij true l (bX neg x).1).length<=256:=by
   have:=xl (oP l (bX neg x).1);rw[xG]at this;omega
  generalize ij true l (bX neg x).1=N at cZ hb b9 OX;unfold lN at ct;generalize bX neg x=bx at *;obtain⟨bm,be⟩:=bx;simp only[]at *;refine aD (by simp[X.iR,eK,gZ];rfl) ?_;refine ag rfl (ak (af (aq (cq (K:=K1) (λn hn=>by
   have e1:=ct n hn;simp only[Xp.av]at e1;generalize aZ prog n=g at e1;simp[X.iR,eK,hx,Xp.mq,Xp.kR,Xp.c8,e1];rfl) ?_))))
  refine af (aj ?_);refine ag rfl ?_;cases Gu:be==0 with
  |false=>
   have zM:be≠0:=by simpa using Gu
   rw[if_pos zM]at hb;refine aj ?_;refine ax ?_
   show dI iC.res _ .ret _
   rw[<-hb];simp[dI,iC,lN,aT,Gu,ck,dJ,eE,ev,get,M.look,M.bind,M.run,az,M.aG,M.ok,shut,im,bZ,cE,fz,M.write,M.lift]
  |true=>
   have zM:¬be≠0:=by simpa using Gu
   rw[if_neg zM]at hb;refine ak (af (aj ?_));have yC:l.length<=maxLen:=by unfold maxLen;omega
   have hbm:bm.length<=maxLen:=by unfold maxLen;omega
   refine ag rfl (aj ?_);refine af (aj ?_);refine aq ?_;refine b7 (λm s1=>∃(j:Nat) (o:List B),j+m=l.length/\o=oP (l.take j) bm/\s1=⟨[(1,.bI neg),(2,.ref 1000 0 0 0),(7,y),(8,.bI true),(9,.nI i),(10,aT bm),(12,.own 4264 0 o.length 0),(13,.nI j)],[(1000,.cells X.cs),(1064,.buf 0 16 []),(1576,.buf 0 16 []),(2792,.buf 0 16 [bL.enc]),(4264,.buf 0 16 (o.map B.enc))],4392⟩) (m:=l.length)
    ⟨0,[],by omega,rfl,by simp[an,get]⟩ ?_
   rintro m4 s4 ⟨j,o,CV,ho,rfl⟩;refine af (af ?_);by_cases l7:j<l.length
   ·obtain⟨bj,CW⟩:∃b,l[j]?=some b:=⟨_,List.getElem?_eq_getElem l7⟩;have VJ:=Ks bm CW;rw[<-ho]at VJ;have kr:o.length<=256:=by
     have:=Di (l.take j) bm;have h2:(l.take j).length<=16:=by rw[List.length_take];omega
     have:=Nat.mul_le_mul Qv h2;rw[ho];omega
    refine aD (s':=⟨[(1,.bI neg),(2,.ref 1000 0 0 0),(7,y),(8,.bI true),(9,.nI i),(10,aT bm),(12,.own 4264 0 o.length 0),(13,.nI j),(87,.bI true)],[(1000,.cells X.cs),(1064,.buf 0 16 []),(1576,.buf 0 16 []),(2792,.buf 0 16 [bL.enc]),(4264,.buf 0 16 (o.map B.enc))],4648⟩) (by
     rcases hy with⟨rfl,rfl⟩|rfl
     ·have:j=0:=by simp at l7;omega
      subst this;simp
     ·simp[l7]) ?_
    refine ag rfl (ak (af (aq (aj ?_))));refine aq ?_;clear ho;generalize ho0:o=o0 at VJ kr;refine b7 (λm s1=>∃(k:Nat) (o:List B),k+m=bm.length/\o=o0++(bm.take k).map (dW bj)/\s1=⟨[(1,.bI neg),(2,.ref 1000 0 0 0),(7,y),(8,.bI true),(9,.nI i),(10,aT bm),(12,.own 4264 0 o.length 0),(13,.nI j),(14,.nI k)],[(1000,.cells X.cs),(1064,.buf 0 16 []),(1576,.buf 0 16 []),(2792,.buf 0 16 [bL.enc]),(4264,.buf 0 16 (o.map B.enc))],4712⟩) (m:=bm.length)
     ⟨0,o0,by omega,by simp,by simp[an,get]⟩ ?_
    rintro m5 s5 ⟨k,o,C6,Kt,rfl⟩;refine af (af ?_);by_cases vP:k<bm.length
    ·obtain⟨bk,Qw⟩:∃b,bm[k]?=some b:=⟨_,List.getElem?_eq_getElem vP⟩;have Vu:o.length<=512:=by
      rw[Kt,List.length_append,List.length_map,List.length_take];omega
     have gA:o.length+1<=1073741824:=by omega
     have xD:o0++(bm.take (k+1)).map (dW bj)=o++[dW bj bk]:=by rw[Kt,List.take_add_one,Qw];simp
     obtain⟨K5,T0⟩:=Vy L.tZ L.Cd L.Kr L.VC bj bk (Co bj (List.mem_of_getElem? CW)) (Qp bk (List.mem_of_getElem? Qw));refine aD (by simp[aT,vP];rfl) ?_;refine ag rfl (ak (af (aq ?_)));refine aI (K:=K5) (s':=⟨[(1,.bI neg),(2,.ref 1000 0 0 0),(7,y),(8,.bI true),(9,.nI i),(10,aT bm),(12,.own 4264 0 (o.length+1) 1),(13,.nI j),(14,.nI k)],[(1000,.cells X.cs),(1064,.buf 0 16 []),(1576,.buf 0 16 []),(2792,.buf 0 16 [bL.enc]),(4264,.buf 1 16 (o.map B.enc++[(dW bj bk).enc])),(5608,.buf 0 16 [(dW bj bk).enc])],5800⟩) (λn hn=>by
      have e1:=T0 n hn;simp only[B.av]at e1;generalize aZ prog n=g at e1;have gD:=B.bR (dW bj bk);have vz:=B.sM (dW bj bk);rcases hy with⟨rfl,rfl⟩|rfl
      ·have:j=0:=by simp at l7;omega
       subst this;simp only[List.getElem?_cons_zero,Option.some.injEq]at CW;subst CW;generalize(dW bL bk).cs=ac at e1 gD vz;simp[-cE, -fz,aT,Qw,B.gw,B.gh,B.jm,B.hZ,B.c8,B.bR,e1,bO,app,elems,roomy,gA,cD,gD,vz]
      ·generalize(dW bj bk).cs=ac at e1 gD vz;simp[-cE, -fz,aT,CW,Qw,B.gw,B.gh,B.jm,B.c8,e1,bO,app,elems,roomy,gA,cD,gD,vz]) ?_
     simp only[Ex.then,Ex.inBlock];refine aD (by simp[bw vP hbm];rfl) ?_;refine⟨m5 - 1,by omega,k+1,o++[dW bj bk],by omega,xD.symm,?_⟩;rcases hy with⟨rfl,rfl⟩|rfl
     ·simp[again,an,get,cC,de,du,bG,Xp.cT,aT]
     ·simp[again,an,get,cC,de,du,bG,Xp.cT,aT]
    ·have CB:k=bm.length:=by omega
     rw[CB,List.take_length,<-VJ]at Kt;refine aD (s':=⟨[(1,.bI neg),(2,.ref 1000 0 0 0),(7,y),(8,.bI true),(9,.nI i),(10,aT bm),(12,.own 4264 0 o.length 0),(13,.nI j),(14,.nI k),(93,.bI false)],[(1000,.cells X.cs),(1064,.buf 0 16 []),(1576,.buf 0 16 []),(2792,.buf 0 16 [bL.enc]),(4264,.buf 0 16 (o.map B.enc))],4968⟩) (by simp[aT];omega) ?_;refine ag rfl (aO ?_);simp only[Ex.then,Ex.inBlock,if_true];refine aD (by simp[bw l7 yC];rfl) ?_;refine⟨m4 - 1,by omega,j+1,o,by omega,Kt,?_⟩;rcases hy with⟨rfl,rfl⟩|rfl
     ·simp[again,an,get,cC,de,du,bG,Xp.cT,aT]
     ·simp[again,an,get,cC,de,du,bG,Xp.cT,aT]
   ·have Gv:j=l.length:=by omega
    rw[Gv,List.take_length]at ho;refine aD (s':=⟨[(1,.bI neg),(2,.ref 1000 0 0 0),(7,y),(8,.bI true),(9,.nI i),(10,aT bm),(12,.own 4264 0 o.length 0),(13,.nI j),(87,.bI false)],[(1000,.cells X.cs),(1064,.buf 0 16 []),(1576,.buf 0 16 []),(2792,.buf 0 16 [bL.enc]),(4264,.buf 0 16 (o.map B.enc))],4648⟩) (by
     rcases hy with⟨rfl,rfl⟩|rfl
     ·simp at Gv;subst Gv;simp
     ·simp;omega) ?_
    refine ag rfl (aO ?_);simp only[Ex.then,Ex.inBlock,if_true];refine bK ?_;refine af ?_;rw[<-ho]at cZ;have mB:List.take o.length (o.map B.enc)=o.map B.enc:=List.take_of_length_le (by simp);refine aI (K:=K2) (s':=⟨[(1,.bI neg),(2,.ref 1000 0 0 0),(7,aT N),(8,.bI true),(9,.nI i)],[(1000,.cells X.cs),(1064,.buf 0 16 []),(1576,.buf 0 16 []),(2792,.buf 0 16 [bL.enc]),(4264,.cm 0 16 (o.map B.enc))],4968⟩) (λn hn=>by
     have e1:=cZ n hn;simp only[aT]at e1;generalize aZ prog n=g at e1;generalize o.map B.enc=rows at e1 mB;simp[-cE, -fz,xW,mB,e1,aT]) ?_
    refine af ?_;have vL:decide ((16:Int)<(N.length:Int))=decide (16<N.length):=decide_eq_decide.2 (by omega);refine aD (by simp[aT,vL];rfl) ?_;refine ag rfl ?_;cases hN:decide (16<N.length)with
    |true=>
     rw[if_pos (of_decide_eq_true hN)]at hb;refine aj ?_;refine ax ?_
     show dI iC.res _ .ret _
     rw[<-hb];simp[dI,iC,lN,aT,ck,dJ,eE,ev,get,M.look,M.bind,M.run,az,M.aG,M.ok,shut,im,bZ,cE,fz,M.write,M.lift]
    |false=>
     rw[if_neg (of_decide_eq_false hN)]at hb;refine ak ?_;simp only[Ex.then,Ex.inBlock];refine aD (by simp[bw gZ hl];rfl) ?_;exact⟨m - 1,by omega,i+1,aT N,N,by omega,.inr rfl,b9 (by have:=of_decide_eq_false hN;omega),hb,by simp[again,an,get,cC,de,bG,Xp.cT,aT]⟩
 ·have hd:sub.drop i=[]:=List.drop_eq_nil_of_le (by omega);rw[hd]at hb;unfold fh at hb;refine aD (s':=⟨[(1,.bI neg),(2,.ref 1000 0 0 0),(7,y),(8,.bI true),(9,.nI i),(68,.bI false)],[(1000,.cells X.cs),(1064,.buf 0 16 []),(1576,.buf 0 16 []),(2792,.buf 0 16 [bL.enc])],3304⟩) (by simp[X.iR,eK];omega) ?_;refine ag rfl (aO ?_);simp only[Ex.then,Ex.inBlock,if_true];refine aj ?_;refine ax ?_
  show dI iC.res _ .ret _
  rw[<-hb];rcases hy with⟨rfl,rfl⟩|rfl
  ·simp[dI,iC,lN,aT,ck,dJ,eE,ev,get,M.look,M.bind,M.run,az,M.aG,M.ok,shut,im,bZ,cE,fz,M.write,M.lift]
  ·simp[dI,iC,lN,aT,ck,dJ,eE,ev,get,M.look,M.bind,M.run,az,M.aG,M.ok,shut,im,bZ,cE,fz,M.write,M.lift]
end
section
variable {prog:Nat->Option aA}
set_option maxHeartbeats 4000000 in
theorem RJ (L:zL prog) {x:Xp} (hx:x.ok):∀neg,iG x=true->hC x<=40->a8 prog 165 [x.av,.bI neg] (lN (bX neg x)):=by
 induction hx with
 |@mk k a s sub hk ha hs hl eK ih=>
  intro neg dt zx;obtain⟨lv,da⟩:=rF dt;have UN:hC (.mk k a s sub)=1+ec sub:=by conv=>lhs;unfold hC
  rw[UN]at zx;have OY:∀z ∈ sub,hC z<=40:=λz hz=>by
   obtain⟨j,hj,he⟩:=List.getElem_of_mem hz;have:=xp (sub:=sub) (i:=j) (x:=z) (by rw[List.getElem?_eq_getElem hj,he]);have:=xI sub (j+1);omega
  have hG:bX neg (.mk k a s sub)=if k=1 then(eB [bL.put a.toNat (if neg then eF s else s)],0) else if k=4 then qj (!neg) sub else fh neg (decide (k=2) != neg) sub (if decide (k=2) != neg then[bL] else[]):=by conv=>lhs;unfold bX
  have fI:=Xp.Ko k a s sub;have dc:=fun(e:k=1)=>RG L (a:=a) (s:=s) (sub:=sub) hs (by rw[<-e];exact da) neg _ rfl
  generalize hX:Xp.mk k a s sub=X at hG fI;have Ku:X.sub=sub:=by rw[<-hX];rfl
  generalize hR:bX neg X=R at hG ⊢;refine a8.of L.VA rfl rfl (au (by simp[Xp.av,Xp.cI];rfl) ?_);refine af (au (s':=⟨[(1,.bI neg),(2,.ref 1000 0 0 0),(16,.nI k)],[(1000,.cells X.cs),(1064,.buf 0 16 [])],1320⟩) (by simp[fI]) ?_);refine aq (au (by simp;rfl) ?_);refine ag rfl ?_;cases k1:k==1 with
  |true=>
   have Bt:k=1:=by simpa using k1
   rw[if_pos Bt]at hG;subst Bt;have:=dc rfl;rw[hX]at this;refine Wp.mono this ?_;rintro e st ⟨rfl,hf⟩
   show dI iC.res _ .ret _
   rw[hG];exact hf
  |false=>
   have Bt:¬k=1:=by simpa using k1
   rw[if_neg Bt]at hG;refine au (by simp;rfl) ?_;refine ag rfl ?_;cases k4:k==4 with
   |true=>
    have MV:k=4:=by simpa using k4
    rw[if_pos MV]at hG;obtain⟨z,rfl⟩:=xZ (by rw[<-MV];exact da);unfold qj at hG;obtain⟨K,hK⟩:=ih z (by simp) (!neg) (lv z (by simp)) (OY z (by simp));unfold lN at hK;refine cq (K:=K) (λn hn=>by
     have e1:=hK n hn;simp only[Xp.av]at e1;rw[<-hG]at e1;generalize aZ prog n=g at e1;simp[X.iR,Ku,Xp.zu,Xp.mq,Xp.kR,Xp.bR,Xp.c8,e1];rfl) ?_
    refine ax ?_
    show dI iC.res _ .ret _
    simp[dI,iC,lN,aT,ck,dJ,eE,ev,get,M.look,M.bind,M.run,az,M.aG,M.ok,shut,im,bZ,cE,fz,M.write,M.lift]
   |false=>
    have MV:¬k=4:=by simpa using k4
    rw[if_neg MV]at hG;have HS:k=2\/k=3:=by
     unfold iF at da;simp only[]at da;rw[if_neg Bt]at da;by_cases h:k=2\/k=3
     ·exact h
     ·rw[if_neg h,if_neg MV]at da;cases da
    refine ak ?_;simp only[Ex.then,Ex.inBlock];refine aj ?_;refine au (s':=⟨[(1,.bI neg),(2,.ref 1000 0 0 0),(7,.own 1576 0 0 0),(8,.bI (decide (k=2) != neg))],[(1000,.cells X.cs),(1064,.buf 0 16 []),(1576,.buf 0 16 [])],2664⟩) (by
     rcases HS with rfl | rfl<;>cases neg<;>simp[fI]) ?_
    refine af (aj ?_);refine ag rfl ?_;cases hb:(decide (k=2) != neg)with
    |false=>
     rw[hb]at hG;simp only[Bool.false_eq_true,if_false]at hG;refine ak ?_;simp only[Ex.then];rw[hG];exact RH L X Ku neg hl eK lv (by omega) (λz hz=>ih z hz neg (lv z hz) (OY z hz)) _
    |true=>
     rw[hb]at hG;simp only[if_true]at hG;obtain⟨K,hK⟩:=L.OV;refine aI (K:=K) (s':=⟨[(1,.bI neg),(2,.ref 1000 0 0 0),(7,.own 2792 0 1 0),(8,.bI true)],[(1000,.cells X.cs),(1064,.buf 0 16 []),(1576,.buf 0 16 []),(2792,.buf 0 16 [bL.enc])],2920⟩) (λn hn=>by
      have e1:=hK n hn;simp only[B.av]at e1;generalize aZ prog n=g at e1;have gD:=B.bR bL;have vz:=B.sM bL;generalize bL.cs=ac at e1 gD vz;generalize bL.enc=ae at vz;simp[-cE, -fz,e1,bO,gD,vz]) ?_
     simp only[Ex.then];rw[hG];exact VI L X Ku neg hl eK lv (by omega) (λz hz=>ih z hz neg (lv z hz) (OY z hz))
theorem aaT (L:zL prog) {x:Xp} (hx:x.ok):a8 prog 164 [x.av] (.bD [aT (lW x).1,.iv (.int .i64 (lW x).2)]):=by
 obtain⟨K1,ct⟩:=OU L.Im L.u7 L.u9 L.Kp L.qv L.qw L.Kq L.VB hx;refine a8.of L.Vz rfl rfl (au (by simp[Xp.av,Xp.cI];rfl) ?_);refine af (cq (K:=K1) (λn hn=>by
  have e1:=ct n hn;simp only[Xp.av]at e1;generalize aZ prog n=g at e1;simp[Xp.B3,Xp.bR,Xp.c8,e1];rfl) ?_)
 refine ag rfl ?_;cases hr:mA x with
 |false=>
  have ho:lW x=([],2):=by unfold lW;rw[hr];rfl
  refine aj ?_;refine ax ?_
  show dI vW.res _ .ret _
  rw[ho];simp[dI,vW,aT,ck,dJ,eE,ev,get,M.look,M.bind,M.run,az,M.aG,M.ok,shut,im,bZ,cE,fz,M.write,M.lift]
 |true=>
  obtain⟨hc,dt⟩:=xt hr;obtain⟨b1,b2⟩:=qk hx false dt;have b3:=Br hx false dt;have Gt:∀b ∈ (bX false x).1,b.fit:=λb hb=>qo (b3 b hb) (b1 b hb) (by omega) (by omega)
  obtain⟨K2,cZ⟩:=RJ L hx false dt hc;obtain⟨K3,fP⟩:=OP L.toMP (bX false x).1 (by omega) Gt;have ho:lW x=if(bX false x).2=0/\fg (bX false x).1=true then((bX false x).1,0) else([],4):=by unfold lW;rw[hr];rfl
  unfold lN at cZ;generalize bX false x=r at *;obtain⟨l,e⟩:=r;simp only[]at *;refine ak (cq (K:=K2) (λn hn=>by
   have e1:=cZ n hn;simp only[Xp.av]at e1;generalize aZ prog n=g at e1;simp[Xp.B3,Xp.bR,Xp.c8,e1];rfl) ?_)
  refine af (cq (K:=K3) (s':=⟨[(4,aT l),(20,.bI (!(e==0&&fg l)))],[(1000,.cells x.cs),(1064,.buf 0 16 [])],2280⟩) (λn hn=>by
   have e1:=fP n hn;simp only[aT]at e1;generalize aZ prog n=g at e1;cases he:e==0<;>simp[aT,e1,he]) ?_)
  refine ag rfl ?_;cases hq:(e==0&&fg l)with
  |false=>
   have sT:lW x=([],4):=by
    rw[ho,if_neg];rintro⟨h1,h2⟩;rw[h1,h2]at hq;simp at hq
   refine aj ?_;refine ax ?_
   show dI vW.res _ .ret _
   rw[sT];simp[dI,vW,aT,ck,dJ,eE,ev,get,M.look,M.bind,M.run,az,M.aG,M.ok,shut,im,bZ,cE,fz,M.write,M.lift]
  |true=>
   have sT:lW x=(l,0):=by
    rw[Bool.and_eq_true,beq_iff_eq]at hq;rw[ho,if_pos hq]
   refine ak (aj ?_);refine ax ?_
   show dI vW.res _ .ret _
   rw[sT];simp[dI,vW,aT,ck,dJ,eE,ev,get,M.look,M.bind,M.run,az,M.aG,M.ok,shut,im,bZ,cE,fz,M.write,M.lift]
end
end ao
namespace ay
open Go ao
attribute [local simp] aS Option.map_some a7 step cw fJ bp az M.aG M.run M.ok M.fresh M.write M.look M.lift bT ev aP dV an dT dq ar bin fX cU db mk params bh load bB di ep dQ dn dB idx len valid eu ea bound store bl un callee Option.bind_some M.bind cz
structure nF (p1:Nat->Option ao.aA) (p2:Nat->Option aA):Prop where
 D:zL p1
 HN:p1 34=some ao.Lc
 Us:p1 20=some ao.Pt
 h8:p1 8=some ao.F8
 aaU:p1 160=some ao.Nk
 OZ:p2 163=some E0
 O0:p2 162=some E5
 aaV:p2 161=some r7
 aaW:p2 157=some JD
 aaX:p2 156=some Jw
section
variable {p1:Nat->Option ao.aA} {p2:Nat->Option aA}
set_option maxHeartbeats 4000000 in
theorem XF (bF:bW p2) (OZ:p2 163=some E0) {lo n aN:Nat} {H:Hp} {g:Lg} {ya yp yd:AV} {ra rp:List (List AV)} (G:iV lo H n aN [] g ya yp yd ra rp) (hl:g.aQ.length<=1000) (c:Int) (nx:Nat) :
  ∃aW,nx<=aW/\Ev p1 p2 163 [.ref aN 0 0 0,.nI c] H nx (.nI (gb c g.aQ),H,aW):=by
 have iT:=G.a.len;have dc:=G.at_;have jf:ra.length=g.aQ.length:=G.al.1;rw[jf]at iT;simp only[List.nil_append]at dc;have key:Wp p1 p2 E0.body ⟨params [.ref aN 0 0 0,.nI c] 0,H,nx⟩ (λe st=>∃r:AV×Hp×Nat,(r.1 = .nI (gb c g.aQ)/\r.2.1=H/\nx<=r.2.2)/\Fin E0.res r e st):=by
  refine aj ?_;refine aj ?_;refine af (aj ?_);refine aq ?_;refine b7 (λm s1=>∃(i n2:Nat),i+m=g.aQ.length/\nx<=n2/\
   s1=⟨[(0,.ref aN 0 0 0),(1,.nI c),(5,.nI (gb c (g.aQ.take i))),(6,.nI i)],H,n2⟩) (m:=g.aQ.length)
   ⟨0,nx+1+1+1,by omega,by omega,by simp[aP,an,gb]⟩ ?_
  rintro m s1 ⟨i,n2,oC,r9,rfl⟩;refine af (af ?_);by_cases hi:i<g.aQ.length
  ·obtain⟨a,ha⟩:∃a,g.aQ[i]?=some a:=⟨_,List.getElem?_eq_getElem hi⟩;have dX:IntKind.i64.wrap ((i:Int)+1)=(i:Int)+1:=IntWalk.i64_in _ (by omega);obtain⟨row,aH,gx,rfl,kH⟩:=G.al.get ha;obtain⟨hU,va,i1, -,iJ,i4⟩:=G.a.at_ aH;rw[jf]at iJ;have gD:=yH (c:=c) ha;have aat:gb c (g.aQ.take i)<=1000:=by have:=C3 c (g.aQ.take i);rw[List.length_take]at this;omega
   generalize gb c (g.aQ.take i)=A at *;have ME:IntKind.i64.wrap ((A:Int)+1)=(A:Int)+1:=IntWalk.i64_in _ (by omega);simp only[eH]at aH;refine aD (by
    simp[-len,dc,iT,hi];rfl) ?_
   refine ag (t:=true) rfl (ak (af (aq (af ?_))));rw[iJ]at dc;refine aD (s':=⟨[(0,.ref aN 0 0 0),(1,.nI c),(5,.nI A),(6,.nI i),(36,.bI (a.c==c&&a.t==0))],H,n2+7+21⟩) (by
    cases h1:a.c==c<;>simp[dc,i4,hi,aH,h1]) ?_
   refine ag rfl ?_;cases hq:(a.c==c&&a.t==0)with
   |true=>
    rw[hq]at gD;simp only[if_true]at gD ⊢;refine aD (by simp[ME];rfl) ?_;simp only[Ex.then,Ex.inBlock];refine aD (by simp[dX];rfl) ?_;exact⟨m - 1,by omega,i+1,_,by omega,by show nx<=n2+7+21+3+3;omega,by simp[aP,an,gD]⟩
   |false=>
    rw[hq]at gD;simp only[Bool.false_eq_true,if_false,Nat.add_zero]at gD ⊢;refine ak ?_;simp only[Ex.then,Ex.inBlock];refine aD (by simp[dX];rfl) ?_;exact⟨m - 1,by omega,i+1,_,by omega,by show nx<=n2+7+21+3;omega,by simp[aP,an,gD]⟩
  ·obtain rfl:i=g.aQ.length:=by omega
   refine aD (s':=⟨[(0,.ref aN 0 0 0),(1,.nI c),(5,.nI (gb c (g.aQ.take g.aQ.length))),(6,.nI g.aQ.length),(13,.bI false)],H,n2+7⟩) (by
    simp[-len,dc,iT]) ?_
   refine ag (t:=false) rfl (aO ?_);simp only[Ex.then,Ex.inBlock,if_true];rw[List.take_length];refine aj ?_;exact ax ⟨(_,H,n2+7+2),⟨rfl,rfl,by show nx<=n2+7+2;omega⟩,rfl,rfl⟩
 obtain⟨⟨y,H',aW⟩,⟨rfl,h2,h3⟩,h4⟩:=Ev.jn bF OZ rfl rfl _ key;simp only[]at h2 h3;subst h2;exact⟨aW,h3,h4⟩
set_option maxHeartbeats 4000000 in
theorem XG (bF:bW p2) (O0:p2 162=some E5) {lo n aN:Nat} {H:Hp} {g:Lg} {ya yp yd:AV} {ra rp:List (List AV)} (G:iV lo H n aN [] g ya yp yd ra rp) (hl:g.aQ.length<=1000) (c:Int) (nx:Nat) :
  ∃aW,nx<=aW/\Ev p1 p2 162 [.ref aN 0 0 0,.nI c] H nx (.nI (nU c g.aQ),H,aW):=by
 have iT:=G.a.len;have dc:=G.at_;have jf:ra.length=g.aQ.length:=G.al.1;rw[jf]at iT;simp only[List.nil_append]at dc;have key:Wp p1 p2 E5.body ⟨params [.ref aN 0 0 0,.nI c] 0,H,nx⟩ (λe st=>∃r:AV×Hp×Nat,(r.1 = .nI (nU c g.aQ)/\r.2.1=H/\nx<=r.2.2)/\Fin E5.res r e st):=by
  refine aj ?_;refine aj ?_;refine af (aj ?_);refine aq ?_;refine b7 (λm s1=>∃(i n2:Nat),i+m=g.aQ.length/\nx<=n2/\
   s1=⟨[(0,.ref aN 0 0 0),(1,.nI c),(5,.nI (nU c (g.aQ.take i))),(6,.nI i)],H,n2⟩) (m:=g.aQ.length)
   ⟨0,nx+1+1+1,by omega,by omega,by simp[aP,an,nU]⟩ ?_
  rintro m s1 ⟨i,n2,oC,r9,rfl⟩;refine af (af ?_);by_cases hi:i<g.aQ.length
  ·obtain⟨a,ha⟩:∃a,g.aQ[i]?=some a:=⟨_,List.getElem?_eq_getElem hi⟩;have dX:IntKind.i64.wrap ((i:Int)+1)=(i:Int)+1:=IntWalk.i64_in _ (by omega);obtain⟨row,aH,gx,rfl,kH⟩:=G.al.get ha;obtain⟨hU,va,i1, -,iJ,i4⟩:=G.a.at_ aH;rw[jf]at iJ;have oU:=F1 (c:=c) ha;have aau:nU c (g.aQ.take i)<=1000:=by have:=Bc c (g.aQ.take i);rw[List.length_take]at this;omega
   generalize nU c (g.aQ.take i)=A at *;have ME:IntKind.i64.wrap ((A:Int)+1)=(A:Int)+1:=IntWalk.i64_in _ (by omega);simp only[eH]at aH;refine aD (by
    simp[-len,dc,iT,hi];rfl) ?_
   refine ag (t:=true) rfl (ak (af (aq (af ?_))));rw[iJ]at dc;refine aD (by
    simp[dc,i4,hi,aH];rfl) ?_
   refine ag rfl ?_;cases hq:(a.c==c)with
   |true=>
    rw[hq]at oU;simp only[if_true]at oU ⊢;refine aD (by simp[ME];rfl) ?_;simp only[Ex.then,Ex.inBlock];refine aD (by simp[dX];rfl) ?_;exact⟨m - 1,by omega,i+1,_,by omega,by show nx<=n2+7+10+3+3;omega,by simp[aP,an,oU]⟩
   |false=>
    rw[hq]at oU;simp only[Bool.false_eq_true,if_false,Nat.add_zero]at oU ⊢;refine ak ?_;simp only[Ex.then,Ex.inBlock];refine aD (by simp[dX];rfl) ?_;exact⟨m - 1,by omega,i+1,_,by omega,by show nx<=n2+7+10+3;omega,by simp[aP,an,oU]⟩
  ·obtain rfl:i=g.aQ.length:=by omega
   refine aD (s':=⟨[(0,.ref aN 0 0 0),(1,.nI c),(5,.nI (nU c (g.aQ.take g.aQ.length))),(6,.nI g.aQ.length),(13,.bI false)],H,n2+7⟩) (by
    simp[-len,dc,iT]) ?_
   refine ag (t:=false) rfl (aO ?_);simp only[Ex.then,Ex.inBlock,if_true];rw[List.take_length];refine aj ?_;exact ax ⟨(_,H,n2+7+2),⟨rfl,rfl,by show nx<=n2+7+2;omega⟩,rfl,rfl⟩
 obtain⟨⟨y,H',aW⟩,⟨rfl,h2,h3⟩,h4⟩:=Ev.jn bF O0 rfl rfl _ key;simp only[]at h2 h3;subst h2;exact⟨aW,h3,h4⟩
theorem VK (L:nF p1 p2) {x:Xp} (hx:x.ok):∃K,∀m,K<=m->∀(H:Hp),(dR (one p1 m) (.iv (.fn 164 [])) [.agg (x.enc.map AV.iv)]).run H=some (.bD [.iv (.sl 16 ((lW x).1.map B.enc)),.iv (.int .i64 (lW x).2)],H):=by
 obtain⟨K,hK⟩:=aaT L.D hx;refine⟨K,λm hm H=>?_⟩;have e1:(one p1 m 164 [.agg (x.enc.map ao.AV.iv)] []).bind shut=some (.bD [.iv (.sl 16 ((lW x).1.map B.enc)),.iv (.int .i64 (lW x).2)]):=hK m hm;have hz:bZ true (.agg (x.enc.map AV.iv)) = .ret (.agg (x.enc.map ao.AV.iv)):=by
  unfold bZ;simp only[];rw[ua true 7 x.enc x.fk];rfl
 simp[dR,callee,az,M.lift,M.run,M.aG,hz,e1,kX,Hj,ks,M.bind]
end
def nV:IC:=match r7.body with
 |.seq _ (.seq _ (.seq (.seq _ (.block _ (.seq _ b))) _))=>b
 |_=>.skip
def Qx:IC:=match nV with
 |.cond _ a _=>a
 |_=>.skip
def Qy:IC:=match nV with
 |.cond _ _ (.seq _ (.cond _ a _))=>a
 |_=>.skip
def Qz:IC:=match nV with
 |.cond _ _ (.seq _ (.cond _ _ (.seq _ (.cond _ a _))))=>a
 |_=>.skip
def QA:IC:=match nV with
 |.cond _ _ (.seq _ (.cond _ _ (.seq _ (.cond _ _ (.seq _ (.cond _ a _))))))=>a
 |_=>.skip
def Gw (lo aN nx:Nat) (H:Hp) (g:Lg) (e:Ex) (st:St):Prop:=
 e = .ret/\∃v jJ jK jL iA jM,nx<=st.nx/\cr st.hp st.nx/\iV lo st.hp st.nx aN [] g jJ jK jL iA jM/\(∀k,k<4*lo->get st.hp k=get H k)/\Fin r7.res (v,st.hp,st.nx) .ret st
section
variable {p1:Nat->Option ao.aA} {p2:Nat->Option aA}
set_option maxHeartbeats 8000000 in
theorem O1 (kZ:Nat) (o:ao.Op) (now:Nat) (there:Bool) (v3 v4 MW:AV) (lo aN:Nat) (g:Lg) (H:Hp) (nx:Nat) (hf:cr H nx) {ya yp yd:AV} {ra rp:List (List AV)} (G:iV lo H nx aN [] g ya yp yd ra rp) (hl:g.aQ.length<=1000)
  (hb:get H kZ=some (.cells (o.enc.map AV.iv))) :
  Wp p1 p2 Qy ⟨[(0,.ref aN 0 0 0),(3,.nI now),(4,v4),(7,.ref kZ 0 0 0),(12,.bI there),(29,MW),(69,.bI true)],H,nx⟩
   (Gw lo aN nx H (if there then { g with aQ:=vi o.c o.u now g.aQ } else g)):=by
 have dc:=G.at_;simp only[List.nil_append]at dc;obtain⟨o0,o1,o2,o3,o4, -, -⟩:=rm o;have m0:(o.enc.map AV.iv).length=24:=by rw[List.length_map];exact o0
 have m3:((o.enc.map AV.iv).tail).take 1=[.nI o.c]:=by rw[<-List.map_tail,<-List.map_take,o3];rfl
 have m4:((o.enc.map AV.iv).drop 2).take 1=[.nI o.u]:=by rw[<-List.map_drop,<-List.map_take,o4];rfl
 unfold vi;generalize o.enc.map AV.iv=oe at *;generalize o.c=c at *;generalize o.u=u at *;unfold Qy nV r7;refine af (aj ?_);refine ag rfl ?_;cases there with
 |false=>
  simp only[Bool.not_false,if_true,Bool.false_eq_true,if_false];refine aj ?_;have hE:=Ext.refl hf (show nx<=nx+2+2 by omega);exact ax ⟨rfl,_,_,_,_,_,_,hE.le,hE.fresh,G.ext hE,λ_ _=>rfl,rfl,rfl⟩
 |true=>
  simp only[Bool.not_true,Bool.false_eq_true,if_false,if_true];refine ak ?_;simp only[Ex.then];refine af (af ?_);have iT:=G.a.len;have jf:ra.length=g.aQ.length:=G.al.1;rw[jf]at iT;refine bK ?_;refine aq ?_;refine b7 (λm s1=>∃(j n2:Nat),j+m=g.aQ.length/\nx<=n2/\eG (oK c u) (g.aQ.drop j) j=eG (oK c u) g.aQ 0/\
   s1=⟨[(0,.ref aN 0 0 0),(3,.nI now),(7,.ref kZ 0 0 0),(16,.nI j)],H,n2⟩) (m:=g.aQ.length)
   ⟨0,nx+2+1,by omega,by omega,rfl,by simp[aP,an]⟩ ?_
  rintro m s1 ⟨j,n2,CV,r9,hY,rfl⟩;refine af (af ?_);by_cases hj:j<g.aQ.length
  ·obtain⟨a,ha⟩:∃a,g.aQ[j]?=some a:=⟨_,List.getElem?_eq_getElem hj⟩;have dX:IntKind.i64.wrap ((j:Int)+1)=(j:Int)+1:=IntWalk.i64_in _ (by omega);rw[qh ha]at hY;obtain⟨row,aH,gx,rfl,kH⟩:=G.al.get ha;obtain⟨hU,va,i1,i2,iJ,i4⟩:=G.a.at_ aH;have G0:=G;rw[iJ]at G0;rw[jf]at iJ;simp only[eH]at aH;refine aD (s':=⟨[(0,.ref aN 0 0 0),(3,.nI now),(7,.ref kZ 0 0 0),(16,.nI j),(79,.bI true)],H,n2+7⟩) (by
    simp[-len,dc,iT,hj]) ?_
   refine ag (t:=true) rfl (ak (af (aq (af (Wp.drawn rfl ?_)))));rw[iJ]at dc;refine aD (s':=⟨[(0,.ref aN 0 0 0),(3,.nI now),(7,.ref kZ 0 0 0),(16,.nI j),(116,.bI (oK c u a))],H,n2+7+35⟩) (by
    unfold oK;cases h1:a.c==c<;>cases h2:a.u==u<;>simp[dc,hb,i4,hj,aH,m0,m3,m4,h1,h2]) ?_
   refine ag rfl ?_;cases hm:oK c u a with
   |true=>
    rw[hm]at hY;simp only[if_true]at hY ⊢;refine au (s':=⟨[],ay.set H hU (.buf va 5 (ra.set j [AV.iv (IV.int IntKind.i64 a.c),AV.iv (IV.int IntKind.i64 a.u),gx,AV.iv (IV.int IntKind.i64 a.f),AV.iv (IV.int IntKind.i64 now)])),n2+7+35+9⟩) (by
     simp[dc,i4,aH,hj]) ?_
    have G1:=G0.ext (Ext.refl hf (show nx<=n2+7+35+9+2 by omega));have vO:a.fits:=G.fits a (List.mem_of_getElem? ha);have G2:=G1.UU i4 (by omega) i2 (i:=j) (a:={ a with t:=now }) (r:=[AV.iv (IV.int IntKind.i64 a.c),AV.iv (IV.int IntKind.i64 a.u),gx,AV.iv (IV.int IntKind.i64 a.f),AV.iv (IV.int IntKind.i64 now)]) ⟨gx,rfl,kH.mono (by omega) λ_ _=>rfl⟩ vO;have ux:g.aQ.modify (j:Int).toNat (λa=>{ a with t:=now })=g.aQ.set j { a with t:=now }:=by
     rw[Int.toNat_natCast];apply List.ext_getElem?;intro k;rw[List.getElem?_modify];by_cases hk:j=k
     ·subst hk;rw[List.getElem?_set_self hj,ha];simp
     ·rw[List.getElem?_set_ne hk];simp[hk]
    rw[<-hY,if_pos (show(0:Int)<=(j:Int) by omega),ux];have oF:4*lo<=hU:=G0.la _ _ _ _ rfl;have aav:hU<4*nx:=by rcases G0.a with⟨h, -⟩|⟨ed,v',q1, -,q3, -⟩;(cases h);(cases q3;exact q1)
    refine aj ?_;exact ax ⟨rfl,_,_,_,_,_,_,by show nx<=n2+7+35+9+2;omega,λk hk=>by
     show get (ay.set H hU _) k=none
     have Fo:4*(n2+7+35+9+2)<=k:=hk;rw[aF _ _ (by omega)];exact hf k (by omega),G2,λk hk=>aF _ _ (by omega),rfl,rfl⟩
   |false=>
    rw[hm]at hY;simp only[Bool.false_eq_true,if_false]at hY ⊢;refine ak ?_;simp only[Ex.then,Ex.inBlock];refine aD (by simp[dX];rfl) ?_;exact⟨m - 1,by omega,j+1,_,by omega,by show nx<=n2+7+35+3;omega,hY,by simp[aP,an]⟩
  ·obtain rfl:j=g.aQ.length:=by omega
   refine aD (s':=⟨[(0,.ref aN 0 0 0),(3,.nI now),(7,.ref kZ 0 0 0),(16,.nI g.aQ.length),(79,.bI false)],H,n2+7⟩) (by
    simp[-len,dc,iT]) ?_
   refine ag (t:=false) rfl (aO ?_);simp only[Ex.then,Ex.inBlock,if_true];rw[List.drop_length]at hY;have:¬0<=eG (oK c u) g.aQ 0:=by rw[<-hY];simp[eG]
   rw[if_neg this];have hE:=Ext.refl hf (show nx<=n2+7+2 by omega);refine aj ?_;exact ax ⟨rfl,_,_,_,_,_,_,hE.le,hE.fresh,G.ext hE,λ_ _=>rfl,rfl,rfl⟩
end
section
variable {p1:Nat->Option ao.aA} {p2:Nat->Option aA}
set_option maxHeartbeats 8000000 in
theorem O2 (bF:bW p2) (L:nF p1 p2) (kZ:Nat) (o:ao.Op) (ho:o.ok) (now:Nat) (there:Bool) (v4 MW:AV) (lo aN:Nat) (g:Lg) (H:Hp) (nx:Nat) (hf:cr H nx) {ya yp yd:AV} {ra rp:List (List AV)} (G:iV lo H nx aN [] g ya yp yd ra rp) (hl:g.aQ.length<=1000)
  (hb:get H kZ=some (.cells (o.enc.map AV.iv))) :
  Wp p1 p2 Qx ⟨[(0,.ref aN 0 0 0),(3,.nI now),(4,v4),(7,.ref kZ 0 0 0),(12,.bI there),(29,MW),(30,.bI true)],H,nx⟩
   (Gw lo aN nx H (if there then se g o now else g)):=by
 have dc:=G.at_;simp only[List.nil_append]at dc;obtain⟨o0,o1,o2,o3,o4,o5, -⟩:=rm o;have m0:(o.enc.map AV.iv).length=24:=by rw[List.length_map];exact o0
 have m3:((o.enc.map AV.iv).tail).take 1=[.nI o.c]:=by rw[<-List.map_tail,<-List.map_take,o3];rfl
 have m5:((o.enc.map AV.iv).drop 5).take 7=o.x.enc.map AV.iv:=by rw[<-List.map_drop,<-List.map_take,o5]
 have mxl:(o.x.enc.map AV.iv).length=7:=by rw[List.length_map];exact o.x.kR
 have MD:=F0 ho.x;obtain⟨K1,ct⟩:=VK (p1:=p1) L ho.x;unfold se;generalize lW o.x=r at *;obtain⟨bs,er⟩:=r;simp only[]at ct MD;generalize o.enc.map AV.iv=oe at *;generalize o.x.enc.map AV.iv=xe at *;generalize o.c=c at *;generalize hR:(if er=0/\gb c g.aQ<6 then { g with aQ:=g.aQ++[⟨c,(nU c g.aQ:Int)+1,bs,now,0⟩] } else g)=R;unfold Qx nV r7;refine af (aj ?_);refine ag rfl ?_;cases there with
 |false=>
  simp only[Bool.not_false,if_true,Bool.false_eq_true,if_false];refine aj ?_;have hE:=Ext.refl hf (show nx<=nx+2+2 by omega);exact ax ⟨rfl,_,_,_,_,_,_,hE.le,hE.fresh,G.ext hE,λ_ _=>rfl,rfl,rfl⟩
 |true=>
  simp only[Bool.not_true,Bool.false_eq_true,if_false,if_true];refine ak ?_;simp only[Ex.then];refine cq (K:=K1) (λn hn=>by
   have e1:=ct n hn H;simp[hb,m0,m5,mxl,e1];rfl) ?_
  refine af (au (by
   have Vr:(er != 0)=!decide (er=0):=by by_cases h:er=0<;>simp[h]
   simp[Vr];rfl) ?_)
  refine ag rfl ?_;by_cases nJ:er=0
  ·rw[decide_eq_true nJ];simp only[Bool.not_true,Bool.false_eq_true,if_false];refine ak ?_;simp only[Ex.then];refine af (af ?_);obtain⟨n1,P5,K2,cZ⟩:=XF (p1:=p1) bF L.OZ G hl c (nx+2+8+2+5);refine aI (K:=K2) (λn hn=>by
    have e1:=cZ n hn;have h2:decide ((6:Int)<=(gb c g.aQ:Int))=decide (6<=gb c g.aQ):=decide_eq_decide.2 (by omega);generalize fH p1 p2 n=cx at e1;simp[hb,m0,m3,e1,h2];rfl) ?_
   refine ag rfl ?_;by_cases sD:6<=gb c g.aQ
   ·rw[if_neg (by omega)]at hR;subst hR;rw[decide_eq_true sD];simp only[if_true];refine aj ?_;have hE:=Ext.refl hf (show nx<=n1+2 by omega);exact ax ⟨rfl,_,_,_,_,_,_,hE.le,hE.fresh,G.ext hE,λ_ _=>rfl,rfl,rfl⟩
   ·rw[if_pos (by omega)]at hR;subst hR;rw[decide_eq_false sD];simp only[Bool.false_eq_true,if_false];refine ak ?_;simp only[Ex.then];refine af ?_;obtain⟨n2,r9,K3,fP⟩:=XG (p1:=p1) bF L.O0 G hl c (n1+6);have hN9:=Bc c g.aQ;generalize nU c g.aQ=N at *;have MF:IntKind.i64.wrap ((N:Int)+1)=(N:Int)+1:=IntWalk.i64_in _ (by omega);refine aI (K:=K3) (λn hn=>by
     have e1:=fP n hn;generalize fH p1 p2 n=cx at e1;simp[hb,m0,m3,e1,MF];rfl) ?_
    refine af (Wp.drawn rfl ?_);have hE:=Ext.refl hf (show nx<=n2 by omega);have G1:=G.ext hE;obtain⟨y',H4,q1,q2,q3,q4,q5⟩:=G1.Qi hE.fresh (a:=⟨c,(N:Int)+1,bs,now,0⟩) (r:=[.nI c,.nI ((N:Int)+1),.iv (.sl 16 (bs.map B.enc)),.nI now,.nI 0]) ⟨_,rfl,LB.sl _ _ _⟩ MD (gid:=4*(n2+11)) (slot:=n2+12) (n':=n2+16) (by omega) (by omega) (by omega) (by omega) (by have:=G.al.1;omega);have kA:get H (4*(n2+11))=none:=hf _ (by omega);have uf:∀ob,get (ay.set H (4*(n2+11)) ob) aN=get H aN:=λob=>aF _ _ (by have:=G.li;omega)
    have mC:bh y' = .ret [y']:=q4.a.cell;simp only[List.nil_append]at q2 q3 q4 q5;refine aD (s':=⟨[(15,.nI ((N:Int)+1))],_,n2+16⟩) (by
     simp[-bh,nT,oJ,dc,hb,m0,m3,kA,uf,mC,bO,cz,Nat.add_assoc,q1,q2];rfl) ?_
    refine aj ?_;have ei:=Ext.refl q3 (show n2+16<=n2+16+3 by omega);exact ax ⟨rfl,_,_,_,_,_,_,by show nx<=n2+16+3;omega,ei.fresh,q4.ext ei,q5,rfl,rfl⟩
  ·rw[if_neg (λh=>nJ h.1)]at hR;subst hR;rw[decide_eq_false nJ];simp only[Bool.not_false,if_true];refine aj ?_;have hE:=Ext.refl hf (show nx<=nx+2+8+2+3 by omega);exact ax ⟨rfl,_,_,_,_,_,_,hE.le,hE.fresh,G.ext hE,λ_ _=>rfl,rfl,rfl⟩
set_option maxHeartbeats 8000000 in
theorem O3 (kZ:Nat) (o:ao.Op) (now:Nat) (there right:Bool) (MW:AV) (lo aN:Nat) (g:Lg) (H:Hp) (nx:Nat) (hf:cr H nx) {ya yp yd:AV} {ra rp:List (List AV)} (G:iV lo H nx aN [] g ya yp yd ra rp) (hl:g.cQ.length<=1000)
  (hb:get H kZ=some (.cells (o.enc.map AV.iv))) :
  Wp p1 p2 Qz ⟨[(0,.ref aN 0 0 0),(3,.nI now),(4,.bI right),(7,.ref kZ 0 0 0),(12,.bI there),(29,MW),(125,.bI true)],H,nx⟩
   (Gw lo aN nx H (if there&&right then { g with cQ:=g.cQ++[⟨o.c,o.e,now⟩] } else g)):=by
 have dc:=G.at_;simp only[List.nil_append]at dc;obtain⟨o0,o1,o2,o3,o4, -,o6⟩:=rm o;have m0:(o.enc.map AV.iv).length=24:=by rw[List.length_map];exact o0
 have m3:((o.enc.map AV.iv).tail).take 1=[.nI o.c]:=by rw[<-List.map_tail,<-List.map_take,o3];rfl
 have m6:((o.enc.map AV.iv).drop 12).take 12=o.e.enc.map AV.iv:=by rw[<-List.map_drop,<-List.map_take,o6]
 generalize o.enc.map AV.iv=oe at *;unfold Qz nV r7;refine af (aj ?_);refine ag rfl ?_;cases there with
 |false=>
  simp only[Bool.not_false,if_true,Bool.false_and,Bool.false_eq_true,if_false];refine aj ?_;have hE:=Ext.refl hf (show nx<=nx+2+2 by omega);exact ax ⟨rfl,_,_,_,_,_,_,hE.le,hE.fresh,G.ext hE,λ_ _=>rfl,rfl,rfl⟩
 |true=>
  simp only[Bool.not_true,Bool.true_and,Bool.false_eq_true,if_false];refine ak ?_;simp only[Ex.then];refine af (aj ?_);refine ag rfl ?_;cases right with
  |false=>
   simp only[Bool.not_false,if_true,Bool.false_eq_true,if_false];refine aj ?_;have hE:=Ext.refl hf (show nx<=nx+2+2+2 by omega);exact ax ⟨rfl,_,_,_,_,_,_,hE.le,hE.fresh,G.ext hE,λ_ _=>rfl,rfl,rfl⟩
  |true=>
   simp only[Bool.not_true,Bool.false_eq_true,if_false,if_true];refine ak ?_;simp only[Ex.then];refine af (Wp.drawn rfl ?_);have HP:IntKind.i64.wrap ((g.cQ.length:Int)+1)=(g.cQ.length:Int)+1:=IntWalk.i64_in _ (by omega);have hE:=Ext.refl hf (show nx<=nx+2+2 by omega);have ma:rp.length=g.cQ.length:=G.pl.1;obtain⟨y',H4,q1,q2,q3,q4,q5⟩:=(G.ext hE).Qj hE.fresh ⟨o.c,o.e,now⟩ (gid:=4*(nx+2+2+17)) (slot:=nx+2+2+18) (n':=nx+2+2+22) (by omega) (by omega) (by omega) (by omega) (by omega);have Be:=G.p.len;rw[ma]at Be;have kA:get H (4*(nx+2+2+17))=none:=hf _ (by omega);have uf:∀ob,get (ay.set H (4*(nx+2+2+17)) ob) aN=get H aN:=λob=>aF _ _ (by have:=G.li;omega)
   have mC:bh y' = .ret [y']:=q4.p.cell;have QB:=q4.p.len;simp only[List.nil_append]at q2 q3 q4 q5;refine aD (s':=⟨[(0,.ref aN 0 0 0)],_,nx+2+2+22⟩) (by
    simp only[Nat.add_assoc]at q1 q2 kA uf;simp only[gU,eH,E.enc,V.enc,List.map_cons,List.map_nil,List.map_append,List.cons_append,List.nil_append]at q1;simp only[E.enc,V.enc,List.cons_append,List.nil_append,List.map_cons,List.map_nil]at m6;simp[-bh, -len,nT,oJ,dc,hb,m0,m3,m6,Be,HP,kA,uf,mC,bO,cz,Nat.add_assoc,q1,q2];rfl) ?_
   refine af ?_;have qD:=q4.at_;simp only[List.nil_append]at qD QB;refine aD (by simp[-len,qD,QB];rfl) ?_;have ei:=Ext.refl q3 (show nx+2+2+22<=nx+2+2+22+7 by omega);exact ax ⟨rfl,_,_,_,_,_,_,by show nx<=nx+2+2+22+7;omega,ei.fresh,q4.ext ei,q5,rfl,rfl⟩
set_option maxHeartbeats 8000000 in
theorem Kv (now:Nat) (lo aN:Nat) (g:Lg) (H:Hp) (nx:Nat) (hf:cr H nx) {ya yp yd:AV} {ra rp:List (List AV)} (G:iV lo H nx aN [] g ya yp yd ra rp) (hl:g.aR.length<=1000) :
  Wp p1 p2 QA ⟨[(0,.ref aN 0 0 0),(3,.nI now),(157,.bI true)],H,nx⟩
   (Gw lo aN nx H { g with aR:=g.aR++[(now:Int)] }):=by
 have dc:=G.at_;simp only[List.nil_append]at dc;unfold QA nV r7;obtain⟨y',H4,q1,q2,q3,q4,q5⟩:=G.Qk hf (now:Int) (gid:=4*(nx+6)) (slot:=nx+7) (n':=nx+11) (by omega) (by omega) (by omega) (by omega) (by omega);have kA:get H (4*(nx+6))=none:=hf _ (by omega);have uf:∀ob,get (ay.set H (4*(nx+6)) ob) aN=get H aN:=λob=>aF _ _ (by have:=G.li;omega)
 have mC:bh y' = .ret [y']:=QE.cell (e:=1) q4.d;simp only[List.nil_append]at q2 q3 q4 q5;simp only[gk]at q1;refine au (s':=⟨[],_,nx+11⟩) (by
  simp[-bh,nT,oJ,dc,kA,uf,mC,bO,cz,q1,q2];rfl) ?_
 refine aj ?_;have ei:=Ext.refl q3 (show nx+11<=nx+11+2 by omega);exact ax ⟨rfl,_,_,_,_,_,_,by show nx<=nx+11+2;omega,ei.fresh,q4.ext ei,q5,rfl,rfl⟩
end
section
variable {p1:Nat->Option ao.aA} {p2:Nat->Option aA}
set_option maxHeartbeats 8000000 in
theorem XH (bF:bW p2) (L:nF p1 p2) (x:Hd) (i:Nat) (o:ao.Op) (ho:o.ok) (lo aN:Nat) (g:Lg) (H:Hp) (nx:Nat) (hf:cr H nx) {ya yp yd:AV} {ra rp:List (List AV)} (G:iV lo H nx aN [] g ya yp yd ra rp) (iT:g.aQ.length<=1000) (xv:g.cQ.length<=1000) (Bd:g.aR.length<=1000) :
  ∃v H' aW jJ jK jL iA jM,nx<=aW/\cr H' aW/\iV lo H' aW aN [] (gJ x g i o) jJ jK jL iA jM/\(∀k,k<4*lo->get H' k=get H k)/\
   Ev p1 p2 161 [.ref aN 0 0 0,.agg (cj x),.agg (o.enc.map AV.iv),.nI (i+1:Nat),.bI (eX o.e)] H nx (v,H',aW):=by
 obtain⟨o0,o1,o2,o3, -, -, -⟩:=rm o;have m0:(o.enc.map AV.iv).length=24:=by rw[List.length_map];exact o0
 have m1:(o.enc.map AV.iv).take 1=[.nI o.k]:=by rw[<-List.map_take,o1];rfl
 have m3:((o.enc.map AV.iv).tail).take 1=[.nI o.c]:=by rw[<-List.map_tail,<-List.map_take,o3];rfl
 have eJ:get H (4*nx)=none:=hf _ (by omega);have vj:get (ay.set H (4*nx) (.cells (cj x))) (4*(nx+1))=none:=by rw[aF _ _ (by omega)];exact hf _ (by omega)
 have dy:Ext H nx (ay.set (ay.set H (4*nx) (.cells (cj x))) (4*(nx+1)) (.cells (o.enc.map AV.iv))) (nx+4):=((Ext.refl hf (by omega)).set (by omega) (by omega) _).set (by omega) (by omega) _;have hb:get (ay.set (ay.set H (4*nx) (.cells (cj x))) (4*(nx+1)) (.cells (o.enc.map AV.iv))) (4*(nx+1))=some (.cells (o.enc.map AV.iv)):=ar _ _ _;have Y0:get (ay.set (ay.set H (4*nx) (.cells (cj x))) (4*(nx+1)) (.cells (o.enc.map AV.iv))) (4*nx)=some (.cells (cj x)):=by rw[aF _ _ (by omega)];exact ar _ _ _
 have oF:lo<nx:=by have:=G.li;omega
 have ni:((i+1:Nat):Int)=(i:Int)+1:=by omega
 have fin:∀(n1:Nat) (H1:Hp) (R:Lg) (e:Ex) (st:St),Gw lo aN n1 H1 R e st->nx<=n1->(∀k,k<4*lo->get H1 k=get H k)->R=gJ x g i o->
   ∃r:AV×Hp×Nat,(∃jJ jK jL iA jM,nx<=r.2.2/\cr r.2.1 r.2.2/\iV lo r.2.1 r.2.2 aN [] (gJ x g i o) jJ jK jL iA jM/\(∀k,k<4*lo->get r.2.1 k=get H k))/\Fin r7.res r e st:=by
  rintro n1 H1 R e st ⟨rfl,v,jJ,jK,jL,iA,jM,h1,h2,h3,h4,h5⟩ h6 h7 rfl;exact⟨(v,st.hp,st.nx),⟨jJ,jK,jL,iA,jM,by show nx<=st.nx;omega,h2,h3,λk hk=>(h4 k hk).trans (h7 k hk)⟩,h5⟩
 have key:Wp p1 p2 r7.body ⟨params [.ref aN 0 0 0,.agg (cj x),.agg (o.enc.map AV.iv),.nI (i+1:Nat),.bI (eX o.e)] 0,H,nx⟩
   (λe st=>∃r:AV×Hp×Nat,(∃jJ jK jL iA jM,nx<=r.2.2/\cr r.2.1 r.2.2/\iV lo r.2.1 r.2.2 aN [] (gJ x g i o) jJ jK jL iA jM/\(∀k,k<4*lo->get r.2.1 k=get H k))/\Fin r7.res r e st):=by
  refine au (s':=⟨[(0,.ref aN 0 0 0),(3,.nI (i+1:Nat)),(4,.bI (eX o.e)),(6,.ref (4*nx) 0 0 0),(7,.ref (4*(nx+1)) 0 0 0)],ay.set (ay.set H (4*nx) (.cells (cj x))) (4*(nx+1)) (.cells (o.enc.map AV.iv)),nx+4⟩) (by
   generalize o.enc.map AV.iv=oe at *;simp[eJ,vj]) ?_
  have MX:=G.ext dy;have jV:∀k,k<4*lo->get (ay.set (ay.set H (4*nx) (.cells (cj x))) (4*(nx+1)) (.cells (o.enc.map AV.iv))) k=get H k:=λk hk=>by rw[aF _ _ (by omega),aF _ _ (by omega)]
  generalize ay.set (ay.set H (4*nx) (Ob.cells (cj x))) (4*(nx+1)) (Ob.cells (o.enc.map AV.iv))=H1 at *;refine au (s':=⟨[(0,.ref aN 0 0 0),(3,.nI (i+1:Nat)),(4,.bI (eX o.e)),(7,.ref (4*(nx+1)) 0 0 0),(12,.bI (!mR x o.c))],H1,nx+4+12⟩) (by
   unfold mR;rw[gT]at Y0;generalize o.enc.map AV.iv=oe at *;generalize o.c=c at *;have Hs:decide (0<=c)=!decide (c<0):=by by_cases h:c<0<;>simp[h]<;>omega
   have LR:decide (c<(x.hs.length:Int))=!decide ((x.hs.length:Int)<=c):=by by_cases h:(x.hs.length:Int)<=c<;>simp[h]<;>omega
   cases h1:decide (c<0)<;>simp[hb,m0,m3,Y0,Hs,LR,h1]) ?_
  refine af (au (s':=⟨[(0,.ref aN 0 0 0),(3,.nI (i+1:Nat)),(4,.bI (eX o.e)),(7,.ref (4*(nx+1)) 0 0 0),(12,.bI (!mR x o.c)),(29,.nI o.k)],H1,nx+4+12+2⟩) (by
   generalize o.enc.map AV.iv=oe at *;simp[hb,m0,m1]) ?_)
  refine aq (au (by
   have:(o.k==1)=decide (o.k=1):=by by_cases h:o.k=1<;>simp[h]
   simp[this];rfl) ?_)
  refine ag rfl ?_;by_cases k1:o.k=1
  ·rw[decide_eq_true k1];simp only[if_true];have hE:=Ext.refl dy.fresh (show nx+4<=nx+4+12+2+2 by omega);refine Wp.mono (O2 bF L (4*(nx+1)) o ho (i+1) (!mR x o.c) _ _ lo aN g H1 (nx+4+12+2+2) hE.fresh (MX.ext hE) iT hb) ?_;intro e st h;have he:=h.1;subst he;refine fin _ _ _ _ _ h (by omega) jV ?_;unfold gJ;simp only[k1,ni];cases mR x o.c<;>simp
  ·rw[decide_eq_false k1];simp only[Bool.false_eq_true,if_false];refine au (by
    have:(o.k==2)=decide (o.k=2):=by by_cases h:o.k=2<;>simp[h]
    simp[this];rfl) ?_
   refine ag rfl ?_;by_cases k2:o.k=2
   ·rw[decide_eq_true k2];simp only[if_true];have hE:=Ext.refl dy.fresh (show nx+4<=nx+4+12+2+2+2 by omega);refine Wp.mono (O1 (4*(nx+1)) o (i+1) (!mR x o.c) (.undef) _ _ lo aN g H1 (nx+4+12+2+2+2) hE.fresh (MX.ext hE) iT hb) ?_;intro e st h;have he:=h.1;subst he;refine fin _ _ _ _ _ h (by omega) jV ?_;unfold gJ;simp only[k2,ni];cases mR x o.c<;>simp
   ·rw[decide_eq_false k2];simp only[Bool.false_eq_true,if_false];refine au (by
     have:(o.k==3)=decide (o.k=3):=by by_cases h:o.k=3<;>simp[h]
     simp[this];rfl) ?_
    refine ag rfl ?_;by_cases k3:o.k=3
    ·rw[decide_eq_true k3];simp only[if_true];have hE:=Ext.refl dy.fresh (show nx+4<=nx+4+12+2+2+2+2 by omega);refine Wp.mono (O3 (4*(nx+1)) o (i+1) (!mR x o.c) (eX o.e) _ lo aN g H1 (nx+4+12+2+2+2+2) hE.fresh (MX.ext hE) xv hb) ?_;intro e st h;have he:=h.1;subst he;refine fin _ _ _ _ _ h (by omega) jV ?_;unfold gJ;simp only[k3,ni];cases mR x o.c<;>cases eX o.e<;>simp
    ·rw[decide_eq_false k3];simp only[Bool.false_eq_true,if_false];refine au (by
      have:(o.k==5)=decide (o.k=5):=by by_cases h:o.k=5<;>simp[h]
      simp[this];rfl) ?_
     refine ag rfl ?_;by_cases k5:o.k=5
     ·rw[decide_eq_true k5];simp only[if_true];have hE:=Ext.refl dy.fresh (show nx+4<=nx+4+12+2+2+2+2+2 by omega);refine Wp.mono (Kv (i+1) lo aN g H1 (nx+4+12+2+2+2+2+2) hE.fresh (MX.ext hE) Bd) ?_;intro e st h;have he:=h.1;subst he;refine fin _ _ _ _ _ h (by omega) jV ?_;unfold gJ;simp only[k5,ni,if_true];cases mR x o.c<;>simp
     ·rw[decide_eq_false k5];simp only[Bool.false_eq_true,if_false];refine ak ?_;simp only[Ex.then,Ex.inBlock];refine aj ?_;have hs:gJ x g i o=g:=by
       unfold gJ;simp only[if_neg k1,if_neg k2,if_neg k3,if_neg k5,ite_self]
      have hE:=Ext.refl dy.fresh (show nx+4<=nx+4+12+2+2+2+2+2+2 by omega);refine ax ⟨(_,H1,nx+4+12+2+2+2+2+2+2),⟨ya,yp,yd,ra,rp,by show nx<=nx+4+12+2+2+2+2+2+2;omega,hE.fresh,?_,jV⟩,rfl,rfl⟩;rw[hs];exact MX.ext hE
 obtain⟨⟨v,H',aW⟩,⟨jJ,jK,jL,iA,jM,h1,h2,h3,h4⟩,h5⟩:=Ev.jn bF L.aaV rfl rfl _ key;exact⟨v,H',aW,jJ,jK,jL,iA,jM,h1,h2,h3,h4,h5⟩
end
section
variable {p1:Nat->Option ao.aA} {p2:Nat->Option aA}
theorem Kw (L:nF p1 p2) (x:Hd) (hp:x.ps.length<=100) (hh:x.hs.length<=100):∃K,∀m,K<=m->∀(H:Hp),(dF (one p1 m) (.iv (.fn 160 [])) [.agg (cj x)]).run H=some (.nI (eS x),H):=by
 obtain⟨K1,ct⟩:=Og L.aaU x (by unfold maxLen;omega) (by unfold maxLen;omega);refine⟨K1,λm hm H=>?_⟩;have e1:(one p1 m 160 [.agg (x.enc.map ao.AV.iv)] []).bind shut=some (.nI (eS x)):=ct m (by omega);have hz:∀w,bZ w (.agg (cj x)) = .ret (.agg (x.enc.map ao.AV.iv)):=λw=>by
  unfold bZ;simp only[];rw[FY];rfl
 simp[dF,callee,az,M.lift,M.run,M.aG,hz,e1,kX,ks,M.ok,flat,ew,eI,eZ,M.bind]
theorem Kx (L:nF p1 p2) (e:E):∃K,∀m,K<=m->∀(H:Hp),(dF (one p1 m) (.iv (.fn 34 [])) [.agg (e.enc.map AV.iv)]).run H=some (.bI (eX e),H):=by
 obtain⟨K1,ct⟩:=FN L.D.HM L.HN e;refine⟨K1,λm hm H=>?_⟩;have e1:(one p1 m 34 [.agg (e.enc.map ao.AV.iv)] []).bind shut=some (.bI (eX e)):=ct m (by omega);have hz:bZ false (.agg (e.enc.map AV.iv)) = .ret (.agg (e.enc.map ao.AV.iv)):=by
  unfold bZ;simp only[];rw[ua false 7 e.enc e.fk];rfl
 simp[dF,callee,az,M.lift,M.run,M.aG,hz,e1,kX,ks,M.ok,flat,ew,eI,eZ,M.bind]
set_option maxHeartbeats 4000000 in
theorem QC (bF:bW p2) (L:nF p1 p2) (x:Hd) (hp:x.ps.length<=100) (hh:x.hs.length<=100) (l:List ao.Op) (hl:l.length<=1000) (cg:∀o ∈ l,o.ok) (H:Hp) (nx:Nat) (hf:cr H nx) :
  ∃H' aW aN ya yp yd ra rp,Ext H nx H' aW/\iV (nx+1) H' aW aN [] (eO x l) ya yp yd ra rp/\Ev p1 p2 157 [.agg (cj x),.iv (.sl 24 (l.map ao.Op.enc))] H nx (.ref aN 0 0 0,H',aW):=by
 have eJ:get H (4*nx)=none:=hf _ (by omega);have vj:get H (4*(nx+3))=none:=hf _ (by omega);have dy:Ext H nx (ay.set H (4*nx) (.cells (cj x))) (nx+2):=(Ext.refl hf (by omega)).set (by omega) (by omega) _;have Ka:get (ay.set H (4*nx) (.cells (cj x))) (4*(nx+3))=none:=by rw[aF _ _ (by omega)];exact vj
 have dH:Ext H nx (ay.set (ay.set H (4*nx) (.cells (cj x))) (4*(nx+3)) (.cells [.iv (.aV 5),.iv (.aV 15),.iv (.aV 1)])) (nx+5):=(dy.up (show nx+2<=nx+5 by omega)).set (by omega) (by omega) _;have hG:get (ay.set (ay.set H (4*nx) (.cells (cj x))) (4*(nx+3)) (.cells [.iv (.aV 5),.iv (.aV 15),.iv (.aV 1)])) (4*nx)=some (.cells (cj x)):=by rw[aF _ _ (by omega)];exact ar _ _ _
 have MJ:get (ay.set (ay.set H (4*nx) (.cells (cj x))) (4*(nx+3)) (.cells [.iv (.aV 5),.iv (.aV 15),.iv (.aV 1)])) (4*(nx+3))=some (.cells [.iv (.aV 5),.iv (.aV 15),.iv (.aV 1)]):=ar _ _ _;generalize oW:ay.set (ay.set H (4*nx) (.cells (cj x))) (4*(nx+3)) (.cells [.iv (.aV 5),.iv (.aV 15),.iv (.aV 1)])=H1 at dH hG MJ;have G1:iV (nx+1) H1 (nx+5) (4*(nx+3)) [] ⟨[],[],[]⟩ (.iv (.aV 5)) (.iv (.aV 15)) (.iv (.aV 1)) [] []:=
  ⟨⟨by omega,by omega⟩,MJ,QE.nil _ _ _,AL.nil _ _,QE.nil _ _ _,PL.nil,QE.nil _ _ _,(λk o m w h=>by cases h),(λk o m w h=>by cases h),(λk o m w h=>by cases h),λa ha=>by cases ha⟩
 obtain⟨K1,ct⟩:=Kw (p1:=p1) L x hp hh;have key:Wp p1 p2 JD.body ⟨params [.agg (cj x),.iv (.sl 24 (l.map ao.Op.enc))] 0,H,nx⟩ (λe st=>∃r:AV×Hp×Nat,(∃aN ya yp yd ra rp,r.1 = .ref aN 0 0 0/\Ext H nx r.2.1 r.2.2/\iV (nx+1) r.2.1 r.2.2 aN [] (eO x l) ya yp yd ra rp)/\Fin JD.res r e st):=by
  refine au (by simp[eJ];rfl) ?_;refine au (s':=⟨_,H1,nx+5⟩) (by
   rw[<-oW];simp[Ka,cz,Nat.add_assoc];rfl) ?_
  refine af (af ?_);unfold eO;refine bK ?_;refine aq ?_;have ask:∀(i n2:Nat) (H2:Hp),get H2 (4*nx)=some (.cells (cj x))->∀n,K1<=n->aS (one p1 n) (fH p1 p2 n) false [⟨some 9,.eM (.t 6),none,[]⟩,⟨some 10,.eM (.t 1),none,[]⟩,⟨some 11,.len false (.t 10),none,[]⟩,⟨some 12,.bin .lss 0 (.t 9) (.t 11),none,[]⟩,⟨some 13,.eM (.t 12),none,[]⟩,
    ⟨some 14,.load true 4 (.t 2),some (13,true),[]⟩,⟨some 15,.call 0 (.c (.iv (.fn 160 []))) [.t 14],some (13,true),[]⟩,⟨some 16,.bin .eql 0 (.t 15) (.c (.nI (0))),some (13,true),[]⟩,⟨some 17,.pick (.t 13) (.t 16) (.c (.bI false)),none,[]⟩] [1,2,5,6,17]
    ⟨[(1,.iv (.sl 24 (l.map ao.Op.enc))),(2,.ref (4*nx) 0 0 0),(5,.ref (4*(nx+3)) 0 0 0),(6,.nI i)],H2,n2⟩=some ⟨[(1,.iv (.sl 24 (l.map ao.Op.enc))),(2,.ref (4*nx) 0 0 0),(5,.ref (4*(nx+3)) 0 0 0),(6,.nI i),(17,.bI (decide (i<l.length)&&decide (eS x=0)))],H2,n2+9⟩:=by
   intro i n2 H2 qe n hn;have c:=ct n hn H2;have hb:(eS x==0)=decide (eS x=0):=by by_cases h:eS x=0<;>simp[h]
   generalize eS x=q at *;generalize aH:l.map ao.Op.enc=cH;have n9:cH.length=l.length:=by rw[<-aH];simp
   cases h0:decide (i<l.length)<;>simp[qe,iH,jE,c,hb,n9,h0]
  refine b7 (λm s1=>∃(i n2:Nat) (H2:Hp) (ya yp yd:AV) (ra rp:List (List AV)),i+m=l.length/\nx+5<=n2/\cr H2 n2/\iV (nx+1) H2 n2 (4*(nx+3)) [] (fG x l i) ya yp yd ra rp/\(∀k,k<4*(nx+1)->get H2 k=get H1 k)/\(0<i->eS x=0)/\
   s1=⟨[(1,.iv (.sl 24 (l.map ao.Op.enc))),(2,.ref (4*nx) 0 0 0),(5,.ref (4*(nx+3)) 0 0 0),(6,.nI i)],H2,n2⟩) (m:=l.length)
   ⟨0,nx+6,H1,_,_,_,_,_,by omega,by omega,λk hk=>dH.fresh k (by omega),G1.ext (Ext.refl dH.fresh (by omega)),λ_ _=>rfl,λh=>absurd h (Nat.lt_irrefl 0),by simp[aP,an]⟩ ?_
  rintro m s1 ⟨i,n2,H2,ya,yp,yd,ra,rp,oC,r9,HW,G2,sT,MY,rfl⟩;refine af (af ?_);refine aI (K:=K1) (λn hn=>ask i n2 H2 (by rw[sT _ (by omega)];exact hG) n hn) ?_;refine ag rfl ?_;cases nQ:(decide (i<l.length)&&decide (eS x=0))with
  |true=>
   simp only[Bool.and_eq_true,decide_eq_true_eq]at nQ;obtain⟨hi,hc⟩:=nQ;obtain⟨o,ho⟩:∃o,l[i]?=some o:=⟨_,List.getElem?_eq_getElem hi⟩;have aH:(l.map ao.Op.enc)[i]?=some o.enc:=by rw[List.getElem?_map,ho];rfl
   have dX:IntKind.i64.wrap ((i:Int)+1)=(i:Int)+1:=IntWalk.i64_in _ (by omega);have hlen:=oL x l i;have b9:=yI (h:=x) ho;obtain⟨o0,o1, -, -, -, -,o6⟩:=rm o;have fp:(o.e.enc).length=12:=rfl;have aaY:o.enc.take 24=o.enc:=List.take_of_length_le (by omega);simp only[if_true];refine ak ?_;simp only[Ex.then];refine af (aq (af ?_));generalize U0:l.map ao.Op.enc=cH at *;refine aD (by
    have:(o.k != 4)=!decide (o.k=4):=by by_cases h:o.k=4<;>simp[h]
    simp[aH,o0,o1,this];rfl) ?_
   refine ag rfl ?_;have qe:get H2 (4*nx)=some (.cells (cj x)):=by rw[sT _ (by omega)];exact hG
   have Bf:∀(H4:Hp) (n4:Nat) (Q:Ex->St->Prop),Q .norm ⟨[(1,.iv (.sl 24 cH)),(2,.ref (4*nx) 0 0 0),(5,.ref (4*(nx+3)) 0 0 0),(6,.nI (i+1:Nat))],H4,n4+3⟩->∀fr,fr=[(1,AV.iv (.sl 24 cH)),(2,.ref (4*nx) 0 0 0),(5,.ref (4*(nx+3)) 0 0 0),(6,.nI i)]\/fr=[(1,AV.iv (.sl 24 cH)),(2,.ref (4*nx) 0 0 0),(5,.ref (4*(nx+3)) 0 0 0),(6,.nI i),(25,.bI false)]->
     Wp p1 p2 (.ff false [⟨some 18,.eM (.t 6),none,[]⟩,⟨some 19,.bin .add 0 (.t 18) (.c (.nI (1))),none,[]⟩,⟨some 6,.eM (.t 19),none,[]⟩] [1,2,5,6]) ⟨fr,H4,n4⟩ Q:=λH4 n4 Q hQ fr eJ=>by
    refine aI (K:=0) (s':=⟨[(1,.iv (.sl 24 cH)),(2,.ref (4*nx) 0 0 0),(5,.ref (4*(nx+3)) 0 0 0),(6,.nI (i+1:Nat))],H4,n4+3⟩) (λn _=>by
     rcases eJ with rfl | rfl
     ·simp[dX]
     ·simp[dX]) hQ
   by_cases k4:o.k=4
   ·rw[decide_eq_true k4];simp only[Bool.not_true,Bool.false_eq_true,if_false];refine ak ?_;simp only[Ex.then,Ex.inBlock];have hs4:gJ x (fG x l i) i o=fG x l i:=by
     unfold gJ;simp only[k4,show ¬(4:Int)=5 by decide,show ¬(4:Int)=1 by decide,show ¬(4:Int)=2 by decide,show ¬(4:Int)=3 by decide,if_false,ite_self]
    have b8:=Ext.refl HW (show n2<=n2+9+6+3 by omega);refine Bf H2 (n2+9+6) _ ⟨m - 1,by omega,i+1,n2+9+6+3,H2,ya,yp,yd,ra,rp,by omega,by omega,b8.fresh,?_,sT,λ_=>hc,by simp[aP,an]⟩ _ (.inr rfl);rw[b9,hs4];exact G2.ext b8
   ·rw[decide_eq_false k4];simp only[Bool.not_false,if_true];refine Wp.drawn rfl ?_;obtain⟨K2,cZ⟩:=Kx (p1:=p1) L o.e;have b8:=Ext.refl HW (show n2<=n2+9+6+15 by omega);obtain⟨v,H4,n4,jJ,jK,jL,iA,jM,b1,b2,b3,b4,K3,fP⟩:=XH (p1:=p1) bF L x i o (cg o (List.mem_of_getElem? ho)) (nx+1) (4*(nx+3)) (fG x l i) H2 (n2+9+6+15) b8.fresh (G2.ext b8) (by omega) (by omega) (by omega);refine aI (K:=max K2 K3) (s':=⟨[(1,.iv (.sl 24 cH)),(2,.ref (4*nx) 0 0 0),(5,.ref (4*(nx+3)) 0 0 0),(6,.nI i)],H4,n4⟩) (λn hn=>by
     have c1:=cZ n (by omega) H2;have c2:=fP n (by omega);generalize fH p1 p2 n=cx at *;generalize eX o.e=re at *;generalize o.e.enc=ee at *;generalize o.enc=oe at *;have ni:((i+1:Nat):Int)=(i:Int)+1:=by omega
     rw[ni]at c2;simp[aH,qe,iH,jE,dX,o0,o6,aaY,fp,c1,c2]) ?_
    simp only[Ex.then,Ex.inBlock];refine Bf H4 n4 _ ⟨m - 1,by omega,i+1,n4+3,H4,jJ,jK,jL,iA,jM,by omega,by omega,λk hk=>b2 k (by omega),?_,λk hk=>(b4 k hk).trans (sT k hk),λ_=>hc,by simp[aP,an]⟩ _ (.inl rfl);rw[b9];exact b3.ext (Ext.refl b2 (by omega))
  |false=>
   simp only[Bool.false_eq_true,if_false];refine aO ?_;simp only[Ex.then,Ex.inBlock,if_true];refine aj ?_;have b8:=Ext.refl HW (show n2<=n2+9+2 by omega);have hrd:fG x l i=if eS x=0 then fG x l l.length else⟨[],[],[]⟩:=by
    by_cases hc:eS x=0
    ·rw[if_pos hc];rw[decide_eq_true hc,Bool.and_true]at nQ;have:=of_decide_eq_false nQ;rw[show i=l.length by omega]
    ·rw[if_neg hc];have:i=0:=Classical.byContradiction λh=>hc (MY (by omega))
     rw[this];rfl
   refine ax ⟨(_,H2,n2+9+2),⟨_,ya,yp,yd,ra,rp,rfl,⟨by show nx<=n2+9+2;omega,b8.fresh,λk hk=>by show get H2 k=get H k;rw[sT k (by omega)];exact dH.bu k hk⟩,?_⟩,rfl,rfl⟩;rw[<-hrd];exact G2.ext b8
 obtain⟨⟨y,H',aW⟩,⟨aN,ya,yp,yd,ra,rp,rfl,h1,h2⟩,h4⟩:=Ev.jn bF L.aaW rfl rfl _ key;exact⟨H',aW,aN,ya,yp,yd,ra,rp,h1,h2,h4⟩
end
def si (s b d:Int):Int:=if b=0/\s<d then d else b
def mD (s:Int) (l:List Int):Int:=l.foldl (si s) 0
def Bv (c bt:Int) (e:E) (a:Act):Bool:=(a.c != c)||((decide (0<a.t)&&decide (a.t<bt))||!gi a.b e)
def Bw (f s d:Int):Bool:=decide (f<d)&&decide (d<s)
def qE (c bt:Int) (p:Pb) (l:List Int) (a:Act):Bool:=!Bv c bt p.e a&&l.any (Bw a.f p.s)
def vA (g:Lg) (c:Int) (p:Pb):Int×Bool:=if mD p.s g.aR=0 then(0,false) else if g.aQ.any (qE c (mD p.s g.aR) p g.aR) then(mD p.s g.aR,true) else(0,false)
theorem MZ {s:Int} {l:List Int} {i:Nat} {d:Int} (h:l[i]?=some d):mD s (l.take (i+1))=si s (mD s (l.take i)) d:=by
 unfold mD;rw[List.take_add_one,h,List.foldl_append];rfl
section
variable {p1:Nat->Option ao.aA} {p2:Nat->Option aA}
theorem Gx (L:nF p1 p2) (bs:List B) (hl:bs.length<=1000) (hb:∀b ∈ bs,b.lim 1000 400) (e:E):∃K,∀m,K<=m->∀(H:Hp) (n:Nat) (y:AV),LB H n y bs->(dF (one p1 m) (.iv (.fn 8 [])) [y,.agg (e.enc.map AV.iv)]).run H=some (.bI (gi bs e),H):=by
 obtain⟨K,hK⟩:=Ur L.D.toJY L.HN L.Us L.h8 bs e (by unfold maxLen;omega) (HX hb);refine⟨K,λm hm H n y hy=>?_⟩;have e1:(one p1 m 8 [.iv (.sl 16 (bs.map B.enc)),.agg (e.enc.map ao.AV.iv)] []).bind shut=some (.bI (gi bs e)):=hK m hm;have hz:=hy.HT;have FX:bZ false (.agg (e.enc.map AV.iv)) = .ret (.agg (e.enc.map ao.AV.iv)):=by
  unfold bZ;simp only[];rw[ua false 7 e.enc e.fk];rfl
 generalize gi bs e=q at *;simp[dF,callee,az,M.lift,M.run,M.aG,hz,FX,e1,kX,ks,M.ok,flat,ew,eI,eZ,M.bind]
theorem Ce (i:Nat) (p:Pb):(gU i p).length=15:=rfl
theorem VL (i:Nat) (p:Pb):((gU i p).drop 14).take 1=[.nI p.s]:=rfl
theorem XI (i:Nat) (p:Pb):((gU i p).drop 2).take 12=p.e.enc.map AV.iv:=rfl
set_option maxHeartbeats 8000000 in
theorem XJ (bF:bW p2) (L:nF p1 p2) {lo aN:Nat} {H:Hp} {nx:Nat} {g:Lg} {ya yp yd:AV} {ra rp:List (List AV)} (G:iV lo H nx aN [] g ya yp yd ra rp) (hf:cr H nx) (iT:g.aQ.length<=1000) (Bd:g.aR.length<=1000) (c:Int) (i:Nat) (p:Pb) :
  ∃H' aW,Ext H nx H' aW/\Ev p1 p2 156 [.ref aN 0 0 0,.nI c,.agg (gU i p)] H nx (.bD [.iv (.int .i64 (vA g c p).1),.iv (.bool (vA g c p).2)],H',aW):=by
 have O4:=VL i p;have Y1:=XI i p;have fp:(p.e.enc.map AV.iv).length=12:=rfl;obtain⟨s,hs⟩:∃s,p.s=s:=⟨_,rfl⟩;rw[hs]at O4;have hM:vA g c p=if mD s g.aR=0 then(0,false) else if g.aQ.any (qE c (mD s g.aR) p g.aR) then(mD s g.aR,true) else(0,false):=by unfold vA;rw[hs]
 generalize hMR:vA g c p=R at hM;generalize gU i p=pc at *;have eJ:get H (4*nx)=none:=hf _ (by omega);have dy:Ext H nx (ay.set H (4*nx) (.cells pc)) (nx+3):=(Ext.refl hf (by omega)).set (by omega) (by omega) _;have nO:get (ay.set H (4*nx) (.cells pc)) (4*nx)=some (.cells pc):=ar _ _ _;have G1:=G.ext dy;have key:Wp p1 p2 Jw.body ⟨params [.ref aN 0 0 0,.nI c,.agg pc] 0,H,nx⟩ (λe st=>∃r:AV×Hp×Nat,(r.1 = .bD [.nI R.1,.bI R.2]/\Ext H nx r.2.1 r.2.2)/\Fin Jw.res r e st):=by
  refine au (by simp[eJ];rfl) ?_;generalize oW:ay.set H (4*nx) (.cells pc)=H1 at *;refine aj ?_;refine af (aj ?_);have O5:=QE.len G1.d;have dc:=G1.at_;rw[List.length_map]at O5;simp only[List.nil_append]at dc;refine aq ?_;refine b7 (λm s1=>∃(j n2:Nat),j+m=g.aR.length/\nx+3<=n2/\
   s1=⟨[(0,.ref aN 0 0 0),(1,.nI c),(5,.ref (4*nx) 0 0 0),(8,.nI (mD s (g.aR.take j))),(9,.nI j)],H1,n2⟩) (m:=g.aR.length)
   ⟨0,nx+3+1+1,by omega,by omega,by simp[aP,an,mD]⟩ ?_
  rintro m s1 ⟨j,n2,CV,r9,rfl⟩;refine af (af ?_);by_cases hj:j<g.aR.length
  ·obtain⟨d,hd⟩:∃d,g.aR[j]?=some d:=⟨_,List.getElem?_eq_getElem hj⟩;have aH:(g.aR.map gk)[j]?=some (gk d):=by rw[List.getElem?_map,hd];rfl
   have yf:g.aR[j]'hj=d:=(List.getElem?_eq_some_iff.1 hd).2;have dX:IntKind.i64.wrap ((j:Int)+1)=(j:Int)+1:=IntWalk.i64_in _ (by omega);obtain⟨Qq,vd,i1, -,C5,i4⟩:=QE.at_ G1.d aH;rw[List.length_map]at C5;have Ad:=MZ (s:=s) hd;generalize mD s (g.aR.take j)=b at *;unfold si at Ad;refine aD (by
    simp[-len,dc,O5,hj];rfl) ?_
   rw[C5]at dc;refine ag (t:=true) rfl (ak (af (aq (af (Wp.drawn rfl ?_)))));refine aD (s':=⟨[(0,.ref aN 0 0 0),(1,.nI c),(5,.ref (4*nx) 0 0 0),(8,.nI b),(9,.nI j),(35,.bI (b==0&&decide (s<d)))],H1,n2+7+14⟩) (by
    cases h0:b==0<;>simp[dc,nO,i4,hj,yf,gk,O4,h0]) ?_
   refine ag rfl ?_;cases hq:(b==0&&decide (s<d))with
   |true=>
    rw[Bool.and_eq_true,beq_iff_eq,decide_eq_true_eq]at hq;rw[if_pos hq]at Ad;simp only[if_true];refine aD (by
     simp[dc,i4,hj,yf,gk];rfl) ?_
    simp only[Ex.then,Ex.inBlock];refine aD (by simp[dX];rfl) ?_;exact⟨m - 1,by omega,j+1,_,by omega,by show nx+3<=n2+7+14+8+3;omega,by simp[aP,an,Ad]⟩
   |false=>
    rw[if_neg (λh=>by rw[h.1,decide_eq_true h.2]at hq;simp at hq)]at Ad;simp only[Bool.false_eq_true,if_false];refine ak ?_;simp only[Ex.then,Ex.inBlock];refine aD (by simp[dX];rfl) ?_;exact⟨m - 1,by omega,j+1,_,by omega,by show nx+3<=n2+7+14+3;omega,by simp[aP,an,Ad]⟩
  ·obtain rfl:j=g.aR.length:=by omega
   rw[List.take_length];generalize mD s g.aR=bt at *;refine aD (by
    simp[-len,dc,O5];rfl) ?_
   refine ag (t:=false) rfl (aO ?_);simp only[Ex.then,Ex.inBlock,if_true];refine af (af ?_);have hb0:(bt==0)=decide (bt=0):=by by_cases h:bt=0<;>simp[h]
   refine aD (by simp[hb0];rfl) ?_;refine ag rfl ?_;by_cases F9:bt=0
   ·rw[if_pos F9]at hM;subst hM;rw[decide_eq_true F9];simp only[if_true];refine aj ?_;have hE:=dy.trans (Ext.refl dy.fresh (show nx+3<=n2+7+2+2 by omega));exact ax ⟨(_,H1,n2+7+2+2),⟨rfl,hE⟩,rfl,rfl⟩
   ·rw[if_neg F9]at hM;rw[decide_eq_false F9];simp only[Bool.false_eq_true,if_false];refine ak ?_;simp only[Ex.then];refine af (aj ?_);have jf:ra.length=g.aQ.length:=G1.al.1;refine aq ?_;refine b7 (λm s1=>∃(j n3:Nat) (H2:Hp),j+m=g.aQ.length/\Ext H nx H2 n3/\Ext H1 (nx+3) H2 n3/\(g.aQ.take j).any (qE c bt p g.aR)=false/\
     s1=⟨[(0,.ref aN 0 0 0),(1,.nI c),(5,.ref (4*nx) 0 0 0),(8,.nI bt),(10,.nI j)],H2,n3⟩) (m:=g.aQ.length)
     ⟨0,n2+7+2+1,H1,by omega,dy.trans (Ext.refl dy.fresh (show nx+3<=n2+7+2+1 by omega)),Ext.refl dy.fresh (show nx+3<=n2+7+2+1 by omega),rfl,by simp[aP,an]⟩ ?_
    clear CV r9 hj dc;rintro m s1 ⟨j,n3,H2,CV,VM,qz,lL,rfl⟩;have G2:=G1.ext qz;have dc:=G2.at_;simp only[List.nil_append]at dc;have zN:=G2.a.len;rw[jf]at zN;have qe:get H2 (4*nx)=some (.cells pc):=by rw[qz.bu _ (by omega)];exact nO
    refine af (af ?_);by_cases hj:j<g.aQ.length
    ·obtain⟨a,ha⟩:∃a,g.aQ[j]?=some a:=⟨_,List.getElem?_eq_getElem hj⟩;have dX:IntKind.i64.wrap ((j:Int)+1)=(j:Int)+1:=IntWalk.i64_in _ (by omega);obtain⟨row,aH,gx,rfl,kH⟩:=G2.al.get ha;obtain⟨hU,va,i1, -,iJ,i4⟩:=G2.a.at_ aH;rw[jf]at iJ;simp only[eH]at aH;have vO:=G2.fits a (List.mem_of_getElem? ha);have b9:=gp (f:=qE c bt p g.aR) ha;rw[lL,Bool.false_or]at b9;refine aD (by
      simp[-len,dc,zN,hj];rfl) ?_
     rw[iJ]at dc;refine ag (t:=true) rfl (ak (af (aq (af ?_))));have vj:get H2 (4*(n3+7+7))=none:=qz.fresh _ (by omega);have b8:Ext H2 n3 (ay.set (ay.set H2 (4*(n3+7+7)) (.cells [.nI 0,.nI 0,.iv (.aV 16),.nI 0,.nI 0])) (4*(n3+7+7)) (.cells [.nI a.c,.nI a.u,gx,.nI a.f,.nI a.t])) (n3+7+9):=
      ((Ext.refl qz.fresh (show n3<=n3+7+9 by omega)).set (by omega) (by omega) _).set (by omega) (by omega) _
     generalize uc:(ay.set (ay.set H2 (4*(n3+7+7)) (Ob.cells [.nI 0,.nI 0,.iv (.aV 16),.nI 0,.nI 0])) (4*(n3+7+7)) (Ob.cells [.nI a.c,.nI a.u,gx,.nI a.f,.nI a.t]))=H3 at b8;have ud:get H3 (4*(n3+7+7))=some (.cells [.nI a.c,.nI a.u,gx,.nI a.f,.nI a.t]):=by rw[<-uc];exact ar _ _ _
     have oI:=kH.ext b8;have VN:get H3 (4*nx)=some (.cells pc):=by rw[b8.bu _ (by have:=qz.le;omega)];exact qe
     refine aD (s':=⟨_,H3,n3+7+9⟩) (by
      rw[<-uc];simp[dc,i4,hj,aH,vj];rfl) ?_
     have qy:=qz.trans b8;have O6:=VM.trans b8;have G3:=G1.ext qy;have qC:=G3.at_;simp only[List.nil_append]at qC;obtain⟨K1,ct⟩:=Gx (p1:=p1) L a.b vO.1 vO.2 p.e;refine af (cq (K:=K1) (s':=⟨[(0,.ref aN 0 0 0),(1,.nI c),(5,.ref (4*nx) 0 0 0),(8,.nI bt),(10,.nI j),(11,.ref (4*(n3+7+7)) 0 0 0),(83,.bI (Bv c bt p.e a))],H3,n3+7+9+23⟩) (λn hn=>by
      have c1:=ct n hn H3 _ gx oI;unfold Bv;generalize gi a.b p.e=hq at *;generalize p.e.enc.map AV.iv=ee at *;cases h0:a.c != c with
      |true=>simp[ud,h0]
      |false=>
       cases h1:decide (0<a.t)with
       |false=>simp[ud,VN,Y1,fp,h0,h1,c1]
       |true=>cases h2:decide (a.t<bt)<;>simp[ud,VN,Y1,fp,h0,h1,h2,c1]) ?_)
     refine ag rfl ?_;cases Y2:Bv c bt p.e a with
     |true=>
      have:qE c bt p g.aR a=false:=by unfold qE;rw[Y2];rfl
      rw[this]at b9;simp only[if_true];refine aO ?_;simp only[Ex.then,Ex.inBlock,if_true];have jh:=Ext.refl b8.fresh (show n3+7+9<=n3+7+9+23+3 by omega);refine aD (by simp[dX];rfl) ?_;exact⟨m - 1,by omega,j+1,_,H3,by omega,O6.trans jh,qy.trans jh,b9,by simp[aP,an]⟩
     |false=>
      have Y3:qE c bt p g.aR a=g.aR.any (Bw a.f p.s):=by unfold qE;rw[Y2];rfl
      rw[Y3,hs]at b9;simp only[Bool.false_eq_true,if_false];refine ak ?_;simp only[Ex.then];refine aj ?_;have O7:=QE.len G3.d;rw[List.length_map]at O7;refine aq ?_;refine b7 (λm s1=>∃(k n4:Nat),k+m=g.aR.length/\n3+7+9<=n4/\(g.aR.take k).any (Bw a.f s)=false/\
       s1=⟨[(0,.ref aN 0 0 0),(1,.nI c),(5,.ref (4*nx) 0 0 0),(8,.nI bt),(10,.nI j),(11,.ref (4*(n3+7+7)) 0 0 0),(12,.nI k)],H3,n4⟩) (m:=g.aR.length)
       ⟨0,n3+7+9+23+1,by omega,by omega,rfl,by simp[aP,an]⟩ ?_
      rintro m5 s5 ⟨k,n4,C6,UG,Ky,rfl⟩;refine af (af ?_);by_cases hk:k<g.aR.length
      ·obtain⟨d,hd⟩:∃d,g.aR[k]?=some d:=⟨_,List.getElem?_eq_getElem hk⟩;have XK:(g.aR.map gk)[k]?=some (gk d):=by rw[List.getElem?_map,hd];rfl
       have yf:g.aR[k]'hk=d:=(List.getElem?_eq_some_iff.1 hd).2;have lU:IntKind.i64.wrap ((k:Int)+1)=(k:Int)+1:=IntWalk.i64_in _ (by omega);obtain⟨Qq,vd, -, -,C5,d4⟩:=QE.at_ G3.d XK;rw[List.length_map]at C5;have xD:=gp (f:=Bw a.f s) hd;rw[Ky,Bool.false_or]at xD;refine aD (by
        simp[-len,qC,O7,hk];rfl) ?_
       rw[C5]at qC;refine ag (t:=true) rfl (ak (af (aq (af (Wp.drawn rfl ?_)))));refine aD (s':=⟨[(0,.ref aN 0 0 0),(1,.nI c),(5,.ref (4*nx) 0 0 0),(8,.nI bt),(10,.nI j),(11,.ref (4*(n3+7+7)) 0 0 0),(12,.nI k),(114,.bI (Bw a.f s d))],H3,n4+7+22⟩) (by
        unfold Bw;cases h0:decide (a.f<d)<;>simp[qC,ud,VN,d4,hk,yf,gk,O4,h0]) ?_
       refine ag rfl ?_;cases hq:Bw a.f s d with
       |true=>
        have dt:g.aQ.any (qE c bt p g.aR)=true:=by
         refine List.any_eq_true.2 ⟨a,List.mem_of_getElem? ha,?_⟩;rw[Y3,hs];exact List.any_eq_true.2 ⟨d,List.mem_of_getElem? hd,hq⟩
        rw[if_pos dt]at hM;subst hM;simp only[if_true];refine aj ?_;have jh:=O6.trans (Ext.refl b8.fresh (show n3+7+9<=n4+7+22+3 by omega));exact ax ⟨(_,H3,n4+7+22+3),⟨rfl,jh⟩,rfl,rfl⟩
       |false=>
        rw[hq]at xD;simp only[Bool.false_eq_true,if_false];refine ak ?_;simp only[Ex.then,Ex.inBlock];refine aD (by simp[lU];rfl) ?_;exact⟨m5 - 1,by omega,k+1,_,by omega,by show n3+7+9<=n4+7+22+3;omega,xD,by simp[aP,an]⟩
      ·obtain rfl:k=g.aR.length:=by omega
       rw[List.take_length]at Ky;rw[Ky]at b9;refine aD (by
        simp[-len,qC,O7];rfl) ?_
       refine ag (t:=false) rfl (aO ?_);simp only[Ex.then,Ex.inBlock,if_true];have jh:=Ext.refl b8.fresh (show n3+7+9<=n4+7+3 by omega);refine aD (by simp[dX];rfl) ?_;exact⟨m - 1,by omega,j+1,_,H3,by omega,O6.trans jh,qy.trans jh,b9,by simp[aP,an]⟩
    ·obtain rfl:j=g.aQ.length:=by omega
     rw[List.take_length]at lL;rw[if_neg (by rw[lL];simp)]at hM;subst hM;refine aD (by
      simp[-len,dc,zN];rfl) ?_
     refine ag (t:=false) rfl (aO ?_);simp only[Ex.then,Ex.inBlock,if_true];refine aj ?_;have jh:=VM.trans (Ext.refl VM.fresh (show n3<=n3+7+2 by omega));exact ax ⟨(_,H2,n3+7+2),⟨rfl,jh⟩,rfl,rfl⟩
 obtain⟨⟨y,H',aW⟩,⟨rfl,h1⟩,h4⟩:=Ev.jn bF L.aaX rfl rfl _ key;exact⟨H',aW,h1,h4⟩
end
end ay
namespace ay
open Go ao
structure WF (g:Lg) (t:Int):Prop where
 inc:g.aR.Pairwise (·< ·)
 pos:∀d ∈ g.aR,0<d/\d<=t
 xJ:∀p ∈ g.cQ,p.s<=t/\p.s ∉ g.aR
 act:∀a ∈ g.aQ,0<=a.t
theorem WF.step {x:Hd} {g:Lg} {i:Nat} {o:ao.Op} (h:WF g i):WF (gJ x g i o) ((i+1:Nat):Int):=by
 have ni:((i+1:Nat):Int)=(i:Int)+1:=by omega
 rw[ni];have up:WF g ((i:Int)+1):=⟨h.inc,λd hd=>by have:=h.pos d hd;omega,λp hp=>⟨by have:=(h.xJ p hp).1;omega,(h.xJ p hp).2⟩,h.act⟩;unfold gJ;simp only[];by_cases k5:o.k=5
 ·have hd:WF { g with aR:=g.aR++[(i:Int)+1] } ((i:Int)+1):=by
   refine⟨?_,λd hd=>?_,λp hp=>⟨(up.xJ p hp).1,λhm=>?_⟩,h.act⟩
   ·rw[List.pairwise_append];exact⟨h.inc,List.pairwise_singleton _ _,λa ha b hb=>by rw[List.mem_singleton.1 hb];have:=h.pos a ha;omega⟩
   ·rcases List.mem_append.1 hd with hd | hd
    ·exact up.pos d hd
    ·rw[List.mem_singleton.1 hd];omega
   ·rcases List.mem_append.1 hm with hm | hm
    ·exact(h.xJ p hp).2 hm
    ·have:=(h.xJ p hp).1;have:=List.mem_singleton.1 hm;omega
  simp only[k5,if_true,show ¬(5:Int)=1 by decide,show ¬(5:Int)=2 by decide,show ¬(5:Int)=3 by decide,if_false,ite_self];exact hd
 ·simp only[if_neg k5];split
  ·exact up
  ·split
   ·unfold se;split
    ·refine⟨up.inc,up.pos,up.xJ,λa ha=>?_⟩;rcases List.mem_append.1 ha with ha | ha
     ·exact h.act a ha
     ·rw[List.mem_singleton.1 ha];exact Int.le_refl 0
    ·exact up
   ·split
    ·refine⟨up.inc,up.pos,up.xJ,λa ha=>?_⟩;unfold vi at ha;simp only[]at ha;split at ha
     ·obtain⟨k,hk,he⟩:=List.getElem_of_mem ha;rw[List.getElem_modify]at he;split at he
      ·rw[<-he];show(0:Int)<=(i:Int)+1;omega
      ·rw[<-he];exact h.act _ (List.getElem_mem _)
     ·exact h.act a ha
    ·split
     ·split
      ·refine⟨up.inc,up.pos,λp hp=>?_,up.act⟩;rcases List.mem_append.1 hp with hp | hp
       ·exact up.xJ p hp
       ·rw[List.mem_singleton.1 hp];exact⟨Int.le_refl _,λhm=>by have:=(h.pos _ hm).2;simp only[]at this;omega⟩
      ·exact up
     ·exact up
theorem xK (x:Hd) (l:List ao.Op):∀t,WF (fG x l t) t
 |0=>⟨List.Pairwise.nil,λd hd=>(by cases hd),λp hp=>(by cases hp),λa ha=>(by cases ha)⟩
 |t+1=>by
  unfold fG;split
  ·exact(xK x l t).step
  ·have h:=xK x l t;exact⟨h.inc,λd hd=>by have:=h.pos d hd;omega,λp hp=>⟨by have:=(h.xJ p hp).1;omega,(h.xJ p hp).2⟩,h.act⟩
theorem O8 (x:Hd) (l:List ao.Op):∃t,WF (eO x l) t:=by
 unfold eO;split
 ·exact⟨_,xK x l l.length⟩
 ·exact⟨0,⟨List.Pairwise.nil,λd hd=>(by cases hd),λp hp=>(by cases hp),λa ha=>(by cases ha)⟩⟩
theorem yM (s:Int):∀(l:List Int) (k:Nat),(eG (λt=>decide (s<t)) l k = -1/\∀d ∈ l,d<=s)\/
  ∃(i:Nat) (d:Int),eG (λt=>decide (s<t)) l k=((k+i:Nat):Int)/\l[i]?=some d/\s<d/\∀e ∈ l.take i,e<=s
 |[],k=>.inl ⟨rfl,λd hd=>by cases hd⟩
 |a::l,k=>by
  unfold eG;by_cases h:s<a
  ·rw[if_pos (decide_eq_true h)];exact .inr ⟨0,a,by simp,rfl,h,λe he=>by cases he⟩
  ·rw[if_neg (by simpa using h)];rcases yM s l (k+1)with⟨h1,h2⟩|⟨i,d,h1,h2,h3,h4⟩
   ·refine .inl ⟨h1,λd hd=>?_⟩;rcases List.mem_cons.1 hd with rfl | hd
    ·omega
    ·exact h2 d hd
   ·refine .inr ⟨i+1,d,by rw[h1];congr 1;omega,h2,h3,λe he=>?_⟩;rw[List.take_succ_cons]at he;rcases List.mem_cons.1 he with rfl | he
    ·omega
    ·exact h4 e he
theorem zO {s:Int}:∀{l:List Int} {b:Int},(∀d ∈ l,d<=s)->l.foldl (si s) b=b
 |[],b,_=>rfl
 |a::l,b,h=>by
  have ha:=h a (List.mem_cons_self ..);rw[List.foldl_cons];have:si s b a=b:=by unfold si;rw[if_neg (λq=>by omega)]
  rw[this];exact zO λd hd=>h d (List.mem_cons_of_mem _ hd)
theorem Gy {s:Int}:∀{l:List Int} {b:Int},b≠0->l.foldl (si s) b=b
 |[],b,_=>rfl
 |a::l,b,h=>by
  rw[List.foldl_cons];have:si s b a=b:=by unfold si;rw[if_neg (λq=>h q.1)]
  rw[this];exact Gy h
theorem M0 {s d:Int} {l:List Int} {i:Nat} (h:l[i]?=some d) (hs:s<d) (hp:0<d) (he:∀e ∈ l.take i,e<=s):mD s l=d:=by
 have hl:l=l.take i++d::l.drop (i+1):=by rw[<-drop_cons h,List.take_append_drop]
 unfold mD;rw[hl,List.foldl_append,zO he,List.foldl_cons];have:si s 0 d=d:=by unfold si;rw[if_pos ⟨rfl,hs⟩]
 rw[this];exact Gy (by omega)
theorem RK {g:Lg} {t:Int} (h:WF g t) (c:Int) {p:Pb} (hp:p ∈ g.cQ):vA g c p=(ja g c p,decide (0<ja g c p)):=by
 unfold ja vA;rcases yM p.s g.aR 0 with⟨h1,h2⟩|⟨i,d,h1,h2,h3,h4⟩
 ·have hb:mD p.s g.aR=0:=zO h2;rw[hb,if_pos rfl,h1];simp
 ·have hd:=h.pos d (List.mem_of_getElem? h2);have hb:mD p.s g.aR=d:=M0 h2 h3 hd.1 h4;rw[hb,h1,Nat.zero_add,Int.toNat_natCast,h2];simp only[Option.getD_some];have tG:∀a ∈ g.aQ,qE c d p g.aR a=sX g c d i p.e a:=by
   intro a ha;have dc:=h.act a ha;unfold qE sX;congr 1
   ·unfold Bv x6;have e1:(a.c != c)=!(a.c==c):=rfl;have e2:(a.t==0||decide (d<=a.t))=!(decide (0<a.t)&&decide (a.t<d)):=by
     by_cases z:a.t=0
     ·simp[z]
     ·have hz:0<a.t:=by omega
      have D1:(a.t==0)=false:=by simpa using z
      rw[D1,decide_eq_true hz];by_cases q:d<=a.t
      ·rw[decide_eq_true q,decide_eq_false (by omega)];rfl
      ·rw[decide_eq_false q,decide_eq_true (by omega)];rfl
    rw[e1,e2];cases a.c==c<;>cases(decide (0<a.t)&&decide (a.t<d))<;>cases gi a.b p.e<;>rfl
   ·rw[Bool.eq_iff_iff,List.any_eq_true,List.any_eq_true];constructor
    ·rintro⟨e,he,hq⟩;unfold Bw at hq;rw[Bool.and_eq_true,decide_eq_true_eq,decide_eq_true_eq]at hq;obtain⟨j,hj,VO⟩:=List.getElem_of_mem he;have qP:j<i:=by
      refine Classical.byContradiction λhn=>?_
      have hi:=(List.getElem?_eq_some_iff.1 h2).1;have cV:=(List.getElem?_eq_some_iff.1 h2).2;by_cases Hx:j=i
      ·subst Hx;rw[VO]at cV;omega
      ·have:=List.pairwise_iff_getElem.1 h.inc i j hi hj (by omega);rw[cV,VO]at this;omega
     exact⟨e,List.mem_take_iff_getElem.2 ⟨j,by omega,VO⟩,decide_eq_true hq.1⟩
    ·rintro⟨e,he,hq⟩;have Y4:=List.mem_of_mem_take he;have hle:=h4 e he;have cA:e≠p.s:=λq=>(h.xJ p hp).2 (q▸Y4)
     refine⟨e,Y4,?_⟩;unfold Bw;rw[hq,Bool.true_and];exact decide_eq_true (by omega)
  have lL:g.aQ.any (qE c d p g.aR)=g.aQ.any (sX g c d i p.e):=by
   rw[Bool.eq_iff_iff,List.any_eq_true,List.any_eq_true];exact⟨fun⟨a,ha,q⟩=>⟨a,ha,by rw[<-tG a ha];exact q⟩,fun⟨a,ha,q⟩=>⟨a,ha,by rw[tG a ha];exact q⟩⟩
  have MY:(0:Int)<=(i:Int):=by omega
  have P4:¬d=0:=by omega
  rw[lL];simp only[MY,P4,if_true,if_false];cases g.aQ.any (sX g c d i p.e)<;>simp[hd.1]
def lD (g:Lg) (v:Dv) (p:Pb) (u:Dv):Bool:=match fN g u.p with
 |some q=>u.c==v.c&&(q.c==p.c&&decide (v.p<=u.p))
 |none=>false
def xL (g:Lg) (N n:Nat) (d:List Dv) (t:Nat) (v:Dv):Bool:=match fN g v.p with
 |some p=>((decide (0<=v.c)&&decide (v.c<n))&&(decide (p.s<=v.s)&&(decide (v.s<=N)&&jG g v.c v.s p.e)))&&!(d.take t).any (lD g v p)
 |none=>false
def lX (g:Lg) (N n:Nat) (d:List Dv):Nat->List Int
 |0=>[]
 |t+1=>match d[t]? with
  |some v=>if xL g N n d t v=true then lX g N n d t else lX g N n d t++[(t:Int)]
  |none=>lX g N n d t
theorem xM {β:Type} (k:List Int):∀(m:List (List Int×β)) (i:Nat),sf k m (i+1)=(sf k m i).map λq=>(q.1+1,q.2)
 |[],i=>rfl
 |q::r,i=>by
  rw[sf,sf,xM k r (i+1)];split<;>rfl
theorem M1 {β:Type} (q:List Int×β) (m:List (List Int×β)) (k:List Int) (v:β):oM (q::m) k v=if(k==q.1)=true then(k,v)::m else q::oM m k v:=by
 unfold oM;rw[sf,xM k m 0];by_cases hq:(k==q.1)=true
 ·rw[if_pos hq,if_pos hq];rfl
 ·rw[if_neg hq,if_neg hq];cases sf k m 0<;>rfl
theorem qp {β:Type} (q:List Int×β) (m:List (List Int×β)) (k:List Int) (z:β):kI (q::m) k z=if(k==q.1)=true then q.2 else kI m k z:=by
 unfold kI;rw[sf,xM k m 0];by_cases hq:(k==q.1)=true
 ·rw[if_pos hq,if_pos hq]
 ·rw[if_neg hq,if_neg hq];cases sf k m 0 with
  |none=>rfl
  |some r=>rfl
theorem Gz {β:Type} (k k':List Int) (v z:β):∀m:List (List Int×β),kI (oM m k v) k' z=if k'=k then v else kI m k' z
 |[]=>by
  show kI [(k,v)] k' z=_
  rw[qp];by_cases h:k'=k<;>simp[h]
 |q::m=>by
  have ih:=Gz k k' v z m;rw[M1];by_cases h:k=q.1
  ·subst h;rw[if_pos (by simp),qp,qp];by_cases h:k'=q.1<;>simp[h]
  ·rw[if_neg (by simpa using h),qp,qp,ih];by_cases h1:k'=q.1
   ·subst h1;rw[if_pos (by simp),if_neg (λe=>h e.symm),if_pos (by simp)]
   ·rw[if_neg (by simpa using h1)];split
    ·rfl
    ·rw[if_neg (by simpa using h1)]
def Dj (n:Nat) (g:Lg):Prop:=∀a ∈ g.aQ,0<=a.c/\a.c<(n:Int)
theorem O9 {x:Hd} {g:Lg} {i:Nat} {o:ao.Op} (h:Dj x.hs.length g):Dj x.hs.length (gJ x g i o):=by
 unfold gJ;simp only[];have hb:Dj x.hs.length (if o.k=5 then { g with aR:=g.aR++[(i:Int)+1] } else g):=by split<;>exact h
 generalize(if o.k=5 then { g with aR:=g.aR++[(i:Int)+1] } else g)=g1 at *;by_cases ho:mR x o.c=true
 ·rw[if_pos ho];exact hb
 ·rw[if_neg ho];unfold mR at ho;simp only[Bool.or_eq_true,decide_eq_true_eq,not_or]at ho;split
  ·unfold se;split
   ·intro a ha;rcases List.mem_append.1 ha with ha | ha
    ·exact hb a ha
    ·rw[List.mem_singleton.1 ha];exact⟨by show(0:Int)<=o.c;omega,by show o.c<_;omega⟩
   ·exact hb
  ·split
   ·intro a ha;unfold vi at ha;simp only[]at ha;split at ha
    ·obtain⟨k,hk,he⟩:=List.getElem_of_mem ha;rw[List.length_modify]at hk;have:=hb _ (List.getElem_mem hk);rw[List.getElem_modify]at he;split at he<;>(rw[<-he];exact this)
    ·exact hb a ha
   ·split
    ·split<;>exact hb
    ·exact hb
theorem Pa (x:Hd) (l:List ao.Op):Dj x.hs.length (eO x l):=by
 have h0:Dj x.hs.length ⟨[],[],[]⟩:=λa ha=>by cases ha
 unfold eO;split
 ·have:∀t,Dj x.hs.length (fG x l t):=by
   intro t
   induction t with
   |zero=>exact h0
   |succ t ih=>
    unfold fG;split
    ·exact O9 ih
    ·exact ih
  exact this _
 ·exact h0
theorem Pc {g:Lg} {n:Nat} (h:Dj n g) {c s:Int} {e:E} (hw:jG g c s e=true):0<=c/\c<(n:Int):=by
 unfold jG at hw;obtain⟨a,ha,q⟩:=List.any_eq_true.1 hw;unfold sU at q;simp only[Bool.and_eq_true,beq_iff_eq]at q;exact q.1.1▸h a ha
theorem Iq (g:Lg) (N:Nat) (d:List Dv) (c pc v:Int) (hv:1<=v):∀t,v<=kI (fS g N d t).1 [c,pc] 0↔∃u ∈ d.take t,∃q,fN g u.p=some q/\u.c=c/\q.c=pc/\v<=u.p
 |0=>by
  have:kI (fS g N d 0).1 [c,pc] 0=0:=rfl;rw[this];constructor
  ·intro h;omega
  ·rintro⟨u,hu, -⟩;cases hu
 |t+1=>by
  have ih:=Iq g N d c pc v hv t;rw[fS,List.take_add_one];cases hd:d[t]? with
  |none=>simp only[Option.toList_none,List.append_nil];exact ih
  |some u=>
   have VP:(∃w ∈ d.take t++(some u).toList,∃q,fN g w.p=some q/\w.c=c/\q.c=pc/\v<=w.p)↔(∃w ∈ d.take t,∃q,fN g w.p=some q/\w.c=c/\q.c=pc/\v<=w.p)\/∃q,fN g u.p=some q/\u.c=c/\q.c=pc/\v<=u.p:=by
    constructor
    ·rintro⟨w,hw,q⟩;rcases List.mem_append.1 hw with hw | hw
     ·exact .inl ⟨w,hw,q⟩
     ·rw[Option.toList_some,List.mem_singleton]at hw;subst hw;exact .inr q
    ·rintro(⟨w,hw,q⟩|q)
     ·exact⟨w,List.mem_append.2 (.inl hw),q⟩
     ·exact⟨u,List.mem_append.2 (.inr (by simp)),q⟩
   rw[VP,<-ih];simp only[];unfold pN;cases hp:fN g u.p with
   |none=>simp
   |some q=>
    simp only[];rw[Gz];unfold H9;by_cases hk:[c,pc]=[u.c,q.c]
    ·rw[if_pos hk];have h1:u.c=c:=by injection hk with a _;exact a.symm
     have h2:q.c=pc:=by injection hk with _ b;injection b with b _;exact b.symm
     rw[<-hk];constructor
     ·intro h;split at h
      ·exact .inr ⟨q,rfl,h1,h2,h⟩
      ·exact .inl h
     ·rintro(h | ⟨q',e, -, -,h⟩)
      ·split<;>omega
      ·split<;>omega
    ·rw[if_neg hk];constructor
     ·exact .inl
     ·rintro(h | ⟨q',e,e1,e2, -⟩)
      ·exact h
      ·cases e;exact absurd (by rw[e1,e2]) hk
theorem Ir {g:Lg} {n:Nat} (h:Dj n g) (N:Nat) (d:List Dv):∀t,(fS g N d t).2=lX g N n d t
 |0=>rfl
 |t+1=>by
  have ih:=Ir h N d t;rw[fS,lX];cases hd:d[t]? with
  |none=>exact ih
  |some v=>
   simp only[];unfold pN;cases hp:fN g v.p with
   |none=>
    have cg:xL g N n d t v=false:=by unfold xL;rw[hp]
    rw[cg];simp only[Bool.false_eq_true,if_false];rw[ih]
   |some p=>
    simp only[];have h1:1<=v.p:=by
     unfold fN at hp;split at hp
     ·assumption
     ·cases hp
    have fe:decide (v.p<=kI (fS g N d t).1 [v.c,p.c] 0)=(d.take t).any (lD g v p):=by
     rw[Bool.eq_iff_iff,decide_eq_true_eq,Iq g N d v.c p.c v.p h1 t,List.any_eq_true];constructor
     ·rintro⟨u,hu,q,e,e1,e2,e3⟩;refine⟨u,hu,?_⟩;unfold lD;rw[e];simp[e1,e2,e3]
     ·rintro⟨u,hu,q⟩;unfold lD at q;cases e:fN g u.p with
      |none=>rw[e]at q;cases q
      |some w=>
       rw[e]at q;simp only[Bool.and_eq_true,beq_iff_eq,decide_eq_true_eq]at q;exact⟨u,hu,w,e,q.1,q.2.1,q.2.2⟩
    have FR:decide (v.s<p.s)=!decide (p.s<=v.s):=by by_cases q:p.s<=v.s<;>simp[q]<;>omega
    have Qd:decide ((N:Int)<v.s)=!decide (v.s<=(N:Int)):=by by_cases q:v.s<=(N:Int)<;>simp[q]<;>omega
    have cg:xL g N n d t v=!vl g N (fS g N d t).1 v p:=by
     unfold vl xL;rw[fe,FR,Qd,hp];simp only[];have eV:=λhw=>Pc h (c:=v.c) (s:=v.s) (e:=p.e) hw
     generalize(d.take t).any (lD g v p)=cl;generalize decide (p.s<=v.s)=a;generalize decide (v.s<=(N:Int))=b;cases hw:jG g v.c v.s p.e with
     |false=>cases cl<;>cases a<;>cases b<;>simp
     |true=>
      rw[decide_eq_true (eV hw).1,decide_eq_true (eV hw).2];cases cl<;>cases a<;>cases b<;>rfl
    rw[cg,ih];cases vl g N (fS g N d t).1 v p<;>rfl
end ay
namespace ay
open Go ao
attribute [local simp] aS Option.map_some a7 step cw fJ bp az M.aG M.run M.ok M.fresh M.write M.look M.lift bT ev aP dV an dT dq ar bin fX cU db mk params bh load bB di ep dQ dn dB idx len valid eu ea bound store bl un callee Option.bind_some M.bind cz
def jU (c s:Int) (a:Act):Bool:=(decide (c<0)||a.c==c)&&(decide (a.f<=s)&&(a.t==0||decide (s<a.t)))
theorem AL.ext {H H':Hp} {n n':Nat} {rs:List (List AV)} {l:List Act} (h:AL H n rs l) (e:Ext H n H' n'):AL H' n' rs l:=h.mono λ_ _ q=>q.ext e
theorem AL.rn {H H':Hp} {n n':Nat} {rs:List (List AV)} {l:List Act} (h:AL H n rs l) {r:List AV} {a:Act} (hr:AR H n r a) (hn:n<=n') (ho:∀k ob,ay.get H k=some ob->(∀v es,ob≠.buf v 5 es)->ay.get H' k=some ob):AL H' n' (rs++[r]) (l++[a]):=by
 have hb:∀y b,LB H n y b->LB H' n' y b:=λy b q=>by
  rcases q with q | q | ⟨id,h1,h2,h3⟩
  ·exact .inl q
  ·exact .inr (.inl q)
  ·exact .inr (.inr ⟨id,by omega,h2,h3.imp (λq=>ho _ _ q λv es e=>by cases e) λq=>ho _ _ q λv es e=>by cases e⟩)
 obtain⟨y,q1,q2⟩:=hr;exact(h.mono hb).push ⟨y,q1,hb _ _ q2⟩
section
variable {p1:Nat->Option ao.aA} {p2:Nat->Option aA}
set_option maxHeartbeats 8000000 in
theorem XL (bF:bW p2) (zP:p2 208=some zi) {lo aN:Nat} {H:Hp} {nx:Nat} {g:Lg} {ya yp yd:AV} {ra rp:List (List AV)} (G:iV lo H nx aN [] g ya yp yd ra rp) (hf:cr H nx) (iT:g.aQ.length<=1000) (c s:Int) :
  ∃H' aW y rs,Ext H nx H' aW/\QE 5 H' aW y rs/\AL H' aW rs (g.aQ.filter (jU c s))/\Ev p1 p2 208 [.ref aN 0 0 0,.nI c,.nI s] H nx (y,H',aW):=by
 have jf:ra.length=g.aQ.length:=G.al.1;have key:Wp p1 p2 zi.body ⟨params [.ref aN 0 0 0,.nI c,.nI s] 0,H,nx⟩ (λe st=>∃r:AV×Hp×Nat,(Ext H nx r.2.1 r.2.2/\∃rs,QE 5 r.2.1 r.2.2 r.1 rs/\AL r.2.1 r.2.2 rs (g.aQ.filter (jU c s)))/\Fin zi.res r e st):=by
  refine aj ?_;refine aj ?_;refine af (aj ?_);refine aq ?_;refine b7 (λm s1=>∃(j n2:Nat) (H2:Hp) (y2:AV) (rs:List (List AV)),j+m=g.aQ.length/\Ext H nx H2 n2/\QE 5 H2 n2 y2 rs/\(∀k o m w,y2 = .own k o m w->4*nx<=k)/\AL H2 n2 rs ((g.aQ.take j).filter (jU c s))/\
   s1=⟨[(0,.ref aN 0 0 0),(1,.nI c),(2,.nI s),(7,y2),(8,.nI j)],H2,n2⟩) (m:=g.aQ.length)
   ⟨0,nx+1+1+1,H,.iv (.aV 5),[],by omega,Ext.refl hf (by omega),QE.nil _ _ _,(λk o m w h=>by cases h),AL.nil _ _,by simp[aP,an]⟩ ?_
  rintro m s1 ⟨j,n2,H2,y2,rs,CV,hE,hy,xr,gD,rfl⟩;have G2:=G.ext hE;have hle:=hE.le;have dc:=G2.at_;simp only[List.nil_append]at dc;have zN:=G2.a.len;rw[jf]at zN;refine af (af ?_);by_cases hj:j<g.aQ.length
  ·obtain⟨a,ha⟩:∃a,g.aQ[j]?=some a:=⟨_,List.getElem?_eq_getElem hj⟩;have dX:IntKind.i64.wrap ((j:Int)+1)=(j:Int)+1:=IntWalk.i64_in _ (by omega);obtain⟨row,aH,gx,hr,kH⟩:=G2.al.get ha;obtain⟨hU,va,i1, -,iJ,i4⟩:=G2.a.at_ aH;rw[jf]at iJ;have HK:row.length=5:=by rw[hr];rfl
   have Y5:row.take 5=row:=List.take_of_length_le (by omega);have hlen:((g.aQ.take j).filter (jU c s)).length<=1000:=Nat.le_trans (List.length_filter_le _ _) (by rw[List.length_take];omega);have mB:(g.aQ.take (j+1)).filter (jU c s)=(g.aQ.take j).filter (jU c s)++if jU c s a=true then[a] else[]:=by
    rw[List.take_add_one,ha,List.filter_append];simp only[Option.toList_some,List.filter_cons,List.filter_nil]
   refine aD (by
    simp[-len,dc,zN,hj];rfl) ?_
   rw[iJ]at dc;refine ag (t:=true) rfl (ak (af (aq (af ?_))));have vj:get H2 (4*(n2+7+7))=none:=hE.fresh _ (by omega);obtain⟨HA,It⟩:∃HA,ay.set H2 (4*(n2+7+7)) (.cells [.nI 0,.nI 0,.iv (.aV 16),.nI 0,.nI 0])=HA:=⟨_,rfl⟩;have VQ:Ext H2 n2 HA (n2+7+9):=It▸(Ext.refl hE.fresh (by omega)).set (by omega) (by omega) _;have b8:Ext H2 n2 (ay.set HA (4*(n2+7+7)) (.cells row)) (n2+7+9):=VQ.set (by omega) (by omega) _;have ud:get (ay.set HA (4*(n2+7+7)) (Ob.cells row)) (4*(n2+7+7))=some (.cells row):=ar _ _ _;generalize uc:ay.set HA (4*(n2+7+7)) (Ob.cells row)=H3 at b8 ud
   have VR:=gD.ext b8;have A8:AR H3 (n2+7+9) row a:=⟨gx,hr,kH.ext b8⟩;have oI:=hy.mono b8.le b8.bu;have jP:=hE.trans b8;refine aD (s':=⟨[(0,.ref aN 0 0 0),(1,.nI c),(2,.nI s),(7,y2),(8,.nI j),(9,.ref (4*(n2+7+7)) 0 0 0)],H3,n2+7+9⟩) (by
    rw[<-uc,<-It];simp[dc,i4,hj,aH,HK,Y5,vj]) ?_
   refine au (s':=⟨[(0,.ref aN 0 0 0),(1,.nI c),(2,.nI s),(7,y2),(8,.nI j),(9,.ref (4*(n2+7+7)) 0 0 0),(50,.bI (jU c s a))],H3,n2+7+9+25⟩) (by
    unfold jU;rw[hr]at ud;simp only[eH]at ud;cases h0:decide (c<0)<;>cases h1:a.c==c<;>cases h2:decide (a.f<=s)<;>cases h3:a.t==0<;>simp[ud,h0,h1,h2,h3]) ?_
   refine ag rfl ?_;have abN:=gD.1;cases tG:jU c s a with
   |false=>
    rw[tG]at mB;simp only[Bool.false_eq_true,if_false,List.append_nil]at mB ⊢;refine ak ?_;simp only[Ex.then,Ex.inBlock];refine aD (by simp[dX];rfl) ?_;have jh:=Ext.refl b8.fresh (show n2+7+9<=n2+7+9+25+3 by omega);exact⟨m - 1,by omega,j+1,_,H3,y2,rs,by omega,jP.trans jh,oI.mono jh.le jh.bu,xr,by rw[mB];exact VR.ext jh,by simp[aP,an]⟩
   |true=>
    rw[tG]at mB;simp only[if_true]at mB ⊢;have kA:get H3 (4*(n2+7+9+25+2))=none:=b8.fresh _ (by omega);obtain⟨y',H4,r1,r2,r3,r4,r5,r6⟩:=(oI.mono (show n2+7+9<=n2+7+9+25 by omega) λ_ _=>rfl).rn (λq hq=>b8.fresh q (by omega)) row (lo:=nx) (gid:=4*(n2+7+9+25+2)) (slot:=n2+7+9+25+3) (n':=n2+7+9+25+5) (by omega) (by omega) (by omega) (by omega) (by omega) xr (by omega);refine aD (s':=⟨[(0,.ref aN 0 0 0),(1,.nI c),(2,.nI s),(7,y'),(8,.nI j)],H4,n2+7+9+25+5⟩) (by
     simp[ud,HK,Y5,kA,r1,bO,cz]) ?_
    simp only[Ex.then,Ex.inBlock];refine aD (by simp[dX];rfl) ?_;refine⟨m - 1,by omega,j+1,_,H4,y',rs++[row],by omega,?_,r3.mono (show n2+7+9+25+5<=n2+7+9+25+5+3 by omega) λ_ _=>rfl,r4,?_,by simp[aP,an]⟩
    ·exact⟨by show nx<=n2+7+9+25+5+3;omega,λq hq=>r2 q (by omega),λq hq=>(r5 q hq).trans (jP.bu q hq)⟩
    ·rw[mB];exact VR.rn A8 (by omega) r6
  ·obtain rfl:j=g.aQ.length:=by omega
   rw[List.take_length]at gD;refine aD (by
    simp[-len,dc,zN];rfl) ?_
   refine ag (t:=false) rfl (aO ?_);simp only[Ex.then,Ex.inBlock,if_true];refine aj ?_;have jh:=Ext.refl hE.fresh (show n2<=n2+7+2 by omega);exact ax ⟨(y2,H2,n2+7+2),⟨hE.trans jh,rs,hy.mono jh.le jh.bu,gD.ext jh⟩,rfl,rfl⟩
 obtain⟨⟨y,H',aW⟩,⟨h1,rs,h2,h3⟩,h4⟩:=Ev.jn bF zP rfl rfl _ key;exact⟨H',aW,y,rs,h1,h2,h3,h4⟩
theorem XM (bF:bW p2) (L:nF p1 p2) (zQ:p2 209=some zj) {H:Hp} {nx:Nat} (hf:cr H nx) {y:AV} {rs:List (List AV)} {l:List Act} (hy:QE 5 H nx y rs) (gD:AL H nx rs l) (pU:l.length<=1000) (eR:∀a ∈ l,a.fits) (e:E) :
  ∃H' aW,Ext H nx H' aW/\Ev p1 p2 209 [y,.agg (e.enc.map AV.iv)] H nx (.bI (l.any λa=>gi a.b e),H',aW):=by
 have fp:(e.enc.map AV.iv).length=12:=rfl;have het:(e.enc.map AV.iv).take 12=e.enc.map AV.iv:=rfl;have eJ:get H (4*nx)=none:=hf _ (by omega);have dy:Ext H nx (ay.set H (4*nx) (.cells (e.enc.map AV.iv))) (nx+2):=(Ext.refl hf (by omega)).set (by omega) (by omega) _;have nO:get (ay.set H (4*nx) (Ob.cells (e.enc.map AV.iv))) (4*nx)=some (.cells (e.enc.map AV.iv)):=ar _ _ _;have vG:=(hy.mono dy.le dy.bu).len;have aaZ:=gD.ext dy;have Y6:=gD.1;rw[Y6]at vG;have A7:=hy.mono dy.le dy.bu;have key:Wp p1 p2 zj.body ⟨params [y,.agg (e.enc.map AV.iv)] 0,H,nx⟩ (λex st=>∃r:AV×Hp×Nat,(r.1 = .bI (l.any λa=>gi a.b e)/\Ext H nx r.2.1 r.2.2)/\Fin zj.res r ex st):=by
  have iN:∀b:List B,b.length<=1000->(∀x ∈ b,x.lim 1000 400)->_:=λb h1 h2=>Gx (p1:=p1) L b h1 h2 e
  generalize e.enc.map AV.iv=ee at *;refine au (by simp[eJ];rfl) ?_;generalize oW:ay.set H (4*nx) (.cells ee)=H1 at *;refine af (aj ?_);refine aq ?_;refine b7 (λm s1=>∃(j n2:Nat),j+m=l.length/\nx+2<=n2/\((l.take j).any λa=>gi a.b e)=false/\
   s1=⟨[(0,y),(3,.ref (4*nx) 0 0 0),(5,.nI j)],H1,n2⟩) (m:=l.length)
   ⟨0,nx+2+1,by omega,by omega,rfl,by simp[aP,an]⟩ ?_
  rintro m s1 ⟨j,n2,CV,r9,lL,rfl⟩;refine af (af ?_);by_cases hj:j<l.length
  ·obtain⟨a,ha⟩:∃a,l[j]?=some a:=⟨_,List.getElem?_eq_getElem hj⟩;have dX:IntKind.i64.wrap ((j:Int)+1)=(j:Int)+1:=IntWalk.i64_in _ (by omega);obtain⟨row,aH,gx,rfl,kH⟩:=aaZ.get ha;obtain⟨hU,va,i1, -,iJ,i4⟩:=A7.at_ aH;rw[Y6]at iJ;simp only[eH]at aH;have vO:=eR a (List.mem_of_getElem? ha);have b9:=gp (f:=λa=>gi a.b e) ha;rw[lL,Bool.false_or]at b9;obtain⟨K1,ct⟩:=iN a.b vO.1 vO.2;refine aD (by
    simp[-len,vG,hj];rfl) ?_
   refine ag (t:=true) rfl (ak (af (aq (af (Wp.drawn rfl ?_)))));refine aI (K:=K1) (s':=⟨[(0,y),(3,.ref (4*nx) 0 0 0),(5,.nI j),(18,.bI (gi a.b e))],H1,n2+4+7⟩) (λn hn=>by
    have c1:=ct n hn H1 _ gx kH;subst iJ;generalize gi a.b e=hq at *;simp[i4,hj,aH,nO,fp,het,c1]) ?_
   refine ag rfl ?_;cases hq:gi a.b e with
   |true=>
    simp only[if_true];have Et:(l.any λa=>gi a.b e)=true:=List.any_eq_true.2 ⟨a,List.mem_of_getElem? ha,hq⟩;refine aj ?_;exact ax ⟨(_,H1,_),⟨by rw[Et],dy.trans (Ext.refl dy.fresh (show nx+2<=n2+4+7+1 by omega))⟩,rfl,rfl⟩
   |false=>
    rw[hq]at b9;simp only[Bool.false_eq_true,if_false];refine ak ?_;simp only[Ex.then,Ex.inBlock];refine aD (by simp[dX];rfl) ?_;exact⟨m - 1,by omega,j+1,_,by omega,by show nx+2<=n2+4+7+3;omega,b9,by simp[aP,an]⟩
  ·obtain rfl:j=l.length:=by omega
   rw[List.take_length]at lL;refine aD (by
    simp[-len,vG];rfl) ?_
   refine ag (t:=false) rfl (aO ?_);simp only[Ex.then,Ex.inBlock,if_true];refine aj ?_;exact ax ⟨(_,H1,_),⟨by rw[lL],dy.trans (Ext.refl dy.fresh (show nx+2<=n2+4+1 by omega))⟩,rfl,rfl⟩
 obtain⟨⟨y',H',aW⟩,⟨rfl,h2⟩,h4⟩:=Ev.jn bF zQ rfl rfl _ key;exact⟨H',aW,h2,h4⟩
end
def Pd:IC:=match BX.body with
 |.seq _ (.seq _ (.seq _ (.seq (.seq _ (.block _ (.loop _ (.seq _ (.seq (.block _ (.seq _ (.block _ (.loop _ (.seq _ (.seq (.block _ c) _)))))) _))))) _)))=>c
 |_=>.skip
structure FRD (fr:Fr) (yr yb:AV) (hb aN:Nat) (k t:Int):Prop where
 g2:get fr 2=some yr
 g3:get fr 3=some (.ref hb 0 0 0)
 g7:get fr 7=some (.ref aN 0 0 0)
 g8:get fr 8=some yb
 g9:get fr 9=some (.iv (.int .i64 k))
 g10:get fr 10=some (.iv (.int .i64 t))
section
variable {p1:Nat->Option ao.aA} {p2:Nat->Option aA}
set_option maxHeartbeats 8000000 in
theorem M3 (bF:bW p2) (L:nF p1 p2) {lo aN:Nat} {g:Lg} {H1:Hp} {n1:Nat} {ya yp yd:AV} {ra rp:List (List AV)} (G:iV lo H1 n1 aN [] g ya yp yd ra rp) {t0:Int} (VS:WF g t0) (iT:g.aQ.length<=1000) (xv:g.cQ.length<=1000) (Bd:g.aR.length<=1000)
  (d:List Dv) (hd:d.length<=1000) (c:Int) (t:Nat) (p:Pb) (oX:g.cQ[t]?=some p) (l:List (Int×Int)) (pU:l.length<=1000000)
  (H2:Hp) (n2:Nat) (hE:Ext H1 n1 H2 n2) (yb:AV) (kY:QE 2 H2 n2 yb (l.map ik)) (km:∀k o m w,yb = .own k o m w->4*n1<=k) (hb:Nat) :
  Wp p1 p2 Pd ⟨[(2,.iv (.sl 3 (d.map Dv.enc))),(3,.ref hb 0 0 0),(7,.ref aN 0 0 0),(8,yb),(9,.nI c),(10,.nI t),(30,.bI true)],H2,n2⟩
   (λe st=>e = .norm/\∃kB,FRD st.fr (.iv (.sl 3 (d.map Dv.enc))) kB hb aN c t/\Ext H1 n1 st.hp st.nx/\QE 2 st.hp st.nx kB ((l++(if vo g d c t p=true then[(c,(t:Int)+1)] else[])).map ik)/\(∀k o m w,kB = .own k o m w->4*n1<=k)):=by
 have OB:=hE.le;have tF:t<g.cQ.length:=(List.getElem?_eq_some_iff.1 oX).1;have dX:IntKind.i64.wrap ((t:Int)+1)=(t:Int)+1:=IntWalk.i64_in _ (by omega);have uk:(d.map Dv.enc).length=d.length:=by simp
 have oi:∀{k:Nat} {v:Dv},d[k]?=some v->(d.map Dv.enc)[k]?=some v.enc:=λh=>by rw[List.getElem?_map,h];rfl
 generalize d.map Dv.enc=rows at *;have G2:=G.ext hE;have aH:=G2.pl.2 t p oX;obtain⟨iB,vp,i1, -,hyp,i4⟩:=G2.p.at_ aH;have py:=G2.pl.1;rw[py]at hyp;have dc:=G2.at_;rw[hyp]at dc;simp only[List.nil_append]at dc;have ma:=Ce t p;have Pe:(gU t p).take 15=gU t p:=List.take_of_length_le (by rw[ma];exact Nat.le_refl _);obtain⟨H3,n3,b8,K,hK⟩:=XJ (p1:=p1) bF L (G2.ext (Ext.refl hE.fresh (show n2<=n2+15 by omega))) (λq hq=>hE.fresh q (by omega)) iT Bd c t p;rw[RK VS c (List.mem_of_getElem? oX)]at hK;have Vf:vo g d c t p=(decide (0<ja g c p)&&!d.any (nD c t (ja g c p))):=rfl
 rw[Vf];generalize ja g c p=mu at *;generalize gU t p=pc at *;have qy:Ext H2 n2 H3 n3:=(Ext.refl hE.fresh (show n2<=n2+15 by omega)).trans b8;have jP:=hE.trans qy;have abm:=jP.le;have zG:QE 2 H3 n3 yb (l.map ik):=kY.mono qy.le qy.bu;refine cq (K:=K) (λn hn=>by
  have cc:=hK n hn;simp[dc,i4,tF,aH,ma,Pe,cc];rfl) ?_
 refine af (aj ?_);refine aq ?_;refine b7 (λm s1=>∃(k n4:Nat),k+m=d.length/\n3<=n4/\
  s1=⟨[(2,.iv (.sl 3 rows)),(3,.ref hb 0 0 0),(7,.ref aN 0 0 0),(8,yb),(9,.nI c),(10,.nI t),(11,.nI mu),(12,.bI (decide (0<mu)&&!(d.take k).any (nD c t mu))),(13,.nI k)],H3,n4⟩) (m:=d.length)
  ⟨0,n3+1,by omega,by omega,by simp[aP,an]⟩ ?_
 rintro m s1 ⟨k,n4,C6,UG,rfl⟩;refine af (af ?_);by_cases hk:k<d.length
 ·obtain⟨v,hv⟩:∃v,d[k]?=some v:=⟨_,List.getElem?_eq_getElem hk⟩;have tX:IntKind.i64.wrap ((k:Int)+1)=(k:Int)+1:=IntWalk.i64_in _ (by omega);have uu:=oi hv;have b9:=gp (f:=nD c t mu) hv;generalize(d.take k).any (nD c t mu)=C7 at *;refine aD (by simp[uk,hk];rfl) ?_;refine ag (t:=true) rfl (ak (af (aq (au (s':=⟨[(2,.iv (.sl 3 rows)),(3,.ref hb 0 0 0),(7,.ref aN 0 0 0),(8,yb),(9,.nI c),(10,.nI t),(11,.nI mu),(12,.bI (decide (0<mu)&&!C7)),(13,.nI k),(77,.bI (nD c t mu v))],H3,n4+4+26⟩) (by
   unfold nD;unfold Dv.enc at uu;cases h0:v.c==c<;>cases h1:v.p==(t:Int)+1<;>simp[uu,dX,h0,h1]) ?_))))
  refine ag rfl ?_;cases hg:nD c t mu v with
  |true=>
   rw[hg,Bool.or_true]at b9;simp only[if_true];refine bK ?_;simp only[Ex.then,Ex.inBlock];refine aD (by simp[tX];rfl) ?_;exact⟨m - 1,by omega,k+1,_,by omega,by show n3<=n4+4+26+1+3;omega,by simp[aP,an,b9]⟩
  |false=>
   rw[hg,Bool.or_false]at b9;simp only[Bool.false_eq_true,if_false];refine ak ?_;simp only[Ex.then,Ex.inBlock];refine aD (by simp[tX];rfl) ?_;exact⟨m - 1,by omega,k+1,_,by omega,by show n3<=n4+4+26+3;omega,by simp[aP,an,b9]⟩
 ·obtain rfl:k=d.length:=by omega
  rw[List.take_length];generalize d.any (nD c t mu)=C7 at *;refine aD (by simp[uk];rfl) ?_;refine ag (t:=false) rfl (aO ?_);simp only[Ex.then,Ex.inBlock,if_true];refine aj ?_;refine ag rfl ?_;have M4:cr H3 (n4+4+1):=λq hq=>b8.fresh q (by omega)
  have Ki:Ext H1 n1 H3 (n4+4+1):=jP.trans (Ext.refl b8.fresh (by omega));have Ca:QE 2 H3 (n4+4+1) yb (l.map ik):=zG.mono (by omega) λ_ _=>rfl
  cases hq:decide (0<mu)&&!C7 with
  |false=>
   simp only[Bool.false_eq_true,if_false];exact ak ⟨rfl,yb,⟨rfl,rfl,rfl,rfl,rfl,rfl⟩,Ki,by rw[List.append_nil];exact Ca,km⟩
  |true=>
   simp only[if_true];have kA:get H3 (4*(n4+4+1+5))=none:=M4 _ (by omega);obtain⟨y',H8,r1,r2,r3,r4,r5,r6⟩:=Ca.rn M4 [.nI c,.nI ((t:Int)+1)] (lo:=n1) (gid:=4*(n4+4+1+5)) (slot:=n4+4+1+6) (n':=n4+4+1+8) (by omega) (by omega) (by omega) (by omega) (by rw[List.length_map];omega) km (by omega);refine aD (by
    simp[dX,kA,r1,bO,cz];rfl) ?_
   refine⟨rfl,y',⟨rfl,rfl,rfl,rfl,rfl,rfl⟩,⟨by show n1<=n4+4+1+8;omega,r2,λq hq=>(r5 q hq).trans (jP.bu q hq)⟩,?_,r4⟩;rw[List.map_append];exact r3
set_option maxHeartbeats 4000000 in
theorem XN (bF:bW p2) (L:nF p1 p2) (Pf:p2 207=some BX) (x:Hd) (hp:x.ps.length<=100) (hh:x.hs.length<=100) (l:List ao.Op) (hl:l.length<=1000) (cg:∀o ∈ l,o.ok) (d:List Dv) (hd:d.length<=1000) (H:Hp) (nx:Nat) (hf:cr H nx) :
  ∃H' aW y,Ext H nx H' aW/\QE 2 H' aW y ((fT (eO x l) d x.hs.length).map ik)/\Ev p1 p2 207 [.agg (cj x),.iv (.sl 24 (l.map ao.Op.enc)),.iv (.sl 3 (d.map Dv.enc))] H nx (y,H',aW):=by
 have eJ:get H (4*nx)=none:=hf _ (by omega);have dy:Ext H nx (ay.set H (4*nx) (.cells (cj x))) (nx+2):=(Ext.refl hf (by omega)).set (by omega) (by omega) _;have hb:get (ay.set H (4*nx) (Ob.cells (cj x))) (4*nx)=some (.cells (cj x)):=ar _ _ _;generalize C4:ay.set H (4*nx) (Ob.cells (cj x))=H0 at dy hb;obtain⟨H1,n1,aN,ya,yp,yd,ra,rp,dH,G,K1,ct⟩:=QC (p1:=p1) bF L x hp hh l hl cg H0 (nx+2+4) (λk hk=>dy.fresh k (by omega));have qB:Ext H nx H1 n1:=(dy.up (show nx+2<=nx+2+4 by omega)).trans dH;have Ia:=sW x l;obtain⟨t0,VS⟩:=O8 x l;generalize eO x l=g at *
 have Kh:=dH.le;have nO:get H1 (4*nx)=some (.cells (cj x)):=by rw[dH.bu _ (by omega)];exact hb
 have py:=G.pl.1;have key:Wp p1 p2 BX.body ⟨params [.agg (cj x),.iv (.sl 24 (l.map ao.Op.enc)),.iv (.sl 3 (d.map Dv.enc))] 0,H,nx⟩ (λe st=>∃r:AV×Hp×Nat,(Ext H nx r.2.1 r.2.2/\QE 2 r.2.1 r.2.2 r.1 ((fT g d x.hs.length).map ik))/\Fin BX.res r e st):=by
  generalize l.map ao.Op.enc=cH at *;have Dk:∃dd,AV.iv (.sl 3 (d.map Dv.enc))=dd:=⟨_,rfl⟩;obtain⟨dd,Dk⟩:=Dk;rw[Dk];refine au (s':=⟨_,H0,nx+2⟩) (by
   rw[<-C4];simp[eJ];rfl) ?_
  refine cq (K:=K1) (λn hn=>by
   have c:=ct n hn;simp[hb,iH,jE,c];rfl) ?_
  refine aj ?_;refine af (aj ?_);refine aq ?_;refine b7 (λm s1=>∃(k n2:Nat) (H2:Hp) (yb:AV),k+m=x.hs.length/\Ext H1 n1 H2 n2/\QE 2 H2 n2 yb ((fT g d k).map ik)/\(∀q o m w,yb = .own q o m w->4*n1<=q)/\
   s1=⟨[(2,dd),(3,.ref (4*nx) 0 0 0),(7,.ref aN 0 0 0),(8,yb),(9,.nI k)],H2,n2⟩) (m:=x.hs.length)
   ⟨0,n1+1+1,H1,.iv (.aV 2),by omega,Ext.refl dH.fresh (by omega),QE.nil _ _ _,(λq o m w h=>by cases h),by simp[aP,an]⟩ ?_
  rintro m s1 ⟨k,n2,H2,yb,C6,b8,kY,km,rfl⟩;have Bg:get H2 (4*nx)=some (.cells (cj x)):=by rw[b8.bu _ (by omega)];exact nO
  rw[gT]at Bg;have QD:(x.hs.map fQ).length=x.hs.length:=by simp
  generalize x.hs.map fQ=rN at *;refine af (af ?_);by_cases hk:k<x.hs.length
  ·have dX:IntKind.i64.wrap ((k:Int)+1)=(k:Int)+1:=IntWalk.i64_in _ (by omega);have OD:=b8.le;have hmt:=rq g d k;have hmul:k*g.cQ.length<=100*1000:=Nat.mul_le_mul (by omega) (by omega);refine aD (by simp[Bg,QD,hk];rfl) ?_;refine ag (t:=true) rfl (ak (af (aq (aj ?_))));refine aq ?_;refine b7 (λm1 s1=>∃(t n3:Nat) (H3:Hp) (y3:AV),t+m1=g.cQ.length/\Ext H1 n1 H3 n3/\QE 2 H3 n3 y3 ((fT g d k++gG g d k t).map ik)/\(∀q o m w,y3 = .own q o m w->4*n1<=q)/\
    s1=⟨[(2,dd),(3,.ref (4*nx) 0 0 0),(7,.ref aN 0 0 0),(8,y3),(9,.nI k),(10,.nI t)],H3,n3⟩) (m:=g.cQ.length)
    ⟨0,n2+5+1,H2,yb,by omega,b8.up (by omega),by rw[gG,List.append_nil];exact kY.mono (by omega) λ_ _=>rfl,km,by simp[aP,an]⟩ ?_
   rintro m1 s1 ⟨t,n3,H3,y3,ML,kT,oI,Gb,rfl⟩;have qD:=(G.ext kT).at_;have tr:=(G.ext kT).p.len;simp only[List.nil_append]at qD;rw[py]at tr;refine af (af ?_);by_cases ht:t<g.cQ.length
   ·obtain⟨p,oX⟩:∃p,g.cQ[t]?=some p:=⟨_,List.getElem?_eq_getElem ht⟩;have tX:IntKind.i64.wrap ((t:Int)+1)=(t:Int)+1:=IntWalk.i64_in _ (by omega);have hmr:=pO g d k t;have da:=M3 (p1:=p1) bF L G VS (by omega) (by omega) (by omega) d hd k t p oX (fT g d k++gG g d k t) (by rw[List.length_append];omega) H3 (n3+7) (kT.up (by omega)) y3 (oI.mono (by omega) λ_ _=>rfl) Gb (4*nx);have b9:fT g d k++gG g d k (t+1)=(fT g d k++gG g d k t)++(if vo g d k t p=true then[((k:Int),(t:Int)+1)] else[]):=by
     rw[gG,um,oX,List.append_assoc]
    rw[<-b9,Dk]at da;refine aD (by
     simp[-len,qD,tr,ht];rfl) ?_
    refine ag (t:=true) rfl (ak (af (aq ?_)));refine Wp.mono da ?_;rintro e ⟨fr,H6,n6⟩ ⟨rfl,y6,⟨f2,f3,f7,f8,f9,f10⟩,b1,b2,b3⟩;simp only[]at f2 f3 f7 f8 f9 f10 b1 b2 b3;simp only[Ex.then,Ex.inBlock];refine aD (by
     simp[bU,f2,f3,f7,f8,f9,f10,tX];rfl) ?_
    exact⟨m1 - 1,by omega,t+1,n6+3,H6,y6,by omega,b1.up (by omega),b2.mono (by omega) λ_ _=>rfl,b3,by simp[aP,an]⟩
   ·obtain rfl:t=g.cQ.length:=by omega
    refine aD (by
     simp[-len,qD,tr];rfl) ?_
    refine ag (t:=false) rfl (aO ?_);simp only[Ex.then,Ex.inBlock,if_true];refine aD (by simp[dX];rfl) ?_;exact⟨m - 1,by omega,k+1,_,H3,y3,by omega,kT.up (show n3<=n3+7+3 by omega),by rw[fT];exact oI.mono (show n3<=n3+7+3 by omega) λ_ _=>rfl,Gb,by simp[aP,an]⟩
  ·obtain rfl:k=x.hs.length:=by omega
   refine aD (by simp[Bg,QD];rfl) ?_;refine ag (t:=false) rfl (aO ?_);simp only[Ex.then,Ex.inBlock,if_true];refine aj ?_;exact ax ⟨(yb,H2,n2+5+2),⟨qB.trans (b8.up (show n2<=n2+5+2 by omega)),kY.mono (show n2<=n2+5+2 by omega) λ_ _=>rfl⟩,rfl,rfl⟩
 obtain⟨⟨y,H',aW⟩,⟨h1,h2⟩,h4⟩:=Ev.jn bF Pf rfl rfl _ key;exact⟨H',aW,y,h1,h2,h4⟩
end
def pC:IC:=match uP.body with
 |.seq _ (.seq _ (.seq _ (.seq (.seq _ (.block _ (.loop _ (.seq _ (.seq (.block _ c) _))))) _)))=>c
 |_=>.skip
def M5:List AV:=[.iv (.int .i64 0),.iv (.int .i64 0),.iv (.int .i64 0),.iv (.int .i64 0),.iv (.str ⟨#[]⟩),.iv (.int .i64 0),.iv (.int .i64 0),.iv (.str ⟨#[]⟩),.iv (.int .i64 0),.iv (.int .i64 0),.iv (.str ⟨#[]⟩),.iv (.int .i64 0),.iv (.int .i64 0),.iv (.str ⟨#[]⟩),.iv (.int .i64 0)]
structure Y7 (fr:Fr) (cH yr yb:AV) (hb aN:Nat) (t:Int):Prop where
 g1:get fr 1=some cH
 g2:get fr 2=some yr
 g3:get fr 3=some (.ref hb 0 0 0)
 g7:get fr 7=some (.ref aN 0 0 0)
 g8:get fr 8=some yb
 g9:get fr 9=some (.iv (.int .i64 t))
theorem Kz {g:Lg} {c s:Int} {e:E} (h:0<=c):((g.aQ.filter (jU c s)).any λa=>gi a.b e)=jG g c s e:=by
 unfold jG;rw[List.any_filter];congr 1;funext a;unfold jU sU ug;rw[decide_eq_false (by omega),Bool.false_or]
theorem zR (g:Lg) (v:Int):(fN g v).isSome=(decide (1<=v)&&decide (v<=(g.cQ.length:Int))):=by
 unfold fN;by_cases h1:1<=v
 ·rw[if_pos h1,decide_eq_true h1];by_cases h2:v<=(g.cQ.length:Int)
  ·rw[List.getElem?_eq_getElem (by omega),decide_eq_true h2];rfl
  ·rw[List.getElem?_eq_none (by omega),decide_eq_false h2];rfl
 ·rw[if_neg h1,decide_eq_false h1];rfl
theorem GC {g:Lg} {v:Int} {p:Pb} (h:fN g v=some p):∃j:Nat,v=(j:Int)+1/\g.cQ[j]?=some p:=by
 unfold fN at h;split at h
 ·exact⟨(v - 1).toNat,by omega,h⟩
 ·cases h
section
variable {p1:Nat->Option ao.aA} {p2:Nat->Option aA}
set_option maxRecDepth 4000 in
set_option maxHeartbeats 16000000 in
theorem M6 (bF:bW p2) (L:nF p1 p2) (zP:p2 208=some zi) (zQ:p2 209=some zj) {lo aN:Nat} {g:Lg} {H1:Hp} {n1:Nat} {ya yp yd:AV} {ra rp:List (List AV)} (G:iV lo H1 n1 aN [] g ya yp yd ra rp) (iT:g.aQ.length<=1000) (xv:g.cQ.length<=1000)
  (x:Hd) (hb:Nat) (yg:hb<4*n1) (aa0:get H1 hb=some (.cells (cj x)))
  (cH:List (List IV)) (d:List Dv) (hd:d.length<=1000) (t:Nat) (v:Dv) (hv:d[t]?=some v) (l:List Int) (hl:l.length<=t)
  (H2:Hp) (n2:Nat) (hE:Ext H1 n1 H2 n2) (yb:AV) (kY:QI H2 n2 yb l) (km:∀k o m w,yb = .own k o m w->4*n1<=k) :
  Wp p1 p2 pC ⟨[(1,.iv (.sl 24 cH)),(2,.iv (.sl 3 (d.map Dv.enc))),(3,.ref hb 0 0 0),(7,.ref aN 0 0 0),(8,yb),(9,.nI t),(19,.bI true)],H2,n2⟩
   (λe st=>e = .norm/\∃kB,Y7 st.fr (.iv (.sl 24 cH)) (.iv (.sl 3 (d.map Dv.enc))) kB hb aN t/\Ext H1 n1 st.hp st.nx/\QI st.hp st.nx kB (if xL g cH.length x.hs.length d t v=true then l else l++[(t:Int)])/\(∀k o m w,kB = .own k o m w->4*n1<=k)):=by
 have tF:t<d.length:=(List.getElem?_eq_some_iff.1 hv).1;have oi:∀{k:Nat} {v:Dv},d[k]?=some v->(d.map Dv.enc)[k]?=some v.enc:=λh=>by rw[List.getElem?_map,h];rfl
 have uu:=oi hv;rw[show v.enc=[.int .i64 v.c,.int .i64 v.p,.int .i64 v.s] from rfl]at uu;have VT:∀(b:Bool) (fr:Fr) (H5:Hp) (n5:Nat),Ext H1 n1 H5 n5->QI H5 n5 yb l->get fr 1=some (.iv (.sl 24 cH))->get fr 2=some (.iv (.sl 3 (d.map Dv.enc)))->get fr 3=some (.ref hb 0 0 0)->get fr 7=some (.ref aN 0 0 0)->get fr 8=some yb->get fr 9=some (.nI t)->get fr 10=some (.bI b)->
   Wp p1 p2 (match pC with | .seq _ (.seq _ c)=>c | _=>.skip) ⟨fr,H5,n5⟩ (λe st=>e = .norm/\∃kB,Y7 st.fr (.iv (.sl 24 cH)) (.iv (.sl 3 (d.map Dv.enc))) kB hb aN t/\Ext H1 n1 st.hp st.nx/\QI st.hp st.nx kB (if b=true then l else l++[(t:Int)])/\(∀k o m w,kB = .own k o m w->4*n1<=k)):=by
  intro b fr H5 n5 kT Y8 f1 f2 f3 f7 f8 f9 f10;have hle:=kT.le;generalize d.map Dv.enc=rows at *;refine au (s':=⟨[(1,.iv (.sl 24 cH)),(2,.iv (.sl 3 rows)),(3,.ref hb 0 0 0),(7,.ref aN 0 0 0),(8,yb),(9,.nI t),(177,.bI !b)],H5,n5+2⟩) (by
   simp[bU,f1,f2,f3,f7,f8,f9,f10]) ?_
  refine ag rfl ?_;cases b with
  |true=>
   simp only[Bool.not_true,Bool.false_eq_true,if_false,if_true];exact ak ⟨rfl,yb,⟨rfl,rfl,rfl,rfl,rfl,rfl⟩,kT.up (show n5<=n5+2 by omega),QE.mono Y8 (show n5<=n5+2 by omega) λ_ _=>rfl,km⟩
  |false=>
   simp only[Bool.not_false,Bool.false_eq_true,if_false,if_true];have M4:cr H5 (n5+2):=λq hq=>kT.fresh q (by omega)
   have kA:get H5 (4*(n5+2+2))=none:=M4 _ (by omega);have hy6:QI H5 (n5+2) yb l:=QE.mono Y8 (by omega) λ_ _=>rfl
   obtain⟨y',H8,r1,r2,r3,r4,r5,r6⟩:=hy6.rn M4 (t:Int) (lo:=n1) (gid:=4*(n5+2+2)) (slot:=n5+2+3) (n':=n5+2+5) (by omega) (by omega) (by omega) (by omega) (by omega) km (by omega);refine aD (by
    simp only[gk]at r1;simp[kA,r1,bO];rfl) ?_
   exact⟨rfl,y',⟨rfl,rfl,rfl,rfl,rfl,rfl⟩,⟨by show n1<=n5+2+5;omega,r2,λq hq=>(r5 q hq).trans (kT.bu q hq)⟩,r3,r4⟩
 have OB:=hE.le;have G2:=G.ext hE;have dc:=G2.at_;have tr:=G2.p.len;have py:=G2.pl.1;rw[py]at tr;simp only[List.nil_append]at dc;have VU:get H2 hb=some (.cells (cj x)):=by rw[hE.bu _ yg];exact aa0
 rw[gT]at VU;have QD:∀H:Hp,(ay.len false (.iv (.sl 1 (x.hs.map fQ)))).run H=some (.nI x.hs.length,H):=λH=>by simp[ay.len,M.run]
 refine af (Wp.drawn rfl ?_);refine aD (s':=⟨[(1,.iv (.sl 24 cH)),(2,.iv (.sl 3 (d.map Dv.enc))),(3,.ref hb 0 0 0),(7,.ref aN 0 0 0),(8,yb),(9,.nI t),(10,.bI (decide (1<=v.p)&&(decide (v.p<=(g.cQ.length:Int))&&(decide (0<=v.c)&&decide (v.c<(x.hs.length:Int))))))],H2,n2+39⟩) (by
  generalize d.map Dv.enc=rows at *;generalize x.hs.map fQ=rN at *;by_cases h0:1<=v.p
  ·by_cases h1:v.p<=(g.cQ.length:Int)
   ·by_cases h2:0<=v.c<;>simp[-len,uu,dc,tr,VU,QD,h0,h1,h2]
   ·simp[-len,uu,dc,tr,h0,h1]
  ·simp[-len,uu,h0]) ?_
 refine af (aj ?_);refine ag rfl ?_;cases eV:(decide (1<=v.p)&&(decide (v.p<=(g.cQ.length:Int))&&(decide (0<=v.c)&&decide (v.c<(x.hs.length:Int)))))with
 |false=>
  have cg:xL g cH.length x.hs.length d t v=false:=by
   unfold xL;have hs:=zR g v.p;cases hp:fN g v.p with
   |none=>rfl
   |some p=>
    rw[hp,Option.isSome_some]at hs;rw[<-Bool.and_assoc,<-hs,Bool.true_and]at eV;simp only[];rw[eV];rfl
  simp only[Bool.false_eq_true,if_false];refine ak ?_;simp only[Ex.then];rw[cg];exact VT false _ H2 (n2+39+1) (hE.up (by omega)) (QE.mono kY (by omega) λ_ _=>rfl) rfl rfl rfl rfl rfl rfl rfl
 |true=>
  have hs:=zR g v.p;simp only[Bool.and_eq_true,decide_eq_true_eq]at eV;obtain⟨MY,rY,Fu,CI⟩:=eV;rw[decide_eq_true MY,decide_eq_true rY]at hs;obtain⟨p,hp⟩:=Option.isSome_iff_exists.1 hs;obtain⟨j,hvp,Y9⟩:=GC hp;have l7:j<g.cQ.length:=(List.getElem?_eq_some_iff.1 Y9).1;have cg:xL g cH.length x.hs.length d t v=((decide (p.s<=v.s)&&(decide (v.s<=(cH.length:Int))&&jG g v.c v.s p.e))&&!(d.take t).any (lD g v p)):=by
   unfold xL;rw[hp];simp only[];rw[decide_eq_true Fu,decide_eq_true CI];rfl
  rw[cg];have aH:=G2.pl.2 j p Y9;obtain⟨iB,vp,i1, -,hyp,i4⟩:=G2.p.at_ aH;rw[py]at hyp;rw[hyp]at dc;have ma:=Ce j p;have Pe:(gU j p).take 15=gU j p:=List.take_of_length_le (by rw[ma];exact Nat.le_refl _);obtain⟨a1,MK,xy,a2⟩:=uh j p;have fp:(p.e.enc.map AV.iv).length=12:=rfl;have P1:IntKind.i64.wrap (j:Int)=(j:Int):=IntWalk.i64_in _ (by omega);have VV:=uu;rw[hvp]at VV;have eJ:get H2 (4*(n2+39+1+12))=none:=hE.fresh _ (by omega);obtain⟨HA,It⟩:∃HA,ay.set H2 (4*(n2+39+1+12)) (.cells M5)=HA:=⟨_,rfl⟩;have VQ:Ext H2 n2 HA (n2+39+1+14):=It▸(Ext.refl hE.fresh (by omega)).set (by omega) (by omega) _
  have b8:Ext H2 n2 (ay.set HA (4*(n2+39+1+12)) (.cells (gU j p))) (n2+39+1+14):=VQ.set (by omega) (by omega) _;have oN:get (ay.set HA (4*(n2+39+1+12)) (Ob.cells (gU j p))) (4*(n2+39+1+12))=some (.cells (gU j p)):=ar _ _ _;generalize uc:ay.set HA (4*(n2+39+1+12)) (Ob.cells (gU j p))=H3 at b8 oN;have jP:=hE.trans b8;simp only[if_true];refine af (Wp.drawn rfl ?_);refine aD (s':=⟨[(1,.iv (.sl 24 cH)),(2,.iv (.sl 3 (d.map Dv.enc))),(3,.ref hb 0 0 0),(7,.ref aN 0 0 0),(8,yb),(9,.nI t),(11,.ref (4*(n2+39+1+12)) 0 0 0)],H3,n2+39+1+14⟩) (by
   rw[<-uc,<-It];unfold M5;generalize d.map Dv.enc=rows at *;generalize gU j p=pr at *;simp[VV,dc,i4,l7,aH,P1,ma,Pe,eJ]) ?_
  have zG:QI H3 (n2+39+1+14) yb l:=QE.mono kY (by omega) b8.bu;have OD:=b8.le;obtain⟨H4,n4,yA,rsA,ei,qA,alA,K4,c4⟩:=XL (p1:=p1) bF zP (G.ext (jP.up (show n2+39+1+14<=n2+39+1+14+36 by omega))) (λq hq=>b8.fresh q (by omega)) iT v.c v.s;obtain⟨H5,n5,kT,K5,c5⟩:=XM (p1:=p1) bF L zQ ei.fresh qA alA (Nat.le_trans (List.length_filter_le _ _) iT) (λa ha=>G.fits a (List.mem_filter.1 ha).1) p.e;rw[Kz Fu]at c5;have Za:get H4 (4*(n2+39+1+12))=some (.cells (gU j p)):=by rw[ei.bu _ (by omega)];exact oN
  obtain⟨H6,n6,oO,zH⟩:∃H6 n6,Ext H3 (n2+39+1+14) H6 n6/\∀n,max K4 K5<=n->∀(ops:List aJ),ops=(match pC with | .seq _ (.seq (.seq _ (.cond _ (.seq _ (.seq (.ff _ o _) _)) _)) _)=>o | _=>[])->aS (one p1 n) (fH p1 p2 n) true ops [1,2,3,7,8,9,10,11]
    ⟨[(1,.iv (.sl 24 cH)),(2,.iv (.sl 3 (d.map Dv.enc))),(3,.ref hb 0 0 0),(7,.ref aN 0 0 0),(8,yb),(9,.nI t),(11,.ref (4*(n2+39+1+12)) 0 0 0)],H3,n2+39+1+14⟩ =
    some ⟨[(1,.iv (.sl 24 cH)),(2,.iv (.sl 3 (d.map Dv.enc))),(3,.ref hb 0 0 0),(7,.ref aN 0 0 0),(8,yb),(9,.nI t),(10,.bI (decide (p.s<=v.s)&&(decide (v.s<=(cH.length:Int))&&jG g v.c v.s p.e))),(11,.ref (4*(n2+39+1+12)) 0 0 0)],H6,n6⟩:=by
   generalize jG g v.c v.s p.e=w at *;generalize d.map Dv.enc=rows at *;generalize gU j p=pr at *;generalize p.e.enc.map AV.iv=ee at *;by_cases h0:p.s<=v.s
   ·by_cases h1:v.s<=(cH.length:Int)
    ·refine⟨H5,n5,(Ext.refl b8.fresh (show n2+39+1+14<=n2+39+1+14+36 by omega)).trans (ei.trans kT),λn hn ops ho=>?_⟩;subst ho;have d4:=c4 n (by omega);have d5:=c5 n (by omega);simp[bn,bH,pC,uP,uu,oN,Za,ma,xy,a2,fp,h0,h1,d4,d5];exact(by unfold dw;rw[Bool.or_eq_true];right;simp[cL,dC,c9,meets,M.bN,M.bind,M.ok,M.lift,mk,bB,oN,Za,ma,y9])
    ·refine⟨H3,n2+39+1+14+36,Ext.refl b8.fresh (by omega),λn hn ops ho=>?_⟩;subst ho;simp[bn,bH,pC,uP,uu,oN,ma,xy,a2,fp,h0,h1];exact(by unfold dw;rw[Bool.or_eq_true];right;simp[cL,dC,c9,meets,M.bN,M.bind,M.ok,M.lift,mk,bB,oN])
   ·refine⟨H3,n2+39+1+14+36,Ext.refl b8.fresh (by omega),λn hn ops ho=>?_⟩;subst ho;simp[bn,bH,pC,uP,uu,oN,ma,xy,a2,fp,h0];exact(by unfold dw;rw[Bool.or_eq_true];right;simp[cL,dC,c9,meets,M.bN,M.bind,M.ok,M.lift,mk,bB,oN])
  refine af ?_;refine aI (K:=max K4 K5) (λn hn=>zH n hn _ rfl) ?_;generalize(decide (p.s<=v.s)&&(decide (v.s<=(cH.length:Int))&&jG g v.c v.s p.e))=base at *;have VW:=jP.trans oO;have hg6:get H6 (4*(n2+39+1+12))=some (.cells (gU j p)):=by rw[oO.bu _ (by omega)];exact oN
  have aa1:QI H6 n6 yb l:=QE.mono zG oO.le oO.bu;have G6:=G.ext VW;have GD:=G6.at_;rw[hyp]at GD;simp only[List.nil_append]at GD;have abO:=oO.le;have VX:get H6 iB=some (.buf vp 15 rp):=by rw[oO.bu _ (by omega),b8.bu _ i1];exact i4
  refine aj ?_;refine aq ?_;refine b7 (λm s1=>∃(k n7:Nat),k+m=t/\n6<=n7/\
   s1=⟨[(1,.iv (.sl 24 cH)),(2,.iv (.sl 3 (d.map Dv.enc))),(3,.ref hb 0 0 0),(7,.ref aN 0 0 0),(8,yb),(9,.nI t),(10,.bI (base&&!(d.take k).any (lD g v p))),(11,.ref (4*(n2+39+1+12)) 0 0 0),(12,.nI k)],H6,n7⟩) (m:=t)
   ⟨0,n6+1,by omega,by omega,by simp[aP,an]⟩ ?_
  rintro m s1 ⟨k,n7,C6,hn7,rfl⟩;refine af (af ?_);by_cases hk:k<t
  ·obtain⟨u,hu⟩:∃u,d[k]?=some u:=⟨_,List.getElem?_eq_getElem (by omega)⟩;have tX:IntKind.i64.wrap ((k:Int)+1)=(k:Int)+1:=IntWalk.i64_in _ (by omega);have Iu:=oi hu;rw[show u.enc=[.int .i64 u.c,.int .i64 u.p,.int .i64 u.s] from rfl]at Iu;have b9:=gp (f:=lD g v p) hu;generalize(d.take k).any (lD g v p)=C7 at *;refine aD (by simp[hk];rfl) ?_;refine ag (t:=true) rfl (ak (af (aq (af (Wp.drawn rfl ?_)))));refine aI (K:=0) (s':=⟨[(1,.iv (.sl 24 cH)),(2,.iv (.sl 3 (d.map Dv.enc))),(3,.ref hb 0 0 0),(7,.ref aN 0 0 0),(8,yb),(9,.nI t),(10,.bI (base&&!C7)),(11,.ref (4*(n2+39+1+12)) 0 0 0),(12,.nI k),(175,.bI (lD g v p u))],H6,n7+3+63⟩) (λn _=>by
    have VY:=zR g u.p;have fe:lD g v p u=match fN g u.p with
     |some q=>u.c==v.c&&(q.c==p.c&&decide (v.p<=u.p))
     |none=>false:=rfl
    rw[fe];generalize d.map Dv.enc=rows at *;cases hq:fN g u.p with
    |none=>
     rw[hq,Option.isSome_none]at VY;generalize gU j p=pr at *;by_cases h0:1<=u.p
     ·have h1:¬u.p<=(g.cQ.length:Int):=λh=>by rw[decide_eq_true h0,decide_eq_true h]at VY;cases VY
      simp[Iu,GD,VX,h0,h1]
     ·simp[Iu,h0]
    |some q=>
     obtain⟨j2,jh,Zb⟩:=GC hq;have Gv:j2<g.cQ.length:=(List.getElem?_eq_some_iff.1 Zb).1;have XO:=G6.pl.2 j2 q Zb;have abP:=Ce j2 q;have b1:=(uh j2 q).1;have b1':=(uh j2 q).2.1;have aa2:IntKind.i64.wrap (j2:Int)=(j2:Int):=IntWalk.i64_in _ (by omega);have JR:((j2:Int)+1<=(g.cQ.length:Int)):=by omega
     have VZ:(1:Int)<=(j2:Int)+1:=by omega
     simp only[];rw[jh]at Iu ⊢;generalize gU j p=pr at *;generalize gU j2 q=pr2 at *;cases h2:u.c==v.c with
     |false=>simp[Iu,uu,GD,VX,JR,VZ,h2]
     |true=>cases h3:q.c==p.c<;>simp[Iu,uu,GD,VX,Gv,XO,aa2,b1,b1',a1,MK,hg6,JR,VZ,h2,h3]) ?_
   refine ag rfl ?_;cases hg:lD g v p u with
   |true=>
    rw[hg,Bool.or_true]at b9;simp only[if_true];refine bK ?_;simp only[Ex.then,Ex.inBlock];refine aD (by simp[tX];rfl) ?_;exact⟨m - 1,by omega,k+1,_,by omega,by show n6<=n7+3+63+1+3;omega,by simp[aP,an,b9]⟩
   |false=>
    rw[hg,Bool.or_false]at b9;simp only[Bool.false_eq_true,if_false];refine ak ?_;simp only[Ex.then,Ex.inBlock];refine aD (by simp[tX];rfl) ?_;exact⟨m - 1,by omega,k+1,_,by omega,by show n6<=n7+3+63+3;omega,by simp[aP,an,b9]⟩
  ·obtain rfl:k=t:=by omega
   refine bK ?_;refine ag (t:=false) rfl (aO ?_);simp only[Ex.then,Ex.inBlock,if_true];exact VT _ _ H6 (n7+3) (VW.up (by omega)) (QE.mono aa1 (by omega) λ_ _=>rfl) rfl rfl rfl rfl rfl rfl rfl
end
theorem Dl (g:Lg) (N n:Nat) (d:List Dv):∀t,(lX g N n d t).length<=t
 |0=>Nat.le_refl _
 |t+1=>by
  have ih:=Dl g N n d t;rw[lX];split
  ·split
   ·omega
   ·rw[List.length_append];simp;omega
  ·omega
section
variable {p1:Nat->Option ao.aA} {p2:Nat->Option aA}
theorem XP (bF:bW p2) (L:nF p1 p2) (Pg:p2 206=some uP) (zP:p2 208=some zi) (zQ:p2 209=some zj) (x:Hd) (hp:x.ps.length<=100) (hh:x.hs.length<=100) (l:List ao.Op) (hl:l.length<=1000) (cg:∀o ∈ l,o.ok) (d:List Dv) (hd:d.length<=1000) (H:Hp) (nx:Nat) (hf:cr H nx) :
  ∃H' aW y,Ext H nx H' aW/\QI H' aW y (sV (eO x l) l.length d)/\Ev p1 p2 206 [.agg (cj x),.iv (.sl 24 (l.map ao.Op.enc)),.iv (.sl 3 (d.map Dv.enc))] H nx (y,H',aW):=by
 have eJ:get H (4*nx)=none:=hf _ (by omega);have dy:Ext H nx (ay.set H (4*nx) (.cells (cj x))) (nx+2):=(Ext.refl hf (by omega)).set (by omega) (by omega) _;have hb:get (ay.set H (4*nx) (Ob.cells (cj x))) (4*nx)=some (.cells (cj x)):=ar _ _ _;generalize C4:ay.set H (4*nx) (Ob.cells (cj x))=H0 at dy hb;obtain⟨H1,n1,aN,ya,yp,yd,ra,rp,dH,G,K1,ct⟩:=QC (p1:=p1) bF L x hp hh l hl cg H0 (nx+2+4) (λk hk=>dy.fresh k (by omega));have qB:Ext H nx H1 n1:=(dy.up (show nx+2<=nx+2+4 by omega)).trans dH;have Ia:=sW x l;unfold sV;rw[Ir (Pa x l)];generalize eO x l=g at *
 have Kh:=dH.le;have nO:get H1 (4*nx)=some (.cells (cj x)):=by rw[dH.bu _ (by omega)];exact hb
 have key:Wp p1 p2 uP.body ⟨params [.agg (cj x),.iv (.sl 24 (l.map ao.Op.enc)),.iv (.sl 3 (d.map Dv.enc))] 0,H,nx⟩ (λe st=>∃r:AV×Hp×Nat,(Ext H nx r.2.1 r.2.2/\QI r.2.1 r.2.2 r.1 (lX g l.length x.hs.length d d.length))/\Fin uP.res r e st):=by
  have n9:(l.map ao.Op.enc).length=l.length:=by simp
  have uk:∀H:Hp,(ay.len false (.iv (.sl 3 (d.map Dv.enc)))).run H=some (.nI d.length,H):=λH=>by simp[ay.len,M.run]
  generalize l.map ao.Op.enc=cH at *;obtain⟨dd,Dk⟩:∃dd,AV.iv (.sl 3 (d.map Dv.enc))=dd:=⟨_,rfl⟩;rw[Dk]at uk;rw[Dk];refine au (s':=⟨_,H0,nx+2⟩) (by
   rw[<-C4];simp[eJ];rfl) ?_
  refine cq (K:=K1) (λn hn=>by
   have c:=ct n hn;simp[hb,iH,jE,c];rfl) ?_
  refine aj ?_;refine af (aj ?_);refine aq ?_;refine b7 (λm s1=>∃(t n2:Nat) (H2:Hp) (yb:AV),t+m=d.length/\Ext H1 n1 H2 n2/\QI H2 n2 yb (lX g l.length x.hs.length d t)/\(∀k o m w,yb = .own k o m w->4*n1<=k)/\
   s1=⟨[(1,.iv (.sl 24 cH)),(2,dd),(3,.ref (4*nx) 0 0 0),(7,.ref aN 0 0 0),(8,yb),(9,.nI t)],H2,n2⟩) (m:=d.length)
   ⟨0,n1+1+1,H1,.iv (.aV 1),by omega,Ext.refl dH.fresh (by omega),QI.nil _ _,(λk o m w h=>by cases h),by simp[aP,an]⟩ ?_
  rintro m s1 ⟨t,n2,H2,yb,ML,b8,kY,km,rfl⟩;refine af (af ?_);by_cases ht:t<d.length
  ·obtain⟨v,hv⟩:∃v,d[t]?=some v:=⟨_,List.getElem?_eq_getElem ht⟩;have dX:IntKind.i64.wrap ((t:Int)+1)=(t:Int)+1:=IntWalk.i64_in _ (by omega);have da:=M6 (p1:=p1) bF L zP zQ G (by omega) (by omega) x (4*nx) (by omega) nO cH d hd t v hv (lX g l.length x.hs.length d t) (Dl _ _ _ _ _) H2 (n2+4) (b8.up (by omega)) yb (QE.mono kY (by omega) λ_ _=>rfl) km;have OC:lX g l.length x.hs.length d (t+1)=if xL g l.length x.hs.length d t v=true then lX g l.length x.hs.length d t else lX g l.length x.hs.length d t++[(t:Int)]:=by rw[lX,hv]
   rw[n9,<-OC,Dk]at da;refine aD (by
    simp[-len,uk,ht];rfl) ?_
   refine ag (t:=true) rfl (ak (af (aq ?_)));refine Wp.mono da ?_;rintro e ⟨fr,H4,n4⟩ ⟨rfl,kB,⟨f1,f2,f3,f7,f8,f9⟩,b1,b2,b3⟩;simp only[]at f1 f2 f3 f7 f8 f9 b1 b2 b3;refine aD (by
    simp[bU,f1,f2,f3,f7,f8,f9,dX];rfl) ?_
   exact⟨m - 1,by omega,t+1,n4+3,H4,kB,by omega,b1.up (by omega),QE.mono b2 (by omega) λ_ _=>rfl,b3,by simp[aP,an]⟩
  ·obtain rfl:t=d.length:=by omega
   refine aD (by
    simp[-len,uk];rfl) ?_
   refine ag (t:=false) rfl (aO ?_);refine aj ?_;exact ax ⟨(yb,H2,n2+4+2),⟨qB.trans (b8.up (show n2<=n2+4+2 by omega)),QE.mono kY (show n2<=n2+4+2 by omega) λ_ _=>rfl⟩,rfl,rfl⟩
 obtain⟨⟨y,H',aW⟩,⟨h1,h2⟩,h4⟩:=Ev.jn bF Pg rfl rfl _ key;exact⟨H',aW,y,h1,h2,h4⟩
end
section
variable {p1:Nat->Option ao.aA} {p2:Nat->Option aA}
set_option maxHeartbeats 16000000 in
theorem Ph (bF:bW p2) (hm:∀n,ka (fH p1 p2 n)) (L:jF p1 p2) (R:nF p1 p2) (W:Vh p1) (Pg:p2 206=some uP) (Pf:p2 207=some BX) (zP:p2 208=some zi) (zQ:p2 209=some zj) (aa3:p2 278=some JC) {K0:Nat} (ht:Bh 12 p1 p2 K0=true)
  (x:Hd) (l:List ao.Op) (hl:l.length<=maxLen) (cg:∀o ∈ l,o.ok) (d:List Dv) (Lm:∀v ∈ d,dE v.p) :
  ∃n p,fH p1 p2 n 278 [.agg (cj x),.iv (.sl 24 (l.map ao.Op.enc)),.iv (.sl 3 (d.map Dv.enc))] .nil 1=some (.bI true,p):=by
 obtain⟨h,n,h2,n2,e1,eJ,f4,YQ,e2,g4,g4n⟩:=GS ht;have iw:get h (4*n)=none:=eJ _ (Nat.le_refl _);obtain⟨KA,hA⟩:=yJ bF hm e1 [(4,.cells (cj x))] (λp hp=>by simp at hp;subst hp;exact f4);obtain⟨KB,hB⟩:=yJ bF hm e2 [(4,.cells (cj x)),(4*n,.cells (cj x))] (λp hp=>by
  simp at hp;rcases hp with rfl | rfl
  ·exact g4
  ·exact g4n)
 have Zc:∀m,KA<=m->fH p1 p2 m 158 [] (ay.set (Tr.nil:Hp) 4 (.cells (cj x))) 12=some (.bI true,ay.set h 4 (.cells (cj x)),n):=hA;have hB':∀m,KB<=m->fH p1 p2 m 158 [] (ay.set (ay.set h 4 (.cells (cj x))) (4*n) (.cells (cj x))) (n+18)=some (.bI true,ay.set (ay.set h2 4 (.cells (cj x))) (4*n) (.cells (cj x)),n2):=hB;have Bp:get (ay.set h 4 (Ob.cells (cj x))) 4=some (.cells (cj x)):=ar _ _ _;have V0:cr (ay.set h 4 (.cells (cj x))) n:=λk hk=>by rw[aF _ _ (by omega)];exact eJ k hk
 obtain⟨KF,hF⟩:=Vi (p1:=p1) bF L W x l hl cg (.iv (.sl 3 (d.map Dv.enc))) (.iv (.aV 4)) d.length 0 (λH=>by simp[ay.len,M.run]) (λH=>rfl) (ay.set h 4 (.cells (cj x))) n (V0 _ (Nat.le_refl _));have abn:get (ay.set (Tr.nil:Hp) 4 (Ob.cells (cj x))) 4=some (.cells (cj x)):=ar _ _ _;have V1:get (ay.set (ay.set h 4 (Ob.cells (cj x))) (4*n) (Ob.cells (cj x))) 4=some (.cells (cj x)):=by rw[aF _ _ (by omega)];exact Bp
 have hEf:Ext (ay.set h 4 (.cells (cj x))) n (ay.set (ay.set h 4 (.cells (cj x))) (4*n) (.cells (cj x))) (n+16):=(Ext.refl V0 (show n<=n+16 by omega)).set (by omega) (by omega) _;have key:Wp p1 p2 JC.body ⟨params [.agg (cj x),.iv (.sl 24 (l.map ao.Op.enc)),.iv (.sl 3 (d.map Dv.enc))] 0,.nil,1⟩ (λe st=>∃r:AV×Hp×Nat,r.1 = .bI true/\Fin JC.res r e st):=by
  have V2:∀(cH dr:AV),∀m,aS (one p1 m) (fH p1 p2 m) false [⟨some 3,.box 0 (.t 0),none,[]⟩,⟨some 6,.eM (.c (.bI false)),none,[]⟩] [1,2,3] ⟨params [.agg (cj x),cH,dr] 0,.nil,1⟩=some ⟨[(1,cH),(2,dr),(3,.ref 4 0 0 0)],ay.set .nil 4 (.cells (cj x)),3⟩:=by
   intro cH dr m;simp[aS,a7,step,cw,fJ,bp,bh,params,az,M.run,M.ok,M.fresh,M.write,wK,ev,aP,bT,bU,an]
  cases hb:Gc x l d.length 0 with
  |false=>
   rw[hb]at hF;refine af (aI (K:=0) (λm _=>V2 _ _ m) (af (af ?_)));generalize l.map ao.Op.enc=cH at *;generalize d.map Dv.enc=dr at *;generalize It:ay.set h 4 (Ob.cells (cj x))=HA at *;refine aI (K:=max KA KF) (λm hm=>by
    have a1:=Zc m (by omega);have a2:=hF m (by omega);simp[a1,a2,Bp,iH,jE];rfl) ?_
   refine ag (t:=true) rfl ?_;simp only[if_true];refine cq (K:=KB) (λm hm=>by
    have a1:=hB' m (by omega);simp[a1];rfl) ?_
   exact ax ⟨(_,_,_),rfl,rfl,rfl⟩
  |true=>
   rw[hb]at hF;obtain⟨b1,b2,b3,b4, -⟩:=OJ hb;have Io:l.length<=1000:=by omega
   have FR:d.length<=1000:=by omega
   generalize C4:ay.set (ay.set h 4 (Ob.cells (cj x))) (4*n) (Ob.cells (cj x))=H0 at *;have hf0:cr H0 (n+16+10):=λq hq=>hEf.fresh q (by omega)
   obtain⟨H1,n1,y1,E1,q1,K1,c1⟩:=XA (p1:=p1) bF L x b1 b2 l Io cg d FR H0 (n+16+10) hf0;obtain⟨H2,m2,y2,E2,q2,K2,c2⟩:=XN (p1:=p1) bF R Pf x b1 b2 l Io cg d FR H1 n1 E1.fresh;have oV:get H1 4=some (.cells (cj x)):=by rw[E1.bu _ (by omega)];exact V1
   have abQ:=E1.le;have Kh:=E2.le;have CJ:get H2 4=some (.cells (cj x)):=by rw[E2.bu _ (by omega)];exact oV
   have Zd:=q1.mono E2.le E2.bu;have w1:=Zd.len;have w2:=q2.len;have Qv:=rq (eO x l) d x.hs.length;have Ia:=sW x l;have hmul:x.hs.length*(eO x l).cQ.length<=100*1000:=Nat.mul_le_mul b2 (by omega);generalize hX:fT (eO x l) d x.hs.length=ms at *;rw[List.length_map]at w1 w2;have hs9:(sV (eO x l) l.length d).length<=1000:=by have:=vn (eO x l) l.length d d.length;unfold sV;omega
   refine af (aI (K:=0) (λm _=>V2 _ _ m) (af (af ?_)));have XQ:=λH nx hf=>Xt (p1:=p1) bF L x b1 b2 l Io cg d FR Lm H nx hf
   have V3:=λH nx hf=>XP (p1:=p1) bF R Pg zP zQ x b1 b2 l Io cg d FR H nx hf
   obtain⟨KS,hS⟩:=OH (p1:=p1) W.OI _ (sV (eO x l) l.length d) hs9;generalize sV (eO x l) l.length d=sx at *;generalize U0:l.map ao.Op.enc=cH at *;generalize CX:d.map Dv.enc=dr at *;refine aI (K:=max KA KF) (λm hm=>by
    have a1:=Zc m (by omega);have a2:=hF m (by omega);simp[a1,a2,Bp,iH,jE];rfl) ?_
   refine ag (t:=false) rfl ?_;simp only[Bool.false_eq_true,if_false];refine ak ?_;simp only[Ex.then];refine cq (K:=max K1 K2) (s':=⟨[(1,.iv (.sl 24 cH)),(2,.iv (.sl 3 dr)),(3,.ref 4 0 0 0),(7,y1),(8,y2)],H2,m2⟩) (λm hm=>by
    have d1:=c1 m (by omega);have d2:=c2 m (by omega);simp[bn,bH,V1,oV,iH,jE,d1,d2];exact(by unfold dw;rw[Bool.or_eq_true];right;simp[cL,dC,c9,meets,M.bN,M.bind,M.ok,M.lift,mk,bB,V1,oV,jE,iH,y9])) ?_
   refine af (au (by
    simp[-len,w1,w2];rfl) ?_)
   refine ag (t:=false) rfl ?_;simp only[Bool.false_eq_true,if_false];refine ak ?_;refine af (au (by
    simp[-len,w1];rfl) ?_)
   refine aq ?_;refine b7 (λm s1=>∃(i n3:Nat),i+m=ms.length/\m2<=n3/\
    s1=⟨[(1,.iv (.sl 24 cH)),(2,.iv (.sl 3 dr)),(3,.ref 4 0 0 0),(7,y1),(8,y2),(34,.nI ms.length),(35,.nI i)],H2,n3⟩) (m:=ms.length)
    ⟨0,m2+5+3,by omega,by omega,by simp[aP,an]⟩ ?_
   rintro m s1 ⟨i,n3,oC,HO,rfl⟩;refine af ?_;by_cases hi:i<ms.length
   ·obtain⟨v,hv⟩:∃v,ms[i]?=some v:=⟨_,List.getElem?_eq_getElem hi⟩;have dX:IntKind.i64.wrap ((i:Int)+1)=(i:Int)+1:=IntWalk.i64_in _ (by omega);have aH:(ms.map ik)[i]?=some [.nI v.1,.nI v.2]:=by rw[List.getElem?_map,hv];rfl
    obtain⟨id1,v1,i1, -,rfl,i4⟩:=Zd.at_ aH;obtain⟨id2,v2,j1, -,rfl,j4⟩:=q2.at_ aH;have V4:(ms.map ik).length=ms.length:=List.length_map ..;generalize ms.map ik=rows at *;have gZ:i<rows.length:=by omega
    have XR:rows[i]'gZ=[.nI v.1,.nI v.2]:=(List.getElem?_eq_some_iff.1 aH).2;refine aD (by simp[hi];rfl) ?_;refine af (ag (t:=true) rfl (ak (af (aq (aj ?_)))));refine af (Wp.drawn rfl ?_);refine aD (by
     simp[i4,j4,V4,hi,XR,eqs,ly];rfl) ?_
    refine ag (t:=false) rfl ?_;simp only[Bool.false_eq_true,if_false];refine ak ?_;refine aD (by simp[dX];rfl) ?_;exact⟨m - 1,by omega,i+1,_,by omega,by show m2<=n3+1+2+9+2;omega,by simp[aP,an,V4]⟩
   ·obtain rfl:i=ms.length:=by omega
    refine bK ?_;refine af (ag (t:=false) rfl (aO ?_));obtain⟨H3,n4,y3,E3,q3,K3,c3⟩:=XQ H2 (n3+1+10) (λq hq=>E2.fresh q (by omega));obtain⟨H4,n5,y4,E4,q4,K4,c4⟩:=V3 H3 n4 E3.fresh;have Dd:get H3 4=some (.cells (cj x)):=by rw[E3.bu _ (by omega)];exact CJ
    have q34:QI H4 n5 y3 sx:=QE.mono q3 E4.le E4.bu;refine cq (K:=max KS (max K3 K4)) (s':=⟨[(6,.bI true)],H4,n5⟩) (λm hm=>by
     have d3:=c3 m (by omega);have d4:=c4 m (by omega);have ds:=hS m (by omega) H4 _ _ y3 y4 q34 q4;simp[bn,bH,CJ,Dd,iH,jE,d3,d4,ds];exact(by unfold dw;rw[Bool.or_eq_true];right;simp[cL,dC,c9,meets,M.bN,M.bind,M.ok,M.lift,mk,bB,CJ,Dd,jE,iH,y9])) ?_
    exact ax ⟨(_,_,_),rfl,rfl,rfl⟩
 obtain⟨⟨y,q⟩,hy,m,hM⟩:=Ev.jn bF aa3 rfl rfl _ key;cases hy;exact⟨m,q,hM m (Nat.le_refl m)⟩
end
end ay

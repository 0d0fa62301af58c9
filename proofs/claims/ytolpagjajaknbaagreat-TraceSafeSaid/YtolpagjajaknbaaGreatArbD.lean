/-
  A part of the proof: two abstract machines for the code, and what the program does on them. No condition.
-/
import Derived.Test.YtolpagjajaknbaaGreatArbC
set_option linter.all false
namespace ao
open Go
attribute [local simp] aS Option.map_some a7 step cw bp az M.aG M.run M.ok M.fresh M.write M.look M.lift bT ao.set ev ao.get an bin cU db mk params bh load bB di ep dQ dn dB idx len valid eu bound store bl fV un eqs ly bn bH M.bN dw cL dC c9 meets dF dR callee bZ cE fz flat ew eI eZ Option.bind_some cz M.bind
def B.get (b:B):Nat->S
 |0=>b.s0
 |1=>b.s1
 |2=>b.s2
 |_=>b.s3
def B.cs (b:B):List AV:=b.enc.map .iv
def B.av (b:B):AV:=.agg b.cs
theorem B.iY (b:B) {i:Nat} (h:i<4):(b.cs.drop (i*4)).take 4=[.iv (.bool (b.get i).a),.iv (.sl 2 ((b.get i).i.map bM)),.iv (.bool (b.get i).c),.iv (.sl 1 ((b.get i).s.map st1))]:=by
 match i,h with
 |0,_=>rfl
 |1,_=>rfl
 |2,_=>rfl
 |3,_=>rfl
theorem B.hZ (b:B):b.cs.take 16=b.cs:=rfl
theorem B.bR (b:B):b.cs.length=16:=rfl
theorem B.cT (b:B) (n0:Nat) (h:Hp):b.cs.map (nrm n0 h 8)=b.cs:=pj n0 h b.enc
def notNil:IV->Bool
 |.aV _=>false
 |_=>true
theorem mM:∀(l:List IV) (s:Nat),l.all notNil=true->fV s (l.map .iv) = .ret (l.map .iv)
 |[],s,_=>by simp[fV]
 |x::r,s,h=>by
  simp only[List.all_cons,Bool.and_eq_true]at h;have ih:=mM r (s+1) h.2;cases x with
  |aV e=>simp[notNil]at h
  |_=>simp only[List.map_cons,fV,ih,M.bind]
theorem nP (w:Bool):∀(l:List IV),l.all notNil=true->M.aG (cE w) (l.map .iv) = .ret (l.map .iv)
 |[],_=>by simp[M.aG]
 |x::r,h=>by
  simp only[List.all_cons,Bool.and_eq_true]at h;have ih:=nP w r h.2;cases x with
  |aV e=>simp[notNil]at h
  |_=>rw[List.map_cons,M.aG,ih];rfl
theorem zo (w:Bool):∀(l:List IV),l.all notNil=true->M.aG (fz w 8) (l.map .iv) = .ret l
 |[],_=>by simp[M.aG]
 |x::r,h=>by
  simp only[List.all_cons,Bool.and_eq_true]at h;have ih:=zo w r h.2;cases x with
  |aV e=>simp[notNil]at h
  |_=>rw[List.map_cons,M.aG,ih];rfl
theorem B.fk (b:B):b.enc.all notNil=true:=by simp[B.enc,S.enc,notNil]
theorem B.c8 (b:B) (w:Bool):M.aG (cE w) b.cs = .ret b.cs:=nP w b.enc b.fk
theorem B.sM (b:B) (w:Bool):M.aG (fz w 8) b.cs = .ret b.enc:=zo w b.enc b.fk
theorem B.cI (b:B) (s:Nat):fV s b.cs = .ret b.cs:=mM b.enc s (by simp[B.enc,S.enc,notNil])
theorem B.B2 (b:B) (n0:Nat) (h:Hp):nrm n0 h 8 (.agg b.cs)=b.av:=B1 n0 h b.enc
theorem gS {i:Nat} (h:i<4):IntKind.i64.wrap ((i:Int)+1)=(i:Int)+1:=bw h (by simp[maxLen])
section
variable {prog:Nat->Option aA}
def jC (f:S->Bool) (b:B):Bool:=f b.s0&&(f b.s1&&(f b.s2&&f b.s3))
def eW (f:S->Bool) (b:B):Bool:=f b.s0||(f b.s1||(f b.s2||f b.s3))
theorem rh {f:S->Bool} {b:B} {i:Nat} (h:i<4) (hf:f (b.get i)=false):jC f b=false:=by
 match i,h with
 |0,_=>simp only[B.get]at hf;simp[jC,hf]
 |1,_=>simp only[B.get]at hf;simp[jC,hf]
 |2,_=>simp only[B.get]at hf;simp[jC,hf]
 |3,_=>simp only[B.get]at hf;simp[jC,hf]
theorem sN {f:S->Bool} {b:B} (h:∀i,i<4->f (b.get i)=true):jC f b=true:=by
 have h0:=h 0 (by omega);have h1:=h 1 (by omega);have h2:=h 2 (by omega);have h3:=h 3 (by omega);simp only[B.get]at h0 h1 h2 h3;simp[jC,h0,h1,h2,h3]
theorem CG {f:S->Bool} {b:B} {i:Nat} (h:i<4) (hf:f (b.get i)=true):eW f b=true:=by
 match i,h with
 |0,_=>simp only[B.get]at hf;simp[eW,hf]
 |1,_=>simp only[B.get]at hf;simp[eW,hf]
 |2,_=>simp only[B.get]at hf;simp[eW,hf]
 |3,_=>simp only[B.get]at hf;simp[eW,hf]
theorem uS {f:S->Bool} {b:B} (h:∀i,i<4->f (b.get i)=false):eW f b=false:=by
 have h0:=h 0 (by omega);have h1:=h 1 (by omega);have h2:=h 2 (by omega);have h3:=h 3 (by omega);simp only[B.get]at h0 h1 h2 h3;simp[eW,h0,h1,h2,h3]
theorem NT (AN:prog 24=some GX) (h:prog 46=some Py) (b:B):a8 prog 46 [b.av] (.bI (jC fF b)):=by
 refine a8.of h rfl rfl (au (by simp[aS,a7,step,cw,bp,az,M.run,M.fresh,M.write,bT,ao.set,ev,ao.get,an,params,bh,B.av,B.cI];rfl) ?_);refine af (au (by simp[B.hZ,B.bR];rfl) ?_);refine aq ?_;refine bQ 4 (λi=>⟨[(5,b.av),(6,.nI i)],[(1000,.cells b.cs)],1256⟩) (λi=>∀j,j<i->fF (b.get j)=true) rfl (by intro j hj;omega) ?_ ?_
 ·intro i hi hg;have cK:(i:Int)<4:=by omega
  have hm:min 4 (16 - i*4)=4:=by omega
  refine au (by
   have:decide ((i:Int)<4)=true:=decide_eq_true (by omega);simp[this];rfl) ?_
  refine af (ag rfl (ak (af (aq (au (by rw[show b.av = .agg b.cs from rfl];simp[B.iY b hi,cK,B.bR,hm];rfl) ?_)))));refine af ?_;obtain⟨K,hK⟩:=Fk AN (b.get i);refine aI (K:=K) (λn hn=>by
   have hc:=hK n hn;simp only[S.av]at hc;simp[hc];rfl) ?_
  refine ag rfl ?_;cases hs:fF (b.get i)with
  |false=>
   refine aj ?_;refine ax ?_;rw[rh hi hs];rfl
  |true=>
   refine ak ?_;refine bK ?_;refine⟨?_,λj hj=>?_⟩
   ·simp[again,an,get,cC,bG,B.B2,B.cT,gS hi]
   ·by_cases h:j=i
    ·subst h;exact hs
    ·exact hg j (by omega)
 ·intro hg;refine aj ?_;refine af (ag rfl (aO ?_));simp only[Ex.then,Ex.inBlock,if_true];refine aj ?_;refine ax ?_;rw[sN hg];rfl
theorem NU (dp:S->Bool) (hR:∀x:S,x.i.length<=maxLen->x.s.length<=maxLen->a8 prog 58 [x.av] (.bI (dp x))) (h:prog 45=some Px) (b:B) (hL:∀i,i<4->(b.get i).i.length<=maxLen/\(b.get i).s.length<=maxLen):a8 prog 45 [b.av] (.bI (jC dp b)):=by
 refine a8.of h rfl rfl (au (by simp[aS,a7,step,cw,bp,az,M.run,M.fresh,M.write,bT,ao.set,ev,ao.get,an,params,bh,B.av,B.cI];rfl) ?_);refine af (au (by simp[B.hZ,B.bR];rfl) ?_);refine aq ?_;refine bQ 4 (λi=>⟨[(5,b.av),(6,.nI i)],[(1000,.cells b.cs)],1256⟩) (λi=>∀j,j<i->dp (b.get j)=true) rfl (by intro j hj;omega) ?_ ?_
 ·intro i hi hg;have cK:(i:Int)<4:=by omega
  have hm:min 4 (16 - i*4)=4:=by omega
  refine au (by
   have:decide ((i:Int)<4)=true:=decide_eq_true (by omega);simp[this];rfl) ?_
  refine af (ag rfl (ak (af (aq (au (by rw[show b.av = .agg b.cs from rfl];simp[B.iY b hi,cK,B.bR,hm];rfl) ?_)))));refine af ?_;obtain⟨K,hK⟩:=hR (b.get i) (hL i hi).1 (hL i hi).2;refine aI (K:=K) (λn hn=>by
   have hc:=hK n hn;simp only[S.av]at hc;simp[hc];rfl) ?_
  refine ag rfl ?_;cases hs:dp (b.get i)with
  |false=>
   refine aj ?_;refine ax ?_;rw[rh hi hs];rfl
  |true=>
   refine ak ?_;refine bK ?_;refine⟨?_,λj hj=>?_⟩
   ·simp[again,an,get,cC,bG,B.B2,B.cT,gS hi]
   ·by_cases h:j=i
    ·subst h;exact hs
    ·exact hg j (by omega)
 ·intro hg;refine aj ?_;refine af (ag rfl (aO ?_));simp only[Ex.then,Ex.inBlock,if_true];refine aj ?_;refine ax ?_;rw[sN hg];rfl
theorem zq (Hz:prog 66=some PA) (h:prog 59=some R2) (b:B):a8 prog 59 [b.av] (.bI (eW cS b)):=by
 refine a8.of h rfl rfl (au (by simp[aS,a7,step,cw,bp,az,M.run,M.fresh,M.write,bT,ao.set,ev,ao.get,an,params,bh,B.av,B.cI];rfl) ?_);refine af (au (by simp[B.hZ,B.bR];rfl) ?_);refine aq ?_;refine bQ 4 (λi=>⟨[(5,b.av),(6,.nI i)],[(1000,.cells b.cs)],1256⟩) (λi=>∀j,j<i->cS (b.get j)=false) rfl (by intro j hj;omega) ?_ ?_
 ·intro i hi hg;have cK:(i:Int)<4:=by omega
  have hm:min 4 (16 - i*4)=4:=by omega
  refine au (by
   have:decide ((i:Int)<4)=true:=decide_eq_true (by omega);simp[this];rfl) ?_
  refine af (ag rfl (ak (af (aq (au (by rw[show b.av = .agg b.cs from rfl];simp[B.iY b hi,cK,B.bR,hm];rfl) ?_)))));refine af ?_;obtain⟨K,hK⟩:=NS Hz (b.get i);refine aI (K:=K) (λn hn=>by
   have hc:=hK n hn;simp only[S.av]at hc;simp[hc];rfl) ?_
  refine ag rfl ?_;cases hs:cS (b.get i)with
  |true=>
   refine aj ?_;refine ax ?_;rw[CG hi hs];rfl
  |false=>
   refine ak ?_;refine bK ?_;refine⟨?_,λj hj=>?_⟩
   ·simp[again,an,get,cC,bG,B.B2,B.cT,gS hi]
   ·by_cases h:j=i
    ·subst h;exact hs
    ·exact hg j (by omega)
 ·intro hg;refine aj ?_;refine af (ag rfl (aO ?_));simp only[Ex.then,Ex.inBlock,if_true];refine aj ?_;refine ax ?_;rw[uS hg];rfl
end
def S.cs (x:S):List AV:=x.enc.map .iv
theorem S.cT (x:S) (n0:Nat) (h:Hp):x.cs.map (nrm n0 h 8)=x.cs:=pj n0 h x.enc
theorem eP {n0:Nat} {h:Hp} {id:Nat} {cs:List AV} (h1:¬id<1000) (h2:id<n0) (hg:get h id=some (.cells cs)):nrm n0 h 8 (.ref id 0 0 0) = .ref id 0 0 0:=by
 simp[nrm,h1,h2,hg]
def jr (l:List (Int×Int)):Nat->Bool
 |0=>match l[0]? with
  |some r=>decide (r.2<r.1)
  |none=>false
 |j+1=>match l[j+1]?,l[j]? with
  |some r,some p=>decide (r.2<r.1)||(decide (r.1<=p.2)||IntKind.wrap .i64 (r.1 - 1)==p.2)
  |_,_=>false
def lq (l:List ByteArray):Nat->Bool
 |0=>match l[0]? with
  |some t=>decide (8<t.size)
  |none=>false
 |j+1=>match l[j+1]?,l[j]? with
  |some t,some p=>decide (8<t.size)||!fL p t
  |_,_=>false
def dp (x:S):Bool:=(List.range x.i.length).all (λi=>!jr x.i i)&&(List.range x.s.length).all λi=>!lq x.s i
section
variable {prog:Nat->Option aA}
set_option maxHeartbeats 2000000 in
theorem Fl (h:prog 58=some Lf) (x:S) (hi:x.i.length<=maxLen) (hs:x.s.length<=maxLen):a8 prog 58 [x.av] (.bI (dp x)):=by
 refine a8.of h rfl rfl (au (s':=⟨[(1,.ref 1000 0 0 0)],[(1000,.cells x.cs)],1128⟩) (by simp[S.av,S.cs,S.enc]) ?_);refine af (au (s':=⟨[(1,.ref 1000 0 0 0),(8,.iv (.sl 2 (x.i.map bM))),(9,.nI x.i.length),(10,.nI 0)],[(1000,.cells x.cs)],1384⟩) (by simp[S.cs,S.enc]) ?_);refine aq ?_;refine bQ x.i.length (λi=>⟨[(1,.ref 1000 0 0 0),(8,.iv (.sl 2 (x.i.map bM))),(9,.nI x.i.length),(10,.nI i)],[(1000,.cells x.cs)],1384⟩) (λi=>∀j,j<i->jr x.i j=false) (by simp[an,get]) (by intro j hj;omega) ?_ ?_
 ·intro i gZ hg;obtain⟨r,hr⟩:∃r,x.i[i]?=some r:=⟨_,List.getElem?_eq_getElem gZ⟩;refine au (by simp[gZ];rfl) ?_;refine af (ag rfl (ak (af (aq (au (s':=⟨[(1,.ref 1000 0 0 0),(3,.nI i),(4,.ref 1640 0 0 0),(8,.iv (.sl 2 (x.i.map bM))),(9,.nI x.i.length),(10,.nI i)],[(1000,.cells x.cs),(1640,.cells [.nI r.1,.nI r.2])],1832⟩) (by
   simp[hr,bM]) ?_)))))
  refine af ?_;refine aI (K:=0) (s':=⟨[(1,.ref 1000 0 0 0),(8,.iv (.sl 2 (x.i.map bM))),(9,.nI x.i.length),(10,.nI i),(48,.bI (jr x.i i))],[(1000,.cells x.cs),(1640,.cells [.nI r.1,.nI r.2])],4008⟩) (λn _=>cM rfl (by
   cases i with
   |zero=>
    cases h1:decide (r.2<r.1)<;>simp[jr,hr,h1]
   |succ j=>
    obtain⟨p,hp⟩:∃p,x.i[j]?=some p:=⟨_,List.getElem?_eq_getElem (by omega)⟩;have e0:decide ((0:Int)<(j:Int)+1)=true:=decide_eq_true (by omega);have e1:IntKind.i64.wrap (j:Int)=(j:Int):=IntWalk.i64_in _ (by unfold maxLen at hi;omega);cases h1:decide (r.2<r.1)with
    |true=>simp[jr,hr,hp,h1]
    |false=>
     cases h2:decide (r.1<=p.2)with
     |true=>simp[S.cs,S.enc,jr,hr,hp,bM,h1,h2,e0,e1]
     |false=>
      cases h3:IntKind.wrap .i64 (r.1 - 1)==p.2<;>simp[S.cs,S.enc,jr,hr,hp,bM,h1,h2,h3,e0,e1])) ?_
  refine ag rfl ?_;cases hb:jr x.i i with
  |true=>
   refine aj ?_;refine ax ?_;have:dp x=false:=by
    simp only[dp,Bool.and_eq_false_iff];exact .inl (List.all_eq_false.2 ⟨i,by simpa using gZ,by simp[hb]⟩)
   rw[this];rfl
  |false=>
   refine ak ?_;refine bK ?_;refine⟨?_,λj hj=>?_⟩
   ·simp[again,an,get,cC,eP,bG,S.cT,bw gZ hi]
   ·by_cases h:j=i
    ·subst h;exact hb
    ·exact hg j (by omega)
 ·intro hg;have hints:(List.range x.i.length).all (λi=>!jr x.i i)=true:=by
   rw[List.all_eq_true];intro i hi;simp[hg i (by simpa using hi)]
  refine aj ?_;refine af (ag rfl (aO ?_));simp only[Ex.then,Ex.inBlock,if_true];refine af (au (s':=⟨[(1,.ref 1000 0 0 0),(51,.iv (.sl 1 (x.s.map st1))),(52,.nI x.s.length),(53,.nI 0)],[(1000,.cells x.cs)],1704⟩) (by simp[S.cs,S.enc]) ?_);refine aq ?_;refine bQ x.s.length (λi=>⟨[(1,.ref 1000 0 0 0),(51,.iv (.sl 1 (x.s.map st1))),(52,.nI x.s.length),(53,.nI i)],[(1000,.cells x.cs)],1704⟩) (λi=>∀j,j<i->lq x.s j=false) (by simp[an,get]) (by intro j hj;omega) ?_ ?_
  ·intro i gZ hg;obtain⟨t,ht⟩:∃t,x.s[i]?=some t:=⟨_,List.getElem?_eq_getElem gZ⟩;refine au (by simp[gZ];rfl) ?_;refine af (ag rfl (ak (af (aq (au (s':=⟨[(1,.ref 1000 0 0 0),(5,.nI i),(6,.iv (.str t)),(51,.iv (.sl 1 (x.s.map st1))),(52,.nI x.s.length),(53,.nI i)],[(1000,.cells x.cs)],2088⟩) (by
    simp[ht,st1]) ?_)))))
   refine af ?_;refine aI (K:=0) (s':=⟨[(1,.ref 1000 0 0 0),(51,.iv (.sl 1 (x.s.map st1))),(52,.nI x.s.length),(53,.nI i),(74,.bI (lq x.s i))],[(1000,.cells x.cs)],3176⟩) (λn _=>cM rfl (by
    have e2:decide ((8:Int)<(t.size:Int))=decide (8<t.size):=decide_eq_decide.2 (by omega);cases i with
    |zero=>cases h1:decide (8<t.size)<;>simp[lq,ht,h1,e2]
    |succ j=>
     obtain⟨p,hp⟩:∃p,x.s[j]?=some p:=⟨_,List.getElem?_eq_getElem (by omega)⟩;have e0:decide ((0:Int)<(j:Int)+1)=true:=decide_eq_true (by omega);have e1:IntKind.i64.wrap (j:Int)=(j:Int):=IntWalk.i64_in _ (by unfold maxLen at hs;omega);cases h1:decide (8<t.size)with
     |true=>simp[lq,ht,hp,h1,e2]
     |false=>simp[S.cs,S.enc,lq,ht,hp,st1,h1,e0,e1,e2])) ?_
   refine ag rfl ?_;cases hb:lq x.s i with
   |true=>
    refine aj ?_;refine ax ?_;have:dp x=false:=by
     simp only[dp,Bool.and_eq_false_iff];exact .inr (List.all_eq_false.2 ⟨i,by simpa using gZ,by simp[hb]⟩)
    rw[this];rfl
   |false=>
    refine ak ?_;refine bK ?_;refine⟨?_,λj hj=>?_⟩
    ·simp[again,an,get,cC,eP,bG,S.cT,bw gZ hs]
    ·by_cases h:j=i
     ·subst h;exact hb
     ·exact hg j (by omega)
  ·intro HB;refine aj ?_;refine af (ag rfl (aO ?_));simp only[Ex.then,Ex.inBlock,if_true];refine aj ?_;refine ax ?_;have:dp x=true:=by
    simp only[dp,hints,Bool.true_and];rw[List.all_eq_true];intro i hi;simp[HB i (by simpa using hi)]
   rw[this];rfl
end
theorem B.gw (b:B):b.enc.take 16=b.enc:=rfl
theorem B.gh (b:B):b.enc.length=16:=rfl
theorem B.jm (b:B):b.enc.map AV.iv=b.cs:=rfl
section
variable {prog:Nat->Option aA}
end
section
variable {prog:Nat->Option aA}
end
def B.fits (b:B):Prop:=∀i,i<4->(b.get i).i.length<=maxLen/\(b.get i).s.length<=maxLen
section
variable {prog:Nat->Option aA}
end
section
variable {prog:Nat->Option aA}
end
section
variable {prog:Nat->Option aA}
def wZ (a b:Int):Int:=if a<b then -1 else if b<a then 1 else 0
theorem HC (h:prog 63=some G8) (a:Int):a8 prog 63 [.nI a] (.bI false):=by
 refine a8.of h rfl rfl (aj ?_);refine au (s':=⟨[(2,.bI false)],[],1320⟩) (by simp) ?_;exact ax rfl
theorem WR (vD:prog 63=some G8) (h:prog 52=some Le) (a b:Int):a8 prog 52 [.nI a,.nI b] (.nI (wZ a b)):=by
 obtain⟨K1,h1⟩:=HC vD a;obtain⟨K2,h2⟩:=HC vD b;refine a8.of h rfl rfl (aj ?_);refine cq (K:=K1) (λn hn=>by simp[h1 n hn];rfl) ?_;refine cq (K:=K2) (λn hn=>by simp[h2 n hn];rfl) ?_;refine af (aj ?_);refine ag rfl (ak (af (aj ?_)));refine ag rfl (ak (af (aj ?_)));refine ag rfl ?_;unfold wZ;cases h3:decide (a<b)with
 |true=>
  refine aj ?_;refine ax ?_;rw[if_pos (of_decide_eq_true h3)];rfl
 |false=>
  refine ak (af (aj ?_));refine ag rfl ?_;rw[if_neg (of_decide_eq_false h3)];cases h4:decide (b<a)with
  |true=>
   refine aj ?_;refine ax ?_;rw[if_pos (of_decide_eq_true h4)];rfl
  |false=>
   refine ak (aj ?_);refine ax ?_;rw[if_neg (of_decide_eq_false h4)];rfl
theorem TJ (vD:prog 63=some G8) (LZ:prog 52=some Le) (h:prog 51=some Pz) (p q:Int×Int) :
  a8 prog 51 [.agg [.nI p.1,.nI p.2],.agg [.nI q.1,.nI q.2]] (.nI (wZ p.1 q.1)):=by
 obtain⟨K1,h1⟩:=WR vD LZ p.1 q.1;refine a8.of h rfl rfl (aj ?_);refine cq (K:=K1) (λn hn=>by simp[h1 n hn];rfl) ?_;exact ax rfl
end
section
variable {prog:Nat->Option aA}
def oA (x:S):Bool:=decide (x.i.length<=40)&&decide (x.s.length<=40)&&x.s.all λt=>decide (t.size<=100)
theorem TK (h:prog 27=some GY) (l:List S) (hl:l.length<=maxLen):a8 prog 27 [dk l] (.bI (l.all oA)):=by
 refine a8.of h rfl rfl (aj ?_);refine af (aj ?_);refine aq ?_;refine bQ l.length (λi=>⟨[(0,dk l),(3,.nI i)],[],1128⟩) (λi=>(l.take i).all oA=true) rfl (by simp) ?_ ?_
 ·intro i hi hg;obtain⟨x,hx⟩:∃x,l[i]?=some x:=⟨_,List.getElem?_eq_getElem hi⟩;refine af (au (by simp[dk,hi];rfl) ?_);refine ag rfl (ak (af (aq (af (au (s':=⟨[(0,dk l),(3,.nI i),(26,.bI (decide ((40:Int)<x.i.length)||decide ((40:Int)<x.s.length)))],[],2408⟩) (by
   cases h1:decide ((40:Int)<x.i.length)<;>simp[dk,hx,S.enc,h1]) ?_)))))
  refine ag rfl ?_;cases hb:decide ((40:Int)<x.i.length)||decide ((40:Int)<x.s.length)with
  |true=>
   refine aj ?_;refine ax ?_;have:l.all oA=false:=all_false hx (by
    simp only[Bool.or_eq_true,decide_eq_true_eq]at hb;simp only[oA,Bool.and_eq_false_iff,decide_eq_false_iff_not];omega)
   rw[this];rfl
  |false=>
   simp only[Bool.or_eq_false_iff,decide_eq_false_iff_not]at hb;refine ak (aj ?_);refine aq ?_;refine bQ x.s.length (λk=>⟨[(0,dk l),(3,.nI i),(4,.nI k)],[],2472⟩) (λk=>(x.s.take k).all (λt=>decide (t.size<=100))=true) rfl (by simp) ?_ ?_
   ·intro k hk hgk;obtain⟨t,ht⟩:∃t,x.s[k]?=some t:=⟨_,List.getElem?_eq_getElem hk⟩;refine af (au (by simp[dk,hx,S.enc,hk];rfl) ?_);refine ag rfl (ak (af (aq (au (s':=⟨[(0,dk l),(3,.nI i),(4,.nI k),(46,.bI (decide ((100:Int)<t.size)))],[],3624⟩) (by
     simp[dk,hx,S.enc,ht,st1]) ?_))))
    refine ag rfl ?_;cases qe:decide ((100:Int)<t.size)with
    |true=>
     refine aj ?_;refine ax ?_;have:l.all oA=false:=all_false hx (by
      simp only[oA,Bool.and_eq_false_iff];exact .inr (all_false ht (by simp only[decide_eq_true_eq,decide_eq_false_iff_not]at qe ⊢;omega)))
     rw[this];rfl
    |false=>
     refine ak ?_;refine bK ?_;refine⟨by simp[again,an,get,nrm,dk,bw hk (show x.s.length<=maxLen by unfold maxLen;omega)],?_⟩;rw[gY ht,hgk];simp only[decide_eq_false_iff_not,Bool.true_and,decide_eq_true_eq]at qe ⊢;omega
   ·intro dt;refine af (au (by simp[dk,hx,S.enc];rfl) ?_);refine ag rfl (aO ?_);simp only[Ex.then,Ex.inBlock,if_true];refine bK ?_;refine⟨by simp[again,an,get,nrm,dk,bw hi hl],?_⟩;rw[gY hx,hg];rw[List.take_length]at dt;simp only[oA,dt,Bool.and_true,Bool.true_and,Bool.and_eq_true,decide_eq_true_eq];omega
 ·intro hg;refine af (au (by simp[dk];rfl) ?_);refine ag rfl (aO ?_);simp only[Ex.then,Ex.inBlock,if_true];refine aj ?_;refine ax ?_;rw[List.take_length]at hg;rw[hg];rfl
def ZK (b:B):Bool:=oA b.s0&&(oA b.s1&&(oA b.s2&&oA b.s3))
def oB (l:List B):Bool:=decide (l.length<=20)&&l.all ZK
end
end ao
namespace ay
open Go Go.RowKit ao
section
variable {ν:Nat->Nat} {P:Program}
def start (W:World):Gh:=⟨Old W,λ_=>none,W,.nil⟩
theorem L0 (W:World):Rel ν ⟨W,Old W⟩ (start W) where
 ob id o h:=by rw[show(start W).h=Tr.nil from rfl,wK]at h;cases h
 inj id ed o o' b h:=by rw[show(start W).h=Tr.nil from rfl,wK]at h;cases h
 small b h:=h
 i0 b h:=h
 i1 b h:=.inl h
 own id o b h:=by rw[show(start W).h=Tr.nil from rfl,wK]at h;cases h
 size:=Nat.le_refl _
 os:=rfl
 tape:=rfl
 output:=rfl
 bu b _:=rfl
 ty id o b h:=by rw[show(start W).h=Tr.nil from rfl,wK]at h;cases h
theorem NV (je:P.follows .mixedOrders=true) {p1:Nat->Option ao.aA} (NW:ao.oT P ν p1) {p2:Nat->Option aA} (JK:oT P ν p2) {f:Nat} {W:World} {bP:Array Value} {xs:List AV}
  (hR:RL ν (start W) bP.toList xs) (he:∃n p,fH p1 p2 n f xs .nil 1=some (.iv (.bool true),p)):Calls P (ν f) bP W λe w'=>e = .returned (.bool true)/\Below W.heap.size W w':=by
 obtain⟨n,⟨dG,aW⟩,he⟩:=he;have hs:ao.cR ν P (one p1 n):=ao.sound je NW n;obtain⟨_,cg⟩:=sound je hs JK n f xs .nil 1 _ dG aW he;refine(cg ⟨W,Old W⟩ (start W) bP rfl (L0 W) hR).mono ?_;rintro e w' ⟨v,g',rfl,rfl, -,r', -,hv⟩;refine⟨?_,⟨r'.os,r'.tape,r'.output,r'.size,λb hb=>r'.bu b hb⟩⟩;cases hv with
 |iv h=>cases h;rfl
theorem B0:oT P ν (get ([]:List (Nat×aA))):=λf ir h=>by simp[dV]at h
theorem ph {f:Nat} {ir:aA} {L:List (Nat×aA)} (h:sK P ν f ir) (hL:oT P ν (get L)):oT P ν (get ((f,ir)::L)):=by
 intro f' LY hg;simp only[aP]at hg;split at hg
 ·rename_i h0;subst h0;simp only[Option.some.injEq]at hg;subst hg;exact h
 ·exact hL f' LY hg
def zm (P:Program) (ν:Nat->Nat) (fn:Func) (ir:aA):Bool:=(match fn.body with | some c=>yh P ν fn c ir | none=>false)&&!(fn.name=="runtime.NumGoroutine")
theorem Ff {f k:Nat} {ir:aA} {fn:Func} (hk:P.funcs[k]?=some fn) (Fe:ν f=k) (h:zm P ν fn ir=true):sK P ν f ir:=by
 simp only[zm,Bool.and_eq_true,Bool.not_eq_true']at h;obtain⟨h1,h2⟩:=h;split at h1
 ·rename_i c hc;exact .inl ⟨fn,c,by rw[Fe];exact hk,hc,h2,h1⟩
 ·cases h1
theorem NX (e:Nat):EZ (Prim.clone e):=λ_ _ _ _ _ _ _ _ _ _ h=>h
theorem L3:bW (get ([]:List (Nat×aA))):=λf ir p h=>by simp[dV]at h
theorem AO {f:Nat} {ir:aA} {L:List (Nat×aA)} (h:∀p,ir.pe=some p->EZ p) (hL:bW (get L)):bW (get ((f,ir)::L)):=by
 intro f' LY p hg hp;simp only[aP]at hg;split at hg
 ·simp only[Option.some.injEq]at hg;subst hg;exact h p hp
 ·exact hL f' LY p hg hp
theorem JL {prog:Nat->Option aA} (tie:oT P ν prog):∀f ir p,prog f=some ir->ir.pe=some p->uN p:=λf ir p hf hp=>by
 rcases tie f ir hf with⟨fn,c, -, -, -,nK⟩|⟨p',h1, -,h2⟩
 ·simp[yh,hp]at nK
 ·rw[hp]at h1;cases h1;exact h2
end
end ay
namespace ao
open Go Go.Proofs Go.Shelf Go.RowKit Go.Lib Go.Sort
theorem AP (w:World) (b:Nat) (F F':Array Value) (hb:b<w.heap.size) (hH:Holds id w b 0 F) (hs:F'.size=F.size) (m:Nat) (os:Array Obj) :
  (∀t,t<F'.size->(grow (putRow id (Sort.ahead w m) b 0 F') os).cell? ⟨b,t,none⟩=some F'[t]!)/\w.heap.size<=(grow (putRow id (Sort.ahead w m) b 0 F') os).heap.size/\(∀x,x<w.heap.size->x≠b->(grow (putRow id (Sort.ahead w m) b 0 F') os).heap[x]?=w.heap[x]?)/\
   (∀o,(w.cell? ⟨b,o,none⟩).isSome=true->((grow (putRow id (Sort.ahead w m) b 0 F') os).cell? ⟨b,o,none⟩).isSome=true)/\(∀o,(grow (putRow id (Sort.ahead w m) b 0 F') os).frozen? ⟨b,o,none⟩=w.frozen? ⟨b,o,none⟩):=by
 have TL:b<(putRow id (Sort.ahead w m) b 0 F').heap.size:=by rw[Sort.size_putRow];exact hb
 have mH:∀t,t<F'.size->(grow (putRow id (Sort.ahead w m) b 0 F') os).cell? ⟨b,t,none⟩=some F'[t]!:=λt ht=>by
  rw[cell?_grow _ _ _ TL];have:=cell?_putRow id (Sort.ahead w m) b 0 F F' (holds_ahead _ _ _ _ _ _ hH) hs t ht;rw[Nat.zero_add]at this;exact this
 refine⟨mH,by rw[size_grow,Sort.size_putRow,heap_ahead];omega,λx hx cA=>?_,λo ho=>?_,λo=>?_⟩
 ·rw[heap_grow_old _ _ (by rw[Sort.size_putRow];exact hx)];unfold putRow mapBlock;simp only[heap_ahead];rw[Array.getElem?_modify,if_neg (Ne.symm cA)]
 ·by_cases h:o<F'.size
  ·rw[mH o h];rfl
  ·rw[cell?_grow _ _ _ TL,cell?_putRow_other id (Sort.ahead w m) b 0 F' ⟨b,o,none⟩ (.inr (.inr (by simp only;omega))),cell?_ahead];exact ho
 ·rw[frozen?_grow _ _ _ TL,frozen?_putRow,frozen?_ahead]
theorem Fm:(ltOf λx y:Int×Int=>Lib.compareInt x.1 y.1)=nm:=by
 funext x y;unfold ltOf Lib.compareInt nm;by_cases h1:x.1<y.1
 ·simp[h1]
 ·by_cases h2:y.1<x.1<;>simp[h1,h2]
theorem L4 {P:Program} {ρ:Ren} (L:SlLaysF0.n6 P ρ) (aE:∀w,(isAgg (ρ.t 24)).run P w = .ok true w) (zE:∀w,(Go.sizeOf (ρ.t 24)).run P w = .ok 2 w) (g:Nat) (eg:∀args w,(callFunc g args).run P w = .ok (.enter g args) w)
  (ZL:∀SI off size w,CmpLays P g #[] vR 2 (λx y=>Lib.compareInt x.1 y.1) SI off size w):Fg P (ρ.f 6) g:=by
 intro b cap l w hc dP hb qd uR;have hH:HoldsK vR 2 w b 0 l.toArray:=by
  intro t ht;rw[size_flatK]at ht;simp only[List.size_toArray]at ht;rw[get_flatK _ _ _ t (by simpa using ht)];have hi:t / 2<l.length:=by omega
  have hx:l[t / 2]?=some l[t / 2]:=List.getElem?_eq_getElem hi;have hm:t % 2<2:=Nat.mod_lt _ (by omega);have hv:(vR l[t / 2])[t % 2]?=some ((vR l[t / 2])[t % 2]'(by simpa[vR]using hm)):=List.getElem?_eq_getElem _;have h1:=hc (t / 2) (t % 2) _ _ hx hv;have e1:l.toArray[t / 2]! = l[t / 2]:=by rw[getElem!_pos l.toArray (t / 2) (by simpa using hi)];simp
  rw[e1,getElem!_pos (vR l[t / 2]) (t % 2) (by simpa[vR]using hm),Nat.zero_add];refine⟨?_,dP _⟩;rw[show t / 2*2+t % 2=t by omega]at h1;exact h1
 have hO:SWO (ltOf λx y:Int×Int=>Lib.compareInt x.1 y.1):=by rw[Fm];exact PU
 have uT:=AnyQ.slices_SortFunc_eq L 2 aE zE vR (λ_=>rfl) (λx v hv=>by simp[vR]at hv;rcases hv with rfl | rfl<;>rfl) (λx y=>Lib.compareInt x.1 y.1) hO g #[] b 0 cap l.toArray w eg (ZL b 0 _ w) hH hb (by simp only[List.size_toArray];omega);simp only[List.size_toArray]at uT;refine uT.mono ?_;rintro e w' ⟨rfl,n,os,rfl⟩;refine⟨rfl,?_⟩;rw[Fm];have n9:pD l=(Sort.pdq nm l.toArray 0 l.length (Lib.bitLen l.length) true true).toList:=rfl;have hlen:=wX l;rw[n9]at hlen ⊢;generalize Sort.pdq nm l.toArray 0 l.length (Lib.bitLen l.length) true true=d at hlen ⊢;have hds:d.size=l.length:=by simpa using hlen
 obtain⟨q1,q2,q3,q4,q5⟩:=AP w b (flatK vR 2 l.toArray) (flatK vR 2 d) hb hH (by rw[size_flatK,size_flatK,hds];simp) n os;refine⟨q2,rfl,rfl,rfl,q3,λi j r v h1 h2=>?_,q4,q5⟩;simp only[List.getElem?_map,Option.map_eq_some_iff]at h1;obtain⟨p,hp,rfl⟩:=h1;have hi:i<d.size:=by simpa using(List.getElem?_eq_some_iff.1 hp).1
 have hj:j<2:=by have:=(List.getElem?_eq_some_iff.1 h2).1;simpa[vR]using this
 have:=q1 (i*2+j) (by rw[size_flatK];omega);rw[get_flatK _ _ _ _ (by omega),show(i*2+j) / 2=i by omega,show(i*2+j) % 2=j by omega]at this;have e1:d[i]! = p:=by
  rw[getElem!_pos d i hi];have:=(List.getElem?_eq_some_iff.1 hp).2;simpa using this
 rw[e1,getElem!_pos (vR p) j (by simpa[vR]using hj)]at this;have e2:=(List.getElem?_eq_some_iff.1 h2).2;rw[e2]at this;exact this
theorem L5 {P:Program} {ρ:Ren} (L:Lays.n190 P ρ):Fh P (ρ.f 190):=by
 intro b cap l w hc dP hb qd uR;have hH:Holds encStr w b 0 (l.map (·.data.toList)).toArray:=by
  intro t ht;have hi:t<l.length:=by simpa using ht
  have h1:=hc t 0 l[t] (.string l[t]) (List.getElem?_eq_getElem hi) rfl;have e1:(l.map (·.data.toList)).toArray[t]! = l[t].data.toList:=by rw[getElem!_pos _ t ht];simp
  rw[e1,Nat.zero_add];rw[Nat.mul_one,Nat.add_zero]at h1;refine⟨?_,dP _⟩;rw[h1]
 have uT:=Any.slices_Sort_string L b 0 cap (l.map (·.data.toList)) w hH hb (by rw[List.length_map];omega);rw[List.length_map]at uT;refine uT.mono ?_;rintro e w' ⟨rfl,n,os,rfl⟩;refine⟨rfl,?_⟩;generalize hd:(l.map (·.data.toList)).mergeSort (λx y=>decide (x<=y))=d;have n9:nY l=d.map λb=>⟨b.toArray⟩:=by rw[<-hd];rfl
 have hlen:=wY l;rw[n9]at hlen ⊢;rw[List.length_map]at hlen;have jz:∀(W:World),putRow encStr W b 0 d.toArray=putRow id W b 0 ((d.map encStr).toArray):=by
  intro W;unfold putRow;congr 1;funext c;unfold putCells;refine Array.ext (by simp) λk h1 h2=>?_
  simp only[Array.getElem_mapIdx,List.size_toArray,List.length_map];split
  ·rename_i hk;have Fo:k - 0<d.length:=by omega
   rw[getElem!_pos d.toArray (k - 0) (by simpa using Fo),getElem!_pos (d.map encStr).toArray (k - 0) (by simpa using Fo)];simp
  ·rfl
 have hH':Holds id w b 0 ((l.map λs=>encStr s.data.toList).toArray):=by
  intro t ht;have hi:t<l.length:=by simpa using ht
  obtain⟨q1,q2⟩:=hH t (by simpa using hi);refine⟨?_,q2⟩;rw[q1,getElem!_pos _ t (by simpa using hi),getElem!_pos _ t (by simpa using hi)];simp
 obtain⟨q1,q2,q3,q4,q5⟩:=AP w b _ ((d.map encStr).toArray) hb hH' (by simp[hlen]) n os;rw[jz];refine⟨q2,rfl,rfl,rfl,q3,λi j r v h1 h2=>?_,q4,q5⟩;simp only[List.getElem?_map,Option.map_eq_some_iff]at h1;obtain⟨p,⟨s,hp,rfl⟩,rfl⟩:=h1;have hi:i<d.length:=(List.getElem?_eq_some_iff.1 hp).1;obtain rfl:j=0:=by have:=(List.getElem?_eq_some_iff.1 h2).1;simpa[vT]using this
 have:=q1 i (by simpa using hi);rw[getElem!_pos _ i (by simpa using hi)]at this;rw[Nat.mul_one,Nat.add_zero,this];have e1:=(List.getElem?_eq_some_iff.1 hp).2;simp only[vT,List.getElem?_cons_zero,Option.some.injEq]at h2;rw[<-h2];simp[e1,encStr]
end ao
namespace Go.Proofs
open Go.Shelf Go.RowKit Go.Lib Go.Sort
def Tryz.JM:Go.Shelf.Ren:=⟨fun | 6=>138 | 15=>147 | 14=>146 | 28=>159 | 29=>160 | 20=>151 | 21=>152 | 22=>153 | 23=>154 | 24=>155 | 25=>156 | 26=>157 | 27=>158 | 46=>164 | 47=>165 | 48=>166 | 49=>167 | 50=>168 | 57=>172 | n=>n,fun | 22=>81 | 24=>165 | 25=>194 | 3=>3 | 39=>201 | 0=>0 | 53=>211 | 55=>23 | 4=>4 | 46=>205 | 45=>204 | 50=>51 | 5=>5 | 9=>9 | 66=>215 | 70=>179 | 76=>222 | 77=>90 | n=>n,λn=>n⟩
theorem Tryz.TM:SlLaysF0.n6 Tryz.prog Tryz.JM:={
 mixed:=by kernel_rfl,
 f6:=⟨Tryz.f138.name,by decide,Tryz.func138.trans (congrArg some (by kernel_rfl))⟩,
 f14:=⟨Tryz.f146.name,by decide,Tryz.func146.trans (congrArg some (by kernel_rfl))⟩,
 f15:=Tryz.func147.trans (congrArg some (by kernel_rfl)),
 f20:=⟨Tryz.f151.name,by decide,Tryz.func151.trans (congrArg some (by kernel_rfl))⟩,
 f21:=⟨Tryz.f152.name,by decide,Tryz.func152.trans (congrArg some (by kernel_rfl))⟩,
 f22:=⟨Tryz.f153.name,by decide,Tryz.func153.trans (congrArg some (by kernel_rfl))⟩,
 f23:=⟨Tryz.f154.name,by decide,Tryz.func154.trans (congrArg some (by kernel_rfl))⟩,
 f24:=⟨Tryz.f155.name,by decide,Tryz.func155.trans (congrArg some (by kernel_rfl))⟩,
 f25:=⟨Tryz.f156.name,by decide,Tryz.func156.trans (congrArg some (by kernel_rfl))⟩,
 f26:=⟨Tryz.f157.name,by decide,Tryz.func157.trans (congrArg some (by kernel_rfl))⟩,
 f27:=⟨Tryz.f158.name,by decide,Tryz.func158.trans (congrArg some (by kernel_rfl))⟩,
 f28:=Tryz.func159.trans (congrArg some (by kernel_rfl)),
 f29:=Tryz.func160.trans (congrArg some (by kernel_rfl)),
 f46:=⟨Tryz.f164.name,by decide,Tryz.func164.trans (congrArg some (by kernel_rfl))⟩,
 f47:=Tryz.func165.trans (congrArg some (by kernel_rfl)),
 f48:=Tryz.func166.trans (congrArg some (by kernel_rfl)),
 f49:=⟨Tryz.f167.name,by decide,Tryz.func167.trans (congrArg some (by kernel_rfl))⟩,
 f50:=⟨Tryz.f168.name,by decide,Tryz.func168.trans (congrArg some (by kernel_rfl))⟩,
 f57:=⟨Tryz.f172.name,by decide,Tryz.func172.trans (congrArg some (by kernel_rfl))⟩,
 t0:=Tryz.underlying0,
 a0:=Tryz.isAgg0,
 z0:=Tryz.sizeOf0,
 v0:=Tryz.zeroValue0,
 t3:=Tryz.underlying3,
 a3:=Tryz.isAgg3,
 z3:=Tryz.sizeOf3,
 v3:=Tryz.zeroValue3,
 t4:=Tryz.underlying4,
 a4:=Tryz.isAgg4,
 z4:=Tryz.sizeOf4,
 v4:=Tryz.zeroValue4,
 t5:=Tryz.underlying5,
 a5:=Tryz.isAgg5,
 z5:=Tryz.sizeOf5,
 v5:=Tryz.zeroValue5,
 t9:=Tryz.underlying9,
 a9:=Tryz.isAgg9,
 z9:=Tryz.sizeOf9,
 v9:=Tryz.zeroValue9,
 t22:=Tryz.underlying81,
 a22:=Tryz.isAgg81,
 z22:=Tryz.sizeOf81,
 v22:=Tryz.zeroValue81,
 t25:=Tryz.underlying194,
 a25:=Tryz.isAgg194,
 z25:=Tryz.sizeOf194,
 v25:=Tryz.zeroValue194,
 t39:=Tryz.underlying201,
 a39:=Tryz.isAgg201,
 z39:=Tryz.sizeOf201,
 v39:=Tryz.zeroValue201,
 t45:=Tryz.underlying204,
 a45:=Tryz.isAgg204,
 z45:=Tryz.sizeOf204,
 v45:=Tryz.zeroValue204,
 t46:=Tryz.underlying205,
 a46:=Tryz.isAgg205,
 z46:=Tryz.sizeOf205,
 v46:=Tryz.zeroValue205,
 t50:=Tryz.underlying51,
 a50:=Tryz.isAgg51,
 z50:=Tryz.sizeOf51,
 v50:=Tryz.zeroValue51,
 t53:=Tryz.underlying211,
 a53:=Tryz.isAgg211,
 z53:=Tryz.sizeOf211,
 v53:=Tryz.zeroValue211,
 t55:=Tryz.underlying23,
 a55:=Tryz.isAgg23,
 z55:=Tryz.sizeOf23,
 v55:=Tryz.zeroValue23,
 t66:=Tryz.underlying215,
 a66:=Tryz.isAgg215,
 z66:=Tryz.sizeOf215,
 v66:=Tryz.zeroValue215,
 t70:=Tryz.underlying179,
 a70:=Tryz.isAgg179,
 z70:=Tryz.sizeOf179,
 v70:=Tryz.zeroValue179,
 t76:=Tryz.underlying222,
 a76:=Tryz.isAgg222,
 z76:=Tryz.sizeOf222,
 v76:=Tryz.zeroValue222,
 t77:=Tryz.underlying90,
 a77:=Tryz.isAgg90,
 z77:=Tryz.sizeOf90,
 v77:=Tryz.zeroValue90 }
def Tryz.JN:Go.Shelf.Ren:=⟨fun | 5=>140 | 7=>148 | n=>n,fun | 22=>3 | 3=>3 | 4=>4 | n=>n,λn=>n⟩
theorem Tryz.TN:SlLaysC2.n5 Tryz.prog Tryz.JN:={
 mixed:=by kernel_rfl,
 f5:=⟨Tryz.f140.name,by decide,Tryz.func140.trans (congrArg some (by kernel_rfl))⟩,
 f7:=⟨Tryz.f148.name,by decide,Tryz.func148.trans (congrArg some (by kernel_rfl))⟩,
 t3:=Tryz.underlying3,
 a3:=Tryz.isAgg3,
 z3:=Tryz.sizeOf3,
 v3:=Tryz.zeroValue3,
 t4:=Tryz.underlying4,
 a4:=Tryz.isAgg4,
 z4:=Tryz.sizeOf4,
 v4:=Tryz.zeroValue4,
 t22:=Tryz.underlying3,
 a22:=Tryz.isAgg3,
 z22:=Tryz.sizeOf3,
 v22:=Tryz.zeroValue3 }
def Tryz.GJ:Go.Shelf.Ren:=⟨fun | 190=>169 | 125=>147 | 258=>173 | 128=>159 | 129=>160 | 302=>174 | 303=>175 | 304=>176 | 305=>177 | 306=>178 | 307=>179 | 308=>180 | 309=>181 | 310=>182 | 333=>183 | 329=>165 | 330=>166 | 334=>184 | 335=>185 | 336=>186 | 344=>187 | n=>n,fun | 31=>82 | 9=>9 | 3=>3 | 46=>201 | 0=>0 | 51=>211 | 53=>23 | 4=>4 | 183=>205 | 182=>204 | 131=>51 | 5=>5 | 218=>215 | 222=>179 | 228=>222 | 229=>90 | n=>n,λn=>n⟩
theorem Tryz.sortStr:Lays.n190 Tryz.prog Tryz.GJ:={
 mixed:=by kernel_rfl,
 f125:=Tryz.func147.trans (congrArg some (by kernel_rfl)),
 f128:=Tryz.func159.trans (congrArg some (by kernel_rfl)),
 f129:=Tryz.func160.trans (congrArg some (by kernel_rfl)),
 f190:=Tryz.func169.trans (congrArg some (by kernel_rfl)),
 f258:=Tryz.func173.trans (congrArg some (by kernel_rfl)),
 f302:=Tryz.func174.trans (congrArg some (by kernel_rfl)),
 f303:=Tryz.func175.trans (congrArg some (by kernel_rfl)),
 f304:=Tryz.func176.trans (congrArg some (by kernel_rfl)),
 f305:=Tryz.func177.trans (congrArg some (by kernel_rfl)),
 f306:=Tryz.func178.trans (congrArg some (by kernel_rfl)),
 f307:=Tryz.func179.trans (congrArg some (by kernel_rfl)),
 f308:=Tryz.func180.trans (congrArg some (by kernel_rfl)),
 f309:=Tryz.func181.trans (congrArg some (by kernel_rfl)),
 f310:=Tryz.func182.trans (congrArg some (by kernel_rfl)),
 f329:=Tryz.func165.trans (congrArg some (by kernel_rfl)),
 f330:=Tryz.func166.trans (congrArg some (by kernel_rfl)),
 f333:=Tryz.func183.trans (congrArg some (by kernel_rfl)),
 f334:=Tryz.func184.trans (congrArg some (by kernel_rfl)),
 f335:=Tryz.func185.trans (congrArg some (by kernel_rfl)),
 f336:=Tryz.func186.trans (congrArg some (by kernel_rfl)),
 f344:=Tryz.func187.trans (congrArg some (by kernel_rfl)),
 t0:=Tryz.underlying0,
 a0:=Tryz.isAgg0,
 z0:=Tryz.sizeOf0,
 v0:=Tryz.zeroValue0,
 t3:=Tryz.underlying3,
 a3:=Tryz.isAgg3,
 z3:=Tryz.sizeOf3,
 v3:=Tryz.zeroValue3,
 t4:=Tryz.underlying4,
 a4:=Tryz.isAgg4,
 z4:=Tryz.sizeOf4,
 v4:=Tryz.zeroValue4,
 t5:=Tryz.underlying5,
 a5:=Tryz.isAgg5,
 z5:=Tryz.sizeOf5,
 v5:=Tryz.zeroValue5,
 t9:=Tryz.underlying9,
 a9:=Tryz.isAgg9,
 z9:=Tryz.sizeOf9,
 v9:=Tryz.zeroValue9,
 t31:=Tryz.underlying82,
 a31:=Tryz.isAgg82,
 z31:=Tryz.sizeOf82,
 v31:=Tryz.zeroValue82,
 t46:=Tryz.underlying201,
 a46:=Tryz.isAgg201,
 z46:=Tryz.sizeOf201,
 v46:=Tryz.zeroValue201,
 t51:=Tryz.underlying211,
 a51:=Tryz.isAgg211,
 z51:=Tryz.sizeOf211,
 v51:=Tryz.zeroValue211,
 t53:=Tryz.underlying23,
 a53:=Tryz.isAgg23,
 z53:=Tryz.sizeOf23,
 v53:=Tryz.zeroValue23,
 t131:=Tryz.underlying51,
 a131:=Tryz.isAgg51,
 z131:=Tryz.sizeOf51,
 v131:=Tryz.zeroValue51,
 t182:=Tryz.underlying204,
 a182:=Tryz.isAgg204,
 z182:=Tryz.sizeOf204,
 v182:=Tryz.zeroValue204,
 t183:=Tryz.underlying205,
 a183:=Tryz.isAgg205,
 z183:=Tryz.sizeOf205,
 v183:=Tryz.zeroValue205,
 t218:=Tryz.underlying215,
 a218:=Tryz.isAgg215,
 z218:=Tryz.sizeOf215,
 v218:=Tryz.zeroValue215,
 t222:=Tryz.underlying179,
 a222:=Tryz.isAgg179,
 z222:=Tryz.sizeOf179,
 v222:=Tryz.zeroValue179,
 t228:=Tryz.underlying222,
 a228:=Tryz.isAgg222,
 z228:=Tryz.sizeOf222,
 v228:=Tryz.zeroValue222,
 t229:=Tryz.underlying90,
 a229:=Tryz.isAgg90,
 z229:=Tryz.sizeOf90,
 v229:=Tryz.zeroValue90 }
theorem Tryz.L6 (x y:Int×Int) (W:World):Calls Tryz.prog 139 #[.agg #[.int .i64 x.1,.int .i64 x.2],.agg #[.int .i64 y.1,.int .i64 y.2]] W λe w'=>e = .returned (.int .i64 (Lib.compareInt x.1 y.1))/\∃q os',w'=grow (W.drewN q) os':=by
 have uT:=λW'=>AnyG.cmp_Compare_int Tryz.TN x.1 y.1 W'
 change ∀W',Calls Tryz.prog 140 _ _ _ at uT;generalize Lib.compareInt x.1 y.1=r at uT ⊢
 go_enter Tryz.func139,Tryz.ntmps139
 go_wp2_with (go_at_call 140;refine(uT _).mono ?_;rintro e w' ⟨rfl,rfl⟩)
 go_ret
 exact⟨rfl,0,_,by rw[alloc_eq_grow,alloc_eq_grow,grow_grow];rfl⟩
theorem Tryz.TO:ao.Fg Tryz.prog 138 139:=
 ao.L4 Tryz.TM Tryz.isAgg165 Tryz.sizeOf165 139 (enters_of Tryz.func139 (by kernel_rfl) rfl) λ_ _ _ _ _ _ _ _ x y=>Tryz.L6 x y _
theorem Tryz.TP:ao.Fh Tryz.prog 169:=ao.L5 Tryz.sortStr
end Go.Proofs
namespace ao
def TQ:aA:={ F50 with cl:=some (2000051,[]) }
def TR:aA:={ F55 with cl:=some (1000000,[]) }
end ao
namespace ay
open Go Go.Proofs
namespace fY
def nus:List Nat:=[0,0,0,0,0,0,0,0,29,0,0,0,0,0,0,0,0,134,0,120,53,0,0,149,128,0,100,78,0,0,81,0,143,144,28,73,76,122,137,161,162,112,102,52,0,105,106,99,92,93,138,139,140,109,123,169,170,124,127,118,119,146,147,148,130,173,135,136,151,159,160,174,180,145,158,157,156,155,154,153,152,182,181,179,178,177,176,175,186,0,0,0,0,0,0,0,0,0,72,88,90,91,0,113,114,110,111,0,131,132,142,150,0,163,171,125,68,0,0,43,67,103,60,35,77,96,141,83,108,101,121,38,0,57,58,74,94,40,65,22,0,107,47,44,66,32,46,0,129,69,41,82,56,7,10,15,14,13,5,6,12,27,51,50,49,71,70,84,85,61,62,9,17,16,34,33,23,19,59,75,95,30,54,39,64,80,79,104,126,98,97,116,117,31,55,24,48,21,20,45,42,18,37,36,63,0,11,8,26,25,0,0,0,0,0,0,0,0,0,0,0,0,0,0,0,0,0,0,0,0,0,0,0,0,0,0,0,0,0,0,0,0,0,0,0,0,0,0,0,0,0,0,0,0,0,0,0,0,0,0,0,0,0,0,0,0,0,0,0,0,0,0,0,0,0,0,0,4,3,89,86,115,133,87,0,0,0,0,0,0,0,0,0,0,0,0,0,0,0,0,0,0,0,0,0,0,0,0,0,0,0,0,0,0,0,0,0,0,0,0,0,0,0,0,0,0,0,0,0,0,0,166,165,0,0,0,0,0,0,0,0,0,0,0,0,0,0,0,0,0,0,0,0,0,0,0,0,0,0,0,0,0,0,0,0,0,0,0,0,0,0,0,0,0,0,0,0,0,0,0,0,0,0,0,0,0,0,0,0,0,0,0,0,0,0,0,0,0,0,0,0,0,0,0,0,0,0,0,0,0,0,0,0,0,0,0,0,0,0,0,0,0,0,0,0,0,0,0,0]
def nu (n:Nat):Nat:=if n=Au then 0 else if n=wO then 0 else nus.getD n 0
def kl:List (Nat×ao.aA):=[(8,ao.F8),(17,ao.La),(19,ao.Lb),(20,ao.Pt),(23,ao.RX),(24,ao.GX),(26,ao.Pu),(27,ao.GY),(30,ao.RY),(32,ao.DH),(33,ao.DI),(34,ao.Lc),(35,ao.RZ),(36,ao.F36),(37,ao.GZ),(38,ao.DJ),(39,ao.Pv),(40,ao.G5),(41,ao.Ld),(42,ao.F42),(43,ao.Pw),(45,ao.Px),(46,ao.Py),(47,ao.R0),(48,ao.R1),(49,ao.DK),(50,ao.TQ),(51,ao.Pz),(52,ao.Le),(53,ao.G7),(54,ao.DL),(55,ao.TR),(56,ao.zX),(57,ao.F57),(58,ao.Lf),(59,ao.R2),(60,ao.XW),(61,ao.XX),(62,ao.R3),(63,ao.G8),(64,ao.DM),(65,ao.XY),(66,ao.PA),(67,ao.XZ),(68,ao.R4),(69,ao.F69),(70,ao.Lh),(71,ao.R5),(72,ao.PB),(73,ao.X0),(88,ao.Li),(98,ao.X1),(99,ao.R6),(100,ao.Na),(101,ao.Nb),(103,ao.Nc),(104,ao.R7),(105,ao.Bx),(106,ao.By),(108,ao.IQ),(109,ao.R8),(110,ao.IS),(111,ao.IT),(113,ao.DN),(114,ao.Bz),(115,ao.DO),(116,ao.R9),(119,ao.Sa),(120,ao.Sb),(121,ao.IU),(122,ao.Zf),(123,ao.Zg),(124,ao.Zh),(125,ao.Zi),(126,ao.Nd),(127,ao.Nf),(128,ao.BA),(129,ao.Ng),(130,ao.BB),(131,ao.Nh),(133,ao.Sc),(134,ao.Sd),(135,ao.Se),(137,ao.Ni),(138,ao.DP),(141,ao.IW),(144,ao.Sf),(145,ao.Sg),(148,ao.DQ),(151,ao.Si),(152,ao.Sj),(160,ao.Nk),(164,ao.vW),(165,ao.iC),(166,ao.Nj),(167,ao.IZ),(168,ao.DS),(169,ao.vU),(170,ao.vV),(171,ao.I3),(201,ao.Nl),(202,ao.I4),(203,ao.IY),(204,ao.DT),(279,ao.I0),(280,ao.Zj),(281,ao.DU),(282,ao.BC),(283,ao.DV)]
def uU:List (Nat×aA):=[(136,Tp),(139,Tq),(142,Ts),(143,Tt),(146,Tu),(149,Tv),(150,Tw),(153,E8),(154,uQ),(155,Tl),(156,Jw),(157,JD),(158,ZF),(159,Tj),(161,r7),(162,E5),(163,E0),(172,ZI),(173,ZG),(174,Te),(175,Tm),(176,Jy),(177,E9),(178,Tn),(179,To),(180,Tx),(181,Tf),(182,Tg),(183,Jz),(184,JE),(185,th),(186,JF),(187,Fa),(188,Fb),(189,JG),(190,BY),(191,E6),(192,E7),(193,ZH),(194,ZJ),(195,JA),(196,JB),(197,Tk),(198,Jx),(199,Ti),(200,Th),(206,uP),(207,BX),(208,zi),(209,zj),(278,JC)]
theorem mixed:Tryz.prog.follows .mixedOrders=true:=Tryz.checked.mixed
open Tryz
theorem z1 {f k:Nat} {ir:ao.aA} {fn:Func} {L:List (Nat×ao.aA)} (hk:Tryz.prog.funcs[k]?=some fn) (h1:nu f=k) (h2:ao.zm Tryz.prog nu fn ir=true) (t:ao.oT Tryz.prog nu (ao.get L)):ao.oT Tryz.prog nu (ao.get ((f,ir)::L)):=ao.ph (ao.Ff hk h1 h2) t
theorem z2 {f k:Nat} {ir:aA} {fn:Func} {L:List (Nat×aA)} (hk:Tryz.prog.funcs[k]?=some fn) (h1:nu f=k) (h2:zm Tryz.prog nu fn ir=true) (t:oT Tryz.prog nu (ay.get L)):oT Tryz.prog nu (ay.get ((f,ir)::L)):=ph (Ff hk h1 h2) t
theorem zp {f:Nat} {ir:aA} {L:List (Nat×aA)} (h:ir.pe=none) (t:bW (ay.get L)):bW (ay.get ((f,ir)::L)):=AO (λp e=>by rw[h]at e;cases e) t
theorem NW:ao.oT Tryz.prog nu (ao.get kl):=by
 refine z1 func29 ?_ ?_<|z1 func134 ?_ ?_<|z1 func120 ?_ ?_<|z1 func53 ?_ ?_<|z1 func149 ?_ ?_<|z1 func128 ?_ ?_<|z1 func100 ?_ ?_<|z1 func78 ?_ ?_<|z1 func81 ?_ ?_<|z1 func143 ?_ ?_<|z1 func144 ?_ ?_<|z1 func28 ?_ ?_<|z1 func73 ?_ ?_<|z1 func76 ?_ ?_<|z1 func122 ?_ ?_<|z1 func137 ?_ ?_<|z1 func161 ?_ ?_<|z1 func162 ?_ ?_<|z1 func112 ?_ ?_<|z1 func102 ?_ ?_<|z1 func52 ?_ ?_<|z1 func105 ?_ ?_<|z1 func106 ?_ ?_<|z1 func99 ?_ ?_<|z1 func92 ?_ ?_<|z1 func93 ?_ ?_<|ao.ph (ao.zn Tryz.func138 ?_ ?_ (.inr (ao.NO (f:=50) (c:=51) Tryz.TO)))<|z1 func139 ?_ ?_<|z1 func140 ?_ ?_<|z1 func109 ?_ ?_<|z1 func123 ?_ ?_<|ao.ph (ao.zn Tryz.func169 ?_ ?_ (.inr (ao.NQ (f:=55) Tryz.TP)))<|z1 func170 ?_ ?_<|z1 func124 ?_ ?_<|z1 func127 ?_ ?_<|z1 func118 ?_ ?_<|z1 func119 ?_ ?_<|z1 func146 ?_ ?_<|z1 func147 ?_ ?_<|z1 func148 ?_ ?_<|z1 func130 ?_ ?_<|z1 func173 ?_ ?_<|z1 func135 ?_ ?_<|z1 func136 ?_ ?_<|z1 func151 ?_ ?_<|z1 func159 ?_ ?_<|z1 func160 ?_ ?_<|z1 func174 ?_ ?_<|z1 func180 ?_ ?_<|z1 func145 ?_ ?_<|z1 func186 ?_ ?_<|z1 func72 ?_ ?_<|z1 func88 ?_ ?_<|z1 func90 ?_ ?_<|z1 func91 ?_ ?_<|z1 func113 ?_ ?_<|z1 func114 ?_ ?_<|z1 func110 ?_ ?_<|z1 func111 ?_ ?_<|z1 func131 ?_ ?_<|z1 func132 ?_ ?_<|z1 func142 ?_ ?_<|z1 func150 ?_ ?_<|z1 func163 ?_ ?_<|z1 func171 ?_ ?_<|z1 func125 ?_ ?_<|z1 func68 ?_ ?_<|z1 func43 ?_ ?_<|z1 func67 ?_ ?_<|z1 func103 ?_ ?_<|z1 func60 ?_ ?_<|z1 func35 ?_ ?_<|z1 func77 ?_ ?_<|z1 func96 ?_ ?_<|z1 func141 ?_ ?_<|z1 func83 ?_ ?_<|z1 func108 ?_ ?_<|z1 func101 ?_ ?_<|z1 func121 ?_ ?_<|z1 func38 ?_ ?_<|z1 func57 ?_ ?_<|z1 func58 ?_ ?_<|z1 func74 ?_ ?_<|z1 func40 ?_ ?_<|z1 func65 ?_ ?_<|z1 func107 ?_ ?_<|z1 func66 ?_ ?_<|z1 func32 ?_ ?_<|z1 func129 ?_ ?_<|z1 func82 ?_ ?_<|z1 func56 ?_ ?_<|z1 func12 ?_ ?_<|z1 func49 ?_ ?_<|z1 func71 ?_ ?_<|z1 func70 ?_ ?_<|z1 func84 ?_ ?_<|z1 func85 ?_ ?_<|z1 func61 ?_ ?_<|z1 func62 ?_ ?_<|z1 func9 ?_ ?_<|z1 func18 ?_ ?_<|z1 func37 ?_ ?_<|z1 func36 ?_ ?_<|z1 func63 ?_ ?_<|z1 func89 ?_ ?_<|z1 func86 ?_ ?_<|z1 func115 ?_ ?_<|z1 func133 ?_ ?_<|z1 func87 ?_ ?_<|ao.B0
 all_goals kernel_rfl
theorem JK:oT Tryz.prog nu (ay.get uU):=by
 refine z2 func94 ?_ ?_<|z2 func22 ?_ ?_<|z2 func47 ?_ ?_<|z2 func44 ?_ ?_<|z2 func46 ?_ ?_<|z2 func69 ?_ ?_<|z2 func41 ?_ ?_<|z2 func7 ?_ ?_<|z2 func10 ?_ ?_<|z2 func15 ?_ ?_<|z2 func14 ?_ ?_<|z2 func13 ?_ ?_<|z2 func5 ?_ ?_<|z2 func6 ?_ ?_<|z2 func27 ?_ ?_<|z2 func51 ?_ ?_<|z2 func50 ?_ ?_<|z2 func17 ?_ ?_<|z2 func16 ?_ ?_<|z2 func34 ?_ ?_<|z2 func33 ?_ ?_<|z2 func23 ?_ ?_<|z2 func19 ?_ ?_<|z2 func59 ?_ ?_<|z2 func75 ?_ ?_<|z2 func95 ?_ ?_<|z2 func30 ?_ ?_<|z2 func54 ?_ ?_<|z2 func39 ?_ ?_<|z2 func64 ?_ ?_<|z2 func80 ?_ ?_<|z2 func79 ?_ ?_<|z2 func104 ?_ ?_<|z2 func126 ?_ ?_<|z2 func98 ?_ ?_<|z2 func97 ?_ ?_<|z2 func116 ?_ ?_<|z2 func117 ?_ ?_<|z2 func31 ?_ ?_<|ph (LW mixed Tryz.func55 ?_ rfl ?_)<|z2 func24 ?_ ?_<|z2 func48 ?_ ?_<|z2 func21 ?_ ?_<|z2 func20 ?_ ?_<|z2 func45 ?_ ?_<|z2 func42 ?_ ?_<|z2 func11 ?_ ?_<|z2 func8 ?_ ?_<|z2 func26 ?_ ?_<|z2 func25 ?_ ?_<|z2 func3 ?_ ?_<|B0
 all_goals kernel_rfl
theorem le2:bW (ay.get uU):=
 zp rfl<|zp rfl<|zp rfl<|zp rfl<|zp rfl<|zp rfl<|zp rfl<|zp rfl<|zp rfl<|zp rfl<|zp rfl<|zp rfl<|zp rfl<|zp rfl<|zp rfl<|zp rfl<|zp rfl<|zp rfl<|zp rfl<|zp rfl<|zp rfl<|zp rfl<|zp rfl<|zp rfl<|zp rfl<|zp rfl<|zp rfl<|zp rfl<|zp rfl<|zp rfl<|zp rfl<|zp rfl<|zp rfl<|zp rfl<|zp rfl<|zp rfl<|zp rfl<|zp rfl<|zp rfl<|AO (λp h=>by cases h;exact NX 7)<|zp rfl<|zp rfl<|zp rfl<|zp rfl<|zp rfl<|zp rfl<|zp rfl<|zp rfl<|zp rfl<|zp rfl<|zp rfl<|L3
theorem WS (n:Nat):ka (fH (ao.get kl) (ay.get uU) n):=AD (JL JK) n
end fY
end ay
namespace ao
open Go
def B.put (b:B) (i:Nat) (x:S):B:=
 match i with
 |0=>⟨x,b.s1,b.s2,b.s3⟩
 |1=>⟨b.s0,x,b.s2,b.s3⟩
 |2=>⟨b.s0,b.s1,x,b.s3⟩
 |_=>⟨b.s0,b.s1,b.s2,x⟩
theorem B.Fp (b:B) {i:Nat} (h:i<4) (x:S):bl b.cs (i*4) [.iv (.bool x.a),.iv (.sl 2 (x.i.map bM)),.iv (.bool x.c),.iv (.sl 1 (x.s.map st1))]=(b.put i x).cs:=by
 match i,h with
 |0,_=>rfl
 |1,_=>rfl
 |2,_=>rfl
 |3,_=>rfl
theorem B.pk (c:B) (l:List AV) (h:l.length=16):bl l 0 c.cs=c.cs:=by
 unfold bl;simp only[List.take_zero,List.nil_append,B.bR,Nat.zero_add];rw[List.drop_of_length_le (by omega),List.append_nil]
section
variable {prog:Nat->Option aA}
set_option maxHeartbeats 1000000 in
theorem TS (h:prog 19=some Lb) (b:B) (x:S) {i:Nat} (hi:i<4):a8 prog 19 [b.av,.iv (.int .i64 i),x.av] (b.put i x).av:=by
 have cK:(i:Int)<4:=by omega
 have hm:i*4+4<=16:=by omega
 refine a8.of h rfl rfl (au (by simp[aS,Option.map_some,a7,step,cw,bp,az,M.aG,M.run,M.ok,M.fresh,M.write,M.look,M.lift,bT,ao.set,ev,ao.get,an,bin,cU,db,mk,params,bh,load,bB,di,ep,dQ,dn,dB,idx,len,valid,eu,bound,store,bl,fV,un,eqs,ly,bn,bH,M.bN,dw,cL,dC,c9,meets,dF,dR,callee,bZ,flat,ew,eI,eZ,Option.bind_some,cz,M.bind,B.av,B.cI,S.av];rfl) ?_);refine af (au (by simp[aS,Option.map_some,a7,step,cw,bp,az,M.aG,M.run,M.ok,M.fresh,M.write,M.look,M.lift,bT,ao.set,ev,ao.get,an,bin,cU,db,mk,params,bh,load,bB,di,ep,dQ,dn,dB,idx,len,valid,eu,bound,store,bl,fV,un,eqs,ly,bn,bH,M.bN,dw,cL,dC,c9,meets,dF,dR,callee,bZ,cE,fz,flat,ew,eI,eZ,Option.bind_some,cz,M.bind,cK];rfl) ?_)
 refine ag rfl ?_;refine aD (by
  simp only[aS,a7,step,cw,bp,az,M.run,M.ok,M.look,M.write,M.lift,bT,ao.set,ev,ao.get,an,load,bB,mk,dn,idx,valid,store,bh];simp[ao.get,ao.set,M.run,M.ok,M.look,M.write,M.lift,az,M.bind,cK,fV,B.bR,hm,B.Fp b hi x,an,mk];rfl) ?_
 simp only[Ex.then];refine au (by
  simp[aS,Option.map_some,a7,step,cw,bp,az,M.aG,M.run,M.ok,M.fresh,M.write,M.look,M.lift,bT,ao.set,ev,ao.get,an,bin,cU,db,mk,params,bh,load,bB,di,ep,dQ,dn,dB,idx,len,valid,eu,bound,store,fV,un,eqs,ly,bn,bH,M.bN,dw,cL,dC,c9,meets,dF,dR,callee,bZ,flat,ew,eI,eZ,Option.bind_some,cz,M.bind,B.hZ,B.bR,B.cI,B.pk];rfl) ?_
 refine ax ?_;simp[dI,Lb,ck,dJ,eE,load,bB,mk,ev,get,M.look,M.bind,M.run,az,M.ok,M.lift,shut,im,bZ,B.hZ,B.bR,B.c8,B.av]
end
end ao
namespace ao
open Go
attribute [local simp] aS Option.map_some a7 step cw bp az M.aG M.run M.ok M.fresh M.write M.look M.lift bT ao.set ev ao.get an bin cU db mk params bh load bB di ep dQ dn dB idx len valid eu bound store bl fV un eqs ly bn bH M.bN dw cL dC c9 meets dF dR callee bZ cE fz flat ew eI eZ Option.bind_some cz M.bind
section
variable {prog:Nat->Option aA}
theorem tk {x y:S} (h:x.a≠y.a\/x.c≠y.c\/x.i≠y.i\/x.s≠y.s):kb x y=false:=by
 simp only[kb,Bool.and_eq_false_iff,beq_eq_false_iff_ne,decide_eq_false_iff_not];exact h
theorem L7 {α:Type} {a b:List α} {i:Nat} {x y:α} (hx:a[i]?=some x) (hy:b[i]?=some y) (h:x≠y):a≠b:=by
 intro e;rw[e,hy]at hx;cases hx;exact h rfl
set_option maxHeartbeats 2000000 in
theorem QX (h:prog 41=some Ld) (x y:S) (hi:x.i.length<=maxLen) (hs:x.s.length<=maxLen):a8 prog 41 [x.av,y.av] (.bI (kb x y)):=by
 refine a8.of h rfl rfl (au (s':=⟨[(2,.ref 1000 0 0 0),(3,.ref 1064 0 0 0)],[(1000,.cells x.cs),(1064,.cells y.cs)],1192⟩) (by simp[S.av,S.cs,S.enc]) ?_);refine af (af ?_);refine aI (K:=0) (s':=⟨[(2,.ref 1000 0 0 0),(3,.ref 1064 0 0 0),(36,.bI (x.a != y.a||(x.c != y.c||(x.i.length != y.i.length||x.s.length != y.s.length))))],[(1000,.cells x.cs),(1064,.cells y.cs)],3112⟩) (λn _=>cM rfl (by
  have e1:((x.i.length:Int) != y.i.length)=(x.i.length != y.i.length):=by rw[Bool.eq_iff_iff];simp;omega
  have e2:((x.s.length:Int) != y.s.length)=(x.s.length != y.s.length):=by rw[Bool.eq_iff_iff];simp;omega
  have n1:(!(x.a==y.a))=(x.a != y.a):=rfl;have n2:(!(x.c==y.c))=(x.c != y.c):=rfl;cases h1:x.a != y.a with
  |true=>simp[S.cs,S.enc,n1,h1]
  |false=>
   cases h2:x.c != y.c with
   |true=>simp[S.cs,S.enc,n1,n2,h1,h2]
   |false=>cases h3:x.i.length != y.i.length<;>simp[S.cs,S.enc,n1,n2,h1,h2,h3,e1,e2])) ?_
 refine ag rfl ?_;cases cA:x.a != y.a||(x.c != y.c||(x.i.length != y.i.length||x.s.length != y.s.length))with
 |true=>
  refine aj ?_;refine ax ?_;have:kb x y=false:=by
   apply tk;simp only[Bool.or_eq_true,bne_iff_ne]at cA;rcases cA with h | h | h | h
   ·exact .inl h
   ·exact .inr (.inl h)
   ·exact .inr (.inr (.inl λe=>h (by rw[e])))
   ·exact .inr (.inr (.inr λe=>h (by rw[e])))
  rw[this];rfl
 |false=>
  simp only[Bool.or_eq_false_iff,bne_eq_false_iff_eq]at cA;obtain⟨ha,hc,hli,hls⟩:=cA;refine ak (af (aj ?_));refine aq ?_;refine bQ x.i.length (λi=>⟨[(2,.ref 1000 0 0 0),(3,.ref 1064 0 0 0),(5,.nI i)],[(1000,.cells x.cs),(1064,.cells y.cs)],3176⟩) (λi=>x.i.take i=y.i.take i) rfl (by simp) ?_ ?_
  ·intro i gZ hg;obtain⟨r,hr⟩:∃r,x.i[i]?=some r:=⟨_,List.getElem?_eq_getElem gZ⟩;obtain⟨q,hq⟩:∃q,y.i[i]?=some q:=⟨_,List.getElem?_eq_getElem (by omega)⟩;refine af (au (s':=⟨[(2,.ref 1000 0 0 0),(3,.ref 1064 0 0 0),(5,.nI i),(41,.bI true)],[(1000,.cells x.cs),(1064,.cells y.cs)],3496⟩) (by simp[S.cs,S.enc,gZ]) ?_);refine ag rfl (ak (af (aq (af ?_))));refine aI (K:=0) (s':=⟨[(2,.ref 1000 0 0 0),(3,.ref 1064 0 0 0),(5,.nI i),(54,.bI (!(r.1==q.1&&r.2==q.2)))],[(1000,.cells x.cs),(1064,.cells y.cs)],4200⟩) (λn _=>cM rfl (by
    simp[S.cs,S.enc,hr,hq,bM])) ?_
   refine ag rfl ?_;cases hb:(r.1==q.1&&r.2==q.2)with
   |true=>
    refine ak ?_;refine bK ?_;refine⟨by simp[again,an,get,cC,eP,bG,S.cT,bw gZ hi],oy hr hq hg ?_⟩;simp at hb;exact Prod.ext hb.1 hb.2
   |false=>
    refine aj ?_;refine ax ?_;have:kb x y=false:=tk (.inr (.inr (.inl (L7 hr hq λe=>by rw[e]at hb;simp at hb))));rw[this];rfl
  ·intro hg;have wh:x.i=y.i:=by rw[List.take_length,hli,List.take_length]at hg;exact hg
   refine af (au (s':=⟨[(2,.ref 1000 0 0 0),(3,.ref 1064 0 0 0),(5,.nI x.i.length),(41,.bI false)],[(1000,.cells x.cs),(1064,.cells y.cs)],3496⟩) (by simp[S.cs,S.enc]) ?_);refine ag rfl (aO ?_);simp only[Ex.then,Ex.inBlock,if_true];refine af (aj ?_);refine aq ?_;refine bQ x.s.length (λi=>⟨[(2,.ref 1000 0 0 0),(3,.ref 1064 0 0 0),(6,.nI i)],[(1000,.cells x.cs),(1064,.cells y.cs)],3560⟩) (λi=>x.s.take i=y.s.take i) rfl (by simp) ?_ ?_
   ·intro i gZ hg;obtain⟨r,hr⟩:∃r,x.s[i]?=some r:=⟨_,List.getElem?_eq_getElem gZ⟩;obtain⟨q,hq⟩:∃q,y.s[i]?=some q:=⟨_,List.getElem?_eq_getElem (by omega)⟩;refine af (au (s':=⟨[(2,.ref 1000 0 0 0),(3,.ref 1064 0 0 0),(6,.nI i),(59,.bI true)],[(1000,.cells x.cs),(1064,.cells y.cs)],3880⟩) (by simp[S.cs,S.enc,gZ]) ?_);refine ag rfl (ak (af (aq (af ?_))));refine aI (K:=0) (s':=⟨[(2,.ref 1000 0 0 0),(3,.ref 1064 0 0 0),(6,.nI i),(72,.bI (!(r==q)))],[(1000,.cells x.cs),(1064,.cells y.cs)],4584⟩) (λn _=>cM rfl (by
     simp[S.cs,S.enc,hr,hq,st1])) ?_
    refine ag rfl ?_;cases hb:(r==q)with
    |true=>
     refine ak ?_;refine bK ?_;refine⟨by simp[again,an,get,cC,eP,bG,S.cT,bw gZ hs],oy hr hq hg ?_⟩;rw[kP,decide_eq_true_eq]at hb;exact hb
    |false=>
     refine aj ?_;refine ax ?_;have:kb x y=false:=tk (.inr (.inr (.inr (L7 hr hq λe=>by rw[e]at hb;simp[kP]at hb))));rw[this];rfl
   ·intro hg;have hse:x.s=y.s:=by rw[List.take_length,hls,List.take_length]at hg;exact hg
    refine af (au (s':=⟨[(2,.ref 1000 0 0 0),(3,.ref 1064 0 0 0),(6,.nI x.s.length),(59,.bI false)],[(1000,.cells x.cs),(1064,.cells y.cs)],3880⟩) (by simp[S.cs,S.enc]) ?_);refine ag rfl (aO ?_);simp only[Ex.then,Ex.inBlock,if_true];refine aj ?_;refine ax ?_;rw[show kb x y=true by simp[kb,ha,hc,wh,hse]];rfl
end
section
variable {prog:Nat->Option aA}
end
def idxFrom (t:ByteArray):List ByteArray->Nat->Int
 |[],_=>-1
 |x::r,k=>if t=x then(k:Int) else idxFrom t r (k+1)
def dN (l:List ByteArray) (t:ByteArray):Bool:=decide (0<=idxFrom t l 0)
theorem yq (t:ByteArray):∀(l:List ByteArray) (k:Nat),0<=idxFrom t l k↔t ∈ l
 |[],k=>by simp[idxFrom]
 |x::r,k=>by
  simp only[idxFrom];split
  ·rename_i h;subst h;simp
  ·rename_i h;rw[yq t r (k+1)];simp[h]
theorem drop_cons {α:Type} {l:List α} {i:Nat} {x:α} (h:l[i]?=some x):l.drop i=x::l.drop (i+1):=by
 obtain⟨h1,h2⟩:=List.getElem?_eq_some_iff.1 h;rw[List.drop_eq_getElem_cons h1,h2]
section
variable {prog:Nat->Option aA}
theorem QY (h:prog 64=some DM) (l:List ByteArray) (t:ByteArray) (hl:l.length<=maxLen):a8 prog 64 [.iv (.sl 1 (l.map st1)),.iv (.str t)] (.nI (idxFrom t l 0)):=by
 refine a8.of h rfl rfl (aj ?_);refine af (aj ?_);refine aq ?_;refine bQ l.length (λi=>⟨[(0,.iv (.sl 1 (l.map st1))),(1,.iv (.str t)),(7,.nI l.length),(8,.nI i)],[],1256⟩) (λi=>idxFrom t (l.drop i) i=idxFrom t l 0) (by simp[an,get]) rfl ?_ ?_
 ·intro i hi hg;obtain⟨x,hx⟩:∃x,l[i]?=some x:=⟨_,List.getElem?_eq_getElem hi⟩;rw[drop_cons hx,idxFrom]at hg;refine au (by simp[hi];rfl) ?_;refine af (ag rfl (ak (af (aq (aj ?_)))));refine au (s':=⟨[(0,.iv (.sl 1 (l.map st1))),(1,.iv (.str t)),(5,.nI i),(7,.nI l.length),(8,.nI i),(16,.bI (t==x))],[],1832⟩) (by simp[hx,st1]) ?_;refine ag rfl ?_;cases hb:t==x with
  |true=>
   refine aj ?_;refine ax ?_;rw[kP,decide_eq_true_eq]at hb;rw[if_pos hb]at hg;rw[<-hg];rfl
  |false=>
   refine ak ?_;refine bK ?_;rw[kP,decide_eq_false_iff_not]at hb;rw[if_neg hb]at hg;exact⟨by simp[again,an,get,nrm,bw hi hl],hg⟩
 ·intro hg;rw[List.drop_length]at hg;refine aj ?_;refine af (ag rfl (aO ?_));simp only[Ex.then,Ex.inBlock,if_true];refine aj ?_;refine ax ?_;rw[<-hg];rfl
theorem AQ (gq:prog 64=some DM) (h:prog 53=some G7) (l:List ByteArray) (t:ByteArray) (hl:l.length<=maxLen):a8 prog 53 [.iv (.sl 1 (l.map st1)),.iv (.str t)] (.bI (dN l t)):=by
 obtain⟨K,hK⟩:=QY gq l t hl;refine a8.of h rfl rfl (aj ?_);refine cq (K:=K) (λn hn=>by simp[hK n hn];rfl) ?_;exact ax rfl
end
def kG (a b:List ByteArray) (vK:Bool):List ByteArray:=a.filter λs=>dN b s==vK
theorem r8 {α:Type} {l:List α} {i:Nat} {x:α} {f:α->Bool} (hx:l[i]?=some x):(l.take (i+1)).filter f=(l.take i).filter f++if f x then[x] else[]:=by
 rw[List.take_add_one,hx,List.filter_append];congr 1;simp only[Option.toList_some,List.filter_cons,List.filter_nil]
theorem tV {α:Type} (l:List α) (i:Nat) (f:α->Bool):((l.take i).filter f).length<=l.length:=
 Nat.le_trans (List.length_filter_le _ _) (by rw[List.length_take];omega)
section
variable {prog:Nat->Option aA}
set_option maxHeartbeats 1000000 in
theorem Fq (gq:prog 64=some DM) (yu:prog 53=some G7) (h:prog 39=some Pv) (a b:List ByteArray) (vK:Bool) (ha:a.length<=1000) (hb:b.length<=maxLen) :
  a8 prog 39 [.iv (.sl 1 (a.map st1)),.iv (.sl 1 (b.map st1)),.bI vK] (.iv (.sl 1 ((kG a b vK).map st1))):=by
 have qb:a.length<=maxLen:=by unfold maxLen;omega
 refine a8.of h rfl rfl (aj ?_);refine af (aj ?_);refine aq ?_;refine bQ a.length (λi=>⟨[(1,.iv (.sl 1 (b.map st1))),(2,.bI vK),(6,.own 1000 0 (kG (a.take i) b vK).length 0),(9,.iv (.sl 1 (a.map st1))),(10,.nI a.length),(11,.nI i)],
  [(1000,.buf 0 1 ((kG (a.take i) b vK).map st1))],1256⟩) (λ_=>True) (by simp[an,get,kG]) trivial ?_ ?_
 ·intro i hi _;obtain⟨x,hx⟩:∃x,a[i]?=some x:=⟨_,List.getElem?_eq_getElem hi⟩;have hlen:(kG (a.take i) b vK).length<=a.length:=tV _ _ _;generalize NY:kG (a.take i) b vK=acc at hlen;have b9:kG (a.take (i+1)) b vK=acc++if dN b x==vK then[x] else[]:=by rw[<-NY];exact r8 hx
  refine au (by simp[hi];rfl) ?_;refine af (ag rfl (ak (af (aq (au (by simp[hx,st1];rfl) ?_)))));refine af ?_;obtain⟨K,hK⟩:=AQ gq yu b x hb;refine aI (K:=K) (λn hn=>by simp[hK n hn];rfl) ?_;refine ag rfl ?_;rw[b9];cases hp:dN b x==vK with
  |true=>
   refine aD (by
    simp[bO,app,elems,roomy,show acc.length+1<=1073741824 by omega];rfl) ?_
   simp only[Ex.then,Ex.inBlock];refine bK ?_;refine⟨?_,trivial⟩;simp[again,an,get,nrm,bG,bw hi qb,st1,List.take_of_length_le]
  |false=>
   refine ak ?_;simp only[Ex.then,Ex.inBlock];refine bK ?_;exact⟨by simp[again,an,get,nrm,bG,bw hi qb],trivial⟩
 ·intro _;refine aj ?_;refine af (ag rfl (aO ?_));simp only[Ex.then,Ex.inBlock,if_true];refine aj ?_;refine ax ?_;simp[dI,Pv,ck,dJ,eE,ev,get,M.look,M.bind,M.run,M.ok,shut,im,bZ,cE,fz,M.write,List.take_of_length_le]
end
def w6:ByteArray:=match Lh.body with
 |.seq _ (.seq _ (.seq _ (.seq _ (.seq (.ff _ [_,_,_,⟨_,.jN (.c (.str s)) _,_,_⟩,_,_,_] _) _))))=>s
 |_=>⟨#[]⟩
theorem GK:w6.size=256:=by kernel_rfl
section
variable {prog:Nat->Option aA}
set_option maxRecDepth 20000 in
set_option maxHeartbeats 1000000 in
theorem QZ (h:prog 70=some Lh) {n:Nat} (hn:n<256):∃v:Int,a8 prog 70 [.iv (.int .u64 n)] (.nI v):=by
 obtain⟨b,hb⟩:∃b,w6[n]?=some b:=⟨_,getElem?_pos w6 n (by rw[GK];exact hn)⟩;refine⟨IntKind.i64.wrap (0+IntKind.i64.wrap (b.toNat:Int)),?_⟩;have c1:decide ((4294967296:Int)<=n)=false:=decide_eq_false (by omega);have c2:decide ((65536:Int)<=n)=false:=decide_eq_false (by omega);have c3:decide ((256:Int)<=n)=false:=decide_eq_false (by omega);have c4:IntKind.u8.wrap (n:Int)=n:=by rw[IntKind.wrap_u8];omega
 refine a8.of h rfl rfl (aj ?_);refine af (au (s':=⟨[(0,.iv (.int .u64 n)),(2,.nI 0),(4,.bI false)],[],1192⟩) (by simp[c1]) ?_);refine ag rfl (ak (af (au (s':=⟨[(0,.iv (.int .u64 n)),(2,.nI 0),(8,.bI false)],[],1320⟩) (by simp[c2]) ?_)));refine ag rfl (ak (af (au (s':=⟨[(0,.iv (.int .u64 n)),(2,.nI 0),(14,.bI false)],[],1448⟩) (by simp[c3]) ?_)));refine ag rfl (ak (cq (K:=0) (s':=⟨[(2,.nI (IntKind.i64.wrap (0+IntKind.i64.wrap (b.toNat:Int))))],[],1896⟩) (λ_ _=>by
  have hx:jN (.iv (.str w6)) (.iv (.int .u8 n))=M.ret (.iv (.int .u8 b.toNat)):=by
   simp only[jN,Int.toNat_natCast,hb];rfl
  show aS _ false [⟨some 19,.eM (.t 2),none,[]⟩,⟨some 20,.eM (.t 0),none,[]⟩,⟨some 21,.tt .u8 (.t 20),none,[]⟩,⟨some 22,.jN (.c (.str w6)) (.t 21),none,[]⟩,⟨some 23,.tt .i64 (.t 22),none,[]⟩,⟨some 24,.bin .add 0 (.t 19) (.t 23),none,[]⟩,⟨some 2,.eM (.t 24),none,[]⟩] [2] _=_
  simp[c4,hx]) ?_))
 exact ax rfl
theorem PV (P0:prog 70=some Lh) (h:prog 62=some R3) {n:Nat} (hn:n<256):∃v:Int,a8 prog 62 [.iv (.int .u64 n)] (.nI v):=by
 obtain⟨v,K,hK⟩:=QZ P0 hn;refine⟨v,a8.of h rfl rfl (af ?_)⟩;refine bK ?_;refine af (ag (t:=false) rfl (ak (cq (K:=K) (s':=⟨[(2,.nI v)],[],1256⟩) (λn hn=>by simp[hK n hn]) ?_)));exact ax rfl
end
section
variable {α:Type} (lt:α->α->Bool)
def sink:Nat->List α->List α
 |0,l=>l
 |j+1,l=>match l[j+1]?,l[j]? with
  |some y,some x=>if lt y x then sink j ((l.set (j+1) x).set j y) else l
  |_,_=>l
def sinks (l:List α):Nat->List α
 |0=>l
 |k+1=>sink lt (k+1) (sinks l k)
def fM (l:List α):List α:=sinks lt l (l.length - 1)
theorem Fs:∀(j:Nat) (l:List α),(sink lt j l).length=l.length
 |0,_=>rfl
 |j+1,l=>by
  unfold sink;split
  ·split
   ·rw[Fs j];simp
   ·rfl
  ·rfl
theorem sO (l:List α):∀k,(sinks lt l k).length=l.length
 |0=>rfl
 |k+1=>by rw[sinks,Fs,sO l k]
end
def ku (x y:Int×Int):Bool:=decide (wZ x.1 y.1<0)
section
variable {prog:Nat->Option aA}
set_option maxHeartbeats 2000000 in
theorem NZ (vD:prog 63=some G8) (LZ:prog 52=some Le) (TT:prog 51=some Pz) (h:prog 68=some R4) (l:List (Int×Int)) (hl:l.length<=maxLen) :
  Ev prog 68 [.own 0 0 l.length 0,.nI 0,.nI l.length,.iv (.fn 51 [])] [(0,.buf 0 2 (l.map bM))] (.bD [],[(0,.buf 0 2 ((fM ku l).map bM))]):=by
 refine Ev.of h rfl rfl (aj ?_);refine aq ?_;refine bQ (l.length - 1) (λi=>⟨[(0,.own 0 0 l.length 0),(1,.nI 0),(2,.nI l.length),(3,.iv (.fn 51 [])),(8,.nI ((i:Int)+1))],[(0,.buf 0 2 ((sinks ku l i).map bM))],1192⟩) (λ_=>True) (by simp[an,get,sinks];rfl) trivial ?_ ?_
 ·intro i hi _;have bC:(i:Int)+1<l.length:=by omega
  refine af (au (s':=⟨[(0,.own 0 0 l.length 0),(1,.nI 0),(2,.nI l.length),(3,.iv (.fn 51 [])),(8,.nI ((i:Int)+1)),(14,.bI true)],[(0,.buf 0 2 ((sinks ku l i).map bM))],1384⟩) (by simp[bC]) ?_);refine ag rfl (ak (af (aq (aj ?_))));refine aq ?_;refine b7 (λm s1=>∃l',sink ku m l'=sinks ku l (i+1)/\l'.length=l.length/\m<=i+1/\s1=⟨[(0,.own 0 0 l.length 0),(1,.nI 0),(2,.nI l.length),(3,.iv (.fn 51 [])),(8,.nI ((i:Int)+1)),(9,.nI m)],[(0,.buf 0 2 (l'.map bM))],1512⟩) (m:=i+1) ⟨sinks ku l i,rfl,sO _ _ _,Nat.le_refl _,by simp[an,get]⟩ ?_;rintro m s1 ⟨l',h1,h2,h3,rfl⟩
  have dX:IntKind.wrap .i64 ((i:Int)+1+1)=(i:Int)+1+1:=IntWalk.i64_in _ (by unfold maxLen at hl;omega);refine af (af ?_);cases m with
  |zero=>
   refine aI (K:=0) (s':=⟨[(0,.own 0 0 l.length 0),(1,.nI 0),(2,.nI l.length),(3,.iv (.fn 51 [])),(8,.nI ((i:Int)+1)),(9,.nI 0),(34,.bI false)],[(0,.buf 0 2 (l'.map bM))],2600⟩) (λn _=>cM rfl (by simp)) ?_;refine ag rfl (aO ?_);simp only[Ex.then,Ex.inBlock,if_true];have:l'=sinks ku l (i+1):=h1;subst this;refine bK ?_;exact⟨by simp[again,an,get,nrm,bG,dX],trivial⟩
  |succ j=>
   obtain⟨y,hy⟩:∃y,l'[j+1]?=some y:=⟨_,List.getElem?_eq_getElem (by omega)⟩;obtain⟨x,hx⟩:∃x,l'[j]?=some x:=⟨_,List.getElem?_eq_getElem (by omega)⟩;obtain⟨K,hK⟩:=TJ vD LZ TT y x;have tW:l'[j+1]'(by omega)=y:=(List.getElem?_eq_some_iff.1 hy).2;have qN:l'[j]'(by omega)=x:=(List.getElem?_eq_some_iff.1 hx).2;have HD:j+1<l.length:=by omega
   have L8:j<l.length:=by omega
   have vB:(0:Int)<=(j:Int)+1:=by omega
   have Ft:(j:Int)+1<l.length:=by omega
   have HE:(j:Int)<l.length:=by omega
   have Ma:(0:Int)<(j:Int)+1:=by omega
   have hw:IntKind.wrap .i64 (j:Int)=j:=IntWalk.i64_in _ (by unfold maxLen at hl;omega);refine aI (K:=K) (s':=⟨[(0,.own 0 0 l.length 0),(1,.nI 0),(2,.nI l.length),(3,.iv (.fn 51 [])),(8,.nI ((i:Int)+1)),(9,.nI ((j+1:Nat):Int)),(34,.bI (ku y x))],[(0,.buf 0 2 (l'.map bM))],2600⟩) (λn hn=>cM rfl (by
    have hc:=hK n hn;simp[HD,L8,vB,Ft,HE,Ma,hw,hy,hx,bM,hc,ku])) ?_
   refine ag rfl ?_;rw[sink,hy,hx]at h1;simp only at h1;cases hb:ku y x with
   |false=>
    rw[hb,if_neg Bool.false_ne_true]at h1;subst h1;refine aO ?_;simp only[Ex.then,Ex.inBlock,if_true];refine bK ?_;exact⟨by simp[again,an,get,nrm,bG,dX],trivial⟩
   |true=>
    rw[hb,if_pos rfl]at h1;refine ak (af (aq ?_));refine aD (s':=⟨[(0,.own 0 0 l.length 0),(1,.nI 0),(2,.nI l.length),(3,.iv (.fn 51 [])),(8,.nI ((i:Int)+1)),(9,.nI ((j+1:Nat):Int))],[(0,.buf 0 2 (((l'.set (j+1) x).set j y).map bM))],3752⟩) (by
     simp[HD,L8,vB,Ft,HE,Ma,hw,hy,hx,bM,h2,qN,tW]) ?_
    simp only[Ex.then,Ex.inBlock];refine bK ?_;refine⟨j,by omega,_,h1,by simp[h2],by omega,?_⟩;simp[again,an,get,nrm,bG,hw]
 ·intro _;have bC:¬((l.length - 1:Nat):Int)+1<l.length:=by omega
  refine af (au (s':=⟨[(0,.own 0 0 l.length 0),(1,.nI 0),(2,.nI l.length),(3,.iv (.fn 51 [])),(8,.nI (((l.length - 1:Nat):Int)+1)),(14,.bI false)],[(0,.buf 0 2 ((fM ku l).map bM))],1384⟩) (by simp[fM];omega) ?_);exact ag rfl (aO rfl)
end
def lT (x y:ByteArray):Bool:=fL x y
section
variable {prog:Nat->Option aA}
theorem N0 (h:prog 88=some Li) (a:ByteArray):a8 prog 88 [.iv (.str a)] (.bI false):=by
 refine a8.of h rfl rfl (aj ?_);refine au (s':=⟨[(2,.bI false)],[],1320⟩) (by simp[kP]) ?_;exact ax rfl
theorem Q0 (Mb:prog 88=some Li) (h:prog 72=some PB) (a b:ByteArray):a8 prog 72 [.iv (.str a),.iv (.str b)] (.bI (lT a b)):=by
 obtain⟨K1,h1⟩:=N0 Mb a;refine a8.of h rfl rfl (aj ?_);refine cq (K:=K1) (λn hn=>by simp[h1 n hn];rfl) ?_;exact ax rfl
set_option maxHeartbeats 2000000 in
theorem N1 (Mb:prog 88=some Li) (TU:prog 72=some PB) (h:prog 71=some R5) (v0:Nat) (l:List ByteArray) (hl:l.length<=maxLen) :
  Ev prog 71 [.own 0 0 l.length v0,.nI 0,.nI l.length] [(0,.buf v0 1 (l.map st1))] (.bD [],[(0,.buf v0 1 ((fM lT l).map st1))]):=by
 refine Ev.of h rfl rfl (aj ?_);refine aq ?_;refine bQ (l.length - 1) (λi=>⟨[(0,.own 0 0 l.length v0),(1,.nI 0),(2,.nI l.length),(6,.nI ((i:Int)+1))],[(0,.buf v0 1 ((sinks lT l i).map st1))],1192⟩) (λ_=>True) (by simp[an,get,sinks];rfl) trivial ?_ ?_
 ·intro i hi _;have bC:(i:Int)+1<l.length:=by omega
  refine af (au (s':=⟨[(0,.own 0 0 l.length v0),(1,.nI 0),(2,.nI l.length),(6,.nI ((i:Int)+1)),(12,.bI true)],[(0,.buf v0 1 ((sinks lT l i).map st1))],1384⟩) (by simp[bC]) ?_);refine ag rfl (ak (af (aq (aj ?_))));refine aq ?_;refine b7 (λm s1=>∃l',sink lT m l'=sinks lT l (i+1)/\l'.length=l.length/\m<=i+1/\s1=⟨[(0,.own 0 0 l.length v0),(1,.nI 0),(2,.nI l.length),(6,.nI ((i:Int)+1)),(7,.nI m)],[(0,.buf v0 1 (l'.map st1))],1512⟩) (m:=i+1) ⟨sinks lT l i,rfl,sO _ _ _,Nat.le_refl _,by simp[an,get]⟩ ?_;rintro m s1 ⟨l',h1,h2,h3,rfl⟩;have dX:IntKind.wrap .i64 ((i:Int)+1+1)=(i:Int)+1+1:=IntWalk.i64_in _ (by unfold maxLen at hl;omega)
  refine af (af ?_);cases m with
  |zero=>
   refine aI (K:=0) (s':=⟨[(0,.own 0 0 l.length v0),(1,.nI 0),(2,.nI l.length),(6,.nI ((i:Int)+1)),(7,.nI 0),(30,.bI false)],[(0,.buf v0 1 (l'.map st1))],2472⟩) (λn _=>cM rfl (by simp)) ?_;refine ag rfl (aO ?_);simp only[Ex.then,Ex.inBlock,if_true];have:l'=sinks lT l (i+1):=h1;subst this;refine bK ?_;exact⟨by simp[again,an,get,nrm,bG,dX],trivial⟩
  |succ j=>
   obtain⟨y,hy⟩:∃y,l'[j+1]?=some y:=⟨_,List.getElem?_eq_getElem (by omega)⟩;obtain⟨x,hx⟩:∃x,l'[j]?=some x:=⟨_,List.getElem?_eq_getElem (by omega)⟩;obtain⟨K,hK⟩:=Q0 Mb TU y x;have tW:l'[j+1]'(by omega)=y:=(List.getElem?_eq_some_iff.1 hy).2;have qN:l'[j]'(by omega)=x:=(List.getElem?_eq_some_iff.1 hx).2;have HD:j+1<l.length:=by omega
   have L8:j<l.length:=by omega
   have vB:(0:Int)<=(j:Int)+1:=by omega
   have Ft:(j:Int)+1<l.length:=by omega
   have HE:(j:Int)<l.length:=by omega
   have Ma:(0:Int)<(j:Int)+1:=by omega
   have hw:IntKind.wrap .i64 (j:Int)=j:=IntWalk.i64_in _ (by unfold maxLen at hl;omega);refine aI (K:=K) (s':=⟨[(0,.own 0 0 l.length v0),(1,.nI 0),(2,.nI l.length),(6,.nI ((i:Int)+1)),(7,.nI ((j+1:Nat):Int)),(30,.bI (lT y x))],[(0,.buf v0 1 (l'.map st1))],2472⟩) (λn hn=>cM rfl (by
    have hc:=hK n hn;simp[HD,L8,vB,Ft,HE,Ma,hw,hy,hx,st1,hc])) ?_
   refine ag rfl ?_;rw[sink,hy,hx]at h1;simp only at h1;cases hb:lT y x with
   |false=>
    rw[hb,if_neg Bool.false_ne_true]at h1;subst h1;refine aO ?_;simp only[Ex.then,Ex.inBlock,if_true];refine bK ?_;exact⟨by simp[again,an,get,nrm,bG,dX],trivial⟩
   |true=>
    rw[hb,if_pos rfl]at h1;refine ak (af (aq ?_));refine aD (s':=⟨[(0,.own 0 0 l.length v0),(1,.nI 0),(2,.nI l.length),(6,.nI ((i:Int)+1)),(7,.nI ((j+1:Nat):Int))],[(0,.buf v0 1 (((l'.set (j+1) x).set j y).map st1))],3624⟩) (by
     simp[HD,L8,vB,Ft,HE,Ma,hw,hy,hx,st1,h2,qN,tW]) ?_
    simp only[Ex.then,Ex.inBlock];refine bK ?_;refine⟨j,by omega,_,h1,by simp[h2],by omega,?_⟩;simp[again,an,get,nrm,bG,hw]
 ·intro _;have bC:¬((l.length - 1:Nat):Int)+1<l.length:=by omega
  refine af (au (s':=⟨[(0,.own 0 0 l.length v0),(1,.nI 0),(2,.nI l.length),(6,.nI (((l.length - 1:Nat):Int)+1)),(12,.bI false)],[(0,.buf v0 1 ((fM lT l).map st1))],1384⟩) (by simp[fM];omega) ?_);exact ag rfl (aO rfl)
end
structure tl (prog:Nat->Option aA):Prop where
 Yd:prog 50=some TQ
 TT:prog 51=some Pz
 LZ:prog 52=some Le
 Ye:prog 55=some TR
 h61:prog 61=some XX
 Yf:prog 62=some R3
 vD:prog 63=some G8
 h65:prog 65=some XY
 h68:prog 68=some R4
 P0:prog 70=some Lh
 h71:prog 71=some R5
 TU:prog 72=some PB
 Mb:prog 88=some Li
section
variable {prog:Nat->Option aA}
theorem TV (H:tl prog) (l:List (Int×Int)) (hl:l.length<=12) (v:Int) :
  Ev prog 61 [.own 0 0 l.length 0,.nI 0,.nI l.length,.nI v,.iv (.fn 51 [])] [(0,.buf 0 2 (l.map bM))] (.bD [],[(0,.buf 0 2 ((fM ku l).map bM))]):=by
 obtain⟨K,hK⟩:=NZ H.vD H.LZ H.TT H.h68 l (by unfold maxLen;omega);have kU:(l.length:Int)<=12:=by omega
 have hw:IntKind.wrap .i64 (l.length:Int)=l.length:=IntWalk.i64_in _ (by omega);refine Ev.of H.h61 rfl rfl (aj ?_);refine aj ?_;refine aq ?_;refine b7 (λ_ s1=>s1=⟨[(0,.own 0 0 l.length 0),(1,.nI 0),(2,.nI l.length),(3,.nI v),(4,.iv (.fn 51 [])),(10,.bI true),(11,.bI true)],[(0,.buf 0 2 (l.map bM))],1128⟩) (m:=0) (by simp[an,get]) ?_;rintro m s1 rfl;refine aq (au (by simp[hw];rfl) ?_);refine af (au (s':=⟨[(0,.own 0 0 l.length 0),(1,.nI 0),(2,.nI l.length),(3,.nI v),(4,.iv (.fn 51 [])),(10,.bI true),(11,.bI true),(12,.nI l.length),(25,.bI true)],[(0,.buf 0 2 (l.map bM))],1512⟩) (by simp[kU]) ?_)
 refine ag rfl (cq (K:=K) (s':=⟨[],[(0,.buf 0 2 ((fM ku l).map bM))],1832⟩) (λn hn=>by simp[nW,callee,qQ,List.flatMap,dedup,kJ,qR,place,lz,fA,qS,lE,hK n hn]) ?_);exact ax rfl
theorem Q1 (H:tl prog) (l:List (Int×Int)) (hl:l.length<=12) :
  Ev prog 50 [.own 0 0 l.length 0,.iv (.fn 51 [])] [(0,.buf 0 2 (l.map bM))] (.bD [],[(0,.buf 0 2 ((fM ku l).map bM))]):=by
 obtain⟨v,K1,ct⟩:=PV H.P0 H.Yf (n:=l.length) (by omega);obtain⟨K,hK⟩:=TV H l hl v;have hw:IntKind.wrap .u64 (l.length:Int)=l.length:=by rw[IntKind.wrap_u64];omega
 have hs:k7 2000051 [.own 0 0 l.length 0,.iv (.fn 51 [])] [(0,.buf 0 2 (l.map bM))]=none:=by
  have qd:Nat.blt 12 l.length=false:=by rw[Bool.eq_false_iff];intro h;have:=Nat.le_of_ble_eq_true h;omega
  simp[k7,get,many,qd]
 refine Ev.X7 H.Yd rfl rfl rfl hs (aj ?_);refine aI (K:=max K K1) (s':=⟨[],[(0,.buf 0 2 ((fM ku l).map bM))],1640⟩) (λn hn=>by simp[nW,callee,qQ,List.flatMap,dedup,kJ,qR,place,lz,fA,qS,lE,hw,ct n (by omega),hK n (by omega)]) ?_;rfl
theorem TW (H:tl prog) (v0:Nat) (l:List ByteArray) (hl:l.length<=12) (v:Int) :
  Ev prog 65 [.own 0 0 l.length v0,.nI 0,.nI l.length,.nI v] [(0,.buf v0 1 (l.map st1))] (.bD [],[(0,.buf v0 1 ((fM lT l).map st1))]):=by
 obtain⟨K,hK⟩:=N1 H.Mb H.TU H.h71 v0 l (by unfold maxLen;omega);have kU:(l.length:Int)<=12:=by omega
 have hw:IntKind.wrap .i64 (l.length:Int)=l.length:=IntWalk.i64_in _ (by omega);refine Ev.of H.h65 rfl rfl (aj ?_);refine aj ?_;refine aq ?_;refine b7 (λ_ s1=>s1=⟨[(0,.own 0 0 l.length v0),(1,.nI 0),(2,.nI l.length),(3,.nI v),(8,.bI true),(9,.bI true)],[(0,.buf v0 1 (l.map st1))],1128⟩) (m:=0) (by simp[an,get]) ?_;rintro m s1 rfl;refine aq (au (by simp[hw];rfl) ?_);refine af (au (s':=⟨[(0,.own 0 0 l.length v0),(1,.nI 0),(2,.nI l.length),(3,.nI v),(8,.bI true),(9,.bI true),(10,.nI l.length),(23,.bI true)],[(0,.buf v0 1 (l.map st1))],1512⟩) (by simp[kU]) ?_);refine ag rfl (cq (K:=K) (s':=⟨[],[(0,.buf v0 1 ((fM lT l).map st1))],1768⟩) (λn hn=>by simp[nW,callee,qQ,List.flatMap,dedup,kJ,qR,place,lz,fA,qS,lE,hK n hn]) ?_)
 exact ax rfl
theorem Q2 (H:tl prog) (v0:Nat) (l:List ByteArray) (hl:l.length<=12) :
  Ev prog 55 [.own 0 0 l.length v0] [(0,.buf v0 1 (l.map st1))] (.bD [],[(0,.buf v0 1 ((fM lT l).map st1))]):=by
 obtain⟨v,K1,ct⟩:=PV H.P0 H.Yf (n:=l.length) (by omega);obtain⟨K,hK⟩:=TW H v0 l hl v;have hw:IntKind.wrap .u64 (l.length:Int)=l.length:=by rw[IntKind.wrap_u64];omega
 have hs:k7 1000000 [.own 0 0 l.length v0] [(0,.buf v0 1 (l.map st1))]=none:=by
  have qd:Nat.blt 12 l.length=false:=by rw[Bool.eq_false_iff];intro h;have:=Nat.le_of_ble_eq_true h;omega
  simp[k7,get,many,qd]
 refine Ev.X7 H.Ye rfl rfl rfl hs (aj ?_);refine aI (K:=max K K1) (s':=⟨[],[(0,.buf v0 1 ((fM lT l).map st1))],1576⟩) (λn hn=>by simp[nW,callee,qQ,List.flatMap,dedup,kJ,qR,place,lz,fA,qS,lE,hw,ct n (by omega),hK n (by omega)]) ?_;rfl
end
def iz (l:List ByteArray):Nat->List ByteArray
 |0=>[]
 |j+1=>match l[j]? with
  |none=>iz l j
  |some x=>if 0<j/\l[j - 1]?=some x then iz l j else iz l j++[x]
def comp (l:List ByteArray):List ByteArray:=iz l l.length
theorem AS (l:List ByteArray):∀j,(iz l j).length<=j
 |0=>Nat.le_refl _
 |j+1=>by
  have:=AS l j;unfold iz;split
  ·omega
  ·split
   ·omega
   ·simp;omega
theorem CH {l:List ByteArray} (h:comp l=l):(l.map st1).take (comp l).length=(comp l).map st1:=by
 rw[h,List.take_of_length_le (by simp)]
section
variable {prog:Nat->Option aA}
theorem Ev.jn {f:Nat} {fn:aA} (hf:prog f=some fn) (fe:fn.cl=none) {args:List AV} (hn:args.length=fn.np) {hp:Hp} (P:AV×Hp->Prop) (h:Wp prog fn.body ⟨params args 0,hp,1000⟩ (λe s=>∃p,P p/\Fin fn.res p e s)):∃p,P p/\Ev prog f args hp p:=by
 obtain⟨K,ex,s',h,p,hp,q⟩:=h;exact⟨p,hp,Ev.of hf fe hn ⟨K,ex,s',h,q⟩⟩
set_option maxHeartbeats 2000000 in
theorem Mc (h:prog 56=some zX) (v0:Nat) (l:List ByteArray) (hl:l.length<=maxLen) :
  ∃p:AV×Hp,(∃AT,AT.take (comp l).length=(comp l).map st1/\(comp l).length<=AT.length/\p=(.own 0 0 (comp l).length v0,[(0,.buf v0 1 AT),(1000,.buf 0 1 [])]))/\Ev prog 56 [.own 0 0 l.length v0] [(0,.buf v0 1 (l.map st1))] p:=by
 refine Ev.jn h rfl rfl _ (aj ?_);refine af (au (by
  have:decide ((l.length:Int)<2)=decide (l.length<2):=decide_eq_decide.2 (by omega);simp[this];rfl) ?_)
 refine ag rfl ?_;cases hs:decide (l.length<2)with
 |true=>
  refine aj ?_;have hs:=of_decide_eq_true hs;have hc:comp l=l:=by
   unfold comp
   match l,hs with
   |[],_=>rfl
   |[x],_=>rfl
  refine ax ⟨_,⟨l.map st1,CH hc,by rw[hc];simp,rfl⟩,?_⟩;rw[hc];simp[Fin,zX,ck,dJ,eE,ev,get,M.look,M.bind,M.run,az,M.ok]
 |false=>
  have hs:=of_decide_eq_false hs;refine ak (af (aj ?_));refine aq ?_;refine bQ (l.length - 1) (λi=>⟨[(0,.own 0 0 l.length v0),(3,.nI ((i:Int)+1))],[(0,.buf v0 1 (l.map st1)),(1000,.buf 0 1 [])],1320⟩) (λi=>iz l (i+1)=l.take (i+1)) (by simp[an,get]) (by
   obtain⟨x,hx⟩:∃x,l[0]?=some x:=⟨_,List.getElem?_eq_getElem (by omega)⟩;rw[iz,hx,List.take_add_one,hx];simp[iz]) ?_ ?_
  ·intro i hi hg;have rY:(i:Int)+1<l.length:=by omega
   have Fu:(i:Int)<l.length:=by omega
   have CI:(0:Int)<=(i:Int)+1:=by omega
   have mo:i+1<l.length:=by omega
   have hi6:(i:Int)+1<=l.length:=by omega
   have HF:i<l.length:=by omega
   have hw:IntKind.wrap .i64 (i:Int)=i:=IntWalk.i64_in _ (by unfold maxLen at hl;omega);have dX:IntKind.wrap .i64 ((i:Int)+1+1)=(i:Int)+1+1:=IntWalk.i64_in _ (by unfold maxLen at hl;omega);obtain⟨y,hy⟩:∃y,l[i+1]?=some y:=⟨_,List.getElem?_eq_getElem (by omega)⟩;obtain⟨x,hx⟩:∃x,l[i]?=some x:=⟨_,List.getElem?_eq_getElem (by omega)⟩;have tW:l[i+1]'(by omega)=y:=(List.getElem?_eq_some_iff.1 hy).2;have qN:l[i]'(by omega)=x:=(List.getElem?_eq_some_iff.1 hx).2;refine af (au (by simp[rY];rfl) ?_);refine ag rfl (ak (af (aq (af ?_))));refine aI (K:=0) (s':=⟨[(0,.own 0 0 l.length v0),(3,.nI ((i:Int)+1)),(25,.bI (y==x))],[(0,.buf v0 1 (l.map st1)),(1000,.buf 0 1 [])],2216⟩) (λn _=>cM rfl (by simp[rY,Fu,CI,mo,HF,hw,qN,tW,st1])) ?_
   refine ag rfl ?_;cases hb:y==x with
   |false=>
    refine ak ?_;refine bK ?_;refine⟨by simp[again,an,get,nrm,bG,dX],?_⟩;rw[iz,hy,hg];rw[kP,decide_eq_false_iff_not]at hb;have:¬(0<i+1/\l[i+1 - 1]?=some y):=by
     rintro⟨_,h2⟩;rw[Nat.add_sub_cancel,hx]at h2;exact hb (Option.some.inj h2).symm
    simp only[if_neg this];rw[List.take_add_one (i:=i+1),hy];rfl
   |true=>
    rw[kP,decide_eq_true_eq]at hb;refine au (by simp[CI,hi6];rfl) ?_;refine af (aj ?_);refine aq ?_;refine b7 (λm s1=>∃(j k:Nat) (cur:List ByteArray),j+m=l.length - (i+1)/\1<=j/\cur.length=l.length/\(∀t,i+j<=t->cur[t]?=l[t]?)/\k<=i+j/\cur.take k=iz l (i+1+j)/\
     s1=⟨[(0,.own 0 0 l.length v0),(3,.nI (k:Int)),(4,.own 0 (i+1) (l.length - (i+1)) v0),(5,.nI (j:Int))],[(0,.buf v0 1 (cur.map st1)),(1000,.buf 0 1 [])],2536⟩) (m:=l.length - (i+1) - 1) ?_ ?_
    ·refine⟨1,i+1,l,by omega,Nat.le_refl _,rfl,λ_ _=>rfl,Nat.le_refl _,?_,by simp[an,get]⟩;rw[iz,hy,<-hg];simp only;rw[if_pos ⟨Nat.succ_pos _,by rw[Nat.add_sub_cancel,hx,hb]⟩]
    ·rintro m s1 ⟨j,k,cur,e1,e2,e3,e4,e5,e6,rfl⟩;have lU:IntKind.wrap .i64 ((k:Int)+1)=(k:Int)+1:=IntWalk.i64_in _ (by unfold maxLen at hl;omega);have P1:IntKind.wrap .i64 ((j:Int)+1)=(j:Int)+1:=IntWalk.i64_in _ (by unfold maxLen at hl;omega);have ZM:IntKind.wrap .i64 ((j:Int) - 1)=((j - 1:Nat):Int):=by rw[IntWalk.i64_in _ (by unfold maxLen at hl;omega)];omega
     cases m with
     |zero=>
      have hj:¬(j:Int)<((l.length - (i+1):Nat):Int):=by omega
      refine af (au (by simp[hj];rfl) ?_);refine ag rfl (aO ?_);simp only[Ex.then,Ex.inBlock,if_true];have oV:(k:Int)<=l.length:=by omega
      have yw:k<=l.length:=by omega
      refine au (by simp[qG,yw];rfl) ?_;refine au (s':=⟨_,[(0,.buf v0 1 ((cur.map st1).take k++List.replicate (l.length - k) [.str ⟨#[]⟩]++(cur.map st1).drop (k+(l.length - k)))),(1000,.buf 0 1 [])],3304⟩) (by simp[oV,yw];rfl) ?_;have hc:comp l=cur.take k:=by rw[e6];unfold comp;congr 1;omega
      have hk:(comp l).length=k:=by rw[hc,List.length_take];omega
      refine ax ⟨_,⟨(cur.map st1).take k++List.replicate (l.length - k) [.str ⟨#[]⟩]++(cur.map st1).drop (k+(l.length - k)),?_,?_,rfl⟩,?_⟩
      case refine_3=>rw[hk];simp[Fin,zX,ck,dJ,eE,ev,get,M.look,M.bind,M.run,az,M.ok]
      case refine_1=>rw[hk,hc,List.append_assoc,List.take_append_of_le_length (by simp;omega),List.map_take,List.take_take,Nat.min_self]
      case refine_2=>rw[hk];simp;omega
     |succ m=>
      have hj:(j:Int)<((l.length - (i+1):Nat):Int):=by omega
      have HD:j<l.length - (i+1):=by omega
      have vB:(((j - 1:Nat):Int))<((l.length - (i+1):Nat):Int):=by omega
      have Ft:i+1+(j - 1)=i+j:=by omega
      have HE:j - 1<l.length - (i+1):=by omega
      obtain⟨v,hv⟩:∃v,l[i+1+j]?=some v:=⟨_,List.getElem?_eq_getElem (by omega)⟩;obtain⟨u,hu⟩:∃u,l[i+j]?=some u:=⟨_,List.getElem?_eq_getElem (by omega)⟩;have cv:cur[i+1+j]?=some v:=by rw[e4 _ (by omega),hv]
      have cu:cur[i+j]?=some u:=by rw[e4 _ (by omega),hu]
      have cv':cur[i+1+j]'(by omega)=v:=(List.getElem?_eq_some_iff.1 cv).2;have cu':cur[i+j]'(by omega)=u:=(List.getElem?_eq_some_iff.1 cu).2;refine af (au (by simp[hj];rfl) ?_);refine ag rfl (ak (af (aq (af ?_))));refine aI (K:=0) (s':=⟨[(0,.own 0 0 l.length v0),(3,.nI (k:Int)),(4,.own 0 (i+1) (l.length - (i+1)) v0),(5,.nI (j:Int)),(44,.bI (!(v==u)))],[(0,.buf v0 1 (cur.map st1)),(1000,.buf 0 1 [])],3432⟩) (λn _=>cM rfl (by simp[hj,vB,Ft,ZM,cv,cu,st1])) ?_;refine ag rfl ?_;cases qe:v==u with
      |true=>
       refine ak ?_;simp only[Ex.then,Ex.inBlock];refine bK ?_;refine⟨m,by omega,j+1,k,cur,by omega,by omega,e3,λt ht=>e4 t (by omega),by omega,?_,by simp[again,an,get,nrm,bG,P1]⟩;rw[kP,decide_eq_true_eq]at qe;rw[e6,<-Nat.add_assoc,iz,hv];simp only;rw[if_pos ⟨by omega,by rw[show i+1+j - 1=i+j by omega,hu,qe]⟩]
      |false=>
       have oV:(k:Int)<l.length:=by omega
       have CJ:k<l.length:=by omega
       refine au (s':=⟨_,[(0,.buf v0 1 ((cur.set k v).map st1)),(1000,.buf 0 1 [])],3944⟩) (by simp[hj,cv,oV,CJ,e3,st1];rfl) ?_;refine bK ?_;simp only[Ex.then,Ex.inBlock];refine bK ?_;refine⟨m,by omega,j+1,k+1,cur.set k v,by omega,by omega,by simp[e3],λt ht=>by rw[List.getElem?_set_ne (by omega)];exact e4 t (by omega),by omega,?_,by simp[again,an,get,nrm,bG,P1,lU]⟩;rw[kP,decide_eq_false_iff_not]at qe;rw[<-Nat.add_assoc,iz,hv];simp only;rw[if_neg (by rintro⟨_,h2⟩;rw[show i+1+j - 1=i+j by omega,hu]at h2;exact qe (Option.some.inj h2).symm),<-e6,List.take_add_one];simp[List.take_set,CJ,e3]
       exact List.set_eq_of_length_le (by simp;omega)
  ·intro hg;refine af (af ?_);have hn:¬((l.length - 1:Nat):Int)+1<l.length:=by omega
   refine aD (by simp[hn];rfl) ?_;refine ag rfl (aO ?_);simp only[Ex.then,Ex.inBlock,if_true];refine aj ?_;have hc:comp l=l:=by
    unfold comp;rw[show l.length - 1+1=l.length by omega,List.take_length]at hg;exact hg
   refine ax ⟨_,⟨l.map st1,CH hc,by rw[hc];simp,rfl⟩,?_⟩;rw[hc];simp[Fin,zX,ck,dJ,eE,ev,get,M.look,M.bind,M.run,az,M.ok]
end
def rj (o:List (Int×Int)) (r:Int×Int):Bool:=
 match o[o.length - 1]? with
 |some p=>p.2==9223372036854775807||decide (r.1<=IntKind.wrap .i64 (p.2+1))
 |none=>false
def Fv (o:List (Int×Int)) (r:Int×Int):List (Int×Int):=
 match o[o.length - 1]? with
 |some p=>o.set (o.length - 1) (p.1,if r.2 > p.2 then r.2 else p.2)
 |none=>o
def js (o:List (Int×Int)) (r:Int×Int):List (Int×Int):=
 if decide (r.2<r.1) then o else if rj o r then Fv o r else o++[r]
def iZ (l:List (Int×Int)):List (Int×Int):=(fM ku l).foldl js []
theorem qf {α:Type} (lt:α->α->Bool) (l:List α):(fM lt l).length=l.length:=sO lt l _
theorem N2 (o:List (Int×Int)) (r:Int×Int):(js o r).length<=o.length+1:=by
 unfold js Fv;split
 ·omega
 ·split
  ·split<;>simp
  ·simp
theorem sP:∀(l o:List (Int×Int)),(l.foldl js o).length<=o.length+l.length
 |[],_=>Nat.le_refl _
 |r::l,o=>by
  have:=sP l (js o r);have:=N2 o r;simp only[List.foldl_cons,List.length_cons];omega
theorem cD {α β:Type} (f:α->β) (l:List α):(l.map f).take l.length=l.map f:=List.take_of_length_le (by simp)
section
variable {prog:Nat->Option aA}
set_option maxHeartbeats 4000000 in
theorem CK (w7:prog 38=some DJ) (h:prog 37=some GZ) (l q:List (Int×Int)) (hl:l.length<=100000) (Md:q.length=l.length) (hs:Ev prog 50 [.own 0 0 l.length 0,.iv (.fn 51 [])] [(0,.buf 0 2 (l.map bM))] (.bD [],[(0,.buf 0 2 (q.map bM))])) :
  a8 prog 37 [.iv (.sl 2 (l.map bM))] (.iv (.sl 2 ((q.foldl js []).map bM))):=by
 obtain⟨K,hK⟩:=hs;refine a8.of h rfl rfl (aj ?_);refine cq (K:=1) (s':=⟨[(0,.own 1128 0 l.length 0),(2,.own 1000 0 0 0)],[(1000,.buf 0 2 []),(1128,.buf 0 2 (l.map bM))],1256⟩) (λn hn=>by
  obtain⟨n,rfl⟩:∃n',n=n'+1:=⟨n - 1,by omega⟩;have hr:l.length<=1073741824:=by omega
  simp[tv,xN,aZ,w7,DJ,nX,roomy,hr]) ?_
 refine cq (K:=K) (λn hn=>by simp[nW,callee,qQ,List.flatMap,dedup,kJ,qR,place,lz,fA,qS,lE,hK n hn];rfl) ?_;refine af (aj ?_);refine aq ?_;refine bQ l.length (λi=>⟨[(2,.own 1000 0 ((q.take i).foldl js []).length 0),(10,.own 1128 0 l.length 0),(11,.nI l.length),(12,.nI i)],[(1000,.buf 0 2 (((q.take i).foldl js []).map bM)),(1128,.buf 0 2 (q.map bM))],1576⟩) (λ_=>True) (by simp[an,get]) trivial ?_ ?_
 ·intro i hi _;obtain⟨r,hr⟩:∃r,q[i]?=some r:=⟨_,List.getElem?_eq_getElem (by omega)⟩;have b9:(q.take (i+1)).foldl js []=js ((q.take i).foldl js []) r:=by rw[List.take_add_one,hr];simp
  have hlen:((q.take i).foldl js []).length<=100000:=by have:=sP (q.take i) [];simp at this;omega
  rw[b9];generalize(q.take i).foldl js []=o at hlen;have rY:(i:Int)<l.length:=by omega
  have jY:q[i]'(by omega)=r:=(List.getElem?_eq_some_iff.1 hr).2;have dX:IntKind.wrap .i64 ((i:Int)+1)=(i:Int)+1:=IntWalk.i64_in _ (by omega);refine au (by simp[hi];rfl) ?_;refine af (ag rfl (ak (af (aq (au (by simp[hi,hr,bM];rfl) ?_)))));refine af (aj ?_);refine ag rfl ?_;unfold js;cases hd:decide (r.2<r.1)with
  |true=>
   refine aO ?_;simp only[Ex.then,Ex.inBlock,if_true];refine bK ?_;exact⟨by simp[again,an,get,nrm,bG,dX],trivial⟩
  |false=>
   refine ak (aj ?_);refine af (af ?_);refine aI (K:=0) (s':=⟨[(2,.own 1000 0 o.length 0),(4,.ref 1768 0 0 0),(5,.nI o.length),(10,.own 1128 0 l.length 0),(11,.nI l.length),(12,.nI i),(45,.bI (rj o r))],[(1000,.buf 0 2 (o.map bM)),(1128,.buf 0 2 (q.map bM)),(1768,.cells [.nI r.1,.nI r.2])],3880⟩) (λn _=>cM rfl (by
    by_cases h0:o.length=0
    ·obtain rfl:o=[]:=List.eq_nil_of_length_eq_zero h0;simp[rj]
    ·have jy:(0:Int)<o.length:=by omega
     have iX:IntKind.wrap .i64 ((o.length:Int) - 1)=((o.length - 1:Nat):Int):=by rw[IntWalk.i64_in _ (by omega)];omega
     have sQ:((o.length - 1:Nat):Int)<o.length:=by omega
     have wJ:0<o.length:=by omega
     obtain⟨p,hp⟩:∃p,o[o.length - 1]?=some p:=⟨_,List.getElem?_eq_getElem (by omega)⟩;have dG:o[o.length - 1]'(by omega)=p:=(List.getElem?_eq_some_iff.1 hp).2;cases h1:p.2==9223372036854775807<;>simp[rj,jy,iX,sQ,wJ,hp,dG,bM,h1])) ?_
   refine ag rfl ?_;cases hj:rj o r with
   |true=>
    obtain⟨p,hp⟩:∃p,o[o.length - 1]?=some p:=by
     unfold rj at hj;split at hj
     ·exact⟨_,by assumption⟩
     ·cases hj
    have h0:o.length≠0:=by intro h0;rw[List.getElem?_eq_none (by omega)]at hp;cases hp
    have jy:(0:Int)<o.length:=by omega
    have iX:IntKind.wrap .i64 ((o.length:Int) - 1)=((o.length - 1:Nat):Int):=by rw[IntWalk.i64_in _ (by omega)];omega
    have sQ:((o.length - 1:Nat):Int)<o.length:=by omega
    have wJ:0<o.length:=by omega
    have dG:o[o.length - 1]'(by omega)=p:=(List.getElem?_eq_some_iff.1 hp).2;have hh:Fv o r=o.set (o.length - 1) (p.1,if r.2 > p.2 then r.2 else p.2):=by unfold Fv;rw[hp]
    refine au (s':=⟨[(2,.own 1000 0 o.length 0),(10,.own 1128 0 l.length 0),(11,.nI l.length),(12,.nI i)],[(1000,.buf 0 2 ((Fv o r).map bM)),(1128,.buf 0 2 (q.map bM)),(1768,.cells [.nI r.1,.nI r.2])],4840⟩) (by
     rw[hh];simp[qH,jy,iX,sQ,wJ,hp,dG,bM]) ?_
    refine aO ?_;simp only[Ex.then,Ex.inBlock,if_true];refine bK ?_;refine⟨?_,trivial⟩;simp[again,an,get,nrm,bG,dX,hh]
   |false=>
    refine ak ?_;have pX:o.length+1<=1073741824:=by omega
    refine aD (s':=⟨[(2,.own 1000 0 (o.length+1) 1),(10,.own 1128 0 l.length 0),(11,.nI l.length),(12,.nI i)],[(1000,.buf 1 2 ((o++[r]).map bM)),(1128,.buf 0 2 (q.map bM)),(1768,.cells [.nI r.1,.nI r.2]),(4008,.buf 0 2 [bM r])],4200⟩) (by
     simp[app,elems,roomy,pX,bM,bO,cD]) ?_
    simp only[Ex.then,Ex.inBlock];refine bK ?_;refine⟨?_,trivial⟩;simp[again,an,get,nrm,bG,dX]
 ·intro _;refine af ?_;have hn:¬(l.length:Int)<l.length:=by omega
  refine aD (by simp[hn];rfl) ?_;refine af (ag rfl (aO ?_));simp only[Ex.then,Ex.inBlock,if_true];refine aj ?_;refine ax ?_;have ZN:q.take l.length=q:=by rw[<-Md,List.take_length]
  rw[ZN];simp[dI,GZ,ck,dJ,eE,ev,get,M.look,M.bind,M.run,az,M.ok,shut,im,bZ,cE,fz,M.write,M.lift,cD]
theorem N3 (H:tl prog) (w7:prog 38=some DJ) (h:prog 37=some GZ) (l:List (Int×Int)) (hl:l.length<=12):a8 prog 37 [.iv (.sl 2 (l.map bM))] (.iv (.sl 2 ((iZ l).map bM))):=
 CK w7 h l (fM ku l) (by omega) (qf _ _) (Q1 H l hl)
end
def pJ (a b:List ByteArray):List ByteArray:=comp (fM lT (a++b))
section
variable {prog:Nat->Option aA}
set_option maxHeartbeats 1000000 in
theorem HG (yx:prog 54=some DL) (AU:prog 56=some zX) (h:prog 40=some G5) (a b q:List ByteArray) (hl:a.length+b.length<=100000) (Md:q.length=(a++b).length)
  (hs:Ev prog 55 [.own 0 0 (a++b).length 1] [(0,.buf 1 1 ((a++b).map st1))] (.bD [],[(0,.buf 1 1 (q.map st1))])) :
  a8 prog 40 [.iv (.sl 1 (a.map st1)),.iv (.sl 1 (b.map st1))] (.iv (.sl 1 ((comp q).map st1))):=by
 obtain⟨K1,ct⟩:=hs;obtain⟨p,⟨AT,gA,pX,rfl⟩,K2,cZ⟩:=Mc AU 1 q (by rw[Md];simp[maxLen];omega);rw[List.length_append,List.map_append]at ct;rw[Md,List.length_append]at cZ;refine a8.of h rfl rfl (aj ?_);refine cq (K:=1) (s':=⟨[(5,.own 1128 0 (a.length+b.length) 1)],[(1000,.buf 0 1 []),(1128,.buf 1 1 ((a++b).map st1))],1384⟩) (λn hn=>by
  obtain⟨n,rfl⟩:∃n',n=n'+1:=⟨n - 1,by omega⟩;have hr:a.length<=1073741824:=by omega
  have pX:a.length+b.length<=1073741824:=by omega
  simp[tv,xN,aZ,yx,DL,nX,roomy,hr,pX,app,elems,cD]) ?_
 refine cq (K:=K1) (s':=⟨[(5,.own 1128 0 (a.length+b.length) 1)],[(1000,.buf 0 1 []),(1128,.buf 1 1 (q.map st1))],1512⟩) (λn hn=>by simp[nW,callee,qQ,List.flatMap,dedup,kJ,qR,place,lz,fA,qS,lE,ct n hn]) ?_;refine cq (K:=K2) (s':=⟨[(4,.own 1128 0 (comp q).length 1)],[(1000,.buf 0 1 []),(1128,.buf 1 1 AT)],1704⟩) (λn hn=>by simp[nW,callee,qQ,List.flatMap,dedup,kJ,qR,place,lz,fA,qS,lE,cZ n hn]) ?_;refine ax ?_;simp[dI,G5,ck,dJ,eE,ev,get,M.look,M.bind,M.run,az,M.ok,shut,im,bZ,cE,fz,M.write,M.lift,gA]
theorem TX (H:tl prog) (yx:prog 54=some DL) (AU:prog 56=some zX) (h:prog 40=some G5) (a b:List ByteArray) (hl:a.length+b.length<=12) :
  a8 prog 40 [.iv (.sl 1 (a.map st1)),.iv (.sl 1 (b.map st1))] (.iv (.sl 1 ((pJ a b).map st1))):=
 HG yx AU h a b (fM lT (a++b)) (by omega) (qf _ _) (Q2 H 1 (a++b) (by simpa using hl))
end
def qO (x y:S):List ByteArray:=
 if x.c&&y.c then kG x.s y.s true else if x.c then kG x.s y.s false else if y.c then kG y.s x.s false else pJ x.s y.s
def kQ (x y:S):S:=⟨x.a||y.a,iZ (x.i++y.i),x.c||y.c,qO x y⟩
structure JO (prog:Nat->Option aA):Prop extends tl prog where
 P2:prog 23=some RX
 TY:prog 37=some GZ
 w7:prog 38=some DJ
 P3:prog 39=some Pv
 Yg:prog 40=some G5
 yu:prog 53=some G7
 yx:prog 54=some DL
 AU:prog 56=some zX
 gq:prog 64=some DM
section
variable {prog:Nat->Option aA}
def lJ (x y:S) (t:AV):Hp:=[(1000,.cells [.iv (.bool x.a),.iv (.sl 2 (x.i.map bM)),.iv (.bool x.c),.iv (.sl 1 (x.s.map st1))]),(1064,.cells [.iv (.bool y.a),.iv (.sl 2 (y.i.map bM)),.iv (.bool y.c),.iv (.sl 1 (y.s.map st1))]),
 (1130,.buf 0 2 []),(1132,.buf 0 1 []),(1128,.cells [.iv (.bool false),.own 1130 0 0 0,.iv (.bool false),.own 1132 0 0 0]),(1704,.cm 1 2 (x.i.map bM++y.i.map bM)),(2474,.buf 0 2 []),(2476,.buf 0 1 []),
 (2472,.cells [.iv (.bool (x.a||y.a)),.iv (.sl 2 ((iZ (x.i++y.i)).map bM)),.iv (.bool (x.c||y.c)),t]),(2539,.buf 0 1 [])]
set_option maxHeartbeats 4000000 in
theorem WT (H:JO prog) (x y:S) (hi:x.i.length+y.i.length<=100000) (hs:x.s.length<=1000/\y.s.length<=1000) (hR:a8 prog 37 [.iv (.sl 2 ((x.i++y.i).map bM))] (.iv (.sl 2 ((iZ (x.i++y.i)).map bM))))
  (hJ:a8 prog 40 [.iv (.sl 1 (x.s.map st1)),.iv (.sl 1 (y.s.map st1))] (.iv (.sl 1 ((pJ x.s y.s).map st1)))):a8 prog 23 [x.av,y.av] (kQ x y).av:=by
 obtain⟨K1,ct⟩:=hR;rw[List.map_append]at ct;obtain⟨K2,cZ⟩:=Fq H.gq H.yu H.P3 x.s y.s true (by omega) (by unfold maxLen;omega);obtain⟨K3,fP⟩:=Fq H.gq H.yu H.P3 x.s y.s false (by omega) (by unfold maxLen;omega);obtain⟨K4,TZ⟩:=Fq H.gq H.yu H.P3 y.s x.s false (by omega) (by unfold maxLen;omega);obtain⟨K5,T0⟩:=hJ;refine a8.of H.P2 rfl rfl (au (by simp[S.av];rfl) ?_);refine cq (K:=max K1 1) (s':=⟨[(2,.ref 1000 0 0 0),(3,.ref 1064 0 0 0),(4,.ref 1128 0 0 0),(5,.ref 2472 0 0 0)],lJ x y (.own 2539 0 0 0),2600⟩) (λn hn=>by
  obtain⟨n,rfl⟩:∃n',n=n'+1:=⟨n - 1,by omega⟩;have e1:=ct (n+1) (by omega);have hr:x.i.length<=1073741824:=by omega
  have pX:x.i.length+y.i.length<=1073741824:=by omega
  have f38:∀es,aZ prog (n+1) 38 [.iv (.sl 2 es)] []=(nX 2 [.iv (.sl 2 es)]).run []:=λes=>by simp only[aZ,H.w7,DJ];rfl
  generalize aZ prog (n+1)=g at e1 f38;have ht:(x.i.map bM++y.i.map bM).take (x.i.length+y.i.length)=x.i.map bM++y.i.map bM:=List.take_of_length_le (by simp);cases ha:x.a<;>cases hc:x.c<;>simp[tv,xN,f38,nX,roomy,hr,pX,app,elems,cD,e1,ha,hc,lJ,ht]) ?_
 refine af (aq (Wp.mono (Q:=λe s=>e = .norm/\∃nx,s=⟨[(4,.ref 1128 0 0 0),(5,.ref 2472 0 0 0)],lJ x y (.iv (.sl 1 ((qO x y).map st1))),nx⟩) ?_ ?_))
 ·refine au (s':=⟨[(2,.ref 1000 0 0 0),(3,.ref 1064 0 0 0),(4,.ref 1128 0 0 0),(5,.ref 2472 0 0 0),(32,.bI (x.c&&y.c))],lJ x y (.own 2539 0 0 0),3048⟩) (by
   cases hc:x.c<;>simp[lJ,hc]) ?_
  refine ag rfl ?_;unfold qO;cases hb:x.c&&y.c with
  |true=>
   refine aI (K:=K2) (s':=⟨[(4,.ref 1128 0 0 0),(5,.ref 2472 0 0 0)],lJ x y (.iv (.sl 1 ((kG x.s y.s true).map st1))),3496⟩) (λn hn=>by
    have e2:=cZ n hn;generalize aZ prog n=g at e2;simp[lJ,e2]) ⟨rfl,_,rfl⟩
  |false=>
   refine au (s':=⟨[(2,.ref 1000 0 0 0),(3,.ref 1064 0 0 0),(4,.ref 1128 0 0 0),(5,.ref 2472 0 0 0),(45,.bI x.c)],lJ x y (.own 2539 0 0 0),3240⟩) (by simp[lJ]) ?_;refine ag rfl ?_;cases hc:x.c with
   |true=>
    refine aI (K:=K3) (s':=⟨[(4,.ref 1128 0 0 0),(5,.ref 2472 0 0 0)],lJ x y (.iv (.sl 1 ((kG x.s y.s false).map st1))),3688⟩) (λn hn=>by
     have e2:=fP n hn;generalize aZ prog n=g at e2;simp[lJ,e2]) ⟨rfl,_,rfl⟩
   |false=>
    refine au (s':=⟨[(2,.ref 1000 0 0 0),(3,.ref 1064 0 0 0),(4,.ref 1128 0 0 0),(5,.ref 2472 0 0 0),(54,.bI y.c)],lJ x y (.own 2539 0 0 0),3432⟩) (by simp[lJ]) ?_;refine ag rfl ?_;cases hd:y.c with
    |true=>
     refine aI (K:=K4) (s':=⟨[(4,.ref 1128 0 0 0),(5,.ref 2472 0 0 0)],lJ x y (.iv (.sl 1 ((kG y.s x.s false).map st1))),3880⟩) (λn hn=>by
      have e2:=TZ n hn;generalize aZ prog n=g at e2;simp[lJ,e2]) ⟨rfl,_,rfl⟩
    |false=>
     refine aI (K:=K5) (s':=⟨[(4,.ref 1128 0 0 0),(5,.ref 2472 0 0 0)],lJ x y (.iv (.sl 1 ((pJ x.s y.s).map st1))),3880⟩) (λn hn=>by
      have e2:=T0 n hn;generalize aZ prog n=g at e2;simp[lJ,e2]) ⟨rfl,_,rfl⟩
 ·rintro e s ⟨rfl,nx,rfl⟩;simp only[Ex.then,Ex.inBlock];refine au (by simp[lJ];rfl) ?_;refine ax ?_;simp[dI,RX,ck,dJ,eE,load,bB,mk,ev,get,M.look,M.bind,M.run,az,M.ok,M.lift,shut,im,bZ,cE,fz,M.aG,S.av,kQ]
end
section
variable {prog:Nat->Option aA}
end
theorem xW (id o m aC:Nat):cE true (.own id o m aC)=(M.look id).bind fun
  |.buf v e es=>(M.ok (v==aC)).bind λ_=>(M.write id (.cm v e es)).bind λ_=>.ret (.iv (.sl e ((es.drop o).take m)))
  |.cm v e es=>(M.ok (v==aC)).bind λ_=>.ret (.iv (.sl e ((es.drop o).take m)))
  |.cells _=>.fail
  |.map _=>.fail:=by
 unfold cE fz;simp only[M.look,M.bind];congr 1;funext ob;cases ob with
 |none=>rfl
 |some ob=>
  cases ob with
  |cells cs=>rfl
  |map dh=>rfl
  |buf v e es=>cases hv:v==aC<;>simp[M.ok,M.bind,M.write,hv]
  |cm v e es=>cases hv:v==aC<;>simp[M.ok,M.bind,hv]
section
variable {prog:Nat->Option aA}
end
section
variable {prog:Nat->Option aA}
end
end ao
namespace ao
open Go
def dE (n:Int):Prop:=-9223372036854775808<=n/\n<=9223372036854775807
structure S.ok (s:S):Prop where
 li:s.i.length<=maxLen
 ls:s.s.length<=maxLen
 ri:∀p ∈ s.i,dE p.1/\dE p.2
 rs:∀t ∈ s.s,t.size<=maxLen
def B.ok (b:B):Prop:=b.s0.ok/\b.s1.ok/\b.s2.ok/\b.s3.ok
theorem B.ok.at {b:B} (h:b.ok) {i:Nat} (hi:i<4):(b.get i).ok:=by
 match i,hi with
 |0,_=>exact h.1
 |1,_=>exact h.2.1
 |2,_=>exact h.2.2.1
 |3,_=>exact h.2.2.2
theorem B.ok.fits {b:B} (h:b.ok):b.fits:=λ_ hi=>⟨(h.at hi).li,(h.at hi).ls⟩
theorem uV {α:Type} (f:α->List IV) (P:α->Prop):∀rows:List (List IV),(∀r ∈ rows,∃a,r=f a/\P a)->∃l:List α,rows=l.map f/\∀a ∈ l,P a
 |[],_=>⟨[],rfl,λa h=>by cases h⟩
 |r::rows,h=>by
  obtain⟨a,rfl,ha⟩:=h r (List.mem_cons_self ..);obtain⟨l,rfl,hl⟩:=uV f P rows λr' h'=>h r' (List.mem_cons_of_mem _ h')
  exact⟨a::l,rfl,λb hb=>(List.mem_cons.1 hb).elim (λe=>e▸ha) (hl b)⟩
theorem jH.split:∀{ss ts:List Sh} {xs:List IV},jH (ss++ts) xs->∃a b,xs=a++b/\jH ss a/\jH ts b
 |[],_,xs,h=>⟨[],xs,rfl,trivial,h⟩
 |_::_,_,[],h=>h.elim
 |_::_,_,x::xs,h=>by
  obtain⟨a,b,rfl,ha,hb⟩:=jH.split h.2;exact⟨x::a,b,rfl,⟨h.1,ha⟩,hb⟩
theorem pn {n:Int} (h:(Lit.int .i64 n).wf=true):dE n:=by
 simp only[Lit.wf,Bool.and_eq_true,decide_eq_true_eq]at h;rw[show IntKind.i64.min = -9223372036854775808 by decide,show IntKind.i64.max=9223372036854775807 by decide]at h;exact h
theorem jH.one {a:Sh} {ss:List Sh}:∀{xs:List IV},jH (a::ss) xs->∃x r,xs=x::r/\Fits a x/\jH ss r
 |[],h=>h.elim
 |x::r,h=>⟨x,r,rfl,h.1,h.2⟩
theorem jH.none:∀{xs:List IV},jH [] xs->xs=[]
 |[],_=>rfl
 |_::_,h=>h.elim
theorem w8 {x y:S}:kb x y=true↔x=y:=by
 constructor
 ·intro h;simp only[kb,Bool.and_eq_true,beq_iff_eq,decide_eq_true_eq]at h;obtain⟨h1,h2,h3,h4⟩:=h;cases x;cases y;simp_all
 ·rintro rfl;simp[kb]
end ao
namespace ao
open Go
attribute [local simp] aS Option.map_some a7 step cw bp az M.aG M.run M.ok M.fresh M.write M.look M.lift bT ao.set ev ao.get an bin cU db mk params bh load bB di ep dQ dn dB idx len valid eu bound store bl fV un eqs ly bn bH M.bN dw cL dC c9 meets dF dR callee bZ cE fz flat ew eI eZ Option.bind_some cz M.bind
theorem zt {n0:Nat} (h:1000<n0) (cs:List AV):nrm n0 [(1000,.cells cs)] 8 (.ref 1000 0 0 0) = .ref 1000 0 0 0:=by simp[nrm,ao.get,h]
inductive Xp where
 |mk (k a:Int) (s:S) (sub:List Xp)
mutual
def Xp.enc:Xp->List IV
 |.mk k a s sub=>[.int .i64 k,.int .i64 a,.bool s.a,.sl 2 (s.i.map bM),.bool s.c,.sl 1 (s.s.map st1),.sl 7 (Xp.JP sub)]
def Xp.JP:List Xp->List (List IV)
 |[]=>[]
 |x::l=>x.enc::Xp.JP l
end
theorem Xp.cJ:∀l:List Xp,Xp.JP l=l.map Xp.enc
 |[]=>rfl
 |x::l=>by simp[Xp.JP,Xp.cJ l]
def Xp.sub:Xp->List Xp
 |.mk _ _ _ l=>l
def Xp.set:Xp->S
 |.mk _ _ s _=>s
def Xp.cs (x:Xp):List AV:=x.enc.map .iv
def Xp.av (x:Xp):AV:=.agg x.cs
theorem Xp.fk (x:Xp):x.enc.all notNil=true:=by cases x;simp[Xp.enc,notNil]
theorem Xp.c8 (x:Xp) (w:Bool):M.aG (cE w) x.cs = .ret x.cs:=nP w x.enc x.fk
theorem Xp.sM (x:Xp) (w:Bool):M.aG (fz w 8) x.cs = .ret x.enc:=zo w x.enc x.fk
theorem Xp.cI (x:Xp) (s:Nat):fV s x.cs = .ret x.cs:=mM x.enc s x.fk
theorem Xp.bR (x:Xp):x.cs.length=7:=by cases x;rfl
theorem Xp.B3 (x:Xp):x.cs.take 7=x.cs:=by cases x;rfl
theorem Xp.iR (x:Xp):(x.cs.drop 6).take 1=[.iv (.sl 7 (x.sub.map Xp.enc))]:=by cases x;simp[Xp.cs,Xp.enc,Xp.sub,Xp.cJ]
theorem Xp.T1 (x:Xp):(x.cs.drop 2).take 4=[.bI x.set.a,.iv (.sl 2 (x.set.i.map bM)),.bI x.set.c,.iv (.sl 1 (x.set.s.map st1))]:=by cases x;rfl
theorem Xp.cT (x:Xp) (n0:Nat) (h:Hp):x.cs.map (nrm n0 h 8)=x.cs:=pj n0 h x.enc
theorem Xp.zu (x:Xp):(x.enc.take 7).map AV.iv=x.cs:=by cases x;rfl
theorem Xp.mq (x:Xp):(x.enc.map AV.iv).take 7=x.cs:=by cases x;rfl
theorem Xp.kR (x:Xp):x.enc.length=7:=by cases x;rfl
inductive Xp.ok:Xp->Prop
 |mk {k a:Int} {s:S} {sub:List Xp} (hk:dE k) (ha:dE a) (hs:s.ok) (hl:sub.length<=maxLen) (h:∀x ∈ sub,Xp.ok x):Xp.ok (.mk k a s sub)
mutual
def Xp.deep:Int->Xp->Int
 |d,.mk _ _ _ sub=>if d > 20 then 20 else if 20<Xp.fZ (d+1) 100 sub 0+1 then 20 else Xp.fZ (d+1) 100 sub 0+1
def Xp.fZ:Int->Nat->List Xp->Int->Int
 |_,_,[],n=>n
 |_,0,_::_,n=>n
 |d,k+1,x::l,n=>Xp.fZ d k l (if Xp.deep d x > n then Xp.deep d x else n)
end
mutual
theorem Xp.HH:∀(x:Xp) (d:Int),1<=x.deep d/\x.deep d<=20
 |.mk _ _ _ sub,d=>by
  unfold Xp.deep;split
  ·omega
  ·have:=Xp.zw sub (d+1) 100 0 (by omega) (by omega);split<;>omega
theorem Xp.zw:∀(l:List Xp) (d:Int) (k:Nat) (n:Int),0<=n->n<=20->0<=Xp.fZ d k l n/\Xp.fZ d k l n<=20
 |[],d,k,n,h,h'=>by unfold Xp.fZ;omega
 |x::l,d,0,n,h,h'=>by unfold Xp.fZ;omega
 |x::l,d,k+1,n,h,h'=>by
  have h1:=Xp.HH x d;unfold Xp.fZ;split
  ·exact Xp.zw l d k _ (by omega) (by omega)
  ·exact Xp.zw l d k _ (by omega) (by omega)
end
mutual
def Xp.dk:Xp->Bool
 |.mk _ _ s sub=>oA s&&Xp.AW sub
def Xp.AW:List Xp->Bool
 |[]=>true
 |x::l=>x.dk&&Xp.AW l
end
theorem Xp.CL:∀l:List Xp,Xp.AW l=l.all Xp.dk
 |[]=>by unfold Xp.AW;rfl
 |x::l=>by unfold Xp.AW;simp[Xp.CL l]
mutual
def Xp.count:Int->Xp->Int
 |d,.mk _ _ _ sub=>if d > 20 then 100 else if 100<Xp.counts (d+1) sub 1 then 100 else Xp.counts (d+1) sub 1
def Xp.counts:Int->List Xp->Int->Int
 |_,[],n=>n
 |d,x::l,n=>if n<100 then Xp.counts d l (n+Xp.count d x) else n
end
mutual
theorem Xp.Fw:∀(x:Xp) (d:Int),1<=x.count d/\x.count d<=100
 |.mk _ _ _ sub,d=>by
  unfold Xp.count;split
  ·omega
  ·have:=Xp.CM sub (d+1) 1 (by omega);split<;>omega
theorem Xp.CM:∀(l:List Xp) (d n:Int),1<=n->n<=Xp.counts d l n
 |[],d,n,_=>by unfold Xp.counts;omega
 |x::l,d,n,hn=>by
  have h1:=Xp.Fw x d;unfold Xp.counts;split
  ·have:=Xp.CM l d (n+x.count d) (by omega);omega
  ·omega
end
section
variable {prog:Nat->Option aA}
theorem Xp.GL {d n:Int} (h:¬n<100):∀l:List Xp,Xp.counts d l n=n
 |[]=>by unfold Xp.counts;rfl
 |x::l=>by unfold Xp.counts;rw[if_neg h]
theorem HI (h:prog 169=some vU) {x:Xp} (hx:x.ok):∀d:Int,0<=d->d<=21->a8 prog 169 [x.av,.nI d] (.nI (x.count d)):=by
 induction hx with
 |@mk k a s sub _ _ _ hl _ ih=>
  intro d P4 hd;generalize hX:Xp.mk k a s sub=X;have eK:X.sub=sub:=by rw[<-hX];rfl
  refine a8.of h rfl rfl (au (by simp[Xp.av,Xp.cI];rfl) ?_);refine aj ?_;refine af (au (by simp;rfl) ?_);by_cases rk:20<d
  ·refine ag (t:=true) (by simp[ev,ao.get,rk]) ?_;simp only[if_true];refine aj ?_;refine ax ?_;have:X.count d=100:=by rw[<-hX];unfold Xp.count;rw[if_pos rk]
   rw[this];rfl
  ·refine ag (t:=false) (by simp[ev,ao.get,rk]) ?_;simp only[Bool.false_eq_true,if_false];refine ak (af (aj ?_));refine aq ?_;have zx:X.count d=if 100<Xp.counts (d+1) sub 1 then 100 else Xp.counts (d+1) sub 1:=by rw[<-hX];unfold Xp.count;rw[if_neg rk]
   refine b7 (λm s1=>∃(i:Nat) (n:Int),i+m=sub.length/\1<=n/\n<200/\Xp.counts (d+1) (sub.drop i) n=Xp.counts (d+1) sub 1/\
    s1=⟨[(1,.nI d),(2,.ref 1000 0 0 0),(5,.nI n),(6,.nI i)],[(1000,.cells X.cs)],1384⟩) (m:=sub.length) ⟨0,1,by omega,by omega,by omega,rfl,rfl⟩ ?_
   rintro m s1 ⟨i,n,oC,P5,r9,hc,rfl⟩;refine af (af ?_);refine aI (K:=0) (s':=⟨[(1,.nI d),(2,.ref 1000 0 0 0),(5,.nI n),(6,.nI i),(17,.bI (decide (i<sub.length)&&decide (n<100)))],[(1000,.cells X.cs)],1960⟩) (λn' _=>by
    have bC:decide ((i:Int)<(sub.length:Int))=decide (i<sub.length):=decide_eq_decide.2 (by omega);cases hb:decide (i<sub.length)<;>simp[X.iR,eK,hb]) ?_
   by_cases nQ:i<sub.length/\n<100
   ·refine ag (t:=true) (by simp[ev,ao.get,nQ.1,nQ.2]) ?_;simp only[if_true];refine ak (af (aq ?_));have hx:sub[i]?=some sub[i]:=List.getElem?_eq_getElem nQ.1;obtain⟨K,hK⟩:=ih sub[i] (List.getElem_mem _) (d+1) (by omega) (by omega);have eV:=Xp.Fw sub[i] (d+1);have hw:IntKind.i64.wrap (d+1)=d+1:=IntWalk.i64_in _ (by omega);have tX:IntKind.i64.wrap (n+sub[i].count (d+1))=n+sub[i].count (d+1):=IntWalk.i64_in _ (by omega);refine aI (K:=K) (λn' fD=>by
     have dm:=hK n' fD;simp only[Xp.av]at dm;simp[X.iR,eK,hx,Xp.mq,Xp.kR,Xp.c8,hw,tX,dm];rfl) ?_
    refine aD (by simp[bw nQ.1 hl];rfl) ?_;refine⟨m - 1,by omega,i+1,n+sub[i].count (d+1),by omega,by omega,by omega,?_,by simp[again,an,get,cC,zt,bG,Xp.cT]⟩;rw[<-hc,List.drop_eq_getElem_cons nQ.1]
    conv=>rhs;unfold Xp.counts
    rw[if_pos nQ.2]
   ·have wG:(decide (i<sub.length)&&decide (n<100))=false:=by simpa using λh=>Int.not_lt.1 λh'=>nQ ⟨h,h'⟩
    refine ag (t:=false) (by simp[ev,ao.get,wG]) ?_;simp only[Bool.false_eq_true,if_false];refine aO ?_;simp only[Ex.then,Ex.inBlock,if_true];have N4:Xp.counts (d+1) sub 1=n:=by
     rw[<-hc];by_cases hi:i<sub.length
     ·exact Xp.GL (λh=>nQ ⟨hi,h⟩) _
     ·rw[List.drop_eq_nil_of_le (by omega)];unfold Xp.counts;rfl
    refine af ?_;refine aI (K:=0) (s':=⟨[(4,.nI (X.count d))],[(1000,.cells X.cs)],2152⟩) (λn' _=>by
     rw[zx,N4];by_cases hb:100<n<;>simp[sm,hb]) ?_
    exact ax rfl
theorem Xp.JQ (d:Int) (n:Int):∀l:List Xp,Xp.fZ d 0 l n=n
 |[]=>by unfold Xp.fZ;rfl
 |x::l=>by unfold Xp.fZ;rfl
theorem Me (h:prog 170=some vV) {x:Xp} (hx:x.ok):∀d:Int,0<=d->d<=21->a8 prog 170 [x.av,.nI d] (.nI (x.deep d)):=by
 induction hx with
 |@mk k a s sub _ _ _ hl _ ih=>
  intro d P4 hd;generalize hX:Xp.mk k a s sub=X;have eK:X.sub=sub:=by rw[<-hX];rfl
  refine a8.of h rfl rfl (au (by simp[Xp.av,Xp.cI];rfl) ?_);refine aj ?_;refine af (au (by simp;rfl) ?_);by_cases rk:20<d
  ·refine ag (t:=true) (by simp[ev,ao.get,rk]) ?_;simp only[if_true];refine aj ?_;refine ax ?_;have:X.deep d=20:=by rw[<-hX];unfold Xp.deep;rw[if_pos rk]
   rw[this];rfl
  ·refine ag (t:=false) (by simp[ev,ao.get,rk]) ?_;simp only[Bool.false_eq_true,if_false];refine ak (af (aj ?_));refine aq ?_;have zx:X.deep d=if 20<Xp.fZ (d+1) 100 sub 0+1 then 20 else Xp.fZ (d+1) 100 sub 0+1:=by rw[<-hX];unfold Xp.deep;rw[if_neg rk]
   refine b7 (λm s1=>∃(i:Nat) (n:Int),i+m=sub.length/\i<=100/\0<=n/\n<=20/\Xp.fZ (d+1) (100 - i) (sub.drop i) n=Xp.fZ (d+1) 100 sub 0/\
    s1=⟨[(1,.nI d),(2,.ref 1000 0 0 0),(5,.nI n),(6,.nI i)],[(1000,.cells X.cs)],1384⟩) (m:=sub.length) ⟨0,0,by omega,by omega,by omega,by omega,rfl,rfl⟩ ?_
   rintro m s1 ⟨i,n,oC,abk,P5,r9,hc,rfl⟩;refine af (af ?_);refine aI (K:=0) (s':=⟨[(1,.nI d),(2,.ref 1000 0 0 0),(5,.nI n),(6,.nI i),(17,.bI (decide (i<sub.length)&&decide (i<100)))],[(1000,.cells X.cs)],1960⟩) (λn' _=>by
    have bC:decide ((i:Int)<(sub.length:Int))=decide (i<sub.length):=decide_eq_decide.2 (by omega);have JR:decide ((i:Int)<100)=decide (i<100):=decide_eq_decide.2 (by omega);cases hb:decide (i<sub.length)<;>simp[X.iR,eK,JR,hb]) ?_
   by_cases nQ:i<sub.length/\i<100
   ·refine ag (t:=true) (by simp[ev,ao.get,nQ.1,nQ.2]) ?_;simp only[if_true];refine ak (af (aq ?_));have hx:sub[i]?=some sub[i]:=List.getElem?_eq_getElem nQ.1;obtain⟨K,hK⟩:=ih sub[i] (List.getElem_mem _) (d+1) (by omega) (by omega);have eV:=Xp.HH sub[i] (d+1);have hw:IntKind.i64.wrap (d+1)=d+1:=IntWalk.i64_in _ (by omega);refine aI (K:=K) (λn' fD=>by
     have dm:=hK n' fD;simp only[Xp.av]at dm;simp[X.iR,eK,hx,Xp.mq,Xp.kR,Xp.c8,hw,dm,qH];rfl) ?_
    refine aD (by simp[bw nQ.1 hl];rfl) ?_;refine⟨m - 1,by omega,i+1,if sub[i].deep (d+1) > n then sub[i].deep (d+1) else n,by omega,by omega,by split<;>omega,by split<;>omega,?_,by simp[again,an,get,cC,zt,bG,Xp.cT]⟩;rw[<-hc,List.drop_eq_getElem_cons nQ.1,show 100 - i=(100 - (i+1))+1 by omega]
    conv=>rhs;unfold Xp.fZ
   ·have wG:(decide (i<sub.length)&&decide (i<100))=false:=by simpa using λh=>Nat.not_lt.1 λh'=>nQ ⟨h,h'⟩
    refine ag (t:=false) (by simp[ev,ao.get,wG]) ?_;simp only[Bool.false_eq_true,if_false];refine aO ?_;simp only[Ex.then,Ex.inBlock,if_true];have N4:Xp.fZ (d+1) 100 sub 0=n:=by
     rw[<-hc];by_cases hi:i<sub.length
     ·rw[show 100 - i=0 by omega];exact Xp.JQ _ _ _
     ·rw[List.drop_eq_nil_of_le (by omega)];unfold Xp.fZ;rfl
    refine af ?_;have T2:IntKind.i64.wrap (n+1)=n+1:=IntWalk.i64_in _ (by omega);refine aI (K:=0) (s':=⟨[(4,.nI (X.deep d))],[(1000,.cells X.cs)],2216⟩) (λn' _=>by
     rw[zx,N4];by_cases hb:20<n+1<;>simp[sm,hb,T2]) ?_
    exact ax rfl
theorem T3 (Fx:prog 27=some GY) (h:prog 204=some DT) {x:Xp} (hx:x.ok):a8 prog 204 [x.av] (.bI x.dk):=by
 induction hx with
 |@mk k a s sub _ _ _ hl _ ih=>
  generalize hX:Xp.mk k a s sub=X;have eK:X.sub=sub:=by rw[<-hX];rfl
  have Nr:X.set=s:=by rw[<-hX];rfl
  have mi:X.dk=(oA s&&sub.all Xp.dk):=by rw[<-hX];unfold Xp.dk;rw[Xp.CL]
  refine a8.of h rfl rfl (au (by simp[Xp.av,Xp.cI];rfl) ?_);refine af (af ?_);obtain⟨K,hK⟩:=TK Fx [s] (by simp[maxLen]);refine aI (K:=K) (λn' fD=>by
   have dm:=hK n' fD;simp only[dk,List.map_cons,List.map_nil,S.enc,List.all_cons,List.all_nil,Bool.and_true]at dm;simp[X.T1,Nr,bO,dm];rfl) ?_
  cases tz:oA s with
  |false=>
   refine ag (t:=true) rfl (aj ?_);refine ax ?_;rw[mi,tz];rfl
  |true=>
   refine ag (t:=false) rfl (ak (af (aj ?_)));refine aq (bQ sub.length (λi=>⟨[(1,.ref 1000 0 0 0),(3,.nI i)],[(1000,.cells X.cs),(1256,.buf 0 4 [[.bool s.a,.sl 2 (s.i.map bM),.bool s.c,.sl 1 (s.s.map st1)]])],1512⟩)
    (λi=>(sub.take i).all Xp.dk=true) rfl (by simp) ?_ ?_)
   ·intro i hi hg;have bC:decide ((i:Int)<(sub.length:Int))=true:=decide_eq_true (by omega);refine af (af ?_);refine aI (K:=0) (λn' _=>by
     simp[X.iR,eK,hi];rfl) ?_
    refine ag (t:=true) rfl (ak (af (aq (af ?_))));have hx:sub[i]?=some sub[i]:=List.getElem?_eq_getElem hi;obtain⟨K,hK⟩:=ih sub[i] (List.getElem_mem _);refine aI (K:=K) (λn' fD=>by
     have dm:=hK n' fD;simp only[Xp.av]at dm;simp[X.iR,eK,hx,Xp.mq,Xp.kR,Xp.c8,dm];rfl) ?_
    cases Mf:sub[i].dk with
    |false=>
     refine ag (t:=true) rfl (aj ?_);refine ax ?_;rw[mi,tz,all_false hx Mf];rfl
    |true=>
     refine ag (t:=false) rfl (ak ?_);refine aD (by simp[bw hi hl];rfl) ?_;have hr:nrm 1512 [(1000,.cells X.cs),(1256,.buf 0 4 [[.bool s.a,.sl 2 (s.i.map bM),.bool s.c,.sl 1 (s.s.map st1)]])] 8 (.ref 1000 0 0 0) = .ref 1000 0 0 0:=by simp[nrm,ao.get]
     refine⟨by simp[again,an,get,cC,hr,bG,Xp.cT],?_⟩;rw[gY hx,hg,Mf];rfl
   ·intro hg;refine af (af ?_);refine aI (K:=0) (λn' _=>by
     simp[X.iR,eK];rfl) ?_
    refine ag (t:=false) rfl (aO ?_);simp only[Ex.then,Ex.inBlock,if_true];refine aj ?_;refine ax ?_;rw[List.take_length]at hg;rw[mi,tz,hg];rfl
end
section
variable {prog:Nat->Option aA}
theorem Ev.run {f:Nat} {args:List AV} {p:AV×Hp} (h:Ev prog f args [] p) (hp:p.1 = .bI true):∃n dG,aZ prog n f args []=some (.bI true,dG):=by
 obtain⟨K,h⟩:=h;exact⟨K,p.2,by rw[h K (Nat.le_refl _),<-hp]⟩
end
end ao
namespace ao
open Go
section
variable {α:Type} {lt:α->α->Bool}
def lK (lt:α->α->Bool) (x:α):List α->List α
 |[]=>[x]
 |y::r=>if lt x y then y::lK lt x r else x::y::r
theorem Fy (x:α):∀(v rest:List α),sink lt v.length (v.reverse++x::rest)=(lK lt x v).reverse++rest
 |[],rest=>rfl
 |y::v,rest=>by
  have h1:(v.reverse++y::x::rest)[v.length+1]?=some x:=by
   simp_all
  have h2:(v.reverse++y::x::rest)[v.length]?=some y:=by
   simp_all
  rw[show(y::v).reverse++x::rest=v.reverse++y::x::rest by simp,List.length_cons,sink,h1,h2];simp only[lK];split
  ·have h3:((v.reverse++y::x::rest).set (v.length+1) y).set v.length x=v.reverse++x::y::rest:=by
    rw[List.set_append_right _ _ (by simp),List.set_append_right _ _ (by simp)];simp
   rw[h3,Fy x v (y::rest)];simp
  ·simp
theorem AX (l:List α):∀k,k<l.length->sinks lt l k=((l.take (k+1)).foldl (λv x=>lK lt x v) []).reverse++l.drop (k+1)
 |0,h=>by
  match l,h with
  |x::r,_=>simp[sinks,lK]
 |k+1,h=>by
  rw[sinks,AX l k (by omega)];obtain⟨x,hx⟩:∃x,l[k+1]?=some x:=⟨_,List.getElem?_eq_getElem h⟩;rw[drop_cons hx,List.take_add_one (i:=k+1),hx];generalize hv:(l.take (k+1)).foldl (λv x=>lK lt x v) []=v;have hl:v.length=k+1:=by
   have hlen:∀(m v:List α),(m.foldl (λv x=>lK lt x v) v).length=v.length+m.length:=by
    intro m
    induction m with
    |nil=>intro v;rfl
    |cons a m ih=>
     intro v;rw[List.foldl_cons,ih];have:∀v:List α,(lK lt a v).length=v.length+1:=by
      intro v
      induction v with
      |nil=>rfl
      |cons b v HJ=>unfold lK;split<;>simp[HJ]
     grind
   grind
  have:=Fy (lt:=lt) x v (l.drop (k+1+1))
  simp_all
theorem AY (l:List α):fM lt l=(l.foldl (λv x=>lK lt x v) []).reverse:=by
 by_cases h:l.length=0
 ·obtain rfl:=List.eq_nil_of_length_eq_zero h;rfl
 ·rw[fM,AX l (l.length - 1) (by omega),show l.length - 1+1=l.length by omega,List.take_length,List.drop_length,List.append_nil]
theorem zy {x a:α}:∀{v:List α},a ∈ lK lt x v↔a=x\/a ∈ v
 |[]=>by simp[lK]
 |y::v=>by
  unfold lK;split
  ·simp only[List.mem_cons,zy];constructor
   ·rintro(h | h | h)<;>simp[h]
   ·rintro(h | h | h)<;>simp[h]
  ·simp only[List.mem_cons]
theorem CN {a:α}:∀(l v:List α),a ∈ l.foldl (λv x=>lK lt x v) v↔a ∈ l\/a ∈ v
 |[],v=>by simp
 |x::l,v=>by
  rw[List.foldl_cons,CN l,zy,List.mem_cons]
  grind
theorem w9 {a:α} {l:List α}:a ∈ fM lt l↔a ∈ l:=by rw[AY,List.mem_reverse,CN];simp
structure JS (lt:α->α->Bool):Prop where
 asymm:∀a b,lt a b=true->lt b a=false
 ntrans:∀a b c,lt a b=false->lt b c=false->lt a c=false
theorem CO (W:JS lt) (x:α):∀{v:List α},v.Pairwise (λa b=>lt a b=false)->(lK lt x v).Pairwise λa b=>lt a b=false
 |[],_=>by simp[lK]
 |y::v,h=>by
  rw[List.pairwise_cons]at h;unfold lK;split
  ·rename_i CC;rw[List.pairwise_cons];refine⟨λb hb=>?_,CO W x h.2⟩;rcases zy.1 hb with rfl | hb
   ·exact W.asymm _ _ CC
   ·exact h.1 b hb
  ·rename_i CC;have CC:lt x y=false:=by simpa using CC
   rw[List.pairwise_cons];refine⟨λb hb=>?_,List.pairwise_cons.2 h⟩;rcases List.mem_cons.1 hb with rfl | hb
   ·exact CC
   ·exact W.ntrans _ _ _ CC (h.1 b hb)
theorem CP (W:JS lt) (l:List α):(fM lt l).Pairwise λa b=>lt b a=false:=by
 rw[AY,List.pairwise_reverse];have:∀(l v:List α),v.Pairwise (λa b=>lt a b=false)->(l.foldl (λv x=>lK lt x v) v).Pairwise λa b=>lt a b=false:=by
  intro l
  induction l with
  |nil=>exact λv h=>h
  |cons x l ih=>exact λv h=>ih _ (CO W x h)
 simp_all
end
def fK (l:List (Int×Int)) (n:Int):Prop:=∃p ∈ l,p.1<=n/\n<=p.2
def normal (l:List (Int×Int)):Prop:=(∀p ∈ l,p.1<=p.2)/\l.Pairwise λp q=>p.2+1<q.1
theorem dO {p:Int×Int} {l:List (Int×Int)} {n:Int}:fK (p::l) n↔(p.1<=n/\n<=p.2)\/fK l n:=by
 simp[fK]
theorem oD {a b:List (Int×Int)} {n:Int}:fK (a++b) n↔fK a n\/fK b n:=by
 simp only[fK,List.mem_append];constructor
 ·rintro⟨p,h | h,hp⟩
  ·exact .inl ⟨p,h,hp⟩
  ·exact .inr ⟨p,h,hp⟩
 ·rintro(⟨p,h,hp⟩|⟨p,h,hp⟩)
  ·exact⟨p,.inl h,hp⟩
  ·exact⟨p,.inr h,hp⟩
theorem lH {n:Int}:¬fK [] n:=by simp[fK]
theorem lI {p:Int×Int} {l:List (Int×Int)} (h:normal (p::l)):normal l:=⟨λq hq=>h.1 q (List.mem_cons_of_mem _ hq),(List.pairwise_cons.1 h.2).2⟩
theorem iS {p:Int×Int} {l:List (Int×Int)} (h:normal (p::l)) {n:Int} (hn:fK l n):p.2+1<n:=by
 obtain⟨q,hq,h1,h2⟩:=hn;have:=(List.pairwise_cons.1 h.2).1 q hq;omega
theorem oE:∀{l t:List (Int×Int)},normal l->normal t->(∀n,fK l n↔fK t n)->l=t
 |[],[],_,_,_=>rfl
 |[],q::t,_,ht,h=>by
  have:=ht.1 q (List.mem_cons_self ..);exact(lH ((h q.1).2 (dO.2 (.inl ⟨Int.le_refl _,this⟩)))).elim
 |p::l,[],hl,_,h=>by
  have:=hl.1 p (List.mem_cons_self ..);exact(lH ((h p.1).1 (dO.2 (.inl ⟨Int.le_refl _,this⟩)))).elim
 |p::l,q::t,hl,ht,h=>by
  have hp:=hl.1 p (List.mem_cons_self ..);have hq:=ht.1 q (List.mem_cons_self ..);have lo1:q.1<=p.1:=by
   rcases dO.1 ((h p.1).1 (dO.2 (.inl ⟨Int.le_refl _,hp⟩)))with h1 | h1
   ·exact h1.1
   ·have:=iS ht h1;omega
  have lo2:p.1<=q.1:=by
   rcases dO.1 ((h q.1).2 (dO.2 (.inl ⟨Int.le_refl _,hq⟩)))with h1 | h1
   ·exact h1.1
   ·have:=iS hl h1;omega
  have rY:q.2<=p.2:=by
   by_cases bC:p.2<q.2
   ·rcases dO.1 ((h (p.2+1)).2 (dO.2 (.inl ⟨by omega,by omega⟩)))with h1 | h1
    ·omega
    ·have:=iS hl h1;omega
   ·omega
  have Fu:p.2<=q.2:=by
   by_cases bC:q.2<p.2
   ·rcases dO.1 ((h (q.2+1)).1 (dO.2 (.inl ⟨by omega,by omega⟩)))with h1 | h1
    ·omega
    ·have:=iS ht h1;omega
   ·omega
  have e:p=q:=Prod.ext (by omega) (by omega);subst e;rw[oE (lI hl) (lI ht) λn=>?_];constructor
  ·intro hn;have:=iS hl hn;rcases dO.1 ((h n).1 (dO.2 (.inr hn)))with h1 | h1
   ·omega
   ·exact h1
  ·intro hn;have:=iS ht hn;rcases dO.1 ((h n).2 (dO.2 (.inr hn)))with h1 | h1
   ·omega
   ·exact h1
def dA (l:List (Int×Int)):Prop:=∀p ∈ l,dE p.1/\dE p.2
theorem JT (o:List (Int×Int)) (p r:Int×Int):rj (o++[p]) r=(p.2==9223372036854775807||decide (r.1<=IntKind.wrap .i64 (p.2+1))):=by
 unfold rj;rw[List.length_append,List.length_singleton,Nat.add_sub_cancel,List.getElem?_append_right (Nat.le_refl _)];simp
theorem N5 (o:List (Int×Int)) (p r:Int×Int):Fv (o++[p]) r=o++[(p.1,if r.2 > p.2 then r.2 else p.2)]:=by
 unfold Fv;rw[List.length_append,List.length_singleton,Nat.add_sub_cancel,List.getElem?_append_right (Nat.le_refl _),Nat.sub_self];simp only[List.getElem?_cons_zero];rw[List.set_append_right _ _ (Nat.le_refl _)];simp
theorem Mg {o:List (Int×Int)} {r:Int×Int} (ho:normal o) (gq:dA o) (hr:dE r.1/\dE r.2) (oF:∀p ∈ o,p.1<=r.1) :
  normal (js o r)/\dA (js o r)/\(∀p ∈ js o r,p.1<=r.1)/\∀n,fK (js o r) n↔fK o n\/(r.1<=n/\n<=r.2):=by
 unfold js;split
 ·rename_i hd;have hd:=of_decide_eq_true hd;exact⟨ho,gq,oF,λn=>⟨.inl,λh=>h.elim id λh=>by omega⟩⟩
 ·rename_i hd;have hd:¬r.2<r.1:=λh=>hd (decide_eq_true h)
  rcases List.eq_nil_or_concat o with rfl | ⟨o',p,rfl⟩
  ·rw[if_neg (by simp[rj])];refine⟨⟨λq hq=>?_,by simp⟩,λq hq=>?_,λq hq=>?_,λn=>?_⟩
   ·simp at hq;subst hq;omega
   ·simp at hq;subst hq;exact hr
   ·simp at hq;subst hq;omega
   ·simp[fK]
  ·rw[List.concat_eq_append]at *;rw[JT,N5];have hp:=ho.1 p (by simp);have ZO:=gq p (by simp);have ZP:=oF p (by simp);have mX:=List.pairwise_append.1 ho.2;unfold dE at ZO hr;split
   ·rename_i hj;have hj:p.2=9223372036854775807\/r.1<=p.2+1:=by
     simp only[Bool.or_eq_true,beq_iff_eq,decide_eq_true_eq]at hj;rcases hj with hj | hj
     ·exact .inl hj
     ·by_cases hm:p.2=9223372036854775807
      ·exact .inl hm
      ·rw[IntWalk.i64_in _ (by omega)]at hj;exact .inr hj
    refine⟨⟨λq hq=>?_,?_⟩,λq hq=>?_,λq hq=>?_,λn=>?_⟩
    ·rcases List.mem_append.1 hq with hq | hq
     ·exact ho.1 q (by simp[hq])
     ·simp at hq;subst hq;simp only;split<;>omega
    ·refine List.pairwise_append.2 ⟨mX.1,by simp,λa ha b hb=>?_⟩;simp at hb;subst hb;exact mX.2.2 a ha p (by simp)
    ·rcases List.mem_append.1 hq with hq | hq
     ·exact gq q (by simp[hq])
     ·simp at hq;subst hq;unfold dE;simp only;split<;>omega
    ·rcases List.mem_append.1 hq with hq | hq
     ·exact oF q (by simp[hq])
     ·simp at hq;subst hq;exact ZP
    ·rw[oD,oD,dO,dO];simp only[lH,or_false];constructor
     ·rintro(h | h)
      ·exact .inl (.inl h)
      ·split at h
       ·by_cases hn:n<=p.2
        ·exact .inl (.inr ⟨h.1,hn⟩)
        ·exact .inr ⟨by omega,h.2⟩
       ·exact .inl (.inr h)
     ·rintro((h | h) | h)
      ·exact .inl h
      ·refine .inr ?_;split<;>omega
      ·refine .inr ?_;split<;>omega
   ·rename_i hj;have hj:p.2+1<r.1:=by
     simp only[Bool.or_eq_true,beq_iff_eq,decide_eq_true_eq,not_or]at hj;have h1:=hj.1;have h2:=hj.2;rw[IntWalk.i64_in _ (by omega)]at h2;omega
    have dt:∀a ∈ o'++[p],a.2+1<r.1:=by
     intro a ha;rcases List.mem_append.1 ha with ha | ha
     ·have h1:=mX.2.2 a ha p (by simp);omega
     ·simp at ha;subst ha;exact hj
    refine⟨⟨λq hq=>?_,?_⟩,λq hq=>?_,λq hq=>?_,λn=>?_⟩
    ·rcases List.mem_append.1 hq with hq | hq
     ·exact ho.1 q hq
     ·simp at hq;subst hq;omega
    ·refine List.pairwise_append.2 ⟨ho.2,by simp,λa ha b hb=>?_⟩;simp at hb;subst hb;exact dt a ha
    ·rcases List.mem_append.1 hq with hq | hq
     ·exact gq q hq
     ·simp at hq;subst hq;exact hr
    ·rcases List.mem_append.1 hq with hq | hq
     ·exact oF q hq
     ·simp at hq;subst hq;omega
    ·rw[oD,dO];simp only[lH,or_false]
theorem xa:∀(l o:List (Int×Int)),normal o->dA o->dA l->l.Pairwise (λa b=>a.1<=b.1)->(∀p ∈ o,∀r ∈ l,p.1<=r.1)->
  normal (l.foldl js o)/\dA (l.foldl js o)/\∀n,fK (l.foldl js o) n↔fK o n\/fK l n
 |[],o,ho,gq,_,_,_=>⟨ho,gq,λn=>by simp[lH]⟩
 |r::l,o,ho,gq,hl,hs,oF=>by
  obtain⟨h1,h2,h3,h4⟩:=Mg ho gq (hl r (List.mem_cons_self ..)) λp hp=>oF p hp r (List.mem_cons_self ..)
  rw[List.pairwise_cons]at hs;obtain⟨k1,k2,k3⟩:=xa l (js o r) h1 h2 (λp hp=>hl p (List.mem_cons_of_mem _ hp)) hs.2 λp hp q hq=>Int.le_trans (h3 p hp) (hs.1 q hq)
  refine⟨k1,k2,λn=>?_⟩;rw[List.foldl_cons,k3,h4,dO,or_assoc]
theorem WU:JS ku:=by
 constructor
 ·intro a b;unfold ku wZ;simp only[decide_eq_true_eq,decide_eq_false_iff_not];split<;>split<;>(try split)<;>omega
 ·intro a b c;unfold ku wZ;simp only[decide_eq_false_iff_not];split<;>split<;>split<;>(try split)<;>(try split)<;>(try split)<;>omega
theorem CQ {a b:Int×Int} (h:ku b a=false):a.1<=b.1:=by
 unfold ku wZ at h;simp only[decide_eq_false_iff_not]at h;split at h
 ·omega
 ·omega
theorem mr {l:List (Int×Int)} (hl:dA l):normal (iZ l)/\dA (iZ l)/\∀n,fK (iZ l) n↔fK l n:=by
 have hm:dA (fM ku l):=λp hp=>hl p (w9.1 hp)
 obtain⟨h1,h2,h3⟩:=xa (fM ku l) [] ⟨λp hp=>(by cases hp),List.Pairwise.nil⟩ (λp hp=>(by cases hp)) hm ((CP WU l).imp λh=>CQ h) (λp hp=>(by cases hp));refine⟨h1,h2,λn=>?_⟩;unfold iZ;rw[h3];simp[fK,w9]
theorem WV {a b:UInt8}:a<b↔a.toNat<b.toNat:=UInt8.lt_iff_toNat_lt
theorem P6 {a b:UInt8}:a=b↔a.toNat=b.toNat:=UInt8.toNat_inj.symm
theorem B4 {a b:UInt8} {x y:List UInt8}:Op.bytesLess (a::x) (b::y)=true↔a.toNat<b.toNat\/(a.toNat=b.toNat/\Op.bytesLess x y=true):=by
 simp only[Op.bytesLess,Bool.or_eq_true,decide_eq_true_eq,Bool.and_eq_true,beq_iff_eq,WV,P6]
theorem Mh:∀x:List UInt8,¬Op.bytesLess x x=true
 |[]=>by simp[Op.bytesLess]
 |a::x=>by rw[B4];exact λh=>h.elim (Nat.lt_irrefl _) λh=>Mh x h.2
theorem Fz:∀x y z:List UInt8,Op.bytesLess x y=true->Op.bytesLess y z=true->Op.bytesLess x z=true
 |_,[],_,h,_=>by simp[Op.bytesLess]at h
 |_,_::_,[],_,h=>by simp[Op.bytesLess]at h
 |[],_::_,_::_,_,_=>by simp[Op.bytesLess]
 |a::x,b::y,c::z,h,k=>by
  rw[B4]at h k ⊢;rcases h with h | ⟨h,h'⟩<;>rcases k with k | ⟨k,k'⟩
  ·exact .inl (by omega)
  ·exact .inl (by omega)
  ·exact .inl (by omega)
  ·exact .inr ⟨by omega,Fz x y z h' k'⟩
theorem Mi:∀x y:List UInt8,¬Op.bytesLess x y=true->¬Op.bytesLess y x=true->x=y
 |[],[],_,_=>rfl
 |[],_::_,h,_=>by simp[Op.bytesLess]at h
 |_::_,[],_,h=>by simp[Op.bytesLess]at h
 |a::x,b::y,h,k=>by
  rw[B4]at h k;have e:a.toNat=b.toNat:=by omega
  rw[P6.2 e,Mi x y (λh'=>h (.inr ⟨e,h'⟩)) (λh'=>k (.inr ⟨e.symm,h'⟩))]
theorem xb (x:ByteArray):¬fL x x=true:=Mh _
theorem na {x y z:ByteArray} (h:fL x y=true) (k:fL y z=true):fL x z=true:=Fz _ _ _ h k
theorem qg {x y:ByteArray} (h:¬fL x y=true) (k:¬fL y x=true):x=y:=by
 have:=Mi _ _ h k;rw[ByteArray.toList_eq,ByteArray.toList_eq]at this;cases x;cases y;simp only[Array.toList_inj]at this;rw[this]
theorem yy {x y:ByteArray} (h:fL x y=true):¬fL y x=true:=λk=>xb x (na h k)
theorem WW:JS lT:=by
 constructor
 ·intro a b h;exact Bool.eq_false_iff.2 (yy h)
 ·intro a b c h k;have h:=Bool.eq_false_iff.1 h;have k:=Bool.eq_false_iff.1 k;refine Bool.eq_false_iff.2 λtG=>?_
  by_cases Yh:fL b a=true
  ·exact k (na Yh tG)
  ·have:=qg h Yh;subst this;exact k tG
def mv (l:List ByteArray):Prop:=l.Pairwise λa b=>fL a b=true
theorem uW:∀{l t:List ByteArray},mv l->mv t->(∀s,s ∈ l↔s ∈ t)->l=t
 |[],[],_,_,_=>rfl
 |[],q::t,_,_,h=>by have:=(h q).2 (List.mem_cons_self ..);cases this
 |p::l,[],_,_,h=>by have:=(h p).1 (List.mem_cons_self ..);cases this
 |p::l,q::t,hl,ht,h=>by
  have kU:=List.pairwise_cons.1 hl;have fU:=List.pairwise_cons.1 ht;have e:p=q:=by
   rcases List.mem_cons.1 ((h p).1 (List.mem_cons_self ..))with h1 | h1
   ·exact h1
   ·rcases List.mem_cons.1 ((h q).2 (List.mem_cons_self ..))with h2 | h2
    ·exact h2.symm
    ·exact(yy (fU.1 p h1) (kU.1 q h2)).elim
  subst e;rw[uW kU.2 fU.2 λs=>?_];constructor
  ·intro hs;rcases List.mem_cons.1 ((h s).1 (List.mem_cons_of_mem _ hs))with h1 | h1
   ·subst h1;exact(xb _ (kU.1 _ hs)).elim
   ·exact h1
  ·intro hs;rcases List.mem_cons.1 ((h s).2 (List.mem_cons_of_mem _ hs))with h1 | h1
   ·subst h1;exact(xb _ (fU.1 _ hs)).elim
   ·exact h1
theorem AZ {l:List ByteArray} (hs:l.Pairwise λa b=>lT b a=false):∀j,j<=l.length->mv (iz l j)/\∀s,s ∈ iz l j↔s ∈ l.take j
 |0,_=>⟨List.Pairwise.nil,λs=>by simp[iz]⟩
 |j+1,hj=>by
  obtain⟨h1,h2⟩:=AZ hs j (by omega);obtain⟨x,hx⟩:∃x,l[j]?=some x:=⟨_,List.getElem?_eq_getElem hj⟩;have Yi:=(List.getElem?_eq_some_iff.1 hx).2;rw[iz,hx,List.take_add_one,hx];simp only[Option.toList_some];have ez:=List.pairwise_iff_getElem.1 hs;split
  ·rename_i hc;refine⟨h1,λs=>?_⟩;rw[h2,List.mem_append,List.mem_singleton];refine⟨.inl,λh=>h.elim id λh=>?_⟩;subst h;have:=List.getElem?_eq_some_iff.1 hc.2;obtain⟨bC,he⟩:=this;rw[<-he];exact List.mem_take_iff_getElem.2 ⟨j - 1,by omega,rfl⟩
  ·rename_i hc;refine⟨List.pairwise_append.2 ⟨h1,by simp,λa ha b hb=>?_⟩,λs=>?_⟩
   ·rw[List.mem_singleton]at hb;subst hb;obtain⟨k,hk,T4⟩:=List.mem_take_iff_getElem.1 ((h2 a).1 ha);have hkj:k<j:=by omega
    have g1:=ez k j (by omega) hj hkj;rw[T4,Yi]at g1;have g1:=Bool.eq_false_iff.1 g1;refine Classical.byContradiction λtY=>?_
    have e:a=b:=qg tY g1;subst e;refine hc ⟨by omega,?_⟩;rw[List.getElem?_eq_getElem (by omega),Option.some.injEq];by_cases oV:k=j - 1
    ·subst oV;exact T4
    ·have g2:=Bool.eq_false_iff.1 (ez k (j - 1) (by omega) (by omega) (by omega));have g3:=Bool.eq_false_iff.1 (ez (j - 1) j (by omega) hj (by omega));rw[T4]at g2;rw[Yi]at g3;exact qg g2 g3
   ·rw[List.mem_append,List.mem_append,h2]
theorem FA {l:List ByteArray} (hs:l.Pairwise λa b=>lT b a=false):mv (comp l)/\∀s,s ∈ comp l↔s ∈ l:=by
 have:=AZ hs l.length (Nat.le_refl _);rw[List.take_length]at this;exact this
theorem sR (a b:List ByteArray):mv (pJ a b)/\∀s,s ∈ pJ a b↔s ∈ a\/s ∈ b:=by
 obtain⟨h1,h2⟩:=FA (CP WW (a++b));refine⟨h1,λs=>?_⟩;unfold pJ;rw[h2,w9,List.mem_append]
theorem gf {l:List ByteArray} {t:ByteArray}:dN l t=true↔t ∈ l:=by rw[dN,decide_eq_true_eq,yq]
theorem nR {a b:List ByteArray} {i:Bool} {s:ByteArray}:s ∈ kG a b i↔s ∈ a/\(dN b s==i)=true:=by
 unfold kG;rw[List.mem_filter]
theorem uX {a b:List ByteArray} {i:Bool} (h:mv a):mv (kG a b i):=List.Pairwise.filter _ h
def eA (x:S) (t:ByteArray):Bool:=dN x.s t != x.c
theorem FB {x y:S} (hx:mv x.s) (hy:mv y.s):mv (qO x y):=by
 unfold qO;split
 ·exact uX hx
 ·split
  ·exact uX hx
  ·split
   ·exact uX hy
   ·exact(sR _ _).1
theorem A0 (x y:S) (t:ByteArray):eA (kQ x y) t=(eA x t||eA y t):=by
 have e:dN (qO x y) t=if x.c&&y.c then dN x.s t&&dN y.s t else if x.c then dN x.s t&&!dN y.s t else if y.c then dN y.s t&&!dN x.s t else dN x.s t||dN y.s t:=by
  rw[Bool.eq_iff_iff,gf];unfold qO;split
  ·rw[nR,Bool.and_eq_true,gf];simp
  ·split
   ·rw[nR,Bool.and_eq_true,gf];simp
   ·split
    ·rw[nR,Bool.and_eq_true,gf];simp
    ·rw[(sR _ _).2,Bool.or_eq_true,gf,gf]
 unfold eA;rw[show(kQ x y).s=qO x y from rfl,show(kQ x y).c=(x.c||y.c) from rfl,e];cases x.c<;>cases y.c<;>cases dN x.s t<;>cases dN y.s t<;>rfl
theorem A1:∀{l:List (Int×Int)},(∀(i:Nat) p,l[i]?=some p->p.1<=p.2)->(∀(i:Nat) p r,l[i]?=some p->l[i+1]?=some r->p.2+1<r.1)->normal l
 |[],_,_=>⟨λp hp=>(by cases hp),List.Pairwise.nil⟩
 |p::l,h1,h2=>by
  have ih:normal l:=A1 (λi q h=>h1 (i+1) q (by simpa using h)) λi q r h h'=>h2 (i+1) q r (by simpa using h) (by simpa using h')
  refine⟨λq hq=>?_,List.pairwise_cons.2 ⟨λq hq=>?_,ih.2⟩⟩
  ·rcases List.mem_cons.1 hq with rfl | hq
   ·exact h1 0 q rfl
   ·exact ih.1 q hq
  ·match l,hq,ih with
   |r::l',hq,ih=>
    have h3:=h2 0 p r rfl rfl;rcases List.mem_cons.1 hq with rfl | hq
    ·exact h3
    ·have:=(List.pairwise_cons.1 ih.2).1 q hq;have:=ih.1 r (List.mem_cons_self ..);omega
theorem FC:∀{l:List ByteArray},(∀(i:Nat) p r,l[i]?=some p->l[i+1]?=some r->fL p r=true)->mv l
 |[],_=>List.Pairwise.nil
 |p::l,h2=>by
  have ih:mv l:=FC λi q r h h'=>h2 (i+1) q r (by simpa using h) (by simpa using h')
  refine List.pairwise_cons.2 ⟨λq hq=>?_,ih⟩
  match l,hq,ih with
  |r::l',hq,ih=>
   have h3:=h2 0 p r rfl rfl;rcases List.mem_cons.1 hq with rfl | hq
   ·exact h3
   ·exact na h3 ((List.pairwise_cons.1 ih).1 q hq)
structure S.eo (x:S):Prop where
 i:normal x.i
 s:mv x.s
 len:∀t ∈ x.s,t.size<=8
theorem zz {α:Type} {R:α->α->Prop} {l:List α} (h:l.Pairwise R) {i:Nat} {p r:α} (hp:l[i]?=some p) (hr:l[i+1]?=some r):R p r:=by
 obtain⟨h1,rfl⟩:=List.getElem?_eq_some_iff.1 hp;obtain⟨h2,rfl⟩:=List.getElem?_eq_some_iff.1 hr;exact List.pairwise_iff_getElem.1 h _ _ _ _ (Nat.lt_succ_self i)
theorem uY {x:S} (gq:dA x.i):dp x=true↔x.eo:=by
 unfold dp;simp only[Bool.and_eq_true,List.all_eq_true,List.mem_range,Bool.not_eq_true'];constructor
 ·rintro⟨h1,h2⟩;have bC:∀{α:Type} {l:List α} {i:Nat} {p:α},l[i]?=some p->i<l.length:=λh=>(List.getElem?_eq_some_iff.1 h).1
  refine⟨A1 (λi p hp=>?_) (λi p r hp hr=>?_),FC (λi p r hp hr=>?_),λt ht=>?_⟩
  ·have:=h1 i (bC hp);cases i with
   |zero=>simp only[jr,hp,decide_eq_false_iff_not]at this;omega
   |succ j=>
    obtain⟨q,hq⟩:∃q,x.i[j]?=some q:=⟨_,List.getElem?_eq_getElem (by have:=bC hp;omega)⟩;simp only[jr,hp,hq,Bool.or_eq_false_iff,decide_eq_false_iff_not]at this;omega
  ·have:=h1 (i+1) (bC hr);simp only[jr,hp,hr,Bool.or_eq_false_iff,decide_eq_false_iff_not]at this;have h3:=gq p (List.mem_of_getElem? hp);have h4:=gq r (List.mem_of_getElem? hr);unfold dE at h3 h4;have h5:=this.2.2;rw[IntWalk.i64_in _ (by omega)]at h5;have h5:r.1 - 1≠p.2:=by simpa using h5
   omega
  ·have:=h2 (i+1) (bC hr);simp only[lq,hp,hr,Bool.or_eq_false_iff,Bool.not_eq_false']at this;exact this.2
  ·obtain⟨i,hi,he⟩:=List.getElem_of_mem ht;have fU:x.s[i]?=some t:=by rw[List.getElem?_eq_getElem hi,he]
   have:=h2 i hi;cases i with
   |zero=>simp only[lq,fU,decide_eq_false_iff_not]at this;omega
   |succ j=>
    obtain⟨q,hq⟩:∃q,x.s[j]?=some q:=⟨_,List.getElem?_eq_getElem (by omega)⟩;simp only[lq,fU,hq,Bool.or_eq_false_iff,decide_eq_false_iff_not]at this;omega
 ·rintro⟨hn,hr,hl⟩;refine⟨λi hi=>?_,λi hi=>?_⟩
  ·obtain⟨r,hr⟩:∃q,x.i[i]?=some q:=⟨_,List.getElem?_eq_getElem hi⟩;have h1:=hn.1 r (List.mem_of_getElem? hr);cases i with
   |zero=>simp only[jr,hr,decide_eq_false_iff_not];omega
   |succ j=>
    obtain⟨q,hq⟩:∃q,x.i[j]?=some q:=⟨_,List.getElem?_eq_getElem (by omega)⟩;have h2:=zz hn.2 hq hr;have h3:=gq q (List.mem_of_getElem? hq);have h4:=gq r (List.mem_of_getElem? hr);unfold dE at h3 h4;simp only[jr,hr,hq,Bool.or_eq_false_iff,decide_eq_false_iff_not];rw[IntWalk.i64_in _ (by omega)];refine⟨by omega,by omega,?_⟩;simp;omega
  ·obtain⟨r,jY⟩:∃q,x.s[i]?=some q:=⟨_,List.getElem?_eq_getElem hi⟩;have h1:=hl r (List.mem_of_getElem? jY);cases i with
   |zero=>simp only[lq,jY,decide_eq_false_iff_not];omega
   |succ j=>
    obtain⟨q,hq⟩:∃q,x.s[j]?=some q:=⟨_,List.getElem?_eq_getElem (by omega)⟩;have h2:=zz hr hq jY;simp only[lq,jY,hq,Bool.or_eq_false_iff,decide_eq_false_iff_not,Bool.not_eq_false'];exact⟨by omega,h2⟩
theorem xX {x y:S} (hx:x.eo) (hy:y.eo) (kx:dA x.i) (ky:dA y.i):(kQ x y).eo/\dA (kQ x y).i/\∀n,fK (kQ x y).i n↔fK x.i n\/fK y.i n:=by
 have hk:dA (x.i++y.i):=λp hp=>(List.mem_append.1 hp).elim (kx p) (ky p)
 obtain⟨h1,h2,h3⟩:=mr hk;refine⟨⟨h1,FB hx.s hy.s,λt ht=>?_⟩,h2,λn=>by rw[<-oD];exact h3 n⟩;have:t ∈ x.s\/t ∈ y.s:=by
  replace ht:t ∈ qO x y:=ht
  unfold qO at ht;split at ht
  ·exact .inl (nR.1 ht).1
  ·split at ht
   ·exact .inl (nR.1 ht).1
   ·split at ht
    ·exact .inr (nR.1 ht).1
    ·exact((sR _ _).2 t).1 ht
 exact this.elim (hx.len t) (hy.len t)
theorem Q3 (a b:Int×Int):nm a b=ku a b:=by
 unfold nm ku wZ;by_cases h:a.1<b.1
 ·simp[h]
 ·by_cases h2:b.1<a.1<;>simp[h,h2]
theorem Mj {l t:List (Int×Int)} (gq:dA l) (hm:∀x,x ∈ t↔x ∈ l) (hs:t.Pairwise λa b=>nm b a=false):t.foldl js []=iZ l:=by
 have ht:dA t:=λp hp=>gq p ((hm p).1 hp)
 obtain⟨h1,h2,h3⟩:=xa t [] ⟨λp hp=>(by cases hp),List.Pairwise.nil⟩ (λp hp=>(by cases hp)) ht (hs.imp λh=>CQ (by rw[<-Q3];exact h)) (λp hp=>(by cases hp));obtain⟨n1, -,n2⟩:=mr gq;refine oE h1 n1 λn=>?_
 rw[h3,n2];simp[fK,hm]
theorem Mk (l:List ByteArray):(nY l).Pairwise λa b=>lT b a=false:=by
 unfold nY;rw[List.pairwise_map];have h:=List.pairwise_mergeSort (le:=fun(x y:List UInt8)=>decide (x<=y)) (λa b c h1 h2=>by
  simp only[decide_eq_true_eq]at *;exact List.le_trans h1 h2) (λa b=>by
  simp only[Bool.or_eq_true,decide_eq_true_eq];exact List.le_total a b) (l.map (·.data.toList))
 refine h.imp λ{a b} h=>?_
 simp only[decide_eq_true_eq]at h;unfold lT fL;rw[Proofs.bytesLess_eq];simp only[decide_eq_false_iff_not,Lib.toList_data];exact List.not_lt.2 h
theorem Ml {a b t:List ByteArray} (hm:∀x,x ∈ t↔x ∈ a++b) (hs:t.Pairwise λa b=>lT b a=false):comp t=pJ a b:=by
 obtain⟨h1,h2⟩:=FA hs;obtain⟨h3,h4⟩:=sR a b;exact uW h1 h3 λs=>by rw[h2,h4,hm,List.mem_append]
theorem yz:∀l:List (Int×Int),lF DE (l.map bM)=some l
 |[]=>rfl
 |p::l=>by simp[lF,DE,bM,yz l]
theorem yB:∀l:List ByteArray,lF DF (l.map st1)=some l
 |[]=>rfl
 |p::l=>by simp[lF,DF,st1,yB l]
theorem CR {n:Nat} (h1:12<n) (h2:n<=100000):many n n=true:=by
 simp only[many,roomy,Bool.and_eq_true,beq_self_eq_true,true_and,Nat.ble_eq];exact⟨by simpa using h1,by omega⟩
section
variable {prog:Nat->Option aA}
theorem Q4 (h:prog 50=some TQ) (l:List (Int×Int)) (h1:12<l.length) (h2:l.length<=100000) :
  Ev prog 50 [.own 0 0 l.length 0,.iv (.fn 51 [])] [(0,.buf 0 2 (l.map bM))] (.bD [],[(0,.buf 0 2 ((pD l).map bM))]):=
 Ev.X8 h rfl rfl (by simp[k7,get,CR h1 h2,yz,ao.set];intro a b _;rfl)
theorem Q5 (h:prog 55=some TR) (l:List ByteArray) (v:Nat) (h1:12<l.length) (h2:l.length<=100000) :
  Ev prog 55 [.own 0 0 l.length v] [(0,.buf v 1 (l.map st1))] (.bD [],[(0,.buf v 1 ((nY l).map st1))]):=
 Ev.X8 h rfl rfl (by simp[k7,get,CR h1 h2,yB,ao.set];intro a _;rfl)
theorem FD (H:tl prog) (w7:prog 38=some DJ) (h:prog 37=some GZ) (l:List (Int×Int)) (hl:l.length<=100000) (gq:dA l):a8 prog 37 [.iv (.sl 2 (l.map bM))] (.iv (.sl 2 ((iZ l).map bM))):=by
 by_cases qd:l.length<=12
 ·exact N3 H w7 h l qd
 ·rw[<-Mj gq (λx=>(wW l).1.mem_iff) (wW l).2];exact CK w7 h l (pD l) hl (wX l) (Q4 H.Yd l (by omega) hl)
theorem T5 (H:tl prog) (yx:prog 54=some DL) (AU:prog 56=some zX) (h:prog 40=some G5) (a b:List ByteArray) (hl:a.length+b.length<=100000) :
  a8 prog 40 [.iv (.sl 1 (a.map st1)),.iv (.sl 1 (b.map st1))] (.iv (.sl 1 ((pJ a b).map st1))):=by
 by_cases qd:a.length+b.length<=12
 ·exact TX H yx AU h a b qd
 ·rw[<-Ml (λx=>(AJ (a++b)).mem_iff) (Mk (a++b))];exact HG yx AU h a b (nY (a++b)) hl (wY _) (Q5 H.Ye (a++b) 1 (by rw[List.length_append];omega) (by rw[List.length_append];omega))
theorem T6 (H:JO prog) (x y:S) (hi:x.i.length+y.i.length<=100000) (hs:x.s.length<=1000/\y.s.length<=1000) (kx:dA x.i) (ky:dA y.i):a8 prog 23 [x.av,y.av] (kQ x y).av:=
 WT H x y hi hs (FD H.totl H.w7 H.TY (x.i++y.i) (by rw[List.length_append];omega) λp hp=>(List.mem_append.1 hp).elim (kx p) (ky p)) (T5 H.totl H.yx H.AU H.Yg x.s y.s (by omega))
end
end ao
namespace ao
open Go
attribute [local simp] aS Option.map_some a7 step cw bp az M.aG M.run M.ok M.fresh M.write M.look M.lift bT ao.set ev ao.get an bin cU db mk params bh load bB di ep dQ dn dB idx len valid eu bound store bl fV un eqs ly bn bH M.bN dw cL dC c9 meets dF dR callee bZ cE fz flat ew eI eZ Option.bind_some cz M.bind
section
variable {prog:Nat->Option aA}
end
structure V where
 k:Int
 n:Int
 s:ByteArray
def V.enc (v:V):List IV:=[.int .i64 v.k,.int .i64 v.n,.str v.s]
def V.av (v:V):AV:=.agg [.iv (.int .i64 v.k),.iv (.int .i64 v.n),.iv (.str v.s)]
structure E where
 v0:V
 v1:V
 v2:V
 v3:V
def E.get (e:E):Nat->V
 |0=>e.v0
 |1=>e.v1
 |2=>e.v2
 |_=>e.v3
def E.enc (e:E):List IV:=e.v0.enc++(e.v1.enc++(e.v2.enc++e.v3.enc))
def E.cs (e:E):List AV:=e.enc.map .iv
def E.av (e:E):AV:=.agg e.cs
theorem E.iY (e:E) {i:Nat} (h:i<4):(e.cs.drop (i*3)).take 3=[.iv (.int .i64 (e.get i).k),.iv (.int .i64 (e.get i).n),.iv (.str (e.get i).s)]:=by
 match i,h with
 |0,_=>rfl
 |1,_=>rfl
 |2,_=>rfl
 |3,_=>rfl
theorem E.Dx (e:E):e.cs.take 12=e.cs:=rfl
theorem E.bR (e:E):e.cs.length=12:=rfl
theorem E.cT (e:E) (n0:Nat) (h:Hp):e.cs.map (nrm n0 h 8)=e.cs:=pj n0 h e.enc
theorem E.fk (e:E):e.enc.all notNil=true:=by simp[E.enc,V.enc,notNil]
theorem E.c8 (e:E) (w:Bool):M.aG (cE w) e.cs = .ret e.cs:=nP w e.enc e.fk
theorem E.cI (e:E) (s:Nat):fV s e.cs = .ret e.cs:=mM e.enc s (by simp[E.enc,V.enc,notNil])
def kg (v:V):Bool:=
 if v.k==0 then v.n==0&&v.s==⟨#[]⟩ else if v.k==1 then v.s==⟨#[]⟩ else if v.k==2 then v.n==0&&decide (v.s.size<=8) else false
def jS (e:E):Nat->Bool
 |0=>true
 |i+1=>jS e i&&kg (e.get i)
def eX (e:E):Bool:=jS e 4
def po (l:List (Int×Int)) (n:Int):Bool:=l.any λp=>decide (p.1<=n)&&decide (n<=p.2)
def gK (x:S) (v:V):Bool:=if !kg v then false else if v.k==0 then x.a else if v.k==1 then po x.i v.n else dN x.s v.s != x.c
def mN (b:B) (e:E):Nat->Bool
 |0=>true
 |i+1=>mN b e i&&gK (b.get i) (e.get i)
def hasB (b:B) (e:E):Bool:=if !eX e then false else mN b e 4
def gi (f:List B) (e:E):Bool:=f.any λb=>hasB b e
theorem gp {α:Type} {l:List α} {i:Nat} {x:α} {f:α->Bool} (hx:l[i]?=some x):(l.take (i+1)).any f=((l.take i).any f||f x):=by
 rw[List.take_add_one,hx];simp
theorem any_true {α:Type} {l:List α} {i:Nat} {x:α} {f:α->Bool} (hx:l[i]?=some x) (h:f x=true):l.any f=true:=by
 rw[List.any_eq_true];exact⟨x,List.mem_of_getElem? hx,h⟩
section
variable {prog:Nat->Option aA}
set_option maxHeartbeats 1000000 in
theorem FE (h:prog 43=some Pw) (v:V):a8 prog 43 [v.av] (.bI (kg v)):=by
 refine a8.of h rfl rfl (au (by simp[V.av];rfl) ?_);refine af (aj ?_);refine aq (aj ?_);unfold kg;refine ag rfl ?_;cases h0:v.k==0 with
 |true=>
  refine au (s':=⟨[(2,.bI (v.n==0&&v.s==⟨#[]⟩))],[(1000,.cells [.nI v.k,.nI v.n,.iv (.str v.s)])],_⟩) (by
   cases h1:v.n==0<;>simp[h1]<;>rfl) ?_
  exact ax rfl
 |false=>
  refine aj ?_;refine ag rfl ?_;cases h1:v.k==1 with
  |true=>
   refine aj ?_;exact ax rfl
  |false=>
   refine aj ?_;refine ag rfl ?_;cases h2:v.k==2 with
   |true=>
    refine au (s':=⟨[(2,.bI (v.n==0&&decide (v.s.size<=8)))],[(1000,.cells [.nI v.k,.nI v.n,.iv (.str v.s)])],_⟩) (by
     have e:decide ((v.s.size:Int)<=8)=decide (v.s.size<=8):=decide_eq_decide.2 (by omega);cases h1:v.n==0<;>simp[h1,e]<;>rfl) ?_
    exact ax rfl
   |false=>
    refine ak ?_;simp only[Ex.then,Ex.inBlock];refine aj ?_;exact ax rfl
theorem T7 (h:prog 48=some R1) (l:List (Int×Int)) (m:Int) (hl:l.length<=maxLen):a8 prog 48 [.iv (.sl 2 (l.map bM)),.nI m] (.bI (po l m)):=by
 refine a8.of h rfl rfl (aj ?_);refine af (aj ?_);refine aq ?_;refine bQ l.length (λi=>⟨[(0,.iv (.sl 2 (l.map bM))),(1,.nI m),(5,.nI i)],[],1128⟩) (λi=>po (l.take i) m=false) (by simp[an,get]) (by simp[po]) ?_ ?_
 ·intro i hi hg;obtain⟨p,hp⟩:∃x,l[i]?=some x:=⟨_,List.getElem?_eq_getElem hi⟩;refine af (au (by simp[hi];rfl) ?_);refine ag rfl (ak (af (aq (au (s':=⟨[(0,.iv (.sl 2 (l.map bM))),(1,.nI m),(5,.nI i),(27,.bI (decide (p.1<=m)&&decide (m<=p.2)))],[],2408⟩) (by
   cases h1:decide (p.1<=m)<;>simp[hp,bM,h1]) ?_))))
  refine ag rfl ?_;cases hb:decide (p.1<=m)&&decide (m<=p.2)with
  |true=>
   refine aj ?_;refine ax ?_;rw[show po l m=true from any_true hp hb];rfl
  |false=>
   refine ak ?_;refine bK ?_;refine⟨by simp[again,an,get,nrm,bw hi hl],?_⟩;unfold po at hg ⊢;rw[gp hp,hg,hb];rfl
 ·intro hg;rw[List.take_length]at hg;refine af (aj ?_);refine ag rfl (aO ?_);simp only[Ex.then,Ex.inBlock,if_true];refine aj ?_;refine ax ?_;rw[hg];rfl
theorem N6 (l:List ByteArray) (t:ByteArray):dN l t=l.any (λx=>x==t):=by
 rw[Bool.eq_iff_iff,gf,List.any_eq_true];constructor
 ·exact λh=>⟨t,h,by rw[kP];simp⟩
 ·rintro⟨x,hx,he⟩;rw[kP,decide_eq_true_eq]at he;exact he▸hx
theorem A2 (h:prog 49=some DK) (l:List ByteArray) (m:ByteArray) (hl:l.length<=maxLen):a8 prog 49 [.iv (.sl 1 (l.map st1)),.iv (.str m)] (.bI (dN l m)):=by
 rw[N6];refine a8.of h rfl rfl (aj ?_);refine af (aj ?_);refine aq ?_;refine bQ l.length (λi=>⟨[(0,.iv (.sl 1 (l.map st1))),(1,.iv (.str m)),(5,.nI i)],[],1128⟩) (λi=>(l.take i).any (λx=>x==m)=false) (by simp[an,get]) (by simp) ?_ ?_
 ·intro i hi hg;obtain⟨p,hp⟩:∃x,l[i]?=some x:=⟨_,List.getElem?_eq_getElem hi⟩;refine af (au (by simp[hi];rfl) ?_);refine ag rfl (ak (af (aq (au (by simp[hp,st1];rfl) ?_))));refine ag rfl ?_;cases hb:p==m with
  |true=>
   refine aj ?_;refine ax ?_;rw[show l.any (λx=>x==m)=true from any_true hp hb];rfl
  |false=>
   refine ak ?_;refine bK ?_;refine⟨by simp[again,an,get,nrm,bw hi hl],?_⟩;rw[gp hp,hg,hb];rfl
 ·intro hg;rw[List.take_length]at hg;refine af (aj ?_);refine ag rfl (aO ?_);simp only[Ex.then,Ex.inBlock,if_true];refine aj ?_;refine ax ?_;rw[hg];rfl
end
def Xp.oB (x:Xp):Bool:=!(decide (100<=x.count 0)||decide (20<=x.deep 0))&&x.dk
def fQ (n:Int):List IV:=[.int .i64 n]
structure Hd where
 ps:List Int
 hs:List Int
 b:Int
 g:Int
def Hd.enc (h:Hd):List IV:=[.sl 1 (h.ps.map fQ),.sl 1 (h.hs.map fQ),.int .i64 h.b,.int .u64 h.g]
def Hd.cs (h:Hd):List AV:=h.enc.map .iv
def Hd.av (h:Hd):AV:=.agg h.cs
theorem Hd.fk (x:Hd):x.enc.all notNil=true:=by simp[Hd.enc,notNil]
theorem Hd.c8 (x:Hd) (w:Bool):M.aG (cE w) x.cs = .ret x.cs:=nP w x.enc x.fk
theorem Hd.cI (x:Hd) (s:Nat):fV s x.cs = .ret x.cs:=mM x.enc s x.fk
theorem Hd.bR (x:Hd):x.cs.length=4:=rfl
theorem Hd.ZQ (x:Hd):x.cs.take 4=x.cs:=rfl
theorem Hd.cT (x:Hd) (n0:Nat) (h:Hp):x.cs.map (nrm n0 h 8)=x.cs:=pj n0 h x.enc
def Hd.oB (h:Hd):Bool:=decide (h.ps.length<=100)&&decide (h.hs.length<=100)
structure Op where
 k:Int
 c:Int
 u:Int
 f:Int
 t:Int
 x:Xp
 e:E
structure Op.ok (o:Op):Prop where
 k:dE o.k
 c:dE o.c
 u:dE o.u
 f:dE o.f
 t:dE o.t
 x:o.x.ok
 e:∀i,i<4->dE (o.e.get i).k/\dE (o.e.get i).n/\(o.e.get i).s.size<=maxLen
def Op.enc (o:Op):List IV:=.int .i64 o.k::.int .i64 o.c::.int .i64 o.u::.int .i64 o.f::.int .i64 o.t::(o.x.enc++o.e.enc)
def Op.cs (o:Op):List AV:=o.enc.map .iv
def Op.av (o:Op):AV:=.agg o.cs
def cH (l:List Op):AV:=.iv (.sl 24 (l.map Op.enc))
theorem Op.fk (o:Op):o.enc.all notNil=true:=by simp[Op.enc,notNil,List.all_append,Xp.fk,E.fk]
theorem Op.cI (o:Op) (s:Nat):fV s o.cs = .ret o.cs:=mM o.enc s o.fk
theorem Op.c8 (x:Op) (w:Bool):M.aG (cE w) x.cs = .ret x.cs:=nP w x.enc x.fk
theorem Op.gh (o:Op):o.enc.length=24:=by obtain⟨_,_,_,_,_,x,e⟩:=o;cases x;rfl
theorem Op.bR (o:Op):o.cs.length=24:=by simp[Op.cs,Op.gh]
theorem Op.WX (o:Op):o.cs.take 24=o.cs:=List.take_of_length_le (by rw[Op.bR];omega)
theorem Op.T8 (o:Op):(o.enc.map AV.iv).take 24=o.cs:=o.WX
theorem Op.cT (o:Op) (n0:Nat) (h:Hp):o.cs.map (nrm n0 h 8)=o.cs:=pj n0 h o.enc
theorem Op.WY (o:Op):o.cs.take 1=[.nI o.k]:=rfl
theorem Op.ZR (o:Op):(o.cs.drop 5).take 7=o.x.cs:=by obtain⟨_,_,_,_,_,x,e⟩:=o;cases x;rfl
theorem Op.WZ (o:Op):(o.cs.drop 14).take 1=[.iv (.str o.e.v0.s)]:=by obtain⟨_,_,_,_,_,x,e⟩:=o;cases x;rfl
theorem Op.W0 (o:Op):(o.cs.drop 17).take 1=[.iv (.str o.e.v1.s)]:=by obtain⟨_,_,_,_,_,x,e⟩:=o;cases x;rfl
theorem Op.W1 (o:Op):(o.cs.drop 20).take 1=[.iv (.str o.e.v2.s)]:=by obtain⟨_,_,_,_,_,x,e⟩:=o;cases x;rfl
theorem Op.W2 (o:Op):(o.cs.drop 23).take 1=[.iv (.str o.e.v3.s)]:=by obtain⟨_,_,_,_,_,x,e⟩:=o;cases x;rfl
def E.Yj (e:E):Bool:=decide (300<IntKind.i64.wrap (IntKind.i64.wrap (IntKind.i64.wrap (e.v0.s.size+e.v1.s.size)+e.v2.s.size)+e.v3.s.size))
def Op.oB (o:Op):Bool:=o.x.oB&&!o.e.Yj
def lr (l:List Op):Nat:=(l.filter λo=>o.k==1).length
def tm (h:Hd) (l:List Op):Bool:=l.all Op.oB&&(h.oB&&decide (lr l<=16)&&decide (l.length<=120))
section
variable {prog:Nat->Option aA}
theorem T9 (Fx:prog 27=some GY) (qv:prog 169=some vU) (qw:prog 170=some vV) (FF:prog 204=some DT) (h:prog 203=some IY) {x:Xp} (hx:x.ok):a8 prog 203 [x.av] (.bI x.oB):=by
 obtain⟨K1,ct⟩:=HI qv hx 0 (by omega) (by omega);obtain⟨K2,cZ⟩:=Me qw hx 0 (by omega) (by omega);obtain⟨K3,fP⟩:=T3 Fx FF hx;refine a8.of h rfl rfl (au (by simp[Xp.av,Xp.cI];rfl) ?_);refine af (cq (K:=max K1 K2) (s':=⟨[(1,.ref 1000 0 0 0),(10,.bI (decide (100<=x.count 0)||decide (20<=x.deep 0)))],[(1000,.cells x.cs)],1640⟩) (λn hn=>by
  have h1:=ct n (by omega);have h2:=cZ n (by omega);simp only[Xp.av]at h1 h2;cases hb:decide (100<=x.count 0)<;>simp[Xp.B3,Xp.bR,Xp.c8,h1,h2,hb]) ?_)
 cases hb:(decide (100<=x.count 0)||decide (20<=x.deep 0))with
 |true=>
  refine ag (t:=true) rfl (aj ?_);refine ax ?_;unfold Xp.oB;rw[hb];rfl
 |false=>
  refine ag (t:=false) rfl (ak (cq (K:=K3) (λn hn=>by
   have h3:=fP n (by omega);simp only[Xp.av]at h3;simp[Xp.B3,Xp.bR,Xp.c8,h3];rfl) ?_))
  refine ax ?_;unfold Xp.oB;rw[hb];cases x.dk<;>rfl
theorem Q6 (h:prog 202=some I4) (x:Hd):a8 prog 202 [x.av] (.bI x.oB):=by
 refine a8.of h rfl rfl (au (by simp[Hd.av,Hd.cI];rfl) ?_);refine au (s':=⟨[(2,.bI x.oB)],[(1000,.cells x.cs)],1832⟩) (by
  have e1:decide ((x.ps.length:Int)<=100)=decide (x.ps.length<=100):=decide_eq_decide.2 (by omega);have e2:decide ((x.hs.length:Int)<=100)=decide (x.hs.length<=100):=decide_eq_decide.2 (by omega);cases hb:decide (x.ps.length<=100)<;>simp[Hd.cs,Hd.enc,Hd.oB,e1,e2,hb]) ?_
 exact ax rfl
theorem FG {n0:Nat} (h:1000<n0) (cs:List AV) (r:Hp):nrm n0 ((1000,.cells cs)::r) 8 (.ref 1000 0 0 0) = .ref 1000 0 0 0:=by simp[nrm,ao.get,h]
theorem JU {l:List Op} {i:Nat} {o:Op} (hx:l[i]?=some o):lr (l.take (i+1))=lr (l.take i)+(if o.k=1 then 1 else 0):=by
 unfold lr;rw[List.take_add_one,hx];simp only[Option.toList_some,List.filter_append,List.length_append];by_cases h:o.k=1<;>simp[h]
theorem N7 (l:List Op) (i:Nat):lr (l.take i)<=i:=by
 unfold lr;have h1:=List.length_filter_le (λo:Op=>o.k==1) (l.take i);have h2:(l.take i).length<=i:=List.length_take_le i l;omega
theorem Q7 (Fx:prog 27=some GY) (qv:prog 169=some vU) (qw:prog 170=some vV) (FF:prog 204=some DT) (N8:prog 203=some IY) (N9:prog 202=some I4) (h:prog 201=some Nl)
  (hd:Hd) (l:List Op) (hl:l.length<=maxLen) (hx:∀o ∈ l,o.x.ok):a8 prog 201 [hd.av,cH l] (.bI (tm hd l)):=by
 refine a8.of h rfl rfl (au (by simp[Hd.av,Hd.cI];rfl) ?_);refine aj ?_;refine af (aj ?_);refine aq (bQ l.length (λi=>⟨[(1,cH l),(2,.ref 1000 0 0 0),(5,.nI (lr (l.take i))),(6,.nI i)],[(1000,.cells hd.cs)],1256⟩) (λi=>(l.take i).all Op.oB=true) rfl (by simp) ?_ ?_)
 ·intro i hi hg;refine af (af ?_);refine aI (K:=0) (λn' _=>by simp[cH,hi];rfl) ?_;refine ag (t:=true) rfl (ak (af (aq (af ?_))));have j8:l[i]?=some l[i]:=List.getElem?_eq_getElem hi;generalize ho:l[i]=o at j8;have cg:o.x.ok:=hx o (by rw[<-ho];exact List.getElem_mem _);refine aI (K:=0) (s':=⟨[(1,cH l),(2,.ref 1000 0 0 0),(5,.nI (lr (l.take i))),(6,.nI i),(7,.ref 1768 0 0 0)],
   [(1000,.cells hd.cs),(1777,.buf 0 2 []),(1779,.buf 0 1 []),(1780,.buf 0 7 []),(1768,.cells o.cs)],1896⟩) (λn' _=>by
    simp[cH,j8,Op.T8,Op.gh,Op.bR,Op.cI]) ?_
  refine af (af ?_);obtain⟨K,hK⟩:=T9 Fx qv qw FF N8 cg;refine aI (K:=K) (s':=⟨[(1,cH l),(2,.ref 1000 0 0 0),(5,.nI (lr (l.take i))),(6,.nI i),(7,.ref 1768 0 0 0),(47,.bI (!o.oB))],
   [(1000,.cells hd.cs),(1777,.buf 0 2 []),(1779,.buf 0 1 []),(1780,.buf 0 7 []),(1768,.cells o.cs)],3816⟩) (λn' fD=>by
    have hc:=hK n' fD;simp only[Xp.av]at hc;cases hf:o.x.oB<;>simp[Op.ZR,Op.WZ,Op.W0,Op.W1,Op.W2,Xp.bR,Xp.c8,hc,hf,Op.oB,E.Yj]) ?_
  cases hf:o.oB with
  |false=>
   refine ag (t:=true) rfl (aj ?_);refine ax ?_;unfold tm;rw[all_false j8 hf];rfl
  |true=>
   refine ag (t:=false) rfl (ak (af ?_));refine aI (K:=0) (s':=⟨[(1,cH l),(2,.ref 1000 0 0 0),(5,.nI (lr (l.take i))),(6,.nI i),(50,.bI (decide (o.k=1)))],
    [(1000,.cells hd.cs),(1777,.buf 0 2 []),(1779,.buf 0 1 []),(1780,.buf 0 7 []),(1768,.cells o.cs)],4008⟩) (λn' _=>by simp[Op.WY];rfl) ?_
   have hle:=N7 l i;have hw:IntKind.i64.wrap ((lr (l.take i):Int)+1)=(lr (l.take i):Int)+1:=bw (N:=l.length) (by omega) hl;have xR:=JU j8;by_cases hk:o.k=1
   ·refine ag (t:=true) (by simp[ev,ao.get,hk]) ?_;simp only[if_true];refine aD (by simp[hw];rfl) ?_;refine aD (by simp[bw hi hl];rfl) ?_;refine⟨?_,by rw[gY j8,hg,hf];rfl⟩;rw[xR,if_pos hk];simp[again,an,get,cC,FG,bG,Hd.cT,cH]
   ·refine ag (t:=false) (by simp[ev,ao.get,hk]) ?_;simp only[Bool.false_eq_true,if_false];refine ak ?_;refine aD (by simp[bw hi hl];rfl) ?_;refine⟨?_,by rw[gY j8,hg,hf];rfl⟩;rw[xR,if_neg hk];simp[again,an,get,cC,FG,bG,Hd.cT,cH]
 ·intro hg;refine af (af ?_);refine aI (K:=0) (λn' _=>by simp[cH];rfl) ?_;refine ag (t:=false) rfl (aO ?_);simp only[Ex.then,Ex.inBlock,if_true];refine af ?_;rw[List.take_length]at hg;obtain⟨K,hK⟩:=Q6 N9 hd;refine aI (K:=K) (s':=⟨[(4,.bI (tm hd l))],[(1000,.cells hd.cs)],2280⟩) (λn' fD=>by
   have hc:=hK n' fD;simp only[Hd.av]at hc;have e1:decide ((lr l:Int)<=16)=decide (lr l<=16):=decide_eq_decide.2 (by omega);have e2:decide ((l.length:Int)<=120)=decide (l.length<=120):=decide_eq_decide.2 (by omega);cases hb:hd.oB<;>cases qe:decide (lr l<=16)<;>simp[Hd.ZQ,Hd.bR,Hd.c8,cH,hc,e1,e2,hb,qe,tm,hg]) ?_
  exact ax rfl
end
def fj:Int->List (Int×Int)->List (Int×Int)
 |a,[]=>[(a,9223372036854775807)]
 |a,r::l=>(if a<r.1 then[(a,IntKind.wrap .i64 (r.1 - 1))] else[])++(if r.2=9223372036854775807 then[] else fj (IntKind.wrap .i64 (r.2+1)) l)
theorem CS:∀(l:List (Int×Int)) (a:Int),(fj a l).length<=l.length+1
 |[],a=>by simp[fj]
 |r::l,a=>by
  have:=CS l (IntKind.wrap .i64 (r.2+1));unfold fj;rw[List.length_append];split<;>split<;>simp<;>omega
def mQ:Int:=-9223372036854775808
section
variable {prog:Nat->Option aA}
set_option maxHeartbeats 1000000 in
theorem Ua (h:prog 130=some BB) (l:List (Int×Int)) (hl:l.length<=100000):a8 prog 130 [.iv (.sl 2 (l.map bM))] (.iv (.sl 2 ((fj mQ l).map bM))):=by
 refine a8.of h rfl rfl (aj ?_);refine aj ?_;refine af (aj ?_);refine aq ?_;refine b7 (λm s1=>∃(i:Nat) (a:Int) (o:List (Int×Int)),i+m=l.length/\o.length<=i/\o++fj a (l.drop i)=fj mQ l/\
  s1=⟨[(2,.own 1000 0 o.length 0),(3,.nI a),(6,.iv (.sl 2 (l.map bM))),(7,.nI l.length),(8,.nI i)],[(1000,.buf 0 2 (o.map bM))],1320⟩) (m:=l.length) ⟨0,mQ,[],by omega,by simp,rfl,rfl⟩ ?_
 rintro m s1 ⟨i,a,o,oC,hoi,hg,rfl⟩;refine af ?_;by_cases hi:i<l.length
 ·obtain⟨r,hr⟩:∃r,l[i]?=some r:=⟨_,List.getElem?_eq_getElem hi⟩;have hd:l.drop i=r::l.drop (i+1):=drop_cons hr;rw[hd]at hg
  conv at hg=>lhs;rw[fj]
  refine aD (by simp[hi];rfl) ?_;refine af (ag rfl (ak (af (aq (au (by simp[hr,bM];rfl) ?_)))));refine af (aj ?_);refine ag rfl ?_;cases hb:decide (a<r.1)with
  |true=>
   have lY:a<r.1:=by simpa using hb
   rw[if_pos lY]at hg;refine aD (by
    simp[bO,app,elems,roomy,show o.length+1<=1073741824 by omega];rfl) ?_
   refine af (aj ?_);refine ag rfl ?_;cases hm:r.2==9223372036854775807 with
   |true=>
    have eN:r.2=9223372036854775807:=by simpa using hm
    rw[if_pos eN]at hg;refine aj ?_;refine ax ?_;change dI _ _ .ret _;rw[<-hg];simp[dI,BB,ck,dJ,eE,ev,get,M.look,M.bind,M.run,M.ok,shut,im,bZ,cE,fz,M.write,bM,List.take_of_length_le]
   |false=>
    have eN:¬r.2=9223372036854775807:=by simpa using hm
    rw[if_neg eN]at hg;refine ak ?_;refine bK ?_;refine aD (by simp[bw hi (show l.length<=maxLen by unfold maxLen;omega)];rfl) ?_;refine⟨m - 1,by omega,i+1,IntKind.wrap .i64 (r.2+1),o++[(a,IntKind.wrap .i64 (r.1 - 1))],by omega,by simp;omega,by rw[<-hg];simp,?_⟩;simp[again,an,get,nrm,bG,bM,List.take_of_length_le]
  |false=>
   have lY:¬a<r.1:=by simpa using hb
   rw[if_neg lY]at hg;refine ak ?_;refine af (aj ?_);refine ag rfl ?_;cases hm:r.2==9223372036854775807 with
   |true=>
    have eN:r.2=9223372036854775807:=by simpa using hm
    rw[if_pos eN]at hg;refine aj ?_;refine ax ?_;change dI _ _ .ret _;rw[<-hg];simp[dI,BB,ck,dJ,eE,ev,get,M.look,M.bind,M.run,M.ok,shut,im,bZ,cE,fz,M.write,List.take_of_length_le]
   |false=>
    have eN:¬r.2=9223372036854775807:=by simpa using hm
    rw[if_neg eN]at hg;refine ak ?_;refine bK ?_;refine aD (by simp[bw hi (show l.length<=maxLen by unfold maxLen;omega)];rfl) ?_;refine⟨m - 1,by omega,i+1,IntKind.wrap .i64 (r.2+1),o,by omega,by omega,by rw[<-hg];simp,?_⟩;simp[again,an,get,nrm,bG]
 ·have hn:l.drop i=[]:=List.drop_eq_nil_of_le (by omega);rw[hn]at hg;refine aD (by simp[hi];rfl) ?_;refine af (ag rfl (aO ?_));simp only[Ex.then,Ex.inBlock,if_true];refine au (by
    simp[bO,app,elems,roomy,show o.length+1<=1073741824 by omega];rfl) ?_
  refine ax ?_;rw[<-hg];simp[dI,BB,ck,dJ,eE,ev,get,M.look,M.bind,M.run,M.ok,shut,im,bZ,cE,fz,M.write,bM,fj,List.take_of_length_le]
def eF (x:S):S:=⟨!x.a,fj mQ (iZ x.i),!x.c,x.s⟩
structure JV (prog:Nat->Option aA):Prop extends JO prog where
 Ub:prog 129=some Ng
 Uc:prog 130=some BB
 Ud:prog 126=some Nd
set_option maxHeartbeats 2000000 in
theorem Dy (H:JV prog) (x:S) (hi:x.i.length<=10000) (hs:x.s.length<=1000) (gq:dA x.i):a8 prog 129 [x.av] (eF x).av:=by
 obtain⟨K1,ct⟩:=FD H.totl H.w7 H.TY x.i (by omega) gq;have hn:(iZ x.i).length<=x.i.length:=by have:=sP (fM ku x.i) [];rw[qf]at this;simpa[iZ]using this
 obtain⟨K2,cZ⟩:=Ua H.Uc (iZ x.i) (by omega);refine a8.of H.Ub rfl rfl (au (by simp[S.av];rfl) ?_);refine cq (K:=max (max K1 K2) 1) (λn hn=>by
  obtain⟨n,rfl⟩:∃n',n=n'+1:=⟨n - 1,by omega⟩;have e1:=ct (n+1) (by omega);have e2:=cZ (n+1) (by omega);have hr:x.s.length<=1073741824:=by omega
  have f54:∀es,aZ prog (n+1) 54 [.iv (.sl 1 es)] []=(nX 1 [.iv (.sl 1 es)]).run []:=λes=>by simp only[aZ,H.yx,DL];rfl
  generalize aZ prog (n+1)=g at e1 e2 f54;simp[tv,xN,f54,nX,roomy,hr,e1,e2];rfl) ?_
 refine ax ?_;simp[dI,Ng,ck,dJ,eE,load,bB,mk,ev,get,M.look,M.bind,M.run,az,M.ok,M.lift,shut,im,bZ,cE,fz,M.aG,S.av,eF,M.write,List.take_of_length_le]
end
theorem de (n0:Nat) (h:Hp) (id aC i j:Nat):nrm n0 h 8 (.ref id aC i j)=if id<1000 then .ref id aC i j else if id<n0 then(match get h id with
   |some (.buf v _ _) | some (.cm v _ _)=>if v=aC then .ref id 0 i j else .undef
   |some (.cells _) | some (.map _)=>.ref id aC i j
   |none=>.undef) else .undef:=rfl
theorem du (n0:Nat) (h:Hp) (id o n aC:Nat):nrm n0 h 8 (.own id o n aC)=if id<1000 then .own id o n aC else if id<n0 then(match get h id with
   |some (.buf v _ _) | some (.cm v _ _)=>if v=aC then .own id o n 0 else .undef
   |_=>.undef) else .undef:=rfl
theorem zA:∀(l:List (Int×Int)) (a:Int),dE a->dA l->dA (fj a l)
 |[],a,ha,_=>λp hp=>by
  simp only[fj,List.mem_singleton]at hp;subst hp;exact⟨ha,by unfold dE;omega⟩
 |r::l,a,ha,h=>λp hp=>by
  have hw:∀n,dE (IntKind.wrap .i64 n):=λn=>by
   have:=IntKind.wrap_i64 n;unfold dE;omega
  unfold fj at hp;rcases List.mem_append.1 hp with hp | hp
  ·split at hp
   ·simp only[List.mem_singleton]at hp;subst hp;exact⟨ha,hw _⟩
   ·cases hp
  ·split at hp
   ·cases hp
   ·exact zA l _ (hw _) (λq hq=>h q (List.mem_cons_of_mem _ hq)) p hp
structure S.lim (x:S) (n m:Nat):Prop where
 i:x.i.length<=n
 s:x.s.length<=m
 k:dA x.i
theorem S.lim.mono {x:S} {n m n' m':Nat} (h:x.lim n m) (hn:n<=n') (hm:m<=m'):x.lim n' m':=⟨Nat.le_trans h.i hn,Nat.le_trans h.s hm,h.k⟩
theorem JW:dE mQ:=by unfold dE mQ;omega
theorem CT (l:List (Int×Int)):(iZ l).length<=l.length:=by have:=sP (fM ku l) [];rw[qf]at this;simpa[iZ]using this
theorem pq {x:S} {n m:Nat} (h:x.lim n m):(eF x).lim (n+1) m:=by
 refine⟨?_,h.s,zA _ _ JW (mr h.k).2.1⟩;have h1:=CS (iZ x.i) mQ;have h2:=CT x.i;have h3:=h.i;simp only[eF];omega
theorem Oa (l:List ByteArray):(comp l).length<=l.length:=AS l _
theorem Q8 (x y:S):(qO x y).length<=x.s.length+y.s.length:=by
 unfold qO;split
 ·exact Nat.le_trans (List.length_filter_le _ _) (by omega)
 ·split
  ·exact Nat.le_trans (List.length_filter_le _ _) (by omega)
  ·split
   ·exact Nat.le_trans (List.length_filter_le _ _) (by omega)
   ·unfold pJ;have:=Oa (fM lT (x.s++y.s));rw[qf,List.length_append]at this;exact this
theorem B5 {x y:S} {n m n' m':Nat} (h:x.lim n m) (h':y.lim n' m'):(kQ x y).lim (n+n') (m+m'):=by
 refine⟨?_,Nat.le_trans (Q8 x y) (Nat.add_le_add h.s h'.s),(mr λp hp=>(List.mem_append.1 hp).elim (h.k p) (h'.k p)).2.1⟩;have:=CT (x.i++y.i);rw[List.length_append]at this;have h1:=h.i;have h2:=h'.i;simp only[kQ];omega
def gL (x y:S):S:=eF (kQ (eF x) (eF y))
theorem uZ {x y:S} {n m n' m':Nat} (h:x.lim n m) (h':y.lim n' m'):(gL x y).lim (n+n'+3) (m+m'):=
 (pq (B5 (pq h) (pq h'))).mono (by omega) (Nat.le_refl _)
def kS (x y:S):Bool:=kb (kQ x y) y
def mP (a b:B):Bool:=eW cS a||(kS a.s0 b.s0&&(kS a.s1 b.s1&&(kS a.s2 b.s2&&kS a.s3 b.s3)))
theorem xc {a b:B} {i:Nat} (he:eW cS a=false) (h:i<4) (hf:kS (a.get i) (b.get i)=false):mP a b=false:=by
 unfold mP;rw[he]
 match i,h with
 |0,_=>simp[show kS a.s0 b.s0=false from hf]
 |1,_=>simp[show kS a.s1 b.s1=false from hf]
 |2,_=>simp[show kS a.s2 b.s2=false from hf]
 |3,_=>simp[show kS a.s3 b.s3=false from hf]
theorem FH {a b:B} (h:∀i,i<4->kS (a.get i) (b.get i)=true):mP a b=true:=by
 have h0:kS a.s0 b.s0=true:=h 0 (by omega);have h1:kS a.s1 b.s1=true:=h 1 (by omega);have h2:kS a.s2 b.s2=true:=h 2 (by omega);have h3:kS a.s3 b.s3=true:=h 3 (by omega);simp[mP,h0,h1,h2,h3]
def B.lim (b:B) (n m:Nat):Prop:=∀i,i<4->(b.get i).lim n m
structure xd (prog:Nat->Option aA):Prop extends JV prog where
 FI:prog 17=some La
 AK:prog 32=some DH
 AM:prog 33=some DI
 Hz:prog 66=some PA
 P7:prog 59=some R2
 Yk:prog 60=some XW
 Yl:prog 67=some XZ
 Ym:prog 73=some X0
 Yn:prog 47=some R0
section
variable {prog:Nat->Option aA}
set_option maxHeartbeats 2000000 in
theorem W3 (H:JV prog) (x y:S) (hx:x.lim 1000 400) (hy:y.lim 1000 400):a8 prog 126 [x.av,y.av] (gL x y).av:=by
 have nx:=pq hx;have ny:=pq hy;have no:=B5 nx ny;obtain⟨K1,ct⟩:=Dy H x (by have:=hx.i;omega) (by have:=hx.s;omega) hx.k;obtain⟨K2,cZ⟩:=Dy H y (by have:=hy.i;omega) (by have:=hy.s;omega) hy.k;obtain⟨K3,fP⟩:=T6 H.toJO (eF x) (eF y) (by have:=nx.i;have:=ny.i;omega) ⟨by have:=nx.s;omega,by have:=ny.s;omega⟩ nx.k ny.k;obtain⟨K4,TZ⟩:=Dy H (kQ (eF x) (eF y)) (by have:=no.i;omega) (by have:=no.s;omega) no.k;refine a8.of H.Ud rfl rfl (au (by simp[S.av];rfl) ?_);refine cq (K:=max (max K1 K2) (max K3 K4)) (λn hn=>by
  have e1:=ct n (by omega);have e2:=cZ n (by omega);have e3:=fP n (by omega);have e4:=TZ n (by omega);generalize aZ prog n=g at e1 e2 e3 e4;simp only[S.av]at e1 e2 e3 e4;simp[e1,e2,e3,e4];rfl) ?_
 refine ax ?_;simp[dI,Nd,ck,dJ,eE,load,bB,mk,ev,get,M.look,M.bind,M.run,az,M.ok,M.lift,shut,im,bZ,cE,fz,M.aG,S.av,gL]
theorem Ue (H:xd prog) (x y:S) (hx:x.lim 1000 400) (hy:y.lim 1000 400):a8 prog 73 [x.av,y.av] (.bI (kS x y)):=by
 have no:=B5 hx hy;obtain⟨K1,ct⟩:=T6 H.toJO x y (by have:=hx.i;have:=hy.i;omega) ⟨by have:=hx.s;omega,by have:=hy.s;omega⟩ hx.k hy.k;obtain⟨K2,cZ⟩:=Hy H.AK H.AM H.FI (kQ x y) y (by have:=no.i;unfold maxLen;omega) (by have:=no.s;unfold maxLen;omega);refine a8.of H.Ym rfl rfl (au (by simp[S.av];rfl) ?_);refine cq (K:=max K1 K2) (λn hn=>by
  have e1:=ct n (by omega);have e2:=cZ n (by omega);generalize aZ prog n=g at e1 e2;simp only[S.av]at e1 e2;simp[e1,e2];rfl) ?_
 exact ax rfl
set_option maxHeartbeats 1000000 in
theorem Mm (H:xd prog) (a b:B) (ha:a.lim 1000 400) (hb:b.lim 1000 400):a8 prog 67 [a.av,b.av] (.bI (mP a b)):=by
 obtain⟨K0,hK0⟩:=zq H.Hz H.P7 a;refine a8.of H.Yl rfl rfl (au (by simp[B.av,B.cI];rfl) ?_);refine af (cq (K:=K0) (λn hn=>by
  have e1:=hK0 n (by omega);simp only[B.av]at e1;simp[B.hZ,B.bR,B.c8,e1];rfl) ?_)
 refine ag rfl ?_;cases he:eW cS a with
 |true=>
  refine aj ?_;refine ax ?_;have:mP a b=true:=by unfold mP;rw[he];rfl
  rw[this];rfl
 |false=>
  refine ak (af (aj ?_));refine aq ?_;refine bQ 4 (λi=>⟨[(2,.ref 1000 0 0 0),(3,.ref 1064 0 0 0),(8,.nI i)],[(1000,.cells a.cs),(1064,.cells b.cs)],1384⟩) (λi=>∀j,j<i->kS (a.get j) (b.get j)=true) (by simp[an,get]) (λj hj=>by omega) ?_ ?_
  ·intro i hi dt;have mo:(i:Int)<4:=by omega
   obtain⟨K,hK⟩:=Ue H (a.get i) (b.get i) (ha i hi) (hb i hi);refine au (by simp[mo,hi];rfl) ?_;refine af (ag rfl (ak (af (aq (aj ?_)))));refine cq (K:=K) (λn hn=>by
    have e1:=hK n (by omega);simp only[S.av]at e1;simp[mo,hi,B.iY a hi,B.iY b hi,B.bR,e1];rfl) ?_
   refine ag rfl ?_;cases eV:kS (a.get i) (b.get i)with
   |false=>
    simp only[Bool.not_false,if_true];refine aj ?_;refine ax ?_;rw[xc he hi eV];rfl
   |true=>
    refine ak ?_;simp only[Ex.then,Ex.inBlock];refine aD (by simp[gS hi];rfl) ?_;refine⟨by simp[again,an,get,cC,de,du,bG,B.cT],λj hj=>?_⟩;by_cases h:j=i
    ·subst h;exact eV
    ·exact dt j (by omega)
  ·intro dt;refine aj ?_;refine af (ag rfl (aO ?_));simp only[Ex.then,Ex.inBlock,if_true];refine aj ?_;refine ax ?_;rw[FH dt];rfl
end
def mw (a b:B) (t:Bool):Bool:=mP a b&&(t||!mP b a)
def ib (l:List B) (b:B) (i:Nat):Nat->Bool
 |0=>false
 |k+1=>ib l b i k||(k != i&&(match l[k]? with | some c=>mw b c (decide (k<i)) | none=>false))
def gj (l:List B):Nat->List B
 |0=>[]
 |i+1=>gj l i++(match l[i]? with | some b=>if eW cS b||ib l b i l.length then[] else[b] | none=>[])
def eB (l:List B):List B:=gj l l.length
theorem tn {l:List B} {i:Nat} {b:B} (h:l[i]?=some b):gj l (i+1)=gj l i++(if eW cS b||ib l b i l.length then[] else[b]):=by
 simp only[gj,h]
theorem u0 {l:List B} {b c:B} {i k:Nat} (h:l[k]?=some c):ib l b i (k+1)=(ib l b i k||(k != i&&mw b c (decide (k<i)))):=by
 simp only[ib,h]
theorem rl (l:List B):∀i,(gj l i).length<=i
 |0=>by simp[gj]
 |i+1=>by
  have:=rl l i;unfold gj;split<;>(try split)<;>simp<;>omega
theorem A3 {l:List B}:∀{i:Nat} {b:B},b ∈ gj l i->b ∈ l
 |0,b,h=>by simp[gj]at h
 |i+1,b,h=>by
  unfold gj at h;rcases List.mem_append.1 h with h | h
  ·exact A3 h
  ·split at h
   ·rename_i c hc;split at h
    ·cases h
    ·simp only[List.mem_singleton]at h;subst h;exact List.mem_of_getElem? hc
   ·cases h
section
variable {prog:Nat->Option aA}
set_option maxHeartbeats 1000000 in
theorem Q9 (H:xd prog) (a b:B) (t:Bool) (ha:a.lim 1000 400) (hb:b.lim 1000 400):a8 prog 60 [.iv (.ptr a.enc),.iv (.ptr b.enc),.bI t] (.bI (mw a b t)):=by
 obtain⟨K1,ct⟩:=Mm H a b ha hb;obtain⟨K2,cZ⟩:=Mm H b a hb ha;refine a8.of H.Yk rfl rfl (aj ?_);refine af ?_;refine aI (K:=max K1 K2) (s':=⟨[(6,.bI (mw a b t))],[],2408⟩) (λn hn=>cM rfl (by
  have e1:=ct n (by omega);have e2:=cZ n (by omega);simp only[B.av]at e1 e2;unfold mw;cases h1:mP a b<;>cases t<;>simp[B.gw,B.gh,B.jm,B.c8,e1,e2,h1])) ?_
 exact ax rfl
set_option maxHeartbeats 4000000 in
theorem Mn (H:xd prog) (l:List B) (hl:l.length<=10000) (hL:∀b ∈ l,b.lim 1000 400):a8 prog 47 [aT l] (aT (eB l)):=by
 have yC:l.length<=maxLen:=by unfold maxLen;omega
 refine a8.of H.Yn rfl rfl (aj ?_);refine af (au (by simp[aT];rfl) ?_);refine aq ?_;refine bQ l.length (λi=>⟨[(0,aT l),(2,.own 1000 0 (gj l i).length 0),(7,.nI l.length),(8,.nI i)],[(1000,.buf 0 16 ((gj l i).map B.enc))],1256⟩) (λ_=>True) (by simp[an,get,aT,gj]) trivial ?_ ?_
 ·intro i hi _;obtain⟨b,hb⟩:∃b,l[i]?=some b:=⟨_,List.getElem?_eq_getElem hi⟩;have vE:=hL b (List.mem_of_getElem? hb);have hlen:=rl l i;have b9:gj l (i+1)=gj l i++(if eW cS b||ib l b i l.length then[] else[b]):=tn hb;generalize NY:gj l i=acc at hlen b9;obtain⟨K,hK⟩:=zq H.Hz H.P7 b;refine au (by simp[hi];rfl) ?_;refine af (ag rfl (ak (af (aq (aj ?_)))));refine af (cq (K:=K) (s':=⟨[(0,aT l),(2,.own 1000 0 acc.length 0),(3,.nI i),(7,.nI l.length),(8,.nI i),(15,.bI (eW cS b))],[(1000,.buf 0 16 (acc.map B.enc))],1768⟩) (λn hn=>by
   have hc:=hK n hn;simp only[B.av]at hc;simp[aT,hb,B.gw,B.gh,B.jm,B.c8,hc]) ?_)
  refine ag rfl ?_;cases he:eW cS b with
  |true=>
   rw[he]at b9;refine aO ?_;simp only[Ex.then,Ex.inBlock,if_true];refine bK ?_;refine⟨?_,trivial⟩;rw[b9];simp[again,an,get,nrm,bG,aT,bw hi yC]
  |false=>
   rw[he]at b9;refine ak (aj ?_);refine af (au (by simp[aT];rfl) ?_);refine aq ?_;refine bQ l.length (λk=>⟨[(0,aT l),(2,.own 1000 0 acc.length 0),(3,.nI i),(4,.bI (ib l b i k)),(7,.nI l.length),(8,.nI i),(17,.nI l.length),(18,.nI k)],[(1000,.buf 0 16 (acc.map B.enc))],2024⟩)
    (λ_=>True) (by simp[an,get,aT,ib]) trivial ?_ ?_
   ·intro k hk _;obtain⟨c,hc⟩:∃c,l[k]?=some c:=⟨_,List.getElem?_eq_getElem hk⟩;have hn:ib l b i (k+1)=(ib l b i k||(k != i&&mw b c (decide (k<i)))):=u0 hc;obtain⟨K,hK⟩:=Q9 H b c (decide (k<i)) vE (hL c (List.mem_of_getElem? hc));generalize hq:ib l b i k=q at hn;refine au (by simp[hk];rfl) ?_;refine af (ag rfl (ak (af (aq (aj ?_)))));refine aI (K:=K) (s':=⟨[(0,aT l),(2,.own 1000 0 acc.length 0),(3,.nI i),(4,.bI (ib l b i (k+1))),(7,.nI l.length),(8,.nI i),(17,.nI l.length),(18,.nI k)],[(1000,.buf 0 16 (acc.map B.enc))],3432⟩)
     (λn fD=>cM rfl (by
      have e:=hK n fD;rw[hn];have LD:decide ((k:Int)<(i:Int))=decide (k<i):=decide_eq_decide.2 (by omega);have cA:((k:Int) != (i:Int))=(k != i):=by
       by_cases h:k=i
       ·subst h;simp
       ·have h1:(k:Int)≠i:=by omega
        rw[bne_iff_ne.2 h1,bne_iff_ne.2 h]
      cases q with
      |true=>simp
      |false=>cases h1:k != i<;>simp[aT,hb,hc,LD,cA,h1,e])) ?_
    simp only[Ex.then,Ex.inBlock];refine aD (by simp[bw hk yC];rfl) ?_;exact⟨by simp[again,an,get,nrm,bG,aT],trivial⟩
   ·intro _;refine aj ?_;refine af (ag rfl (aO ?_));simp only[Ex.then,Ex.inBlock,if_true];refine aj ?_;refine ag rfl ?_;cases hn:ib l b i l.length with
    |true=>
     rw[hn]at b9;simp only[Bool.not_true,Bool.false_eq_true,if_false];refine ak ?_;simp only[Ex.then,Ex.inBlock];refine bK ?_;refine⟨?_,trivial⟩;rw[b9];simp[again,an,get,nrm,bG,aT,bw hi yC]
    |false=>
     rw[hn]at b9;simp only[Bool.not_false,if_true];refine aD (by
      simp[-cE, -fz,aT,hb,B.gw,B.gh,B.jm,B.bR,B.sM,bO,app,elems,roomy,show acc.length+1<=1073741824 by omega];rfl) ?_
     simp only[Ex.then,Ex.inBlock];refine bK ?_;refine⟨?_,trivial⟩;rw[b9];simp[again,an,get,nrm,bG,aT,bw hi yC,List.take_of_length_le]
 ·intro _;refine aj ?_;refine af (ag rfl (aO ?_));simp only[Ex.then,Ex.inBlock,if_true];refine aj ?_;refine ax ?_;simp[dI,R0,ck,dJ,eE,ev,get,M.look,M.bind,M.run,M.ok,shut,im,bZ,cE,fz,M.write,aT,eB];exact List.take_of_length_le (by simp)
end
def dW (x y:B):B:=⟨gL x.s0 y.s0,gL x.s1 y.s1,gL x.s2 y.s2,gL x.s3 y.s3⟩
theorem u3 {x y:B} {n m n' m':Nat} (h:x.lim n m) (h':y.lim n' m'):(dW x y).lim (n+n'+3) (m+m'):=by
 intro i hi
 match i,hi with
 |0,_=>exact uZ (h 0 (by omega)) (h' 0 (by omega))
 |1,_=>exact uZ (h 1 (by omega)) (h' 1 (by omega))
 |2,_=>exact uZ (h 2 (by omega)) (h' 2 (by omega))
 |3,_=>exact uZ (h 3 (by omega)) (h' 3 (by omega))
def jT (x:B) (l:List B):List B:=(l.map (dW x)).filter λc=>!eW cS c
def gI (a b:List B):List B:=a.flatMap λx=>jT x b
theorem yD (x:B) (l:List B):(jT x l).length<=l.length:=by
 have:=List.length_filter_le (λc=>!eW cS c) (l.map (dW x));rw[List.length_map]at this;exact this
theorem xf (b:List B):∀a:List B,(gI a b).length<=a.length*b.length
 |[]=>by simp[gI]
 |x::a=>by
  have h1:=xf b a;have h2:=yD x b;simp only[gI,List.flatMap_cons,List.length_append,List.length_cons,Nat.succ_mul]at *;omega
def qx:S:=⟨true,[(-9223372036854775808,9223372036854775807)],true,[]⟩
def bL:B:=⟨qx,qx,qx,qx⟩
def fR (s:Nat):List AV:=[.iv (.bool false),.own (s+2) 0 0 0,.iv (.bool false),.own (s+4) 0 0 0,.iv (.bool false),.own (s+6) 0 0 0,.iv (.bool false),.own (s+8) 0 0 0,
 .iv (.bool false),.own (s+10) 0 0 0,.iv (.bool false),.own (s+12) 0 0 0,.iv (.bool false),.own (s+14) 0 0 0,.iv (.bool false),.own (s+16) 0 0 0]
def ng (x y:B) (cs:List AV):Hp:=[(1000,.cells x.cs),(1064,.cells y.cs),(1130,.buf 0 2 []),(1132,.buf 0 1 []),(1134,.buf 0 2 []),(1136,.buf 0 1 []),(1138,.buf 0 2 []),(1140,.buf 0 1 []),(1142,.buf 0 2 []),(1144,.buf 0 1 []),(1128,.cells cs)]
section
variable {prog:Nat->Option aA}
set_option maxHeartbeats 4000000 in
theorem Oc (H:JV prog) (h:prog 115=some DO) (x y:B) (hx:x.lim 1000 400) (hy:y.lim 1000 400):a8 prog 115 [x.av,y.av] (dW x y).av:=by
 refine a8.of h rfl rfl (au (s':=⟨[(2,.ref 1000 0 0 0),(3,.ref 1064 0 0 0),(4,.ref 1128 0 0 0)],ng x y (fR 1128),1192⟩) (by simp[B.av,B.cI,ng,fR]) ?_);refine af (aj ?_);refine aq ?_;refine bQ 4 (λi=>⟨[(2,.ref 1000 0 0 0),(3,.ref 1064 0 0 0),(4,.ref 1128 0 0 0),(6,.nI i)],ng x y ((dW x y).cs.take (i*4)++(fR 1128).drop (i*4)),1256⟩) (λ_=>True) (by simp[an,get]) trivial ?_ ?_
 ·intro i hi _;have mo:(i:Int)<4:=by omega
  obtain⟨K,hK⟩:=W3 H (x.get i) (y.get i) (hx i hi) (hy i hi);refine au (by simp[mo,hi];rfl) ?_;refine af (ag rfl (ak (af (aq (aj ?_)))));refine aI (K:=K) (s':=⟨[(2,.ref 1000 0 0 0),(3,.ref 1064 0 0 0),(4,.ref 1128 0 0 0),(6,.nI i)],ng x y ((dW x y).cs.take ((i+1)*4)++(fR 1128).drop ((i+1)*4)),2088⟩) (λn hn=>by
   have e1:=hK n (by omega);generalize aZ prog n=g at e1;have P8:=B.iY x hi;have iJ:=B.iY y hi;have hz:bl ((dW x y).cs.take (i*4)++(fR 1128).drop (i*4)) (i*4) [.iv (.bool (gL (x.get i) (y.get i)).a),.iv (.sl 2 ((gL (x.get i) (y.get i)).i.map bM)),.iv (.bool (gL (x.get i) (y.get i)).c),.iv (.sl 1 ((gL (x.get i) (y.get i)).s.map st1))] =
     (dW x y).cs.take ((i+1)*4)++(fR 1128).drop ((i+1)*4):=by
    match i,hi with
    |0,_=>rfl
    |1,_=>rfl
    |2,_=>rfl
    |3,_=>rfl
   have wg:((dW x y).cs.take (i*4)++(fR 1128).drop (i*4)).length=16:=by
    match i,hi with
    |0,_=>rfl
    |1,_=>rfl
    |2,_=>rfl
    |3,_=>rfl
   simp only[S.av]at e1;have hm:i*4+4<=16:=by omega
   generalize(dW x y).cs.take (i*4)++(fR 1128).drop (i*4)=zs at hz wg;simp[-cE, -fz,ng,mo,hi,P8,iJ,B.bR,cE,fz,e1,wg,hm];simpa[bl]using hz) ?_
  simp only[Ex.then,Ex.inBlock];refine aD (by simp[gS hi];rfl) ?_;refine⟨?_,trivial⟩
  match i,hi with
  |0,_=>simp[again,an,get,cC,de,du,bG,ng,B.cT,fR,B.cs,B.enc,S.enc]
  |1,_=>simp[again,an,get,cC,de,du,bG,ng,B.cT,fR,B.cs,B.enc,S.enc]
  |2,_=>simp[again,an,get,cC,de,du,bG,ng,B.cT,fR,B.cs,B.enc,S.enc]
  |3,_=>simp[again,an,get,cC,de,du,bG,ng,B.cT,fR,B.cs,B.enc,S.enc]
 ·intro _;refine aj ?_;refine af (ag rfl (aO ?_));simp only[Ex.then,Ex.inBlock,if_true];refine af ?_;have vL:(dW x y).cs.take (4*4)++(fR 1128).drop (4*4)=(dW x y).cs:=rfl;rw[vL];refine aI (K:=0) (s':=⟨[(4,.ref 1128 0 0 0)],ng x y (dW x y).cs,1448⟩) (λn _=>by
   have hp:bl (dW x y).cs 0 (dW x y).cs=(dW x y).cs:=B.pk _ _ (B.bR _);simp[-cE, -fz, -bl,ng,B.hZ,B.bR,B.cI,hp]) ?_
  refine ax ?_;simp[dI,DO,ck,dJ,eE,load,bB,mk,ev,get,M.look,M.bind,M.run,az,M.ok,M.lift,shut,im,bZ,B.hZ,B.bR,B.c8,B.av,ng]
set_option maxHeartbeats 1000000 in
theorem Uf (hA:a8 prog 42 [] bL.av) (P9:prog 19=some Lb) (h:prog 26=some Pu) (x:S) {i:Nat} (hi:i<4):a8 prog 26 [.nI i,x.av] (bL.put i x).av:=by
 obtain⟨K1,ct⟩:=hA;obtain⟨K2,cZ⟩:=TS P9 bL x hi;refine a8.of h rfl rfl (au (by simp[S.av];rfl) ?_);refine cq (K:=max K1 K2) (λn hn=>by
  have e1:=ct n (by omega);have e2:=cZ n (by omega);generalize aZ prog n=g at e1 e2;simp only[S.av,B.av]at e1 e2;have hp:bl (fR 1064) 0 (bL.put i x).cs=(bL.put i x).cs:=B.pk _ _ rfl;simp only[fR]at hp;simp[-cE, -fz,B.c8,cE,fz,e1,e2,B.bR,B.cI,hp];rfl) ?_
 refine ax ?_;simp[dI,Pu,ck,dJ,eE,load,bB,mk,ev,get,M.look,M.bind,M.run,az,M.ok,M.lift,shut,im,bZ,B.hZ,B.bR,B.c8,B.av]
end
def mz (s:Nat):Hp:=[(s+2,.buf 0 2 []),(s+4,.buf 0 1 []),(s+6,.buf 0 2 []),(s+8,.buf 0 1 []),(s+10,.buf 0 2 []),(s+12,.buf 0 1 []),(s+14,.buf 0 2 []),(s+16,.buf 0 1 [])]
def jD (o:List B) (x:B):Hp:=[(1000,.buf 0 16 (o.map B.enc)),(1450,.buf 0 2 []),(1452,.buf 0 1 []),(1454,.buf 0 2 []),(1456,.buf 0 1 []),(1458,.buf 0 2 []),(1460,.buf 0 1 []),(1462,.buf 0 2 []),(1464,.buf 0 1 []),(1448,.cells x.cs)]
section
variable {prog:Nat->Option aA}
set_option maxHeartbeats 1000000 in
theorem Mo (H:xd prog) (JX:prog 115=some DO) (h:prog 121=some IU) (a b:List B) (la:a.length<=1000) (lb:b.length<=1000) (ha:∀x ∈ a,x.lim 1000 400) (hb:∀x ∈ b,x.lim 1000 400) :
  a8 prog 121 [aT a,aT b] (aT (gI a b)):=by
 have lam:a.length<=maxLen:=by unfold maxLen;omega
 have Yo:b.length<=maxLen:=by unfold maxLen;omega
 refine a8.of h rfl rfl (aj ?_);refine af (au (by simp[aT];rfl) ?_);refine aq ?_;refine bQ a.length (λi=>⟨[(1,aT b),(4,.own 1000 0 (gI (a.take i) b).length 0),(10,aT a),(11,.nI a.length),(12,.nI i)],[(1000,.buf 0 16 ((gI (a.take i) b).map B.enc))],1256⟩) (λ_=>True) (by simp[an,get,aT,gI]) trivial ?_ ?_
 ·intro i hi _;obtain⟨x,hx⟩:∃x,a[i]?=some x:=⟨_,List.getElem?_eq_getElem hi⟩;have rT:=ha x (List.mem_of_getElem? hx);have b9:gI (a.take (i+1)) b=gI (a.take i) b++jT x b:=by
   rw[List.take_add_one,hx];simp[gI]
  have ZS:(gI (a.take i) b).length<=1000000:=by
   have h1:=xf b (a.take i);have h2:(a.take i).length<=1000:=by rw[List.length_take];omega
   exact Nat.le_trans h1 (Nat.le_trans (Nat.mul_le_mul h2 lb) (by omega))
  generalize NY:gI (a.take i) b=acc at b9 ZS;refine au (by simp[hi];rfl) ?_;refine af (ag rfl (ak (af (aq (au (s':=⟨[(1,aT b),(4,.own 1000 0 acc.length 0),(6,.ref 1448 0 0 0),(10,aT a),(11,.nI a.length),(12,.nI i)],jD acc x,1576⟩) (by
   simp[-cE, -fz, -bl,aT,hx,B.gw,B.gh,B.jm,B.bR,B.cI,B.pk,jD]) ?_)))))
  refine au (by simp[aT];rfl) ?_;refine aq ?_;refine bQ b.length (λk=>⟨[(1,aT b),(4,.own 1000 0 (acc++jT x (b.take k)).length 0),(6,.ref 1448 0 0 0),(10,aT a),(11,.nI a.length),(12,.nI i),(16,aT b),(17,.nI b.length),(18,.nI k)],
   jD (acc++jT x (b.take k)) x,1768⟩) (λ_=>True) (by simp[an,get,aT,jT]) trivial ?_ ?_
  ·intro k hk _;obtain⟨y,hy⟩:∃y,b[k]?=some y:=⟨_,List.getElem?_eq_getElem hk⟩;have vG:=hb y (List.mem_of_getElem? hy);obtain⟨K1,ct⟩:=Oc H.toJV JX x y rT vG;obtain⟨K2,cZ⟩:=zq H.Hz H.P7 (dW x y);have hn:jT x (b.take (k+1))=jT x (b.take k)++if eW cS (dW x y) then[] else[dW x y]:=by
    rw[List.take_add_one,hy];cases h:eW cS (dW x y)<;>simp[jT,h]
   have HK:(acc++jT x (b.take k)).length<=1001000:=by
    have:=yD x (b.take k);rw[List.length_append];rw[List.length_take]at this;omega
   rw[hn,<-List.append_assoc];generalize acc++jT x (b.take k)=ac at HK;clear hn;generalize dW x y=z at ct cZ;refine au (by simp[hk,jD];rfl) ?_;refine af (ag rfl (ak (af (aq (au (s':=⟨[(1,aT b),(4,.own 1000 0 ac.length 0),(6,.ref 1448 0 0 0),(8,.ref 1960 0 0 0),(10,aT a),(11,.nI a.length),(12,.nI i),(16,aT b),(17,.nI b.length),(18,.nI k)],
    jD ac x++mz 1960++[(1960,.cells y.cs)],2088⟩) (by
    simp[-cE, -fz, -bl,aT,hy,B.gw,B.gh,B.jm,B.bR,B.cI,B.pk,jD,mz]) ?_)))))
   refine af ?_;refine aI (K:=K1) (s':=⟨[(1,aT b),(4,.own 1000 0 ac.length 0),(6,.ref 1448 0 0 0),(9,.ref 2280 0 0 0),(10,aT a),(11,.nI a.length),(12,.nI i),(16,aT b),(17,.nI b.length),(18,.nI k)],
    jD ac x++mz 1960++[(1960,.cells y.cs)]++mz 2280++[(2280,.cells z.cs)],2408⟩) (λn fD=>by
    have e:=ct n fD;generalize aZ prog n=g at e;simp only[B.av]at e;simp[-cE, -fz, -bl,bZ,B.hZ,B.c8,B.bR,B.cI,B.pk,jD,mz,e]) ?_
   refine af ?_;refine aI (K:=K2) (s':=⟨[(1,aT b),(4,.own 1000 0 ac.length 0),(6,.ref 1448 0 0 0),(9,.ref 2280 0 0 0),(10,aT a),(11,.nI a.length),(12,.nI i),(16,aT b),(17,.nI b.length),(18,.nI k),(27,.bI (!eW cS z))],
    jD ac x++mz 1960++[(1960,.cells y.cs)]++mz 2280++[(2280,.cells z.cs)],2600⟩) (λn fD=>by
    have e:=cZ n fD;generalize aZ prog n=g at e;simp only[B.av]at e;simp[-cE, -fz, -bl,bZ,B.hZ,B.c8,B.bR,jD,mz,e]) ?_
   refine ag rfl ?_;cases he:eW cS z with
   |true=>
    refine ak ?_;simp only[Ex.then,Ex.inBlock];refine aD (by simp[bw hk Yo,jD,mz];rfl) ?_;refine⟨?_,trivial⟩;simp[again,an,get,cC,de,du,bG,aT,jD,mz,B.cT]
   |false=>
    refine aD (by
     simp[-cE, -fz,jD,mz,aT,B.hZ,B.jm,B.bR,B.sM,bO,app,elems,roomy,show ac.length+1<=1073741824 by omega];rfl) ?_
    simp only[Ex.then,Ex.inBlock];refine aD (by simp[bw hk Yo];rfl) ?_;refine⟨?_,trivial⟩;simp[again,an,get,cC,de,du,bG,aT,jD,B.cT,List.take_of_length_le]
  ·intro _;refine au (by simp[jD];rfl) ?_;refine af (ag rfl (aO ?_));simp only[Ex.then,Ex.inBlock,if_true];refine aD (by simp[bw hi lam];rfl) ?_;refine⟨?_,trivial⟩;rw[b9];simp[again,an,get,cC,de,du,bG,aT,B.cT]
 ·intro _;refine aj ?_;refine af (ag rfl (aO ?_));simp only[Ex.then,Ex.inBlock,if_true];refine aj ?_;refine ax ?_;simp[dI,IU,ck,dJ,eE,ev,get,M.look,M.bind,M.run,M.ok,shut,im,bZ,cE,fz,M.write,aT];exact List.take_of_length_le (by simp)
end
def Mp (b:B):Bool:=jC dp b&&jC fF b
def fg (l:List B):Bool:=decide (l.length<=4)&&(l.all Mp&&(eB l).length==l.length)
section
variable {prog:Nat->Option aA}
set_option maxHeartbeats 1000000 in
theorem Od (H:xd prog) (AN:prog 24=some GX) (h46:prog 46=some Py) (FJ:prog 58=some Lf) (Qa:prog 45=some Px) (h:prog 30=some RY) (l:List B) (hl:l.length<=10000) (hL:∀b ∈ l,b.lim 1000 400) :
  a8 prog 30 [aT l] (.bI (fg l)):=by
 have yC:l.length<=maxLen:=by unfold maxLen;omega
 refine a8.of h rfl rfl (aj ?_);refine af (au (by simp[aT];rfl) ?_);refine ag rfl ?_;by_cases h4:l.length<=4
 ·have FK:decide ((4:Int)<(l.length:Int))=false:=decide_eq_false (by omega);rw[FK];refine ak (af (au (by simp[aT];rfl) ?_));refine aq ?_;refine bQ l.length (λi=>⟨[(0,aT l),(8,aT l),(9,.nI l.length),(10,.nI i)],[],1448⟩) (λi=>(l.take i).all Mp=true) (by simp[an,get,aT]) (by simp) ?_ ?_
  ·intro i hi dt;obtain⟨b,hb⟩:∃b,l[i]?=some b:=⟨_,List.getElem?_eq_getElem hi⟩;have vE:=hL b (List.mem_of_getElem? hb);obtain⟨K1,ct⟩:=NU dp (λx h1 h2=>Fl FJ x h1 h2) Qa b (λj hj=>⟨by have:=(vE j hj).i;unfold maxLen;omega,by have:=(vE j hj).s;unfold maxLen;omega⟩);obtain⟨K2,cZ⟩:=NT AN h46 b;refine au (by simp[hi];rfl) ?_;refine af (ag rfl (ak (af (aq (au (by
    simp[-cE, -fz,aT,hb,B.gw,B.gh,B.jm,B.bR,B.cI];rfl) ?_)))))
   refine cq (K:=max K1 K2) (s':=⟨[(0,aT l),(8,aT l),(9,.nI l.length),(10,.nI i),(21,.bI (!(jC dp b&&jC fF b)))],_,_⟩) (λn hn=>by
    have e1:=ct n (by omega);have e2:=cZ n (by omega);simp only[B.av]at e1 e2;cases hb:jC dp b<;>rw[hb]at e1<;>simp[aT,B.hZ,B.bR,B.c8,e1,e2]
    all_goals exact⟨rfl,rfl⟩) ?_
   refine ag rfl ?_;cases Yp:jC dp b&&jC fF b with
   |false=>
    refine aj ?_;refine ax ?_;have:fg l=false:=by
     unfold fg;rw[all_false hb (show Mp b=false from Yp)];simp
    rw[this];rfl
   |true=>
    refine ak ?_;simp only[Ex.then,Ex.inBlock];refine aD (by simp[bw hi yC];rfl) ?_;exact⟨by simp[again,an,get,nrm,bG,aT],by rw[gY hb,dt];exact Yp⟩
  ·intro dt;rw[List.take_length]at dt;obtain⟨K3,fP⟩:=Mn H l hl hL;refine aj ?_;refine af (ag rfl (aO ?_));simp only[Ex.then,Ex.inBlock,if_true];refine cq (K:=K3) (s':=⟨[(2,.bI (fg l))],[],_⟩) (λn hn=>by
    have e3:=fP n hn;simp only[aT]at e3;have e4:fg l=(((eB l).length:Int)==(l.length:Int)):=by
     unfold fg;rw[dt,decide_eq_true h4];simp only[Bool.true_and];by_cases h:(eB l).length=l.length
     ·rw[h];simp
     ·have:¬((eB l).length:Int)=(l.length:Int):=by omega
      rw[beq_eq_false_iff_ne.2 h,beq_eq_false_iff_ne.2 this]
    rw[e4];generalize eB l=t at e3;simp[aT,e3];rfl) ?_
   exact ax rfl
 ·have FK:decide ((4:Int)<(l.length:Int))=true:=decide_eq_true (by omega);rw[FK];refine aj ?_;refine ax ?_;have:fg l=false:=by unfold fg;rw[decide_eq_false h4];rfl
  rw[this];rfl
end
section
variable {prog:Nat->Option aA}
theorem FL (h:prog 138=some DP) (v:V):a8 prog 138 [v.av] (.bI (kg v)):=by
 refine a8.of h rfl rfl (au (by simp[V.av];rfl) ?_);refine af (aj ?_);refine aq (aj ?_);refine ag rfl ?_;unfold kg;cases h0:v.k==0 with
 |true=>
  refine au (s':=⟨[(2,.bI (v.n==0&&v.s==⟨#[]⟩))],_,_⟩) (by
   simp[h0];exact⟨rfl,rfl⟩) ?_
  exact ax rfl
 |false=>
  simp only[Bool.false_eq_true,if_false];refine aj ?_;refine ag rfl ?_;cases h1:v.k==1 with
  |true=>
   refine aj ?_;exact ax rfl
  |false=>
   simp only[Bool.false_eq_true,if_false];refine aj ?_;refine ag rfl ?_;cases h2:v.k==2 with
   |true=>
    refine au (s':=⟨[(2,.bI (v.n==0&&decide (v.s.size<=8)))],_,_⟩) (by
     have hs:decide ((v.s.size:Int)<=8)=decide (v.s.size<=8):=decide_eq_decide.2 (by omega);cases h3:v.n==0<;>simp[h3,hs]
     all_goals exact⟨rfl,rfl⟩) ?_
    exact ax rfl
   |false=>
    refine ak ?_;simp only[Ex.then,Ex.inBlock];refine aj ?_;exact ax rfl
theorem HL (zC:prog 138=some DP) (h:prog 137=some Ni) (e:E):a8 prog 137 [e.av] (.bI (eX e)):=by
 refine a8.of h rfl rfl (au (s':=⟨[(1,.ref 1000 0 0 0)],[(1000,.cells e.cs)],1128⟩) (by simp[E.av,E.cI]) ?_);refine af (au (by simp[E.Dx,E.bR];rfl) ?_);refine aq ?_;refine bQ 4 (λi=>⟨[(5,.agg e.cs),(6,.nI i)],[(1000,.cells e.cs)],1256⟩) (λi=>jS e i=true) rfl rfl ?_ ?_
 ·intro i hi hg;have cK:(i:Int)<4:=by omega
  have hm:min 3 (12 - i*3)=3:=by omega
  refine au (by simp[cK,hi];rfl) ?_;refine af (ag rfl (ak (af (aq (au (by simp[E.iY e hi,cK,hi,E.bR,hm];rfl) ?_)))));refine af ?_;obtain⟨K,hK⟩:=FL zC (e.get i);refine aI (K:=K) (λn hn=>by
   have hc:=hK n hn;simp only[V.av]at hc;simp[hc];rfl) ?_
  refine ag rfl ?_;have b9:jS e (i+1)=(jS e i&&kg (e.get i)):=rfl;cases hs:kg (e.get i)with
  |false=>
   refine aj ?_;refine ax ?_;have hf:jS e (i+1)=false:=by rw[b9,hs,Bool.and_false]
   have:eX e=false:=by
    have key:∀m,i+1<=m->jS e m=false:=by
     intro m hm
     induction m with
     |zero=>omega
     |succ m ih=>
      by_cases h:i+1=m+1
      ·rw[<-h];exact hf
      ·show(jS e m&&_)=false
       rw[ih (by omega)];rfl
    exact key 4 (by omega)
   rw[this];rfl
  |true=>
   refine ak ?_;simp only[Ex.then,Ex.inBlock];refine aD (by simp[gS hi];rfl) ?_;exact⟨by simp[again,an,get,cC,B1,bG,E.cT,show e.cs=e.enc.map .iv from rfl],by rw[b9,hg,hs];rfl⟩
 ·intro hg;refine aj ?_;refine af (ag rfl (aO ?_));simp only[Ex.then,Ex.inBlock,if_true];refine aj ?_;refine ax ?_;rw[show eX e=true from hg];rfl
end
def eG {α:Type} (f:α->Bool):List α->Nat->Int
 |[],_=>-1
 |x::l,k=>if f x then(k:Int) else eG f l (k+1)
theorem u4 {α:Type} (f:α->Bool):∀(l:List α) (k:Nat),decide (0<=eG f l k)=l.any f
 |[],k=>by simp[eG]
 |x::l,k=>by
  unfold eG;rw[List.any_cons];cases f x with
  |true=>simp
  |false=>simp[u4 f l (k+1)]
theorem qh {α:Type} {f:α->Bool} {l:List α} {i:Nat} {x:α} (h:l[i]?=some x):eG f (l.drop i) i=if f x then(i:Int) else eG f (l.drop (i+1)) (i+1):=by
 rw[drop_cons h];rfl
section
variable {prog:Nat->Option aA}
def yE (n:Int) (p:Int×Int):Bool:=decide (p.1<=n)&&decide (n<=p.2)
theorem ZT (h:prog 128=some BA) (v:V) (p:Int×Int):a8 prog 128 [.agg [.nI p.1,.nI p.2],.iv (.ptr v.enc)] (.bI (yE v.n p)):=by
 refine a8.of h rfl rfl (aj ?_);refine au (s':=⟨[(3,.bI (yE v.n p))],_,_⟩) (by
  unfold yE;cases h1:decide (p.1<=v.n)<;>simp[V.enc,h1]
  all_goals exact⟨rfl,rfl⟩) ?_
 exact ax rfl
theorem Ug (zD:prog 128=some BA) (h:prog 148=some DQ) (v:V) (l:List (Int×Int)) (hl:l.length<=maxLen):a8 prog 148 [.iv (.sl 2 (l.map bM)),.iv (.fn 128 [.ptr v.enc])] (.nI (eG (yE v.n) l 0)):=by
 refine a8.of h rfl rfl (aj ?_);refine af (aj ?_);refine aq ?_;refine bQ l.length (λi=>⟨[(0,.iv (.sl 2 (l.map bM))),(1,.iv (.fn 128 [.ptr v.enc])),(7,.nI l.length),(8,.nI i)],[],1256⟩) (λi=>eG (yE v.n) (l.drop i) i=eG (yE v.n) l 0) (by simp[an,get]) rfl ?_ ?_
 ·intro i hi hg;obtain⟨p,hp⟩:∃p,l[i]?=some p:=⟨_,List.getElem?_eq_getElem hi⟩;obtain⟨K,hK⟩:=ZT zD v p;rw[qh hp]at hg;refine au (by simp[hi];rfl) ?_;refine af (ag rfl (ak (af (aq (aj ?_)))));refine af ?_;generalize yE v.n p=b at hK hg;refine aI (K:=K) (s':=⟨[(0,.iv (.sl 2 (l.map bM))),(1,.iv (.fn 128 [.ptr v.enc])),(5,.nI i),(7,.nI l.length),(8,.nI i),(16,.bI b)],_,_⟩) (λn hn=>by
   have e:=hK n hn;simp[hp,bM,e];exact⟨rfl,rfl⟩) ?_
  refine ag rfl ?_;cases b with
  |true=>
   refine aj ?_;refine ax ?_;rw[<-hg];rfl
  |false=>
   refine ak ?_;simp only[Ex.then,Ex.inBlock];refine aD (by simp[bw hi hl];rfl) ?_;exact⟨by simp[again,an,get,nrm],by simpa using hg⟩
 ·intro hg;refine aj ?_;refine af (ag rfl (aO ?_));simp only[Ex.then,Ex.inBlock,if_true];refine aj ?_;refine ax ?_;rw[<-hg,List.drop_length];rfl
theorem Uh (zD:prog 128=some BA) (FM:prog 148=some DQ) (h:prog 141=some IW) (v:V) (l:List (Int×Int)) (hl:l.length<=maxLen):a8 prog 141 [.iv (.sl 2 (l.map bM)),.iv (.fn 128 [.ptr v.enc])] (.bI (po l v.n)):=by
 obtain⟨K,hK⟩:=Ug zD FM v l hl;refine a8.of h rfl rfl (aj ?_);refine af ?_;have hh:decide (0<=eG (yE v.n) l 0)=po l v.n:=u4 (yE v.n) l 0;generalize eG (yE v.n) l 0=q at hK hh;refine aI (K:=K) (s':=⟨[(4,.bI (po l v.n))],_,_⟩) (λn hn=>by
  have e:=hK n hn;simp[e,hh];exact⟨rfl,rfl⟩) ?_
 exact ax rfl
set_option maxHeartbeats 1000000 in
theorem Ui (zD:prog 128=some BA) (FM:prog 148=some DQ) (Oe:prog 141=some IW) (zC:prog 138=some DP) (gq:prog 64=some DM) (yu:prog 53=some G7) (h:prog 127=some Nf) (x:S) (v:V) (hi:x.i.length<=maxLen) (hs:x.s.length<=maxLen) :
  a8 prog 127 [x.av,v.av] (.bI (gK x v)):=by
 obtain⟨K1,ct⟩:=FL zC v;obtain⟨K2,cZ⟩:=Uh zD FM Oe v x.i hi;obtain⟨K3,fP⟩:=AQ gq yu x.s v.s hs;refine a8.of h rfl rfl (au (by simp[S.av,V.av];rfl) ?_);refine af (aq (af ?_));unfold gK;have LC:kg v=if v.k==0 then v.n==0&&v.s==⟨#[]⟩ else if v.k==1 then v.s==⟨#[]⟩ else if v.k==2 then v.n==0&&decide (v.s.size<=8) else false:=rfl
 generalize hr:kg v=r at *;refine aI (K:=K1) (s':=⟨[(2,.ref 1000 0 0 0),(3,.ref 1064 0 0 0),(5,.bI (!r))],_,_⟩) (λn hn=>by
  have e:=ct n hn;simp only[V.av]at e;simp[e];exact⟨rfl,rfl⟩) ?_
 refine ag rfl ?_;cases r with
 |false=>
  refine aj ?_;exact ax rfl
 |true=>
  simp only[Bool.not_true,Bool.false_eq_true,if_false];refine aj ?_;refine ag rfl ?_;cases h1:v.k==1 with
  |true=>
   have h0:(v.k==0)=false:=by have:=beq_iff_eq.1 h1;rw[this];rfl
   rw[h0];simp only[Bool.false_eq_true,if_false,if_true];refine af ?_;generalize po x.i v.n=b at cZ ⊢;refine aI (K:=K2) (s':=⟨[(4,.bI b)],_,_⟩) (λn hn=>by
    have e:=cZ n hn;simp only[V.enc]at e;simp[e,fz];exact⟨rfl,rfl⟩) ?_
   exact ax rfl
  |false=>
   simp only[Bool.false_eq_true,if_false];refine aj ?_;refine ag rfl ?_;cases h2:v.k==2 with
   |true=>
    have h0:(v.k==0)=false:=by have:=beq_iff_eq.1 h2;rw[this];rfl
    rw[h0];simp only[Bool.false_eq_true,if_false,if_true];refine af ?_;generalize dN x.s v.s=b at fP ⊢;refine aI (K:=K3) (s':=⟨[(4,.bI (b != x.c))],_,_⟩) (λn hn=>cM rfl (by
     have e:=fP n hn;simp[e];refine⟨?_,rfl,rfl⟩;cases b<;>cases x.c<;>rfl)) ?_
    exact ax rfl
   |false=>
    have h0:(v.k==0)=true:=by
     cases h0:v.k==0 with
     |true=>rfl
     |false=>rw[h0,h1,h2]at LC;simp at LC
    rw[h0];simp only[if_true];refine ak ?_;simp only[Ex.then,Ex.inBlock];refine aj ?_;exact ax rfl
end
structure B6 (prog:Nat->Option aA):Prop where
 zD:prog 128=some BA
 FM:prog 148=some DQ
 Oe:prog 141=some IW
 zC:prog 138=some DP
 Uj:prog 137=some Ni
 gq:prog 64=some DM
 yu:prog 53=some G7
 ZU:prog 127=some Nf
 ZV:prog 116=some R9
 ZW:prog 120=some Sb
 ZX:prog 151=some Si
 Of:prog 144=some Sf
 ZY:prog 119=some Sa
section
variable {prog:Nat->Option aA}
set_option maxHeartbeats 1000000 in
theorem Uk (H:B6 prog) (b:B) (e:E) (hb:b.fits):a8 prog 116 [b.av,e.av] (.bI (hasB b e)):=by
 obtain⟨K1,ct⟩:=HL H.zC H.Uj e;refine a8.of H.ZV rfl rfl (au (s':=⟨[(2,.ref 1000 0 0 0),(3,.ref 1064 0 0 0)],[(1000,.cells b.cs),(1064,.cells e.cs)],1192⟩) (by simp[B.av,E.av,B.cI,E.cI]) ?_);refine af (cq (K:=K1) (s':=⟨[(2,.ref 1000 0 0 0),(3,.ref 1064 0 0 0),(9,.bI (!eX e))],[(1000,.cells b.cs),(1064,.cells e.cs)],1384⟩) (λn hn=>by
  have c:=ct n hn;simp only[E.av]at c;simp[E.Dx,E.bR,E.c8,c]) ?_)
 refine ag rfl ?_;unfold hasB;cases hr:eX e with
 |false=>
  refine aj ?_;exact ax rfl
 |true=>
  simp only[Bool.not_true,Bool.false_eq_true,if_false];refine ak ?_;simp only[Ex.then];refine af (au (by simp[B.hZ,B.bR];rfl) ?_);refine aq ?_;refine bQ 4 (λi=>⟨[(3,.ref 1064 0 0 0),(10,.agg b.cs),(11,.nI i)],[(1000,.cells b.cs),(1064,.cells e.cs)],1512⟩) (λi=>mN b e i=true) (by simp[an,get]) rfl ?_ ?_
  ·intro i hi hg;have cK:(i:Int)<4:=by omega
   have hm:min 4 (16 - i*4)=4:=by omega
   have sQ:min 3 (12 - i*3)=3:=by omega
   refine au (by simp[cK,hi];rfl) ?_;refine af (ag rfl (ak (af (aq (au (by simp[B.iY b hi,cK,hi,B.bR,hm];rfl) ?_)))));refine af ?_;obtain⟨K,hK⟩:=Ui H.zD H.FM H.Oe H.zC H.gq H.yu H.ZU (b.get i) (e.get i) (hb i hi).1 (hb i hi).2;have b9:mN b e (i+1)=(mN b e i&&gK (b.get i) (e.get i)):=rfl;generalize gK (b.get i) (e.get i)=q at hK b9;refine aI (K:=K) (λn hn=>by
    have hc:=hK n hn;simp only[S.av,V.av]at hc;simp[E.iY e hi,cK,hi,E.bR,sQ,hc];rfl) ?_
   refine ag rfl ?_;cases q with
   |false=>
    refine aj ?_;refine ax ?_;have hf:mN b e (i+1)=false:=by rw[b9,Bool.and_false]
    have:mN b e 4=false:=by
     have key:∀m,i+1<=m->mN b e m=false:=by
      intro m hm
      induction m with
      |zero=>omega
      |succ m ih=>
       by_cases h:i+1=m+1
       ·rw[<-h];exact hf
       ·show(mN b e m&&_)=false
        rw[ih (by omega)];rfl
     exact key 4 (by omega)
    rw[this];rfl
   |true=>
    refine ak ?_;simp only[Ex.then,Ex.inBlock];refine aD (by simp[gS hi];rfl) ?_;exact⟨by simp[again,an,get,cC,de,B1,bG,E.cT,B.cT,show b.cs=b.enc.map .iv from rfl],by rw[b9,hg];rfl⟩
  ·intro hg;refine aj ?_;refine af (ag rfl (aO ?_));simp only[Ex.then,Ex.inBlock,if_true];refine aj ?_;refine ax ?_;rw[hg];rfl
theorem Ul (H:B6 prog) (b:B) (e:E) (hb:b.fits):a8 prog 120 [b.av,.iv (.ptr e.enc)] (.bI (hasB b e)):=by
 obtain⟨K1,ct⟩:=Uk H b e hb;refine a8.of H.ZW rfl rfl (au (s':=⟨[(1,.iv (.ptr e.enc)),(2,.ref 1000 0 0 0)],[(1000,.cells b.cs)],1128⟩) (by simp[B.av,B.cI]) ?_);refine af ?_;generalize hasB b e=q at ct ⊢;refine aI (K:=K1) (s':=⟨[(3,.bI q)],[(1000,.cells b.cs)],1384⟩) (λn hn=>by
  have c:=ct n hn;have hle:e.enc.length=12:=rfl;have het:e.enc.take 12=e.enc:=rfl;have fI:e.enc.map AV.iv=e.cs:=rfl;simp only[B.av,E.av]at c;simp[B.hZ,B.bR,B.c8,E.c8,hle,het,fI,c]) ?_
 exact ax rfl
theorem Um (H:B6 prog) (l:List B) (e:E) (hl:l.length<=maxLen) (hL:∀b ∈ l,b.fits):a8 prog 151 [aT l,.iv (.fn 120 [.ptr e.enc])] (.nI (eG (λb=>hasB b e) l 0)):=by
 refine a8.of H.ZX rfl rfl (aj ?_);refine af (au (by simp[aT];rfl) ?_);refine aq ?_;refine bQ l.length (λi=>⟨[(0,aT l),(1,.iv (.fn 120 [.ptr e.enc])),(7,.nI l.length),(8,.nI i)],[],1256⟩) (λi=>eG (λb=>hasB b e) (l.drop i) i=eG (λb=>hasB b e) l 0) (by simp[an,get,aT]) rfl ?_ ?_
 ·intro i hi hg;obtain⟨b,hb⟩:∃b,l[i]?=some b:=⟨_,List.getElem?_eq_getElem hi⟩;obtain⟨K,hK⟩:=Ul H b e (hL b (List.mem_of_getElem? hb));rw[qh hb]at hg;refine au (by simp[hi];rfl) ?_;refine af (ag rfl (ak (af (aq (aj ?_)))));refine af ?_;generalize hasB b e=q at hK hg;refine aI (K:=K) (s':=⟨[(0,aT l),(1,.iv (.fn 120 [.ptr e.enc])),(5,.nI i),(7,.nI l.length),(8,.nI i),(16,.bI q)],_,_⟩) (λn hn=>by
   have c:=hK n hn;simp only[B.av]at c;simp[aT,hb,B.gw,B.gh,B.jm,B.c8,c];exact⟨rfl,rfl⟩) ?_
  refine ag rfl ?_;cases q with
  |true=>
   refine aj ?_;refine ax ?_;rw[<-hg];rfl
  |false=>
   refine ak ?_;simp only[Ex.then,Ex.inBlock];refine aD (by simp[bw hi hl];rfl) ?_;exact⟨by simp[again,an,get,nrm,aT],by simpa using hg⟩
 ·intro hg;refine aj ?_;refine af (ag rfl (aO ?_));simp only[Ex.then,Ex.inBlock,if_true];refine aj ?_;refine ax ?_;rw[<-hg,List.drop_length];rfl
theorem Un (H:B6 prog) (l:List B) (e:E) (hl:l.length<=maxLen) (hL:∀b ∈ l,b.fits):a8 prog 119 [aT l,e.av] (.bI (gi l e)):=by
 obtain⟨K,hK⟩:=Um H l e hl hL;have hh:decide (0<=eG (λb=>hasB b e) l 0)=gi l e:=u4 _ l 0;have Of:a8 prog 144 [aT l,.iv (.fn 120 [.ptr e.enc])] (.bI (gi l e)):=by
  refine a8.of H.Of rfl rfl (aj ?_);refine af ?_;generalize eG (λb=>hasB b e) l 0=q at hK hh;refine aI (K:=K) (s':=⟨[(4,.bI (gi l e))],[],1384⟩) (λn hn=>by
   have c:=hK n hn;simp only[aT]at c;simp[aT,c,hh]) ?_
  exact ax rfl
 obtain⟨K2,cZ⟩:=Of;refine a8.of H.ZY rfl rfl (au (s':=⟨[(0,aT l),(3,.ref 1000 0 0 0)],[(1000,.cells e.cs)],1128⟩) (by simp[E.av,E.cI]) ?_);refine af ?_;generalize gi l e=q at cZ ⊢;refine aI (K:=K2) (s':=⟨[(4,.bI q)],[(1000,.cells e.cs)],1384⟩) (λn hn=>by
  have c:=cZ n hn;simp only[aT]at c;have fe:(bZ false (.dg 120 [.ref 1000 0 0 0])).run [(1000,.cells e.cs)]=some (.iv (.fn 120 [.ptr e.enc]),[(1000,.cells e.cs)]):=by
   simp[bZ,fz,cE,M.aG,M.run,az,M.look,M.bind,M.ok,ao.get,E.cs,E.enc,V.enc]
  have n9:∀(es:List (List IV)),bZ false (.iv (.sl 16 es)) = .ret (.iv (.sl 16 es)):=λ_=>rfl
  simp[-bZ, -fz, -cE,aT,fe,n9,c]) ?_
 exact ax rfl
end
def oG:List Int->Nat->Bool
 |[],_=>true
 |p::l,i=>!(decide (p<0)||decide ((i:Int)<p))&&oG l (i+1)
def pK (n:Nat):List Int->Bool
 |[]=>true
 |b::l=>!(decide (b<0)||decide ((n:Int)<b))&&pK n l
def qi (h:Hd):Bool:=decide (8<h.hs.length)||(decide (h.b<0)||(decide (1000000<h.b)||h.g==18446744073709551615))
def eS (h:Hd):Int:=if 8<=h.ps.length then 8 else if oG h.ps 0 then(if qi h then 1 else if pK h.ps.length h.hs then 0 else 1) else 8
section
variable {prog:Nat->Option aA}
set_option maxHeartbeats 1000000 in
theorem Ra (h:prog 131=some Nh) (x:Hd) (hp:x.ps.length<=maxLen) (hh:x.hs.length<=maxLen):a8 prog 131 [x.av] (.nI (eS x)):=by
 have fI:x.cs=[.iv (.sl 1 (x.ps.map fQ)),.iv (.sl 1 (x.hs.map fQ)),.nI x.b,.iv (.int .u64 x.g)]:=rfl;refine a8.of h rfl rfl (au (s':=⟨[(1,.ref 1000 0 0 0)],[(1000,.cells x.cs)],1128⟩) (by simp[Hd.av,Hd.cI]) ?_);refine af (au (s':=⟨[(1,.ref 1000 0 0 0),(10,.bI (decide (8<=x.ps.length)))],[(1000,.cells x.cs)],1384⟩) (by
  have:decide ((8:Int)<=(x.ps.length:Int))=decide (8<=x.ps.length):=decide_eq_decide.2 (by omega);simp[fI,this]) ?_)
 refine ag rfl ?_;unfold eS;by_cases h8:8<=x.ps.length
 ·rw[decide_eq_true h8];refine aj ?_;refine ax ?_;rw[if_pos h8];rfl
 ·rw[decide_eq_false h8,if_neg h8];refine ak ?_;simp only[Ex.then];refine af (au (s':=⟨[(1,.ref 1000 0 0 0),(12,.iv (.sl 1 (x.ps.map fQ))),(13,.nI x.ps.length),(14,.nI 0)],[(1000,.cells x.cs)],1640⟩) (by simp[fI]) ?_);refine aq ?_;refine bQ x.ps.length (λi=>⟨[(1,.ref 1000 0 0 0),(12,.iv (.sl 1 (x.ps.map fQ))),(13,.nI x.ps.length),(14,.nI i)],[(1000,.cells x.cs)],1640⟩) (λi=>oG (x.ps.drop i) i=oG x.ps 0) (by simp[an,get]) rfl ?_ ?_
  ·intro i hi hg;obtain⟨p,A4⟩:∃p,x.ps[i]?=some p:=⟨_,List.getElem?_eq_getElem hi⟩;rw[drop_cons A4]at hg
   conv at hg=>lhs;unfold oG
   refine au (by simp[hi];rfl) ?_;refine af (ag rfl (ak (af (aq (au (by simp[A4,fQ];rfl) ?_)))));refine au (s':=⟨[(1,.ref 1000 0 0 0),(12,.iv (.sl 1 (x.ps.map fQ))),(13,.nI x.ps.length),(14,.nI i),(25,.bI (decide (p<0)||decide ((i:Int)<p)))],[(1000,.cells x.cs)],_⟩) (by
    cases h1:decide (p<0)<;>simp[h1]
    all_goals rfl) ?_
   refine ag rfl ?_;cases hb:decide (p<0)||decide ((i:Int)<p)with
   |true=>
    rw[hb]at hg;refine aj ?_;refine ax ?_;rw[<-hg];rfl
   |false=>
    rw[hb]at hg;refine ak ?_;simp only[Ex.then,Ex.inBlock];refine aD (by simp[bw hi hp];rfl) ?_;exact⟨by simp[again,an,get,cC,de,bG,Hd.cT],by simpa using hg⟩
  ·intro hg;rw[List.drop_length]at hg;refine aj ?_;refine af (ag rfl (aO ?_));simp only[Ex.then,Ex.inBlock,if_true];have hpo:oG x.ps 0=true:=by rw[<-hg];rfl
   rw[hpo];simp only[if_true];refine af (au (s':=⟨[(1,.ref 1000 0 0 0),(45,.bI (qi x))],[(1000,.cells x.cs)],2920⟩) (by
    have:decide ((8:Int)<(x.hs.length:Int))=decide (8<x.hs.length):=decide_eq_decide.2 (by omega);unfold qi;cases h1:decide (8<x.hs.length)
    ·cases h2:decide (x.b<0)
     ·cases h3:decide (1000000<x.b)<;>simp[fI,this,h1,h2,h3]
     ·simp[fI,this,h1,h2]
    ·simp[fI,this,h1]) ?_)
   refine ag rfl ?_;cases CU:qi x with
   |true=>
    refine aj ?_;exact ax rfl
   |false=>
    simp only[Bool.false_eq_true,if_false];refine ak ?_;simp only[Ex.then];refine af (au (s':=⟨[(1,.ref 1000 0 0 0),(47,.iv (.sl 1 (x.hs.map fQ))),(48,.nI x.hs.length),(49,.nI 0)],[(1000,.cells x.cs)],3176⟩) (by simp[fI]) ?_);refine aq ?_;refine bQ x.hs.length (λi=>⟨[(1,.ref 1000 0 0 0),(47,.iv (.sl 1 (x.hs.map fQ))),(48,.nI x.hs.length),(49,.nI i)],[(1000,.cells x.cs)],3176⟩) (λi=>pK x.ps.length (x.hs.drop i)=pK x.ps.length x.hs) (by simp[an,get]) rfl ?_ ?_
    ·intro i hi hg;obtain⟨p,A4⟩:∃p,x.hs[i]?=some p:=⟨_,List.getElem?_eq_getElem hi⟩;rw[drop_cons A4]at hg
     conv at hg=>lhs;unfold pK
     refine au (by simp[hi];rfl) ?_;refine af (ag rfl (ak (af (aq (au (by simp[A4,fQ];rfl) ?_)))));refine au (s':=⟨[(1,.ref 1000 0 0 0),(47,.iv (.sl 1 (x.hs.map fQ))),(48,.nI x.hs.length),(49,.nI i),(61,.bI (decide (p<0)||decide ((x.ps.length:Int)<p)))],[(1000,.cells x.cs)],_⟩) (by
      cases h1:decide (p<0)<;>simp[fI,h1]
      all_goals rfl) ?_
     refine ag rfl ?_;cases hb:decide (p<0)||decide ((x.ps.length:Int)<p)with
     |true=>
      rw[hb]at hg;refine aj ?_;refine ax ?_;rw[<-hg];rfl
     |false=>
      rw[hb]at hg;refine ak ?_;simp only[Ex.then,Ex.inBlock];refine aD (by simp[bw hi hh];rfl) ?_;exact⟨by simp[again,an,get,cC,de,bG,Hd.cT],by simpa using hg⟩
    ·intro hg;rw[List.drop_length]at hg;refine aj ?_;refine af (ag rfl (aO ?_));simp only[Ex.then,Ex.inBlock,if_true];refine aj ?_;refine ax ?_;rw[<-hg];rfl
end
def ints (l:List Int):AV:=.iv (.sl 1 (l.map fQ))
structure Uo (prog:Nat->Option aA):Prop where
 ZZ:prog 131=some Nh
 abq:prog 134=some Sd
 abr:prog 135=some Se
 abt:prog 133=some Sc
 abu:prog 145=some Sg
 abv:prog 152=some Sj
section
variable {prog:Nat->Option aA}
end
section
variable {prog:Nat->Option aA}
end
section
variable {prog:Nat->Option aA}
theorem Up (h:prog 171=some I3) (a b:List Int) (ha:a.length<=maxLen):a8 prog 171 [ints a,ints b] (.bI (a==b)):=by
 refine a8.of h rfl rfl (aj ?_);refine af (au (s':=⟨[(0,ints a),(1,ints b),(10,.bI (!decide (a.length=b.length)))],[],1384⟩) (by
  have:((a.length:Int) != (b.length:Int))=!decide (a.length=b.length):=by
   by_cases h:a.length=b.length
   ·simp[h]
   ·have:(a.length:Int)≠(b.length:Int):=by omega
    simp[h,this]
  simp[ints,this]) ?_)
 refine ag rfl ?_;by_cases CU:a.length=b.length
 ·rw[decide_eq_true CU];refine ak ?_;simp only[Ex.then];refine af (aj ?_);refine aq ?_;refine bQ a.length (λi=>⟨[(0,ints a),(1,ints b),(5,.nI i)],[],1448⟩) (λi=>a.take i=b.take i) (by simp[an,get,ints]) rfl ?_ ?_
  ·intro i hi hg;obtain⟨p,hp⟩:∃p,a[i]?=some p:=⟨_,List.getElem?_eq_getElem hi⟩;obtain⟨q,hq⟩:∃q,b[i]?=some q:=⟨_,List.getElem?_eq_getElem (by omega)⟩;have PR:(a.map fQ)[i]?=some (fQ p):=by rw[List.getElem?_map,hp];rfl
   have hqr:(b.map fQ)[i]?=some (fQ q):=by rw[List.getElem?_map,hq];rfl
   have iT:(a.map fQ).length=a.length:=by simp
   refine af (au (s':=⟨[(0,ints a),(1,ints b),(5,.nI i),(14,.bI true)],[],1704⟩) (by simp[ints,hi]) ?_);refine ag (t:=true) rfl (ak ?_);simp only[Ex.then];refine af (aq (au (s':=⟨[(0,ints a),(1,ints b),(5,.nI i),(25,.bI (!(p==q)))],[],2280⟩) (by
    have:(p != q)=!(p==q):=rfl;simp[ints,hp,hq,fQ,this]) ?_))
   refine ag rfl ?_;cases hb:p==q with
   |true=>
    refine ak ?_;simp only[Ex.then,Ex.inBlock];refine aD (by simp[bw hi ha];rfl) ?_;refine⟨by simp[again,an,get,nrm,ints],?_⟩;rw[List.take_add_one,List.take_add_one,hp,hq,hg,show p=q by simpa using hb]
   |false=>
    refine aj ?_;refine ax ?_;have:(a==b)=false:=by
     rw[Bool.eq_false_iff];intro h;have:=eq_of_beq h;subst this;rw[hp]at hq;cases hq;simp at hb
    rw[this];rfl
  ·intro hg;refine af (au (s':=⟨[(0,ints a),(1,ints b),(5,.nI a.length),(14,.bI false)],[],1704⟩) (by simp[ints]) ?_);refine ag (t:=false) rfl (aO ?_);simp only[Ex.then,Ex.inBlock,if_true];refine aj ?_;refine ax ?_;have:a=b:=by rw[List.take_length]at hg;rw[hg,CU,List.take_length]
   subst this;simp only[beq_self_eq_true];rfl
 ·rw[decide_eq_false CU];refine aj ?_;refine ax ?_;have:(a==b)=false:=by
   rw[Bool.eq_false_iff];intro h;exact CU (by rw[eq_of_beq h])
  rw[this];rfl
end
theorem vM {e:E} {i:Nat} (h:kg (e.get i)=false):∀n,i<n->jS e n=false
 |0,hn=>absurd hn (Nat.not_lt_zero _)
 |n+1,hn=>by
  rw[jS];by_cases hi:i=n
  ·subst hi;rw[h,Bool.and_false]
  ·rw[vM h n (by omega),Bool.false_and]
theorem yF {b:B} {e:E} {i:Nat} (h:gK (b.get i) (e.get i)=false):∀n,i<n->mN b e n=false
 |0,hn=>absurd hn (Nat.not_lt_zero _)
 |n+1,hn=>by
  rw[mN];by_cases hi:i=n
  ·subst hi;rw[h,Bool.and_false]
  ·rw[yF h n (by omega),Bool.false_and]
section
variable {prog:Nat->Option aA}
set_option maxHeartbeats 1000000 in
theorem FN (HM:prog 43=some Pw) (h:prog 34=some Lc) (e:E):a8 prog 34 [e.av] (.bI (eX e)):=by
 refine a8.of h rfl rfl (au (by simp[-cE, -fz,E.av,E.cI];rfl) ?_);refine af (aj ?_);refine aq ?_;refine bQ 4 (λi=>⟨[(1,.ref 1000 0 0 0),(3,.nI i)],[(1000,.cells e.cs)],1192⟩) (λi=>jS e i=true) rfl rfl ?_ ?_
 ·intro i hi hg;have cK:(i:Int)<4:=by omega
  have hm:min 3 (12 - i*3)=3:=by omega
  refine af (au (by simp[cK];rfl) ?_);refine ag rfl (ak (af (aq (af ?_))));obtain⟨K,hK⟩:=FE HM (e.get i);refine aI (K:=K) (λn hn=>by
   have e1:=hK n hn;simp only[V.av]at e1;generalize aZ prog n=g at e1;simp[cK,E.iY e hi,E.bR,hm,e1];rfl) ?_
  refine ag rfl ?_;cases hr:kg (e.get i)with
  |false=>
   refine aj ?_;refine ax ?_;rw[show eX e=false from vM hr 4 hi];rfl
  |true=>
   refine ak ?_;refine bK ?_;refine⟨by simp[again,an,get,cC,eP,bG,E.cT,gS hi],?_⟩;rw[jS,hg,hr];rfl
 ·intro hg;refine af (aj ?_);refine ag rfl (aO ?_);simp only[Ex.then,Ex.inBlock,if_true];refine aj ?_;refine ax ?_;rw[show eX e=true from hg];rfl
structure JY (prog:Nat->Option aA):Prop where
 Yq:prog 35=some RZ
 HM:prog 43=some Pw
 h48:prog 48=some R1
 tZ:prog 49=some DK
set_option maxHeartbeats 1000000 in
theorem FO (H:JY prog) (x:S) (v:V) (hi:x.i.length<=maxLen) (hs:x.s.length<=maxLen):a8 prog 35 [x.av,v.av] (.bI (gK x v)):=by
 obtain⟨K1,ct⟩:=FE H.HM v;refine a8.of H.Yq rfl rfl (au (by simp[S.av,V.av];rfl) ?_);refine af (cq (K:=K1) (λn hn=>by
  have e1:=ct n hn;simp only[V.av]at e1;generalize aZ prog n=g at e1;simp[e1];rfl) ?_)
 unfold gK;refine ag rfl ?_;cases hr:kg v with
 |false=>
  refine aj ?_;exact ax rfl
 |true=>
  refine ak (af (aj ?_));refine aq (aj ?_);refine ag rfl ?_;cases h0:v.k==0 with
  |true=>
   refine aj ?_;exact ax rfl
  |false=>
   refine aj ?_;refine ag rfl ?_;cases h1:v.k==1 with
   |true=>
    obtain⟨K2,cZ⟩:=T7 H.h48 x.i v.n hi;refine cq (K:=K2) (λn hn=>by
     have e1:=cZ n hn;generalize aZ prog n=g at e1;simp[e1];rfl) ?_
    exact ax rfl
   |false=>
    refine ak ?_;simp only[Ex.then,Ex.inBlock];obtain⟨K3,fP⟩:=A2 H.tZ x.s v.s hs;refine af ?_;refine aI (K:=K3) (λn hn=>cM rfl (by
     have e1:=fP n hn;generalize aZ prog n=g at e1;simp[e1];rfl)) ?_
    refine ax ?_;simp[dI,RZ,ck,dJ,eE,ev,get,M.run,shut,im,bZ,cE,fz,az,M.bind];cases dN x.s v.s<;>cases x.c<;>rfl
set_option maxHeartbeats 1000000 in
theorem Uq (H:JY prog) (HN:prog 34=some Lc) (h:prog 20=some Pt) (b:B) (e:E) (hb:b.fits):a8 prog 20 [b.av,e.av] (.bI (hasB b e)):=by
 obtain⟨K1,ct⟩:=FN H.HM HN e;refine a8.of h rfl rfl (au (by simp[-cE, -fz,B.av,B.cI,E.av,E.cI];rfl) ?_);refine af (cq (K:=K1) (λn hn=>by
  have e1:=ct n hn;simp only[E.av]at e1;generalize aZ prog n=g at e1;simp[-cE, -fz,E.Dx,E.bR,E.c8,e1];rfl) ?_)
 unfold hasB;refine ag rfl ?_;cases hr:eX e with
 |false=>
  refine aj ?_;exact ax rfl
 |true=>
  refine ak (af (aj ?_));refine aq ?_;refine bQ 4 (λi=>⟨[(2,.ref 1000 0 0 0),(3,.ref 1064 0 0 0),(5,.nI i)],[(1000,.cells b.cs),(1064,.cells e.cs)],1448⟩) (λi=>mN b e i=true) rfl rfl ?_ ?_
  ·intro i hi hg;have cK:(i:Int)<4:=by omega
   have hm:min 3 (12 - i*3)=3:=by omega
   have iX:min 4 (16 - i*4)=4:=by omega
   refine af (au (by simp[cK];rfl) ?_);refine ag rfl (ak (af (aq (af ?_))));obtain⟨K,hK⟩:=FO H (b.get i) (e.get i) (hb i hi).1 (hb i hi).2;refine aI (K:=K) (s':=⟨[(2,.ref 1000 0 0 0),(3,.ref 1064 0 0 0),(5,.nI i),(20,.bI (!gK (b.get i) (e.get i)))],[(1000,.cells b.cs),(1064,.cells e.cs)],2088⟩) (λn hn=>cM rfl (by
    have e1:=hK n hn;simp only[V.av,S.av]at e1;generalize aZ prog n=g at e1;simp[cK,E.iY e hi,E.bR,hm,iX,B.iY b hi,B.bR,e1])) ?_
   refine ag rfl ?_;cases hr:gK (b.get i) (e.get i)with
   |false=>
    refine aj ?_;refine ax ?_;rw[yF hr 4 hi];rfl
   |true=>
    refine ak ?_;refine bK ?_;refine⟨by simp[again,an,get,cC,eP,bG,E.cT,B.cT,gS hi],?_⟩;rw[mN,hg,hr];rfl
  ·intro hg;refine af (aj ?_);refine ag rfl (aO ?_);simp only[Ex.then,Ex.inBlock,if_true];refine aj ?_;refine ax ?_;rw[hg];rfl
set_option maxHeartbeats 1000000 in
theorem Ur (H:JY prog) (HN:prog 34=some Lc) (Us:prog 20=some Pt) (h:prog 8=some F8) (f:List B) (e:E) (hl:f.length<=maxLen) (hf:∀b ∈ f,b.fits):a8 prog 8 [aT f,e.av] (.bI (gi f e)):=by
 refine a8.of h rfl rfl (au (by simp[-cE, -fz,E.av,E.cI];rfl) ?_);refine af (aj ?_);refine aq ?_;refine bQ f.length (λi=>⟨[(0,aT f),(3,.ref 1000 0 0 0),(5,.nI i)],[(1000,.cells e.cs)],1192⟩) (λi=>gi (f.take i) e=false) rfl (by simp[gi]) ?_ ?_
 ·intro i hi hg;have cK:(i:Int)<f.length:=by omega
  obtain⟨b,hb⟩:∃x,f[i]?=some x:=⟨_,List.getElem?_eq_getElem hi⟩;refine af (au (by simp[aT,hi];rfl) ?_);refine ag rfl (ak (af (aq (af ?_))));obtain⟨K,hK⟩:=Uq H HN Us b e (hf b (List.mem_of_getElem? hb));refine aI (K:=K) (s':=⟨[(0,aT f),(3,.ref 1000 0 0 0),(5,.nI i),(17,.bI (hasB b e))],[(1000,.cells e.cs)],1832⟩) (λn hn=>cM rfl (by
   have e1:=hK n hn;simp only[B.av,E.av]at e1;generalize aZ prog n=g at e1;simp[-cE, -fz,aT,hb,E.Dx,E.bR,E.c8,B.gw,B.gh,B.jm,B.c8,e1])) ?_
  refine ag rfl ?_;cases hh:hasB b e with
  |true=>
   refine aj ?_;refine ax ?_;rw[show gi f e=true from any_true hb hh];rfl
  |false=>
   refine ak ?_;refine bK ?_;refine⟨by simp[again,an,get,cC,eP,bG,E.cT,aT,bw hi hl],?_⟩;unfold gi at hg ⊢;rw[gp hb,hg,hh];rfl
 ·intro hg;rw[List.take_length]at hg;refine af (au (by simp[aT];rfl) ?_);refine ag rfl (aO ?_);simp only[Ex.then,Ex.inBlock,if_true];refine aj ?_;refine ax ?_;rw[hg];rfl
end
section
variable {prog:Nat->Option aA}
end
def jO (x:Hd):Hp:=[(1000,.cells [.iv (.sl 1 (x.ps.map fQ)),.iv (.sl 1 (x.hs.map fQ)),.iv (.int .i64 x.b),.iv (.int .u64 x.g)])]
section
variable {prog:Nat->Option aA}
set_option maxHeartbeats 4000000 in
theorem Og (h:prog 160=some Nk) (x:Hd) (hp:x.ps.length<=maxLen) (hh:x.hs.length<=maxLen):a8 prog 160 [x.av] (.nI (eS x)):=by
 refine a8.of h rfl rfl (au (s':=⟨[(1,.ref 1000 0 0 0)],jO x,1128⟩) (by simp[Hd.av,Hd.cs,Hd.enc,jO]) ?_);refine af (af ?_);have h7:decide ((7:Int)<(x.ps.length:Int))=decide (8<=x.ps.length):=decide_eq_decide.2 (by omega);refine aD (s':=⟨[(1,.ref 1000 0 0 0),(8,.bI (decide (8<=x.ps.length)))],jO x,1384⟩) (by simp[jO,h7]) ?_;refine ag rfl ?_;by_cases h8:8<=x.ps.length
 ·rw[decide_eq_true h8];refine aj ?_;refine ax ?_;have:eS x=8:=by unfold eS;rw[if_pos h8]
  rw[this];rfl
 ·rw[decide_eq_false h8];have hc:eS x=if oG x.ps 0 then(if qi x then 1 else if pK x.ps.length x.hs then 0 else 1) else 8:=by unfold eS;rw[if_neg h8]
  refine ak (af (aj ?_));refine aq ?_;refine b7 (λm s1=>∃i:Nat,i+m=x.ps.length/\oG (x.ps.drop i) i=oG x.ps 0/\s1=⟨[(1,.ref 1000 0 0 0),(3,.nI i)],jO x,1448⟩) (m:=x.ps.length) ⟨0,by omega,rfl,by simp[an,get]⟩ ?_;rintro m s1 ⟨i,oC,u5,rfl⟩;refine af (af ?_);by_cases hi:i<x.ps.length
  ·obtain⟨p,Ut⟩:∃p,x.ps[i]?=some p:=⟨_,List.getElem?_eq_getElem hi⟩;have abw:x.ps[i]'hi=p:=(List.getElem?_eq_some_iff.1 Ut).2;rw[drop_cons Ut,oG]at u5;refine aD (s':=⟨[(1,.ref 1000 0 0 0),(3,.nI i),(13,.bI true)],jO x,1768⟩) (by simp[jO,hi]) ?_;refine ag rfl (ak (af (aq (au (s':=⟨[(1,.ref 1000 0 0 0),(3,.nI i),(30,.bI (decide (p<0)||decide ((i:Int)<p)))],jO x,2728⟩) (by
    cases c1:decide (p<0)<;>simp[jO,Ut,fQ,c1]) ?_))))
   refine ag rfl ?_;cases c:(decide (p<0)||decide ((i:Int)<p))with
   |true=>
    rw[c]at u5;simp only[Bool.not_true,Bool.false_and]at u5;rw[<-u5]at hc;refine aj ?_;refine ax ?_;rw[hc];rfl
   |false=>
    rw[c]at u5;simp only[Bool.not_false,Bool.true_and]at u5;refine ak ?_;refine aD (by simp[bw hi hp];rfl) ?_;exact⟨m - 1,by omega,i+1,by omega,u5,by simp[again,an,get,cC,de,du,bG,jO]⟩
  ·rw[List.drop_eq_nil_of_le (by omega),oG]at u5;rw[<-u5,if_pos rfl]at hc;refine aD (s':=⟨[(1,.ref 1000 0 0 0),(3,.nI i),(13,.bI false)],jO x,1768⟩) (by simp[jO];omega) ?_;refine ag rfl (aO ?_);simp only[Ex.then,Ex.inBlock,if_true];refine af (af ?_);have h9:decide ((8:Int)<(x.hs.length:Int))=decide (8<x.hs.length):=decide_eq_decide.2 (by omega);refine aD (s':=⟨[(1,.ref 1000 0 0 0),(49,.bI (qi x))],jO x,2984⟩) (by
    unfold qi;cases c1:decide (8<x.hs.length)<;>cases c2:decide (x.b<0)<;>cases c3:decide (1000000<x.b)<;>simp[jO,h9,c1,c2,c3]) ?_
   refine ag rfl ?_;cases ha:qi x with
   |true=>
    rw[ha,if_pos rfl]at hc;refine aj ?_;refine ax ?_;rw[hc];rfl
   |false=>
    rw[ha,if_neg (by simp)]at hc;refine ak (af (aj ?_));refine aq ?_;refine b7 (λm s1=>∃i:Nat,i+m=x.hs.length/\pK x.ps.length (x.hs.drop i)=pK x.ps.length x.hs/\s1=⟨[(1,.ref 1000 0 0 0),(4,.nI i)],jO x,3048⟩) (m:=x.hs.length) ⟨0,by omega,rfl,by simp[an,get]⟩ ?_;rintro m2 s2 ⟨j,CV,u6,rfl⟩;refine af (af ?_);by_cases hj:j<x.hs.length
    ·obtain⟨b,CW⟩:∃b,x.hs[j]?=some b:=⟨_,List.getElem?_eq_getElem hj⟩;rw[drop_cons CW,pK]at u6;refine aD (s':=⟨[(1,.ref 1000 0 0 0),(4,.nI j),(54,.bI true)],jO x,3368⟩) (by simp[jO,hj]) ?_;refine ag rfl (ak (af (aq (af ?_))));refine aI (K:=0) (s':=⟨[(1,.ref 1000 0 0 0),(4,.nI j),(73,.bI (decide (b<0)||decide ((x.ps.length:Int)<b)))],jO x,4456⟩) (λn _=>cM rfl (by
      cases c1:decide (b<0)<;>simp[jO,CW,fQ,c1])) ?_
     refine ag rfl ?_;cases c:(decide (b<0)||decide ((x.ps.length:Int)<b))with
     |true=>
      rw[c]at u6;simp only[Bool.not_true,Bool.false_and]at u6;rw[<-u6]at hc;refine aj ?_;refine ax ?_;rw[hc];rfl
     |false=>
      rw[c]at u6;simp only[Bool.not_false,Bool.true_and]at u6;refine ak ?_;refine aD (by simp[bw hj hh];rfl) ?_;exact⟨m2 - 1,by omega,j+1,by omega,u6,by simp[again,an,get,cC,de,du,bG,jO]⟩
    ·rw[List.drop_eq_nil_of_le (by omega),pK]at u6;rw[<-u6,if_pos rfl]at hc;refine aD (s':=⟨[(1,.ref 1000 0 0 0),(4,.nI j),(54,.bI false)],jO x,3368⟩) (by simp[jO];omega) ?_;refine ag rfl (aO ?_);simp only[Ex.then,Ex.inBlock,if_true];refine aj ?_;refine ax ?_;rw[hc];rfl
end
end ao
namespace ay
open Go ao
theorem dT (n:Nat) (x:AV):ay.set ([]:Fr) n x=[(n,x)]:=rfl
theorem dq (p:Nat×AV) (r:Fr) (n:Nat) (x:AV):ay.set (p::r) n x=if p.1=n then(n,x)::r else p::ay.set r n x:=rfl
mutual
def fu:Nat->Xp->Int->Int×Int×Bool
 |left,.mk _ _ _ sub,p=>if left=0\/40<p+1 then(p+1,0,false) else ig (left - 1) sub (p+1) 0
def ig:Nat->List Xp->Int->Int->Int×Int×Bool
 |_,[],p,d=>(p,d+1,true)
 |left,x::l,p,d=>if(fu left x p).2.2 then ig left l (fu left x p).1 (if(fu left x p).2.1 > d then(fu left x p).2.1 else d) else((fu left x p).1,0,false)
end
mutual
theorem B7:∀(x:Xp) (left:Nat) (p:Int),0<=p->p<=40->p<(fu left x p).1/\(fu left x p).1<=41/\0<=(fu left x p).2.1/\(fu left x p).2.1<=left/\((fu left x p).2.2=true->(fu left x p).1<=40)
 |.mk k a s sub,left,p,h0,h1=>by
  unfold fu;split
  ·simp;omega
  ·rename_i h;have:=FP sub (left - 1) (p+1) 0 (by omega) (by omega) (by omega) (by omega);exact⟨by omega,by omega,by omega,by omega,this.2.2.2.2⟩
theorem FP:∀(l:List Xp) (left:Nat) (p d:Int),0<=p->p<=40->0<=d->d<=left->p<=(ig left l p d).1/\(ig left l p d).1<=41/\0<=(ig left l p d).2.1/\(ig left l p d).2.1<=left+1/\((ig left l p d).2.2=true->(ig left l p d).1<=40)
 |[],left,p,d,h0,h1,h2,h3=>by simp[ig];omega
 |x::l,left,p,d,h0,h1,h2,h3=>by
  have hx:=B7 x left p h0 h1;unfold ig;split
  ·rename_i cg;have hd:0<=(if(fu left x p).2.1 > d then(fu left x p).2.1 else d)/\(if(fu left x p).2.1 > d then(fu left x p).2.1 else d)<=left:=by split<;>omega
   have:=FP l left (fu left x p).1 _ (by omega) (hx.2.2.2.2 cg) hd.1 hd.2;exact⟨by omega,by omega,by omega,by omega,this.2.2.2.2⟩
  ·simp;omega
end
def PX (H:Hp) (v:AV) (x:Xp) (bar:Nat):Prop:=v = .iv (.ptr x.enc)\/∃id,v = .ref id 0 0 0/\get H id=some (.cells (x.enc.map .iv))/\id≠bar
section
variable {p1:Nat->Option ao.aA} {p2:Nat->Option aA}
theorem Ev.jn (bF:bW p2) {f:Nat} {fn:aA} (hf:p2 f=some fn) (fe:fn.pe=none) {args:List AV} (hn:args.length=fn.np) {hp:Hp} {nx:Nat} (P:AV×Hp×Nat->Prop) (h:Wp p1 p2 fn.body ⟨params args 0,hp,nx⟩ (λe s=>∃p,P p/\Fin fn.res p e s)) :
  ∃p,P p/\Ev p1 p2 f args hp nx p:=by
 obtain⟨K,ex,s',h,p,hP,hq⟩:=h;exact⟨p,hP,Ev.of bF hf fe hn ⟨K,ex,s',h,hq⟩⟩
theorem W4 (bF:bW p2) (h:p2 191=some E6) {x:Xp} (hx:x.ok):∀(left:Nat) (p:Int) (v:AV) (H:Hp) (nx pid:Nat),left<=8->0<=p->p<=40->PX H v x pid->get H pid=some (.cells [.iv (.int .i64 p)])->
  ∃H' aW,nx<=aW/\get H' pid=some (.cells [.iv (.int .i64 (fu left x p).1)])/\(∀k,k≠pid->get H' k=get H k)/\
   Ev p1 p2 191 [v,.iv (.int .i64 left),.ref pid 0 0 0] H nx (.bD [.iv (.int .i64 (fu left x p).2.1),.iv (.bool (fu left x p).2.2)],H',aW):=by
 induction hx with
 |@mk k a s sub hk ha hs hl _ ih=>
  intro left p v H nx pid abl hp0 Ci hv FQ;have hw:IntKind.i64.wrap (p+1)=p+1:=IntWalk.i64_in _ (by omega);generalize hX:Xp.mk k a s sub=X at hv;have A5:fu left X p=if left=0\/40<p+1 then(p+1,0,false) else ig (left - 1) sub (p+1) 0:=by rw[<-hX];conv=>lhs;unfold fu
  have key:Wp p1 p2 E6.body ⟨params [v,.iv (.int .i64 left),.ref pid 0 0 0] 0,H,nx⟩ (λe s=>∃r:AV×Hp×Nat,(r.1 = .bD [.iv (.int .i64 (fu left X p).2.1),.iv (.bool (fu left X p).2.2)]/\nx<=r.2.2/\
    get r.2.1 pid=some (.cells [.iv (.int .i64 (fu left X p).1)])/\(∀k,k≠pid->get r.2.1 k=get H k))/\Fin E6.res r e s):=by
   refine au (by simp[aS,Option.map_some,a7,step,cw,fJ,bp,az,M.aG,M.run,M.ok,M.fresh,M.write,M.look,M.lift,bT,ev,aP,dV,an,dT,dq,ar,bin,fX,cU,db,mk,params,bh,load,bB,di,ep,dQ,dn,dB,idx,len,valid,eu,ea,bound,store,bl,un,callee,Option.bind_some,M.bind,cz];rfl) ?_;refine af (au (by simp[aS,Option.map_some,a7,step,cw,fJ,bp,az,M.aG,M.run,M.ok,M.fresh,M.write,M.look,M.lift,bT,ev,aP,dV,an,dT,dq,ar,bin,fX,cU,db,mk,params,bh,load,bB,di,ep,dQ,dn,dB,idx,len,valid,eu,ea,bound,store,bl,un,callee,Option.bind_some,M.bind,cz,FQ,hw];rfl) ?_)
   have nJ:((left:Int)==0)=decide (left=0):=by
    by_cases h:left=0
    ·subst h;rfl
    ·rw[decide_eq_false h];exact beq_eq_false_iff_ne.2 (by omega)
   refine au (s':=⟨[(0,v),(1,.iv (.int .i64 left)),(2,.ref pid 0 0 0),(6,.iv (.int .i64 0)),(23,.iv (.bool (decide (left=0)||decide (40<p+1))))],ay.set H pid (.cells [.iv (.int .i64 (p+1))]),nx+16⟩) (by
    cases hb:decide (left=0)<;>simp[aS,Option.map_some,a7,step,cw,fJ,bp,az,M.aG,M.run,M.ok,M.fresh,M.write,M.look,M.lift,bT,ev,aP,dV,an,dT,dq,ar,bin,fX,cU,db,mk,params,bh,load,bB,di,ep,dQ,dn,dB,idx,len,valid,eu,ea,bound,store,bl,un,callee,Option.bind_some,M.bind,cz,nJ,hb]) ?_
   by_cases Dz:left=0\/40<p+1
   ·refine ag (t:=true) (by simpa[ev,aP]using Dz) ?_;simp only[if_true];refine au (by simp[aS,Option.map_some,a7,step,cw,fJ,bp,az,M.aG,M.run,M.ok,M.fresh,M.write,M.look,M.lift,bT,ev,aP,dV,an,dT,dq,ar,bin,fX,cU,db,mk,params,bh,load,bB,di,ep,dQ,dn,dB,idx,len,valid,eu,ea,bound,store,bl,un,callee,Option.bind_some,M.bind,cz];rfl) ?_;refine ax ?_;rw[if_pos Dz]at A5;rw[A5];exact⟨(_,_,_),⟨rfl,show nx<=nx+16+2 by omega,ar _ _ _,λk hk=>aF _ _ (Ne.symm hk)⟩,rfl,rfl⟩
   ·refine ag (t:=false) (by simpa[ev,aP]using Dz) ?_;simp only[Bool.false_eq_true,if_false];rw[if_neg Dz]at A5;refine ak (af (af ?_));have W5:∀H',get H' pid=some (.cells [.iv (.int .i64 (p+1))])->(∀k,k≠pid->get H' k=get H k)->PX H' v X pid:=λH' h1 h2=>by
     rcases hv with rfl | ⟨id,rfl,h3,h4⟩
     ·exact .inl rfl
     ·exact .inr ⟨id,rfl,by rw[h2 id h4];exact h3,h4⟩
    have Hk:=W5 (ay.set H pid (.cells [.iv (.int .i64 (p+1))])) (ar _ _ _) λk hk=>aF _ _ (Ne.symm hk)
    generalize oW:ay.set H pid (.cells [.iv (.int .i64 (p+1))])=H1 at Hk;have W6:∀k,k≠pid->get H1 k=get H k:=λk hk=>by rw[<-oW];exact aF _ _ (Ne.symm hk)
    have W7:get H1 pid=some (.cells [.iv (.int .i64 (p+1))]):=by rw[<-oW];exact ar _ _ _
    refine aD (s':=⟨[(0,v),(1,.iv (.int .i64 left)),(2,.ref pid 0 0 0),(6,.iv (.int .i64 0)),(28,.iv (.int .i64 sub.length)),(29,.iv (.int .i64 0))],H1,nx+22⟩) (by
     subst hX;rcases Hk with rfl | ⟨id,rfl,h3,h4⟩
     ·simp[aS,Option.map_some,a7,step,cw,fJ,bp,az,M.aG,M.run,M.ok,M.fresh,M.write,M.look,M.lift,bT,ev,aP,dV,an,dT,dq,ar,bin,fX,cU,db,mk,params,bh,load,bB,di,ep,dQ,dn,dB,idx,len,valid,eu,ea,bound,store,bl,un,callee,Option.bind_some,M.bind,cz,Xp.enc,Xp.cJ]
     ·simp[aS,Option.map_some,a7,step,cw,fJ,bp,az,M.aG,M.run,M.ok,M.fresh,M.write,M.look,M.lift,bT,ev,aP,dV,an,dT,dq,ar,bin,fX,cU,db,mk,params,bh,load,bB,di,ep,dQ,dn,dB,idx,len,valid,eu,ea,bound,store,bl,un,callee,Option.bind_some,M.bind,cz,h3,Xp.enc,Xp.cJ]) ?_
    refine aq ?_;refine b7 (λm s1=>∃(i:Nat) (q d:Int) (H2:Hp) (n2:Nat),i+m=sub.length/\0<=q/\q<=40/\0<=d/\d<=(left - 1:Nat)/\ig (left - 1) (sub.drop i) q d=ig (left - 1) sub (p+1) 0/\get H2 pid=some (.cells [.iv (.int .i64 q)])/\
     (∀k,k≠pid->get H2 k=get H k)/\nx<=n2/\s1=⟨[(0,v),(1,.iv (.int .i64 left)),(2,.ref pid 0 0 0),(6,.iv (.int .i64 d)),(28,.iv (.int .i64 sub.length)),(29,.iv (.int .i64 i))],H2,n2⟩) (m:=sub.length)
     ⟨0,p+1,0,H1,nx+22,by omega,by omega,by omega,by omega,by omega,rfl,W7,W6,by omega,rfl⟩ ?_
    rintro m s1 ⟨i,q,d,H2,n2,oC,Hm,Hw,P4,FR,hm,Qb,DA,r9,rfl⟩;refine af ?_;by_cases hi:i<sub.length
    ·have hx:sub[i]?=some sub[i]:=List.getElem?_eq_getElem hi;have hd:sub.drop i=sub[i]::sub.drop (i+1):=List.drop_eq_getElem_cons hi;have eV:=B7 sub[i] (left - 1) q Hm Hw;obtain⟨H3,n3,HO,JZ,Qc,K,hK⟩:=ih sub[i] (List.getElem_mem _) (left - 1) q (.iv (.ptr (sub[i]).enc)) H2 (n2+3+15) pid (by omega) Hm Hw (.inl rfl) Qb;have HP:IntKind.i64.wrap ((left:Int) - 1)=((left - 1:Nat):Int):=by rw[IntWalk.i64_in _ (by omega)];omega
     have kz:IntKind.i64.wrap ((i:Int)+1)=(i:Int)+1:=bw hi hl;rw[hd]at hm
     conv at hm=>lhs;unfold ig
     refine aD (by simp[aS,Option.map_some,a7,step,cw,fJ,bp,az,M.aG,M.run,M.ok,M.fresh,M.write,M.look,M.lift,bT,ev,aP,dV,an,dT,dq,ar,bin,fX,cU,db,mk,params,bh,load,bB,di,ep,dQ,dn,dB,idx,len,valid,eu,ea,bound,store,bl,un,callee,Option.bind_some,M.bind,cz,hi];rfl) ?_;refine af (ag (t:=true) rfl (ak (af (aq (au (by simp[aS,Option.map_some,a7,step,cw,fJ,bp,az,M.aG,M.run,M.ok,M.fresh,M.write,M.look,M.lift,bT,ev,aP,dV,an,dT,dq,ar,bin,fX,cU,db,mk,params,bh,load,bB,di,ep,dQ,dn,dB,idx,len,valid,eu,ea,bound,store,bl,un,callee,Option.bind_some,M.bind,cz];rfl) ?_)))))
     refine af ?_;generalize hr:fu (left - 1) sub[i] q=r at hK hm eV JZ;obtain⟨q',d',ok⟩:=r;refine aI (K:=K) (s':=⟨[(0,v),(1,.iv (.int .i64 left)),(2,.ref pid 0 0 0),(6,.iv (.int .i64 d)),(9,.iv (.int .i64 d')),(10,.iv (.bool ok)),(28,.iv (.int .i64 sub.length)),(29,.iv (.int .i64 i))],H3,n3⟩) (λn hn=>by
      have hc:=hK n hn;subst hX;rcases hv with rfl | ⟨id,rfl,h3,h4⟩
      ·simp[aS,Option.map_some,a7,step,cw,fJ,bp,az,M.aG,M.run,M.ok,M.fresh,M.write,M.look,M.lift,bT,ev,aP,dV,an,dT,dq,ar,bin,fX,cU,db,mk,params,bh,load,bB,di,ep,dQ,dn,dB,idx,len,valid,eu,ea,bound,store,bl,un,callee,Option.bind_some,M.bind,cz,Xp.enc,Xp.cJ,hx,HP,hc]
      ·have h5:get H2 id=some (.cells ((Xp.mk k a s sub).enc.map .iv)):=by rw[DA id h4];exact h3
       simp[aS,Option.map_some,a7,step,cw,fJ,bp,az,M.aG,M.run,M.ok,M.fresh,M.write,M.look,M.lift,bT,ev,aP,dV,an,dT,dq,ar,bin,fX,cU,db,mk,params,bh,load,bB,di,ep,dQ,dn,dB,idx,len,valid,eu,ea,bound,store,bl,un,callee,Option.bind_some,M.bind,cz,h5,Xp.enc,Xp.cJ,hx,HP,hc]) ?_
     refine af (au (by simp[aS,Option.map_some,a7,step,cw,fJ,bp,az,M.aG,M.run,M.ok,M.fresh,M.write,M.look,M.lift,bT,ev,aP,dV,an,dT,dq,ar,bin,fX,cU,db,mk,params,bh,load,bB,di,ep,dQ,dn,dB,idx,len,valid,eu,ea,bound,store,bl,un,callee,Option.bind_some,M.bind,cz];rfl) ?_);refine ag rfl ?_;cases ok with
     |false=>
      simp only[Bool.false_eq_true,if_false]at hm;refine au (by simp[aS,Option.map_some,a7,step,cw,fJ,bp,az,M.aG,M.run,M.ok,M.fresh,M.write,M.look,M.lift,bT,ev,aP,dV,an,dT,dq,ar,bin,fX,cU,db,mk,params,bh,load,bB,di,ep,dQ,dn,dB,idx,len,valid,eu,ea,bound,store,bl,un,callee,Option.bind_some,M.bind,cz];rfl) ?_;refine ax ?_;rw[A5,<-hm];exact⟨(_,_,_),⟨rfl,show nx<=n3+2+2 by omega,JZ,λk hk=>by rw[Qc k hk];exact DA k hk⟩,rfl,rfl⟩
     |true=>
      simp only[if_true]at hm;refine ak ?_;refine aD (by simp[aS,Option.map_some,a7,step,cw,fJ,bp,az,M.aG,M.run,M.ok,M.fresh,M.write,M.look,M.lift,bT,ev,aP,dV,an,dT,dq,ar,bin,fX,cU,db,mk,params,bh,load,bB,di,ep,dQ,dn,dB,idx,len,valid,eu,ea,bound,store,bl,un,callee,Option.bind_some,M.bind,cz,qH];rfl) ?_;refine aD (by simp[aS,Option.map_some,a7,step,cw,fJ,bp,az,M.aG,M.run,M.ok,M.fresh,M.write,M.look,M.lift,bT,ev,aP,dV,an,dT,dq,ar,bin,fX,cU,db,mk,params,bh,load,bB,di,ep,dQ,dn,dB,idx,len,valid,eu,ea,bound,store,bl,un,callee,Option.bind_some,M.bind,cz,kz];rfl) ?_
      have Qd:0<=(if d' > d then d' else d)/\(if d' > d then d' else d)<=((left - 1:Nat):Int):=by
       simp only at eV;split<;>omega
      refine⟨m - 1,by omega,i+1,q',if d' > d then d' else d,H3,_,by omega,by simp only at eV;omega,eV.2.2.2.2 rfl,Qd.1,Qd.2,hm,JZ,λk hk=>by rw[Qc k hk];exact DA k hk,?_,by simp[aP,an];rfl⟩
      show nx<=n3+2+4+2
      omega
    ·have hd:sub.drop i=[]:=List.drop_eq_nil_of_le (by omega);rw[hd]at hm
     conv at hm=>lhs;unfold ig
     have hwd:IntKind.i64.wrap (d+1)=d+1:=IntWalk.i64_in _ (by omega);refine aD (by simp[aS,Option.map_some,a7,step,cw,fJ,bp,az,M.aG,M.run,M.ok,M.fresh,M.write,M.look,M.lift,bT,ev,aP,dV,an,dT,dq,ar,bin,fX,cU,db,mk,params,bh,load,bB,di,ep,dQ,dn,dB,idx,len,valid,eu,ea,bound,store,bl,un,callee,Option.bind_some,M.bind,cz,hi];rfl) ?_;refine af (ag (t:=false) rfl (aO ?_));simp only[Ex.then,Ex.inBlock,if_true];refine au (by simp[aS,Option.map_some,a7,step,cw,fJ,bp,az,M.aG,M.run,M.ok,M.fresh,M.write,M.look,M.lift,bT,ev,aP,dV,an,dT,dq,ar,bin,fX,cU,db,mk,params,bh,load,bB,di,ep,dQ,dn,dB,idx,len,valid,eu,ea,bound,store,bl,un,callee,Option.bind_some,M.bind,cz,hwd];rfl) ?_
     refine ax ?_;rw[A5,<-hm];exact⟨(_,_,_),⟨rfl,show nx<=n2+1+4 by omega,Qb,DA⟩,rfl,rfl⟩
  obtain⟨⟨y,H',aW⟩,⟨rfl,h1,h2,h3⟩,h4⟩:=Ev.jn bF h rfl rfl _ key;exact⟨H',aW,h1,h2,h3,h4⟩
end
def DB (x:IV):Prop:=∃sub:List Xp,x = .sl 7 (sub.map Xp.enc)/\sub.length<=maxLen/\∀y ∈ sub,y.ok
theorem gF {k:IntKind} {x:IV} (h:Fit (.int k) x):∃n,x = .int k n/\(Lit.int k n).wf=true:=by cases h;exact⟨_,rfl,by assumption⟩
theorem HQ {x:IV} (h:Fit .str x):∃s,x = .str s/\s.size<=maxLen:=by cases h;exact⟨_,rfl,by assumption⟩
theorem FT {x:IV} (h:Fit .bool x):∃s,x = .bool s:=by cases h;exact⟨_,rfl⟩
theorem xg {es:List Sh} {x:IV} (h:Fit (.sl es) x):∃rows,x = .sl es.length rows/\rows.length<=maxLen/\∀r ∈ rows,df es r:=by cases h;exact⟨_,rfl,by assumption,by assumption⟩
theorem df.one {a:Sh} {ss:List Sh} {xs:List IV} (h:df (a::ss) xs):∃x r,xs=x::r/\Fit a x/\df ss r:=by cases h;exact⟨_,_,rfl,by assumption,by assumption⟩
theorem df.none {xs:List IV} (h:df [] xs):xs=[]:=by cases h;rfl
theorem df.split:∀{ss ts:List Sh} {xs:List IV},df (ss++ts) xs->∃a b,xs=a++b/\df ss a/\df ts b
 |[],_,xs,h=>⟨[],xs,rfl,.nil,h⟩
 |_::_,_,_,.cons h hs=>by
  obtain⟨a,b,rfl,ha,hb⟩:=df.split hs;exact⟨_::a,b,rfl,.cons h ha,hb⟩
def W8:List Sh:=[.bool,.sl [.int .i64,.int .i64],.bool,.sl [.str]]
def A6:List Sh:=[.int .i64,.int .i64,.str]
def Oh:List Sh:=A6++(A6++(A6++A6))
def Oi:List Sh:=[.int .i64,.int .i64,.int .i64,.int .i64,.int .i64]++(mj++Oh)
def Oj:List Sh:=[.sl [.int .i64],.sl [.int .i64],.int .i64,.int .u64]
theorem Rb {r:List IV} (h:df [.int .i64,.int .i64] r):∃p,r=bM p/\(dE p.1/\dE p.2):=by
 obtain⟨x,r,rfl,hx,h⟩:=h.one;obtain⟨y,r,rfl,hy,h⟩:=h.one;obtain rfl:=h.none;obtain⟨n,rfl,hn⟩:=gF hx;obtain⟨m,rfl,hm⟩:=gF hy;exact⟨(n,m),rfl,pn hn,pn hm⟩
theorem Rc {r:List IV} (h:df [.str] r):∃p,r=st1 p/\p.size<=maxLen:=by
 obtain⟨x,r,rfl,hx,h⟩:=h.one;obtain rfl:=h.none;obtain⟨n,rfl,hn⟩:=HQ hx;exact⟨n,rfl,hn⟩
theorem Re {xs:List IV} (h:df W8 xs):∃s:S,xs=s.enc/\s.ok:=by
 obtain⟨a,_,rfl,ha,h⟩:=h.one;obtain⟨b,_,rfl,hb,h⟩:=h.one;obtain⟨c,_,rfl,hc,h⟩:=h.one;obtain⟨d,_,rfl,hd,h⟩:=h.one;obtain rfl:=h.none;obtain⟨va,rfl⟩:=FT ha;obtain⟨vc,rfl⟩:=FT hc;obtain⟨rows,rfl,gA,pX⟩:=xg hb;obtain⟨strs,rfl,rN,Eb⟩:=xg hd;obtain⟨l,rfl,hl⟩:=uV bM (λp=>dE p.1/\dE p.2) rows λr hr=>Rb (pX r hr)
 obtain⟨t,rfl,ht⟩:=uV st1 (λp=>p.size<=maxLen) strs λr hr=>Rc (Eb r hr)
 exact⟨⟨va,l,vc,t⟩,rfl,by rwa [List.length_map]at gA,by rwa [List.length_map]at rN,hl,ht⟩
theorem Mq {r:List IV} (h:df mj r) (hs:∃x,r[6]?=some x/\DB x):∃X:Xp,r=X.enc/\X.ok:=by
 obtain⟨k,_,rfl,hk,h⟩:=df.one h;obtain⟨a,_,rfl,ha,h⟩:=df.one h;obtain⟨c1,_,rfl,h1,h⟩:=df.one h;obtain⟨c2,_,rfl,h2,h⟩:=df.one h;obtain⟨c3,_,rfl,h3,h⟩:=df.one h;obtain⟨c4,_,rfl,h4,h⟩:=df.one h;obtain⟨c5,_,rfl,h5,h⟩:=df.one h;obtain rfl:=df.none h;obtain⟨k,rfl,Fo⟩:=gF hk;obtain⟨a,rfl,qb⟩:=gF ha;obtain⟨x,hx,sub,rfl,hl,cg⟩:=hs;simp at hx;subst hx;obtain⟨s,hs,Z0⟩:=Re (.cons h1 (.cons h2 (.cons h3 (.cons h4 .nil))));refine⟨.mk k a s sub,?_,.mk (pn Fo) (pn qb) Z0 hl cg⟩;simp only[S.enc,List.cons.injEq,and_true]at hs;obtain⟨rfl,rfl,rfl,rfl⟩:=hs;simp[Xp.enc,Xp.cJ]
theorem J0 {s:Sh} {x:IV} (h:Fit s x):s = .ex->DB x:=by
 refine Fit.rec (motive_1:=λs x _=>s=Sh.ex->DB x) (motive_2:=λss xs _=>∀i:Nat,ss[i]?=some Sh.ex->∃x,xs[i]?=some x/\DB x) ?_ ?_ ?_ ?_ ?_ ?_ ?_ h
 ·intro b h;cases h
 ·intro k n hw h;cases h
 ·intro s hs h;cases h
 ·intro es rows hl hr ih h;cases h
 ·intro rows hl hr ih _;obtain⟨sub,rfl,cg⟩:=uV Xp.enc Xp.ok rows λr jY=>Mq (hr r jY) (ih r jY 6 rfl)
  exact⟨sub,rfl,by rwa [List.length_map]at hl,cg⟩
 ·intro i hi;simp at hi
 ·intro s ss x xs h hs Mr HJ i hi;cases i with
  |zero=>
   simp at hi;exact⟨x,rfl,Mr hi⟩
  |succ i=>exact HJ i (by simpa using hi)
theorem Rf {r:List IV} (h:df mj r):∃X:Xp,r=X.enc/\X.ok:=by
 refine Mq h ?_;obtain⟨_,_,rfl,_,h⟩:=df.one h;obtain⟨_,_,rfl,_,h⟩:=df.one h;obtain⟨_,_,rfl,_,h⟩:=df.one h;obtain⟨_,_,rfl,_,h⟩:=df.one h;obtain⟨_,_,rfl,_,h⟩:=df.one h;obtain⟨_,_,rfl,_,h⟩:=df.one h;obtain⟨x,_,rfl,h6,h⟩:=df.one h;exact⟨x,rfl,J0 h6 rfl⟩
theorem xY {xs:List IV} (h:df A6 xs):∃v:V,xs=v.enc/\(dE v.k/\dE v.n/\v.s.size<=maxLen):=by
 obtain⟨a,_,rfl,ha,h⟩:=h.one;obtain⟨b,_,rfl,hb,h⟩:=h.one;obtain⟨c,_,rfl,hc,h⟩:=h.one;obtain rfl:=h.none;obtain⟨k,rfl,hk⟩:=gF ha;obtain⟨n,rfl,hn⟩:=gF hb;obtain⟨s,rfl,hs⟩:=HQ hc;exact⟨⟨k,n,s⟩,rfl,pn hk,pn hn,hs⟩
theorem Uu {xs:List IV} (h:df Oh xs):∃e:E,xs=e.enc/\∀i,i<4->dE (e.get i).k/\dE (e.get i).n/\(e.get i).s.size<=maxLen:=by
 obtain⟨_,r1,rfl,h0,h⟩:=df.split h;obtain⟨_,r2,rfl,h1,h⟩:=df.split h;obtain⟨_,_,rfl,h2,h3⟩:=df.split h;obtain⟨v0,rfl,k0⟩:=xY h0;obtain⟨v1,rfl,k1⟩:=xY h1;obtain⟨v2,rfl,k2⟩:=xY h2;obtain⟨v3,rfl,k3⟩:=xY h3;refine⟨⟨v0,v1,v2,v3⟩,rfl,λi hi=>?_⟩
 match i,hi with
 |0,_=>exact k0
 |1,_=>exact k1
 |2,_=>exact k2
 |3,_=>exact k3
theorem Uv {xs:List IV} (h:df Oi xs):∃o:ao.Op,xs=o.enc/\o.ok:=by
 obtain⟨a,_,rfl,ha,h⟩:=df.one h;obtain⟨b,_,rfl,hb,h⟩:=df.one h;obtain⟨c,_,rfl,hc,h⟩:=df.one h;obtain⟨d,_,rfl,hd,h⟩:=df.one h;obtain⟨e,_,rfl,he,h⟩:=df.one h;obtain⟨x,v,rfl,hx,hv⟩:=df.split (ss:=mj) (ts:=Oh) h;obtain⟨a,rfl,qb⟩:=gF ha;obtain⟨b,rfl,lY⟩:=gF hb;obtain⟨c,rfl,dm⟩:=gF hc;obtain⟨d,rfl,yf⟩:=gF hd;obtain⟨e,rfl,fB⟩:=gF he;obtain⟨X,rfl,hX⟩:=Rf hx;obtain⟨E,rfl,hE⟩:=Uu hv;exact⟨⟨a,b,c,d,e,X,E⟩,rfl,pn qb,pn lY,pn dm,pn yf,pn fB,hX,hE⟩
theorem Rg {r:List IV} (h:df [.int .i64] r):∃n:Int,r=fQ n/\dE n:=by
 obtain⟨x,r,rfl,hx,h⟩:=h.one;obtain rfl:=h.none;obtain⟨n,rfl,hn⟩:=gF hx;exact⟨n,rfl,pn hn⟩
theorem ua (w:Bool) (n:Nat):∀l:List IV,l.all notNil=true->M.aG (fz w (n+1)) (l.map AV.iv) = .ret l
 |[],_=>by simp[M.aG]
 |x::r,h=>by
  simp only[List.all_cons,Bool.and_eq_true]at h;have ih:=ua w n r h.2;cases x with
  |aV e=>simp[notNil]at h
  |_=>rw[List.map_cons,M.aG,ih];rfl
end ay

/-
  A part of the proof of the statement that the last text of this claim holds: two abstract machines for the code, proved sound once, and what the program does on them. No condition.
-/
import Derived.Test.YtolpagjajaknbaaGreatArbC
set_option linter.all false
namespace Arb
open Go
attribute [local simp] evalRgn Option.map_some evalOps step wants osem Mrun_bindZ M.mapL M.run M.ok M.fresh M.write M.look M.lift putD Arb.set ev Arb.get keepFr bin intBin strBin mk params cellsM load obRead fadr fld isl iarr xarr idx len valid slc bound store splice nilc un eqs eq0 evalFeet footOf M.foot orderOk apartAll apart1 clash meets callM fcallM callee fz1 fzC fz flat flat1 flat0 flatI Option.bind_some putAll M.bind
def B.get (b:B):Nat->S
 |0=>b.s0
 |1=>b.s1
 |2=>b.s2
 |_=>b.s3
def B.cs (b:B):List AV:=b.enc.map .iv
def B.av (b:B):AV:=.agg b.cs
theorem B.cs_at (b:B) {i:Nat} (h:i<4):(b.cs.drop (i*4)).take 4=[.iv (.bool (b.get i).a),.iv (.sl 2 ((b.get i).i.map rng)),.iv (.bool (b.get i).c),.iv (.sl 1 ((b.get i).s.map st1))]:=by
 match i,h with
 |0,_=>rfl
 |1,_=>rfl
 |2,_=>rfl
 |3,_=>rfl
theorem B.cs_16 (b:B):b.cs.take 16=b.cs:=rfl
theorem B.cs_len (b:B):b.cs.length=16:=rfl
theorem B.cs_nrm (b:B) (n0:Nat) (h:Hp):b.cs.map (nrm n0 h 8)=b.cs:=nrm_ivs n0 h b.enc
def notNil:IV->Bool
 |.nsl _=>false
 |_=>true
theorem nilc_plain:∀(l:List IV) (s:Nat),l.all notNil=true->nilc s (l.map .iv) = .ret (l.map .iv)
 |[],s,_=>by simp[nilc]
 |x::r,s,h=>by
  simp only[List.all_cons,Bool.and_eq_true]at h;have ih:=nilc_plain r (s+1) h.2;cases x with
  |nsl e=>simp[notNil]at h
  |_=>simp only[List.map_cons,nilc,ih,M.bind]
theorem fzC_plain (w:Bool):∀(l:List IV),l.all notNil=true->M.mapL (fzC w) (l.map .iv) = .ret (l.map .iv)
 |[],_=>by simp[M.mapL]
 |x::r,h=>by
  simp only[List.all_cons,Bool.and_eq_true]at h;have ih:=fzC_plain w r h.2;cases x with
  |nsl e=>simp[notNil]at h
  |_=>rw[List.map_cons,M.mapL,ih];rfl
theorem fz_plain (w:Bool):∀(l:List IV),l.all notNil=true->M.mapL (fz w 8) (l.map .iv) = .ret l
 |[],_=>by simp[M.mapL]
 |x::r,h=>by
  simp only[List.all_cons,Bool.and_eq_true]at h;have ih:=fz_plain w r h.2;cases x with
  |nsl e=>simp[notNil]at h
  |_=>rw[List.map_cons,M.mapL,ih];rfl
theorem B.enc_all (b:B):b.enc.all notNil=true:=by simp[B.enc,S.enc,notNil]
theorem B.cs_fzC (b:B) (w:Bool):M.mapL (fzC w) b.cs = .ret b.cs:=fzC_plain w b.enc b.enc_all
theorem B.cs_fz (b:B) (w:Bool):M.mapL (fz w 8) b.cs = .ret b.enc:=fz_plain w b.enc b.enc_all
theorem B.cs_nilc (b:B) (s:Nat):nilc s b.cs = .ret b.cs:=nilc_plain b.enc s (by simp[B.enc,S.enc,notNil])
theorem B.agg_nrm (b:B) (n0:Nat) (h:Hp):nrm n0 h 8 (.agg b.cs)=b.av:=nrm_agg n0 h b.enc
theorem wrap_lt4 {i:Nat} (h:i<4):IntKind.i64.wrap ((i:Int)+1)=(i:Int)+1:=wrap_succ h (by simp[maxLen])
section
variable {prog:Nat->Option IFn}
def allB (f:S->Bool) (b:B):Bool:=f b.s0&&(f b.s1&&(f b.s2&&f b.s3))
def anyB (f:S->Bool) (b:B):Bool:=f b.s0||(f b.s1||(f b.s2||f b.s3))
theorem allB_false {f:S->Bool} {b:B} {i:Nat} (h:i<4) (hf:f (b.get i)=false):allB f b=false:=by
 match i,h with
 |0,_=>simp only[B.get]at hf;simp[allB,hf]
 |1,_=>simp only[B.get]at hf;simp[allB,hf]
 |2,_=>simp only[B.get]at hf;simp[allB,hf]
 |3,_=>simp only[B.get]at hf;simp[allB,hf]
theorem allB_true {f:S->Bool} {b:B} (h:∀i,i<4->f (b.get i)=true):allB f b=true:=by
 have h0:=h 0 (by omega);have h1:=h 1 (by omega);have h2:=h 2 (by omega);have h3:=h 3 (by omega);simp only[B.get]at h0 h1 h2 h3;simp[allB,h0,h1,h2,h3]
theorem anyB_true {f:S->Bool} {b:B} {i:Nat} (h:i<4) (hf:f (b.get i)=true):anyB f b=true:=by
 match i,h with
 |0,_=>simp only[B.get]at hf;simp[anyB,hf]
 |1,_=>simp only[B.get]at hf;simp[anyB,hf]
 |2,_=>simp only[B.get]at hf;simp[anyB,hf]
 |3,_=>simp only[B.get]at hf;simp[anyB,hf]
theorem anyB_false {f:S->Bool} {b:B} (h:∀i,i<4->f (b.get i)=false):anyB f b=false:=by
 have h0:=h 0 (by omega);have h1:=h 1 (by omega);have h2:=h 2 (by omega);have h3:=h 3 (by omega);simp only[B.get]at h0 h1 h2 h3;simp[anyB,h0,h1,h2,h3]
theorem p_smallB (h24:prog 24=some F24) (h:prog 46=some F46) (b:B):Ans prog 46 [b.av] (.bI (allB smallS b)):=by
 refine Ans.of h rfl rfl (Wps0Z (by simp[evalRgn,evalOps,step,wants,osem,Mrun_bindZ,M.run,M.fresh,M.write,putD,Arb.set,ev,Arb.get,keepFr,params,cellsM,B.av,B.cs_nilc];rfl) ?_);refine ab (Wps0Z (by simp[B.cs_16,B.cs_len];rfl) ?_);refine WpblockZ ?_;refine WprangeZ 4 (λi=>⟨[(5,b.av),(6,.nI i)],[(1000,.cells b.cs)],1256⟩) (λi=>∀j,j<i->smallS (b.get j)=true) rfl (by intro j hj;omega) ?_ ?_
 ·intro i hi hg;have hi':(i:Int)<4:=by omega
  have hm:min 4 (16 - i*4)=4:=by omega
  refine Wps0Z (by
   have:decide ((i:Int)<4)=true:=decide_eq_true (by omega);simp[this];rfl) ?_
  refine ab (WpcondZ rfl (WpskipZ (ab (WpblockZ (Wps0Z (by rw[show b.av = .agg b.cs from rfl];simp[B.cs_at b hi,hi',B.cs_len,hm];rfl) ?_)))));refine ab ?_;obtain⟨K,hK⟩:=p_smallS h24 (b.get i);refine WprgnZ (K:=K) (λn hn=>by
   have hc:=hK n hn;simp only[S.av]at hc;simp[hc];rfl) ?_
  refine WpcondZ rfl ?_;cases hs:smallS (b.get i)with
  |false=>
   refine WpsgZ ?_;refine WpretZ ?_;rw[allB_false hi hs];rfl
  |true=>
   refine WpskipZ ?_;refine WprgZ ?_;refine⟨?_,λj hj=>?_⟩
   ·simp[again,keepFr,get,nrm_iv,nrmO,B.agg_nrm,B.cs_nrm,wrap_lt4 hi]
   ·by_cases h:j=i
    ·subst h;exact hs
    ·exact hg j (by omega)
 ·intro hg;refine WpsgZ ?_;refine ab (WpcondZ rfl (WpexitZ ?_));simp only[Ex.then,Ex.inBlock,if_true];refine WpsgZ ?_;refine WpretZ ?_;rw[allB_true hg];rfl
theorem p_rightB (rightS:S->Bool) (hR:∀x:S,x.i.length<=maxLen->x.s.length<=maxLen->Ans prog 58 [x.av] (.bI (rightS x))) (h:prog 45=some F45) (b:B) (hL:∀i,i<4->(b.get i).i.length<=maxLen/\(b.get i).s.length<=maxLen):Ans prog 45 [b.av] (.bI (allB rightS b)):=by
 refine Ans.of h rfl rfl (Wps0Z (by simp[evalRgn,evalOps,step,wants,osem,Mrun_bindZ,M.run,M.fresh,M.write,putD,Arb.set,ev,Arb.get,keepFr,params,cellsM,B.av,B.cs_nilc];rfl) ?_);refine ab (Wps0Z (by simp[B.cs_16,B.cs_len];rfl) ?_);refine WpblockZ ?_;refine WprangeZ 4 (λi=>⟨[(5,b.av),(6,.nI i)],[(1000,.cells b.cs)],1256⟩) (λi=>∀j,j<i->rightS (b.get j)=true) rfl (by intro j hj;omega) ?_ ?_
 ·intro i hi hg;have hi':(i:Int)<4:=by omega
  have hm:min 4 (16 - i*4)=4:=by omega
  refine Wps0Z (by
   have:decide ((i:Int)<4)=true:=decide_eq_true (by omega);simp[this];rfl) ?_
  refine ab (WpcondZ rfl (WpskipZ (ab (WpblockZ (Wps0Z (by rw[show b.av = .agg b.cs from rfl];simp[B.cs_at b hi,hi',B.cs_len,hm];rfl) ?_)))));refine ab ?_;obtain⟨K,hK⟩:=hR (b.get i) (hL i hi).1 (hL i hi).2;refine WprgnZ (K:=K) (λn hn=>by
   have hc:=hK n hn;simp only[S.av]at hc;simp[hc];rfl) ?_
  refine WpcondZ rfl ?_;cases hs:rightS (b.get i)with
  |false=>
   refine WpsgZ ?_;refine WpretZ ?_;rw[allB_false hi hs];rfl
  |true=>
   refine WpskipZ ?_;refine WprgZ ?_;refine⟨?_,λj hj=>?_⟩
   ·simp[again,keepFr,get,nrm_iv,nrmO,B.agg_nrm,B.cs_nrm,wrap_lt4 hi]
   ·by_cases h:j=i
    ·subst h;exact hs
    ·exact hg j (by omega)
 ·intro hg;refine WpsgZ ?_;refine ab (WpcondZ rfl (WpexitZ ?_));simp only[Ex.then,Ex.inBlock,if_true];refine WpsgZ ?_;refine WpretZ ?_;rw[allB_true hg];rfl
theorem p_emptyB (h66:prog 66=some F66) (h:prog 59=some F59) (b:B):Ans prog 59 [b.av] (.bI (anyB emptyS b)):=by
 refine Ans.of h rfl rfl (Wps0Z (by simp[evalRgn,evalOps,step,wants,osem,Mrun_bindZ,M.run,M.fresh,M.write,putD,Arb.set,ev,Arb.get,keepFr,params,cellsM,B.av,B.cs_nilc];rfl) ?_);refine ab (Wps0Z (by simp[B.cs_16,B.cs_len];rfl) ?_);refine WpblockZ ?_;refine WprangeZ 4 (λi=>⟨[(5,b.av),(6,.nI i)],[(1000,.cells b.cs)],1256⟩) (λi=>∀j,j<i->emptyS (b.get j)=false) rfl (by intro j hj;omega) ?_ ?_
 ·intro i hi hg;have hi':(i:Int)<4:=by omega
  have hm:min 4 (16 - i*4)=4:=by omega
  refine Wps0Z (by
   have:decide ((i:Int)<4)=true:=decide_eq_true (by omega);simp[this];rfl) ?_
  refine ab (WpcondZ rfl (WpskipZ (ab (WpblockZ (Wps0Z (by rw[show b.av = .agg b.cs from rfl];simp[B.cs_at b hi,hi',B.cs_len,hm];rfl) ?_)))));refine ab ?_;obtain⟨K,hK⟩:=p_emptyS h66 (b.get i);refine WprgnZ (K:=K) (λn hn=>by
   have hc:=hK n hn;simp only[S.av]at hc;simp[hc];rfl) ?_
  refine WpcondZ rfl ?_;cases hs:emptyS (b.get i)with
  |true=>
   refine WpsgZ ?_;refine WpretZ ?_;rw[anyB_true hi hs];rfl
  |false=>
   refine WpskipZ ?_;refine WprgZ ?_;refine⟨?_,λj hj=>?_⟩
   ·simp[again,keepFr,get,nrm_iv,nrmO,B.agg_nrm,B.cs_nrm,wrap_lt4 hi]
   ·by_cases h:j=i
    ·subst h;exact hs
    ·exact hg j (by omega)
 ·intro hg;refine WpsgZ ?_;refine ab (WpcondZ rfl (WpexitZ ?_));simp only[Ex.then,Ex.inBlock,if_true];refine WpsgZ ?_;refine WpretZ ?_;rw[anyB_false hg];rfl
end
def S.cs (x:S):List AV:=x.enc.map .iv
theorem S.cs_nrm (x:S) (n0:Nat) (h:Hp):x.cs.map (nrm n0 h 8)=x.cs:=nrm_ivs n0 h x.enc
theorem nrm_ref_cells {n0:Nat} {h:Hp} {id:Nat} {cs:List AV} (h1:¬id<1000) (h2:id<n0) (hg:get h id=some (.cells cs)):nrm n0 h 8 (.ref id 0 0 0) = .ref id 0 0 0:=by
 simp[nrm,h1,h2,hg]
def badR (l:List (Int×Int)):Nat->Bool
 |0=>match l[0]? with
  |some r=>decide (r.2<r.1)
  |none=>false
 |j+1=>match l[j+1]?,l[j]? with
  |some r,some p=>decide (r.2<r.1)||(decide (r.1<=p.2)||IntKind.wrap .i64 (r.1 - 1)==p.2)
  |_,_=>false
def badT (l:List ByteArray):Nat->Bool
 |0=>match l[0]? with
  |some t=>decide (8<t.size)
  |none=>false
 |j+1=>match l[j+1]?,l[j]? with
  |some t,some p=>decide (8<t.size)||!sless p t
  |_,_=>false
def rightS (x:S):Bool:=(List.range x.i.length).all (λi=>!badR x.i i)&&(List.range x.s.length).all λi=>!badT x.s i
section
variable {prog:Nat->Option IFn}
set_option maxHeartbeats 2000000 in
theorem p_rightS (h:prog 58=some F58) (x:S) (hi:x.i.length<=maxLen) (hs:x.s.length<=maxLen):Ans prog 58 [x.av] (.bI (rightS x)):=by
 refine Ans.of h rfl rfl (Wps0Z (s':=⟨[(1,.ref 1000 0 0 0)],[(1000,.cells x.cs)],1128⟩) (by simp[S.av,S.cs,S.enc]) ?_);refine ab (Wps0Z (s':=⟨[(1,.ref 1000 0 0 0),(8,.iv (.sl 2 (x.i.map rng))),(9,.nI x.i.length),(10,.nI 0)],[(1000,.cells x.cs)],1384⟩) (by simp[S.cs,S.enc]) ?_);refine WpblockZ ?_;refine WprangeZ x.i.length (λi=>⟨[(1,.ref 1000 0 0 0),(8,.iv (.sl 2 (x.i.map rng))),(9,.nI x.i.length),(10,.nI i)],[(1000,.cells x.cs)],1384⟩) (λi=>∀j,j<i->badR x.i j=false) (by simp[keepFr,get]) (by intro j hj;omega) ?_ ?_
 ·intro i hil hg;obtain⟨r,hr⟩:∃r,x.i[i]?=some r:=⟨_,List.getElem?_eq_getElem hil⟩;refine Wps0Z (by simp[hil];rfl) ?_;refine ab (WpcondZ rfl (WpskipZ (ab (WpblockZ (Wps0Z (s':=⟨[(1,.ref 1000 0 0 0),(3,.nI i),(4,.ref 1640 0 0 0),(8,.iv (.sl 2 (x.i.map rng))),(9,.nI x.i.length),(10,.nI i)],[(1000,.cells x.cs),(1640,.cells [.nI r.1,.nI r.2])],1832⟩) (by
   simp[hr,rng]) ?_)))))
  refine ab ?_;refine WprgnZ (K:=0) (s':=⟨[(1,.ref 1000 0 0 0),(8,.iv (.sl 2 (x.i.map rng))),(9,.nI x.i.length),(10,.nI i),(48,.bI (badR x.i i))],[(1000,.cells x.cs),(1640,.cells [.nI r.1,.nI r.2])],4008⟩) (λn _=>rgn_quiet' rfl (by
   cases i with
   |zero=>
    cases h1:decide (r.2<r.1)<;>simp[badR,hr,h1]
   |succ j=>
    obtain⟨p,hp⟩:∃p,x.i[j]?=some p:=⟨_,List.getElem?_eq_getElem (by omega)⟩;have e0:decide ((0:Int)<(j:Int)+1)=true:=decide_eq_true (by omega);have e1:IntKind.i64.wrap (j:Int)=(j:Int):=IntWalk.i64_in _ (by unfold maxLen at hi;omega);cases h1:decide (r.2<r.1)with
    |true=>simp[badR,hr,hp,h1]
    |false=>
     cases h2:decide (r.1<=p.2)with
     |true=>simp[S.cs,S.enc,badR,hr,hp,rng,h1,h2,e0,e1]
     |false=>
      cases h3:IntKind.wrap .i64 (r.1 - 1)==p.2<;>simp[S.cs,S.enc,badR,hr,hp,rng,h1,h2,h3,e0,e1])) ?_
  refine WpcondZ rfl ?_;cases hb:badR x.i i with
  |true=>
   refine WpsgZ ?_;refine WpretZ ?_;have:rightS x=false:=by
    simp only[rightS,Bool.and_eq_false_iff];exact .inl (List.all_eq_false.2 ⟨i,by simpa using hil,by simp[hb]⟩)
   rw[this];rfl
  |false=>
   refine WpskipZ ?_;refine WprgZ ?_;refine⟨?_,λj hj=>?_⟩
   ·simp[again,keepFr,get,nrm_iv,nrm_ref_cells,nrmO,S.cs_nrm,wrap_succ hil hi]
   ·by_cases h:j=i
    ·subst h;exact hb
    ·exact hg j (by omega)
 ·intro hg;have hints:(List.range x.i.length).all (λi=>!badR x.i i)=true:=by
   rw[List.all_eq_true];intro i hi;simp[hg i (by simpa using hi)]
  refine WpsgZ ?_;refine ab (WpcondZ rfl (WpexitZ ?_));simp only[Ex.then,Ex.inBlock,if_true];refine ab (Wps0Z (s':=⟨[(1,.ref 1000 0 0 0),(51,.iv (.sl 1 (x.s.map st1))),(52,.nI x.s.length),(53,.nI 0)],[(1000,.cells x.cs)],1704⟩) (by simp[S.cs,S.enc]) ?_);refine WpblockZ ?_;refine WprangeZ x.s.length (λi=>⟨[(1,.ref 1000 0 0 0),(51,.iv (.sl 1 (x.s.map st1))),(52,.nI x.s.length),(53,.nI i)],[(1000,.cells x.cs)],1704⟩) (λi=>∀j,j<i->badT x.s j=false) (by simp[keepFr,get]) (by intro j hj;omega) ?_ ?_
  ·intro i hil hg;obtain⟨t,ht⟩:∃t,x.s[i]?=some t:=⟨_,List.getElem?_eq_getElem hil⟩;refine Wps0Z (by simp[hil];rfl) ?_;refine ab (WpcondZ rfl (WpskipZ (ab (WpblockZ (Wps0Z (s':=⟨[(1,.ref 1000 0 0 0),(5,.nI i),(6,.iv (.str t)),(51,.iv (.sl 1 (x.s.map st1))),(52,.nI x.s.length),(53,.nI i)],[(1000,.cells x.cs)],2088⟩) (by
    simp[ht,st1]) ?_)))))
   refine ab ?_;refine WprgnZ (K:=0) (s':=⟨[(1,.ref 1000 0 0 0),(51,.iv (.sl 1 (x.s.map st1))),(52,.nI x.s.length),(53,.nI i),(74,.bI (badT x.s i))],[(1000,.cells x.cs)],3176⟩) (λn _=>rgn_quiet' rfl (by
    have e2:decide ((8:Int)<(t.size:Int))=decide (8<t.size):=decide_eq_decide.2 (by omega);cases i with
    |zero=>cases h1:decide (8<t.size)<;>simp[badT,ht,h1,e2]
    |succ j=>
     obtain⟨p,hp⟩:∃p,x.s[j]?=some p:=⟨_,List.getElem?_eq_getElem (by omega)⟩;have e0:decide ((0:Int)<(j:Int)+1)=true:=decide_eq_true (by omega);have e1:IntKind.i64.wrap (j:Int)=(j:Int):=IntWalk.i64_in _ (by unfold maxLen at hs;omega);cases h1:decide (8<t.size)with
     |true=>simp[badT,ht,hp,h1,e2]
     |false=>simp[S.cs,S.enc,badT,ht,hp,st1,h1,e0,e1,e2])) ?_
   refine WpcondZ rfl ?_;cases hb:badT x.s i with
   |true=>
    refine WpsgZ ?_;refine WpretZ ?_;have:rightS x=false:=by
     simp only[rightS,Bool.and_eq_false_iff];exact .inr (List.all_eq_false.2 ⟨i,by simpa using hil,by simp[hb]⟩)
    rw[this];rfl
   |false=>
    refine WpskipZ ?_;refine WprgZ ?_;refine⟨?_,λj hj=>?_⟩
    ·simp[again,keepFr,get,nrm_iv,nrm_ref_cells,nrmO,S.cs_nrm,wrap_succ hil hs]
    ·by_cases h:j=i
     ·subst h;exact hb
     ·exact hg j (by omega)
  ·intro hg2;refine WpsgZ ?_;refine ab (WpcondZ rfl (WpexitZ ?_));simp only[Ex.then,Ex.inBlock,if_true];refine WpsgZ ?_;refine WpretZ ?_;have:rightS x=true:=by
    simp only[rightS,hints,Bool.true_and];rw[List.all_eq_true];intro i hi;simp[hg2 i (by simpa using hi)]
   rw[this];rfl
end
theorem B.enc_take (b:B):b.enc.take 16=b.enc:=rfl
theorem B.enc_len (b:B):b.enc.length=16:=rfl
theorem B.enc_cs (b:B):b.enc.map AV.iv=b.cs:=rfl
section
variable {prog:Nat->Option IFn}
end
section
variable {prog:Nat->Option IFn}
end
def B.fits (b:B):Prop:=∀i,i<4->(b.get i).i.length<=maxLen/\(b.get i).s.length<=maxLen
section
variable {prog:Nat->Option IFn}
end
section
variable {prog:Nat->Option IFn}
end
section
variable {prog:Nat->Option IFn}
def cmpI (a b:Int):Int:=if a<b then -1 else if b<a then 1 else 0
theorem p_isNaN (h:prog 63=some F63) (a:Int):Ans prog 63 [.nI a] (.bI false):=by
 refine Ans.of h rfl rfl (WpsgZ ?_);refine Wps0Z (s':=⟨[(2,.bI false)],[],1320⟩) (by simp) ?_;exact WpretZ rfl
theorem p_cmp (h63:prog 63=some F63) (h:prog 52=some F52) (a b:Int):Ans prog 52 [.nI a,.nI b] (.nI (cmpI a b)):=by
 obtain⟨K1,h1⟩:=p_isNaN h63 a;obtain⟨K2,h2⟩:=p_isNaN h63 b;refine Ans.of h rfl rfl (WpsgZ ?_);refine WpskZ (K:=K1) (λn hn=>by simp[h1 n hn];rfl) ?_;refine WpskZ (K:=K2) (λn hn=>by simp[h2 n hn];rfl) ?_;refine ab (WpsgZ ?_);refine WpcondZ rfl (WpskipZ (ab (WpsgZ ?_)));refine WpcondZ rfl (WpskipZ (ab (WpsgZ ?_)));refine WpcondZ rfl ?_;unfold cmpI;cases h3:decide (a<b)with
 |true=>
  refine WpsgZ ?_;refine WpretZ ?_;rw[if_pos (of_decide_eq_true h3)];rfl
 |false=>
  refine WpskipZ (ab (WpsgZ ?_));refine WpcondZ rfl ?_;rw[if_neg (of_decide_eq_false h3)];cases h4:decide (b<a)with
  |true=>
   refine WpsgZ ?_;refine WpretZ ?_;rw[if_pos (of_decide_eq_true h4)];rfl
  |false=>
   refine WpskipZ (WpsgZ ?_);refine WpretZ ?_;rw[if_neg (of_decide_eq_false h4)];rfl
theorem p_less (h63:prog 63=some F63) (h52:prog 52=some F52) (h:prog 51=some F51) (p q:Int×Int) :
  Ans prog 51 [.agg [.nI p.1,.nI p.2],.agg [.nI q.1,.nI q.2]] (.nI (cmpI p.1 q.1)):=by
 obtain⟨K1,h1⟩:=p_cmp h63 h52 p.1 q.1;refine Ans.of h rfl rfl (WpsgZ ?_);refine WpskZ (K:=K1) (λn hn=>by simp[h1 n hn];rfl) ?_;exact WpretZ rfl
end
section
variable {prog:Nat->Option IFn}
def fewS (x:S):Bool:=decide (x.i.length<=40)&&decide (x.s.length<=40)&&x.s.all λt=>decide (t.size<=100)
theorem p_few3 (h:prog 27=some F27) (l:List S) (hl:l.length<=maxLen):Ans prog 27 [sets l] (.bI (l.all fewS)):=by
 refine Ans.of h rfl rfl (WpsgZ ?_);refine ab (WpsgZ ?_);refine WpblockZ ?_;refine WprangeZ l.length (λi=>⟨[(0,sets l),(3,.nI i)],[],1128⟩) (λi=>(l.take i).all fewS=true) rfl (by simp) ?_ ?_
 ·intro i hi hg;obtain⟨x,hx⟩:∃x,l[i]?=some x:=⟨_,List.getElem?_eq_getElem hi⟩;refine ab (Wps0Z (by simp[sets,hi];rfl) ?_);refine WpcondZ rfl (WpskipZ (ab (WpblockZ (ab (Wps0Z (s':=⟨[(0,sets l),(3,.nI i),(26,.bI (decide ((40:Int)<x.i.length)||decide ((40:Int)<x.s.length)))],[],2408⟩) (by
   cases h1:decide ((40:Int)<x.i.length)<;>simp[sets,hx,S.enc,h1]) ?_)))))
  refine WpcondZ rfl ?_;cases hb:decide ((40:Int)<x.i.length)||decide ((40:Int)<x.s.length)with
  |true=>
   refine WpsgZ ?_;refine WpretZ ?_;have:l.all fewS=false:=all_false hx (by
    simp only[Bool.or_eq_true,decide_eq_true_eq]at hb;simp only[fewS,Bool.and_eq_false_iff,decide_eq_false_iff_not];omega)
   rw[this];rfl
  |false=>
   simp only[Bool.or_eq_false_iff,decide_eq_false_iff_not]at hb;refine WpskipZ (WpsgZ ?_);refine WpblockZ ?_;refine WprangeZ x.s.length (λk=>⟨[(0,sets l),(3,.nI i),(4,.nI k)],[],2472⟩) (λk=>(x.s.take k).all (λt=>decide (t.size<=100))=true) rfl (by simp) ?_ ?_
   ·intro k hk hgk;obtain⟨t,ht⟩:∃t,x.s[k]?=some t:=⟨_,List.getElem?_eq_getElem hk⟩;refine ab (Wps0Z (by simp[sets,hx,S.enc,hk];rfl) ?_);refine WpcondZ rfl (WpskipZ (ab (WpblockZ (Wps0Z (s':=⟨[(0,sets l),(3,.nI i),(4,.nI k),(46,.bI (decide ((100:Int)<t.size)))],[],3624⟩) (by
     simp[sets,hx,S.enc,ht,st1]) ?_))))
    refine WpcondZ rfl ?_;cases hb2:decide ((100:Int)<t.size)with
    |true=>
     refine WpsgZ ?_;refine WpretZ ?_;have:l.all fewS=false:=all_false hx (by
      simp only[fewS,Bool.and_eq_false_iff];exact .inr (all_false ht (by simp only[decide_eq_true_eq,decide_eq_false_iff_not]at hb2 ⊢;omega)))
     rw[this];rfl
    |false=>
     refine WpskipZ ?_;refine WprgZ ?_;refine⟨by simp[again,keepFr,get,nrm,sets,wrap_succ hk (show x.s.length<=maxLen by unfold maxLen;omega)],?_⟩;rw[take_succ_all ht,hgk];simp only[decide_eq_false_iff_not,Bool.true_and,decide_eq_true_eq]at hb2 ⊢;omega
   ·intro hall;refine ab (Wps0Z (by simp[sets,hx,S.enc];rfl) ?_);refine WpcondZ rfl (WpexitZ ?_);simp only[Ex.then,Ex.inBlock,if_true];refine WprgZ ?_;refine⟨by simp[again,keepFr,get,nrm,sets,wrap_succ hi hl],?_⟩;rw[take_succ_all hx,hg];rw[List.take_length]at hall;simp only[fewS,hall,Bool.and_true,Bool.true_and,Bool.and_eq_true,decide_eq_true_eq];omega
 ·intro hg;refine ab (Wps0Z (by simp[sets];rfl) ?_);refine WpcondZ rfl (WpexitZ ?_);simp only[Ex.then,Ex.inBlock,if_true];refine WpsgZ ?_;refine WpretZ ?_;rw[List.take_length]at hg;rw[hg];rfl
def fewB (b:B):Bool:=fewS b.s0&&(fewS b.s1&&(fewS b.s2&&fewS b.s3))
def few (l:List B):Bool:=decide (l.length<=20)&&l.all fewB
end
end Arb
namespace Arx
open Go Go.RowKit Arb
section
variable {ν:Nat->Nat} {P:Program}
def start (W:World):Gh:=⟨Old W,λ_=>none,W,.nil⟩
theorem start_rel (W:World):Rel ν ⟨W,Old W⟩ (start W) where
 ob id o h:=by rw[show(start W).h=Tr.nil from rfl,tr_nil]at h;cases h
 inj id id' o o' b h:=by rw[show(start W).h=Tr.nil from rfl,tr_nil]at h;cases h
 small b h:=h
 i0 b h:=h
 i1 b h:=.inl h
 own id o b h:=by rw[show(start W).h=Tr.nil from rfl,tr_nil]at h;cases h
 size:=Nat.le_refl _
 os:=rfl
 tape:=rfl
 output:=rfl
 old b _:=rfl
 ty id o b h:=by rw[show(start W).h=Tr.nil from rfl,tr_nil]at h;cases h
theorem law_true (hmix:P.follows .mixedOrders=true) {p1:Nat->Option Arb.IFn} (tie1:Arb.Tie P ν p1) {p2:Nat->Option IFn} (tie2:Tie P ν p2) {f:Nat} {W:World} {cargs:Array Value} {xs:List AV}
  (hR:RL ν (start W) cargs.toList xs) (he:∃n p,run2 p1 p2 n f xs .nil 1=some (.iv (.bool true),p)):Calls P (ν f) cargs W λe w'=>e = .returned (.bool true)/\Below W.heap.size W w':=by
 obtain⟨n,⟨hp',nx'⟩,he⟩:=he;have hs:Arb.CallSound ν P (one p1 n):=Arb.sound hmix tie1 n;obtain⟨_,hok⟩:=sound hmix hs tie2 n f xs .nil 1 _ hp' nx' he;refine(hok ⟨W,Old W⟩ (start W) cargs rfl (start_rel W) hR).mono ?_;rintro e w' ⟨v,g',rfl,rfl, -,r', -,hv⟩;refine⟨?_,⟨r'.os,r'.tape,r'.output,r'.size,λb hb=>r'.old b hb⟩⟩;cases hv with
 |iv h=>cases h;rfl
theorem tie_nil:Tie P ν (get ([]:List (Nat×IFn))):=λf ir h=>by simp[fr_nil]at h
theorem tie_cons {f:Nat} {ir:IFn} {L:List (Nat×IFn)} (h:TieAt P ν f ir) (hL:Tie P ν (get L)):Tie P ν (get ((f,ir)::L)):=by
 intro f' ir' hg;simp only[fr_cons]at hg;split at hg
 ·rename_i h0;subst h0;simp only[Option.some.injEq]at hg;subst hg;exact h
 ·exact hL f' ir' hg
def oneB (P:Program) (ν:Nat->Nat) (fn:Func) (ir:IFn):Bool:=(match fn.body with | some c=>cFn P ν fn c ir | none=>false)&&!(fn.name=="runtime.NumGoroutine")
theorem tie_at {f k:Nat} {ir:IFn} {fn:Func} (hk:P.funcs[k]?=some fn) (hν:ν f=k) (h:oneB P ν fn ir=true):TieAt P ν f ir:=by
 simp only[oneB,Bool.and_eq_true,Bool.not_eq_true']at h;obtain⟨h1,h2⟩:=h;split at h1
 ·rename_i c hc;exact .inl ⟨fn,c,by rw[hν];exact hk,hc,h2,h1⟩
 ·cases h1
theorem clone_le (e:Nat):PrimLe (Prim.clone e):=λ_ _ _ _ _ _ _ _ _ _ h=>h
theorem prims_nil:PrimsLe (get ([]:List (Nat×IFn))):=λf ir p h=>by simp[fr_nil]at h
theorem prims_cons {f:Nat} {ir:IFn} {L:List (Nat×IFn)} (h:∀p,ir.prim=some p->PrimLe p) (hL:PrimsLe (get L)):PrimsLe (get ((f,ir)::L)):=by
 intro f' ir' p hg hp;simp only[fr_cons]at hg;split at hg
 ·simp only[Option.some.injEq]at hg;subst hg;exact h p hp
 ·exact hL f' ir' p hg hp
theorem prims_more {prog:Nat->Option IFn} (tie:Tie P ν prog):∀f ir p,prog f=some ir->ir.prim=some p->PrimMore p:=λf ir p hf hp=>by
 rcases tie f ir hf with⟨fn,c, -, -, -,hcf⟩|⟨p',h1, -,h2⟩
 ·simp[cFn,hp]at hcf
 ·rw[hp]at h1;cases h1;exact h2
end
end Arx
namespace Arb
open Go Go.Proofs Go.Shelf Go.RowKit Go.Lib Go.Sort
theorem rowed_flat (w:World) (b:Nat) (F F':Array Value) (hb:b<w.heap.size) (hH:Holds id w b 0 F) (hs:F'.size=F.size) (m:Nat) (os:Array Obj) :
  (∀t,t<F'.size->(grow (putRow id (Sort.ahead w m) b 0 F') os).cell? ⟨b,t,none⟩=some F'[t]!)/\w.heap.size<=(grow (putRow id (Sort.ahead w m) b 0 F') os).heap.size/\(∀x,x<w.heap.size->x≠b->(grow (putRow id (Sort.ahead w m) b 0 F') os).heap[x]?=w.heap[x]?)/\
   (∀o,(w.cell? ⟨b,o,none⟩).isSome=true->((grow (putRow id (Sort.ahead w m) b 0 F') os).cell? ⟨b,o,none⟩).isSome=true)/\(∀o,(grow (putRow id (Sort.ahead w m) b 0 F') os).frozen? ⟨b,o,none⟩=w.frozen? ⟨b,o,none⟩):=by
 have hbs:b<(putRow id (Sort.ahead w m) b 0 F').heap.size:=by rw[Sort.size_putRow];exact hb
 have hcell:∀t,t<F'.size->(grow (putRow id (Sort.ahead w m) b 0 F') os).cell? ⟨b,t,none⟩=some F'[t]!:=λt ht=>by
  rw[cell?_grow _ _ _ hbs];have:=cell?_putRow id (Sort.ahead w m) b 0 F F' (holds_ahead _ _ _ _ _ _ hH) hs t ht;rw[Nat.zero_add]at this;exact this
 refine⟨hcell,by rw[size_grow,Sort.size_putRow,heap_ahead];omega,λx hx hne=>?_,λo ho=>?_,λo=>?_⟩
 ·rw[heap_grow_old _ _ (by rw[Sort.size_putRow];exact hx)];unfold putRow mapBlock;simp only[heap_ahead];rw[Array.getElem?_modify,if_neg (Ne.symm hne)]
 ·by_cases h:o<F'.size
  ·rw[hcell o h];rfl
  ·rw[cell?_grow _ _ _ hbs,cell?_putRow_other id (Sort.ahead w m) b 0 F' ⟨b,o,none⟩ (.inr (.inr (by simp only;omega))),cell?_ahead];exact ho
 ·rw[frozen?_grow _ _ _ hbs,frozen?_putRow,frozen?_ahead]
theorem cmpLo_lt:(ltOf λx y:Int×Int=>Lib.compareInt x.1 y.1)=ltLo:=by
 funext x y;unfold ltOf Lib.compareInt ltLo;by_cases h1:x.1<y.1
 ·simp[h1]
 ·by_cases h2:y.1<x.1<;>simp[h1,h2]
theorem sortsR_of {P:Program} {ρ:Ren} (L:SlLaysF0.n6 P ρ) (aE:∀w,(isAgg (ρ.t 24)).run P w = .ok true w) (zE:∀w,(Go.sizeOf (ρ.t 24)).run P w = .ok 2 w) (g:Nat) (eg:∀args w,(callFunc g args).run P w = .ok (.enter g args) w)
  (hcmp:∀blk off size w,CmpLays P g #[] vR 2 (λx y=>Lib.compareInt x.1 y.1) blk off size w):SortsR P (ρ.f 6) g:=by
 intro b cap l w hc hsoft hb h12 hmax;have hH:HoldsK vR 2 w b 0 l.toArray:=by
  intro t ht;rw[size_flatK]at ht;simp only[List.size_toArray]at ht;rw[get_flatK _ _ _ t (by simpa using ht)];have hi:t / 2<l.length:=by omega
  have hx:l[t / 2]?=some l[t / 2]:=List.getElem?_eq_getElem hi;have hm:t % 2<2:=Nat.mod_lt _ (by omega);have hv:(vR l[t / 2])[t % 2]?=some ((vR l[t / 2])[t % 2]'(by simpa[vR]using hm)):=List.getElem?_eq_getElem _;have h1:=hc (t / 2) (t % 2) _ _ hx hv;have e1:l.toArray[t / 2]! = l[t / 2]:=by rw[getElem!_pos l.toArray (t / 2) (by simpa using hi)];simp
  rw[e1,getElem!_pos (vR l[t / 2]) (t % 2) (by simpa[vR]using hm),Nat.zero_add];refine⟨?_,hsoft _⟩;rw[show t / 2*2+t % 2=t by omega]at h1;exact h1
 have hO:SWO (ltOf λx y:Int×Int=>Lib.compareInt x.1 y.1):=by rw[cmpLo_lt];exact swoLo
 have hcon:=AnyQ.slices_SortFunc_eq L 2 aE zE vR (λ_=>rfl) (λx v hv=>by simp[vR]at hv;rcases hv with rfl | rfl<;>rfl) (λx y=>Lib.compareInt x.1 y.1) hO g #[] b 0 cap l.toArray w eg (hcmp b 0 _ w) hH hb (by simp only[List.size_toArray];omega);simp only[List.size_toArray]at hcon;refine hcon.mono ?_;rintro e w' ⟨rfl,n,os,rfl⟩;refine⟨rfl,?_⟩;rw[cmpLo_lt];have hsl:sortR l=(Sort.pdq ltLo l.toArray 0 l.length (Lib.bitLen l.length) true true).toList:=rfl;have hlen:=sortR_len l;rw[hsl]at hlen ⊢;generalize Sort.pdq ltLo l.toArray 0 l.length (Lib.bitLen l.length) true true=d at hlen ⊢;have hds:d.size=l.length:=by simpa using hlen
 obtain⟨q1,q2,q3,q4,q5⟩:=rowed_flat w b (flatK vR 2 l.toArray) (flatK vR 2 d) hb hH (by rw[size_flatK,size_flatK,hds];simp) n os;refine⟨q2,rfl,rfl,rfl,q3,λi j r v h1 h2=>?_,q4,q5⟩;simp only[List.getElem?_map,Option.map_eq_some_iff]at h1;obtain⟨p,hp,rfl⟩:=h1;have hi:i<d.size:=by simpa using(List.getElem?_eq_some_iff.1 hp).1
 have hj:j<2:=by have:=(List.getElem?_eq_some_iff.1 h2).1;simpa[vR]using this
 have:=q1 (i*2+j) (by rw[size_flatK];omega);rw[get_flatK _ _ _ _ (by omega),show(i*2+j) / 2=i by omega,show(i*2+j) % 2=j by omega]at this;have e1:d[i]! = p:=by
  rw[getElem!_pos d i hi];have:=(List.getElem?_eq_some_iff.1 hp).2;simpa using this
 rw[e1,getElem!_pos (vR p) j (by simpa[vR]using hj)]at this;have e2:=(List.getElem?_eq_some_iff.1 h2).2;rw[e2]at this;exact this
theorem sortsT_of {P:Program} {ρ:Ren} (L:Lays.n190 P ρ):SortsT P (ρ.f 190):=by
 intro b cap l w hc hsoft hb h12 hmax;have hH:Holds encStr w b 0 (l.map (·.data.toList)).toArray:=by
  intro t ht;have hi:t<l.length:=by simpa using ht
  have h1:=hc t 0 l[t] (.string l[t]) (List.getElem?_eq_getElem hi) rfl;have e1:(l.map (·.data.toList)).toArray[t]! = l[t].data.toList:=by rw[getElem!_pos _ t ht];simp
  rw[e1,Nat.zero_add];rw[Nat.mul_one,Nat.add_zero]at h1;refine⟨?_,hsoft _⟩;rw[h1]
 have hcon:=Any.slices_Sort_string L b 0 cap (l.map (·.data.toList)) w hH hb (by rw[List.length_map];omega);rw[List.length_map]at hcon;refine hcon.mono ?_;rintro e w' ⟨rfl,n,os,rfl⟩;refine⟨rfl,?_⟩;generalize hd:(l.map (·.data.toList)).mergeSort (λx y=>decide (x<=y))=d;have hsl:sortT l=d.map λb=>⟨b.toArray⟩:=by rw[<-hd];rfl
 have hlen:=sortT_len l;rw[hsl]at hlen ⊢;rw[List.length_map]at hlen;have hput:∀(W:World),putRow encStr W b 0 d.toArray=putRow id W b 0 ((d.map encStr).toArray):=by
  intro W;unfold putRow;congr 1;funext c;unfold putCells;refine Array.ext (by simp) λk h1 h2=>?_
  simp only[Array.getElem_mapIdx,List.size_toArray,List.length_map];split
  ·rename_i hk;have hk':k - 0<d.length:=by omega
   rw[getElem!_pos d.toArray (k - 0) (by simpa using hk'),getElem!_pos (d.map encStr).toArray (k - 0) (by simpa using hk')];simp
  ·rfl
 have hH':Holds id w b 0 ((l.map λs=>encStr s.data.toList).toArray):=by
  intro t ht;have hi:t<l.length:=by simpa using ht
  obtain⟨q1,q2⟩:=hH t (by simpa using hi);refine⟨?_,q2⟩;rw[q1,getElem!_pos _ t (by simpa using hi),getElem!_pos _ t (by simpa using hi)];simp
 obtain⟨q1,q2,q3,q4,q5⟩:=rowed_flat w b _ ((d.map encStr).toArray) hb hH' (by simp[hlen]) n os;rw[hput];refine⟨q2,rfl,rfl,rfl,q3,λi j r v h1 h2=>?_,q4,q5⟩;simp only[List.getElem?_map,Option.map_eq_some_iff]at h1;obtain⟨p,⟨s,hp,rfl⟩,rfl⟩:=h1;have hi:i<d.length:=(List.getElem?_eq_some_iff.1 hp).1;obtain rfl:j=0:=by have:=(List.getElem?_eq_some_iff.1 h2).1;simpa[vT]using this
 have:=q1 i (by simpa using hi);rw[getElem!_pos _ i (by simpa using hi)]at this;rw[Nat.mul_one,Nat.add_zero,this];have e1:=(List.getElem?_eq_some_iff.1 hp).2;simp only[vT,List.getElem?_cons_zero,Option.some.injEq]at h2;rw[<-h2];simp[e1,encStr]
end Arb
namespace Go.Proofs
open Go.Shelf Go.RowKit Go.Lib Go.Sort
def Tryz.sortIv_ren:Go.Shelf.Ren:=⟨fun | 6=>138 | 15=>147 | 14=>146 | 28=>159 | 29=>160 | 20=>151 | 21=>152 | 22=>153 | 23=>154 | 24=>155 | 25=>156 | 26=>157 | 27=>158 | 46=>164 | 47=>165 | 48=>166 | 49=>167 | 50=>168 | 57=>172 | n=>n,fun | 22=>81 | 24=>165 | 25=>194 | 3=>3 | 39=>201 | 0=>0 | 53=>211 | 55=>23 | 4=>4 | 46=>205 | 45=>204 | 50=>51 | 5=>5 | 9=>9 | 66=>215 | 70=>179 | 76=>222 | 77=>90 | n=>n,λn=>n⟩
theorem Tryz.sortIv:SlLaysF0.n6 Tryz.prog Tryz.sortIv_ren:={
 mixed:=by kernel_rfl,
 f6:=⟨Tryz.f138.name,by decide,Tryz.func138.trans (congrArg some (by kernel_rfl))⟩,
 f14:=⟨Tryz.f146.name,by decide,Tryz.func146.trans (congrArg some (by kernel_rfl))⟩,
 f15:=Tryz.func147.trans (congrArg some (by kernel_rfl)),
 f20:=⟨Tryz.f151.name,by decide,Tryz.func151.trans (congrArg some (by kernel_rfl))⟩,
 f21:=⟨Tryz.f152.name,by decide,Tryz.func152.trans (congrArg some (by kernel_rfl))⟩,
 f22:=⟨Tryz.f153.name,by decide,Tryz.func153.trans (congrArg some (by kernel_rfl))⟩,
 f23:=⟨Tryz.f154.name,by decide,Tryz.func154.trans (congrArg some (by kernel_rfl))⟩,
 f24:=⟨Tryz.f155.name,by decide,Tryz.func155.trans (congrArg some (by kernel_rfl))⟩,
 f25:=⟨Tryz.f156.name,by decide,Tryz.func156.trans (congrArg some (by kernel_rfl))⟩,
 f26:=⟨Tryz.f157.name,by decide,Tryz.func157.trans (congrArg some (by kernel_rfl))⟩,
 f27:=⟨Tryz.f158.name,by decide,Tryz.func158.trans (congrArg some (by kernel_rfl))⟩,
 f28:=Tryz.func159.trans (congrArg some (by kernel_rfl)),
 f29:=Tryz.func160.trans (congrArg some (by kernel_rfl)),
 f46:=⟨Tryz.f164.name,by decide,Tryz.func164.trans (congrArg some (by kernel_rfl))⟩,
 f47:=Tryz.func165.trans (congrArg some (by kernel_rfl)),
 f48:=Tryz.func166.trans (congrArg some (by kernel_rfl)),
 f49:=⟨Tryz.f167.name,by decide,Tryz.func167.trans (congrArg some (by kernel_rfl))⟩,
 f50:=⟨Tryz.f168.name,by decide,Tryz.func168.trans (congrArg some (by kernel_rfl))⟩,
 f57:=⟨Tryz.f172.name,by decide,Tryz.func172.trans (congrArg some (by kernel_rfl))⟩,
 t0:=Tryz.underlying0,
 a0:=Tryz.isAgg0,
 z0:=Tryz.sizeOf0,
 v0:=Tryz.zeroValue0,
 t3:=Tryz.underlying3,
 a3:=Tryz.isAgg3,
 z3:=Tryz.sizeOf3,
 v3:=Tryz.zeroValue3,
 t4:=Tryz.underlying4,
 a4:=Tryz.isAgg4,
 z4:=Tryz.sizeOf4,
 v4:=Tryz.zeroValue4,
 t5:=Tryz.underlying5,
 a5:=Tryz.isAgg5,
 z5:=Tryz.sizeOf5,
 v5:=Tryz.zeroValue5,
 t9:=Tryz.underlying9,
 a9:=Tryz.isAgg9,
 z9:=Tryz.sizeOf9,
 v9:=Tryz.zeroValue9,
 t22:=Tryz.underlying81,
 a22:=Tryz.isAgg81,
 z22:=Tryz.sizeOf81,
 v22:=Tryz.zeroValue81,
 t25:=Tryz.underlying194,
 a25:=Tryz.isAgg194,
 z25:=Tryz.sizeOf194,
 v25:=Tryz.zeroValue194,
 t39:=Tryz.underlying201,
 a39:=Tryz.isAgg201,
 z39:=Tryz.sizeOf201,
 v39:=Tryz.zeroValue201,
 t45:=Tryz.underlying204,
 a45:=Tryz.isAgg204,
 z45:=Tryz.sizeOf204,
 v45:=Tryz.zeroValue204,
 t46:=Tryz.underlying205,
 a46:=Tryz.isAgg205,
 z46:=Tryz.sizeOf205,
 v46:=Tryz.zeroValue205,
 t50:=Tryz.underlying51,
 a50:=Tryz.isAgg51,
 z50:=Tryz.sizeOf51,
 v50:=Tryz.zeroValue51,
 t53:=Tryz.underlying211,
 a53:=Tryz.isAgg211,
 z53:=Tryz.sizeOf211,
 v53:=Tryz.zeroValue211,
 t55:=Tryz.underlying23,
 a55:=Tryz.isAgg23,
 z55:=Tryz.sizeOf23,
 v55:=Tryz.zeroValue23,
 t66:=Tryz.underlying215,
 a66:=Tryz.isAgg215,
 z66:=Tryz.sizeOf215,
 v66:=Tryz.zeroValue215,
 t70:=Tryz.underlying179,
 a70:=Tryz.isAgg179,
 z70:=Tryz.sizeOf179,
 v70:=Tryz.zeroValue179,
 t76:=Tryz.underlying222,
 a76:=Tryz.isAgg222,
 z76:=Tryz.sizeOf222,
 v76:=Tryz.zeroValue222,
 t77:=Tryz.underlying90,
 a77:=Tryz.isAgg90,
 z77:=Tryz.sizeOf90,
 v77:=Tryz.zeroValue90 }
def Tryz.cmpInt_ren:Go.Shelf.Ren:=⟨fun | 5=>140 | 7=>148 | n=>n,fun | 22=>3 | 3=>3 | 4=>4 | n=>n,λn=>n⟩
theorem Tryz.cmpInt:SlLaysC2.n5 Tryz.prog Tryz.cmpInt_ren:={
 mixed:=by kernel_rfl,
 f5:=⟨Tryz.f140.name,by decide,Tryz.func140.trans (congrArg some (by kernel_rfl))⟩,
 f7:=⟨Tryz.f148.name,by decide,Tryz.func148.trans (congrArg some (by kernel_rfl))⟩,
 t3:=Tryz.underlying3,
 a3:=Tryz.isAgg3,
 z3:=Tryz.sizeOf3,
 v3:=Tryz.zeroValue3,
 t4:=Tryz.underlying4,
 a4:=Tryz.isAgg4,
 z4:=Tryz.sizeOf4,
 v4:=Tryz.zeroValue4,
 t22:=Tryz.underlying3,
 a22:=Tryz.isAgg3,
 z22:=Tryz.sizeOf3,
 v22:=Tryz.zeroValue3 }
def Tryz.sortStr_ren:Go.Shelf.Ren:=⟨fun | 190=>169 | 125=>147 | 258=>173 | 128=>159 | 129=>160 | 302=>174 | 303=>175 | 304=>176 | 305=>177 | 306=>178 | 307=>179 | 308=>180 | 309=>181 | 310=>182 | 333=>183 | 329=>165 | 330=>166 | 334=>184 | 335=>185 | 336=>186 | 344=>187 | n=>n,fun | 31=>82 | 9=>9 | 3=>3 | 46=>201 | 0=>0 | 51=>211 | 53=>23 | 4=>4 | 183=>205 | 182=>204 | 131=>51 | 5=>5 | 218=>215 | 222=>179 | 228=>222 | 229=>90 | n=>n,λn=>n⟩
theorem Tryz.sortStr:Lays.n190 Tryz.prog Tryz.sortStr_ren:={
 mixed:=by kernel_rfl,
 f125:=Tryz.func147.trans (congrArg some (by kernel_rfl)),
 f128:=Tryz.func159.trans (congrArg some (by kernel_rfl)),
 f129:=Tryz.func160.trans (congrArg some (by kernel_rfl)),
 f190:=Tryz.func169.trans (congrArg some (by kernel_rfl)),
 f258:=Tryz.func173.trans (congrArg some (by kernel_rfl)),
 f302:=Tryz.func174.trans (congrArg some (by kernel_rfl)),
 f303:=Tryz.func175.trans (congrArg some (by kernel_rfl)),
 f304:=Tryz.func176.trans (congrArg some (by kernel_rfl)),
 f305:=Tryz.func177.trans (congrArg some (by kernel_rfl)),
 f306:=Tryz.func178.trans (congrArg some (by kernel_rfl)),
 f307:=Tryz.func179.trans (congrArg some (by kernel_rfl)),
 f308:=Tryz.func180.trans (congrArg some (by kernel_rfl)),
 f309:=Tryz.func181.trans (congrArg some (by kernel_rfl)),
 f310:=Tryz.func182.trans (congrArg some (by kernel_rfl)),
 f329:=Tryz.func165.trans (congrArg some (by kernel_rfl)),
 f330:=Tryz.func166.trans (congrArg some (by kernel_rfl)),
 f333:=Tryz.func183.trans (congrArg some (by kernel_rfl)),
 f334:=Tryz.func184.trans (congrArg some (by kernel_rfl)),
 f335:=Tryz.func185.trans (congrArg some (by kernel_rfl)),
 f336:=Tryz.func186.trans (congrArg some (by kernel_rfl)),
 f344:=Tryz.func187.trans (congrArg some (by kernel_rfl)),
 t0:=Tryz.underlying0,
 a0:=Tryz.isAgg0,
 z0:=Tryz.sizeOf0,
 v0:=Tryz.zeroValue0,
 t3:=Tryz.underlying3,
 a3:=Tryz.isAgg3,
 z3:=Tryz.sizeOf3,
 v3:=Tryz.zeroValue3,
 t4:=Tryz.underlying4,
 a4:=Tryz.isAgg4,
 z4:=Tryz.sizeOf4,
 v4:=Tryz.zeroValue4,
 t5:=Tryz.underlying5,
 a5:=Tryz.isAgg5,
 z5:=Tryz.sizeOf5,
 v5:=Tryz.zeroValue5,
 t9:=Tryz.underlying9,
 a9:=Tryz.isAgg9,
 z9:=Tryz.sizeOf9,
 v9:=Tryz.zeroValue9,
 t31:=Tryz.underlying82,
 a31:=Tryz.isAgg82,
 z31:=Tryz.sizeOf82,
 v31:=Tryz.zeroValue82,
 t46:=Tryz.underlying201,
 a46:=Tryz.isAgg201,
 z46:=Tryz.sizeOf201,
 v46:=Tryz.zeroValue201,
 t51:=Tryz.underlying211,
 a51:=Tryz.isAgg211,
 z51:=Tryz.sizeOf211,
 v51:=Tryz.zeroValue211,
 t53:=Tryz.underlying23,
 a53:=Tryz.isAgg23,
 z53:=Tryz.sizeOf23,
 v53:=Tryz.zeroValue23,
 t131:=Tryz.underlying51,
 a131:=Tryz.isAgg51,
 z131:=Tryz.sizeOf51,
 v131:=Tryz.zeroValue51,
 t182:=Tryz.underlying204,
 a182:=Tryz.isAgg204,
 z182:=Tryz.sizeOf204,
 v182:=Tryz.zeroValue204,
 t183:=Tryz.underlying205,
 a183:=Tryz.isAgg205,
 z183:=Tryz.sizeOf205,
 v183:=Tryz.zeroValue205,
 t218:=Tryz.underlying215,
 a218:=Tryz.isAgg215,
 z218:=Tryz.sizeOf215,
 v218:=Tryz.zeroValue215,
 t222:=Tryz.underlying179,
 a222:=Tryz.isAgg179,
 z222:=Tryz.sizeOf179,
 v222:=Tryz.zeroValue179,
 t228:=Tryz.underlying222,
 a228:=Tryz.isAgg222,
 z228:=Tryz.sizeOf222,
 v228:=Tryz.zeroValue222,
 t229:=Tryz.underlying90,
 a229:=Tryz.isAgg90,
 z229:=Tryz.sizeOf90,
 v229:=Tryz.zeroValue90 }
theorem Tryz.closureLo (x y:Int×Int) (W:World):Calls Tryz.prog 139 #[.agg #[.int .i64 x.1,.int .i64 x.2],.agg #[.int .i64 y.1,.int .i64 y.2]] W λe w'=>e = .returned (.int .i64 (Lib.compareInt x.1 y.1))/\∃q os',w'=grow (W.drewN q) os':=by
 have hcon:=λW'=>AnyG.cmp_Compare_int Tryz.cmpInt x.1 y.1 W'
 change ∀W',Calls Tryz.prog 140 _ _ _ at hcon;generalize Lib.compareInt x.1 y.1=r at hcon ⊢
 go_enter Tryz.func139,Tryz.ntmps139
 go_wp2_with (go_at_call 140;refine(hcon _).mono ?_;rintro e w' ⟨rfl,rfl⟩)
 go_ret
 exact⟨rfl,0,_,by rw[alloc_eq_grow,alloc_eq_grow,grow_grow];rfl⟩
theorem Tryz.sortsR:Arb.SortsR Tryz.prog 138 139:=
 Arb.sortsR_of Tryz.sortIv Tryz.isAgg165 Tryz.sizeOf165 139 (enters_of Tryz.func139 (by kernel_rfl) rfl) λ_ _ _ _ _ _ _ _ x y=>Tryz.closureLo x y _
theorem Tryz.sortsT:Arb.SortsT Tryz.prog 169:=Arb.sortsT_of Tryz.sortStr
end Go.Proofs
namespace Arb
def G50:IFn:={ F50 with cl:=some (2000051,[]) }
def G55:IFn:={ F55 with cl:=some (1000000,[]) }
end Arb
namespace Arx
open Go Go.Proofs
namespace Tied
def nus:List Nat:=[0,0,0,0,0,0,0,0,29,0,0,0,0,0,0,0,0,134,0,120,53,0,0,149,128,0,100,78,0,0,81,0,143,144,28,73,76,122,137,161,162,112,102,52,0,105,106,99,92,93,138,139,140,109,123,169,170,124,127,118,119,146,147,148,130,173,135,136,151,159,160,174,180,145,158,157,156,155,154,153,152,182,181,179,178,177,176,175,186,0,0,0,0,0,0,0,0,0,72,88,90,91,0,113,114,110,111,0,131,132,142,150,0,163,171,125,68,0,0,43,67,103,60,35,77,96,141,83,108,101,121,38,0,57,58,74,94,40,65,22,0,107,47,44,66,32,46,0,129,69,41,82,56,7,10,15,14,13,5,6,12,27,51,50,49,71,70,84,85,61,62,9,17,16,34,33,23,19,59,75,95,30,54,39,64,80,79,104,126,98,97,116,117,31,55,24,48,21,20,45,42,18,37,36,63,0,11,8,26,25,0,0,0,0,0,0,0,0,0,0,0,0,0,0,0,0,0,0,0,0,0,0,0,0,0,0,0,0,0,0,0,0,0,0,0,0,0,0,0,0,0,0,0,0,0,0,0,0,0,0,0,0,0,0,0,0,0,0,0,0,0,0,0,0,0,0,0,4,3,89,86,115,133,87,0,0,0,0,0,0,0,0,0,0,0,0,0,0,0,0,0,0,0,0,0,0,0,0,0,0,0,0,0,0,0,0,0,0,0,0,0,0,0,0,0,0,0,0,0,0,0,166,165,0,0,0,0,0,0,0,0,0,0,0,0,0,0,0,0,0,0,0,0,0,0,0,0,0,0,0,0,0,0,0,0,0,0,0,0,0,0,0,0,0,0,0,0,0,0,0,0,0,0,0,0,0,0,0,0,0,0,0,0,0,0,0,0,0,0,0,0,0,0,0,0,0,0,0,0,0,0,0,0,0,0,0,0,0,0,0,0,0,0,0,0,0,0,0,0]
def nu (n:Nat):Nat:=if n=tyBld then 0 else if n=tyByte then 0 else nus.getD n 0
def fns1:List (Nat×Arb.IFn):=[(8,Arb.F8),(17,Arb.F17),(19,Arb.F19),(20,Arb.F20),(23,Arb.F23),(24,Arb.F24),(26,Arb.F26),(27,Arb.F27),(30,Arb.F30),(32,Arb.F32),(33,Arb.F33),(34,Arb.F34),(35,Arb.F35),(36,Arb.F36),(37,Arb.F37),(38,Arb.F38),(39,Arb.F39),(40,Arb.F40),(41,Arb.F41),(42,Arb.F42),(43,Arb.F43),(45,Arb.F45),(46,Arb.F46),(47,Arb.F47),(48,Arb.F48),(49,Arb.F49),(50,Arb.G50),(51,Arb.F51),(52,Arb.F52),(53,Arb.F53),(54,Arb.F54),(55,Arb.G55),(56,Arb.F56),(57,Arb.F57),(58,Arb.F58),(59,Arb.F59),(60,Arb.F60),(61,Arb.F61),(62,Arb.F62),(63,Arb.F63),(64,Arb.F64),(65,Arb.F65),(66,Arb.F66),(67,Arb.F67),(68,Arb.F68),(69,Arb.F69),(70,Arb.F70),(71,Arb.F71),(72,Arb.F72),(73,Arb.F73),(88,Arb.F88),(98,Arb.F98),(99,Arb.F99),(100,Arb.F100),(101,Arb.F101),(103,Arb.F103),(104,Arb.F104),(105,Arb.F105),(106,Arb.F106),(108,Arb.F108),(109,Arb.F109),(110,Arb.F110),(111,Arb.F111),(113,Arb.F113),(114,Arb.F114),(115,Arb.F115),(116,Arb.F116),(119,Arb.F119),(120,Arb.F120),(121,Arb.F121),(122,Arb.F122),(123,Arb.F123),(124,Arb.F124),(125,Arb.F125),(126,Arb.F126),(127,Arb.F127),(128,Arb.F128),(129,Arb.F129),(130,Arb.F130),(131,Arb.F131),(133,Arb.F133),(134,Arb.F134),(135,Arb.F135),(137,Arb.F137),(138,Arb.F138),(141,Arb.F141),(144,Arb.F144),(145,Arb.F145),(148,Arb.F148),(151,Arb.F151),(152,Arb.F152),(160,Arb.F160),(164,Arb.F164),(165,Arb.F165),(166,Arb.F166),(167,Arb.F167),(168,Arb.F168),(169,Arb.F169),(170,Arb.F170),(171,Arb.F171),(201,Arb.F201),(202,Arb.F202),(203,Arb.F203),(204,Arb.F204),(279,Arb.F279),(280,Arb.F280),(281,Arb.F281),(282,Arb.F282),(283,Arb.F283)]
def fns2:List (Nat×IFn):=[(136,F136),(139,F139),(142,F142),(143,F143),(146,F146),(149,F149),(150,F150),(153,F153),(154,F154),(155,F155),(156,F156),(157,F157),(158,F158),(159,F159),(161,F161),(162,F162),(163,F163),(172,F172),(173,F173),(174,F174),(175,F175),(176,F176),(177,F177),(178,F178),(179,F179),(180,F180),(181,F181),(182,F182),(183,F183),(184,F184),(185,F185),(186,F186),(187,F187),(188,F188),(189,F189),(190,F190),(191,F191),(192,F192),(193,F193),(194,F194),(195,F195),(196,F196),(197,F197),(198,F198),(199,F199),(200,F200),(277,F277)]
theorem mixed:Tryz.prog.follows .mixedOrders=true:=Tryz.checked.mixed
open Tryz
theorem z1 {f k:Nat} {ir:Arb.IFn} {fn:Func} {L:List (Nat×Arb.IFn)} (hk:Tryz.prog.funcs[k]?=some fn) (h1:nu f=k) (h2:Arb.oneB Tryz.prog nu fn ir=true) (t:Arb.Tie Tryz.prog nu (Arb.get L)):Arb.Tie Tryz.prog nu (Arb.get ((f,ir)::L)):=Arb.tie_cons (Arb.tie_at hk h1 h2) t
theorem z2 {f k:Nat} {ir:IFn} {fn:Func} {L:List (Nat×IFn)} (hk:Tryz.prog.funcs[k]?=some fn) (h1:nu f=k) (h2:oneB Tryz.prog nu fn ir=true) (t:Tie Tryz.prog nu (Arx.get L)):Tie Tryz.prog nu (Arx.get ((f,ir)::L)):=tie_cons (tie_at hk h1 h2) t
theorem zp {f:Nat} {ir:IFn} {L:List (Nat×IFn)} (h:ir.prim=none) (t:PrimsLe (Arx.get L)):PrimsLe (Arx.get ((f,ir)::L)):=prims_cons (λp e=>by rw[h]at e;cases e) t
theorem tie1:Arb.Tie Tryz.prog nu (Arb.get fns1):=by
 refine z1 func29 ?_ ?_<|z1 func134 ?_ ?_<|z1 func120 ?_ ?_<|z1 func53 ?_ ?_<|z1 func149 ?_ ?_<|z1 func128 ?_ ?_<|z1 func100 ?_ ?_<|z1 func78 ?_ ?_<|z1 func81 ?_ ?_<|z1 func143 ?_ ?_<|z1 func144 ?_ ?_<|z1 func28 ?_ ?_<|z1 func73 ?_ ?_<|z1 func76 ?_ ?_<|z1 func122 ?_ ?_<|z1 func137 ?_ ?_<|z1 func161 ?_ ?_<|z1 func162 ?_ ?_<|z1 func112 ?_ ?_<|z1 func102 ?_ ?_<|z1 func52 ?_ ?_<|z1 func105 ?_ ?_<|z1 func106 ?_ ?_<|z1 func99 ?_ ?_<|z1 func92 ?_ ?_<|z1 func93 ?_ ?_<|Arb.tie_cons (Arb.tie_sort Tryz.func138 ?_ ?_ (.inr (Arb.sortR_ok (f:=50) (c:=51) Tryz.sortsR)))<|z1 func139 ?_ ?_<|z1 func140 ?_ ?_<|z1 func109 ?_ ?_<|z1 func123 ?_ ?_<|Arb.tie_cons (Arb.tie_sort Tryz.func169 ?_ ?_ (.inr (Arb.sortT_ok (f:=55) Tryz.sortsT)))<|z1 func170 ?_ ?_<|z1 func124 ?_ ?_<|z1 func127 ?_ ?_<|z1 func118 ?_ ?_<|z1 func119 ?_ ?_<|z1 func146 ?_ ?_<|z1 func147 ?_ ?_<|z1 func148 ?_ ?_<|z1 func130 ?_ ?_<|z1 func173 ?_ ?_<|z1 func135 ?_ ?_<|z1 func136 ?_ ?_<|z1 func151 ?_ ?_<|z1 func159 ?_ ?_<|z1 func160 ?_ ?_<|z1 func174 ?_ ?_<|z1 func180 ?_ ?_<|z1 func145 ?_ ?_<|z1 func186 ?_ ?_<|z1 func72 ?_ ?_<|z1 func88 ?_ ?_<|z1 func90 ?_ ?_<|z1 func91 ?_ ?_<|z1 func113 ?_ ?_<|z1 func114 ?_ ?_<|z1 func110 ?_ ?_<|z1 func111 ?_ ?_<|z1 func131 ?_ ?_<|z1 func132 ?_ ?_<|z1 func142 ?_ ?_<|z1 func150 ?_ ?_<|z1 func163 ?_ ?_<|z1 func171 ?_ ?_<|z1 func125 ?_ ?_<|z1 func68 ?_ ?_<|z1 func43 ?_ ?_<|z1 func67 ?_ ?_<|z1 func103 ?_ ?_<|z1 func60 ?_ ?_<|z1 func35 ?_ ?_<|z1 func77 ?_ ?_<|z1 func96 ?_ ?_<|z1 func141 ?_ ?_<|z1 func83 ?_ ?_<|z1 func108 ?_ ?_<|z1 func101 ?_ ?_<|z1 func121 ?_ ?_<|z1 func38 ?_ ?_<|z1 func57 ?_ ?_<|z1 func58 ?_ ?_<|z1 func74 ?_ ?_<|z1 func40 ?_ ?_<|z1 func65 ?_ ?_<|z1 func107 ?_ ?_<|z1 func66 ?_ ?_<|z1 func32 ?_ ?_<|z1 func129 ?_ ?_<|z1 func82 ?_ ?_<|z1 func56 ?_ ?_<|z1 func12 ?_ ?_<|z1 func49 ?_ ?_<|z1 func71 ?_ ?_<|z1 func70 ?_ ?_<|z1 func84 ?_ ?_<|z1 func85 ?_ ?_<|z1 func61 ?_ ?_<|z1 func62 ?_ ?_<|z1 func9 ?_ ?_<|z1 func18 ?_ ?_<|z1 func37 ?_ ?_<|z1 func36 ?_ ?_<|z1 func63 ?_ ?_<|z1 func89 ?_ ?_<|z1 func86 ?_ ?_<|z1 func115 ?_ ?_<|z1 func133 ?_ ?_<|z1 func87 ?_ ?_<|Arb.tie_nil
 all_goals kernel_rfl
theorem tie2:Tie Tryz.prog nu (Arx.get fns2):=by
 refine z2 func94 ?_ ?_<|z2 func22 ?_ ?_<|z2 func47 ?_ ?_<|z2 func44 ?_ ?_<|z2 func46 ?_ ?_<|z2 func69 ?_ ?_<|z2 func41 ?_ ?_<|z2 func7 ?_ ?_<|z2 func10 ?_ ?_<|z2 func15 ?_ ?_<|z2 func14 ?_ ?_<|z2 func13 ?_ ?_<|z2 func5 ?_ ?_<|z2 func6 ?_ ?_<|z2 func27 ?_ ?_<|z2 func51 ?_ ?_<|z2 func50 ?_ ?_<|z2 func17 ?_ ?_<|z2 func16 ?_ ?_<|z2 func34 ?_ ?_<|z2 func33 ?_ ?_<|z2 func23 ?_ ?_<|z2 func19 ?_ ?_<|z2 func59 ?_ ?_<|z2 func75 ?_ ?_<|z2 func95 ?_ ?_<|z2 func30 ?_ ?_<|z2 func54 ?_ ?_<|z2 func39 ?_ ?_<|z2 func64 ?_ ?_<|z2 func80 ?_ ?_<|z2 func79 ?_ ?_<|z2 func104 ?_ ?_<|z2 func126 ?_ ?_<|z2 func98 ?_ ?_<|z2 func97 ?_ ?_<|z2 func116 ?_ ?_<|z2 func117 ?_ ?_<|z2 func31 ?_ ?_<|tie_cons (tie_clone mixed Tryz.func55 ?_ rfl ?_)<|z2 func24 ?_ ?_<|z2 func48 ?_ ?_<|z2 func21 ?_ ?_<|z2 func20 ?_ ?_<|z2 func45 ?_ ?_<|z2 func42 ?_ ?_<|z2 func4 ?_ ?_<|tie_nil
 all_goals kernel_rfl
theorem le2:PrimsLe (Arx.get fns2):=
 zp rfl<|zp rfl<|zp rfl<|zp rfl<|zp rfl<|zp rfl<|zp rfl<|zp rfl<|zp rfl<|zp rfl<|zp rfl<|zp rfl<|zp rfl<|zp rfl<|zp rfl<|zp rfl<|zp rfl<|zp rfl<|zp rfl<|zp rfl<|zp rfl<|zp rfl<|zp rfl<|zp rfl<|zp rfl<|zp rfl<|zp rfl<|zp rfl<|zp rfl<|zp rfl<|zp rfl<|zp rfl<|zp rfl<|zp rfl<|zp rfl<|zp rfl<|zp rfl<|zp rfl<|zp rfl<|prims_cons (λp h=>by cases h;exact clone_le 7)<|zp rfl<|zp rfl<|zp rfl<|zp rfl<|zp rfl<|zp rfl<|zp rfl<|prims_nil
theorem more2 (n:Nat):MoreX (run2 (Arb.get fns1) (Arx.get fns2) n):=evalF_more (prims_more tie2) n
end Tied
end Arx
namespace Arb
open Go
def B.put (b:B) (i:Nat) (x:S):B:=
 match i with
 |0=>⟨x,b.s1,b.s2,b.s3⟩
 |1=>⟨b.s0,x,b.s2,b.s3⟩
 |2=>⟨b.s0,b.s1,x,b.s3⟩
 |_=>⟨b.s0,b.s1,b.s2,x⟩
theorem B.put_cs (b:B) {i:Nat} (h:i<4) (x:S):splice b.cs (i*4) [.iv (.bool x.a),.iv (.sl 2 (x.i.map rng)),.iv (.bool x.c),.iv (.sl 1 (x.s.map st1))]=(b.put i x).cs:=by
 match i,h with
 |0,_=>rfl
 |1,_=>rfl
 |2,_=>rfl
 |3,_=>rfl
theorem B.put_all (c:B) (l:List AV) (h:l.length=16):splice l 0 c.cs=c.cs:=by
 unfold splice;simp only[List.take_zero,List.nil_append,B.cs_len,Nat.zero_add];rw[List.drop_of_length_le (by omega),List.append_nil]
section
variable {prog:Nat->Option IFn}
set_option maxHeartbeats 1000000 in
theorem p_with (h:prog 19=some F19) (b:B) (x:S) {i:Nat} (hi:i<4):Ans prog 19 [b.av,.iv (.int .i64 i),x.av] (b.put i x).av:=by
 have hi':(i:Int)<4:=by omega
 have hm:i*4+4<=16:=by omega
 refine Ans.of h rfl rfl (Wps0Z (by simp[evalRgn,Option.map_some,evalOps,step,wants,osem,Mrun_bindZ,M.mapL,M.run,M.ok,M.fresh,M.write,M.look,M.lift,putD,Arb.set,ev,Arb.get,keepFr,bin,intBin,strBin,mk,params,cellsM,load,obRead,fadr,fld,isl,iarr,xarr,idx,len,valid,slc,bound,store,splice,nilc,un,eqs,eq0,evalFeet,footOf,M.foot,orderOk,apartAll,apart1,clash,meets,callM,fcallM,callee,fz1,flat,flat1,flat0,flatI,Option.bind_some,putAll,M.bind,B.av,B.cs_nilc,S.av];rfl) ?_);refine ab (Wps0Z (by simp[evalRgn,Option.map_some,evalOps,step,wants,osem,Mrun_bindZ,M.mapL,M.run,M.ok,M.fresh,M.write,M.look,M.lift,putD,Arb.set,ev,Arb.get,keepFr,bin,intBin,strBin,mk,params,cellsM,load,obRead,fadr,fld,isl,iarr,xarr,idx,len,valid,slc,bound,store,splice,nilc,un,eqs,eq0,evalFeet,footOf,M.foot,orderOk,apartAll,apart1,clash,meets,callM,fcallM,callee,fz1,fzC,fz,flat,flat1,flat0,flatI,Option.bind_some,putAll,M.bind,hi'];rfl) ?_)
 refine WpcondZ rfl ?_;refine Wpr0Z (by
  simp only[evalRgn,evalOps,step,wants,osem,Mrun_bindZ,M.run,M.ok,M.look,M.write,M.lift,putD,Arb.set,ev,Arb.get,keepFr,load,obRead,mk,iarr,idx,valid,store,cellsM];simp[Arb.get,Arb.set,M.run,M.ok,M.look,M.write,M.lift,Mrun_bindZ,M.bind,hi',nilc,B.cs_len,hm,B.put_cs b hi x,keepFr,mk];rfl) ?_
 simp only[Ex.then];refine Wps0Z (by
  simp[evalRgn,Option.map_some,evalOps,step,wants,osem,Mrun_bindZ,M.mapL,M.run,M.ok,M.fresh,M.write,M.look,M.lift,putD,Arb.set,ev,Arb.get,keepFr,bin,intBin,strBin,mk,params,cellsM,load,obRead,fadr,fld,isl,iarr,xarr,idx,len,valid,slc,bound,store,nilc,un,eqs,eq0,evalFeet,footOf,M.foot,orderOk,apartAll,apart1,clash,meets,callM,fcallM,callee,fz1,flat,flat1,flat0,flatI,Option.bind_some,putAll,M.bind,B.cs_16,B.cs_len,B.cs_nilc,B.put_all];rfl) ?_
 refine WpretZ ?_;simp[FinS,F19,resAll,resM,outA,load,obRead,mk,ev,get,M.look,M.bind,M.run,Mrun_bindZ,M.ok,M.lift,shut,fzA,fz1,B.cs_16,B.cs_len,B.cs_fzC,B.av]
end
end Arb
namespace Arb
open Go
attribute [local simp] evalRgn Option.map_some evalOps step wants osem Mrun_bindZ M.mapL M.run M.ok M.fresh M.write M.look M.lift putD Arb.set ev Arb.get keepFr bin intBin strBin mk params cellsM load obRead fadr fld isl iarr xarr idx len valid slc bound store splice nilc un eqs eq0 evalFeet footOf M.foot orderOk apartAll apart1 clash meets callM fcallM callee fz1 fzC fz flat flat1 flat0 flatI Option.bind_some putAll M.bind
section
variable {prog:Nat->Option IFn}
theorem sameS_false {x y:S} (h:x.a≠y.a\/x.c≠y.c\/x.i≠y.i\/x.s≠y.s):sameS x y=false:=by
 simp only[sameS,Bool.and_eq_false_iff,beq_eq_false_iff_ne,decide_eq_false_iff_not];exact h
theorem get_ne {α:Type} {a b:List α} {i:Nat} {x y:α} (hx:a[i]?=some x) (hy:b[i]?=some y) (h:x≠y):a≠b:=by
 intro e;rw[e,hy]at hx;cases hx;exact h rfl
set_option maxHeartbeats 2000000 in
theorem p_same3 (h:prog 41=some F41) (x y:S) (hi:x.i.length<=maxLen) (hs:x.s.length<=maxLen):Ans prog 41 [x.av,y.av] (.bI (sameS x y)):=by
 refine Ans.of h rfl rfl (Wps0Z (s':=⟨[(2,.ref 1000 0 0 0),(3,.ref 1064 0 0 0)],[(1000,.cells x.cs),(1064,.cells y.cs)],1192⟩) (by simp[S.av,S.cs,S.enc]) ?_);refine ab (ab ?_);refine WprgnZ (K:=0) (s':=⟨[(2,.ref 1000 0 0 0),(3,.ref 1064 0 0 0),(36,.bI (x.a != y.a||(x.c != y.c||(x.i.length != y.i.length||x.s.length != y.s.length))))],[(1000,.cells x.cs),(1064,.cells y.cs)],3112⟩) (λn _=>rgn_quiet' rfl (by
  have e1:((x.i.length:Int) != y.i.length)=(x.i.length != y.i.length):=by rw[Bool.eq_iff_iff];simp;omega
  have e2:((x.s.length:Int) != y.s.length)=(x.s.length != y.s.length):=by rw[Bool.eq_iff_iff];simp;omega
  have n1:(!(x.a==y.a))=(x.a != y.a):=rfl;have n2:(!(x.c==y.c))=(x.c != y.c):=rfl;cases h1:x.a != y.a with
  |true=>simp[S.cs,S.enc,n1,h1]
  |false=>
   cases h2:x.c != y.c with
   |true=>simp[S.cs,S.enc,n1,n2,h1,h2]
   |false=>cases h3:x.i.length != y.i.length<;>simp[S.cs,S.enc,n1,n2,h1,h2,h3,e1,e2])) ?_
 refine WpcondZ rfl ?_;cases hne:x.a != y.a||(x.c != y.c||(x.i.length != y.i.length||x.s.length != y.s.length))with
 |true=>
  refine WpsgZ ?_;refine WpretZ ?_;have:sameS x y=false:=by
   apply sameS_false;simp only[Bool.or_eq_true,bne_iff_ne]at hne;rcases hne with h | h | h | h
   ·exact .inl h
   ·exact .inr (.inl h)
   ·exact .inr (.inr (.inl λe=>h (by rw[e])))
   ·exact .inr (.inr (.inr λe=>h (by rw[e])))
  rw[this];rfl
 |false=>
  simp only[Bool.or_eq_false_iff,bne_eq_false_iff_eq]at hne;obtain⟨ha,hc,hli,hls⟩:=hne;refine WpskipZ (ab (WpsgZ ?_));refine WpblockZ ?_;refine WprangeZ x.i.length (λi=>⟨[(2,.ref 1000 0 0 0),(3,.ref 1064 0 0 0),(5,.nI i)],[(1000,.cells x.cs),(1064,.cells y.cs)],3176⟩) (λi=>x.i.take i=y.i.take i) rfl (by simp) ?_ ?_
  ·intro i hil hg;obtain⟨r,hr⟩:∃r,x.i[i]?=some r:=⟨_,List.getElem?_eq_getElem hil⟩;obtain⟨q,hq⟩:∃q,y.i[i]?=some q:=⟨_,List.getElem?_eq_getElem (by omega)⟩;refine ab (Wps0Z (s':=⟨[(2,.ref 1000 0 0 0),(3,.ref 1064 0 0 0),(5,.nI i),(41,.bI true)],[(1000,.cells x.cs),(1064,.cells y.cs)],3496⟩) (by simp[S.cs,S.enc,hil]) ?_);refine WpcondZ rfl (WpskipZ (ab (WpblockZ (ab ?_))));refine WprgnZ (K:=0) (s':=⟨[(2,.ref 1000 0 0 0),(3,.ref 1064 0 0 0),(5,.nI i),(54,.bI (!(r.1==q.1&&r.2==q.2)))],[(1000,.cells x.cs),(1064,.cells y.cs)],4200⟩) (λn _=>rgn_quiet' rfl (by
    simp[S.cs,S.enc,hr,hq,rng])) ?_
   refine WpcondZ rfl ?_;cases hb:(r.1==q.1&&r.2==q.2)with
   |true=>
    refine WpskipZ ?_;refine WprgZ ?_;refine⟨by simp[again,keepFr,get,nrm_iv,nrm_ref_cells,nrmO,S.cs_nrm,wrap_succ hil hi],take_succ_eq hr hq hg ?_⟩;simp at hb;exact Prod.ext hb.1 hb.2
   |false=>
    refine WpsgZ ?_;refine WpretZ ?_;have:sameS x y=false:=sameS_false (.inr (.inr (.inl (get_ne hr hq λe=>by rw[e]at hb;simp at hb))));rw[this];rfl
  ·intro hg;have hie:x.i=y.i:=by rw[List.take_length,hli,List.take_length]at hg;exact hg
   refine ab (Wps0Z (s':=⟨[(2,.ref 1000 0 0 0),(3,.ref 1064 0 0 0),(5,.nI x.i.length),(41,.bI false)],[(1000,.cells x.cs),(1064,.cells y.cs)],3496⟩) (by simp[S.cs,S.enc]) ?_);refine WpcondZ rfl (WpexitZ ?_);simp only[Ex.then,Ex.inBlock,if_true];refine ab (WpsgZ ?_);refine WpblockZ ?_;refine WprangeZ x.s.length (λi=>⟨[(2,.ref 1000 0 0 0),(3,.ref 1064 0 0 0),(6,.nI i)],[(1000,.cells x.cs),(1064,.cells y.cs)],3560⟩) (λi=>x.s.take i=y.s.take i) rfl (by simp) ?_ ?_
   ·intro i hil hg;obtain⟨r,hr⟩:∃r,x.s[i]?=some r:=⟨_,List.getElem?_eq_getElem hil⟩;obtain⟨q,hq⟩:∃q,y.s[i]?=some q:=⟨_,List.getElem?_eq_getElem (by omega)⟩;refine ab (Wps0Z (s':=⟨[(2,.ref 1000 0 0 0),(3,.ref 1064 0 0 0),(6,.nI i),(59,.bI true)],[(1000,.cells x.cs),(1064,.cells y.cs)],3880⟩) (by simp[S.cs,S.enc,hil]) ?_);refine WpcondZ rfl (WpskipZ (ab (WpblockZ (ab ?_))));refine WprgnZ (K:=0) (s':=⟨[(2,.ref 1000 0 0 0),(3,.ref 1064 0 0 0),(6,.nI i),(72,.bI (!(r==q)))],[(1000,.cells x.cs),(1064,.cells y.cs)],4584⟩) (λn _=>rgn_quiet' rfl (by
     simp[S.cs,S.enc,hr,hq,st1])) ?_
    refine WpcondZ rfl ?_;cases hb:(r==q)with
    |true=>
     refine WpskipZ ?_;refine WprgZ ?_;refine⟨by simp[again,keepFr,get,nrm_iv,nrm_ref_cells,nrmO,S.cs_nrm,wrap_succ hil hs],take_succ_eq hr hq hg ?_⟩;rw[ba_beq,decide_eq_true_eq]at hb;exact hb
    |false=>
     refine WpsgZ ?_;refine WpretZ ?_;have:sameS x y=false:=sameS_false (.inr (.inr (.inr (get_ne hr hq λe=>by rw[e]at hb;simp[ba_beq]at hb))));rw[this];rfl
   ·intro hg;have hse:x.s=y.s:=by rw[List.take_length,hls,List.take_length]at hg;exact hg
    refine ab (Wps0Z (s':=⟨[(2,.ref 1000 0 0 0),(3,.ref 1064 0 0 0),(6,.nI x.s.length),(59,.bI false)],[(1000,.cells x.cs),(1064,.cells y.cs)],3880⟩) (by simp[S.cs,S.enc]) ?_);refine WpcondZ rfl (WpexitZ ?_);simp only[Ex.then,Ex.inBlock,if_true];refine WpsgZ ?_;refine WpretZ ?_;rw[show sameS x y=true by simp[sameS,ha,hc,hie,hse]];rfl
end
section
variable {prog:Nat->Option IFn}
end
def idxFrom (t:ByteArray):List ByteArray->Nat->Int
 |[],_=>-1
 |x::r,k=>if t=x then(k:Int) else idxFrom t r (k+1)
def hasT (l:List ByteArray) (t:ByteArray):Bool:=decide (0<=idxFrom t l 0)
theorem idxFrom_mem (t:ByteArray):∀(l:List ByteArray) (k:Nat),0<=idxFrom t l k↔t ∈ l
 |[],k=>by simp[idxFrom]
 |x::r,k=>by
  simp only[idxFrom];split
  ·rename_i h;subst h;simp
  ·rename_i h;rw[idxFrom_mem t r (k+1)];simp[h]
theorem drop_cons {α:Type} {l:List α} {i:Nat} {x:α} (h:l[i]?=some x):l.drop i=x::l.drop (i+1):=by
 obtain⟨h1,h2⟩:=List.getElem?_eq_some_iff.1 h;rw[List.drop_eq_getElem_cons h1,h2]
section
variable {prog:Nat->Option IFn}
theorem p_index (h:prog 64=some F64) (l:List ByteArray) (t:ByteArray) (hl:l.length<=maxLen):Ans prog 64 [.iv (.sl 1 (l.map st1)),.iv (.str t)] (.nI (idxFrom t l 0)):=by
 refine Ans.of h rfl rfl (WpsgZ ?_);refine ab (WpsgZ ?_);refine WpblockZ ?_;refine WprangeZ l.length (λi=>⟨[(0,.iv (.sl 1 (l.map st1))),(1,.iv (.str t)),(7,.nI l.length),(8,.nI i)],[],1256⟩) (λi=>idxFrom t (l.drop i) i=idxFrom t l 0) (by simp[keepFr,get]) rfl ?_ ?_
 ·intro i hi hg;obtain⟨x,hx⟩:∃x,l[i]?=some x:=⟨_,List.getElem?_eq_getElem hi⟩;rw[drop_cons hx,idxFrom]at hg;refine Wps0Z (by simp[hi];rfl) ?_;refine ab (WpcondZ rfl (WpskipZ (ab (WpblockZ (WpsgZ ?_)))));refine Wps0Z (s':=⟨[(0,.iv (.sl 1 (l.map st1))),(1,.iv (.str t)),(5,.nI i),(7,.nI l.length),(8,.nI i),(16,.bI (t==x))],[],1832⟩) (by simp[hx,st1]) ?_;refine WpcondZ rfl ?_;cases hb:t==x with
  |true=>
   refine WpsgZ ?_;refine WpretZ ?_;rw[ba_beq,decide_eq_true_eq]at hb;rw[if_pos hb]at hg;rw[<-hg];rfl
  |false=>
   refine WpskipZ ?_;refine WprgZ ?_;rw[ba_beq,decide_eq_false_iff_not]at hb;rw[if_neg hb]at hg;exact⟨by simp[again,keepFr,get,nrm,wrap_succ hi hl],hg⟩
 ·intro hg;rw[List.drop_length]at hg;refine WpsgZ ?_;refine ab (WpcondZ rfl (WpexitZ ?_));simp only[Ex.then,Ex.inBlock,if_true];refine WpsgZ ?_;refine WpretZ ?_;rw[<-hg];rfl
theorem p_contains (h64:prog 64=some F64) (h:prog 53=some F53) (l:List ByteArray) (t:ByteArray) (hl:l.length<=maxLen):Ans prog 53 [.iv (.sl 1 (l.map st1)),.iv (.str t)] (.bI (hasT l t)):=by
 obtain⟨K,hK⟩:=p_index h64 l t hl;refine Ans.of h rfl rfl (WpsgZ ?_);refine WpskZ (K:=K) (λn hn=>by simp[hK n hn];rfl) ?_;exact WpretZ rfl
end
def pickS (a b:List ByteArray) (inn:Bool):List ByteArray:=a.filter λs=>hasT b s==inn
theorem take_succ_filter {α:Type} {l:List α} {i:Nat} {x:α} {f:α->Bool} (hx:l[i]?=some x):(l.take (i+1)).filter f=(l.take i).filter f++if f x then[x] else[]:=by
 rw[List.take_add_one,hx,List.filter_append];congr 1;simp only[Option.toList_some,List.filter_cons,List.filter_nil]
theorem filter_take_le {α:Type} (l:List α) (i:Nat) (f:α->Bool):((l.take i).filter f).length<=l.length:=
 Nat.le_trans (List.length_filter_le _ _) (by rw[List.length_take];omega)
section
variable {prog:Nat->Option IFn}
set_option maxHeartbeats 1000000 in
theorem p_pick (h64:prog 64=some F64) (h53:prog 53=some F53) (h:prog 39=some F39) (a b:List ByteArray) (inn:Bool) (ha:a.length<=1000) (hb:b.length<=maxLen) :
  Ans prog 39 [.iv (.sl 1 (a.map st1)),.iv (.sl 1 (b.map st1)),.bI inn] (.iv (.sl 1 ((pickS a b inn).map st1))):=by
 have ha':a.length<=maxLen:=by unfold maxLen;omega
 refine Ans.of h rfl rfl (WpsgZ ?_);refine ab (WpsgZ ?_);refine WpblockZ ?_;refine WprangeZ a.length (λi=>⟨[(1,.iv (.sl 1 (b.map st1))),(2,.bI inn),(6,.own 1000 0 (pickS (a.take i) b inn).length 0),(9,.iv (.sl 1 (a.map st1))),(10,.nI a.length),(11,.nI i)],
  [(1000,.buf 0 1 ((pickS (a.take i) b inn).map st1))],1256⟩) (λ_=>True) (by simp[keepFr,get,pickS]) trivial ?_ ?_
 ·intro i hi _;obtain⟨x,hx⟩:∃x,a[i]?=some x:=⟨_,List.getElem?_eq_getElem hi⟩;have hlen:(pickS (a.take i) b inn).length<=a.length:=filter_take_le _ _ _;generalize hacc:pickS (a.take i) b inn=acc at hlen;have hnext:pickS (a.take (i+1)) b inn=acc++if hasT b x==inn then[x] else[]:=by rw[<-hacc];exact take_succ_filter hx
  refine Wps0Z (by simp[hi];rfl) ?_;refine ab (WpcondZ rfl (WpskipZ (ab (WpblockZ (Wps0Z (by simp[hx,st1];rfl) ?_)))));refine ab ?_;obtain⟨K,hK⟩:=p_contains h64 h53 b x hb;refine WprgnZ (K:=K) (λn hn=>by simp[hK n hn];rfl) ?_;refine WpcondZ rfl ?_;rw[hnext];cases hp:hasT b x==inn with
  |true=>
   refine Wpr0Z (by
    simp[setAll,app,elems,roomy,show acc.length+1<=1073741824 by omega];rfl) ?_
   simp only[Ex.then,Ex.inBlock];refine WprgZ ?_;refine⟨?_,trivial⟩;simp[again,keepFr,get,nrm,nrmO,wrap_succ hi ha',st1,List.take_of_length_le]
  |false=>
   refine WpskipZ ?_;simp only[Ex.then,Ex.inBlock];refine WprgZ ?_;exact⟨by simp[again,keepFr,get,nrm,nrmO,wrap_succ hi ha'],trivial⟩
 ·intro _;refine WpsgZ ?_;refine ab (WpcondZ rfl (WpexitZ ?_));simp only[Ex.then,Ex.inBlock,if_true];refine WpsgZ ?_;refine WpretZ ?_;simp[FinS,F39,resAll,resM,outA,ev,get,M.look,M.bind,M.run,M.ok,shut,fzA,fz1,fzC,fz,M.write,List.take_of_length_le]
end
def lenTab:ByteArray:=match F70.body with
 |.seq _ (.seq _ (.seq _ (.seq _ (.seq (.rgn _ [_,_,_,⟨_,.xstr (.c (.str s)) _,_,_⟩,_,_,_] _) _))))=>s
 |_=>⟨#[]⟩
theorem lenTab_size:lenTab.size=256:=by kernel_rfl
section
variable {prog:Nat->Option IFn}
set_option maxRecDepth 20000 in
set_option maxHeartbeats 1000000 in
theorem p_len64 (h:prog 70=some F70) {n:Nat} (hn:n<256):∃v:Int,Ans prog 70 [.iv (.int .u64 n)] (.nI v):=by
 obtain⟨b,hb⟩:∃b,lenTab[n]?=some b:=⟨_,getElem?_pos lenTab n (by rw[lenTab_size];exact hn)⟩;refine⟨IntKind.i64.wrap (0+IntKind.i64.wrap (b.toNat:Int)),?_⟩;have c1:decide ((4294967296:Int)<=n)=false:=decide_eq_false (by omega);have c2:decide ((65536:Int)<=n)=false:=decide_eq_false (by omega);have c3:decide ((256:Int)<=n)=false:=decide_eq_false (by omega);have c4:IntKind.u8.wrap (n:Int)=n:=by rw[IntKind.wrap_u8];omega
 refine Ans.of h rfl rfl (WpsgZ ?_);refine ab (Wps0Z (s':=⟨[(0,.iv (.int .u64 n)),(2,.nI 0),(4,.bI false)],[],1192⟩) (by simp[c1]) ?_);refine WpcondZ rfl (WpskipZ (ab (Wps0Z (s':=⟨[(0,.iv (.int .u64 n)),(2,.nI 0),(8,.bI false)],[],1320⟩) (by simp[c2]) ?_)));refine WpcondZ rfl (WpskipZ (ab (Wps0Z (s':=⟨[(0,.iv (.int .u64 n)),(2,.nI 0),(14,.bI false)],[],1448⟩) (by simp[c3]) ?_)));refine WpcondZ rfl (WpskipZ (WpskZ (K:=0) (s':=⟨[(2,.nI (IntKind.i64.wrap (0+IntKind.i64.wrap (b.toNat:Int))))],[],1896⟩) (λ_ _=>by
  have hx:xstr (.iv (.str lenTab)) (.iv (.int .u8 n))=M.ret (.iv (.int .u8 b.toNat)):=by
   simp only[xstr,Int.toNat_natCast,hb];rfl
  show evalRgn _ false [⟨some 19,.mov (.t 2),none,[]⟩,⟨some 20,.mov (.t 0),none,[]⟩,⟨some 21,.cvi .u8 (.t 20),none,[]⟩,⟨some 22,.xstr (.c (.str lenTab)) (.t 21),none,[]⟩,⟨some 23,.cvi .i64 (.t 22),none,[]⟩,⟨some 24,.bin .add 0 (.t 19) (.t 23),none,[]⟩,⟨some 2,.mov (.t 24),none,[]⟩] [2] _=_
  simp[c4,hx]) ?_))
 exact WpretZ rfl
theorem p_len (h70:prog 70=some F70) (h:prog 62=some F62) {n:Nat} (hn:n<256):∃v:Int,Ans prog 62 [.iv (.int .u64 n)] (.nI v):=by
 obtain⟨v,K,hK⟩:=p_len64 h70 hn;refine⟨v,Ans.of h rfl rfl (ab ?_)⟩;refine WprgZ ?_;refine ab (WpcondZ (t:=false) rfl (WpskipZ (WpskZ (K:=K) (s':=⟨[(2,.nI v)],[],1256⟩) (λn hn=>by simp[hK n hn]) ?_)));exact WpretZ rfl
end
section
variable {α:Type} (lt:α->α->Bool)
def sink:Nat->List α->List α
 |0,l=>l
 |j+1,l=>match l[j+1]?,l[j]? with
  |some y,some x=>if lt y x then sink j ((l.set (j+1) x).set j y) else l
  |_,_=>l
def sinks (l:List α):Nat->List α
 |0=>l
 |k+1=>sink lt (k+1) (sinks l k)
def isort (l:List α):List α:=sinks lt l (l.length - 1)
theorem sink_len:∀(j:Nat) (l:List α),(sink lt j l).length=l.length
 |0,_=>rfl
 |j+1,l=>by
  unfold sink;split
  ·split
   ·rw[sink_len j];simp
   ·rfl
  ·rfl
theorem sinks_len (l:List α):∀k,(sinks lt l k).length=l.length
 |0=>rfl
 |k+1=>by rw[sinks,sink_len,sinks_len l k]
end
def ltR (x y:Int×Int):Bool:=decide (cmpI x.1 y.1<0)
section
variable {prog:Nat->Option IFn}
set_option maxHeartbeats 2000000 in
theorem p_isortR (h63:prog 63=some F63) (h52:prog 52=some F52) (h51:prog 51=some F51) (h:prog 68=some F68) (l:List (Int×Int)) (hl:l.length<=maxLen) :
  Ev prog 68 [.own 0 0 l.length 0,.nI 0,.nI l.length,.iv (.fn 51 [])] [(0,.buf 0 2 (l.map rng))] (.tup [],[(0,.buf 0 2 ((isort ltR l).map rng))]):=by
 refine Ev.of h rfl rfl (WpsgZ ?_);refine WpblockZ ?_;refine WprangeZ (l.length - 1) (λi=>⟨[(0,.own 0 0 l.length 0),(1,.nI 0),(2,.nI l.length),(3,.iv (.fn 51 [])),(8,.nI ((i:Int)+1))],[(0,.buf 0 2 ((sinks ltR l i).map rng))],1192⟩) (λ_=>True) (by simp[keepFr,get,sinks];rfl) trivial ?_ ?_
 ·intro i hi _;have hlt:(i:Int)+1<l.length:=by omega
  refine ab (Wps0Z (s':=⟨[(0,.own 0 0 l.length 0),(1,.nI 0),(2,.nI l.length),(3,.iv (.fn 51 [])),(8,.nI ((i:Int)+1)),(14,.bI true)],[(0,.buf 0 2 ((sinks ltR l i).map rng))],1384⟩) (by simp[hlt]) ?_);refine WpcondZ rfl (WpskipZ (ab (WpblockZ (WpsgZ ?_))));refine WpblockZ ?_;refine WploopZ (λm s1=>∃l',sink ltR m l'=sinks ltR l (i+1)/\l'.length=l.length/\m<=i+1/\s1=⟨[(0,.own 0 0 l.length 0),(1,.nI 0),(2,.nI l.length),(3,.iv (.fn 51 [])),(8,.nI ((i:Int)+1)),(9,.nI m)],[(0,.buf 0 2 (l'.map rng))],1512⟩) (m:=i+1) ⟨sinks ltR l i,rfl,sinks_len _ _ _,Nat.le_refl _,by simp[keepFr,get]⟩ ?_;rintro m s1 ⟨l',h1,h2,h3,rfl⟩
  have hw1:IntKind.wrap .i64 ((i:Int)+1+1)=(i:Int)+1+1:=IntWalk.i64_in _ (by unfold maxLen at hl;omega);refine ab (ab ?_);cases m with
  |zero=>
   refine WprgnZ (K:=0) (s':=⟨[(0,.own 0 0 l.length 0),(1,.nI 0),(2,.nI l.length),(3,.iv (.fn 51 [])),(8,.nI ((i:Int)+1)),(9,.nI 0),(34,.bI false)],[(0,.buf 0 2 (l'.map rng))],2600⟩) (λn _=>rgn_quiet' rfl (by simp)) ?_;refine WpcondZ rfl (WpexitZ ?_);simp only[Ex.then,Ex.inBlock,if_true];have:l'=sinks ltR l (i+1):=h1;subst this;refine WprgZ ?_;exact⟨by simp[again,keepFr,get,nrm,nrmO,hw1],trivial⟩
  |succ j=>
   obtain⟨y,hy⟩:∃y,l'[j+1]?=some y:=⟨_,List.getElem?_eq_getElem (by omega)⟩;obtain⟨x,hx⟩:∃x,l'[j]?=some x:=⟨_,List.getElem?_eq_getElem (by omega)⟩;obtain⟨K,hK⟩:=p_less h63 h52 h51 y x;have hy':l'[j+1]'(by omega)=y:=(List.getElem?_eq_some_iff.1 hy).2;have hx':l'[j]'(by omega)=x:=(List.getElem?_eq_some_iff.1 hx).2;have hj1:j+1<l.length:=by omega
   have hj0:j<l.length:=by omega
   have hj2:(0:Int)<=(j:Int)+1:=by omega
   have hj3:(j:Int)+1<l.length:=by omega
   have hj4:(j:Int)<l.length:=by omega
   have hj5:(0:Int)<(j:Int)+1:=by omega
   have hw:IntKind.wrap .i64 (j:Int)=j:=IntWalk.i64_in _ (by unfold maxLen at hl;omega);refine WprgnZ (K:=K) (s':=⟨[(0,.own 0 0 l.length 0),(1,.nI 0),(2,.nI l.length),(3,.iv (.fn 51 [])),(8,.nI ((i:Int)+1)),(9,.nI ((j+1:Nat):Int)),(34,.bI (ltR y x))],[(0,.buf 0 2 (l'.map rng))],2600⟩) (λn hn=>rgn_quiet' rfl (by
    have hc:=hK n hn;simp[hj1,hj0,hj2,hj3,hj4,hj5,hw,hy,hx,rng,hc,ltR])) ?_
   refine WpcondZ rfl ?_;rw[sink,hy,hx]at h1;simp only at h1;cases hb:ltR y x with
   |false=>
    rw[hb,if_neg Bool.false_ne_true]at h1;subst h1;refine WpexitZ ?_;simp only[Ex.then,Ex.inBlock,if_true];refine WprgZ ?_;exact⟨by simp[again,keepFr,get,nrm,nrmO,hw1],trivial⟩
   |true=>
    rw[hb,if_pos rfl]at h1;refine WpskipZ (ab (WpblockZ ?_));refine Wpr0Z (s':=⟨[(0,.own 0 0 l.length 0),(1,.nI 0),(2,.nI l.length),(3,.iv (.fn 51 [])),(8,.nI ((i:Int)+1)),(9,.nI ((j+1:Nat):Int))],[(0,.buf 0 2 (((l'.set (j+1) x).set j y).map rng))],3752⟩) (by
     simp[hj1,hj0,hj2,hj3,hj4,hj5,hw,hy,hx,rng,h2,hx',hy']) ?_
    simp only[Ex.then,Ex.inBlock];refine WprgZ ?_;refine⟨j,by omega,_,h1,by simp[h2],by omega,?_⟩;simp[again,keepFr,get,nrm,nrmO,hw]
 ·intro _;have hlt:¬((l.length - 1:Nat):Int)+1<l.length:=by omega
  refine ab (Wps0Z (s':=⟨[(0,.own 0 0 l.length 0),(1,.nI 0),(2,.nI l.length),(3,.iv (.fn 51 [])),(8,.nI (((l.length - 1:Nat):Int)+1)),(14,.bI false)],[(0,.buf 0 2 ((isort ltR l).map rng))],1384⟩) (by simp[isort];omega) ?_);exact WpcondZ rfl (WpexitZ rfl)
end
def ltT (x y:ByteArray):Bool:=sless x y
section
variable {prog:Nat->Option IFn}
theorem p_isNaNT (h:prog 88=some F88) (a:ByteArray):Ans prog 88 [.iv (.str a)] (.bI false):=by
 refine Ans.of h rfl rfl (WpsgZ ?_);refine Wps0Z (s':=⟨[(2,.bI false)],[],1320⟩) (by simp[ba_beq]) ?_;exact WpretZ rfl
theorem p_lessT (h88:prog 88=some F88) (h:prog 72=some F72) (a b:ByteArray):Ans prog 72 [.iv (.str a),.iv (.str b)] (.bI (ltT a b)):=by
 obtain⟨K1,h1⟩:=p_isNaNT h88 a;refine Ans.of h rfl rfl (WpsgZ ?_);refine WpskZ (K:=K1) (λn hn=>by simp[h1 n hn];rfl) ?_;exact WpretZ rfl
set_option maxHeartbeats 2000000 in
theorem p_isortT (h88:prog 88=some F88) (h72:prog 72=some F72) (h:prog 71=some F71) (v0:Nat) (l:List ByteArray) (hl:l.length<=maxLen) :
  Ev prog 71 [.own 0 0 l.length v0,.nI 0,.nI l.length] [(0,.buf v0 1 (l.map st1))] (.tup [],[(0,.buf v0 1 ((isort ltT l).map st1))]):=by
 refine Ev.of h rfl rfl (WpsgZ ?_);refine WpblockZ ?_;refine WprangeZ (l.length - 1) (λi=>⟨[(0,.own 0 0 l.length v0),(1,.nI 0),(2,.nI l.length),(6,.nI ((i:Int)+1))],[(0,.buf v0 1 ((sinks ltT l i).map st1))],1192⟩) (λ_=>True) (by simp[keepFr,get,sinks];rfl) trivial ?_ ?_
 ·intro i hi _;have hlt:(i:Int)+1<l.length:=by omega
  refine ab (Wps0Z (s':=⟨[(0,.own 0 0 l.length v0),(1,.nI 0),(2,.nI l.length),(6,.nI ((i:Int)+1)),(12,.bI true)],[(0,.buf v0 1 ((sinks ltT l i).map st1))],1384⟩) (by simp[hlt]) ?_);refine WpcondZ rfl (WpskipZ (ab (WpblockZ (WpsgZ ?_))));refine WpblockZ ?_;refine WploopZ (λm s1=>∃l',sink ltT m l'=sinks ltT l (i+1)/\l'.length=l.length/\m<=i+1/\s1=⟨[(0,.own 0 0 l.length v0),(1,.nI 0),(2,.nI l.length),(6,.nI ((i:Int)+1)),(7,.nI m)],[(0,.buf v0 1 (l'.map st1))],1512⟩) (m:=i+1) ⟨sinks ltT l i,rfl,sinks_len _ _ _,Nat.le_refl _,by simp[keepFr,get]⟩ ?_;rintro m s1 ⟨l',h1,h2,h3,rfl⟩;have hw1:IntKind.wrap .i64 ((i:Int)+1+1)=(i:Int)+1+1:=IntWalk.i64_in _ (by unfold maxLen at hl;omega)
  refine ab (ab ?_);cases m with
  |zero=>
   refine WprgnZ (K:=0) (s':=⟨[(0,.own 0 0 l.length v0),(1,.nI 0),(2,.nI l.length),(6,.nI ((i:Int)+1)),(7,.nI 0),(30,.bI false)],[(0,.buf v0 1 (l'.map st1))],2472⟩) (λn _=>rgn_quiet' rfl (by simp)) ?_;refine WpcondZ rfl (WpexitZ ?_);simp only[Ex.then,Ex.inBlock,if_true];have:l'=sinks ltT l (i+1):=h1;subst this;refine WprgZ ?_;exact⟨by simp[again,keepFr,get,nrm,nrmO,hw1],trivial⟩
  |succ j=>
   obtain⟨y,hy⟩:∃y,l'[j+1]?=some y:=⟨_,List.getElem?_eq_getElem (by omega)⟩;obtain⟨x,hx⟩:∃x,l'[j]?=some x:=⟨_,List.getElem?_eq_getElem (by omega)⟩;obtain⟨K,hK⟩:=p_lessT h88 h72 y x;have hy':l'[j+1]'(by omega)=y:=(List.getElem?_eq_some_iff.1 hy).2;have hx':l'[j]'(by omega)=x:=(List.getElem?_eq_some_iff.1 hx).2;have hj1:j+1<l.length:=by omega
   have hj0:j<l.length:=by omega
   have hj2:(0:Int)<=(j:Int)+1:=by omega
   have hj3:(j:Int)+1<l.length:=by omega
   have hj4:(j:Int)<l.length:=by omega
   have hj5:(0:Int)<(j:Int)+1:=by omega
   have hw:IntKind.wrap .i64 (j:Int)=j:=IntWalk.i64_in _ (by unfold maxLen at hl;omega);refine WprgnZ (K:=K) (s':=⟨[(0,.own 0 0 l.length v0),(1,.nI 0),(2,.nI l.length),(6,.nI ((i:Int)+1)),(7,.nI ((j+1:Nat):Int)),(30,.bI (ltT y x))],[(0,.buf v0 1 (l'.map st1))],2472⟩) (λn hn=>rgn_quiet' rfl (by
    have hc:=hK n hn;simp[hj1,hj0,hj2,hj3,hj4,hj5,hw,hy,hx,st1,hc])) ?_
   refine WpcondZ rfl ?_;rw[sink,hy,hx]at h1;simp only at h1;cases hb:ltT y x with
   |false=>
    rw[hb,if_neg Bool.false_ne_true]at h1;subst h1;refine WpexitZ ?_;simp only[Ex.then,Ex.inBlock,if_true];refine WprgZ ?_;exact⟨by simp[again,keepFr,get,nrm,nrmO,hw1],trivial⟩
   |true=>
    rw[hb,if_pos rfl]at h1;refine WpskipZ (ab (WpblockZ ?_));refine Wpr0Z (s':=⟨[(0,.own 0 0 l.length v0),(1,.nI 0),(2,.nI l.length),(6,.nI ((i:Int)+1)),(7,.nI ((j+1:Nat):Int))],[(0,.buf v0 1 (((l'.set (j+1) x).set j y).map st1))],3624⟩) (by
     simp[hj1,hj0,hj2,hj3,hj4,hj5,hw,hy,hx,st1,h2,hx',hy']) ?_
    simp only[Ex.then,Ex.inBlock];refine WprgZ ?_;refine⟨j,by omega,_,h1,by simp[h2],by omega,?_⟩;simp[again,keepFr,get,nrm,nrmO,hw]
 ·intro _;have hlt:¬((l.length - 1:Nat):Int)+1<l.length:=by omega
  refine ab (Wps0Z (s':=⟨[(0,.own 0 0 l.length v0),(1,.nI 0),(2,.nI l.length),(6,.nI (((l.length - 1:Nat):Int)+1)),(12,.bI false)],[(0,.buf v0 1 ((isort ltT l).map st1))],1384⟩) (by simp[isort];omega) ?_);exact WpcondZ rfl (WpexitZ rfl)
end
structure Lib2 (prog:Nat->Option IFn):Prop where
 h50:prog 50=some G50
 h51:prog 51=some F51
 h52:prog 52=some F52
 h55:prog 55=some G55
 h61:prog 61=some F61
 h62:prog 62=some F62
 h63:prog 63=some F63
 h65:prog 65=some F65
 h68:prog 68=some F68
 h70:prog 70=some F70
 h71:prog 71=some F71
 h72:prog 72=some F72
 h88:prog 88=some F88
section
variable {prog:Nat->Option IFn}
theorem p_pdqR (H:Lib2 prog) (l:List (Int×Int)) (hl:l.length<=12) (v:Int) :
  Ev prog 61 [.own 0 0 l.length 0,.nI 0,.nI l.length,.nI v,.iv (.fn 51 [])] [(0,.buf 0 2 (l.map rng))] (.tup [],[(0,.buf 0 2 ((isort ltR l).map rng))]):=by
 obtain⟨K,hK⟩:=p_isortR H.h63 H.h52 H.h51 H.h68 l (by unfold maxLen;omega);have hl':(l.length:Int)<=12:=by omega
 have hw:IntKind.wrap .i64 (l.length:Int)=l.length:=IntWalk.i64_in _ (by omega);refine Ev.of H.h61 rfl rfl (WpsgZ ?_);refine WpsgZ ?_;refine WpblockZ ?_;refine WploopZ (λ_ s1=>s1=⟨[(0,.own 0 0 l.length 0),(1,.nI 0),(2,.nI l.length),(3,.nI v),(4,.iv (.fn 51 [])),(10,.bI true),(11,.bI true)],[(0,.buf 0 2 (l.map rng))],1128⟩) (m:=0) (by simp[keepFr,get]) ?_;rintro m s1 rfl;refine WpblockZ (Wps0Z (by simp[hw];rfl) ?_);refine ab (Wps0Z (s':=⟨[(0,.own 0 0 l.length 0),(1,.nI 0),(2,.nI l.length),(3,.nI v),(4,.iv (.fn 51 [])),(10,.bI true),(11,.bI true),(12,.nI l.length),(25,.bI true)],[(0,.buf 0 2 (l.map rng))],1512⟩) (by simp[hl']) ?_)
 refine WpcondZ rfl (WpskZ (K:=K) (s':=⟨[],[(0,.buf 0 2 ((isort ltR l).map rng))],1832⟩) (λn hn=>by simp[lcallM,callee,idsOf,List.flatMap,dedup,nodupB,lendA,place,lentOk,withPlaces,lentR,backAll,hK n hn]) ?_);exact WpretZ rfl
theorem p_sortR (H:Lib2 prog) (l:List (Int×Int)) (hl:l.length<=12) :
  Ev prog 50 [.own 0 0 l.length 0,.iv (.fn 51 [])] [(0,.buf 0 2 (l.map rng))] (.tup [],[(0,.buf 0 2 ((isort ltR l).map rng))]):=by
 obtain⟨v,K1,hK1⟩:=p_len H.h70 H.h62 (n:=l.length) (by omega);obtain⟨K,hK⟩:=p_pdqR H l hl v;have hw:IntKind.wrap .u64 (l.length:Int)=l.length:=by rw[IntKind.wrap_u64];omega
 have hs:sortM 2000051 [.own 0 0 l.length 0,.iv (.fn 51 [])] [(0,.buf 0 2 (l.map rng))]=none:=by
  have h12:Nat.blt 12 l.length=false:=by rw[Bool.eq_false_iff];intro h;have:=Nat.le_of_ble_eq_true h;omega
  simp[sortM,get,many,h12]
 refine Ev.ofs H.h50 rfl rfl rfl hs (WpsgZ ?_);refine WprgnZ (K:=max K K1) (s':=⟨[],[(0,.buf 0 2 ((isort ltR l).map rng))],1640⟩) (λn hn=>by simp[lcallM,callee,idsOf,List.flatMap,dedup,nodupB,lendA,place,lentOk,withPlaces,lentR,backAll,hw,hK1 n (by omega),hK n (by omega)]) ?_;rfl
theorem p_pdqT (H:Lib2 prog) (v0:Nat) (l:List ByteArray) (hl:l.length<=12) (v:Int) :
  Ev prog 65 [.own 0 0 l.length v0,.nI 0,.nI l.length,.nI v] [(0,.buf v0 1 (l.map st1))] (.tup [],[(0,.buf v0 1 ((isort ltT l).map st1))]):=by
 obtain⟨K,hK⟩:=p_isortT H.h88 H.h72 H.h71 v0 l (by unfold maxLen;omega);have hl':(l.length:Int)<=12:=by omega
 have hw:IntKind.wrap .i64 (l.length:Int)=l.length:=IntWalk.i64_in _ (by omega);refine Ev.of H.h65 rfl rfl (WpsgZ ?_);refine WpsgZ ?_;refine WpblockZ ?_;refine WploopZ (λ_ s1=>s1=⟨[(0,.own 0 0 l.length v0),(1,.nI 0),(2,.nI l.length),(3,.nI v),(8,.bI true),(9,.bI true)],[(0,.buf v0 1 (l.map st1))],1128⟩) (m:=0) (by simp[keepFr,get]) ?_;rintro m s1 rfl;refine WpblockZ (Wps0Z (by simp[hw];rfl) ?_);refine ab (Wps0Z (s':=⟨[(0,.own 0 0 l.length v0),(1,.nI 0),(2,.nI l.length),(3,.nI v),(8,.bI true),(9,.bI true),(10,.nI l.length),(23,.bI true)],[(0,.buf v0 1 (l.map st1))],1512⟩) (by simp[hl']) ?_);refine WpcondZ rfl (WpskZ (K:=K) (s':=⟨[],[(0,.buf v0 1 ((isort ltT l).map st1))],1768⟩) (λn hn=>by simp[lcallM,callee,idsOf,List.flatMap,dedup,nodupB,lendA,place,lentOk,withPlaces,lentR,backAll,hK n hn]) ?_)
 exact WpretZ rfl
theorem p_sortT (H:Lib2 prog) (v0:Nat) (l:List ByteArray) (hl:l.length<=12) :
  Ev prog 55 [.own 0 0 l.length v0] [(0,.buf v0 1 (l.map st1))] (.tup [],[(0,.buf v0 1 ((isort ltT l).map st1))]):=by
 obtain⟨v,K1,hK1⟩:=p_len H.h70 H.h62 (n:=l.length) (by omega);obtain⟨K,hK⟩:=p_pdqT H v0 l hl v;have hw:IntKind.wrap .u64 (l.length:Int)=l.length:=by rw[IntKind.wrap_u64];omega
 have hs:sortM 1000000 [.own 0 0 l.length v0] [(0,.buf v0 1 (l.map st1))]=none:=by
  have h12:Nat.blt 12 l.length=false:=by rw[Bool.eq_false_iff];intro h;have:=Nat.le_of_ble_eq_true h;omega
  simp[sortM,get,many,h12]
 refine Ev.ofs H.h55 rfl rfl rfl hs (WpsgZ ?_);refine WprgnZ (K:=max K K1) (s':=⟨[],[(0,.buf v0 1 ((isort ltT l).map st1))],1576⟩) (λn hn=>by simp[lcallM,callee,idsOf,List.flatMap,dedup,nodupB,lendA,place,lentOk,withPlaces,lentR,backAll,hw,hK1 n (by omega),hK n (by omega)]) ?_;rfl
end
def compTo (l:List ByteArray):Nat->List ByteArray
 |0=>[]
 |j+1=>match l[j]? with
  |none=>compTo l j
  |some x=>if 0<j/\l[j - 1]?=some x then compTo l j else compTo l j++[x]
def comp (l:List ByteArray):List ByteArray:=compTo l l.length
theorem compTo_len (l:List ByteArray):∀j,(compTo l j).length<=j
 |0=>Nat.le_refl _
 |j+1=>by
  have:=compTo_len l j;unfold compTo;split
  ·omega
  ·split
   ·omega
   ·simp;omega
theorem comp_self {l:List ByteArray} (h:comp l=l):(l.map st1).take (comp l).length=(comp l).map st1:=by
 rw[h,List.take_of_length_le (by simp)]
section
variable {prog:Nat->Option IFn}
theorem Ev.ofx {f:Nat} {fn:IFn} (hf:prog f=some fn) (hcl:fn.cl=none) {args:List AV} (hn:args.length=fn.np) {hp:Hp} (P:AV×Hp->Prop) (h:Wp prog fn.body ⟨params args 0,hp,1000⟩ (λe s=>∃p,P p/\Fin fn.res p e s)):∃p,P p/\Ev prog f args hp p:=by
 obtain⟨K,ex,s',h,p,hp,q⟩:=h;exact⟨p,hp,Ev.of hf hcl hn ⟨K,ex,s',h,q⟩⟩
set_option maxHeartbeats 2000000 in
theorem p_compact (h:prog 56=some F56) (v0:Nat) (l:List ByteArray) (hl:l.length<=maxLen) :
  ∃p:AV×Hp,(∃rows',rows'.take (comp l).length=(comp l).map st1/\(comp l).length<=rows'.length/\p=(.own 0 0 (comp l).length v0,[(0,.buf v0 1 rows'),(1000,.buf 0 1 [])]))/\Ev prog 56 [.own 0 0 l.length v0] [(0,.buf v0 1 (l.map st1))] p:=by
 refine Ev.ofx h rfl rfl _ (WpsgZ ?_);refine ab (Wps0Z (by
  have:decide ((l.length:Int)<2)=decide (l.length<2):=decide_eq_decide.2 (by omega);simp[this];rfl) ?_)
 refine WpcondZ rfl ?_;cases hs:decide (l.length<2)with
 |true=>
  refine WpsgZ ?_;have hs:=of_decide_eq_true hs;have hc:comp l=l:=by
   unfold comp
   match l,hs with
   |[],_=>rfl
   |[x],_=>rfl
  refine WpretZ ⟨_,⟨l.map st1,comp_self hc,by rw[hc];simp,rfl⟩,?_⟩;rw[hc];simp[Fin,F56,resAll,resM,outA,ev,get,M.look,M.bind,M.run,Mrun_bindZ,M.ok]
 |false=>
  have hs:=of_decide_eq_false hs;refine WpskipZ (ab (WpsgZ ?_));refine WpblockZ ?_;refine WprangeZ (l.length - 1) (λi=>⟨[(0,.own 0 0 l.length v0),(3,.nI ((i:Int)+1))],[(0,.buf v0 1 (l.map st1)),(1000,.buf 0 1 [])],1320⟩) (λi=>compTo l (i+1)=l.take (i+1)) (by simp[keepFr,get]) (by
   obtain⟨x,hx⟩:∃x,l[0]?=some x:=⟨_,List.getElem?_eq_getElem (by omega)⟩;rw[compTo,hx,List.take_add_one,hx];simp[compTo]) ?_ ?_
  ·intro i hi hg;have hi1:(i:Int)+1<l.length:=by omega
   have hi2:(i:Int)<l.length:=by omega
   have hi3:(0:Int)<=(i:Int)+1:=by omega
   have hi4:i+1<l.length:=by omega
   have hi6:(i:Int)+1<=l.length:=by omega
   have hi5:i<l.length:=by omega
   have hw:IntKind.wrap .i64 (i:Int)=i:=IntWalk.i64_in _ (by unfold maxLen at hl;omega);have hw1:IntKind.wrap .i64 ((i:Int)+1+1)=(i:Int)+1+1:=IntWalk.i64_in _ (by unfold maxLen at hl;omega);obtain⟨y,hy⟩:∃y,l[i+1]?=some y:=⟨_,List.getElem?_eq_getElem (by omega)⟩;obtain⟨x,hx⟩:∃x,l[i]?=some x:=⟨_,List.getElem?_eq_getElem (by omega)⟩;have hy':l[i+1]'(by omega)=y:=(List.getElem?_eq_some_iff.1 hy).2;have hx':l[i]'(by omega)=x:=(List.getElem?_eq_some_iff.1 hx).2;refine ab (Wps0Z (by simp[hi1];rfl) ?_);refine WpcondZ rfl (WpskipZ (ab (WpblockZ (ab ?_))));refine WprgnZ (K:=0) (s':=⟨[(0,.own 0 0 l.length v0),(3,.nI ((i:Int)+1)),(25,.bI (y==x))],[(0,.buf v0 1 (l.map st1)),(1000,.buf 0 1 [])],2216⟩) (λn _=>rgn_quiet' rfl (by simp[hi1,hi2,hi3,hi4,hi5,hw,hx',hy',st1])) ?_
   refine WpcondZ rfl ?_;cases hb:y==x with
   |false=>
    refine WpskipZ ?_;refine WprgZ ?_;refine⟨by simp[again,keepFr,get,nrm,nrmO,hw1],?_⟩;rw[compTo,hy,hg];rw[ba_beq,decide_eq_false_iff_not]at hb;have:¬(0<i+1/\l[i+1 - 1]?=some y):=by
     rintro⟨_,h2⟩;rw[Nat.add_sub_cancel,hx]at h2;exact hb (Option.some.inj h2).symm
    simp only[if_neg this];rw[List.take_add_one (i:=i+1),hy];rfl
   |true=>
    rw[ba_beq,decide_eq_true_eq]at hb;refine Wps0Z (by simp[hi3,hi6];rfl) ?_;refine ab (WpsgZ ?_);refine WpblockZ ?_;refine WploopZ (λm s1=>∃(j k:Nat) (cur:List ByteArray),j+m=l.length - (i+1)/\1<=j/\cur.length=l.length/\(∀t,i+j<=t->cur[t]?=l[t]?)/\k<=i+j/\cur.take k=compTo l (i+1+j)/\
     s1=⟨[(0,.own 0 0 l.length v0),(3,.nI (k:Int)),(4,.own 0 (i+1) (l.length - (i+1)) v0),(5,.nI (j:Int))],[(0,.buf v0 1 (cur.map st1)),(1000,.buf 0 1 [])],2536⟩) (m:=l.length - (i+1) - 1) ?_ ?_
    ·refine⟨1,i+1,l,by omega,Nat.le_refl _,rfl,λ_ _=>rfl,Nat.le_refl _,?_,by simp[keepFr,get]⟩;rw[compTo,hy,<-hg];simp only;rw[if_pos ⟨Nat.succ_pos _,by rw[Nat.add_sub_cancel,hx,hb]⟩]
    ·rintro m s1 ⟨j,k,cur,e1,e2,e3,e4,e5,e6,rfl⟩;have hwk:IntKind.wrap .i64 ((k:Int)+1)=(k:Int)+1:=IntWalk.i64_in _ (by unfold maxLen at hl;omega);have hwj:IntKind.wrap .i64 ((j:Int)+1)=(j:Int)+1:=IntWalk.i64_in _ (by unfold maxLen at hl;omega);have hwj1:IntKind.wrap .i64 ((j:Int) - 1)=((j - 1:Nat):Int):=by rw[IntWalk.i64_in _ (by unfold maxLen at hl;omega)];omega
     cases m with
     |zero=>
      have hj:¬(j:Int)<((l.length - (i+1):Nat):Int):=by omega
      refine ab (Wps0Z (by simp[hj];rfl) ?_);refine WpcondZ rfl (WpexitZ ?_);simp only[Ex.then,Ex.inBlock,if_true];have hk1:(k:Int)<=l.length:=by omega
      have hkn:k<=l.length:=by omega
      refine Wps0Z (by simp[clr,hkn];rfl) ?_;refine Wps0Z (s':=⟨_,[(0,.buf v0 1 ((cur.map st1).take k++List.replicate (l.length - k) [.str ⟨#[]⟩]++(cur.map st1).drop (k+(l.length - k)))),(1000,.buf 0 1 [])],3304⟩) (by simp[hk1,hkn];rfl) ?_;have hc:comp l=cur.take k:=by rw[e6];unfold comp;congr 1;omega
      have hk:(comp l).length=k:=by rw[hc,List.length_take];omega
      refine WpretZ ⟨_,⟨(cur.map st1).take k++List.replicate (l.length - k) [.str ⟨#[]⟩]++(cur.map st1).drop (k+(l.length - k)),?_,?_,rfl⟩,?_⟩
      case refine_3=>rw[hk];simp[Fin,F56,resAll,resM,outA,ev,get,M.look,M.bind,M.run,Mrun_bindZ,M.ok]
      case refine_1=>rw[hk,hc,List.append_assoc,List.take_append_of_le_length (by simp;omega),List.map_take,List.take_take,Nat.min_self]
      case refine_2=>rw[hk];simp;omega
     |succ m=>
      have hj:(j:Int)<((l.length - (i+1):Nat):Int):=by omega
      have hj1:j<l.length - (i+1):=by omega
      have hj2:(((j - 1:Nat):Int))<((l.length - (i+1):Nat):Int):=by omega
      have hj3:i+1+(j - 1)=i+j:=by omega
      have hj4:j - 1<l.length - (i+1):=by omega
      obtain⟨v,hv⟩:∃v,l[i+1+j]?=some v:=⟨_,List.getElem?_eq_getElem (by omega)⟩;obtain⟨u,hu⟩:∃u,l[i+j]?=some u:=⟨_,List.getElem?_eq_getElem (by omega)⟩;have cv:cur[i+1+j]?=some v:=by rw[e4 _ (by omega),hv]
      have cu:cur[i+j]?=some u:=by rw[e4 _ (by omega),hu]
      have cv':cur[i+1+j]'(by omega)=v:=(List.getElem?_eq_some_iff.1 cv).2;have cu':cur[i+j]'(by omega)=u:=(List.getElem?_eq_some_iff.1 cu).2;refine ab (Wps0Z (by simp[hj];rfl) ?_);refine WpcondZ rfl (WpskipZ (ab (WpblockZ (ab ?_))));refine WprgnZ (K:=0) (s':=⟨[(0,.own 0 0 l.length v0),(3,.nI (k:Int)),(4,.own 0 (i+1) (l.length - (i+1)) v0),(5,.nI (j:Int)),(44,.bI (!(v==u)))],[(0,.buf v0 1 (cur.map st1)),(1000,.buf 0 1 [])],3432⟩) (λn _=>rgn_quiet' rfl (by simp[hj,hj2,hj3,hwj1,cv,cu,st1])) ?_;refine WpcondZ rfl ?_;cases hb2:v==u with
      |true=>
       refine WpskipZ ?_;simp only[Ex.then,Ex.inBlock];refine WprgZ ?_;refine⟨m,by omega,j+1,k,cur,by omega,by omega,e3,λt ht=>e4 t (by omega),by omega,?_,by simp[again,keepFr,get,nrm,nrmO,hwj]⟩;rw[ba_beq,decide_eq_true_eq]at hb2;rw[e6,<-Nat.add_assoc,compTo,hv];simp only;rw[if_pos ⟨by omega,by rw[show i+1+j - 1=i+j by omega,hu,hb2]⟩]
      |false=>
       have hk1:(k:Int)<l.length:=by omega
       have hk2:k<l.length:=by omega
       refine Wps0Z (s':=⟨_,[(0,.buf v0 1 ((cur.set k v).map st1)),(1000,.buf 0 1 [])],3944⟩) (by simp[hj,cv,hk1,hk2,e3,st1];rfl) ?_;refine WprgZ ?_;simp only[Ex.then,Ex.inBlock];refine WprgZ ?_;refine⟨m,by omega,j+1,k+1,cur.set k v,by omega,by omega,by simp[e3],λt ht=>by rw[List.getElem?_set_ne (by omega)];exact e4 t (by omega),by omega,?_,by simp[again,keepFr,get,nrm,nrmO,hwj,hwk]⟩;rw[ba_beq,decide_eq_false_iff_not]at hb2;rw[<-Nat.add_assoc,compTo,hv];simp only;rw[if_neg (by rintro⟨_,h2⟩;rw[show i+1+j - 1=i+j by omega,hu]at h2;exact hb2 (Option.some.inj h2).symm),<-e6,List.take_add_one];simp[List.take_set,hk2,e3]
       exact List.set_eq_of_length_le (by simp;omega)
  ·intro hg;refine ab (ab ?_);have hn:¬((l.length - 1:Nat):Int)+1<l.length:=by omega
   refine Wpr0Z (by simp[hn];rfl) ?_;refine WpcondZ rfl (WpexitZ ?_);simp only[Ex.then,Ex.inBlock,if_true];refine WpsgZ ?_;have hc:comp l=l:=by
    unfold comp;rw[show l.length - 1+1=l.length by omega,List.take_length]at hg;exact hg
   refine WpretZ ⟨_,⟨l.map st1,comp_self hc,by rw[hc];simp,rfl⟩,?_⟩;rw[hc];simp[Fin,F56,resAll,resM,outA,ev,get,M.look,M.bind,M.run,Mrun_bindZ,M.ok]
end
def joinB (o:List (Int×Int)) (r:Int×Int):Bool:=
 match o[o.length - 1]? with
 |some p=>p.2==9223372036854775807||decide (r.1<=IntKind.wrap .i64 (p.2+1))
 |none=>false
def hiR (o:List (Int×Int)) (r:Int×Int):List (Int×Int):=
 match o[o.length - 1]? with
 |some p=>o.set (o.length - 1) (p.1,if r.2 > p.2 then r.2 else p.2)
 |none=>o
def addR (o:List (Int×Int)) (r:Int×Int):List (Int×Int):=
 if decide (r.2<r.1) then o else if joinB o r then hiR o r else o++[r]
def normR (l:List (Int×Int)):List (Int×Int):=(isort ltR l).foldl addR []
theorem isort_len {α:Type} (lt:α->α->Bool) (l:List α):(isort lt l).length=l.length:=sinks_len lt l _
theorem addR_len (o:List (Int×Int)) (r:Int×Int):(addR o r).length<=o.length+1:=by
 unfold addR hiR;split
 ·omega
 ·split
  ·split<;>simp
  ·simp
theorem foldR_len:∀(l o:List (Int×Int)),(l.foldl addR o).length<=o.length+l.length
 |[],_=>Nat.le_refl _
 |r::l,o=>by
  have:=foldR_len l (addR o r);have:=addR_len o r;simp only[List.foldl_cons,List.length_cons];omega
theorem take_map_len {α β:Type} (f:α->β) (l:List α):(l.map f).take l.length=l.map f:=List.take_of_length_le (by simp)
section
variable {prog:Nat->Option IFn}
set_option maxHeartbeats 4000000 in
theorem p_rangesQ (h38:prog 38=some F38) (h:prog 37=some F37) (l q:List (Int×Int)) (hl:l.length<=100000) (hql:q.length=l.length) (hs:Ev prog 50 [.own 0 0 l.length 0,.iv (.fn 51 [])] [(0,.buf 0 2 (l.map rng))] (.tup [],[(0,.buf 0 2 (q.map rng))])) :
  Ans prog 37 [.iv (.sl 2 (l.map rng))] (.iv (.sl 2 ((q.foldl addR []).map rng))):=by
 obtain⟨K,hK⟩:=hs;refine Ans.of h rfl rfl (WpsgZ ?_);refine WpskZ (K:=1) (s':=⟨[(0,.own 1128 0 l.length 0),(2,.own 1000 0 0 0)],[(1000,.buf 0 2 []),(1128,.buf 0 2 (l.map rng))],1256⟩) (λn hn=>by
  obtain⟨n,rfl⟩:∃n',n=n'+1:=⟨n - 1,by omega⟩;have hr:l.length<=1073741824:=by omega
  simp[ocallM,takeR,evalF,h38,F38,cloneM,roomy,hr]) ?_
 refine WpskZ (K:=K) (λn hn=>by simp[lcallM,callee,idsOf,List.flatMap,dedup,nodupB,lendA,place,lentOk,withPlaces,lentR,backAll,hK n hn];rfl) ?_;refine ab (WpsgZ ?_);refine WpblockZ ?_;refine WprangeZ l.length (λi=>⟨[(2,.own 1000 0 ((q.take i).foldl addR []).length 0),(10,.own 1128 0 l.length 0),(11,.nI l.length),(12,.nI i)],[(1000,.buf 0 2 (((q.take i).foldl addR []).map rng)),(1128,.buf 0 2 (q.map rng))],1576⟩) (λ_=>True) (by simp[keepFr,get]) trivial ?_ ?_
 ·intro i hi _;obtain⟨r,hr⟩:∃r,q[i]?=some r:=⟨_,List.getElem?_eq_getElem (by omega)⟩;have hnext:(q.take (i+1)).foldl addR []=addR ((q.take i).foldl addR []) r:=by rw[List.take_add_one,hr];simp
  have hlen:((q.take i).foldl addR []).length<=100000:=by have:=foldR_len (q.take i) [];simp at this;omega
  rw[hnext];generalize(q.take i).foldl addR []=o at hlen;have hi1:(i:Int)<l.length:=by omega
  have hr':q[i]'(by omega)=r:=(List.getElem?_eq_some_iff.1 hr).2;have hw1:IntKind.wrap .i64 ((i:Int)+1)=(i:Int)+1:=IntWalk.i64_in _ (by omega);refine Wps0Z (by simp[hi];rfl) ?_;refine ab (WpcondZ rfl (WpskipZ (ab (WpblockZ (Wps0Z (by simp[hi,hr,rng];rfl) ?_)))));refine ab (WpsgZ ?_);refine WpcondZ rfl ?_;unfold addR;cases hd:decide (r.2<r.1)with
  |true=>
   refine WpexitZ ?_;simp only[Ex.then,Ex.inBlock,if_true];refine WprgZ ?_;exact⟨by simp[again,keepFr,get,nrm,nrmO,hw1],trivial⟩
  |false=>
   refine WpskipZ (WpsgZ ?_);refine ab (ab ?_);refine WprgnZ (K:=0) (s':=⟨[(2,.own 1000 0 o.length 0),(4,.ref 1768 0 0 0),(5,.nI o.length),(10,.own 1128 0 l.length 0),(11,.nI l.length),(12,.nI i),(45,.bI (joinB o r))],[(1000,.buf 0 2 (o.map rng)),(1128,.buf 0 2 (q.map rng)),(1768,.cells [.nI r.1,.nI r.2])],3880⟩) (λn _=>rgn_quiet' rfl (by
    by_cases h0:o.length=0
    ·obtain rfl:o=[]:=List.eq_nil_of_length_eq_zero h0;simp[joinB]
    ·have hm1:(0:Int)<o.length:=by omega
     have hm2:IntKind.wrap .i64 ((o.length:Int) - 1)=((o.length - 1:Nat):Int):=by rw[IntWalk.i64_in _ (by omega)];omega
     have hm3:((o.length - 1:Nat):Int)<o.length:=by omega
     have hm4:0<o.length:=by omega
     obtain⟨p,hp⟩:∃p,o[o.length - 1]?=some p:=⟨_,List.getElem?_eq_getElem (by omega)⟩;have hp':o[o.length - 1]'(by omega)=p:=(List.getElem?_eq_some_iff.1 hp).2;cases h1:p.2==9223372036854775807<;>simp[joinB,hm1,hm2,hm3,hm4,hp,hp',rng,h1])) ?_
   refine WpcondZ rfl ?_;cases hj:joinB o r with
   |true=>
    obtain⟨p,hp⟩:∃p,o[o.length - 1]?=some p:=by
     unfold joinB at hj;split at hj
     ·exact⟨_,by assumption⟩
     ·cases hj
    have h0:o.length≠0:=by intro h0;rw[List.getElem?_eq_none (by omega)]at hp;cases hp
    have hm1:(0:Int)<o.length:=by omega
    have hm2:IntKind.wrap .i64 ((o.length:Int) - 1)=((o.length - 1:Nat):Int):=by rw[IntWalk.i64_in _ (by omega)];omega
    have hm3:((o.length - 1:Nat):Int)<o.length:=by omega
    have hm4:0<o.length:=by omega
    have hp':o[o.length - 1]'(by omega)=p:=(List.getElem?_eq_some_iff.1 hp).2;have hh:hiR o r=o.set (o.length - 1) (p.1,if r.2 > p.2 then r.2 else p.2):=by unfold hiR;rw[hp]
    refine Wps0Z (s':=⟨[(2,.own 1000 0 o.length 0),(10,.own 1128 0 l.length 0),(11,.nI l.length),(12,.nI i)],[(1000,.buf 0 2 ((hiR o r).map rng)),(1128,.buf 0 2 (q.map rng)),(1768,.cells [.nI r.1,.nI r.2])],4840⟩) (by
     rw[hh];simp[mxI,hm1,hm2,hm3,hm4,hp,hp',rng]) ?_
    refine WpexitZ ?_;simp only[Ex.then,Ex.inBlock,if_true];refine WprgZ ?_;refine⟨?_,trivial⟩;simp[again,keepFr,get,nrm,nrmO,hw1,hh]
   |false=>
    refine WpskipZ ?_;have hr2:o.length+1<=1073741824:=by omega
    refine Wpr0Z (s':=⟨[(2,.own 1000 0 (o.length+1) 1),(10,.own 1128 0 l.length 0),(11,.nI l.length),(12,.nI i)],[(1000,.buf 1 2 ((o++[r]).map rng)),(1128,.buf 0 2 (q.map rng)),(1768,.cells [.nI r.1,.nI r.2]),(4008,.buf 0 2 [rng r])],4200⟩) (by
     simp[app,elems,roomy,hr2,rng,setAll,take_map_len]) ?_
    simp only[Ex.then,Ex.inBlock];refine WprgZ ?_;refine⟨?_,trivial⟩;simp[again,keepFr,get,nrm,nrmO,hw1]
 ·intro _;refine ab ?_;have hn:¬(l.length:Int)<l.length:=by omega
  refine Wpr0Z (by simp[hn];rfl) ?_;refine ab (WpcondZ rfl (WpexitZ ?_));simp only[Ex.then,Ex.inBlock,if_true];refine WpsgZ ?_;refine WpretZ ?_;have hql2:q.take l.length=q:=by rw[<-hql,List.take_length]
  rw[hql2];simp[FinS,F37,resAll,resM,outA,ev,get,M.look,M.bind,M.run,Mrun_bindZ,M.ok,shut,fzA,fz1,fzC,fz,M.write,M.lift,take_map_len]
theorem p_ranges (H:Lib2 prog) (h38:prog 38=some F38) (h:prog 37=some F37) (l:List (Int×Int)) (hl:l.length<=12):Ans prog 37 [.iv (.sl 2 (l.map rng))] (.iv (.sl 2 ((normR l).map rng))):=
 p_rangesQ h38 h l (isort ltR l) (by omega) (isort_len _ _) (p_sortR H l hl)
end
def joinT (a b:List ByteArray):List ByteArray:=comp (isort ltT (a++b))
section
variable {prog:Nat->Option IFn}
set_option maxHeartbeats 1000000 in
theorem p_joinQ (h54:prog 54=some F54) (h56:prog 56=some F56) (h:prog 40=some F40) (a b q:List ByteArray) (hl:a.length+b.length<=100000) (hql:q.length=(a++b).length)
  (hs:Ev prog 55 [.own 0 0 (a++b).length 1] [(0,.buf 1 1 ((a++b).map st1))] (.tup [],[(0,.buf 1 1 (q.map st1))])) :
  Ans prog 40 [.iv (.sl 1 (a.map st1)),.iv (.sl 1 (b.map st1))] (.iv (.sl 1 ((comp q).map st1))):=by
 obtain⟨K1,hK1⟩:=hs;obtain⟨p,⟨rows',hr1,hr2,rfl⟩,K2,hK2⟩:=p_compact h56 1 q (by rw[hql];simp[maxLen];omega);rw[List.length_append,List.map_append]at hK1;rw[hql,List.length_append]at hK2;refine Ans.of h rfl rfl (WpsgZ ?_);refine WpskZ (K:=1) (s':=⟨[(5,.own 1128 0 (a.length+b.length) 1)],[(1000,.buf 0 1 []),(1128,.buf 1 1 ((a++b).map st1))],1384⟩) (λn hn=>by
  obtain⟨n,rfl⟩:∃n',n=n'+1:=⟨n - 1,by omega⟩;have hr:a.length<=1073741824:=by omega
  have hr2:a.length+b.length<=1073741824:=by omega
  simp[ocallM,takeR,evalF,h54,F54,cloneM,roomy,hr,hr2,app,elems,take_map_len]) ?_
 refine WpskZ (K:=K1) (s':=⟨[(5,.own 1128 0 (a.length+b.length) 1)],[(1000,.buf 0 1 []),(1128,.buf 1 1 (q.map st1))],1512⟩) (λn hn=>by simp[lcallM,callee,idsOf,List.flatMap,dedup,nodupB,lendA,place,lentOk,withPlaces,lentR,backAll,hK1 n hn]) ?_;refine WpskZ (K:=K2) (s':=⟨[(4,.own 1128 0 (comp q).length 1)],[(1000,.buf 0 1 []),(1128,.buf 1 1 rows')],1704⟩) (λn hn=>by simp[lcallM,callee,idsOf,List.flatMap,dedup,nodupB,lendA,place,lentOk,withPlaces,lentR,backAll,hK2 n hn]) ?_;refine WpretZ ?_;simp[FinS,F40,resAll,resM,outA,ev,get,M.look,M.bind,M.run,Mrun_bindZ,M.ok,shut,fzA,fz1,fzC,fz,M.write,M.lift,hr1]
theorem p_join (H:Lib2 prog) (h54:prog 54=some F54) (h56:prog 56=some F56) (h:prog 40=some F40) (a b:List ByteArray) (hl:a.length+b.length<=12) :
  Ans prog 40 [.iv (.sl 1 (a.map st1)),.iv (.sl 1 (b.map st1))] (.iv (.sl 1 ((joinT a b).map st1))):=
 p_joinQ h54 h56 h a b (isort ltT (a++b)) (by omega) (isort_len _ _) (p_sortT H 1 (a++b) (by simpa using hl))
end
def orT (x y:S):List ByteArray:=
 if x.c&&y.c then pickS x.s y.s true else if x.c then pickS x.s y.s false else if y.c then pickS y.s x.s false else joinT x.s y.s
def orS (x y:S):S:=⟨x.a||y.a,normR (x.i++y.i),x.c||y.c,orT x y⟩
structure Lib3 (prog:Nat->Option IFn):Prop extends Lib2 prog where
 h23:prog 23=some F23
 h37:prog 37=some F37
 h38:prog 38=some F38
 h39:prog 39=some F39
 h40:prog 40=some F40
 h53:prog 53=some F53
 h54:prog 54=some F54
 h56:prog 56=some F56
 h64:prog 64=some F64
section
variable {prog:Nat->Option IFn}
def orHp (x y:S) (t:AV):Hp:=[(1000,.cells [.iv (.bool x.a),.iv (.sl 2 (x.i.map rng)),.iv (.bool x.c),.iv (.sl 1 (x.s.map st1))]),(1064,.cells [.iv (.bool y.a),.iv (.sl 2 (y.i.map rng)),.iv (.bool y.c),.iv (.sl 1 (y.s.map st1))]),
 (1130,.buf 0 2 []),(1132,.buf 0 1 []),(1128,.cells [.iv (.bool false),.own 1130 0 0 0,.iv (.bool false),.own 1132 0 0 0]),(1704,.imm 1 2 (x.i.map rng++y.i.map rng)),(2474,.buf 0 2 []),(2476,.buf 0 1 []),
 (2472,.cells [.iv (.bool (x.a||y.a)),.iv (.sl 2 ((normR (x.i++y.i)).map rng)),.iv (.bool (x.c||y.c)),t]),(2539,.buf 0 1 [])]
set_option maxHeartbeats 4000000 in
theorem p_orQ (H:Lib3 prog) (x y:S) (hi:x.i.length+y.i.length<=100000) (hs:x.s.length<=1000/\y.s.length<=1000) (hR:Ans prog 37 [.iv (.sl 2 ((x.i++y.i).map rng))] (.iv (.sl 2 ((normR (x.i++y.i)).map rng))))
  (hJ:Ans prog 40 [.iv (.sl 1 (x.s.map st1)),.iv (.sl 1 (y.s.map st1))] (.iv (.sl 1 ((joinT x.s y.s).map st1)))):Ans prog 23 [x.av,y.av] (orS x y).av:=by
 obtain⟨K1,hK1⟩:=hR;rw[List.map_append]at hK1;obtain⟨K2,hK2⟩:=p_pick H.h64 H.h53 H.h39 x.s y.s true (by omega) (by unfold maxLen;omega);obtain⟨K3,hK3⟩:=p_pick H.h64 H.h53 H.h39 x.s y.s false (by omega) (by unfold maxLen;omega);obtain⟨K4,hK4⟩:=p_pick H.h64 H.h53 H.h39 y.s x.s false (by omega) (by unfold maxLen;omega);obtain⟨K5,hK5⟩:=hJ;refine Ans.of H.h23 rfl rfl (Wps0Z (by simp[S.av];rfl) ?_);refine WpskZ (K:=max K1 1) (s':=⟨[(2,.ref 1000 0 0 0),(3,.ref 1064 0 0 0),(4,.ref 1128 0 0 0),(5,.ref 2472 0 0 0)],orHp x y (.own 2539 0 0 0),2600⟩) (λn hn=>by
  obtain⟨n,rfl⟩:∃n',n=n'+1:=⟨n - 1,by omega⟩;have e1:=hK1 (n+1) (by omega);have hr:x.i.length<=1073741824:=by omega
  have hr2:x.i.length+y.i.length<=1073741824:=by omega
  have f38:∀es,evalF prog (n+1) 38 [.iv (.sl 2 es)] []=(cloneM 2 [.iv (.sl 2 es)]).run []:=λes=>by simp only[evalF,H.h38,F38];rfl
  generalize evalF prog (n+1)=g at e1 f38;have ht:(x.i.map rng++y.i.map rng).take (x.i.length+y.i.length)=x.i.map rng++y.i.map rng:=List.take_of_length_le (by simp);cases ha:x.a<;>cases hc:x.c<;>simp[ocallM,takeR,f38,cloneM,roomy,hr,hr2,app,elems,take_map_len,e1,ha,hc,orHp,ht]) ?_
 refine ab (WpblockZ (Wp.mono (Q:=λe s=>e = .norm/\∃nx,s=⟨[(4,.ref 1128 0 0 0),(5,.ref 2472 0 0 0)],orHp x y (.iv (.sl 1 ((orT x y).map st1))),nx⟩) ?_ ?_))
 ·refine Wps0Z (s':=⟨[(2,.ref 1000 0 0 0),(3,.ref 1064 0 0 0),(4,.ref 1128 0 0 0),(5,.ref 2472 0 0 0),(32,.bI (x.c&&y.c))],orHp x y (.own 2539 0 0 0),3048⟩) (by
   cases hc:x.c<;>simp[orHp,hc]) ?_
  refine WpcondZ rfl ?_;unfold orT;cases hb:x.c&&y.c with
  |true=>
   refine WprgnZ (K:=K2) (s':=⟨[(4,.ref 1128 0 0 0),(5,.ref 2472 0 0 0)],orHp x y (.iv (.sl 1 ((pickS x.s y.s true).map st1))),3496⟩) (λn hn=>by
    have e2:=hK2 n hn;generalize evalF prog n=g at e2;simp[orHp,e2]) ⟨rfl,_,rfl⟩
  |false=>
   refine Wps0Z (s':=⟨[(2,.ref 1000 0 0 0),(3,.ref 1064 0 0 0),(4,.ref 1128 0 0 0),(5,.ref 2472 0 0 0),(45,.bI x.c)],orHp x y (.own 2539 0 0 0),3240⟩) (by simp[orHp]) ?_;refine WpcondZ rfl ?_;cases hc:x.c with
   |true=>
    refine WprgnZ (K:=K3) (s':=⟨[(4,.ref 1128 0 0 0),(5,.ref 2472 0 0 0)],orHp x y (.iv (.sl 1 ((pickS x.s y.s false).map st1))),3688⟩) (λn hn=>by
     have e2:=hK3 n hn;generalize evalF prog n=g at e2;simp[orHp,e2]) ⟨rfl,_,rfl⟩
   |false=>
    refine Wps0Z (s':=⟨[(2,.ref 1000 0 0 0),(3,.ref 1064 0 0 0),(4,.ref 1128 0 0 0),(5,.ref 2472 0 0 0),(54,.bI y.c)],orHp x y (.own 2539 0 0 0),3432⟩) (by simp[orHp]) ?_;refine WpcondZ rfl ?_;cases hd:y.c with
    |true=>
     refine WprgnZ (K:=K4) (s':=⟨[(4,.ref 1128 0 0 0),(5,.ref 2472 0 0 0)],orHp x y (.iv (.sl 1 ((pickS y.s x.s false).map st1))),3880⟩) (λn hn=>by
      have e2:=hK4 n hn;generalize evalF prog n=g at e2;simp[orHp,e2]) ⟨rfl,_,rfl⟩
    |false=>
     refine WprgnZ (K:=K5) (s':=⟨[(4,.ref 1128 0 0 0),(5,.ref 2472 0 0 0)],orHp x y (.iv (.sl 1 ((joinT x.s y.s).map st1))),3880⟩) (λn hn=>by
      have e2:=hK5 n hn;generalize evalF prog n=g at e2;simp[orHp,e2]) ⟨rfl,_,rfl⟩
 ·rintro e s ⟨rfl,nx,rfl⟩;simp only[Ex.then,Ex.inBlock];refine Wps0Z (by simp[orHp];rfl) ?_;refine WpretZ ?_;simp[FinS,F23,resAll,resM,outA,load,obRead,mk,ev,get,M.look,M.bind,M.run,Mrun_bindZ,M.ok,M.lift,shut,fzA,fz1,fzC,fz,M.mapL,S.av,orS]
end
section
variable {prog:Nat->Option IFn}
end
theorem fzC_own (id o m ver:Nat):fzC true (.own id o m ver)=(M.look id).bind fun
  |.buf v e es=>(M.ok (v==ver)).bind λ_=>(M.write id (.imm v e es)).bind λ_=>.ret (.iv (.sl e ((es.drop o).take m)))
  |.imm v e es=>(M.ok (v==ver)).bind λ_=>.ret (.iv (.sl e ((es.drop o).take m)))
  |.cells _=>.fail
  |.map _=>.fail:=by
 unfold fzC fz;simp only[M.look,M.bind];congr 1;funext ob;cases ob with
 |none=>rfl
 |some ob=>
  cases ob with
  |cells cs=>rfl
  |map kvs=>rfl
  |buf v e es=>cases hv:v==ver<;>simp[M.ok,M.bind,M.write,hv]
  |imm v e es=>cases hv:v==ver<;>simp[M.ok,M.bind,hv]
section
variable {prog:Nat->Option IFn}
end
section
variable {prog:Nat->Option IFn}
end
end Arb
namespace Arb
open Go
def in64 (n:Int):Prop:=-9223372036854775808<=n/\n<=9223372036854775807
structure S.ok (s:S):Prop where
 li:s.i.length<=maxLen
 ls:s.s.length<=maxLen
 ri:∀p ∈ s.i,in64 p.1/\in64 p.2
 rs:∀t ∈ s.s,t.size<=maxLen
def B.ok (b:B):Prop:=b.s0.ok/\b.s1.ok/\b.s2.ok/\b.s3.ok
theorem B.ok.at {b:B} (h:b.ok) {i:Nat} (hi:i<4):(b.get i).ok:=by
 match i,hi with
 |0,_=>exact h.1
 |1,_=>exact h.2.1
 |2,_=>exact h.2.2.1
 |3,_=>exact h.2.2.2
theorem B.ok.fits {b:B} (h:b.ok):b.fits:=λ_ hi=>⟨(h.at hi).li,(h.at hi).ls⟩
theorem rows_map {α:Type} (f:α->List IV) (P:α->Prop):∀rows:List (List IV),(∀r ∈ rows,∃a,r=f a/\P a)->∃l:List α,rows=l.map f/\∀a ∈ l,P a
 |[],_=>⟨[],rfl,λa h=>by cases h⟩
 |r::rows,h=>by
  obtain⟨a,rfl,ha⟩:=h r (List.mem_cons_self ..);obtain⟨l,rfl,hl⟩:=rows_map f P rows λr' h'=>h r' (List.mem_cons_of_mem _ h')
  exact⟨a::l,rfl,λb hb=>(List.mem_cons.1 hb).elim (λe=>e▸ha) (hl b)⟩
theorem FitsL.split:∀{ss ts:List Sh} {xs:List IV},FitsL (ss++ts) xs->∃a b,xs=a++b/\FitsL ss a/\FitsL ts b
 |[],_,xs,h=>⟨[],xs,rfl,trivial,h⟩
 |_::_,_,[],h=>h.elim
 |_::_,_,x::xs,h=>by
  obtain⟨a,b,rfl,ha,hb⟩:=FitsL.split h.2;exact⟨x::a,b,rfl,⟨h.1,ha⟩,hb⟩
theorem wf64 {n:Int} (h:(Lit.int .i64 n).wf=true):in64 n:=by
 simp only[Lit.wf,Bool.and_eq_true,decide_eq_true_eq]at h;rw[show IntKind.i64.min = -9223372036854775808 by decide,show IntKind.i64.max=9223372036854775807 by decide]at h;exact h
theorem FitsL.one {a:Sh} {ss:List Sh}:∀{xs:List IV},FitsL (a::ss) xs->∃x r,xs=x::r/\Fits a x/\FitsL ss r
 |[],h=>h.elim
 |x::r,h=>⟨x,r,rfl,h.1,h.2⟩
theorem FitsL.none:∀{xs:List IV},FitsL [] xs->xs=[]
 |[],_=>rfl
 |_::_,h=>h.elim
theorem sameS_iff {x y:S}:sameS x y=true↔x=y:=by
 constructor
 ·intro h;simp only[sameS,Bool.and_eq_true,beq_iff_eq,decide_eq_true_eq]at h;obtain⟨h1,h2,h3,h4⟩:=h;cases x;cases y;simp_all
 ·rintro rfl;simp[sameS]
end Arb
namespace Arb
open Go
attribute [local simp] evalRgn Option.map_some evalOps step wants osem Mrun_bindZ M.mapL M.run M.ok M.fresh M.write M.look M.lift putD Arb.set ev Arb.get keepFr bin intBin strBin mk params cellsM load obRead fadr fld isl iarr xarr idx len valid slc bound store splice nilc un eqs eq0 evalFeet footOf M.foot orderOk apartAll apart1 clash meets callM fcallM callee fz1 fzC fz flat flat1 flat0 flatI Option.bind_some putAll M.bind
theorem nrm_ref0 {n0:Nat} (h:1000<n0) (cs:List AV):nrm n0 [(1000,.cells cs)] 8 (.ref 1000 0 0 0) = .ref 1000 0 0 0:=by simp[nrm,Arb.get,h]
inductive Xp where
 |mk (k a:Int) (s:S) (sub:List Xp)
mutual
def Xp.enc:Xp->List IV
 |.mk k a s sub=>[.int .i64 k,.int .i64 a,.bool s.a,.sl 2 (s.i.map rng),.bool s.c,.sl 1 (s.s.map st1),.sl 7 (Xp.encs sub)]
def Xp.encs:List Xp->List (List IV)
 |[]=>[]
 |x::l=>x.enc::Xp.encs l
end
theorem Xp.encs_map:∀l:List Xp,Xp.encs l=l.map Xp.enc
 |[]=>rfl
 |x::l=>by simp[Xp.encs,Xp.encs_map l]
def Xp.sub:Xp->List Xp
 |.mk _ _ _ l=>l
def Xp.set:Xp->S
 |.mk _ _ s _=>s
def Xp.cs (x:Xp):List AV:=x.enc.map .iv
def Xp.av (x:Xp):AV:=.agg x.cs
theorem Xp.enc_all (x:Xp):x.enc.all notNil=true:=by cases x;simp[Xp.enc,notNil]
theorem Xp.cs_fzC (x:Xp) (w:Bool):M.mapL (fzC w) x.cs = .ret x.cs:=fzC_plain w x.enc x.enc_all
theorem Xp.cs_fz (x:Xp) (w:Bool):M.mapL (fz w 8) x.cs = .ret x.enc:=fz_plain w x.enc x.enc_all
theorem Xp.cs_nilc (x:Xp) (s:Nat):nilc s x.cs = .ret x.cs:=nilc_plain x.enc s x.enc_all
theorem Xp.cs_len (x:Xp):x.cs.length=7:=by cases x;rfl
theorem Xp.cs_7 (x:Xp):x.cs.take 7=x.cs:=by cases x;rfl
theorem Xp.cs_sub (x:Xp):(x.cs.drop 6).take 1=[.iv (.sl 7 (x.sub.map Xp.enc))]:=by cases x;simp[Xp.cs,Xp.enc,Xp.sub,Xp.encs_map]
theorem Xp.cs_set (x:Xp):(x.cs.drop 2).take 4=[.bI x.set.a,.iv (.sl 2 (x.set.i.map rng)),.bI x.set.c,.iv (.sl 1 (x.set.s.map st1))]:=by cases x;rfl
theorem Xp.cs_nrm (x:Xp) (n0:Nat) (h:Hp):x.cs.map (nrm n0 h 8)=x.cs:=nrm_ivs n0 h x.enc
theorem Xp.take_enc (x:Xp):(x.enc.take 7).map AV.iv=x.cs:=by cases x;rfl
theorem Xp.take_enc2 (x:Xp):(x.enc.map AV.iv).take 7=x.cs:=by cases x;rfl
theorem Xp.len_enc (x:Xp):x.enc.length=7:=by cases x;rfl
inductive Xp.ok:Xp->Prop
 |mk {k a:Int} {s:S} {sub:List Xp} (hk:in64 k) (ha:in64 a) (hs:s.ok) (hl:sub.length<=maxLen) (h:∀x ∈ sub,Xp.ok x):Xp.ok (.mk k a s sub)
mutual
def Xp.deep:Int->Xp->Int
 |d,.mk _ _ _ sub=>if d > 20 then 20 else if 20<Xp.deeps (d+1) 100 sub 0+1 then 20 else Xp.deeps (d+1) 100 sub 0+1
def Xp.deeps:Int->Nat->List Xp->Int->Int
 |_,_,[],n=>n
 |_,0,_::_,n=>n
 |d,k+1,x::l,n=>Xp.deeps d k l (if Xp.deep d x > n then Xp.deep d x else n)
end
mutual
theorem Xp.deep_in:∀(x:Xp) (d:Int),1<=x.deep d/\x.deep d<=20
 |.mk _ _ _ sub,d=>by
  unfold Xp.deep;split
  ·omega
  ·have:=Xp.deeps_in sub (d+1) 100 0 (by omega) (by omega);split<;>omega
theorem Xp.deeps_in:∀(l:List Xp) (d:Int) (k:Nat) (n:Int),0<=n->n<=20->0<=Xp.deeps d k l n/\Xp.deeps d k l n<=20
 |[],d,k,n,h,h'=>by unfold Xp.deeps;omega
 |x::l,d,0,n,h,h'=>by unfold Xp.deeps;omega
 |x::l,d,k+1,n,h,h'=>by
  have h1:=Xp.deep_in x d;unfold Xp.deeps;split
  ·exact Xp.deeps_in l d k _ (by omega) (by omega)
  ·exact Xp.deeps_in l d k _ (by omega) (by omega)
end
mutual
def Xp.sets:Xp->Bool
 |.mk _ _ s sub=>fewS s&&Xp.setss sub
def Xp.setss:List Xp->Bool
 |[]=>true
 |x::l=>x.sets&&Xp.setss l
end
theorem Xp.setss_all:∀l:List Xp,Xp.setss l=l.all Xp.sets
 |[]=>by unfold Xp.setss;rfl
 |x::l=>by unfold Xp.setss;simp[Xp.setss_all l]
mutual
def Xp.count:Int->Xp->Int
 |d,.mk _ _ _ sub=>if d > 20 then 100 else if 100<Xp.counts (d+1) sub 1 then 100 else Xp.counts (d+1) sub 1
def Xp.counts:Int->List Xp->Int->Int
 |_,[],n=>n
 |d,x::l,n=>if n<100 then Xp.counts d l (n+Xp.count d x) else n
end
mutual
theorem Xp.count_in:∀(x:Xp) (d:Int),1<=x.count d/\x.count d<=100
 |.mk _ _ _ sub,d=>by
  unfold Xp.count;split
  ·omega
  ·have:=Xp.counts_in sub (d+1) 1 (by omega);split<;>omega
theorem Xp.counts_in:∀(l:List Xp) (d n:Int),1<=n->n<=Xp.counts d l n
 |[],d,n,_=>by unfold Xp.counts;omega
 |x::l,d,n,hn=>by
  have h1:=Xp.count_in x d;unfold Xp.counts;split
  ·have:=Xp.counts_in l d (n+x.count d) (by omega);omega
  ·omega
end
section
variable {prog:Nat->Option IFn}
theorem Xp.counts_done {d n:Int} (h:¬n<100):∀l:List Xp,Xp.counts d l n=n
 |[]=>by unfold Xp.counts;rfl
 |x::l=>by unfold Xp.counts;rw[if_neg h]
theorem p_count (h:prog 169=some F169) {x:Xp} (hx:x.ok):∀d:Int,0<=d->d<=21->Ans prog 169 [x.av,.nI d] (.nI (x.count d)):=by
 induction hx with
 |@mk k a s sub _ _ _ hl _ ih=>
  intro d hd0 hd;generalize hX:Xp.mk k a s sub=X;have hsub:X.sub=sub:=by rw[<-hX];rfl
  refine Ans.of h rfl rfl (Wps0Z (by simp[Xp.av,Xp.cs_nilc];rfl) ?_);refine WpsgZ ?_;refine ab (Wps0Z (by simp;rfl) ?_);by_cases hdeep:20<d
  ·refine WpcondZ (t:=true) (by simp[ev,Arb.get,hdeep]) ?_;simp only[if_true];refine WpsgZ ?_;refine WpretZ ?_;have:X.count d=100:=by rw[<-hX];unfold Xp.count;rw[if_pos hdeep]
   rw[this];rfl
  ·refine WpcondZ (t:=false) (by simp[ev,Arb.get,hdeep]) ?_;simp only[Bool.false_eq_true,if_false];refine WpskipZ (ab (WpsgZ ?_));refine WpblockZ ?_;have hcnt:X.count d=if 100<Xp.counts (d+1) sub 1 then 100 else Xp.counts (d+1) sub 1:=by rw[<-hX];unfold Xp.count;rw[if_neg hdeep]
   refine WploopZ (λm s1=>∃(i:Nat) (n:Int),i+m=sub.length/\1<=n/\n<200/\Xp.counts (d+1) (sub.drop i) n=Xp.counts (d+1) sub 1/\
    s1=⟨[(1,.nI d),(2,.ref 1000 0 0 0),(5,.nI n),(6,.nI i)],[(1000,.cells X.cs)],1384⟩) (m:=sub.length) ⟨0,1,by omega,by omega,by omega,rfl,rfl⟩ ?_
   rintro m s1 ⟨i,n,him,hn1,hn2,hc,rfl⟩;refine ab (ab ?_);refine WprgnZ (K:=0) (s':=⟨[(1,.nI d),(2,.ref 1000 0 0 0),(5,.nI n),(6,.nI i),(17,.bI (decide (i<sub.length)&&decide (n<100)))],[(1000,.cells X.cs)],1960⟩) (λn' _=>by
    have hlt:decide ((i:Int)<(sub.length:Int))=decide (i<sub.length):=decide_eq_decide.2 (by omega);cases hb:decide (i<sub.length)<;>simp[X.cs_sub,hsub,hb]) ?_
   by_cases hgo:i<sub.length/\n<100
   ·refine WpcondZ (t:=true) (by simp[ev,Arb.get,hgo.1,hgo.2]) ?_;simp only[if_true];refine WpskipZ (ab (WpblockZ ?_));have hx:sub[i]?=some sub[i]:=List.getElem?_eq_getElem hgo.1;obtain⟨K,hK⟩:=ih sub[i] (List.getElem_mem _) (d+1) (by omega) (by omega);have hin:=Xp.count_in sub[i] (d+1);have hw:IntKind.i64.wrap (d+1)=d+1:=IntWalk.i64_in _ (by omega);have hw2:IntKind.i64.wrap (n+sub[i].count (d+1))=n+sub[i].count (d+1):=IntWalk.i64_in _ (by omega);refine WprgnZ (K:=K) (λn' hn'=>by
     have hc':=hK n' hn';simp only[Xp.av]at hc';simp[X.cs_sub,hsub,hx,Xp.take_enc2,Xp.len_enc,Xp.cs_fzC,hw,hw2,hc'];rfl) ?_
    refine Wpr0Z (by simp[wrap_succ hgo.1 hl];rfl) ?_;refine⟨m - 1,by omega,i+1,n+sub[i].count (d+1),by omega,by omega,by omega,?_,by simp[again,keepFr,get,nrm_iv,nrm_ref0,nrmO,Xp.cs_nrm]⟩;rw[<-hc,List.drop_eq_getElem_cons hgo.1]
    conv=>rhs;unfold Xp.counts
    rw[if_pos hgo.2]
   ·have hfalse:(decide (i<sub.length)&&decide (n<100))=false:=by simpa using λh=>Int.not_lt.1 λh'=>hgo ⟨h,h'⟩
    refine WpcondZ (t:=false) (by simp[ev,Arb.get,hfalse]) ?_;simp only[Bool.false_eq_true,if_false];refine WpexitZ ?_;simp only[Ex.then,Ex.inBlock,if_true];have hfin:Xp.counts (d+1) sub 1=n:=by
     rw[<-hc];by_cases hi:i<sub.length
     ·exact Xp.counts_done (λh=>hgo ⟨hi,h⟩) _
     ·rw[List.drop_eq_nil_of_le (by omega)];unfold Xp.counts;rfl
    refine ab ?_;refine WprgnZ (K:=0) (s':=⟨[(4,.nI (X.count d))],[(1000,.cells X.cs)],2152⟩) (λn' _=>by
     rw[hcnt,hfin];by_cases hb:100<n<;>simp[mnI,hb]) ?_
    exact WpretZ rfl
theorem Xp.deeps_none (d:Int) (n:Int):∀l:List Xp,Xp.deeps d 0 l n=n
 |[]=>by unfold Xp.deeps;rfl
 |x::l=>by unfold Xp.deeps;rfl
theorem p_deep (h:prog 170=some F170) {x:Xp} (hx:x.ok):∀d:Int,0<=d->d<=21->Ans prog 170 [x.av,.nI d] (.nI (x.deep d)):=by
 induction hx with
 |@mk k a s sub _ _ _ hl _ ih=>
  intro d hd0 hd;generalize hX:Xp.mk k a s sub=X;have hsub:X.sub=sub:=by rw[<-hX];rfl
  refine Ans.of h rfl rfl (Wps0Z (by simp[Xp.av,Xp.cs_nilc];rfl) ?_);refine WpsgZ ?_;refine ab (Wps0Z (by simp;rfl) ?_);by_cases hdeep:20<d
  ·refine WpcondZ (t:=true) (by simp[ev,Arb.get,hdeep]) ?_;simp only[if_true];refine WpsgZ ?_;refine WpretZ ?_;have:X.deep d=20:=by rw[<-hX];unfold Xp.deep;rw[if_pos hdeep]
   rw[this];rfl
  ·refine WpcondZ (t:=false) (by simp[ev,Arb.get,hdeep]) ?_;simp only[Bool.false_eq_true,if_false];refine WpskipZ (ab (WpsgZ ?_));refine WpblockZ ?_;have hcnt:X.deep d=if 20<Xp.deeps (d+1) 100 sub 0+1 then 20 else Xp.deeps (d+1) 100 sub 0+1:=by rw[<-hX];unfold Xp.deep;rw[if_neg hdeep]
   refine WploopZ (λm s1=>∃(i:Nat) (n:Int),i+m=sub.length/\i<=100/\0<=n/\n<=20/\Xp.deeps (d+1) (100 - i) (sub.drop i) n=Xp.deeps (d+1) 100 sub 0/\
    s1=⟨[(1,.nI d),(2,.ref 1000 0 0 0),(5,.nI n),(6,.nI i)],[(1000,.cells X.cs)],1384⟩) (m:=sub.length) ⟨0,0,by omega,by omega,by omega,by omega,rfl,rfl⟩ ?_
   rintro m s1 ⟨i,n,him,hi100,hn1,hn2,hc,rfl⟩;refine ab (ab ?_);refine WprgnZ (K:=0) (s':=⟨[(1,.nI d),(2,.ref 1000 0 0 0),(5,.nI n),(6,.nI i),(17,.bI (decide (i<sub.length)&&decide (i<100)))],[(1000,.cells X.cs)],1960⟩) (λn' _=>by
    have hlt:decide ((i:Int)<(sub.length:Int))=decide (i<sub.length):=decide_eq_decide.2 (by omega);have hlt2:decide ((i:Int)<100)=decide (i<100):=decide_eq_decide.2 (by omega);cases hb:decide (i<sub.length)<;>simp[X.cs_sub,hsub,hlt2,hb]) ?_
   by_cases hgo:i<sub.length/\i<100
   ·refine WpcondZ (t:=true) (by simp[ev,Arb.get,hgo.1,hgo.2]) ?_;simp only[if_true];refine WpskipZ (ab (WpblockZ ?_));have hx:sub[i]?=some sub[i]:=List.getElem?_eq_getElem hgo.1;obtain⟨K,hK⟩:=ih sub[i] (List.getElem_mem _) (d+1) (by omega) (by omega);have hin:=Xp.deep_in sub[i] (d+1);have hw:IntKind.i64.wrap (d+1)=d+1:=IntWalk.i64_in _ (by omega);refine WprgnZ (K:=K) (λn' hn'=>by
     have hc':=hK n' hn';simp only[Xp.av]at hc';simp[X.cs_sub,hsub,hx,Xp.take_enc2,Xp.len_enc,Xp.cs_fzC,hw,hc',mxI];rfl) ?_
    refine Wpr0Z (by simp[wrap_succ hgo.1 hl];rfl) ?_;refine⟨m - 1,by omega,i+1,if sub[i].deep (d+1) > n then sub[i].deep (d+1) else n,by omega,by omega,by split<;>omega,by split<;>omega,?_,by simp[again,keepFr,get,nrm_iv,nrm_ref0,nrmO,Xp.cs_nrm]⟩;rw[<-hc,List.drop_eq_getElem_cons hgo.1,show 100 - i=(100 - (i+1))+1 by omega]
    conv=>rhs;unfold Xp.deeps
   ·have hfalse:(decide (i<sub.length)&&decide (i<100))=false:=by simpa using λh=>Nat.not_lt.1 λh'=>hgo ⟨h,h'⟩
    refine WpcondZ (t:=false) (by simp[ev,Arb.get,hfalse]) ?_;simp only[Bool.false_eq_true,if_false];refine WpexitZ ?_;simp only[Ex.then,Ex.inBlock,if_true];have hfin:Xp.deeps (d+1) 100 sub 0=n:=by
     rw[<-hc];by_cases hi:i<sub.length
     ·rw[show 100 - i=0 by omega];exact Xp.deeps_none _ _ _
     ·rw[List.drop_eq_nil_of_le (by omega)];unfold Xp.deeps;rfl
    refine ab ?_;have hw3:IntKind.i64.wrap (n+1)=n+1:=IntWalk.i64_in _ (by omega);refine WprgnZ (K:=0) (s':=⟨[(4,.nI (X.deep d))],[(1000,.cells X.cs)],2216⟩) (λn' _=>by
     rw[hcnt,hfin];by_cases hb:20<n+1<;>simp[mnI,hb,hw3]) ?_
    exact WpretZ rfl
theorem p_sets (h27:prog 27=some F27) (h:prog 204=some F204) {x:Xp} (hx:x.ok):Ans prog 204 [x.av] (.bI x.sets):=by
 induction hx with
 |@mk k a s sub _ _ _ hl _ ih=>
  generalize hX:Xp.mk k a s sub=X;have hsub:X.sub=sub:=by rw[<-hX];rfl
  have hset:X.set=s:=by rw[<-hX];rfl
  have hval:X.sets=(fewS s&&sub.all Xp.sets):=by rw[<-hX];unfold Xp.sets;rw[Xp.setss_all]
  refine Ans.of h rfl rfl (Wps0Z (by simp[Xp.av,Xp.cs_nilc];rfl) ?_);refine ab (ab ?_);obtain⟨K,hK⟩:=p_few3 h27 [s] (by simp[maxLen]);refine WprgnZ (K:=K) (λn' hn'=>by
   have hc':=hK n' hn';simp only[sets,List.map_cons,List.map_nil,S.enc,List.all_cons,List.all_nil,Bool.and_true]at hc';simp[X.cs_set,hset,setAll,hc'];rfl) ?_
  cases hfs:fewS s with
  |false=>
   refine WpcondZ (t:=true) rfl (WpsgZ ?_);refine WpretZ ?_;rw[hval,hfs];rfl
  |true=>
   refine WpcondZ (t:=false) rfl (WpskipZ (ab (WpsgZ ?_)));refine WpblockZ (WprangeZ sub.length (λi=>⟨[(1,.ref 1000 0 0 0),(3,.nI i)],[(1000,.cells X.cs),(1256,.buf 0 4 [[.bool s.a,.sl 2 (s.i.map rng),.bool s.c,.sl 1 (s.s.map st1)]])],1512⟩)
    (λi=>(sub.take i).all Xp.sets=true) rfl (by simp) ?_ ?_)
   ·intro i hi hg;have hlt:decide ((i:Int)<(sub.length:Int))=true:=decide_eq_true (by omega);refine ab (ab ?_);refine WprgnZ (K:=0) (λn' _=>by
     simp[X.cs_sub,hsub,hi];rfl) ?_
    refine WpcondZ (t:=true) rfl (WpskipZ (ab (WpblockZ (ab ?_))));have hx:sub[i]?=some sub[i]:=List.getElem?_eq_getElem hi;obtain⟨K,hK⟩:=ih sub[i] (List.getElem_mem _);refine WprgnZ (K:=K) (λn' hn'=>by
     have hc':=hK n' hn';simp only[Xp.av]at hc';simp[X.cs_sub,hsub,hx,Xp.take_enc2,Xp.len_enc,Xp.cs_fzC,hc'];rfl) ?_
    cases hsx:sub[i].sets with
    |false=>
     refine WpcondZ (t:=true) rfl (WpsgZ ?_);refine WpretZ ?_;rw[hval,hfs,all_false hx hsx];rfl
    |true=>
     refine WpcondZ (t:=false) rfl (WpskipZ ?_);refine Wpr0Z (by simp[wrap_succ hi hl];rfl) ?_;have hr:nrm 1512 [(1000,.cells X.cs),(1256,.buf 0 4 [[.bool s.a,.sl 2 (s.i.map rng),.bool s.c,.sl 1 (s.s.map st1)]])] 8 (.ref 1000 0 0 0) = .ref 1000 0 0 0:=by simp[nrm,Arb.get]
     refine⟨by simp[again,keepFr,get,nrm_iv,hr,nrmO,Xp.cs_nrm],?_⟩;rw[take_succ_all hx,hg,hsx];rfl
   ·intro hg;refine ab (ab ?_);refine WprgnZ (K:=0) (λn' _=>by
     simp[X.cs_sub,hsub];rfl) ?_
    refine WpcondZ (t:=false) rfl (WpexitZ ?_);simp only[Ex.then,Ex.inBlock,if_true];refine WpsgZ ?_;refine WpretZ ?_;rw[List.take_length]at hg;rw[hval,hfs,hg];rfl
end
section
variable {prog:Nat->Option IFn}
theorem Ev.run {f:Nat} {args:List AV} {p:AV×Hp} (h:Ev prog f args [] p) (hp:p.1 = .bI true):∃n hp',evalF prog n f args []=some (.bI true,hp'):=by
 obtain⟨K,h⟩:=h;exact⟨K,p.2,by rw[h K (Nat.le_refl _),<-hp]⟩
end
end Arb
namespace Arb
open Go
section
variable {α:Type} {lt:α->α->Bool}
def insV (lt:α->α->Bool) (x:α):List α->List α
 |[]=>[x]
 |y::r=>if lt x y then y::insV lt x r else x::y::r
theorem sink_ins (x:α):∀(v rest:List α),sink lt v.length (v.reverse++x::rest)=(insV lt x v).reverse++rest
 |[],rest=>rfl
 |y::v,rest=>by
  have h1:(v.reverse++y::x::rest)[v.length+1]?=some x:=by
   simp_all
  have h2:(v.reverse++y::x::rest)[v.length]?=some y:=by
   simp_all
  rw[show(y::v).reverse++x::rest=v.reverse++y::x::rest by simp,List.length_cons,sink,h1,h2];simp only[insV];split
  ·have h3:((v.reverse++y::x::rest).set (v.length+1) y).set v.length x=v.reverse++x::y::rest:=by
    rw[List.set_append_right _ _ (by simp),List.set_append_right _ _ (by simp)];simp
   rw[h3,sink_ins x v (y::rest)];simp
  ·simp
theorem sinks_fold (l:List α):∀k,k<l.length->sinks lt l k=((l.take (k+1)).foldl (λv x=>insV lt x v) []).reverse++l.drop (k+1)
 |0,h=>by
  match l,h with
  |x::r,_=>simp[sinks,insV]
 |k+1,h=>by
  rw[sinks,sinks_fold l k (by omega)];obtain⟨x,hx⟩:∃x,l[k+1]?=some x:=⟨_,List.getElem?_eq_getElem h⟩;rw[drop_cons hx,List.take_add_one (i:=k+1),hx];generalize hv:(l.take (k+1)).foldl (λv x=>insV lt x v) []=v;have hl:v.length=k+1:=by
   have hlen:∀(m v:List α),(m.foldl (λv x=>insV lt x v) v).length=v.length+m.length:=by
    intro m
    induction m with
    |nil=>intro v;rfl
    |cons a m ih=>
     intro v;rw[List.foldl_cons,ih];have:∀v:List α,(insV lt a v).length=v.length+1:=by
      intro v
      induction v with
      |nil=>rfl
      |cons b v ih2=>unfold insV;split<;>simp[ih2]
     grind
   grind
  have:=sink_ins (lt:=lt) x v (l.drop (k+1+1))
  simp_all
theorem isort_fold (l:List α):isort lt l=(l.foldl (λv x=>insV lt x v) []).reverse:=by
 by_cases h:l.length=0
 ·obtain rfl:=List.eq_nil_of_length_eq_zero h;rfl
 ·rw[isort,sinks_fold l (l.length - 1) (by omega),show l.length - 1+1=l.length by omega,List.take_length,List.drop_length,List.append_nil]
theorem insV_mem {x a:α}:∀{v:List α},a ∈ insV lt x v↔a=x\/a ∈ v
 |[]=>by simp[insV]
 |y::v=>by
  unfold insV;split
  ·simp only[List.mem_cons,insV_mem];constructor
   ·rintro(h | h | h)<;>simp[h]
   ·rintro(h | h | h)<;>simp[h]
  ·simp only[List.mem_cons]
theorem foldV_mem {a:α}:∀(l v:List α),a ∈ l.foldl (λv x=>insV lt x v) v↔a ∈ l\/a ∈ v
 |[],v=>by simp
 |x::l,v=>by
  rw[List.foldl_cons,foldV_mem l,insV_mem,List.mem_cons]
  grind
theorem isort_mem {a:α} {l:List α}:a ∈ isort lt l↔a ∈ l:=by rw[isort_fold,List.mem_reverse,foldV_mem];simp
structure Weak (lt:α->α->Bool):Prop where
 asymm:∀a b,lt a b=true->lt b a=false
 ntrans:∀a b c,lt a b=false->lt b c=false->lt a c=false
theorem insV_desc (W:Weak lt) (x:α):∀{v:List α},v.Pairwise (λa b=>lt a b=false)->(insV lt x v).Pairwise λa b=>lt a b=false
 |[],_=>by simp[insV]
 |y::v,h=>by
  rw[List.pairwise_cons]at h;unfold insV;split
  ·rename_i hxy;rw[List.pairwise_cons];refine⟨λb hb=>?_,insV_desc W x h.2⟩;rcases insV_mem.1 hb with rfl | hb
   ·exact W.asymm _ _ hxy
   ·exact h.1 b hb
  ·rename_i hxy;have hxy:lt x y=false:=by simpa using hxy
   rw[List.pairwise_cons];refine⟨λb hb=>?_,List.pairwise_cons.2 h⟩;rcases List.mem_cons.1 hb with rfl | hb
   ·exact hxy
   ·exact W.ntrans _ _ _ hxy (h.1 b hb)
theorem isort_asc (W:Weak lt) (l:List α):(isort lt l).Pairwise λa b=>lt b a=false:=by
 rw[isort_fold,List.pairwise_reverse];have:∀(l v:List α),v.Pairwise (λa b=>lt a b=false)->(l.foldl (λv x=>insV lt x v) v).Pairwise λa b=>lt a b=false:=by
  intro l
  induction l with
  |nil=>exact λv h=>h
  |cons x l ih=>exact λv h=>ih _ (insV_desc W x h)
 simp_all
end
def inR (l:List (Int×Int)) (n:Int):Prop:=∃p ∈ l,p.1<=n/\n<=p.2
def normal (l:List (Int×Int)):Prop:=(∀p ∈ l,p.1<=p.2)/\l.Pairwise λp q=>p.2+1<q.1
theorem inR_cons {p:Int×Int} {l:List (Int×Int)} {n:Int}:inR (p::l) n↔(p.1<=n/\n<=p.2)\/inR l n:=by
 simp[inR]
theorem inR_append {a b:List (Int×Int)} {n:Int}:inR (a++b) n↔inR a n\/inR b n:=by
 simp only[inR,List.mem_append];constructor
 ·rintro⟨p,h | h,hp⟩
  ·exact .inl ⟨p,h,hp⟩
  ·exact .inr ⟨p,h,hp⟩
 ·rintro(⟨p,h,hp⟩|⟨p,h,hp⟩)
  ·exact⟨p,.inl h,hp⟩
  ·exact⟨p,.inr h,hp⟩
theorem inR_nil {n:Int}:¬inR [] n:=by simp[inR]
theorem normal_tail {p:Int×Int} {l:List (Int×Int)} (h:normal (p::l)):normal l:=⟨λq hq=>h.1 q (List.mem_cons_of_mem _ hq),(List.pairwise_cons.1 h.2).2⟩
theorem normal_above {p:Int×Int} {l:List (Int×Int)} (h:normal (p::l)) {n:Int} (hn:inR l n):p.2+1<n:=by
 obtain⟨q,hq,h1,h2⟩:=hn;have:=(List.pairwise_cons.1 h.2).1 q hq;omega
theorem normal_one:∀{l t:List (Int×Int)},normal l->normal t->(∀n,inR l n↔inR t n)->l=t
 |[],[],_,_,_=>rfl
 |[],q::t,_,ht,h=>by
  have:=ht.1 q (List.mem_cons_self ..);exact(inR_nil ((h q.1).2 (inR_cons.2 (.inl ⟨Int.le_refl _,this⟩)))).elim
 |p::l,[],hl,_,h=>by
  have:=hl.1 p (List.mem_cons_self ..);exact(inR_nil ((h p.1).1 (inR_cons.2 (.inl ⟨Int.le_refl _,this⟩)))).elim
 |p::l,q::t,hl,ht,h=>by
  have hp:=hl.1 p (List.mem_cons_self ..);have hq:=ht.1 q (List.mem_cons_self ..);have lo1:q.1<=p.1:=by
   rcases inR_cons.1 ((h p.1).1 (inR_cons.2 (.inl ⟨Int.le_refl _,hp⟩)))with h1 | h1
   ·exact h1.1
   ·have:=normal_above ht h1;omega
  have lo2:p.1<=q.1:=by
   rcases inR_cons.1 ((h q.1).2 (inR_cons.2 (.inl ⟨Int.le_refl _,hq⟩)))with h1 | h1
   ·exact h1.1
   ·have:=normal_above hl h1;omega
  have hi1:q.2<=p.2:=by
   by_cases hlt:p.2<q.2
   ·rcases inR_cons.1 ((h (p.2+1)).2 (inR_cons.2 (.inl ⟨by omega,by omega⟩)))with h1 | h1
    ·omega
    ·have:=normal_above hl h1;omega
   ·omega
  have hi2:p.2<=q.2:=by
   by_cases hlt:q.2<p.2
   ·rcases inR_cons.1 ((h (q.2+1)).1 (inR_cons.2 (.inl ⟨by omega,by omega⟩)))with h1 | h1
    ·omega
    ·have:=normal_above ht h1;omega
   ·omega
  have e:p=q:=Prod.ext (by omega) (by omega);subst e;rw[normal_one (normal_tail hl) (normal_tail ht) λn=>?_];constructor
  ·intro hn;have:=normal_above hl hn;rcases inR_cons.1 ((h n).1 (inR_cons.2 (.inr hn)))with h1 | h1
   ·omega
   ·exact h1
  ·intro hn;have:=normal_above ht hn;rcases inR_cons.1 ((h n).2 (inR_cons.2 (.inr hn)))with h1 | h1
   ·omega
   ·exact h1
def in64s (l:List (Int×Int)):Prop:=∀p ∈ l,in64 p.1/\in64 p.2
theorem joinB_snoc (o:List (Int×Int)) (p r:Int×Int):joinB (o++[p]) r=(p.2==9223372036854775807||decide (r.1<=IntKind.wrap .i64 (p.2+1))):=by
 unfold joinB;rw[List.length_append,List.length_singleton,Nat.add_sub_cancel,List.getElem?_append_right (Nat.le_refl _)];simp
theorem hiR_snoc (o:List (Int×Int)) (p r:Int×Int):hiR (o++[p]) r=o++[(p.1,if r.2 > p.2 then r.2 else p.2)]:=by
 unfold hiR;rw[List.length_append,List.length_singleton,Nat.add_sub_cancel,List.getElem?_append_right (Nat.le_refl _),Nat.sub_self];simp only[List.getElem?_cons_zero];rw[List.set_append_right _ _ (Nat.le_refl _)];simp
theorem addR_step {o:List (Int×Int)} {r:Int×Int} (ho:normal o) (h64:in64s o) (hr:in64 r.1/\in64 r.2) (hlo:∀p ∈ o,p.1<=r.1) :
  normal (addR o r)/\in64s (addR o r)/\(∀p ∈ addR o r,p.1<=r.1)/\∀n,inR (addR o r) n↔inR o n\/(r.1<=n/\n<=r.2):=by
 unfold addR;split
 ·rename_i hd;have hd:=of_decide_eq_true hd;exact⟨ho,h64,hlo,λn=>⟨.inl,λh=>h.elim id λh=>by omega⟩⟩
 ·rename_i hd;have hd:¬r.2<r.1:=λh=>hd (decide_eq_true h)
  rcases List.eq_nil_or_concat o with rfl | ⟨o',p,rfl⟩
  ·rw[if_neg (by simp[joinB])];refine⟨⟨λq hq=>?_,by simp⟩,λq hq=>?_,λq hq=>?_,λn=>?_⟩
   ·simp at hq;subst hq;omega
   ·simp at hq;subst hq;exact hr
   ·simp at hq;subst hq;omega
   ·simp[inR]
  ·rw[List.concat_eq_append]at *;rw[joinB_snoc,hiR_snoc];have hp:=ho.1 p (by simp);have hp64:=h64 p (by simp);have hplo:=hlo p (by simp);have hpw:=List.pairwise_append.1 ho.2;unfold in64 at hp64 hr;split
   ·rename_i hj;have hj:p.2=9223372036854775807\/r.1<=p.2+1:=by
     simp only[Bool.or_eq_true,beq_iff_eq,decide_eq_true_eq]at hj;rcases hj with hj | hj
     ·exact .inl hj
     ·by_cases hm:p.2=9223372036854775807
      ·exact .inl hm
      ·rw[IntWalk.i64_in _ (by omega)]at hj;exact .inr hj
    refine⟨⟨λq hq=>?_,?_⟩,λq hq=>?_,λq hq=>?_,λn=>?_⟩
    ·rcases List.mem_append.1 hq with hq | hq
     ·exact ho.1 q (by simp[hq])
     ·simp at hq;subst hq;simp only;split<;>omega
    ·refine List.pairwise_append.2 ⟨hpw.1,by simp,λa ha b hb=>?_⟩;simp at hb;subst hb;exact hpw.2.2 a ha p (by simp)
    ·rcases List.mem_append.1 hq with hq | hq
     ·exact h64 q (by simp[hq])
     ·simp at hq;subst hq;unfold in64;simp only;split<;>omega
    ·rcases List.mem_append.1 hq with hq | hq
     ·exact hlo q (by simp[hq])
     ·simp at hq;subst hq;exact hplo
    ·rw[inR_append,inR_append,inR_cons,inR_cons];simp only[inR_nil,or_false];constructor
     ·rintro(h | h)
      ·exact .inl (.inl h)
      ·split at h
       ·by_cases hn:n<=p.2
        ·exact .inl (.inr ⟨h.1,hn⟩)
        ·exact .inr ⟨by omega,h.2⟩
       ·exact .inl (.inr h)
     ·rintro((h | h) | h)
      ·exact .inl h
      ·refine .inr ?_;split<;>omega
      ·refine .inr ?_;split<;>omega
   ·rename_i hj;have hj:p.2+1<r.1:=by
     simp only[Bool.or_eq_true,beq_iff_eq,decide_eq_true_eq,not_or]at hj;have h1:=hj.1;have h2:=hj.2;rw[IntWalk.i64_in _ (by omega)]at h2;omega
    have hall:∀a ∈ o'++[p],a.2+1<r.1:=by
     intro a ha;rcases List.mem_append.1 ha with ha | ha
     ·have h1:=hpw.2.2 a ha p (by simp);omega
     ·simp at ha;subst ha;exact hj
    refine⟨⟨λq hq=>?_,?_⟩,λq hq=>?_,λq hq=>?_,λn=>?_⟩
    ·rcases List.mem_append.1 hq with hq | hq
     ·exact ho.1 q hq
     ·simp at hq;subst hq;omega
    ·refine List.pairwise_append.2 ⟨ho.2,by simp,λa ha b hb=>?_⟩;simp at hb;subst hb;exact hall a ha
    ·rcases List.mem_append.1 hq with hq | hq
     ·exact h64 q hq
     ·simp at hq;subst hq;exact hr
    ·rcases List.mem_append.1 hq with hq | hq
     ·exact hlo q hq
     ·simp at hq;subst hq;omega
    ·rw[inR_append,inR_cons];simp only[inR_nil,or_false]
theorem foldR_all:∀(l o:List (Int×Int)),normal o->in64s o->in64s l->l.Pairwise (λa b=>a.1<=b.1)->(∀p ∈ o,∀r ∈ l,p.1<=r.1)->
  normal (l.foldl addR o)/\in64s (l.foldl addR o)/\∀n,inR (l.foldl addR o) n↔inR o n\/inR l n
 |[],o,ho,h64,_,_,_=>⟨ho,h64,λn=>by simp[inR_nil]⟩
 |r::l,o,ho,h64,hl,hs,hlo=>by
  obtain⟨h1,h2,h3,h4⟩:=addR_step ho h64 (hl r (List.mem_cons_self ..)) λp hp=>hlo p hp r (List.mem_cons_self ..)
  rw[List.pairwise_cons]at hs;obtain⟨k1,k2,k3⟩:=foldR_all l (addR o r) h1 h2 (λp hp=>hl p (List.mem_cons_of_mem _ hp)) hs.2 λp hp q hq=>Int.le_trans (h3 p hp) (hs.1 q hq)
  refine⟨k1,k2,λn=>?_⟩;rw[List.foldl_cons,k3,h4,inR_cons,or_assoc]
theorem weakR:Weak ltR:=by
 constructor
 ·intro a b;unfold ltR cmpI;simp only[decide_eq_true_eq,decide_eq_false_iff_not];split<;>split<;>(try split)<;>omega
 ·intro a b c;unfold ltR cmpI;simp only[decide_eq_false_iff_not];split<;>split<;>split<;>(try split)<;>(try split)<;>(try split)<;>omega
theorem ltR_false {a b:Int×Int} (h:ltR b a=false):a.1<=b.1:=by
 unfold ltR cmpI at h;simp only[decide_eq_false_iff_not]at h;split at h
 ·omega
 ·omega
theorem normR_all {l:List (Int×Int)} (hl:in64s l):normal (normR l)/\in64s (normR l)/\∀n,inR (normR l) n↔inR l n:=by
 have hm:in64s (isort ltR l):=λp hp=>hl p (isort_mem.1 hp)
 obtain⟨h1,h2,h3⟩:=foldR_all (isort ltR l) [] ⟨λp hp=>(by cases hp),List.Pairwise.nil⟩ (λp hp=>(by cases hp)) hm ((isort_asc weakR l).imp λh=>ltR_false h) (λp hp=>(by cases hp));refine⟨h1,h2,λn=>?_⟩;unfold normR;rw[h3];simp[inR,isort_mem]
theorem u8_lt {a b:UInt8}:a<b↔a.toNat<b.toNat:=UInt8.lt_iff_toNat_lt
theorem u8_eq {a b:UInt8}:a=b↔a.toNat=b.toNat:=UInt8.toNat_inj.symm
theorem bl_cons {a b:UInt8} {x y:List UInt8}:Op.bytesLess (a::x) (b::y)=true↔a.toNat<b.toNat\/(a.toNat=b.toNat/\Op.bytesLess x y=true):=by
 simp only[Op.bytesLess,Bool.or_eq_true,decide_eq_true_eq,Bool.and_eq_true,beq_iff_eq,u8_lt,u8_eq]
theorem bl_irr:∀x:List UInt8,¬Op.bytesLess x x=true
 |[]=>by simp[Op.bytesLess]
 |a::x=>by rw[bl_cons];exact λh=>h.elim (Nat.lt_irrefl _) λh=>bl_irr x h.2
theorem bl_trans:∀x y z:List UInt8,Op.bytesLess x y=true->Op.bytesLess y z=true->Op.bytesLess x z=true
 |_,[],_,h,_=>by simp[Op.bytesLess]at h
 |_,_::_,[],_,h=>by simp[Op.bytesLess]at h
 |[],_::_,_::_,_,_=>by simp[Op.bytesLess]
 |a::x,b::y,c::z,h,k=>by
  rw[bl_cons]at h k ⊢;rcases h with h | ⟨h,h'⟩<;>rcases k with k | ⟨k,k'⟩
  ·exact .inl (by omega)
  ·exact .inl (by omega)
  ·exact .inl (by omega)
  ·exact .inr ⟨by omega,bl_trans x y z h' k'⟩
theorem bl_tri:∀x y:List UInt8,¬Op.bytesLess x y=true->¬Op.bytesLess y x=true->x=y
 |[],[],_,_=>rfl
 |[],_::_,h,_=>by simp[Op.bytesLess]at h
 |_::_,[],_,h=>by simp[Op.bytesLess]at h
 |a::x,b::y,h,k=>by
  rw[bl_cons]at h k;have e:a.toNat=b.toNat:=by omega
  rw[u8_eq.2 e,bl_tri x y (λh'=>h (.inr ⟨e,h'⟩)) (λh'=>k (.inr ⟨e.symm,h'⟩))]
theorem sless_irr (x:ByteArray):¬sless x x=true:=bl_irr _
theorem sless_trans {x y z:ByteArray} (h:sless x y=true) (k:sless y z=true):sless x z=true:=bl_trans _ _ _ h k
theorem sless_tri {x y:ByteArray} (h:¬sless x y=true) (k:¬sless y x=true):x=y:=by
 have:=bl_tri _ _ h k;rw[ByteArray.toList_eq,ByteArray.toList_eq]at this;cases x;cases y;simp only[Array.toList_inj]at this;rw[this]
theorem sless_asymm {x y:ByteArray} (h:sless x y=true):¬sless y x=true:=λk=>sless_irr x (sless_trans h k)
theorem weakT:Weak ltT:=by
 constructor
 ·intro a b h;exact Bool.eq_false_iff.2 (sless_asymm h)
 ·intro a b c h k;have h:=Bool.eq_false_iff.1 h;have k:=Bool.eq_false_iff.1 k;refine Bool.eq_false_iff.2 λhac=>?_
  by_cases hba:sless b a=true
  ·exact k (sless_trans hba hac)
  ·have:=sless_tri h hba;subst this;exact k hac
def rise (l:List ByteArray):Prop:=l.Pairwise λa b=>sless a b=true
theorem rise_one:∀{l t:List ByteArray},rise l->rise t->(∀s,s ∈ l↔s ∈ t)->l=t
 |[],[],_,_,_=>rfl
 |[],q::t,_,_,h=>by have:=(h q).2 (List.mem_cons_self ..);cases this
 |p::l,[],_,_,h=>by have:=(h p).1 (List.mem_cons_self ..);cases this
 |p::l,q::t,hl,ht,h=>by
  have hl':=List.pairwise_cons.1 hl;have ht':=List.pairwise_cons.1 ht;have e:p=q:=by
   rcases List.mem_cons.1 ((h p).1 (List.mem_cons_self ..))with h1 | h1
   ·exact h1
   ·rcases List.mem_cons.1 ((h q).2 (List.mem_cons_self ..))with h2 | h2
    ·exact h2.symm
    ·exact(sless_asymm (ht'.1 p h1) (hl'.1 q h2)).elim
  subst e;rw[rise_one hl'.2 ht'.2 λs=>?_];constructor
  ·intro hs;rcases List.mem_cons.1 ((h s).1 (List.mem_cons_of_mem _ hs))with h1 | h1
   ·subst h1;exact(sless_irr _ (hl'.1 _ hs)).elim
   ·exact h1
  ·intro hs;rcases List.mem_cons.1 ((h s).2 (List.mem_cons_of_mem _ hs))with h1 | h1
   ·subst h1;exact(sless_irr _ (ht'.1 _ hs)).elim
   ·exact h1
theorem compTo_all {l:List ByteArray} (hs:l.Pairwise λa b=>ltT b a=false):∀j,j<=l.length->rise (compTo l j)/\∀s,s ∈ compTo l j↔s ∈ l.take j
 |0,_=>⟨List.Pairwise.nil,λs=>by simp[compTo]⟩
 |j+1,hj=>by
  obtain⟨h1,h2⟩:=compTo_all hs j (by omega);obtain⟨x,hx⟩:∃x,l[j]?=some x:=⟨_,List.getElem?_eq_getElem hj⟩;have hxj:=(List.getElem?_eq_some_iff.1 hx).2;rw[compTo,hx,List.take_add_one,hx];simp only[Option.toList_some];have hget:=List.pairwise_iff_getElem.1 hs;split
  ·rename_i hc;refine⟨h1,λs=>?_⟩;rw[h2,List.mem_append,List.mem_singleton];refine⟨.inl,λh=>h.elim id λh=>?_⟩;subst h;have:=List.getElem?_eq_some_iff.1 hc.2;obtain⟨hlt,he⟩:=this;rw[<-he];exact List.mem_take_iff_getElem.2 ⟨j - 1,by omega,rfl⟩
  ·rename_i hc;refine⟨List.pairwise_append.2 ⟨h1,by simp,λa ha b hb=>?_⟩,λs=>?_⟩
   ·rw[List.mem_singleton]at hb;subst hb;obtain⟨k,hk,hka⟩:=List.mem_take_iff_getElem.1 ((h2 a).1 ha);have hkj:k<j:=by omega
    have g1:=hget k j (by omega) hj hkj;rw[hka,hxj]at g1;have g1:=Bool.eq_false_iff.1 g1;refine Classical.byContradiction λhno=>?_
    have e:a=b:=sless_tri hno g1;subst e;refine hc ⟨by omega,?_⟩;rw[List.getElem?_eq_getElem (by omega),Option.some.injEq];by_cases hk1:k=j - 1
    ·subst hk1;exact hka
    ·have g2:=Bool.eq_false_iff.1 (hget k (j - 1) (by omega) (by omega) (by omega));have g3:=Bool.eq_false_iff.1 (hget (j - 1) j (by omega) hj (by omega));rw[hka]at g2;rw[hxj]at g3;exact sless_tri g2 g3
   ·rw[List.mem_append,List.mem_append,h2]
theorem comp_all {l:List ByteArray} (hs:l.Pairwise λa b=>ltT b a=false):rise (comp l)/\∀s,s ∈ comp l↔s ∈ l:=by
 have:=compTo_all hs l.length (Nat.le_refl _);rw[List.take_length]at this;exact this
theorem joinT_all (a b:List ByteArray):rise (joinT a b)/\∀s,s ∈ joinT a b↔s ∈ a\/s ∈ b:=by
 obtain⟨h1,h2⟩:=comp_all (isort_asc weakT (a++b));refine⟨h1,λs=>?_⟩;unfold joinT;rw[h2,isort_mem,List.mem_append]
theorem hasT_iff {l:List ByteArray} {t:ByteArray}:hasT l t=true↔t ∈ l:=by rw[hasT,decide_eq_true_eq,idxFrom_mem]
theorem pickS_mem {a b:List ByteArray} {i:Bool} {s:ByteArray}:s ∈ pickS a b i↔s ∈ a/\(hasT b s==i)=true:=by
 unfold pickS;rw[List.mem_filter]
theorem pickS_rise {a b:List ByteArray} {i:Bool} (h:rise a):rise (pickS a b i):=List.Pairwise.filter _ h
def hasStr (x:S) (t:ByteArray):Bool:=hasT x.s t != x.c
theorem orT_rise {x y:S} (hx:rise x.s) (hy:rise y.s):rise (orT x y):=by
 unfold orT;split
 ·exact pickS_rise hx
 ·split
  ·exact pickS_rise hx
  ·split
   ·exact pickS_rise hy
   ·exact(joinT_all _ _).1
theorem or_str (x y:S) (t:ByteArray):hasStr (orS x y) t=(hasStr x t||hasStr y t):=by
 have e:hasT (orT x y) t=if x.c&&y.c then hasT x.s t&&hasT y.s t else if x.c then hasT x.s t&&!hasT y.s t else if y.c then hasT y.s t&&!hasT x.s t else hasT x.s t||hasT y.s t:=by
  rw[Bool.eq_iff_iff,hasT_iff];unfold orT;split
  ·rw[pickS_mem,Bool.and_eq_true,hasT_iff];simp
  ·split
   ·rw[pickS_mem,Bool.and_eq_true,hasT_iff];simp
   ·split
    ·rw[pickS_mem,Bool.and_eq_true,hasT_iff];simp
    ·rw[(joinT_all _ _).2,Bool.or_eq_true,hasT_iff,hasT_iff]
 unfold hasStr;rw[show(orS x y).s=orT x y from rfl,show(orS x y).c=(x.c||y.c) from rfl,e];cases x.c<;>cases y.c<;>cases hasT x.s t<;>cases hasT y.s t<;>rfl
theorem normal_adj:∀{l:List (Int×Int)},(∀(i:Nat) p,l[i]?=some p->p.1<=p.2)->(∀(i:Nat) p r,l[i]?=some p->l[i+1]?=some r->p.2+1<r.1)->normal l
 |[],_,_=>⟨λp hp=>(by cases hp),List.Pairwise.nil⟩
 |p::l,h1,h2=>by
  have ih:normal l:=normal_adj (λi q h=>h1 (i+1) q (by simpa using h)) λi q r h h'=>h2 (i+1) q r (by simpa using h) (by simpa using h')
  refine⟨λq hq=>?_,List.pairwise_cons.2 ⟨λq hq=>?_,ih.2⟩⟩
  ·rcases List.mem_cons.1 hq with rfl | hq
   ·exact h1 0 q rfl
   ·exact ih.1 q hq
  ·match l,hq,ih with
   |r::l',hq,ih=>
    have h3:=h2 0 p r rfl rfl;rcases List.mem_cons.1 hq with rfl | hq
    ·exact h3
    ·have:=(List.pairwise_cons.1 ih.2).1 q hq;have:=ih.1 r (List.mem_cons_self ..);omega
theorem rise_adj:∀{l:List ByteArray},(∀(i:Nat) p r,l[i]?=some p->l[i+1]?=some r->sless p r=true)->rise l
 |[],_=>List.Pairwise.nil
 |p::l,h2=>by
  have ih:rise l:=rise_adj λi q r h h'=>h2 (i+1) q r (by simpa using h) (by simpa using h')
  refine List.pairwise_cons.2 ⟨λq hq=>?_,ih⟩
  match l,hq,ih with
  |r::l',hq,ih=>
   have h3:=h2 0 p r rfl rfl;rcases List.mem_cons.1 hq with rfl | hq
   ·exact h3
   ·exact sless_trans h3 ((List.pairwise_cons.1 ih).1 q hq)
structure S.fine (x:S):Prop where
 i:normal x.i
 s:rise x.s
 len:∀t ∈ x.s,t.size<=8
theorem pair_get {α:Type} {R:α->α->Prop} {l:List α} (h:l.Pairwise R) {i:Nat} {p r:α} (hp:l[i]?=some p) (hr:l[i+1]?=some r):R p r:=by
 obtain⟨h1,rfl⟩:=List.getElem?_eq_some_iff.1 hp;obtain⟨h2,rfl⟩:=List.getElem?_eq_some_iff.1 hr;exact List.pairwise_iff_getElem.1 h _ _ _ _ (Nat.lt_succ_self i)
theorem rightS_iff {x:S} (h64:in64s x.i):rightS x=true↔x.fine:=by
 unfold rightS;simp only[Bool.and_eq_true,List.all_eq_true,List.mem_range,Bool.not_eq_true'];constructor
 ·rintro⟨h1,h2⟩;have hlt:∀{α:Type} {l:List α} {i:Nat} {p:α},l[i]?=some p->i<l.length:=λh=>(List.getElem?_eq_some_iff.1 h).1
  refine⟨normal_adj (λi p hp=>?_) (λi p r hp hr=>?_),rise_adj (λi p r hp hr=>?_),λt ht=>?_⟩
  ·have:=h1 i (hlt hp);cases i with
   |zero=>simp only[badR,hp,decide_eq_false_iff_not]at this;omega
   |succ j=>
    obtain⟨q,hq⟩:∃q,x.i[j]?=some q:=⟨_,List.getElem?_eq_getElem (by have:=hlt hp;omega)⟩;simp only[badR,hp,hq,Bool.or_eq_false_iff,decide_eq_false_iff_not]at this;omega
  ·have:=h1 (i+1) (hlt hr);simp only[badR,hp,hr,Bool.or_eq_false_iff,decide_eq_false_iff_not]at this;have h3:=h64 p (List.mem_of_getElem? hp);have h4:=h64 r (List.mem_of_getElem? hr);unfold in64 at h3 h4;have h5:=this.2.2;rw[IntWalk.i64_in _ (by omega)]at h5;have h5:r.1 - 1≠p.2:=by simpa using h5
   omega
  ·have:=h2 (i+1) (hlt hr);simp only[badT,hp,hr,Bool.or_eq_false_iff,Bool.not_eq_false']at this;exact this.2
  ·obtain⟨i,hi,he⟩:=List.getElem_of_mem ht;have ht':x.s[i]?=some t:=by rw[List.getElem?_eq_getElem hi,he]
   have:=h2 i hi;cases i with
   |zero=>simp only[badT,ht',decide_eq_false_iff_not]at this;omega
   |succ j=>
    obtain⟨q,hq⟩:∃q,x.s[j]?=some q:=⟨_,List.getElem?_eq_getElem (by omega)⟩;simp only[badT,ht',hq,Bool.or_eq_false_iff,decide_eq_false_iff_not]at this;omega
 ·rintro⟨hn,hr,hl⟩;refine⟨λi hi=>?_,λi hi=>?_⟩
  ·obtain⟨r,hr⟩:∃q,x.i[i]?=some q:=⟨_,List.getElem?_eq_getElem hi⟩;have h1:=hn.1 r (List.mem_of_getElem? hr);cases i with
   |zero=>simp only[badR,hr,decide_eq_false_iff_not];omega
   |succ j=>
    obtain⟨q,hq⟩:∃q,x.i[j]?=some q:=⟨_,List.getElem?_eq_getElem (by omega)⟩;have h2:=pair_get hn.2 hq hr;have h3:=h64 q (List.mem_of_getElem? hq);have h4:=h64 r (List.mem_of_getElem? hr);unfold in64 at h3 h4;simp only[badR,hr,hq,Bool.or_eq_false_iff,decide_eq_false_iff_not];rw[IntWalk.i64_in _ (by omega)];refine⟨by omega,by omega,?_⟩;simp;omega
  ·obtain⟨r,hr'⟩:∃q,x.s[i]?=some q:=⟨_,List.getElem?_eq_getElem hi⟩;have h1:=hl r (List.mem_of_getElem? hr');cases i with
   |zero=>simp only[badT,hr',decide_eq_false_iff_not];omega
   |succ j=>
    obtain⟨q,hq⟩:∃q,x.s[j]?=some q:=⟨_,List.getElem?_eq_getElem (by omega)⟩;have h2:=pair_get hr hq hr';simp only[badT,hr',hq,Bool.or_eq_false_iff,decide_eq_false_iff_not,Bool.not_eq_false'];exact⟨by omega,h2⟩
theorem or_fine {x y:S} (hx:x.fine) (hy:y.fine) (kx:in64s x.i) (ky:in64s y.i):(orS x y).fine/\in64s (orS x y).i/\∀n,inR (orS x y).i n↔inR x.i n\/inR y.i n:=by
 have hk:in64s (x.i++y.i):=λp hp=>(List.mem_append.1 hp).elim (kx p) (ky p)
 obtain⟨h1,h2,h3⟩:=normR_all hk;refine⟨⟨h1,orT_rise hx.s hy.s,λt ht=>?_⟩,h2,λn=>by rw[<-inR_append];exact h3 n⟩;have:t ∈ x.s\/t ∈ y.s:=by
  replace ht:t ∈ orT x y:=ht
  unfold orT at ht;split at ht
  ·exact .inl (pickS_mem.1 ht).1
  ·split at ht
   ·exact .inl (pickS_mem.1 ht).1
   ·split at ht
    ·exact .inr (pickS_mem.1 ht).1
    ·exact((joinT_all _ _).2 t).1 ht
 exact this.elim (hx.len t) (hy.len t)
theorem ltLo_eq (a b:Int×Int):ltLo a b=ltR a b:=by
 unfold ltLo ltR cmpI;by_cases h:a.1<b.1
 ·simp[h]
 ·by_cases h2:b.1<a.1<;>simp[h,h2]
theorem normR_any {l t:List (Int×Int)} (h64:in64s l) (hm:∀x,x ∈ t↔x ∈ l) (hs:t.Pairwise λa b=>ltLo b a=false):t.foldl addR []=normR l:=by
 have ht:in64s t:=λp hp=>h64 p ((hm p).1 hp)
 obtain⟨h1,h2,h3⟩:=foldR_all t [] ⟨λp hp=>(by cases hp),List.Pairwise.nil⟩ (λp hp=>(by cases hp)) ht (hs.imp λh=>ltR_false (by rw[<-ltLo_eq];exact h)) (λp hp=>(by cases hp));obtain⟨n1, -,n2⟩:=normR_all h64;refine normal_one h1 n1 λn=>?_
 rw[h3,n2];simp[inR,hm]
theorem sortT_asc (l:List ByteArray):(sortT l).Pairwise λa b=>ltT b a=false:=by
 unfold sortT;rw[List.pairwise_map];have h:=List.pairwise_mergeSort (le:=fun(x y:List UInt8)=>decide (x<=y)) (λa b c h1 h2=>by
  simp only[decide_eq_true_eq]at *;exact List.le_trans h1 h2) (λa b=>by
  simp only[Bool.or_eq_true,decide_eq_true_eq];exact List.le_total a b) (l.map (·.data.toList))
 refine h.imp λ{a b} h=>?_
 simp only[decide_eq_true_eq]at h;unfold ltT sless;rw[Proofs.bytesLess_eq];simp only[decide_eq_false_iff_not,Lib.toList_data];exact List.not_lt.2 h
theorem joinT_any {a b t:List ByteArray} (hm:∀x,x ∈ t↔x ∈ a++b) (hs:t.Pairwise λa b=>ltT b a=false):comp t=joinT a b:=by
 obtain⟨h1,h2⟩:=comp_all hs;obtain⟨h3,h4⟩:=joinT_all a b;exact rise_one h1 h3 λs=>by rw[h2,h4,hm,List.mem_append]
theorem allSome_rng:∀l:List (Int×Int),allSome rowR (l.map rng)=some l
 |[]=>rfl
 |p::l=>by simp[allSome,rowR,rng,allSome_rng l]
theorem allSome_st1:∀l:List ByteArray,allSome rowT (l.map st1)=some l
 |[]=>rfl
 |p::l=>by simp[allSome,rowT,st1,allSome_st1 l]
theorem many_self {n:Nat} (h1:12<n) (h2:n<=100000):many n n=true:=by
 simp only[many,roomy,Bool.and_eq_true,beq_self_eq_true,true_and,Nat.ble_eq];exact⟨by simpa using h1,by omega⟩
section
variable {prog:Nat->Option IFn}
theorem r_sortR (h:prog 50=some G50) (l:List (Int×Int)) (h1:12<l.length) (h2:l.length<=100000) :
  Ev prog 50 [.own 0 0 l.length 0,.iv (.fn 51 [])] [(0,.buf 0 2 (l.map rng))] (.tup [],[(0,.buf 0 2 ((sortR l).map rng))]):=
 Ev.srt h rfl rfl (by simp[sortM,get,many_self h1 h2,allSome_rng,Arb.set];intro a b _;rfl)
theorem r_sortT (h:prog 55=some G55) (l:List ByteArray) (v:Nat) (h1:12<l.length) (h2:l.length<=100000) :
  Ev prog 55 [.own 0 0 l.length v] [(0,.buf v 1 (l.map st1))] (.tup [],[(0,.buf v 1 ((sortT l).map st1))]):=
 Ev.srt h rfl rfl (by simp[sortM,get,many_self h1 h2,allSome_st1,Arb.set];intro a _;rfl)
theorem r_ranges (H:Lib2 prog) (h38:prog 38=some F38) (h:prog 37=some F37) (l:List (Int×Int)) (hl:l.length<=100000) (h64:in64s l):Ans prog 37 [.iv (.sl 2 (l.map rng))] (.iv (.sl 2 ((normR l).map rng))):=by
 by_cases h12:l.length<=12
 ·exact p_ranges H h38 h l h12
 ·rw[<-normR_any h64 (λx=>(sortR_all l).1.mem_iff) (sortR_all l).2];exact p_rangesQ h38 h l (sortR l) hl (sortR_len l) (r_sortR H.h50 l (by omega) hl)
theorem r_join (H:Lib2 prog) (h54:prog 54=some F54) (h56:prog 56=some F56) (h:prog 40=some F40) (a b:List ByteArray) (hl:a.length+b.length<=100000) :
  Ans prog 40 [.iv (.sl 1 (a.map st1)),.iv (.sl 1 (b.map st1))] (.iv (.sl 1 ((joinT a b).map st1))):=by
 by_cases h12:a.length+b.length<=12
 ·exact p_join H h54 h56 h a b h12
 ·rw[<-joinT_any (λx=>(sortT_perm (a++b)).mem_iff) (sortT_asc (a++b))];exact p_joinQ h54 h56 h a b (sortT (a++b)) hl (sortT_len _) (r_sortT H.h55 (a++b) 1 (by rw[List.length_append];omega) (by rw[List.length_append];omega))
theorem r_or (H:Lib3 prog) (x y:S) (hi:x.i.length+y.i.length<=100000) (hs:x.s.length<=1000/\y.s.length<=1000) (kx:in64s x.i) (ky:in64s y.i):Ans prog 23 [x.av,y.av] (orS x y).av:=
 p_orQ H x y hi hs (r_ranges H.toLib2 H.h38 H.h37 (x.i++y.i) (by rw[List.length_append];omega) λp hp=>(List.mem_append.1 hp).elim (kx p) (ky p)) (r_join H.toLib2 H.h54 H.h56 H.h40 x.s y.s (by omega))
end
end Arb
namespace Arb
open Go
attribute [local simp] evalRgn Option.map_some evalOps step wants osem Mrun_bindZ M.mapL M.run M.ok M.fresh M.write M.look M.lift putD Arb.set ev Arb.get keepFr bin intBin strBin mk params cellsM load obRead fadr fld isl iarr xarr idx len valid slc bound store splice nilc un eqs eq0 evalFeet footOf M.foot orderOk apartAll apart1 clash meets callM fcallM callee fz1 fzC fz flat flat1 flat0 flatI Option.bind_some putAll M.bind
section
variable {prog:Nat->Option IFn}
end
structure V where
 k:Int
 n:Int
 s:ByteArray
def V.enc (v:V):List IV:=[.int .i64 v.k,.int .i64 v.n,.str v.s]
def V.av (v:V):AV:=.agg [.iv (.int .i64 v.k),.iv (.int .i64 v.n),.iv (.str v.s)]
structure E where
 v0:V
 v1:V
 v2:V
 v3:V
def E.get (e:E):Nat->V
 |0=>e.v0
 |1=>e.v1
 |2=>e.v2
 |_=>e.v3
def E.enc (e:E):List IV:=e.v0.enc++(e.v1.enc++(e.v2.enc++e.v3.enc))
def E.cs (e:E):List AV:=e.enc.map .iv
def E.av (e:E):AV:=.agg e.cs
theorem E.cs_at (e:E) {i:Nat} (h:i<4):(e.cs.drop (i*3)).take 3=[.iv (.int .i64 (e.get i).k),.iv (.int .i64 (e.get i).n),.iv (.str (e.get i).s)]:=by
 match i,h with
 |0,_=>rfl
 |1,_=>rfl
 |2,_=>rfl
 |3,_=>rfl
theorem E.cs_12 (e:E):e.cs.take 12=e.cs:=rfl
theorem E.cs_len (e:E):e.cs.length=12:=rfl
theorem E.cs_nrm (e:E) (n0:Nat) (h:Hp):e.cs.map (nrm n0 h 8)=e.cs:=nrm_ivs n0 h e.enc
theorem E.enc_all (e:E):e.enc.all notNil=true:=by simp[E.enc,V.enc,notNil]
theorem E.cs_fzC (e:E) (w:Bool):M.mapL (fzC w) e.cs = .ret e.cs:=fzC_plain w e.enc e.enc_all
theorem E.cs_nilc (e:E) (s:Nat):nilc s e.cs = .ret e.cs:=nilc_plain e.enc s (by simp[E.enc,V.enc,notNil])
def rightV (v:V):Bool:=
 if v.k==0 then v.n==0&&v.s==⟨#[]⟩ else if v.k==1 then v.s==⟨#[]⟩ else if v.k==2 then v.n==0&&decide (v.s.size<=8) else false
def rightTo (e:E):Nat->Bool
 |0=>true
 |i+1=>rightTo e i&&rightV (e.get i)
def rightE (e:E):Bool:=rightTo e 4
def hasI (l:List (Int×Int)) (n:Int):Bool:=l.any λp=>decide (p.1<=n)&&decide (n<=p.2)
def hasV (x:S) (v:V):Bool:=if !rightV v then false else if v.k==0 then x.a else if v.k==1 then hasI x.i v.n else hasT x.s v.s != x.c
def hasTo (b:B) (e:E):Nat->Bool
 |0=>true
 |i+1=>hasTo b e i&&hasV (b.get i) (e.get i)
def hasB (b:B) (e:E):Bool:=if !rightE e then false else hasTo b e 4
def hasF (f:List B) (e:E):Bool:=f.any λb=>hasB b e
theorem take_succ_any {α:Type} {l:List α} {i:Nat} {x:α} {f:α->Bool} (hx:l[i]?=some x):(l.take (i+1)).any f=((l.take i).any f||f x):=by
 rw[List.take_add_one,hx];simp
theorem any_true {α:Type} {l:List α} {i:Nat} {x:α} {f:α->Bool} (hx:l[i]?=some x) (h:f x=true):l.any f=true:=by
 rw[List.any_eq_true];exact⟨x,List.mem_of_getElem? hx,h⟩
section
variable {prog:Nat->Option IFn}
set_option maxHeartbeats 1000000 in
theorem p_rightV (h:prog 43=some F43) (v:V):Ans prog 43 [v.av] (.bI (rightV v)):=by
 refine Ans.of h rfl rfl (Wps0Z (by simp[V.av];rfl) ?_);refine ab (WpsgZ ?_);refine WpblockZ (WpsgZ ?_);unfold rightV;refine WpcondZ rfl ?_;cases h0:v.k==0 with
 |true=>
  refine Wps0Z (s':=⟨[(2,.bI (v.n==0&&v.s==⟨#[]⟩))],[(1000,.cells [.nI v.k,.nI v.n,.iv (.str v.s)])],_⟩) (by
   cases h1:v.n==0<;>simp[h1]<;>rfl) ?_
  exact WpretZ rfl
 |false=>
  refine WpsgZ ?_;refine WpcondZ rfl ?_;cases h1:v.k==1 with
  |true=>
   refine WpsgZ ?_;exact WpretZ rfl
  |false=>
   refine WpsgZ ?_;refine WpcondZ rfl ?_;cases h2:v.k==2 with
   |true=>
    refine Wps0Z (s':=⟨[(2,.bI (v.n==0&&decide (v.s.size<=8)))],[(1000,.cells [.nI v.k,.nI v.n,.iv (.str v.s)])],_⟩) (by
     have e:decide ((v.s.size:Int)<=8)=decide (v.s.size<=8):=decide_eq_decide.2 (by omega);cases h1:v.n==0<;>simp[h1,e]<;>rfl) ?_
    exact WpretZ rfl
   |false=>
    refine WpskipZ ?_;simp only[Ex.then,Ex.inBlock];refine WpsgZ ?_;exact WpretZ rfl
theorem p_hasI (h:prog 48=some F48) (l:List (Int×Int)) (m:Int) (hl:l.length<=maxLen):Ans prog 48 [.iv (.sl 2 (l.map rng)),.nI m] (.bI (hasI l m)):=by
 refine Ans.of h rfl rfl (WpsgZ ?_);refine ab (WpsgZ ?_);refine WpblockZ ?_;refine WprangeZ l.length (λi=>⟨[(0,.iv (.sl 2 (l.map rng))),(1,.nI m),(5,.nI i)],[],1128⟩) (λi=>hasI (l.take i) m=false) (by simp[keepFr,get]) (by simp[hasI]) ?_ ?_
 ·intro i hi hg;obtain⟨p,hp⟩:∃x,l[i]?=some x:=⟨_,List.getElem?_eq_getElem hi⟩;refine ab (Wps0Z (by simp[hi];rfl) ?_);refine WpcondZ rfl (WpskipZ (ab (WpblockZ (Wps0Z (s':=⟨[(0,.iv (.sl 2 (l.map rng))),(1,.nI m),(5,.nI i),(27,.bI (decide (p.1<=m)&&decide (m<=p.2)))],[],2408⟩) (by
   cases h1:decide (p.1<=m)<;>simp[hp,rng,h1]) ?_))))
  refine WpcondZ rfl ?_;cases hb:decide (p.1<=m)&&decide (m<=p.2)with
  |true=>
   refine WpsgZ ?_;refine WpretZ ?_;rw[show hasI l m=true from any_true hp hb];rfl
  |false=>
   refine WpskipZ ?_;refine WprgZ ?_;refine⟨by simp[again,keepFr,get,nrm,wrap_succ hi hl],?_⟩;unfold hasI at hg ⊢;rw[take_succ_any hp,hg,hb];rfl
 ·intro hg;rw[List.take_length]at hg;refine ab (WpsgZ ?_);refine WpcondZ rfl (WpexitZ ?_);simp only[Ex.then,Ex.inBlock,if_true];refine WpsgZ ?_;refine WpretZ ?_;rw[hg];rfl
theorem hasT_any (l:List ByteArray) (t:ByteArray):hasT l t=l.any (λx=>x==t):=by
 rw[Bool.eq_iff_iff,hasT_iff,List.any_eq_true];constructor
 ·exact λh=>⟨t,h,by rw[ba_beq];simp⟩
 ·rintro⟨x,hx,he⟩;rw[ba_beq,decide_eq_true_eq]at he;exact he▸hx
theorem p_hasT (h:prog 49=some F49) (l:List ByteArray) (m:ByteArray) (hl:l.length<=maxLen):Ans prog 49 [.iv (.sl 1 (l.map st1)),.iv (.str m)] (.bI (hasT l m)):=by
 rw[hasT_any];refine Ans.of h rfl rfl (WpsgZ ?_);refine ab (WpsgZ ?_);refine WpblockZ ?_;refine WprangeZ l.length (λi=>⟨[(0,.iv (.sl 1 (l.map st1))),(1,.iv (.str m)),(5,.nI i)],[],1128⟩) (λi=>(l.take i).any (λx=>x==m)=false) (by simp[keepFr,get]) (by simp) ?_ ?_
 ·intro i hi hg;obtain⟨p,hp⟩:∃x,l[i]?=some x:=⟨_,List.getElem?_eq_getElem hi⟩;refine ab (Wps0Z (by simp[hi];rfl) ?_);refine WpcondZ rfl (WpskipZ (ab (WpblockZ (Wps0Z (by simp[hp,st1];rfl) ?_))));refine WpcondZ rfl ?_;cases hb:p==m with
  |true=>
   refine WpsgZ ?_;refine WpretZ ?_;rw[show l.any (λx=>x==m)=true from any_true hp hb];rfl
  |false=>
   refine WpskipZ ?_;refine WprgZ ?_;refine⟨by simp[again,keepFr,get,nrm,wrap_succ hi hl],?_⟩;rw[take_succ_any hp,hg,hb];rfl
 ·intro hg;rw[List.take_length]at hg;refine ab (WpsgZ ?_);refine WpcondZ rfl (WpexitZ ?_);simp only[Ex.then,Ex.inBlock,if_true];refine WpsgZ ?_;refine WpretZ ?_;rw[hg];rfl
end
def Xp.few (x:Xp):Bool:=!(decide (100<=x.count 0)||decide (20<=x.deep 0))&&x.sets
def num1 (n:Int):List IV:=[.int .i64 n]
structure Hd where
 ps:List Int
 hs:List Int
 b:Int
 g:Int
def Hd.enc (h:Hd):List IV:=[.sl 1 (h.ps.map num1),.sl 1 (h.hs.map num1),.int .i64 h.b,.int .u64 h.g]
def Hd.cs (h:Hd):List AV:=h.enc.map .iv
def Hd.av (h:Hd):AV:=.agg h.cs
theorem Hd.enc_all (x:Hd):x.enc.all notNil=true:=by simp[Hd.enc,notNil]
theorem Hd.cs_fzC (x:Hd) (w:Bool):M.mapL (fzC w) x.cs = .ret x.cs:=fzC_plain w x.enc x.enc_all
theorem Hd.cs_nilc (x:Hd) (s:Nat):nilc s x.cs = .ret x.cs:=nilc_plain x.enc s x.enc_all
theorem Hd.cs_len (x:Hd):x.cs.length=4:=rfl
theorem Hd.cs_4 (x:Hd):x.cs.take 4=x.cs:=rfl
theorem Hd.cs_nrm (x:Hd) (n0:Nat) (h:Hp):x.cs.map (nrm n0 h 8)=x.cs:=nrm_ivs n0 h x.enc
def Hd.few (h:Hd):Bool:=decide (h.ps.length<=100)&&decide (h.hs.length<=100)
structure Op where
 k:Int
 c:Int
 u:Int
 f:Int
 t:Int
 x:Xp
 e:E
structure Op.ok (o:Op):Prop where
 k:in64 o.k
 c:in64 o.c
 u:in64 o.u
 f:in64 o.f
 t:in64 o.t
 x:o.x.ok
 e:∀i,i<4->in64 (o.e.get i).k/\in64 (o.e.get i).n/\(o.e.get i).s.size<=maxLen
def Op.enc (o:Op):List IV:=.int .i64 o.k::.int .i64 o.c::.int .i64 o.u::.int .i64 o.f::.int .i64 o.t::(o.x.enc++o.e.enc)
def Op.cs (o:Op):List AV:=o.enc.map .iv
def Op.av (o:Op):AV:=.agg o.cs
def scr (l:List Op):AV:=.iv (.sl 24 (l.map Op.enc))
theorem Op.enc_all (o:Op):o.enc.all notNil=true:=by simp[Op.enc,notNil,List.all_append,Xp.enc_all,E.enc_all]
theorem Op.cs_nilc (o:Op) (s:Nat):nilc s o.cs = .ret o.cs:=nilc_plain o.enc s o.enc_all
theorem Op.cs_fzC (x:Op) (w:Bool):M.mapL (fzC w) x.cs = .ret x.cs:=fzC_plain w x.enc x.enc_all
theorem Op.enc_len (o:Op):o.enc.length=24:=by obtain⟨_,_,_,_,_,x,e⟩:=o;cases x;rfl
theorem Op.cs_len (o:Op):o.cs.length=24:=by simp[Op.cs,Op.enc_len]
theorem Op.cs_24 (o:Op):o.cs.take 24=o.cs:=List.take_of_length_le (by rw[Op.cs_len];omega)
theorem Op.enc_24 (o:Op):(o.enc.map AV.iv).take 24=o.cs:=o.cs_24
theorem Op.cs_nrm (o:Op) (n0:Nat) (h:Hp):o.cs.map (nrm n0 h 8)=o.cs:=nrm_ivs n0 h o.enc
theorem Op.at_k' (o:Op):o.cs.take 1=[.nI o.k]:=rfl
theorem Op.at_x (o:Op):(o.cs.drop 5).take 7=o.x.cs:=by obtain⟨_,_,_,_,_,x,e⟩:=o;cases x;rfl
theorem Op.at_s0 (o:Op):(o.cs.drop 14).take 1=[.iv (.str o.e.v0.s)]:=by obtain⟨_,_,_,_,_,x,e⟩:=o;cases x;rfl
theorem Op.at_s1 (o:Op):(o.cs.drop 17).take 1=[.iv (.str o.e.v1.s)]:=by obtain⟨_,_,_,_,_,x,e⟩:=o;cases x;rfl
theorem Op.at_s2 (o:Op):(o.cs.drop 20).take 1=[.iv (.str o.e.v2.s)]:=by obtain⟨_,_,_,_,_,x,e⟩:=o;cases x;rfl
theorem Op.at_s3 (o:Op):(o.cs.drop 23).take 1=[.iv (.str o.e.v3.s)]:=by obtain⟨_,_,_,_,_,x,e⟩:=o;cases x;rfl
def E.big (e:E):Bool:=decide (300<IntKind.i64.wrap (IntKind.i64.wrap (IntKind.i64.wrap (e.v0.s.size+e.v1.s.size)+e.v2.s.size)+e.v3.s.size))
def Op.few (o:Op):Bool:=o.x.few&&!o.e.big
def subsN (l:List Op):Nat:=(l.filter λo=>o.k==1).length
def fewL (h:Hd) (l:List Op):Bool:=l.all Op.few&&(h.few&&decide (subsN l<=16)&&decide (l.length<=120))
section
variable {prog:Nat->Option IFn}
theorem p_few5 (h27:prog 27=some F27) (h169:prog 169=some F169) (h170:prog 170=some F170) (h204:prog 204=some F204) (h:prog 203=some F203) {x:Xp} (hx:x.ok):Ans prog 203 [x.av] (.bI x.few):=by
 obtain⟨K1,hK1⟩:=p_count h169 hx 0 (by omega) (by omega);obtain⟨K2,hK2⟩:=p_deep h170 hx 0 (by omega) (by omega);obtain⟨K3,hK3⟩:=p_sets h27 h204 hx;refine Ans.of h rfl rfl (Wps0Z (by simp[Xp.av,Xp.cs_nilc];rfl) ?_);refine ab (WpskZ (K:=max K1 K2) (s':=⟨[(1,.ref 1000 0 0 0),(10,.bI (decide (100<=x.count 0)||decide (20<=x.deep 0)))],[(1000,.cells x.cs)],1640⟩) (λn hn=>by
  have h1:=hK1 n (by omega);have h2:=hK2 n (by omega);simp only[Xp.av]at h1 h2;cases hb:decide (100<=x.count 0)<;>simp[Xp.cs_7,Xp.cs_len,Xp.cs_fzC,h1,h2,hb]) ?_)
 cases hb:(decide (100<=x.count 0)||decide (20<=x.deep 0))with
 |true=>
  refine WpcondZ (t:=true) rfl (WpsgZ ?_);refine WpretZ ?_;unfold Xp.few;rw[hb];rfl
 |false=>
  refine WpcondZ (t:=false) rfl (WpskipZ (WpskZ (K:=K3) (λn hn=>by
   have h3:=hK3 n (by omega);simp only[Xp.av]at h3;simp[Xp.cs_7,Xp.cs_len,Xp.cs_fzC,h3];rfl) ?_))
  refine WpretZ ?_;unfold Xp.few;rw[hb];cases x.sets<;>rfl
theorem p_few16 (h:prog 202=some F202) (x:Hd):Ans prog 202 [x.av] (.bI x.few):=by
 refine Ans.of h rfl rfl (Wps0Z (by simp[Hd.av,Hd.cs_nilc];rfl) ?_);refine Wps0Z (s':=⟨[(2,.bI x.few)],[(1000,.cells x.cs)],1832⟩) (by
  have e1:decide ((x.ps.length:Int)<=100)=decide (x.ps.length<=100):=decide_eq_decide.2 (by omega);have e2:decide ((x.hs.length:Int)<=100)=decide (x.hs.length<=100):=decide_eq_decide.2 (by omega);cases hb:decide (x.ps.length<=100)<;>simp[Hd.cs,Hd.enc,Hd.few,e1,e2,hb]) ?_
 exact WpretZ rfl
theorem nrm_refc {n0:Nat} (h:1000<n0) (cs:List AV) (r:Hp):nrm n0 ((1000,.cells cs)::r) 8 (.ref 1000 0 0 0) = .ref 1000 0 0 0:=by simp[nrm,Arb.get,h]
theorem subsN_take {l:List Op} {i:Nat} {o:Op} (hx:l[i]?=some o):subsN (l.take (i+1))=subsN (l.take i)+(if o.k=1 then 1 else 0):=by
 unfold subsN;rw[List.take_add_one,hx];simp only[Option.toList_some,List.filter_append,List.length_append];by_cases h:o.k=1<;>simp[h]
theorem subsN_le (l:List Op) (i:Nat):subsN (l.take i)<=i:=by
 unfold subsN;have h1:=List.length_filter_le (λo:Op=>o.k==1) (l.take i);have h2:(l.take i).length<=i:=List.length_take_le i l;omega
theorem p_few20 (h27:prog 27=some F27) (h169:prog 169=some F169) (h170:prog 170=some F170) (h204:prog 204=some F204) (h203:prog 203=some F203) (h202:prog 202=some F202) (h:prog 201=some F201)
  (hd:Hd) (l:List Op) (hl:l.length<=maxLen) (hx:∀o ∈ l,o.x.ok):Ans prog 201 [hd.av,scr l] (.bI (fewL hd l)):=by
 refine Ans.of h rfl rfl (Wps0Z (by simp[Hd.av,Hd.cs_nilc];rfl) ?_);refine WpsgZ ?_;refine ab (WpsgZ ?_);refine WpblockZ (WprangeZ l.length (λi=>⟨[(1,scr l),(2,.ref 1000 0 0 0),(5,.nI (subsN (l.take i))),(6,.nI i)],[(1000,.cells hd.cs)],1256⟩) (λi=>(l.take i).all Op.few=true) rfl (by simp) ?_ ?_)
 ·intro i hi hg;refine ab (ab ?_);refine WprgnZ (K:=0) (λn' _=>by simp[scr,hi];rfl) ?_;refine WpcondZ (t:=true) rfl (WpskipZ (ab (WpblockZ (ab ?_))));have hxi:l[i]?=some l[i]:=List.getElem?_eq_getElem hi;generalize ho:l[i]=o at hxi;have hok:o.x.ok:=hx o (by rw[<-ho];exact List.getElem_mem _);refine WprgnZ (K:=0) (s':=⟨[(1,scr l),(2,.ref 1000 0 0 0),(5,.nI (subsN (l.take i))),(6,.nI i),(7,.ref 1768 0 0 0)],
   [(1000,.cells hd.cs),(1777,.buf 0 2 []),(1779,.buf 0 1 []),(1780,.buf 0 7 []),(1768,.cells o.cs)],1896⟩) (λn' _=>by
    simp[scr,hxi,Op.enc_24,Op.enc_len,Op.cs_len,Op.cs_nilc]) ?_
  refine ab (ab ?_);obtain⟨K,hK⟩:=p_few5 h27 h169 h170 h204 h203 hok;refine WprgnZ (K:=K) (s':=⟨[(1,scr l),(2,.ref 1000 0 0 0),(5,.nI (subsN (l.take i))),(6,.nI i),(7,.ref 1768 0 0 0),(47,.bI (!o.few))],
   [(1000,.cells hd.cs),(1777,.buf 0 2 []),(1779,.buf 0 1 []),(1780,.buf 0 7 []),(1768,.cells o.cs)],3816⟩) (λn' hn'=>by
    have hc:=hK n' hn';simp only[Xp.av]at hc;cases hf:o.x.few<;>simp[Op.at_x,Op.at_s0,Op.at_s1,Op.at_s2,Op.at_s3,Xp.cs_len,Xp.cs_fzC,hc,hf,Op.few,E.big]) ?_
  cases hf:o.few with
  |false=>
   refine WpcondZ (t:=true) rfl (WpsgZ ?_);refine WpretZ ?_;unfold fewL;rw[all_false hxi hf];rfl
  |true=>
   refine WpcondZ (t:=false) rfl (WpskipZ (ab ?_));refine WprgnZ (K:=0) (s':=⟨[(1,scr l),(2,.ref 1000 0 0 0),(5,.nI (subsN (l.take i))),(6,.nI i),(50,.bI (decide (o.k=1)))],
    [(1000,.cells hd.cs),(1777,.buf 0 2 []),(1779,.buf 0 1 []),(1780,.buf 0 7 []),(1768,.cells o.cs)],4008⟩) (λn' _=>by simp[Op.at_k'];rfl) ?_
   have hle:=subsN_le l i;have hw:IntKind.i64.wrap ((subsN (l.take i):Int)+1)=(subsN (l.take i):Int)+1:=wrap_succ (N:=l.length) (by omega) hl;have hstep:=subsN_take hxi;by_cases hk:o.k=1
   ·refine WpcondZ (t:=true) (by simp[ev,Arb.get,hk]) ?_;simp only[if_true];refine Wpr0Z (by simp[hw];rfl) ?_;refine Wpr0Z (by simp[wrap_succ hi hl];rfl) ?_;refine⟨?_,by rw[take_succ_all hxi,hg,hf];rfl⟩;rw[hstep,if_pos hk];simp[again,keepFr,get,nrm_iv,nrm_refc,nrmO,Hd.cs_nrm,scr]
   ·refine WpcondZ (t:=false) (by simp[ev,Arb.get,hk]) ?_;simp only[Bool.false_eq_true,if_false];refine WpskipZ ?_;refine Wpr0Z (by simp[wrap_succ hi hl];rfl) ?_;refine⟨?_,by rw[take_succ_all hxi,hg,hf];rfl⟩;rw[hstep,if_neg hk];simp[again,keepFr,get,nrm_iv,nrm_refc,nrmO,Hd.cs_nrm,scr]
 ·intro hg;refine ab (ab ?_);refine WprgnZ (K:=0) (λn' _=>by simp[scr];rfl) ?_;refine WpcondZ (t:=false) rfl (WpexitZ ?_);simp only[Ex.then,Ex.inBlock,if_true];refine ab ?_;rw[List.take_length]at hg;obtain⟨K,hK⟩:=p_few16 h202 hd;refine WprgnZ (K:=K) (s':=⟨[(4,.bI (fewL hd l))],[(1000,.cells hd.cs)],2280⟩) (λn' hn'=>by
   have hc:=hK n' hn';simp only[Hd.av]at hc;have e1:decide ((subsN l:Int)<=16)=decide (subsN l<=16):=decide_eq_decide.2 (by omega);have e2:decide ((l.length:Int)<=120)=decide (l.length<=120):=decide_eq_decide.2 (by omega);cases hb:hd.few<;>cases hb2:decide (subsN l<=16)<;>simp[Hd.cs_4,Hd.cs_len,Hd.cs_fzC,scr,hc,e1,e2,hb,hb2,fewL,hg]) ?_
  exact WpretZ rfl
end
def gapsF:Int->List (Int×Int)->List (Int×Int)
 |a,[]=>[(a,9223372036854775807)]
 |a,r::l=>(if a<r.1 then[(a,IntKind.wrap .i64 (r.1 - 1))] else[])++(if r.2=9223372036854775807 then[] else gapsF (IntKind.wrap .i64 (r.2+1)) l)
theorem gapsF_len:∀(l:List (Int×Int)) (a:Int),(gapsF a l).length<=l.length+1
 |[],a=>by simp[gapsF]
 |r::l,a=>by
  have:=gapsF_len l (IntKind.wrap .i64 (r.2+1));unfold gapsF;rw[List.length_append];split<;>split<;>simp<;>omega
def minI:Int:=-9223372036854775808
section
variable {prog:Nat->Option IFn}
set_option maxHeartbeats 1000000 in
theorem p_gaps (h:prog 130=some F130) (l:List (Int×Int)) (hl:l.length<=100000):Ans prog 130 [.iv (.sl 2 (l.map rng))] (.iv (.sl 2 ((gapsF minI l).map rng))):=by
 refine Ans.of h rfl rfl (WpsgZ ?_);refine WpsgZ ?_;refine ab (WpsgZ ?_);refine WpblockZ ?_;refine WploopZ (λm s1=>∃(i:Nat) (a:Int) (o:List (Int×Int)),i+m=l.length/\o.length<=i/\o++gapsF a (l.drop i)=gapsF minI l/\
  s1=⟨[(2,.own 1000 0 o.length 0),(3,.nI a),(6,.iv (.sl 2 (l.map rng))),(7,.nI l.length),(8,.nI i)],[(1000,.buf 0 2 (o.map rng))],1320⟩) (m:=l.length) ⟨0,minI,[],by omega,by simp,rfl,rfl⟩ ?_
 rintro m s1 ⟨i,a,o,him,hoi,hg,rfl⟩;refine ab ?_;by_cases hi:i<l.length
 ·obtain⟨r,hr⟩:∃r,l[i]?=some r:=⟨_,List.getElem?_eq_getElem hi⟩;have hd:l.drop i=r::l.drop (i+1):=drop_cons hr;rw[hd]at hg
  conv at hg=>lhs;rw[gapsF]
  refine Wpr0Z (by simp[hi];rfl) ?_;refine ab (WpcondZ rfl (WpskipZ (ab (WpblockZ (Wps0Z (by simp[hr,rng];rfl) ?_)))));refine ab (WpsgZ ?_);refine WpcondZ rfl ?_;cases hb:decide (a<r.1)with
  |true=>
   have hb':a<r.1:=by simpa using hb
   rw[if_pos hb']at hg;refine Wpr0Z (by
    simp[setAll,app,elems,roomy,show o.length+1<=1073741824 by omega];rfl) ?_
   refine ab (WpsgZ ?_);refine WpcondZ rfl ?_;cases hm:r.2==9223372036854775807 with
   |true=>
    have hm':r.2=9223372036854775807:=by simpa using hm
    rw[if_pos hm']at hg;refine WpsgZ ?_;refine WpretZ ?_;change FinS _ _ .ret _;rw[<-hg];simp[FinS,F130,resAll,resM,outA,ev,get,M.look,M.bind,M.run,M.ok,shut,fzA,fz1,fzC,fz,M.write,rng,List.take_of_length_le]
   |false=>
    have hm':¬r.2=9223372036854775807:=by simpa using hm
    rw[if_neg hm']at hg;refine WpskipZ ?_;refine WprgZ ?_;refine Wpr0Z (by simp[wrap_succ hi (show l.length<=maxLen by unfold maxLen;omega)];rfl) ?_;refine⟨m - 1,by omega,i+1,IntKind.wrap .i64 (r.2+1),o++[(a,IntKind.wrap .i64 (r.1 - 1))],by omega,by simp;omega,by rw[<-hg];simp,?_⟩;simp[again,keepFr,get,nrm,nrmO,rng,List.take_of_length_le]
  |false=>
   have hb':¬a<r.1:=by simpa using hb
   rw[if_neg hb']at hg;refine WpskipZ ?_;refine ab (WpsgZ ?_);refine WpcondZ rfl ?_;cases hm:r.2==9223372036854775807 with
   |true=>
    have hm':r.2=9223372036854775807:=by simpa using hm
    rw[if_pos hm']at hg;refine WpsgZ ?_;refine WpretZ ?_;change FinS _ _ .ret _;rw[<-hg];simp[FinS,F130,resAll,resM,outA,ev,get,M.look,M.bind,M.run,M.ok,shut,fzA,fz1,fzC,fz,M.write,List.take_of_length_le]
   |false=>
    have hm':¬r.2=9223372036854775807:=by simpa using hm
    rw[if_neg hm']at hg;refine WpskipZ ?_;refine WprgZ ?_;refine Wpr0Z (by simp[wrap_succ hi (show l.length<=maxLen by unfold maxLen;omega)];rfl) ?_;refine⟨m - 1,by omega,i+1,IntKind.wrap .i64 (r.2+1),o,by omega,by omega,by rw[<-hg];simp,?_⟩;simp[again,keepFr,get,nrm,nrmO]
 ·have hn:l.drop i=[]:=List.drop_eq_nil_of_le (by omega);rw[hn]at hg;refine Wpr0Z (by simp[hi];rfl) ?_;refine ab (WpcondZ rfl (WpexitZ ?_));simp only[Ex.then,Ex.inBlock,if_true];refine Wps0Z (by
    simp[setAll,app,elems,roomy,show o.length+1<=1073741824 by omega];rfl) ?_
  refine WpretZ ?_;rw[<-hg];simp[FinS,F130,resAll,resM,outA,ev,get,M.look,M.bind,M.run,M.ok,shut,fzA,fz1,fzC,fz,M.write,rng,gapsF,List.take_of_length_le]
def notS (x:S):S:=⟨!x.a,gapsF minI (normR x.i),!x.c,x.s⟩
structure Lib8 (prog:Nat->Option IFn):Prop extends Lib3 prog where
 h129:prog 129=some F129
 h130:prog 130=some F130
 h126:prog 126=some F126
set_option maxHeartbeats 2000000 in
theorem p_not (H:Lib8 prog) (x:S) (hi:x.i.length<=10000) (hs:x.s.length<=1000) (h64:in64s x.i):Ans prog 129 [x.av] (notS x).av:=by
 obtain⟨K1,hK1⟩:=r_ranges H.toLib2 H.h38 H.h37 x.i (by omega) h64;have hn:(normR x.i).length<=x.i.length:=by have:=foldR_len (isort ltR x.i) [];rw[isort_len]at this;simpa[normR]using this
 obtain⟨K2,hK2⟩:=p_gaps H.h130 (normR x.i) (by omega);refine Ans.of H.h129 rfl rfl (Wps0Z (by simp[S.av];rfl) ?_);refine WpskZ (K:=max (max K1 K2) 1) (λn hn=>by
  obtain⟨n,rfl⟩:∃n',n=n'+1:=⟨n - 1,by omega⟩;have e1:=hK1 (n+1) (by omega);have e2:=hK2 (n+1) (by omega);have hr:x.s.length<=1073741824:=by omega
  have f54:∀es,evalF prog (n+1) 54 [.iv (.sl 1 es)] []=(cloneM 1 [.iv (.sl 1 es)]).run []:=λes=>by simp only[evalF,H.h54,F54];rfl
  generalize evalF prog (n+1)=g at e1 e2 f54;simp[ocallM,takeR,f54,cloneM,roomy,hr,e1,e2];rfl) ?_
 refine WpretZ ?_;simp[FinS,F129,resAll,resM,outA,load,obRead,mk,ev,get,M.look,M.bind,M.run,Mrun_bindZ,M.ok,M.lift,shut,fzA,fz1,fzC,fz,M.mapL,S.av,notS,M.write,List.take_of_length_le]
end
theorem nrm_refU (n0:Nat) (h:Hp) (id ver i j:Nat):nrm n0 h 8 (.ref id ver i j)=if id<1000 then .ref id ver i j else if id<n0 then(match get h id with
   |some (.buf v _ _) | some (.imm v _ _)=>if v=ver then .ref id 0 i j else .undef
   |some (.cells _) | some (.map _)=>.ref id ver i j
   |none=>.undef) else .undef:=rfl
theorem nrm_ownU (n0:Nat) (h:Hp) (id o n ver:Nat):nrm n0 h 8 (.own id o n ver)=if id<1000 then .own id o n ver else if id<n0 then(match get h id with
   |some (.buf v _ _) | some (.imm v _ _)=>if v=ver then .own id o n 0 else .undef
   |_=>.undef) else .undef:=rfl
theorem gapsF_64:∀(l:List (Int×Int)) (a:Int),in64 a->in64s l->in64s (gapsF a l)
 |[],a,ha,_=>λp hp=>by
  simp only[gapsF,List.mem_singleton]at hp;subst hp;exact⟨ha,by unfold in64;omega⟩
 |r::l,a,ha,h=>λp hp=>by
  have hw:∀n,in64 (IntKind.wrap .i64 n):=λn=>by
   have:=IntKind.wrap_i64 n;unfold in64;omega
  unfold gapsF at hp;rcases List.mem_append.1 hp with hp | hp
  ·split at hp
   ·simp only[List.mem_singleton]at hp;subst hp;exact⟨ha,hw _⟩
   ·cases hp
  ·split at hp
   ·cases hp
   ·exact gapsF_64 l _ (hw _) (λq hq=>h q (List.mem_cons_of_mem _ hq)) p hp
structure S.lim (x:S) (n m:Nat):Prop where
 i:x.i.length<=n
 s:x.s.length<=m
 k:in64s x.i
theorem S.lim.mono {x:S} {n m n' m':Nat} (h:x.lim n m) (hn:n<=n') (hm:m<=m'):x.lim n' m':=⟨Nat.le_trans h.i hn,Nat.le_trans h.s hm,h.k⟩
theorem min64:in64 minI:=by unfold in64 minI;omega
theorem normR_len (l:List (Int×Int)):(normR l).length<=l.length:=by have:=foldR_len (isort ltR l) [];rw[isort_len]at this;simpa[normR]using this
theorem notS_lim {x:S} {n m:Nat} (h:x.lim n m):(notS x).lim (n+1) m:=by
 refine⟨?_,h.s,gapsF_64 _ _ min64 (normR_all h.k).2.1⟩;have h1:=gapsF_len (normR x.i) minI;have h2:=normR_len x.i;have h3:=h.i;simp only[notS];omega
theorem comp_len (l:List ByteArray):(comp l).length<=l.length:=compTo_len l _
theorem orT_len (x y:S):(orT x y).length<=x.s.length+y.s.length:=by
 unfold orT;split
 ·exact Nat.le_trans (List.length_filter_le _ _) (by omega)
 ·split
  ·exact Nat.le_trans (List.length_filter_le _ _) (by omega)
  ·split
   ·exact Nat.le_trans (List.length_filter_le _ _) (by omega)
   ·unfold joinT;have:=comp_len (isort ltT (x.s++y.s));rw[isort_len,List.length_append]at this;exact this
theorem orS_lim {x y:S} {n m n' m':Nat} (h:x.lim n m) (h':y.lim n' m'):(orS x y).lim (n+n') (m+m'):=by
 refine⟨?_,Nat.le_trans (orT_len x y) (Nat.add_le_add h.s h'.s),(normR_all λp hp=>(List.mem_append.1 hp).elim (h.k p) (h'.k p)).2.1⟩;have:=normR_len (x.i++y.i);rw[List.length_append]at this;have h1:=h.i;have h2:=h'.i;simp only[orS];omega
def andS (x y:S):S:=notS (orS (notS x) (notS y))
theorem andS_lim {x y:S} {n m n' m':Nat} (h:x.lim n m) (h':y.lim n' m'):(andS x y).lim (n+n'+3) (m+m'):=
 (notS_lim (orS_lim (notS_lim h) (notS_lim h'))).mono (by omega) (Nat.le_refl _)
def inS (x y:S):Bool:=sameS (orS x y) y
def inB (a b:B):Bool:=anyB emptyS a||(inS a.s0 b.s0&&(inS a.s1 b.s1&&(inS a.s2 b.s2&&inS a.s3 b.s3)))
theorem inB_false {a b:B} {i:Nat} (he:anyB emptyS a=false) (h:i<4) (hf:inS (a.get i) (b.get i)=false):inB a b=false:=by
 unfold inB;rw[he]
 match i,h with
 |0,_=>simp[show inS a.s0 b.s0=false from hf]
 |1,_=>simp[show inS a.s1 b.s1=false from hf]
 |2,_=>simp[show inS a.s2 b.s2=false from hf]
 |3,_=>simp[show inS a.s3 b.s3=false from hf]
theorem inB_true {a b:B} (h:∀i,i<4->inS (a.get i) (b.get i)=true):inB a b=true:=by
 have h0:inS a.s0 b.s0=true:=h 0 (by omega);have h1:inS a.s1 b.s1=true:=h 1 (by omega);have h2:inS a.s2 b.s2=true:=h 2 (by omega);have h3:inS a.s3 b.s3=true:=h 3 (by omega);simp[inB,h0,h1,h2,h3]
def B.lim (b:B) (n m:Nat):Prop:=∀i,i<4->(b.get i).lim n m
structure Lib9 (prog:Nat->Option IFn):Prop extends Lib8 prog where
 h17:prog 17=some F17
 h32:prog 32=some F32
 h33:prog 33=some F33
 h66:prog 66=some F66
 h59:prog 59=some F59
 h60:prog 60=some F60
 h67:prog 67=some F67
 h73:prog 73=some F73
 h47:prog 47=some F47
section
variable {prog:Nat->Option IFn}
set_option maxHeartbeats 2000000 in
theorem p_and (H:Lib8 prog) (x y:S) (hx:x.lim 1000 400) (hy:y.lim 1000 400):Ans prog 126 [x.av,y.av] (andS x y).av:=by
 have nx:=notS_lim hx;have ny:=notS_lim hy;have no:=orS_lim nx ny;obtain⟨K1,hK1⟩:=p_not H x (by have:=hx.i;omega) (by have:=hx.s;omega) hx.k;obtain⟨K2,hK2⟩:=p_not H y (by have:=hy.i;omega) (by have:=hy.s;omega) hy.k;obtain⟨K3,hK3⟩:=r_or H.toLib3 (notS x) (notS y) (by have:=nx.i;have:=ny.i;omega) ⟨by have:=nx.s;omega,by have:=ny.s;omega⟩ nx.k ny.k;obtain⟨K4,hK4⟩:=p_not H (orS (notS x) (notS y)) (by have:=no.i;omega) (by have:=no.s;omega) no.k;refine Ans.of H.h126 rfl rfl (Wps0Z (by simp[S.av];rfl) ?_);refine WpskZ (K:=max (max K1 K2) (max K3 K4)) (λn hn=>by
  have e1:=hK1 n (by omega);have e2:=hK2 n (by omega);have e3:=hK3 n (by omega);have e4:=hK4 n (by omega);generalize evalF prog n=g at e1 e2 e3 e4;simp only[S.av]at e1 e2 e3 e4;simp[e1,e2,e3,e4];rfl) ?_
 refine WpretZ ?_;simp[FinS,F126,resAll,resM,outA,load,obRead,mk,ev,get,M.look,M.bind,M.run,Mrun_bindZ,M.ok,M.lift,shut,fzA,fz1,fzC,fz,M.mapL,S.av,andS]
theorem p_inS' (H:Lib9 prog) (x y:S) (hx:x.lim 1000 400) (hy:y.lim 1000 400):Ans prog 73 [x.av,y.av] (.bI (inS x y)):=by
 have no:=orS_lim hx hy;obtain⟨K1,hK1⟩:=r_or H.toLib3 x y (by have:=hx.i;have:=hy.i;omega) ⟨by have:=hx.s;omega,by have:=hy.s;omega⟩ hx.k hy.k;obtain⟨K2,hK2⟩:=p_sameS H.h32 H.h33 H.h17 (orS x y) y (by have:=no.i;unfold maxLen;omega) (by have:=no.s;unfold maxLen;omega);refine Ans.of H.h73 rfl rfl (Wps0Z (by simp[S.av];rfl) ?_);refine WpskZ (K:=max K1 K2) (λn hn=>by
  have e1:=hK1 n (by omega);have e2:=hK2 n (by omega);generalize evalF prog n=g at e1 e2;simp only[S.av]at e1 e2;simp[e1,e2];rfl) ?_
 exact WpretZ rfl
set_option maxHeartbeats 1000000 in
theorem p_inB' (H:Lib9 prog) (a b:B) (ha:a.lim 1000 400) (hb:b.lim 1000 400):Ans prog 67 [a.av,b.av] (.bI (inB a b)):=by
 obtain⟨K0,hK0⟩:=p_emptyB H.h66 H.h59 a;refine Ans.of H.h67 rfl rfl (Wps0Z (by simp[B.av,B.cs_nilc];rfl) ?_);refine ab (WpskZ (K:=K0) (λn hn=>by
  have e1:=hK0 n (by omega);simp only[B.av]at e1;simp[B.cs_16,B.cs_len,B.cs_fzC,e1];rfl) ?_)
 refine WpcondZ rfl ?_;cases he:anyB emptyS a with
 |true=>
  refine WpsgZ ?_;refine WpretZ ?_;have:inB a b=true:=by unfold inB;rw[he];rfl
  rw[this];rfl
 |false=>
  refine WpskipZ (ab (WpsgZ ?_));refine WpblockZ ?_;refine WprangeZ 4 (λi=>⟨[(2,.ref 1000 0 0 0),(3,.ref 1064 0 0 0),(8,.nI i)],[(1000,.cells a.cs),(1064,.cells b.cs)],1384⟩) (λi=>∀j,j<i->inS (a.get j) (b.get j)=true) (by simp[keepFr,get]) (λj hj=>by omega) ?_ ?_
  ·intro i hi hall;have hi4:(i:Int)<4:=by omega
   obtain⟨K,hK⟩:=p_inS' H (a.get i) (b.get i) (ha i hi) (hb i hi);refine Wps0Z (by simp[hi4,hi];rfl) ?_;refine ab (WpcondZ rfl (WpskipZ (ab (WpblockZ (WpsgZ ?_)))));refine WpskZ (K:=K) (λn hn=>by
    have e1:=hK n (by omega);simp only[S.av]at e1;simp[hi4,hi,B.cs_at a hi,B.cs_at b hi,B.cs_len,e1];rfl) ?_
   refine WpcondZ rfl ?_;cases hin:inS (a.get i) (b.get i)with
   |false=>
    simp only[Bool.not_false,if_true];refine WpsgZ ?_;refine WpretZ ?_;rw[inB_false he hi hin];rfl
   |true=>
    refine WpskipZ ?_;simp only[Ex.then,Ex.inBlock];refine Wpr0Z (by simp[wrap_lt4 hi];rfl) ?_;refine⟨by simp[again,keepFr,get,nrm_iv,nrm_refU,nrm_ownU,nrmO,B.cs_nrm],λj hj=>?_⟩;by_cases h:j=i
    ·subst h;exact hin
    ·exact hall j (by omega)
  ·intro hall;refine WpsgZ ?_;refine ab (WpcondZ rfl (WpexitZ ?_));simp only[Ex.then,Ex.inBlock,if_true];refine WpsgZ ?_;refine WpretZ ?_;rw[inB_true hall];rfl
end
def hidesB (a b:B) (t:Bool):Bool:=inB a b&&(t||!inB b a)
def needl (l:List B) (b:B) (i:Nat):Nat->Bool
 |0=>false
 |k+1=>needl l b i k||(k != i&&(match l[k]? with | some c=>hidesB b c (decide (k<i)) | none=>false))
def tidyTo (l:List B):Nat->List B
 |0=>[]
 |i+1=>tidyTo l i++(match l[i]? with | some b=>if anyB emptyS b||needl l b i l.length then[] else[b] | none=>[])
def tidyF (l:List B):List B:=tidyTo l l.length
theorem tidyTo_succ {l:List B} {i:Nat} {b:B} (h:l[i]?=some b):tidyTo l (i+1)=tidyTo l i++(if anyB emptyS b||needl l b i l.length then[] else[b]):=by
 simp only[tidyTo,h]
theorem needl_succ {l:List B} {b c:B} {i k:Nat} (h:l[k]?=some c):needl l b i (k+1)=(needl l b i k||(k != i&&hidesB b c (decide (k<i)))):=by
 simp only[needl,h]
theorem tidyTo_len (l:List B):∀i,(tidyTo l i).length<=i
 |0=>by simp[tidyTo]
 |i+1=>by
  have:=tidyTo_len l i;unfold tidyTo;split<;>(try split)<;>simp<;>omega
theorem tidyTo_mem {l:List B}:∀{i:Nat} {b:B},b ∈ tidyTo l i->b ∈ l
 |0,b,h=>by simp[tidyTo]at h
 |i+1,b,h=>by
  unfold tidyTo at h;rcases List.mem_append.1 h with h | h
  ·exact tidyTo_mem h
  ·split at h
   ·rename_i c hc;split at h
    ·cases h
    ·simp only[List.mem_singleton]at h;subst h;exact List.mem_of_getElem? hc
   ·cases h
section
variable {prog:Nat->Option IFn}
set_option maxHeartbeats 1000000 in
theorem p_hides (H:Lib9 prog) (a b:B) (t:Bool) (ha:a.lim 1000 400) (hb:b.lim 1000 400):Ans prog 60 [.iv (.ptr a.enc),.iv (.ptr b.enc),.bI t] (.bI (hidesB a b t)):=by
 obtain⟨K1,hK1⟩:=p_inB' H a b ha hb;obtain⟨K2,hK2⟩:=p_inB' H b a hb ha;refine Ans.of H.h60 rfl rfl (WpsgZ ?_);refine ab ?_;refine WprgnZ (K:=max K1 K2) (s':=⟨[(6,.bI (hidesB a b t))],[],2408⟩) (λn hn=>rgn_quiet' rfl (by
  have e1:=hK1 n (by omega);have e2:=hK2 n (by omega);simp only[B.av]at e1 e2;unfold hidesB;cases h1:inB a b<;>cases t<;>simp[B.enc_take,B.enc_len,B.enc_cs,B.cs_fzC,e1,e2,h1])) ?_
 exact WpretZ rfl
set_option maxHeartbeats 4000000 in
theorem p_tidy (H:Lib9 prog) (l:List B) (hl:l.length<=10000) (hL:∀b ∈ l,b.lim 1000 400):Ans prog 47 [filt l] (filt (tidyF l)):=by
 have hlm:l.length<=maxLen:=by unfold maxLen;omega
 refine Ans.of H.h47 rfl rfl (WpsgZ ?_);refine ab (Wps0Z (by simp[filt];rfl) ?_);refine WpblockZ ?_;refine WprangeZ l.length (λi=>⟨[(0,filt l),(2,.own 1000 0 (tidyTo l i).length 0),(7,.nI l.length),(8,.nI i)],[(1000,.buf 0 16 ((tidyTo l i).map B.enc))],1256⟩) (λ_=>True) (by simp[keepFr,get,filt,tidyTo]) trivial ?_ ?_
 ·intro i hi _;obtain⟨b,hb⟩:∃b,l[i]?=some b:=⟨_,List.getElem?_eq_getElem hi⟩;have hbl:=hL b (List.mem_of_getElem? hb);have hlen:=tidyTo_len l i;have hnext:tidyTo l (i+1)=tidyTo l i++(if anyB emptyS b||needl l b i l.length then[] else[b]):=tidyTo_succ hb;generalize hacc:tidyTo l i=acc at hlen hnext;obtain⟨K,hK⟩:=p_emptyB H.h66 H.h59 b;refine Wps0Z (by simp[hi];rfl) ?_;refine ab (WpcondZ rfl (WpskipZ (ab (WpblockZ (WpsgZ ?_)))));refine ab (WpskZ (K:=K) (s':=⟨[(0,filt l),(2,.own 1000 0 acc.length 0),(3,.nI i),(7,.nI l.length),(8,.nI i),(15,.bI (anyB emptyS b))],[(1000,.buf 0 16 (acc.map B.enc))],1768⟩) (λn hn=>by
   have hc:=hK n hn;simp only[B.av]at hc;simp[filt,hb,B.enc_take,B.enc_len,B.enc_cs,B.cs_fzC,hc]) ?_)
  refine WpcondZ rfl ?_;cases he:anyB emptyS b with
  |true=>
   rw[he]at hnext;refine WpexitZ ?_;simp only[Ex.then,Ex.inBlock,if_true];refine WprgZ ?_;refine⟨?_,trivial⟩;rw[hnext];simp[again,keepFr,get,nrm,nrmO,filt,wrap_succ hi hlm]
  |false=>
   rw[he]at hnext;refine WpskipZ (WpsgZ ?_);refine ab (Wps0Z (by simp[filt];rfl) ?_);refine WpblockZ ?_;refine WprangeZ l.length (λk=>⟨[(0,filt l),(2,.own 1000 0 acc.length 0),(3,.nI i),(4,.bI (needl l b i k)),(7,.nI l.length),(8,.nI i),(17,.nI l.length),(18,.nI k)],[(1000,.buf 0 16 (acc.map B.enc))],2024⟩)
    (λ_=>True) (by simp[keepFr,get,filt,needl]) trivial ?_ ?_
   ·intro k hk _;obtain⟨c,hc⟩:∃c,l[k]?=some c:=⟨_,List.getElem?_eq_getElem hk⟩;have hn:needl l b i (k+1)=(needl l b i k||(k != i&&hidesB b c (decide (k<i)))):=needl_succ hc;obtain⟨K,hK⟩:=p_hides H b c (decide (k<i)) hbl (hL c (List.mem_of_getElem? hc));generalize hq:needl l b i k=q at hn;refine Wps0Z (by simp[hk];rfl) ?_;refine ab (WpcondZ rfl (WpskipZ (ab (WpblockZ (WpsgZ ?_)))));refine WprgnZ (K:=K) (s':=⟨[(0,filt l),(2,.own 1000 0 acc.length 0),(3,.nI i),(4,.bI (needl l b i (k+1))),(7,.nI l.length),(8,.nI i),(17,.nI l.length),(18,.nI k)],[(1000,.buf 0 16 (acc.map B.enc))],3432⟩)
     (λn hn'=>rgn_quiet' rfl (by
      have e:=hK n hn';rw[hn];have hki:decide ((k:Int)<(i:Int))=decide (k<i):=decide_eq_decide.2 (by omega);have hne:((k:Int) != (i:Int))=(k != i):=by
       by_cases h:k=i
       ·subst h;simp
       ·have h1:(k:Int)≠i:=by omega
        rw[bne_iff_ne.2 h1,bne_iff_ne.2 h]
      cases q with
      |true=>simp
      |false=>cases h1:k != i<;>simp[filt,hb,hc,hki,hne,h1,e])) ?_
    simp only[Ex.then,Ex.inBlock];refine Wpr0Z (by simp[wrap_succ hk hlm];rfl) ?_;exact⟨by simp[again,keepFr,get,nrm,nrmO,filt],trivial⟩
   ·intro _;refine WpsgZ ?_;refine ab (WpcondZ rfl (WpexitZ ?_));simp only[Ex.then,Ex.inBlock,if_true];refine WpsgZ ?_;refine WpcondZ rfl ?_;cases hn:needl l b i l.length with
    |true=>
     rw[hn]at hnext;simp only[Bool.not_true,Bool.false_eq_true,if_false];refine WpskipZ ?_;simp only[Ex.then,Ex.inBlock];refine WprgZ ?_;refine⟨?_,trivial⟩;rw[hnext];simp[again,keepFr,get,nrm,nrmO,filt,wrap_succ hi hlm]
    |false=>
     rw[hn]at hnext;simp only[Bool.not_false,if_true];refine Wpr0Z (by
      simp[-fzC, -fz,filt,hb,B.enc_take,B.enc_len,B.enc_cs,B.cs_len,B.cs_fz,setAll,app,elems,roomy,show acc.length+1<=1073741824 by omega];rfl) ?_
     simp only[Ex.then,Ex.inBlock];refine WprgZ ?_;refine⟨?_,trivial⟩;rw[hnext];simp[again,keepFr,get,nrm,nrmO,filt,wrap_succ hi hlm,List.take_of_length_le]
 ·intro _;refine WpsgZ ?_;refine ab (WpcondZ rfl (WpexitZ ?_));simp only[Ex.then,Ex.inBlock,if_true];refine WpsgZ ?_;refine WpretZ ?_;simp[FinS,F47,resAll,resM,outA,ev,get,M.look,M.bind,M.run,M.ok,shut,fzA,fz1,fzC,fz,M.write,filt,tidyF];exact List.take_of_length_le (by simp)
end
def andB (x y:B):B:=⟨andS x.s0 y.s0,andS x.s1 y.s1,andS x.s2 y.s2,andS x.s3 y.s3⟩
theorem andB_lim {x y:B} {n m n' m':Nat} (h:x.lim n m) (h':y.lim n' m'):(andB x y).lim (n+n'+3) (m+m'):=by
 intro i hi
 match i,hi with
 |0,_=>exact andS_lim (h 0 (by omega)) (h' 0 (by omega))
 |1,_=>exact andS_lim (h 1 (by omega)) (h' 1 (by omega))
 |2,_=>exact andS_lim (h 2 (by omega)) (h' 2 (by omega))
 |3,_=>exact andS_lim (h 3 (by omega)) (h' 3 (by omega))
def prodRow (x:B) (l:List B):List B:=(l.map (andB x)).filter λc=>!anyB emptyS c
def prodF (a b:List B):List B:=a.flatMap λx=>prodRow x b
theorem prodRow_len (x:B) (l:List B):(prodRow x l).length<=l.length:=by
 have:=List.length_filter_le (λc=>!anyB emptyS c) (l.map (andB x));rw[List.length_map]at this;exact this
theorem prodF_len (b:List B):∀a:List B,(prodF a b).length<=a.length*b.length
 |[]=>by simp[prodF]
 |x::a=>by
  have h1:=prodF_len b a;have h2:=prodRow_len x b;simp only[prodF,List.flatMap_cons,List.length_append,List.length_cons,Nat.succ_mul]at *;omega
def allS:S:=⟨true,[(-9223372036854775808,9223372036854775807)],true,[]⟩
def allBx:B:=⟨allS,allS,allS,allS⟩
def zeroCs (s:Nat):List AV:=[.iv (.bool false),.own (s+2) 0 0 0,.iv (.bool false),.own (s+4) 0 0 0,.iv (.bool false),.own (s+6) 0 0 0,.iv (.bool false),.own (s+8) 0 0 0,
 .iv (.bool false),.own (s+10) 0 0 0,.iv (.bool false),.own (s+12) 0 0 0,.iv (.bool false),.own (s+14) 0 0 0,.iv (.bool false),.own (s+16) 0 0 0]
def andHp (x y:B) (cs:List AV):Hp:=[(1000,.cells x.cs),(1064,.cells y.cs),(1130,.buf 0 2 []),(1132,.buf 0 1 []),(1134,.buf 0 2 []),(1136,.buf 0 1 []),(1138,.buf 0 2 []),(1140,.buf 0 1 []),(1142,.buf 0 2 []),(1144,.buf 0 1 []),(1128,.cells cs)]
section
variable {prog:Nat->Option IFn}
set_option maxHeartbeats 4000000 in
theorem p_boxAnd (H:Lib8 prog) (h:prog 115=some F115) (x y:B) (hx:x.lim 1000 400) (hy:y.lim 1000 400):Ans prog 115 [x.av,y.av] (andB x y).av:=by
 refine Ans.of h rfl rfl (Wps0Z (s':=⟨[(2,.ref 1000 0 0 0),(3,.ref 1064 0 0 0),(4,.ref 1128 0 0 0)],andHp x y (zeroCs 1128),1192⟩) (by simp[B.av,B.cs_nilc,andHp,zeroCs]) ?_);refine ab (WpsgZ ?_);refine WpblockZ ?_;refine WprangeZ 4 (λi=>⟨[(2,.ref 1000 0 0 0),(3,.ref 1064 0 0 0),(4,.ref 1128 0 0 0),(6,.nI i)],andHp x y ((andB x y).cs.take (i*4)++(zeroCs 1128).drop (i*4)),1256⟩) (λ_=>True) (by simp[keepFr,get]) trivial ?_ ?_
 ·intro i hi _;have hi4:(i:Int)<4:=by omega
  obtain⟨K,hK⟩:=p_and H (x.get i) (y.get i) (hx i hi) (hy i hi);refine Wps0Z (by simp[hi4,hi];rfl) ?_;refine ab (WpcondZ rfl (WpskipZ (ab (WpblockZ (WpsgZ ?_)))));refine WprgnZ (K:=K) (s':=⟨[(2,.ref 1000 0 0 0),(3,.ref 1064 0 0 0),(4,.ref 1128 0 0 0),(6,.nI i)],andHp x y ((andB x y).cs.take ((i+1)*4)++(zeroCs 1128).drop ((i+1)*4)),2088⟩) (λn hn=>by
   have e1:=hK n (by omega);generalize evalF prog n=g at e1;have hxa:=B.cs_at x hi;have hya:=B.cs_at y hi;have hz:splice ((andB x y).cs.take (i*4)++(zeroCs 1128).drop (i*4)) (i*4) [.iv (.bool (andS (x.get i) (y.get i)).a),.iv (.sl 2 ((andS (x.get i) (y.get i)).i.map rng)),.iv (.bool (andS (x.get i) (y.get i)).c),.iv (.sl 1 ((andS (x.get i) (y.get i)).s.map st1))] =
     (andB x y).cs.take ((i+1)*4)++(zeroCs 1128).drop ((i+1)*4):=by
    match i,hi with
    |0,_=>rfl
    |1,_=>rfl
    |2,_=>rfl
    |3,_=>rfl
   have hzl:((andB x y).cs.take (i*4)++(zeroCs 1128).drop (i*4)).length=16:=by
    match i,hi with
    |0,_=>rfl
    |1,_=>rfl
    |2,_=>rfl
    |3,_=>rfl
   simp only[S.av]at e1;have hm:i*4+4<=16:=by omega
   generalize(andB x y).cs.take (i*4)++(zeroCs 1128).drop (i*4)=zs at hz hzl;simp[-fzC, -fz,andHp,hi4,hi,hxa,hya,B.cs_len,fzC,fz,e1,hzl,hm];simpa[splice]using hz) ?_
  simp only[Ex.then,Ex.inBlock];refine Wpr0Z (by simp[wrap_lt4 hi];rfl) ?_;refine⟨?_,trivial⟩
  match i,hi with
  |0,_=>simp[again,keepFr,get,nrm_iv,nrm_refU,nrm_ownU,nrmO,andHp,B.cs_nrm,zeroCs,B.cs,B.enc,S.enc]
  |1,_=>simp[again,keepFr,get,nrm_iv,nrm_refU,nrm_ownU,nrmO,andHp,B.cs_nrm,zeroCs,B.cs,B.enc,S.enc]
  |2,_=>simp[again,keepFr,get,nrm_iv,nrm_refU,nrm_ownU,nrmO,andHp,B.cs_nrm,zeroCs,B.cs,B.enc,S.enc]
  |3,_=>simp[again,keepFr,get,nrm_iv,nrm_refU,nrm_ownU,nrmO,andHp,B.cs_nrm,zeroCs,B.cs,B.enc,S.enc]
 ·intro _;refine WpsgZ ?_;refine ab (WpcondZ rfl (WpexitZ ?_));simp only[Ex.then,Ex.inBlock,if_true];refine ab ?_;have h16:(andB x y).cs.take (4*4)++(zeroCs 1128).drop (4*4)=(andB x y).cs:=rfl;rw[h16];refine WprgnZ (K:=0) (s':=⟨[(4,.ref 1128 0 0 0)],andHp x y (andB x y).cs,1448⟩) (λn _=>by
   have hp:splice (andB x y).cs 0 (andB x y).cs=(andB x y).cs:=B.put_all _ _ (B.cs_len _);simp[-fzC, -fz, -splice,andHp,B.cs_16,B.cs_len,B.cs_nilc,hp]) ?_
  refine WpretZ ?_;simp[FinS,F115,resAll,resM,outA,load,obRead,mk,ev,get,M.look,M.bind,M.run,Mrun_bindZ,M.ok,M.lift,shut,fzA,fz1,B.cs_16,B.cs_len,B.cs_fzC,B.av,andHp]
set_option maxHeartbeats 1000000 in
theorem p_atom (hA:Ans prog 42 [] allBx.av) (h19:prog 19=some F19) (h:prog 26=some F26) (x:S) {i:Nat} (hi:i<4):Ans prog 26 [.nI i,x.av] (allBx.put i x).av:=by
 obtain⟨K1,hK1⟩:=hA;obtain⟨K2,hK2⟩:=p_with h19 allBx x hi;refine Ans.of h rfl rfl (Wps0Z (by simp[S.av];rfl) ?_);refine WpskZ (K:=max K1 K2) (λn hn=>by
  have e1:=hK1 n (by omega);have e2:=hK2 n (by omega);generalize evalF prog n=g at e1 e2;simp only[S.av,B.av]at e1 e2;have hp:splice (zeroCs 1064) 0 (allBx.put i x).cs=(allBx.put i x).cs:=B.put_all _ _ rfl;simp only[zeroCs]at hp;simp[-fzC, -fz,B.cs_fzC,fzC,fz,e1,e2,B.cs_len,B.cs_nilc,hp];rfl) ?_
 refine WpretZ ?_;simp[FinS,F26,resAll,resM,outA,load,obRead,mk,ev,get,M.look,M.bind,M.run,Mrun_bindZ,M.ok,M.lift,shut,fzA,fz1,B.cs_16,B.cs_len,B.cs_fzC,B.av]
end
def rowsHp (s:Nat):Hp:=[(s+2,.buf 0 2 []),(s+4,.buf 0 1 []),(s+6,.buf 0 2 []),(s+8,.buf 0 1 []),(s+10,.buf 0 2 []),(s+12,.buf 0 1 []),(s+14,.buf 0 2 []),(s+16,.buf 0 1 [])]
def prodHp (o:List B) (x:B):Hp:=[(1000,.buf 0 16 (o.map B.enc)),(1450,.buf 0 2 []),(1452,.buf 0 1 []),(1454,.buf 0 2 []),(1456,.buf 0 1 []),(1458,.buf 0 2 []),(1460,.buf 0 1 []),(1462,.buf 0 2 []),(1464,.buf 0 1 []),(1448,.cells x.cs)]
section
variable {prog:Nat->Option IFn}
set_option maxHeartbeats 1000000 in
theorem p_product (H:Lib9 prog) (h115:prog 115=some F115) (h:prog 121=some F121) (a b:List B) (la:a.length<=1000) (lb:b.length<=1000) (ha:∀x ∈ a,x.lim 1000 400) (hb:∀x ∈ b,x.lim 1000 400) :
  Ans prog 121 [filt a,filt b] (filt (prodF a b)):=by
 have lam:a.length<=maxLen:=by unfold maxLen;omega
 have lbm:b.length<=maxLen:=by unfold maxLen;omega
 refine Ans.of h rfl rfl (WpsgZ ?_);refine ab (Wps0Z (by simp[filt];rfl) ?_);refine WpblockZ ?_;refine WprangeZ a.length (λi=>⟨[(1,filt b),(4,.own 1000 0 (prodF (a.take i) b).length 0),(10,filt a),(11,.nI a.length),(12,.nI i)],[(1000,.buf 0 16 ((prodF (a.take i) b).map B.enc))],1256⟩) (λ_=>True) (by simp[keepFr,get,filt,prodF]) trivial ?_ ?_
 ·intro i hi _;obtain⟨x,hx⟩:∃x,a[i]?=some x:=⟨_,List.getElem?_eq_getElem hi⟩;have hxl:=ha x (List.mem_of_getElem? hx);have hnext:prodF (a.take (i+1)) b=prodF (a.take i) b++prodRow x b:=by
   rw[List.take_add_one,hx];simp[prodF]
  have hacl:(prodF (a.take i) b).length<=1000000:=by
   have h1:=prodF_len b (a.take i);have h2:(a.take i).length<=1000:=by rw[List.length_take];omega
   exact Nat.le_trans h1 (Nat.le_trans (Nat.mul_le_mul h2 lb) (by omega))
  generalize hacc:prodF (a.take i) b=acc at hnext hacl;refine Wps0Z (by simp[hi];rfl) ?_;refine ab (WpcondZ rfl (WpskipZ (ab (WpblockZ (Wps0Z (s':=⟨[(1,filt b),(4,.own 1000 0 acc.length 0),(6,.ref 1448 0 0 0),(10,filt a),(11,.nI a.length),(12,.nI i)],prodHp acc x,1576⟩) (by
   simp[-fzC, -fz, -splice,filt,hx,B.enc_take,B.enc_len,B.enc_cs,B.cs_len,B.cs_nilc,B.put_all,prodHp]) ?_)))))
  refine Wps0Z (by simp[filt];rfl) ?_;refine WpblockZ ?_;refine WprangeZ b.length (λk=>⟨[(1,filt b),(4,.own 1000 0 (acc++prodRow x (b.take k)).length 0),(6,.ref 1448 0 0 0),(10,filt a),(11,.nI a.length),(12,.nI i),(16,filt b),(17,.nI b.length),(18,.nI k)],
   prodHp (acc++prodRow x (b.take k)) x,1768⟩) (λ_=>True) (by simp[keepFr,get,filt,prodRow]) trivial ?_ ?_
  ·intro k hk _;obtain⟨y,hy⟩:∃y,b[k]?=some y:=⟨_,List.getElem?_eq_getElem hk⟩;have hyl:=hb y (List.mem_of_getElem? hy);obtain⟨K1,hK1⟩:=p_boxAnd H.toLib8 h115 x y hxl hyl;obtain⟨K2,hK2⟩:=p_emptyB H.h66 H.h59 (andB x y);have hn:prodRow x (b.take (k+1))=prodRow x (b.take k)++if anyB emptyS (andB x y) then[] else[andB x y]:=by
    rw[List.take_add_one,hy];cases h:anyB emptyS (andB x y)<;>simp[prodRow,h]
   have hrl:(acc++prodRow x (b.take k)).length<=1001000:=by
    have:=prodRow_len x (b.take k);rw[List.length_append];rw[List.length_take]at this;omega
   rw[hn,<-List.append_assoc];generalize acc++prodRow x (b.take k)=ac at hrl;clear hn;generalize andB x y=z at hK1 hK2;refine Wps0Z (by simp[hk,prodHp];rfl) ?_;refine ab (WpcondZ rfl (WpskipZ (ab (WpblockZ (Wps0Z (s':=⟨[(1,filt b),(4,.own 1000 0 ac.length 0),(6,.ref 1448 0 0 0),(8,.ref 1960 0 0 0),(10,filt a),(11,.nI a.length),(12,.nI i),(16,filt b),(17,.nI b.length),(18,.nI k)],
    prodHp ac x++rowsHp 1960++[(1960,.cells y.cs)],2088⟩) (by
    simp[-fzC, -fz, -splice,filt,hy,B.enc_take,B.enc_len,B.enc_cs,B.cs_len,B.cs_nilc,B.put_all,prodHp,rowsHp]) ?_)))))
   refine ab ?_;refine WprgnZ (K:=K1) (s':=⟨[(1,filt b),(4,.own 1000 0 ac.length 0),(6,.ref 1448 0 0 0),(9,.ref 2280 0 0 0),(10,filt a),(11,.nI a.length),(12,.nI i),(16,filt b),(17,.nI b.length),(18,.nI k)],
    prodHp ac x++rowsHp 1960++[(1960,.cells y.cs)]++rowsHp 2280++[(2280,.cells z.cs)],2408⟩) (λn hn'=>by
    have e:=hK1 n hn';generalize evalF prog n=g at e;simp only[B.av]at e;simp[-fzC, -fz, -splice,fz1,B.cs_16,B.cs_fzC,B.cs_len,B.cs_nilc,B.put_all,prodHp,rowsHp,e]) ?_
   refine ab ?_;refine WprgnZ (K:=K2) (s':=⟨[(1,filt b),(4,.own 1000 0 ac.length 0),(6,.ref 1448 0 0 0),(9,.ref 2280 0 0 0),(10,filt a),(11,.nI a.length),(12,.nI i),(16,filt b),(17,.nI b.length),(18,.nI k),(27,.bI (!anyB emptyS z))],
    prodHp ac x++rowsHp 1960++[(1960,.cells y.cs)]++rowsHp 2280++[(2280,.cells z.cs)],2600⟩) (λn hn'=>by
    have e:=hK2 n hn';generalize evalF prog n=g at e;simp only[B.av]at e;simp[-fzC, -fz, -splice,fz1,B.cs_16,B.cs_fzC,B.cs_len,prodHp,rowsHp,e]) ?_
   refine WpcondZ rfl ?_;cases he:anyB emptyS z with
   |true=>
    refine WpskipZ ?_;simp only[Ex.then,Ex.inBlock];refine Wpr0Z (by simp[wrap_succ hk lbm,prodHp,rowsHp];rfl) ?_;refine⟨?_,trivial⟩;simp[again,keepFr,get,nrm_iv,nrm_refU,nrm_ownU,nrmO,filt,prodHp,rowsHp,B.cs_nrm]
   |false=>
    refine Wpr0Z (by
     simp[-fzC, -fz,prodHp,rowsHp,filt,B.cs_16,B.enc_cs,B.cs_len,B.cs_fz,setAll,app,elems,roomy,show ac.length+1<=1073741824 by omega];rfl) ?_
    simp only[Ex.then,Ex.inBlock];refine Wpr0Z (by simp[wrap_succ hk lbm];rfl) ?_;refine⟨?_,trivial⟩;simp[again,keepFr,get,nrm_iv,nrm_refU,nrm_ownU,nrmO,filt,prodHp,B.cs_nrm,List.take_of_length_le]
  ·intro _;refine Wps0Z (by simp[prodHp];rfl) ?_;refine ab (WpcondZ rfl (WpexitZ ?_));simp only[Ex.then,Ex.inBlock,if_true];refine Wpr0Z (by simp[wrap_succ hi lam];rfl) ?_;refine⟨?_,trivial⟩;rw[hnext];simp[again,keepFr,get,nrm_iv,nrm_refU,nrm_ownU,nrmO,filt,B.cs_nrm]
 ·intro _;refine WpsgZ ?_;refine ab (WpcondZ rfl (WpexitZ ?_));simp only[Ex.then,Ex.inBlock,if_true];refine WpsgZ ?_;refine WpretZ ?_;simp[FinS,F121,resAll,resM,outA,ev,get,M.look,M.bind,M.run,M.ok,shut,fzA,fz1,fzC,fz,M.write,filt];exact List.take_of_length_le (by simp)
end
def rsB (b:B):Bool:=allB rightS b&&allB smallS b
def rightF (l:List B):Bool:=decide (l.length<=4)&&(l.all rsB&&(tidyF l).length==l.length)
section
variable {prog:Nat->Option IFn}
set_option maxHeartbeats 1000000 in
theorem p_rightF (H:Lib9 prog) (h24:prog 24=some F24) (h46:prog 46=some F46) (h58:prog 58=some F58) (h45:prog 45=some F45) (h:prog 30=some F30) (l:List B) (hl:l.length<=10000) (hL:∀b ∈ l,b.lim 1000 400) :
  Ans prog 30 [filt l] (.bI (rightF l)):=by
 have hlm:l.length<=maxLen:=by unfold maxLen;omega
 refine Ans.of h rfl rfl (WpsgZ ?_);refine ab (Wps0Z (by simp[filt];rfl) ?_);refine WpcondZ rfl ?_;by_cases h4:l.length<=4
 ·have h4':decide ((4:Int)<(l.length:Int))=false:=decide_eq_false (by omega);rw[h4'];refine WpskipZ (ab (Wps0Z (by simp[filt];rfl) ?_));refine WpblockZ ?_;refine WprangeZ l.length (λi=>⟨[(0,filt l),(8,filt l),(9,.nI l.length),(10,.nI i)],[],1448⟩) (λi=>(l.take i).all rsB=true) (by simp[keepFr,get,filt]) (by simp) ?_ ?_
  ·intro i hi hall;obtain⟨b,hb⟩:∃b,l[i]?=some b:=⟨_,List.getElem?_eq_getElem hi⟩;have hbl:=hL b (List.mem_of_getElem? hb);obtain⟨K1,hK1⟩:=p_rightB rightS (λx h1 h2=>p_rightS h58 x h1 h2) h45 b (λj hj=>⟨by have:=(hbl j hj).i;unfold maxLen;omega,by have:=(hbl j hj).s;unfold maxLen;omega⟩);obtain⟨K2,hK2⟩:=p_smallB h24 h46 b;refine Wps0Z (by simp[hi];rfl) ?_;refine ab (WpcondZ rfl (WpskipZ (ab (WpblockZ (Wps0Z (by
    simp[-fzC, -fz,filt,hb,B.enc_take,B.enc_len,B.enc_cs,B.cs_len,B.cs_nilc];rfl) ?_)))))
   refine WpskZ (K:=max K1 K2) (s':=⟨[(0,filt l),(8,filt l),(9,.nI l.length),(10,.nI i),(21,.bI (!(allB rightS b&&allB smallS b)))],_,_⟩) (λn hn=>by
    have e1:=hK1 n (by omega);have e2:=hK2 n (by omega);simp only[B.av]at e1 e2;cases hb:allB rightS b<;>rw[hb]at e1<;>simp[filt,B.cs_16,B.cs_len,B.cs_fzC,e1,e2]
    all_goals exact⟨rfl,rfl⟩) ?_
   refine WpcondZ rfl ?_;cases hrb:allB rightS b&&allB smallS b with
   |false=>
    refine WpsgZ ?_;refine WpretZ ?_;have:rightF l=false:=by
     unfold rightF;rw[all_false hb (show rsB b=false from hrb)];simp
    rw[this];rfl
   |true=>
    refine WpskipZ ?_;simp only[Ex.then,Ex.inBlock];refine Wpr0Z (by simp[wrap_succ hi hlm];rfl) ?_;exact⟨by simp[again,keepFr,get,nrm,nrmO,filt],by rw[take_succ_all hb,hall];exact hrb⟩
  ·intro hall;rw[List.take_length]at hall;obtain⟨K3,hK3⟩:=p_tidy H l hl hL;refine WpsgZ ?_;refine ab (WpcondZ rfl (WpexitZ ?_));simp only[Ex.then,Ex.inBlock,if_true];refine WpskZ (K:=K3) (s':=⟨[(2,.bI (rightF l))],[],_⟩) (λn hn=>by
    have e3:=hK3 n hn;simp only[filt]at e3;have e4:rightF l=(((tidyF l).length:Int)==(l.length:Int)):=by
     unfold rightF;rw[hall,decide_eq_true h4];simp only[Bool.true_and];by_cases h:(tidyF l).length=l.length
     ·rw[h];simp
     ·have:¬((tidyF l).length:Int)=(l.length:Int):=by omega
      rw[beq_eq_false_iff_ne.2 h,beq_eq_false_iff_ne.2 this]
    rw[e4];generalize tidyF l=t at e3;simp[filt,e3];rfl) ?_
   exact WpretZ rfl
 ·have h4':decide ((4:Int)<(l.length:Int))=true:=decide_eq_true (by omega);rw[h4'];refine WpsgZ ?_;refine WpretZ ?_;have:rightF l=false:=by unfold rightF;rw[decide_eq_false h4];rfl
  rw[this];rfl
end
section
variable {prog:Nat->Option IFn}
theorem x_rightV (h:prog 138=some F138) (v:V):Ans prog 138 [v.av] (.bI (rightV v)):=by
 refine Ans.of h rfl rfl (Wps0Z (by simp[V.av];rfl) ?_);refine ab (WpsgZ ?_);refine WpblockZ (WpsgZ ?_);refine WpcondZ rfl ?_;unfold rightV;cases h0:v.k==0 with
 |true=>
  refine Wps0Z (s':=⟨[(2,.bI (v.n==0&&v.s==⟨#[]⟩))],_,_⟩) (by
   simp[h0];exact⟨rfl,rfl⟩) ?_
  exact WpretZ rfl
 |false=>
  simp only[Bool.false_eq_true,if_false];refine WpsgZ ?_;refine WpcondZ rfl ?_;cases h1:v.k==1 with
  |true=>
   refine WpsgZ ?_;exact WpretZ rfl
  |false=>
   simp only[Bool.false_eq_true,if_false];refine WpsgZ ?_;refine WpcondZ rfl ?_;cases h2:v.k==2 with
   |true=>
    refine Wps0Z (s':=⟨[(2,.bI (v.n==0&&decide (v.s.size<=8)))],_,_⟩) (by
     have hs:decide ((v.s.size:Int)<=8)=decide (v.s.size<=8):=decide_eq_decide.2 (by omega);cases h3:v.n==0<;>simp[h3,hs]
     all_goals exact⟨rfl,rfl⟩) ?_
    exact WpretZ rfl
   |false=>
    refine WpskipZ ?_;simp only[Ex.then,Ex.inBlock];refine WpsgZ ?_;exact WpretZ rfl
theorem x_event (h138:prog 138=some F138) (h:prog 137=some F137) (e:E):Ans prog 137 [e.av] (.bI (rightE e)):=by
 refine Ans.of h rfl rfl (Wps0Z (s':=⟨[(1,.ref 1000 0 0 0)],[(1000,.cells e.cs)],1128⟩) (by simp[E.av,E.cs_nilc]) ?_);refine ab (Wps0Z (by simp[E.cs_12,E.cs_len];rfl) ?_);refine WpblockZ ?_;refine WprangeZ 4 (λi=>⟨[(5,.agg e.cs),(6,.nI i)],[(1000,.cells e.cs)],1256⟩) (λi=>rightTo e i=true) rfl rfl ?_ ?_
 ·intro i hi hg;have hi':(i:Int)<4:=by omega
  have hm:min 3 (12 - i*3)=3:=by omega
  refine Wps0Z (by simp[hi',hi];rfl) ?_;refine ab (WpcondZ rfl (WpskipZ (ab (WpblockZ (Wps0Z (by simp[E.cs_at e hi,hi',hi,E.cs_len,hm];rfl) ?_)))));refine ab ?_;obtain⟨K,hK⟩:=x_rightV h138 (e.get i);refine WprgnZ (K:=K) (λn hn=>by
   have hc:=hK n hn;simp only[V.av]at hc;simp[hc];rfl) ?_
  refine WpcondZ rfl ?_;have hnext:rightTo e (i+1)=(rightTo e i&&rightV (e.get i)):=rfl;cases hs:rightV (e.get i)with
  |false=>
   refine WpsgZ ?_;refine WpretZ ?_;have hf:rightTo e (i+1)=false:=by rw[hnext,hs,Bool.and_false]
   have:rightE e=false:=by
    have key:∀m,i+1<=m->rightTo e m=false:=by
     intro m hm
     induction m with
     |zero=>omega
     |succ m ih=>
      by_cases h:i+1=m+1
      ·rw[<-h];exact hf
      ·show(rightTo e m&&_)=false
       rw[ih (by omega)];rfl
    exact key 4 (by omega)
   rw[this];rfl
  |true=>
   refine WpskipZ ?_;simp only[Ex.then,Ex.inBlock];refine Wpr0Z (by simp[wrap_lt4 hi];rfl) ?_;exact⟨by simp[again,keepFr,get,nrm_iv,nrm_agg,nrmO,E.cs_nrm,show e.cs=e.enc.map .iv from rfl],by rw[hnext,hg,hs];rfl⟩
 ·intro hg;refine WpsgZ ?_;refine ab (WpcondZ rfl (WpexitZ ?_));simp only[Ex.then,Ex.inBlock,if_true];refine WpsgZ ?_;refine WpretZ ?_;rw[show rightE e=true from hg];rfl
end
def idxF {α:Type} (f:α->Bool):List α->Nat->Int
 |[],_=>-1
 |x::l,k=>if f x then(k:Int) else idxF f l (k+1)
theorem idxF_any {α:Type} (f:α->Bool):∀(l:List α) (k:Nat),decide (0<=idxF f l k)=l.any f
 |[],k=>by simp[idxF]
 |x::l,k=>by
  unfold idxF;rw[List.any_cons];cases f x with
  |true=>simp
  |false=>simp[idxF_any f l (k+1)]
theorem idxF_cons {α:Type} {f:α->Bool} {l:List α} {i:Nat} {x:α} (h:l[i]?=some x):idxF f (l.drop i) i=if f x then(i:Int) else idxF f (l.drop (i+1)) (i+1):=by
 rw[drop_cons h];rfl
section
variable {prog:Nat->Option IFn}
def inP (n:Int) (p:Int×Int):Bool:=decide (p.1<=n)&&decide (n<=p.2)
theorem x_in (h:prog 128=some F128) (v:V) (p:Int×Int):Ans prog 128 [.agg [.nI p.1,.nI p.2],.iv (.ptr v.enc)] (.bI (inP v.n p)):=by
 refine Ans.of h rfl rfl (WpsgZ ?_);refine Wps0Z (s':=⟨[(3,.bI (inP v.n p))],_,_⟩) (by
  unfold inP;cases h1:decide (p.1<=v.n)<;>simp[V.enc,h1]
  all_goals exact⟨rfl,rfl⟩) ?_
 exact WpretZ rfl
theorem x_idxR (h128:prog 128=some F128) (h:prog 148=some F148) (v:V) (l:List (Int×Int)) (hl:l.length<=maxLen):Ans prog 148 [.iv (.sl 2 (l.map rng)),.iv (.fn 128 [.ptr v.enc])] (.nI (idxF (inP v.n) l 0)):=by
 refine Ans.of h rfl rfl (WpsgZ ?_);refine ab (WpsgZ ?_);refine WpblockZ ?_;refine WprangeZ l.length (λi=>⟨[(0,.iv (.sl 2 (l.map rng))),(1,.iv (.fn 128 [.ptr v.enc])),(7,.nI l.length),(8,.nI i)],[],1256⟩) (λi=>idxF (inP v.n) (l.drop i) i=idxF (inP v.n) l 0) (by simp[keepFr,get]) rfl ?_ ?_
 ·intro i hi hg;obtain⟨p,hp⟩:∃p,l[i]?=some p:=⟨_,List.getElem?_eq_getElem hi⟩;obtain⟨K,hK⟩:=x_in h128 v p;rw[idxF_cons hp]at hg;refine Wps0Z (by simp[hi];rfl) ?_;refine ab (WpcondZ rfl (WpskipZ (ab (WpblockZ (WpsgZ ?_)))));refine ab ?_;generalize inP v.n p=b at hK hg;refine WprgnZ (K:=K) (s':=⟨[(0,.iv (.sl 2 (l.map rng))),(1,.iv (.fn 128 [.ptr v.enc])),(5,.nI i),(7,.nI l.length),(8,.nI i),(16,.bI b)],_,_⟩) (λn hn=>by
   have e:=hK n hn;simp[hp,rng,e];exact⟨rfl,rfl⟩) ?_
  refine WpcondZ rfl ?_;cases b with
  |true=>
   refine WpsgZ ?_;refine WpretZ ?_;rw[<-hg];rfl
  |false=>
   refine WpskipZ ?_;simp only[Ex.then,Ex.inBlock];refine Wpr0Z (by simp[wrap_succ hi hl];rfl) ?_;exact⟨by simp[again,keepFr,get,nrm],by simpa using hg⟩
 ·intro hg;refine WpsgZ ?_;refine ab (WpcondZ rfl (WpexitZ ?_));simp only[Ex.then,Ex.inBlock,if_true];refine WpsgZ ?_;refine WpretZ ?_;rw[<-hg,List.drop_length];rfl
theorem x_hasR (h128:prog 128=some F128) (h148:prog 148=some F148) (h:prog 141=some F141) (v:V) (l:List (Int×Int)) (hl:l.length<=maxLen):Ans prog 141 [.iv (.sl 2 (l.map rng)),.iv (.fn 128 [.ptr v.enc])] (.bI (hasI l v.n)):=by
 obtain⟨K,hK⟩:=x_idxR h128 h148 v l hl;refine Ans.of h rfl rfl (WpsgZ ?_);refine ab ?_;have hh:decide (0<=idxF (inP v.n) l 0)=hasI l v.n:=idxF_any (inP v.n) l 0;generalize idxF (inP v.n) l 0=q at hK hh;refine WprgnZ (K:=K) (s':=⟨[(4,.bI (hasI l v.n))],_,_⟩) (λn hn=>by
  have e:=hK n hn;simp[e,hh];exact⟨rfl,rfl⟩) ?_
 exact WpretZ rfl
set_option maxHeartbeats 1000000 in
theorem x_hasV (h128:prog 128=some F128) (h148:prog 148=some F148) (h141:prog 141=some F141) (h138:prog 138=some F138) (h64:prog 64=some F64) (h53:prog 53=some F53) (h:prog 127=some F127) (x:S) (v:V) (hi:x.i.length<=maxLen) (hs:x.s.length<=maxLen) :
  Ans prog 127 [x.av,v.av] (.bI (hasV x v)):=by
 obtain⟨K1,hK1⟩:=x_rightV h138 v;obtain⟨K2,hK2⟩:=x_hasR h128 h148 h141 v x.i hi;obtain⟨K3,hK3⟩:=p_contains h64 h53 x.s v.s hs;refine Ans.of h rfl rfl (Wps0Z (by simp[S.av,V.av];rfl) ?_);refine ab (WpblockZ (ab ?_));unfold hasV;have hrv:rightV v=if v.k==0 then v.n==0&&v.s==⟨#[]⟩ else if v.k==1 then v.s==⟨#[]⟩ else if v.k==2 then v.n==0&&decide (v.s.size<=8) else false:=rfl
 generalize hr:rightV v=r at *;refine WprgnZ (K:=K1) (s':=⟨[(2,.ref 1000 0 0 0),(3,.ref 1064 0 0 0),(5,.bI (!r))],_,_⟩) (λn hn=>by
  have e:=hK1 n hn;simp only[V.av]at e;simp[e];exact⟨rfl,rfl⟩) ?_
 refine WpcondZ rfl ?_;cases r with
 |false=>
  refine WpsgZ ?_;exact WpretZ rfl
 |true=>
  simp only[Bool.not_true,Bool.false_eq_true,if_false];refine WpsgZ ?_;refine WpcondZ rfl ?_;cases h1:v.k==1 with
  |true=>
   have h0:(v.k==0)=false:=by have:=beq_iff_eq.1 h1;rw[this];rfl
   rw[h0];simp only[Bool.false_eq_true,if_false,if_true];refine ab ?_;generalize hasI x.i v.n=b at hK2 ⊢;refine WprgnZ (K:=K2) (s':=⟨[(4,.bI b)],_,_⟩) (λn hn=>by
    have e:=hK2 n hn;simp only[V.enc]at e;simp[e,fz];exact⟨rfl,rfl⟩) ?_
   exact WpretZ rfl
  |false=>
   simp only[Bool.false_eq_true,if_false];refine WpsgZ ?_;refine WpcondZ rfl ?_;cases h2:v.k==2 with
   |true=>
    have h0:(v.k==0)=false:=by have:=beq_iff_eq.1 h2;rw[this];rfl
    rw[h0];simp only[Bool.false_eq_true,if_false,if_true];refine ab ?_;generalize hasT x.s v.s=b at hK3 ⊢;refine WprgnZ (K:=K3) (s':=⟨[(4,.bI (b != x.c))],_,_⟩) (λn hn=>rgn_quiet' rfl (by
     have e:=hK3 n hn;simp[e];refine⟨?_,rfl,rfl⟩;cases b<;>cases x.c<;>rfl)) ?_
    exact WpretZ rfl
   |false=>
    have h0:(v.k==0)=true:=by
     cases h0:v.k==0 with
     |true=>rfl
     |false=>rw[h0,h1,h2]at hrv;simp at hrv
    rw[h0];simp only[if_true];refine WpskipZ ?_;simp only[Ex.then,Ex.inBlock];refine WpsgZ ?_;exact WpretZ rfl
end
structure LibH (prog:Nat->Option IFn):Prop where
 h128:prog 128=some F128
 h148:prog 148=some F148
 h141:prog 141=some F141
 h138:prog 138=some F138
 h137:prog 137=some F137
 h64:prog 64=some F64
 h53:prog 53=some F53
 h127:prog 127=some F127
 h116:prog 116=some F116
 h120:prog 120=some F120
 h151:prog 151=some F151
 h144:prog 144=some F144
 h119:prog 119=some F119
section
variable {prog:Nat->Option IFn}
set_option maxHeartbeats 1000000 in
theorem x_hasB (H:LibH prog) (b:B) (e:E) (hb:b.fits):Ans prog 116 [b.av,e.av] (.bI (hasB b e)):=by
 obtain⟨K1,hK1⟩:=x_event H.h138 H.h137 e;refine Ans.of H.h116 rfl rfl (Wps0Z (s':=⟨[(2,.ref 1000 0 0 0),(3,.ref 1064 0 0 0)],[(1000,.cells b.cs),(1064,.cells e.cs)],1192⟩) (by simp[B.av,E.av,B.cs_nilc,E.cs_nilc]) ?_);refine ab (WpskZ (K:=K1) (s':=⟨[(2,.ref 1000 0 0 0),(3,.ref 1064 0 0 0),(9,.bI (!rightE e))],[(1000,.cells b.cs),(1064,.cells e.cs)],1384⟩) (λn hn=>by
  have c:=hK1 n hn;simp only[E.av]at c;simp[E.cs_12,E.cs_len,E.cs_fzC,c]) ?_)
 refine WpcondZ rfl ?_;unfold hasB;cases hr:rightE e with
 |false=>
  refine WpsgZ ?_;exact WpretZ rfl
 |true=>
  simp only[Bool.not_true,Bool.false_eq_true,if_false];refine WpskipZ ?_;simp only[Ex.then];refine ab (Wps0Z (by simp[B.cs_16,B.cs_len];rfl) ?_);refine WpblockZ ?_;refine WprangeZ 4 (λi=>⟨[(3,.ref 1064 0 0 0),(10,.agg b.cs),(11,.nI i)],[(1000,.cells b.cs),(1064,.cells e.cs)],1512⟩) (λi=>hasTo b e i=true) (by simp[keepFr,get]) rfl ?_ ?_
  ·intro i hi hg;have hi':(i:Int)<4:=by omega
   have hm:min 4 (16 - i*4)=4:=by omega
   have hm3:min 3 (12 - i*3)=3:=by omega
   refine Wps0Z (by simp[hi',hi];rfl) ?_;refine ab (WpcondZ rfl (WpskipZ (ab (WpblockZ (Wps0Z (by simp[B.cs_at b hi,hi',hi,B.cs_len,hm];rfl) ?_)))));refine ab ?_;obtain⟨K,hK⟩:=x_hasV H.h128 H.h148 H.h141 H.h138 H.h64 H.h53 H.h127 (b.get i) (e.get i) (hb i hi).1 (hb i hi).2;have hnext:hasTo b e (i+1)=(hasTo b e i&&hasV (b.get i) (e.get i)):=rfl;generalize hasV (b.get i) (e.get i)=q at hK hnext;refine WprgnZ (K:=K) (λn hn=>by
    have hc:=hK n hn;simp only[S.av,V.av]at hc;simp[E.cs_at e hi,hi',hi,E.cs_len,hm3,hc];rfl) ?_
   refine WpcondZ rfl ?_;cases q with
   |false=>
    refine WpsgZ ?_;refine WpretZ ?_;have hf:hasTo b e (i+1)=false:=by rw[hnext,Bool.and_false]
    have:hasTo b e 4=false:=by
     have key:∀m,i+1<=m->hasTo b e m=false:=by
      intro m hm
      induction m with
      |zero=>omega
      |succ m ih=>
       by_cases h:i+1=m+1
       ·rw[<-h];exact hf
       ·show(hasTo b e m&&_)=false
        rw[ih (by omega)];rfl
     exact key 4 (by omega)
    rw[this];rfl
   |true=>
    refine WpskipZ ?_;simp only[Ex.then,Ex.inBlock];refine Wpr0Z (by simp[wrap_lt4 hi];rfl) ?_;exact⟨by simp[again,keepFr,get,nrm_iv,nrm_refU,nrm_agg,nrmO,E.cs_nrm,B.cs_nrm,show b.cs=b.enc.map .iv from rfl],by rw[hnext,hg];rfl⟩
  ·intro hg;refine WpsgZ ?_;refine ab (WpcondZ rfl (WpexitZ ?_));simp only[Ex.then,Ex.inBlock,if_true];refine WpsgZ ?_;refine WpretZ ?_;rw[hg];rfl
theorem x_has1 (H:LibH prog) (b:B) (e:E) (hb:b.fits):Ans prog 120 [b.av,.iv (.ptr e.enc)] (.bI (hasB b e)):=by
 obtain⟨K1,hK1⟩:=x_hasB H b e hb;refine Ans.of H.h120 rfl rfl (Wps0Z (s':=⟨[(1,.iv (.ptr e.enc)),(2,.ref 1000 0 0 0)],[(1000,.cells b.cs)],1128⟩) (by simp[B.av,B.cs_nilc]) ?_);refine ab ?_;generalize hasB b e=q at hK1 ⊢;refine WprgnZ (K:=K1) (s':=⟨[(3,.bI q)],[(1000,.cells b.cs)],1384⟩) (λn hn=>by
  have c:=hK1 n hn;have hle:e.enc.length=12:=rfl;have het:e.enc.take 12=e.enc:=rfl;have hcs:e.enc.map AV.iv=e.cs:=rfl;simp only[B.av,E.av]at c;simp[B.cs_16,B.cs_len,B.cs_fzC,E.cs_fzC,hle,het,hcs,c]) ?_
 exact WpretZ rfl
theorem x_idxB (H:LibH prog) (l:List B) (e:E) (hl:l.length<=maxLen) (hL:∀b ∈ l,b.fits):Ans prog 151 [filt l,.iv (.fn 120 [.ptr e.enc])] (.nI (idxF (λb=>hasB b e) l 0)):=by
 refine Ans.of H.h151 rfl rfl (WpsgZ ?_);refine ab (Wps0Z (by simp[filt];rfl) ?_);refine WpblockZ ?_;refine WprangeZ l.length (λi=>⟨[(0,filt l),(1,.iv (.fn 120 [.ptr e.enc])),(7,.nI l.length),(8,.nI i)],[],1256⟩) (λi=>idxF (λb=>hasB b e) (l.drop i) i=idxF (λb=>hasB b e) l 0) (by simp[keepFr,get,filt]) rfl ?_ ?_
 ·intro i hi hg;obtain⟨b,hb⟩:∃b,l[i]?=some b:=⟨_,List.getElem?_eq_getElem hi⟩;obtain⟨K,hK⟩:=x_has1 H b e (hL b (List.mem_of_getElem? hb));rw[idxF_cons hb]at hg;refine Wps0Z (by simp[hi];rfl) ?_;refine ab (WpcondZ rfl (WpskipZ (ab (WpblockZ (WpsgZ ?_)))));refine ab ?_;generalize hasB b e=q at hK hg;refine WprgnZ (K:=K) (s':=⟨[(0,filt l),(1,.iv (.fn 120 [.ptr e.enc])),(5,.nI i),(7,.nI l.length),(8,.nI i),(16,.bI q)],_,_⟩) (λn hn=>by
   have c:=hK n hn;simp only[B.av]at c;simp[filt,hb,B.enc_take,B.enc_len,B.enc_cs,B.cs_fzC,c];exact⟨rfl,rfl⟩) ?_
  refine WpcondZ rfl ?_;cases q with
  |true=>
   refine WpsgZ ?_;refine WpretZ ?_;rw[<-hg];rfl
  |false=>
   refine WpskipZ ?_;simp only[Ex.then,Ex.inBlock];refine Wpr0Z (by simp[wrap_succ hi hl];rfl) ?_;exact⟨by simp[again,keepFr,get,nrm,filt],by simpa using hg⟩
 ·intro hg;refine WpsgZ ?_;refine ab (WpcondZ rfl (WpexitZ ?_));simp only[Ex.then,Ex.inBlock,if_true];refine WpsgZ ?_;refine WpretZ ?_;rw[<-hg,List.drop_length];rfl
theorem x_hasF (H:LibH prog) (l:List B) (e:E) (hl:l.length<=maxLen) (hL:∀b ∈ l,b.fits):Ans prog 119 [filt l,e.av] (.bI (hasF l e)):=by
 obtain⟨K,hK⟩:=x_idxB H l e hl hL;have hh:decide (0<=idxF (λb=>hasB b e) l 0)=hasF l e:=idxF_any _ l 0;have h144:Ans prog 144 [filt l,.iv (.fn 120 [.ptr e.enc])] (.bI (hasF l e)):=by
  refine Ans.of H.h144 rfl rfl (WpsgZ ?_);refine ab ?_;generalize idxF (λb=>hasB b e) l 0=q at hK hh;refine WprgnZ (K:=K) (s':=⟨[(4,.bI (hasF l e))],[],1384⟩) (λn hn=>by
   have c:=hK n hn;simp only[filt]at c;simp[filt,c,hh]) ?_
  exact WpretZ rfl
 obtain⟨K2,hK2⟩:=h144;refine Ans.of H.h119 rfl rfl (Wps0Z (s':=⟨[(0,filt l),(3,.ref 1000 0 0 0)],[(1000,.cells e.cs)],1128⟩) (by simp[E.av,E.cs_nilc]) ?_);refine ab ?_;generalize hasF l e=q at hK2 ⊢;refine WprgnZ (K:=K2) (s':=⟨[(4,.bI q)],[(1000,.cells e.cs)],1384⟩) (λn hn=>by
  have c:=hK2 n hn;simp only[filt]at c;have hcl:(fz1 false (.clo 120 [.ref 1000 0 0 0])).run [(1000,.cells e.cs)]=some (.iv (.fn 120 [.ptr e.enc]),[(1000,.cells e.cs)]):=by
   simp[fz1,fz,fzC,M.mapL,M.run,Mrun_bindZ,M.look,M.bind,M.ok,Arb.get,E.cs,E.enc,V.enc]
  have hsl:∀(es:List (List IV)),fz1 false (.iv (.sl 16 es)) = .ret (.iv (.sl 16 es)):=λ_=>rfl
  simp[-fz1, -fz, -fzC,filt,hcl,hsl,c]) ?_
 exact WpretZ rfl
end
def parOk:List Int->Nat->Bool
 |[],_=>true
 |p::l,i=>!(decide (p<0)||decide ((i:Int)<p))&&parOk l (i+1)
def homOk (n:Nat):List Int->Bool
 |[]=>true
 |b::l=>!(decide (b<0)||decide ((n:Int)<b))&&homOk n l
def argBad (h:Hd):Bool:=decide (8<h.hs.length)||(decide (h.b<0)||(decide (1000000<h.b)||h.g==18446744073709551615))
def checkH (h:Hd):Int:=if 8<=h.ps.length then 8 else if parOk h.ps 0 then(if argBad h then 1 else if homOk h.ps.length h.hs then 0 else 1) else 8
theorem checkH_0 {h:Hd} (e:checkH h=0):h.ps.length<8/\parOk h.ps 0=true/\h.hs.length<=8/\homOk h.ps.length h.hs=true:=by
 unfold checkH at e;split at e
 ·cases e
 ·split at e
  ·split at e
   ·cases e
   ·rename_i h3;split at e
    ·rename_i h1 h2 h4;refine⟨by omega,h2,?_,h4⟩;unfold argBad at h3;have:decide (8<h.hs.length)=false:=by
      cases hd:decide (8<h.hs.length)with
      |false=>rfl
      |true=>rw[hd]at h3;simp at h3
     have:=of_decide_eq_false this;omega
    ·cases e
  ·cases e
section
variable {prog:Nat->Option IFn}
set_option maxHeartbeats 1000000 in
theorem x_check (h:prog 131=some F131) (x:Hd) (hp:x.ps.length<=maxLen) (hh:x.hs.length<=maxLen):Ans prog 131 [x.av] (.nI (checkH x)):=by
 have hcs:x.cs=[.iv (.sl 1 (x.ps.map num1)),.iv (.sl 1 (x.hs.map num1)),.nI x.b,.iv (.int .u64 x.g)]:=rfl;refine Ans.of h rfl rfl (Wps0Z (s':=⟨[(1,.ref 1000 0 0 0)],[(1000,.cells x.cs)],1128⟩) (by simp[Hd.av,Hd.cs_nilc]) ?_);refine ab (Wps0Z (s':=⟨[(1,.ref 1000 0 0 0),(10,.bI (decide (8<=x.ps.length)))],[(1000,.cells x.cs)],1384⟩) (by
  have:decide ((8:Int)<=(x.ps.length:Int))=decide (8<=x.ps.length):=decide_eq_decide.2 (by omega);simp[hcs,this]) ?_)
 refine WpcondZ rfl ?_;unfold checkH;by_cases h8:8<=x.ps.length
 ·rw[decide_eq_true h8];refine WpsgZ ?_;refine WpretZ ?_;rw[if_pos h8];rfl
 ·rw[decide_eq_false h8,if_neg h8];refine WpskipZ ?_;simp only[Ex.then];refine ab (Wps0Z (s':=⟨[(1,.ref 1000 0 0 0),(12,.iv (.sl 1 (x.ps.map num1))),(13,.nI x.ps.length),(14,.nI 0)],[(1000,.cells x.cs)],1640⟩) (by simp[hcs]) ?_);refine WpblockZ ?_;refine WprangeZ x.ps.length (λi=>⟨[(1,.ref 1000 0 0 0),(12,.iv (.sl 1 (x.ps.map num1))),(13,.nI x.ps.length),(14,.nI i)],[(1000,.cells x.cs)],1640⟩) (λi=>parOk (x.ps.drop i) i=parOk x.ps 0) (by simp[keepFr,get]) rfl ?_ ?_
  ·intro i hi hg;obtain⟨p,hpp⟩:∃p,x.ps[i]?=some p:=⟨_,List.getElem?_eq_getElem hi⟩;rw[drop_cons hpp]at hg
   conv at hg=>lhs;unfold parOk
   refine Wps0Z (by simp[hi];rfl) ?_;refine ab (WpcondZ rfl (WpskipZ (ab (WpblockZ (Wps0Z (by simp[hpp,num1];rfl) ?_)))));refine Wps0Z (s':=⟨[(1,.ref 1000 0 0 0),(12,.iv (.sl 1 (x.ps.map num1))),(13,.nI x.ps.length),(14,.nI i),(25,.bI (decide (p<0)||decide ((i:Int)<p)))],[(1000,.cells x.cs)],_⟩) (by
    cases h1:decide (p<0)<;>simp[h1]
    all_goals rfl) ?_
   refine WpcondZ rfl ?_;cases hb:decide (p<0)||decide ((i:Int)<p)with
   |true=>
    rw[hb]at hg;refine WpsgZ ?_;refine WpretZ ?_;rw[<-hg];rfl
   |false=>
    rw[hb]at hg;refine WpskipZ ?_;simp only[Ex.then,Ex.inBlock];refine Wpr0Z (by simp[wrap_succ hi hp];rfl) ?_;exact⟨by simp[again,keepFr,get,nrm_iv,nrm_refU,nrmO,Hd.cs_nrm],by simpa using hg⟩
  ·intro hg;rw[List.drop_length]at hg;refine WpsgZ ?_;refine ab (WpcondZ rfl (WpexitZ ?_));simp only[Ex.then,Ex.inBlock,if_true];have hpo:parOk x.ps 0=true:=by rw[<-hg];rfl
   rw[hpo];simp only[if_true];refine ab (Wps0Z (s':=⟨[(1,.ref 1000 0 0 0),(45,.bI (argBad x))],[(1000,.cells x.cs)],2920⟩) (by
    have:decide ((8:Int)<(x.hs.length:Int))=decide (8<x.hs.length):=decide_eq_decide.2 (by omega);unfold argBad;cases h1:decide (8<x.hs.length)
    ·cases h2:decide (x.b<0)
     ·cases h3:decide (1000000<x.b)<;>simp[hcs,this,h1,h2,h3]
     ·simp[hcs,this,h1,h2]
    ·simp[hcs,this,h1]) ?_)
   refine WpcondZ rfl ?_;cases hab:argBad x with
   |true=>
    refine WpsgZ ?_;exact WpretZ rfl
   |false=>
    simp only[Bool.false_eq_true,if_false];refine WpskipZ ?_;simp only[Ex.then];refine ab (Wps0Z (s':=⟨[(1,.ref 1000 0 0 0),(47,.iv (.sl 1 (x.hs.map num1))),(48,.nI x.hs.length),(49,.nI 0)],[(1000,.cells x.cs)],3176⟩) (by simp[hcs]) ?_);refine WpblockZ ?_;refine WprangeZ x.hs.length (λi=>⟨[(1,.ref 1000 0 0 0),(47,.iv (.sl 1 (x.hs.map num1))),(48,.nI x.hs.length),(49,.nI i)],[(1000,.cells x.cs)],3176⟩) (λi=>homOk x.ps.length (x.hs.drop i)=homOk x.ps.length x.hs) (by simp[keepFr,get]) rfl ?_ ?_
    ·intro i hi hg;obtain⟨p,hpp⟩:∃p,x.hs[i]?=some p:=⟨_,List.getElem?_eq_getElem hi⟩;rw[drop_cons hpp]at hg
     conv at hg=>lhs;unfold homOk
     refine Wps0Z (by simp[hi];rfl) ?_;refine ab (WpcondZ rfl (WpskipZ (ab (WpblockZ (Wps0Z (by simp[hpp,num1];rfl) ?_)))));refine Wps0Z (s':=⟨[(1,.ref 1000 0 0 0),(47,.iv (.sl 1 (x.hs.map num1))),(48,.nI x.hs.length),(49,.nI i),(61,.bI (decide (p<0)||decide ((x.ps.length:Int)<p)))],[(1000,.cells x.cs)],_⟩) (by
      cases h1:decide (p<0)<;>simp[hcs,h1]
      all_goals rfl) ?_
     refine WpcondZ rfl ?_;cases hb:decide (p<0)||decide ((x.ps.length:Int)<p)with
     |true=>
      rw[hb]at hg;refine WpsgZ ?_;refine WpretZ ?_;rw[<-hg];rfl
     |false=>
      rw[hb]at hg;refine WpskipZ ?_;simp only[Ex.then,Ex.inBlock];refine Wpr0Z (by simp[wrap_succ hi hh];rfl) ?_;exact⟨by simp[again,keepFr,get,nrm_iv,nrm_refU,nrmO,Hd.cs_nrm],by simpa using hg⟩
    ·intro hg;rw[List.drop_length]at hg;refine WpsgZ ?_;refine ab (WpcondZ rfl (WpexitZ ?_));simp only[Ex.then,Ex.inBlock,if_true];refine WpsgZ ?_;refine WpretZ ?_;rw[<-hg];rfl
end
structure LibT (prog:Nat->Option IFn):Prop where
 h131:prog 131=some F131
 h134:prog 134=some F134
 h135:prog 135=some F135
 h133:prog 133=some F133
 h145:prog 145=some F145
 h152:prog 152=some F152
section
variable {prog:Nat->Option IFn}
end
section
variable {prog:Nat->Option IFn}
end
section
variable {prog:Nat->Option IFn}
end
theorem rightTo_false {e:E} {i:Nat} (h:rightV (e.get i)=false):∀n,i<n->rightTo e n=false
 |0,hn=>absurd hn (Nat.not_lt_zero _)
 |n+1,hn=>by
  rw[rightTo];by_cases hi:i=n
  ·subst hi;rw[h,Bool.and_false]
  ·rw[rightTo_false h n (by omega),Bool.false_and]
theorem hasTo_false {b:B} {e:E} {i:Nat} (h:hasV (b.get i) (e.get i)=false):∀n,i<n->hasTo b e n=false
 |0,hn=>absurd hn (Nat.not_lt_zero _)
 |n+1,hn=>by
  rw[hasTo];by_cases hi:i=n
  ·subst hi;rw[h,Bool.and_false]
  ·rw[hasTo_false h n (by omega),Bool.false_and]
section
variable {prog:Nat->Option IFn}
set_option maxHeartbeats 1000000 in
theorem p_rightE (h43:prog 43=some F43) (h:prog 34=some F34) (e:E):Ans prog 34 [e.av] (.bI (rightE e)):=by
 refine Ans.of h rfl rfl (Wps0Z (by simp[-fzC, -fz,E.av,E.cs_nilc];rfl) ?_);refine ab (WpsgZ ?_);refine WpblockZ ?_;refine WprangeZ 4 (λi=>⟨[(1,.ref 1000 0 0 0),(3,.nI i)],[(1000,.cells e.cs)],1192⟩) (λi=>rightTo e i=true) rfl rfl ?_ ?_
 ·intro i hi hg;have hi':(i:Int)<4:=by omega
  have hm:min 3 (12 - i*3)=3:=by omega
  refine ab (Wps0Z (by simp[hi'];rfl) ?_);refine WpcondZ rfl (WpskipZ (ab (WpblockZ (ab ?_))));obtain⟨K,hK⟩:=p_rightV h43 (e.get i);refine WprgnZ (K:=K) (λn hn=>by
   have e1:=hK n hn;simp only[V.av]at e1;generalize evalF prog n=g at e1;simp[hi',E.cs_at e hi,E.cs_len,hm,e1];rfl) ?_
  refine WpcondZ rfl ?_;cases hr:rightV (e.get i)with
  |false=>
   refine WpsgZ ?_;refine WpretZ ?_;rw[show rightE e=false from rightTo_false hr 4 hi];rfl
  |true=>
   refine WpskipZ ?_;refine WprgZ ?_;refine⟨by simp[again,keepFr,get,nrm_iv,nrm_ref_cells,nrmO,E.cs_nrm,wrap_lt4 hi],?_⟩;rw[rightTo,hg,hr];rfl
 ·intro hg;refine ab (WpsgZ ?_);refine WpcondZ rfl (WpexitZ ?_);simp only[Ex.then,Ex.inBlock,if_true];refine WpsgZ ?_;refine WpretZ ?_;rw[show rightE e=true from hg];rfl
structure Has3 (prog:Nat->Option IFn):Prop where
 h35:prog 35=some F35
 h43:prog 43=some F43
 h48:prog 48=some F48
 h49:prog 49=some F49
set_option maxHeartbeats 1000000 in
theorem p_hasV (H:Has3 prog) (x:S) (v:V) (hi:x.i.length<=maxLen) (hs:x.s.length<=maxLen):Ans prog 35 [x.av,v.av] (.bI (hasV x v)):=by
 obtain⟨K1,hK1⟩:=p_rightV H.h43 v;refine Ans.of H.h35 rfl rfl (Wps0Z (by simp[S.av,V.av];rfl) ?_);refine ab (WpskZ (K:=K1) (λn hn=>by
  have e1:=hK1 n hn;simp only[V.av]at e1;generalize evalF prog n=g at e1;simp[e1];rfl) ?_)
 unfold hasV;refine WpcondZ rfl ?_;cases hr:rightV v with
 |false=>
  refine WpsgZ ?_;exact WpretZ rfl
 |true=>
  refine WpskipZ (ab (WpsgZ ?_));refine WpblockZ (WpsgZ ?_);refine WpcondZ rfl ?_;cases h0:v.k==0 with
  |true=>
   refine WpsgZ ?_;exact WpretZ rfl
  |false=>
   refine WpsgZ ?_;refine WpcondZ rfl ?_;cases h1:v.k==1 with
   |true=>
    obtain⟨K2,hK2⟩:=p_hasI H.h48 x.i v.n hi;refine WpskZ (K:=K2) (λn hn=>by
     have e1:=hK2 n hn;generalize evalF prog n=g at e1;simp[e1];rfl) ?_
    exact WpretZ rfl
   |false=>
    refine WpskipZ ?_;simp only[Ex.then,Ex.inBlock];obtain⟨K3,hK3⟩:=p_hasT H.h49 x.s v.s hs;refine ab ?_;refine WprgnZ (K:=K3) (λn hn=>rgn_quiet' rfl (by
     have e1:=hK3 n hn;generalize evalF prog n=g at e1;simp[e1];rfl)) ?_
    refine WpretZ ?_;simp[FinS,F35,resAll,resM,outA,ev,get,M.run,shut,fzA,fz1,fzC,fz,Mrun_bindZ,M.bind];cases hasT x.s v.s<;>cases x.c<;>rfl
set_option maxHeartbeats 1000000 in
theorem p_hasB (H:Has3 prog) (h34:prog 34=some F34) (h:prog 20=some F20) (b:B) (e:E) (hb:b.fits):Ans prog 20 [b.av,e.av] (.bI (hasB b e)):=by
 obtain⟨K1,hK1⟩:=p_rightE H.h43 h34 e;refine Ans.of h rfl rfl (Wps0Z (by simp[-fzC, -fz,B.av,B.cs_nilc,E.av,E.cs_nilc];rfl) ?_);refine ab (WpskZ (K:=K1) (λn hn=>by
  have e1:=hK1 n hn;simp only[E.av]at e1;generalize evalF prog n=g at e1;simp[-fzC, -fz,E.cs_12,E.cs_len,E.cs_fzC,e1];rfl) ?_)
 unfold hasB;refine WpcondZ rfl ?_;cases hr:rightE e with
 |false=>
  refine WpsgZ ?_;exact WpretZ rfl
 |true=>
  refine WpskipZ (ab (WpsgZ ?_));refine WpblockZ ?_;refine WprangeZ 4 (λi=>⟨[(2,.ref 1000 0 0 0),(3,.ref 1064 0 0 0),(5,.nI i)],[(1000,.cells b.cs),(1064,.cells e.cs)],1448⟩) (λi=>hasTo b e i=true) rfl rfl ?_ ?_
  ·intro i hi hg;have hi':(i:Int)<4:=by omega
   have hm:min 3 (12 - i*3)=3:=by omega
   have hm2:min 4 (16 - i*4)=4:=by omega
   refine ab (Wps0Z (by simp[hi'];rfl) ?_);refine WpcondZ rfl (WpskipZ (ab (WpblockZ (ab ?_))));obtain⟨K,hK⟩:=p_hasV H (b.get i) (e.get i) (hb i hi).1 (hb i hi).2;refine WprgnZ (K:=K) (s':=⟨[(2,.ref 1000 0 0 0),(3,.ref 1064 0 0 0),(5,.nI i),(20,.bI (!hasV (b.get i) (e.get i)))],[(1000,.cells b.cs),(1064,.cells e.cs)],2088⟩) (λn hn=>rgn_quiet' rfl (by
    have e1:=hK n hn;simp only[V.av,S.av]at e1;generalize evalF prog n=g at e1;simp[hi',E.cs_at e hi,E.cs_len,hm,hm2,B.cs_at b hi,B.cs_len,e1])) ?_
   refine WpcondZ rfl ?_;cases hr:hasV (b.get i) (e.get i)with
   |false=>
    refine WpsgZ ?_;refine WpretZ ?_;rw[hasTo_false hr 4 hi];rfl
   |true=>
    refine WpskipZ ?_;refine WprgZ ?_;refine⟨by simp[again,keepFr,get,nrm_iv,nrm_ref_cells,nrmO,E.cs_nrm,B.cs_nrm,wrap_lt4 hi],?_⟩;rw[hasTo,hg,hr];rfl
  ·intro hg;refine ab (WpsgZ ?_);refine WpcondZ rfl (WpexitZ ?_);simp only[Ex.then,Ex.inBlock,if_true];refine WpsgZ ?_;refine WpretZ ?_;rw[hg];rfl
set_option maxHeartbeats 1000000 in
theorem p_hasF (H:Has3 prog) (h34:prog 34=some F34) (h20:prog 20=some F20) (h:prog 8=some F8) (f:List B) (e:E) (hl:f.length<=maxLen) (hf:∀b ∈ f,b.fits):Ans prog 8 [filt f,e.av] (.bI (hasF f e)):=by
 refine Ans.of h rfl rfl (Wps0Z (by simp[-fzC, -fz,E.av,E.cs_nilc];rfl) ?_);refine ab (WpsgZ ?_);refine WpblockZ ?_;refine WprangeZ f.length (λi=>⟨[(0,filt f),(3,.ref 1000 0 0 0),(5,.nI i)],[(1000,.cells e.cs)],1192⟩) (λi=>hasF (f.take i) e=false) rfl (by simp[hasF]) ?_ ?_
 ·intro i hi hg;have hi':(i:Int)<f.length:=by omega
  obtain⟨b,hb⟩:∃x,f[i]?=some x:=⟨_,List.getElem?_eq_getElem hi⟩;refine ab (Wps0Z (by simp[filt,hi];rfl) ?_);refine WpcondZ rfl (WpskipZ (ab (WpblockZ (ab ?_))));obtain⟨K,hK⟩:=p_hasB H h34 h20 b e (hf b (List.mem_of_getElem? hb));refine WprgnZ (K:=K) (s':=⟨[(0,filt f),(3,.ref 1000 0 0 0),(5,.nI i),(17,.bI (hasB b e))],[(1000,.cells e.cs)],1832⟩) (λn hn=>rgn_quiet' rfl (by
   have e1:=hK n hn;simp only[B.av,E.av]at e1;generalize evalF prog n=g at e1;simp[-fzC, -fz,filt,hb,E.cs_12,E.cs_len,E.cs_fzC,B.enc_take,B.enc_len,B.enc_cs,B.cs_fzC,e1])) ?_
  refine WpcondZ rfl ?_;cases hh:hasB b e with
  |true=>
   refine WpsgZ ?_;refine WpretZ ?_;rw[show hasF f e=true from any_true hb hh];rfl
  |false=>
   refine WpskipZ ?_;refine WprgZ ?_;refine⟨by simp[again,keepFr,get,nrm_iv,nrm_ref_cells,nrmO,E.cs_nrm,filt,wrap_succ hi hl],?_⟩;unfold hasF at hg ⊢;rw[take_succ_any hb,hg,hh];rfl
 ·intro hg;rw[List.take_length]at hg;refine ab (Wps0Z (by simp[filt];rfl) ?_);refine WpcondZ rfl (WpexitZ ?_);simp only[Ex.then,Ex.inBlock,if_true];refine WpsgZ ?_;refine WpretZ ?_;rw[hg];rfl
end
section
variable {prog:Nat->Option IFn}
end
def hdHp (x:Hd):Hp:=[(1000,.cells [.iv (.sl 1 (x.ps.map num1)),.iv (.sl 1 (x.hs.map num1)),.iv (.int .i64 x.b),.iv (.int .u64 x.g)])]
section
variable {prog:Nat->Option IFn}
set_option maxHeartbeats 4000000 in
theorem x_checkD (h:prog 160=some F160) (x:Hd) (hp:x.ps.length<=maxLen) (hh:x.hs.length<=maxLen):Ans prog 160 [x.av] (.nI (checkH x)):=by
 refine Ans.of h rfl rfl (Wps0Z (s':=⟨[(1,.ref 1000 0 0 0)],hdHp x,1128⟩) (by simp[Hd.av,Hd.cs,Hd.enc,hdHp]) ?_);refine ab (ab ?_);have h7:decide ((7:Int)<(x.ps.length:Int))=decide (8<=x.ps.length):=decide_eq_decide.2 (by omega);refine Wpr0Z (s':=⟨[(1,.ref 1000 0 0 0),(8,.bI (decide (8<=x.ps.length)))],hdHp x,1384⟩) (by simp[hdHp,h7]) ?_;refine WpcondZ rfl ?_;by_cases h8:8<=x.ps.length
 ·rw[decide_eq_true h8];refine WpsgZ ?_;refine WpretZ ?_;have:checkH x=8:=by unfold checkH;rw[if_pos h8]
  rw[this];rfl
 ·rw[decide_eq_false h8];have hc:checkH x=if parOk x.ps 0 then(if argBad x then 1 else if homOk x.ps.length x.hs then 0 else 1) else 8:=by unfold checkH;rw[if_neg h8]
  refine WpskipZ (ab (WpsgZ ?_));refine WpblockZ ?_;refine WploopZ (λm s1=>∃i:Nat,i+m=x.ps.length/\parOk (x.ps.drop i) i=parOk x.ps 0/\s1=⟨[(1,.ref 1000 0 0 0),(3,.nI i)],hdHp x,1448⟩) (m:=x.ps.length) ⟨0,by omega,rfl,by simp[keepFr,get]⟩ ?_;rintro m s1 ⟨i,him,hpar,rfl⟩;refine ab (ab ?_);by_cases hi:i<x.ps.length
  ·obtain⟨p,hpi⟩:∃p,x.ps[i]?=some p:=⟨_,List.getElem?_eq_getElem hi⟩;have hpi':x.ps[i]'hi=p:=(List.getElem?_eq_some_iff.1 hpi).2;rw[drop_cons hpi,parOk]at hpar;refine Wpr0Z (s':=⟨[(1,.ref 1000 0 0 0),(3,.nI i),(13,.bI true)],hdHp x,1768⟩) (by simp[hdHp,hi]) ?_;refine WpcondZ rfl (WpskipZ (ab (WpblockZ (Wps0Z (s':=⟨[(1,.ref 1000 0 0 0),(3,.nI i),(30,.bI (decide (p<0)||decide ((i:Int)<p)))],hdHp x,2728⟩) (by
    cases c1:decide (p<0)<;>simp[hdHp,hpi,num1,c1]) ?_))))
   refine WpcondZ rfl ?_;cases c:(decide (p<0)||decide ((i:Int)<p))with
   |true=>
    rw[c]at hpar;simp only[Bool.not_true,Bool.false_and]at hpar;rw[<-hpar]at hc;refine WpsgZ ?_;refine WpretZ ?_;rw[hc];rfl
   |false=>
    rw[c]at hpar;simp only[Bool.not_false,Bool.true_and]at hpar;refine WpskipZ ?_;refine Wpr0Z (by simp[wrap_succ hi hp];rfl) ?_;exact⟨m - 1,by omega,i+1,by omega,hpar,by simp[again,keepFr,get,nrm_iv,nrm_refU,nrm_ownU,nrmO,hdHp]⟩
  ·rw[List.drop_eq_nil_of_le (by omega),parOk]at hpar;rw[<-hpar,if_pos rfl]at hc;refine Wpr0Z (s':=⟨[(1,.ref 1000 0 0 0),(3,.nI i),(13,.bI false)],hdHp x,1768⟩) (by simp[hdHp];omega) ?_;refine WpcondZ rfl (WpexitZ ?_);simp only[Ex.then,Ex.inBlock,if_true];refine ab (ab ?_);have h9:decide ((8:Int)<(x.hs.length:Int))=decide (8<x.hs.length):=decide_eq_decide.2 (by omega);refine Wpr0Z (s':=⟨[(1,.ref 1000 0 0 0),(49,.bI (argBad x))],hdHp x,2984⟩) (by
    unfold argBad;cases c1:decide (8<x.hs.length)<;>cases c2:decide (x.b<0)<;>cases c3:decide (1000000<x.b)<;>simp[hdHp,h9,c1,c2,c3]) ?_
   refine WpcondZ rfl ?_;cases ha:argBad x with
   |true=>
    rw[ha,if_pos rfl]at hc;refine WpsgZ ?_;refine WpretZ ?_;rw[hc];rfl
   |false=>
    rw[ha,if_neg (by simp)]at hc;refine WpskipZ (ab (WpsgZ ?_));refine WpblockZ ?_;refine WploopZ (λm s1=>∃i:Nat,i+m=x.hs.length/\homOk x.ps.length (x.hs.drop i)=homOk x.ps.length x.hs/\s1=⟨[(1,.ref 1000 0 0 0),(4,.nI i)],hdHp x,3048⟩) (m:=x.hs.length) ⟨0,by omega,rfl,by simp[keepFr,get]⟩ ?_;rintro m2 s2 ⟨j,hjm,hhom,rfl⟩;refine ab (ab ?_);by_cases hj:j<x.hs.length
    ·obtain⟨b,hbj⟩:∃b,x.hs[j]?=some b:=⟨_,List.getElem?_eq_getElem hj⟩;rw[drop_cons hbj,homOk]at hhom;refine Wpr0Z (s':=⟨[(1,.ref 1000 0 0 0),(4,.nI j),(54,.bI true)],hdHp x,3368⟩) (by simp[hdHp,hj]) ?_;refine WpcondZ rfl (WpskipZ (ab (WpblockZ (ab ?_))));refine WprgnZ (K:=0) (s':=⟨[(1,.ref 1000 0 0 0),(4,.nI j),(73,.bI (decide (b<0)||decide ((x.ps.length:Int)<b)))],hdHp x,4456⟩) (λn _=>rgn_quiet' rfl (by
      cases c1:decide (b<0)<;>simp[hdHp,hbj,num1,c1])) ?_
     refine WpcondZ rfl ?_;cases c:(decide (b<0)||decide ((x.ps.length:Int)<b))with
     |true=>
      rw[c]at hhom;simp only[Bool.not_true,Bool.false_and]at hhom;rw[<-hhom]at hc;refine WpsgZ ?_;refine WpretZ ?_;rw[hc];rfl
     |false=>
      rw[c]at hhom;simp only[Bool.not_false,Bool.true_and]at hhom;refine WpskipZ ?_;refine Wpr0Z (by simp[wrap_succ hj hh];rfl) ?_;exact⟨m2 - 1,by omega,j+1,by omega,hhom,by simp[again,keepFr,get,nrm_iv,nrm_refU,nrm_ownU,nrmO,hdHp]⟩
    ·rw[List.drop_eq_nil_of_le (by omega),homOk]at hhom;rw[<-hhom,if_pos rfl]at hc;refine Wpr0Z (s':=⟨[(1,.ref 1000 0 0 0),(4,.nI j),(54,.bI false)],hdHp x,3368⟩) (by simp[hdHp];omega) ?_;refine WpcondZ rfl (WpexitZ ?_);simp only[Ex.then,Ex.inBlock,if_true];refine WpsgZ ?_;refine WpretZ ?_;rw[hc];rfl
end
end Arb
namespace Arx
open Go Arb
theorem lset_nil (n:Nat) (x:AV):Arx.set ([]:Fr) n x=[(n,x)]:=rfl
theorem lset_cons (p:Nat×AV) (r:Fr) (n:Nat) (x:AV):Arx.set (p::r) n x=if p.1=n then(n,x)::r else p::Arx.set r n x:=rfl
mutual
def meas:Nat->Xp->Int->Int×Int×Bool
 |left,.mk _ _ _ sub,p=>if left=0\/40<p+1 then(p+1,0,false) else measL (left - 1) sub (p+1) 0
def measL:Nat->List Xp->Int->Int->Int×Int×Bool
 |_,[],p,d=>(p,d+1,true)
 |left,x::l,p,d=>if(meas left x p).2.2 then measL left l (meas left x p).1 (if(meas left x p).2.1 > d then(meas left x p).2.1 else d) else((meas left x p).1,0,false)
end
mutual
theorem meas_in:∀(x:Xp) (left:Nat) (p:Int),0<=p->p<=40->p<(meas left x p).1/\(meas left x p).1<=41/\0<=(meas left x p).2.1/\(meas left x p).2.1<=left/\((meas left x p).2.2=true->(meas left x p).1<=40)
 |.mk k a s sub,left,p,h0,h1=>by
  unfold meas;split
  ·simp;omega
  ·rename_i h;have:=measL_in sub (left - 1) (p+1) 0 (by omega) (by omega) (by omega) (by omega);exact⟨by omega,by omega,by omega,by omega,this.2.2.2.2⟩
theorem measL_in:∀(l:List Xp) (left:Nat) (p d:Int),0<=p->p<=40->0<=d->d<=left->p<=(measL left l p d).1/\(measL left l p d).1<=41/\0<=(measL left l p d).2.1/\(measL left l p d).2.1<=left+1/\((measL left l p d).2.2=true->(measL left l p d).1<=40)
 |[],left,p,d,h0,h1,h2,h3=>by simp[measL];omega
 |x::l,left,p,d,h0,h1,h2,h3=>by
  have hx:=meas_in x left p h0 h1;unfold measL;split
  ·rename_i hok;have hd:0<=(if(meas left x p).2.1 > d then(meas left x p).2.1 else d)/\(if(meas left x p).2.1 > d then(meas left x p).2.1 else d)<=left:=by split<;>omega
   have:=measL_in l left (meas left x p).1 _ (by omega) (hx.2.2.2.2 hok) hd.1 hd.2;exact⟨by omega,by omega,by omega,by omega,this.2.2.2.2⟩
  ·simp;omega
end
def PX (H:Hp) (v:AV) (x:Xp) (bar:Nat):Prop:=v = .iv (.ptr x.enc)\/∃id,v = .ref id 0 0 0/\get H id=some (.cells (x.enc.map .iv))/\id≠bar
section
variable {p1:Nat->Option Arb.IFn} {p2:Nat->Option IFn}
theorem Ev.ofx (hp2:PrimsLe p2) {f:Nat} {fn:IFn} (hf:p2 f=some fn) (hcl:fn.prim=none) {args:List AV} (hn:args.length=fn.np) {hp:Hp} {nx:Nat} (P:AV×Hp×Nat->Prop) (h:Wp p1 p2 fn.body ⟨params args 0,hp,nx⟩ (λe s=>∃p,P p/\Fin fn.res p e s)) :
  ∃p,P p/\Ev p1 p2 f args hp nx p:=by
 obtain⟨K,ex,s',h,p,hP,hq⟩:=h;exact⟨p,hP,Ev.of hp2 hf hcl hn ⟨K,ex,s',h,hq⟩⟩
theorem ev191 (hp2:PrimsLe p2) (h:p2 191=some F191) {x:Xp} (hx:x.ok):∀(left:Nat) (p:Int) (v:AV) (H:Hp) (nx pid:Nat),left<=8->0<=p->p<=40->PX H v x pid->get H pid=some (.cells [.iv (.int .i64 p)])->
  ∃H' nx',nx<=nx'/\get H' pid=some (.cells [.iv (.int .i64 (meas left x p).1)])/\(∀k,k≠pid->get H' k=get H k)/\
   Ev p1 p2 191 [v,.iv (.int .i64 left),.ref pid 0 0 0] H nx (.tup [.iv (.int .i64 (meas left x p).2.1),.iv (.bool (meas left x p).2.2)],H',nx'):=by
 induction hx with
 |@mk k a s sub hk ha hs hl _ ih=>
  intro left p v H nx pid hleft hp0 hp1 hv hpid;have hw:IntKind.i64.wrap (p+1)=p+1:=IntWalk.i64_in _ (by omega);generalize hX:Xp.mk k a s sub=X at hv;have hmeas:meas left X p=if left=0\/40<p+1 then(p+1,0,false) else measL (left - 1) sub (p+1) 0:=by rw[<-hX];conv=>lhs;unfold meas
  have key:Wp p1 p2 F191.body ⟨params [v,.iv (.int .i64 left),.ref pid 0 0 0] 0,H,nx⟩ (λe s=>∃r:AV×Hp×Nat,(r.1 = .tup [.iv (.int .i64 (meas left X p).2.1),.iv (.bool (meas left X p).2.2)]/\nx<=r.2.2/\
    get r.2.1 pid=some (.cells [.iv (.int .i64 (meas left X p).1)])/\(∀k,k≠pid->get r.2.1 k=get H k))/\Fin F191.res r e s):=by
   refine Wps0Z (by simp[evalRgn,Option.map_some,evalOps,step,wants,isS,osem,Mrun_bindZ,M.mapL,M.run,M.ok,M.fresh,M.write,M.look,M.lift,putD,ev,fr_cons,fr_nil,keepFr,lset_nil,lset_cons,get_set_same,bin,binM,intBin,strBin,mk,params,cellsM,load,obRead,fadr,fld,isl,iarr,xarr,idx,len,valid,slc,rowLen,bound,store,splice,un,callee,Option.bind_some,M.bind,putAll];rfl) ?_;refine ab (Wps0Z (by simp[evalRgn,Option.map_some,evalOps,step,wants,isS,osem,Mrun_bindZ,M.mapL,M.run,M.ok,M.fresh,M.write,M.look,M.lift,putD,ev,fr_cons,fr_nil,keepFr,lset_nil,lset_cons,get_set_same,bin,binM,intBin,strBin,mk,params,cellsM,load,obRead,fadr,fld,isl,iarr,xarr,idx,len,valid,slc,rowLen,bound,store,splice,un,callee,Option.bind_some,M.bind,putAll,hpid,hw];rfl) ?_)
   have hc1:((left:Int)==0)=decide (left=0):=by
    by_cases h:left=0
    ·subst h;rfl
    ·rw[decide_eq_false h];exact beq_eq_false_iff_ne.2 (by omega)
   refine Wps0Z (s':=⟨[(0,v),(1,.iv (.int .i64 left)),(2,.ref pid 0 0 0),(6,.iv (.int .i64 0)),(23,.iv (.bool (decide (left=0)||decide (40<p+1))))],Arx.set H pid (.cells [.iv (.int .i64 (p+1))]),nx+16⟩) (by
    cases hb:decide (left=0)<;>simp[evalRgn,Option.map_some,evalOps,step,wants,isS,osem,Mrun_bindZ,M.mapL,M.run,M.ok,M.fresh,M.write,M.look,M.lift,putD,ev,fr_cons,fr_nil,keepFr,lset_nil,lset_cons,get_set_same,bin,binM,intBin,strBin,mk,params,cellsM,load,obRead,fadr,fld,isl,iarr,xarr,idx,len,valid,slc,rowLen,bound,store,splice,un,callee,Option.bind_some,M.bind,putAll,hc1,hb]) ?_
   by_cases hstop:left=0\/40<p+1
   ·refine WpcondZ (t:=true) (by simpa[ev,fr_cons]using hstop) ?_;simp only[if_true];refine Wps0Z (by simp[evalRgn,Option.map_some,evalOps,step,wants,isS,osem,Mrun_bindZ,M.mapL,M.run,M.ok,M.fresh,M.write,M.look,M.lift,putD,ev,fr_cons,fr_nil,keepFr,lset_nil,lset_cons,get_set_same,bin,binM,intBin,strBin,mk,params,cellsM,load,obRead,fadr,fld,isl,iarr,xarr,idx,len,valid,slc,rowLen,bound,store,splice,un,callee,Option.bind_some,M.bind,putAll];rfl) ?_;refine WpretZ ?_;rw[if_pos hstop]at hmeas;rw[hmeas];exact⟨(_,_,_),⟨rfl,show nx<=nx+16+2 by omega,get_set_same _ _ _,λk hk=>get_set_ne _ _ (Ne.symm hk)⟩,rfl,rfl⟩
   ·refine WpcondZ (t:=false) (by simpa[ev,fr_cons]using hstop) ?_;simp only[Bool.false_eq_true,if_false];rw[if_neg hstop]at hmeas;refine WpskipZ (ab (ab ?_));have hread:∀H',get H' pid=some (.cells [.iv (.int .i64 (p+1))])->(∀k,k≠pid->get H' k=get H k)->PX H' v X pid:=λH' h1 h2=>by
     rcases hv with rfl | ⟨id,rfl,h3,h4⟩
     ·exact .inl rfl
     ·exact .inr ⟨id,rfl,by rw[h2 id h4];exact h3,h4⟩
    have hv1:=hread (Arx.set H pid (.cells [.iv (.int .i64 (p+1))])) (get_set_same _ _ _) λk hk=>get_set_ne _ _ (Ne.symm hk)
    generalize hH1:Arx.set H pid (.cells [.iv (.int .i64 (p+1))])=H1 at hv1;have hold1:∀k,k≠pid->get H1 k=get H k:=λk hk=>by rw[<-hH1];exact get_set_ne _ _ (Ne.symm hk)
    have hpid1:get H1 pid=some (.cells [.iv (.int .i64 (p+1))]):=by rw[<-hH1];exact get_set_same _ _ _
    refine Wpr0Z (s':=⟨[(0,v),(1,.iv (.int .i64 left)),(2,.ref pid 0 0 0),(6,.iv (.int .i64 0)),(28,.iv (.int .i64 sub.length)),(29,.iv (.int .i64 0))],H1,nx+22⟩) (by
     subst hX;rcases hv1 with rfl | ⟨id,rfl,h3,h4⟩
     ·simp[evalRgn,Option.map_some,evalOps,step,wants,isS,osem,Mrun_bindZ,M.mapL,M.run,M.ok,M.fresh,M.write,M.look,M.lift,putD,ev,fr_cons,fr_nil,keepFr,lset_nil,lset_cons,get_set_same,bin,binM,intBin,strBin,mk,params,cellsM,load,obRead,fadr,fld,isl,iarr,xarr,idx,len,valid,slc,rowLen,bound,store,splice,un,callee,Option.bind_some,M.bind,putAll,Xp.enc,Xp.encs_map]
     ·simp[evalRgn,Option.map_some,evalOps,step,wants,isS,osem,Mrun_bindZ,M.mapL,M.run,M.ok,M.fresh,M.write,M.look,M.lift,putD,ev,fr_cons,fr_nil,keepFr,lset_nil,lset_cons,get_set_same,bin,binM,intBin,strBin,mk,params,cellsM,load,obRead,fadr,fld,isl,iarr,xarr,idx,len,valid,slc,rowLen,bound,store,splice,un,callee,Option.bind_some,M.bind,putAll,h3,Xp.enc,Xp.encs_map]) ?_
    refine WpblockZ ?_;refine WploopZ (λm s1=>∃(i:Nat) (q d:Int) (H2:Hp) (n2:Nat),i+m=sub.length/\0<=q/\q<=40/\0<=d/\d<=(left - 1:Nat)/\measL (left - 1) (sub.drop i) q d=measL (left - 1) sub (p+1) 0/\get H2 pid=some (.cells [.iv (.int .i64 q)])/\
     (∀k,k≠pid->get H2 k=get H k)/\nx<=n2/\s1=⟨[(0,v),(1,.iv (.int .i64 left)),(2,.ref pid 0 0 0),(6,.iv (.int .i64 d)),(28,.iv (.int .i64 sub.length)),(29,.iv (.int .i64 i))],H2,n2⟩) (m:=sub.length)
     ⟨0,p+1,0,H1,nx+22,by omega,by omega,by omega,by omega,by omega,rfl,hpid1,hold1,by omega,rfl⟩ ?_
    rintro m s1 ⟨i,q,d,H2,n2,him,hq0,hq1,hd0,hd1,hm,hpid2,hold2,hn2,rfl⟩;refine ab ?_;by_cases hi:i<sub.length
    ·have hx:sub[i]?=some sub[i]:=List.getElem?_eq_getElem hi;have hd:sub.drop i=sub[i]::sub.drop (i+1):=List.drop_eq_getElem_cons hi;have hin:=meas_in sub[i] (left - 1) q hq0 hq1;obtain⟨H3,n3,hn3,hpid3,hold3,K,hK⟩:=ih sub[i] (List.getElem_mem _) (left - 1) q (.iv (.ptr (sub[i]).enc)) H2 (n2+3+15) pid (by omega) hq0 hq1 (.inl rfl) hpid2;have hwl:IntKind.i64.wrap ((left:Int) - 1)=((left - 1:Nat):Int):=by rw[IntWalk.i64_in _ (by omega)];omega
     have hwi:IntKind.i64.wrap ((i:Int)+1)=(i:Int)+1:=wrap_succ hi hl;rw[hd]at hm
     conv at hm=>lhs;unfold measL
     refine Wpr0Z (by simp[evalRgn,Option.map_some,evalOps,step,wants,isS,osem,Mrun_bindZ,M.mapL,M.run,M.ok,M.fresh,M.write,M.look,M.lift,putD,ev,fr_cons,fr_nil,keepFr,lset_nil,lset_cons,get_set_same,bin,binM,intBin,strBin,mk,params,cellsM,load,obRead,fadr,fld,isl,iarr,xarr,idx,len,valid,slc,rowLen,bound,store,splice,un,callee,Option.bind_some,M.bind,putAll,hi];rfl) ?_;refine ab (WpcondZ (t:=true) rfl (WpskipZ (ab (WpblockZ (Wps0Z (by simp[evalRgn,Option.map_some,evalOps,step,wants,isS,osem,Mrun_bindZ,M.mapL,M.run,M.ok,M.fresh,M.write,M.look,M.lift,putD,ev,fr_cons,fr_nil,keepFr,lset_nil,lset_cons,get_set_same,bin,binM,intBin,strBin,mk,params,cellsM,load,obRead,fadr,fld,isl,iarr,xarr,idx,len,valid,slc,rowLen,bound,store,splice,un,callee,Option.bind_some,M.bind,putAll];rfl) ?_)))))
     refine ab ?_;generalize hr:meas (left - 1) sub[i] q=r at hK hm hin hpid3;obtain⟨q',d',ok⟩:=r;refine WprgnZ (K:=K) (s':=⟨[(0,v),(1,.iv (.int .i64 left)),(2,.ref pid 0 0 0),(6,.iv (.int .i64 d)),(9,.iv (.int .i64 d')),(10,.iv (.bool ok)),(28,.iv (.int .i64 sub.length)),(29,.iv (.int .i64 i))],H3,n3⟩) (λn hn=>by
      have hc:=hK n hn;subst hX;rcases hv with rfl | ⟨id,rfl,h3,h4⟩
      ·simp[evalRgn,Option.map_some,evalOps,step,wants,isS,osem,Mrun_bindZ,M.mapL,M.run,M.ok,M.fresh,M.write,M.look,M.lift,putD,ev,fr_cons,fr_nil,keepFr,lset_nil,lset_cons,get_set_same,bin,binM,intBin,strBin,mk,params,cellsM,load,obRead,fadr,fld,isl,iarr,xarr,idx,len,valid,slc,rowLen,bound,store,splice,un,callee,Option.bind_some,M.bind,putAll,Xp.enc,Xp.encs_map,hx,hwl,hc]
      ·have h5:get H2 id=some (.cells ((Xp.mk k a s sub).enc.map .iv)):=by rw[hold2 id h4];exact h3
       simp[evalRgn,Option.map_some,evalOps,step,wants,isS,osem,Mrun_bindZ,M.mapL,M.run,M.ok,M.fresh,M.write,M.look,M.lift,putD,ev,fr_cons,fr_nil,keepFr,lset_nil,lset_cons,get_set_same,bin,binM,intBin,strBin,mk,params,cellsM,load,obRead,fadr,fld,isl,iarr,xarr,idx,len,valid,slc,rowLen,bound,store,splice,un,callee,Option.bind_some,M.bind,putAll,h5,Xp.enc,Xp.encs_map,hx,hwl,hc]) ?_
     refine ab (Wps0Z (by simp[evalRgn,Option.map_some,evalOps,step,wants,isS,osem,Mrun_bindZ,M.mapL,M.run,M.ok,M.fresh,M.write,M.look,M.lift,putD,ev,fr_cons,fr_nil,keepFr,lset_nil,lset_cons,get_set_same,bin,binM,intBin,strBin,mk,params,cellsM,load,obRead,fadr,fld,isl,iarr,xarr,idx,len,valid,slc,rowLen,bound,store,splice,un,callee,Option.bind_some,M.bind,putAll];rfl) ?_);refine WpcondZ rfl ?_;cases ok with
     |false=>
      simp only[Bool.false_eq_true,if_false]at hm;refine Wps0Z (by simp[evalRgn,Option.map_some,evalOps,step,wants,isS,osem,Mrun_bindZ,M.mapL,M.run,M.ok,M.fresh,M.write,M.look,M.lift,putD,ev,fr_cons,fr_nil,keepFr,lset_nil,lset_cons,get_set_same,bin,binM,intBin,strBin,mk,params,cellsM,load,obRead,fadr,fld,isl,iarr,xarr,idx,len,valid,slc,rowLen,bound,store,splice,un,callee,Option.bind_some,M.bind,putAll];rfl) ?_;refine WpretZ ?_;rw[hmeas,<-hm];exact⟨(_,_,_),⟨rfl,show nx<=n3+2+2 by omega,hpid3,λk hk=>by rw[hold3 k hk];exact hold2 k hk⟩,rfl,rfl⟩
     |true=>
      simp only[if_true]at hm;refine WpskipZ ?_;refine Wpr0Z (by simp[evalRgn,Option.map_some,evalOps,step,wants,isS,osem,Mrun_bindZ,M.mapL,M.run,M.ok,M.fresh,M.write,M.look,M.lift,putD,ev,fr_cons,fr_nil,keepFr,lset_nil,lset_cons,get_set_same,bin,binM,intBin,strBin,mk,params,cellsM,load,obRead,fadr,fld,isl,iarr,xarr,idx,len,valid,slc,rowLen,bound,store,splice,un,callee,Option.bind_some,M.bind,putAll,mxI];rfl) ?_;refine Wpr0Z (by simp[evalRgn,Option.map_some,evalOps,step,wants,isS,osem,Mrun_bindZ,M.mapL,M.run,M.ok,M.fresh,M.write,M.look,M.lift,putD,ev,fr_cons,fr_nil,keepFr,lset_nil,lset_cons,get_set_same,bin,binM,intBin,strBin,mk,params,cellsM,load,obRead,fadr,fld,isl,iarr,xarr,idx,len,valid,slc,rowLen,bound,store,splice,un,callee,Option.bind_some,M.bind,putAll,hwi];rfl) ?_
      have hd2:0<=(if d' > d then d' else d)/\(if d' > d then d' else d)<=((left - 1:Nat):Int):=by
       simp only at hin;split<;>omega
      refine⟨m - 1,by omega,i+1,q',if d' > d then d' else d,H3,_,by omega,by simp only at hin;omega,hin.2.2.2.2 rfl,hd2.1,hd2.2,hm,hpid3,λk hk=>by rw[hold3 k hk];exact hold2 k hk,?_,by simp[fr_cons,keepFr];rfl⟩
      show nx<=n3+2+4+2
      omega
    ·have hd:sub.drop i=[]:=List.drop_eq_nil_of_le (by omega);rw[hd]at hm
     conv at hm=>lhs;unfold measL
     have hwd:IntKind.i64.wrap (d+1)=d+1:=IntWalk.i64_in _ (by omega);refine Wpr0Z (by simp[evalRgn,Option.map_some,evalOps,step,wants,isS,osem,Mrun_bindZ,M.mapL,M.run,M.ok,M.fresh,M.write,M.look,M.lift,putD,ev,fr_cons,fr_nil,keepFr,lset_nil,lset_cons,get_set_same,bin,binM,intBin,strBin,mk,params,cellsM,load,obRead,fadr,fld,isl,iarr,xarr,idx,len,valid,slc,rowLen,bound,store,splice,un,callee,Option.bind_some,M.bind,putAll,hi];rfl) ?_;refine ab (WpcondZ (t:=false) rfl (WpexitZ ?_));simp only[Ex.then,Ex.inBlock,if_true];refine Wps0Z (by simp[evalRgn,Option.map_some,evalOps,step,wants,isS,osem,Mrun_bindZ,M.mapL,M.run,M.ok,M.fresh,M.write,M.look,M.lift,putD,ev,fr_cons,fr_nil,keepFr,lset_nil,lset_cons,get_set_same,bin,binM,intBin,strBin,mk,params,cellsM,load,obRead,fadr,fld,isl,iarr,xarr,idx,len,valid,slc,rowLen,bound,store,splice,un,callee,Option.bind_some,M.bind,putAll,hwd];rfl) ?_
     refine WpretZ ?_;rw[hmeas,<-hm];exact⟨(_,_,_),⟨rfl,show nx<=n2+1+4 by omega,hpid2,hold2⟩,rfl,rfl⟩
  obtain⟨⟨y,H',nx'⟩,⟨rfl,h1,h2,h3⟩,h4⟩:=Ev.ofx hp2 h rfl rfl _ key;exact⟨H',nx',h1,h2,h3,h4⟩
end
def SubOK (x:IV):Prop:=∃sub:List Xp,x = .sl 7 (sub.map Xp.enc)/\sub.length<=maxLen/\∀y ∈ sub,y.ok
theorem fit_int {k:IntKind} {x:IV} (h:Fit (.int k) x):∃n,x = .int k n/\(Lit.int k n).wf=true:=by cases h;exact⟨_,rfl,by assumption⟩
theorem fit_str {x:IV} (h:Fit .str x):∃s,x = .str s/\s.size<=maxLen:=by cases h;exact⟨_,rfl,by assumption⟩
theorem fit_bool {x:IV} (h:Fit .bool x):∃s,x = .bool s:=by cases h;exact⟨_,rfl⟩
theorem fit_sl {es:List Sh} {x:IV} (h:Fit (.sl es) x):∃rows,x = .sl es.length rows/\rows.length<=maxLen/\∀r ∈ rows,FitL es r:=by cases h;exact⟨_,rfl,by assumption,by assumption⟩
theorem FitL.one {a:Sh} {ss:List Sh} {xs:List IV} (h:FitL (a::ss) xs):∃x r,xs=x::r/\Fit a x/\FitL ss r:=by cases h;exact⟨_,_,rfl,by assumption,by assumption⟩
theorem FitL.none {xs:List IV} (h:FitL [] xs):xs=[]:=by cases h;rfl
theorem FitL.split:∀{ss ts:List Sh} {xs:List IV},FitL (ss++ts) xs->∃a b,xs=a++b/\FitL ss a/\FitL ts b
 |[],_,xs,h=>⟨[],xs,rfl,.nil,h⟩
 |_::_,_,_,.cons h hs=>by
  obtain⟨a,b,rfl,ha,hb⟩:=FitL.split hs;exact⟨_::a,b,rfl,.cons h ha,hb⟩
def shSet:List Sh:=[.bool,.sl [.int .i64,.int .i64],.bool,.sl [.str]]
def shVal:List Sh:=[.int .i64,.int .i64,.str]
def shEv:List Sh:=shVal++(shVal++(shVal++shVal))
def shOp:List Sh:=[.int .i64,.int .i64,.int .i64,.int .i64,.int .i64]++(shExpr++shEv)
def shHd:List Sh:=[.sl [.int .i64],.sl [.int .i64],.int .i64,.int .u64]
theorem fit_rng {r:List IV} (h:FitL [.int .i64,.int .i64] r):∃p,r=rng p/\(in64 p.1/\in64 p.2):=by
 obtain⟨x,r,rfl,hx,h⟩:=h.one;obtain⟨y,r,rfl,hy,h⟩:=h.one;obtain rfl:=h.none;obtain⟨n,rfl,hn⟩:=fit_int hx;obtain⟨m,rfl,hm⟩:=fit_int hy;exact⟨(n,m),rfl,wf64 hn,wf64 hm⟩
theorem fit_st1 {r:List IV} (h:FitL [.str] r):∃p,r=st1 p/\p.size<=maxLen:=by
 obtain⟨x,r,rfl,hx,h⟩:=h.one;obtain rfl:=h.none;obtain⟨n,rfl,hn⟩:=fit_str hx;exact⟨n,rfl,hn⟩
theorem fit_set {xs:List IV} (h:FitL shSet xs):∃s:S,xs=s.enc/\s.ok:=by
 obtain⟨a,_,rfl,ha,h⟩:=h.one;obtain⟨b,_,rfl,hb,h⟩:=h.one;obtain⟨c,_,rfl,hc,h⟩:=h.one;obtain⟨d,_,rfl,hd,h⟩:=h.one;obtain rfl:=h.none;obtain⟨va,rfl⟩:=fit_bool ha;obtain⟨vc,rfl⟩:=fit_bool hc;obtain⟨rows,rfl,hr1,hr2⟩:=fit_sl hb;obtain⟨strs,rfl,hs1,hs2⟩:=fit_sl hd;obtain⟨l,rfl,hl⟩:=rows_map rng (λp=>in64 p.1/\in64 p.2) rows λr hr=>fit_rng (hr2 r hr)
 obtain⟨t,rfl,ht⟩:=rows_map st1 (λp=>p.size<=maxLen) strs λr hr=>fit_st1 (hs2 r hr)
 exact⟨⟨va,l,vc,t⟩,rfl,by rwa [List.length_map]at hr1,by rwa [List.length_map]at hs1,hl,ht⟩
theorem exp_of {r:List IV} (h:FitL shExpr r) (hs:∃x,r[6]?=some x/\SubOK x):∃X:Xp,r=X.enc/\X.ok:=by
 obtain⟨k,_,rfl,hk,h⟩:=FitL.one h;obtain⟨a,_,rfl,ha,h⟩:=FitL.one h;obtain⟨c1,_,rfl,h1,h⟩:=FitL.one h;obtain⟨c2,_,rfl,h2,h⟩:=FitL.one h;obtain⟨c3,_,rfl,h3,h⟩:=FitL.one h;obtain⟨c4,_,rfl,h4,h⟩:=FitL.one h;obtain⟨c5,_,rfl,h5,h⟩:=FitL.one h;obtain rfl:=FitL.none h;obtain⟨k,rfl,hk'⟩:=fit_int hk;obtain⟨a,rfl,ha'⟩:=fit_int ha;obtain⟨x,hx,sub,rfl,hl,hok⟩:=hs;simp at hx;subst hx;obtain⟨s,hs,hsok⟩:=fit_set (.cons h1 (.cons h2 (.cons h3 (.cons h4 .nil))));refine⟨.mk k a s sub,?_,.mk (wf64 hk') (wf64 ha') hsok hl hok⟩;simp only[S.enc,List.cons.injEq,and_true]at hs;obtain⟨rfl,rfl,rfl,rfl⟩:=hs;simp[Xp.enc,Xp.encs_map]
theorem sub_of_fit {s:Sh} {x:IV} (h:Fit s x):s = .ex->SubOK x:=by
 refine Fit.rec (motive_1:=λs x _=>s=Sh.ex->SubOK x) (motive_2:=λss xs _=>∀i:Nat,ss[i]?=some Sh.ex->∃x,xs[i]?=some x/\SubOK x) ?_ ?_ ?_ ?_ ?_ ?_ ?_ h
 ·intro b h;cases h
 ·intro k n hw h;cases h
 ·intro s hs h;cases h
 ·intro es rows hl hr ih h;cases h
 ·intro rows hl hr ih _;obtain⟨sub,rfl,hok⟩:=rows_map Xp.enc Xp.ok rows λr hr'=>exp_of (hr r hr') (ih r hr' 6 rfl)
  exact⟨sub,rfl,by rwa [List.length_map]at hl,hok⟩
 ·intro i hi;simp at hi
 ·intro s ss x xs h hs ih1 ih2 i hi;cases i with
  |zero=>
   simp at hi;exact⟨x,rfl,ih1 hi⟩
  |succ i=>exact ih2 i (by simpa using hi)
theorem fit_exp {r:List IV} (h:FitL shExpr r):∃X:Xp,r=X.enc/\X.ok:=by
 refine exp_of h ?_;obtain⟨_,_,rfl,_,h⟩:=FitL.one h;obtain⟨_,_,rfl,_,h⟩:=FitL.one h;obtain⟨_,_,rfl,_,h⟩:=FitL.one h;obtain⟨_,_,rfl,_,h⟩:=FitL.one h;obtain⟨_,_,rfl,_,h⟩:=FitL.one h;obtain⟨_,_,rfl,_,h⟩:=FitL.one h;obtain⟨x,_,rfl,h6,h⟩:=FitL.one h;exact⟨x,rfl,sub_of_fit h6 rfl⟩
theorem fit_val {xs:List IV} (h:FitL shVal xs):∃v:V,xs=v.enc/\(in64 v.k/\in64 v.n/\v.s.size<=maxLen):=by
 obtain⟨a,_,rfl,ha,h⟩:=h.one;obtain⟨b,_,rfl,hb,h⟩:=h.one;obtain⟨c,_,rfl,hc,h⟩:=h.one;obtain rfl:=h.none;obtain⟨k,rfl,hk⟩:=fit_int ha;obtain⟨n,rfl,hn⟩:=fit_int hb;obtain⟨s,rfl,hs⟩:=fit_str hc;exact⟨⟨k,n,s⟩,rfl,wf64 hk,wf64 hn,hs⟩
theorem fit_ev {xs:List IV} (h:FitL shEv xs):∃e:E,xs=e.enc/\∀i,i<4->in64 (e.get i).k/\in64 (e.get i).n/\(e.get i).s.size<=maxLen:=by
 obtain⟨_,r1,rfl,h0,h⟩:=FitL.split h;obtain⟨_,r2,rfl,h1,h⟩:=FitL.split h;obtain⟨_,_,rfl,h2,h3⟩:=FitL.split h;obtain⟨v0,rfl,k0⟩:=fit_val h0;obtain⟨v1,rfl,k1⟩:=fit_val h1;obtain⟨v2,rfl,k2⟩:=fit_val h2;obtain⟨v3,rfl,k3⟩:=fit_val h3;refine⟨⟨v0,v1,v2,v3⟩,rfl,λi hi=>?_⟩
 match i,hi with
 |0,_=>exact k0
 |1,_=>exact k1
 |2,_=>exact k2
 |3,_=>exact k3
theorem fit_op {xs:List IV} (h:FitL shOp xs):∃o:Arb.Op,xs=o.enc/\o.ok:=by
 obtain⟨a,_,rfl,ha,h⟩:=FitL.one h;obtain⟨b,_,rfl,hb,h⟩:=FitL.one h;obtain⟨c,_,rfl,hc,h⟩:=FitL.one h;obtain⟨d,_,rfl,hd,h⟩:=FitL.one h;obtain⟨e,_,rfl,he,h⟩:=FitL.one h;obtain⟨x,v,rfl,hx,hv⟩:=FitL.split (ss:=shExpr) (ts:=shEv) h;obtain⟨a,rfl,ha'⟩:=fit_int ha;obtain⟨b,rfl,hb'⟩:=fit_int hb;obtain⟨c,rfl,hc'⟩:=fit_int hc;obtain⟨d,rfl,hd'⟩:=fit_int hd;obtain⟨e,rfl,he'⟩:=fit_int he;obtain⟨X,rfl,hX⟩:=fit_exp hx;obtain⟨E,rfl,hE⟩:=fit_ev hv;exact⟨⟨a,b,c,d,e,X,E⟩,rfl,wf64 ha',wf64 hb',wf64 hc',wf64 hd',wf64 he',hX,hE⟩
theorem fit_num {r:List IV} (h:FitL [.int .i64] r):∃n:Int,r=num1 n/\in64 n:=by
 obtain⟨x,r,rfl,hx,h⟩:=h.one;obtain rfl:=h.none;obtain⟨n,rfl,hn⟩:=fit_int hx;exact⟨n,rfl,wf64 hn⟩
theorem fz_ivs (w:Bool) (n:Nat):∀l:List IV,l.all notNil=true->M.mapL (fz w (n+1)) (l.map AV.iv) = .ret l
 |[],_=>by simp[M.mapL]
 |x::r,h=>by
  simp only[List.all_cons,Bool.and_eq_true]at h;have ih:=fz_ivs w n r h.2;cases x with
  |nsl e=>simp[notNil]at h
  |_=>rw[List.map_cons,M.mapL,ih];rfl
end Arx
namespace Arx
open Go Arb
attribute [local simp] evalRgn Option.map_some evalOps step wants isS osem Mrun_bindZ M.mapL M.run M.ok M.fresh M.write M.look M.lift putD ev fr_cons fr_nil keepFr lset_nil lset_cons get_set_same bin binM intBin strBin mk params cellsM load obRead fadr fld isl iarr xarr idx len valid slc rowLen bound store splice un callee Option.bind_some M.bind putAll
def Fresh (H:Hp) (nx:Nat):Prop:=∀k,4*nx<=k->get H k=none
structure Ext (H:Hp) (nx:Nat) (H':Hp) (nx':Nat):Prop where
 le:nx<=nx'
 fresh:Fresh H' nx'
 old:∀k,k<4*nx->get H' k=get H k
theorem Ext.refl {H:Hp} {nx nx':Nat} (h:Fresh H nx) (hn:nx<=nx'):Ext H nx H nx':=⟨hn,λk hk=>h k (by omega),λ_ _=>rfl⟩
theorem Ext.trans {H H' H'':Hp} {n n' n'':Nat} (a:Ext H n H' n') (b:Ext H' n' H'' n''):Ext H n H'' n'':=⟨Nat.le_trans a.le b.le,b.fresh,λk hk=>(b.old k (by have:=a.le;omega)).trans (a.old k hk)⟩
def PY (H:Hp) (v:AV) (x:Xp):Prop:=v = .iv (.ptr x.enc)\/∃id,v = .ref id 0 0 0/\get H id=some (.cells (x.enc.map .iv))
def noS:S:=⟨false,[],false,[]⟩
def plainX (a:Int) (s:S):Bool:=a==0&&sameS s noS
def oneX:Xp->Bool
 |.mk k a s sub=>if k=1 then decide (0<=a)&&(decide (a<4)&&(decide (sub.length=0)&&(rightS s&&smallS s))) else if k=2\/k=3 then plainX a s else if k=4 then plainX a s&&decide (sub.length=1) else false
mutual
def allX:Xp->Bool
 |.mk k a s sub=>allXL sub&&oneX (.mk k a s sub)
def allXL:List Xp->Bool
 |[]=>true
 |x::l=>allX x&&allXL l
end
section
variable {p1:Nat->Option Arb.IFn} {p2:Nat->Option IFn}
set_option maxHeartbeats 1000000 in
theorem ev192 (hp2:PrimsLe p2) (h17:p1 17=some Arb.F17) (h32:p1 32=some Arb.F32) (h33:p1 33=some Arb.F33) (h58:p1 58=some Arb.F58) (h24:p1 24=some Arb.F24) (h:p2 192=some F192) {x:Xp} (hx:x.ok) (v:AV) (H:Hp) (nx:Nat) (hv:PY H v x) :
  ∃nx',nx<=nx'/\Ev p1 p2 192 [v] H nx (.bI (oneX x),H,nx'):=by
 obtain @⟨k,a,s,sub,hk,ha,hs,hl, -⟩:=hx;generalize hX:Xp.mk k a s sub=X at hv;have hone:oneX X=if k=1 then decide (0<=a)&&(decide (a<4)&&(decide (sub.length=0)&&(rightS s&&smallS s))) else if k=2\/k=3 then plainX a s else if k=4 then plainX a s&&decide (sub.length=1) else false:=by rw[<-hX];rfl
 obtain⟨K1,hK1⟩:=Arb.p_sameS h32 h33 h17 s noS hs.li hs.ls;obtain⟨K2,hK2⟩:=Arb.p_rightS h58 s hs.li hs.ls;obtain⟨K3,hK3⟩:=Arb.p_smallS h24 s;have key:Wp p1 p2 F192.body ⟨params [v] 0,H,nx⟩ (λe st=>∃r:AV×Hp×Nat,(r.1 = .bI (oneX X)/\nx<=r.2.2/\r.2.1=H)/\Fin F192.res r e st):=by
  refine WpsgZ ?_;refine WpskZ (K:=K1) (s':=⟨[(0,v),(3,.bI (plainX a s))],H,nx+15⟩) (λn hn=>by
   have e1:=hK1 n hn;change(one p1 n 17 _ []).bind shut=_ at e1;simp only[S.av,noS,List.map_nil]at e1;unfold plainX;subst hX;cases ha0:a==0 with
   |false=>
    rcases hv with rfl | ⟨id,rfl,h3⟩
    ·simp[Xp.enc,Xp.encs_map,ha0]
    ·simp[h3,Xp.enc,Xp.encs_map,ha0]
   |true=>
    rcases hv with rfl | ⟨id,rfl,h3⟩
    ·simp[callM,fz1,fz,flat,flat1,flat0,flatI,ofA,of1,Xp.enc,Xp.encs_map,ha0,e1,noS]
    ·simp[callM,fz1,fz,flat,flat1,flat0,flatI,ofA,of1,h3,Xp.enc,Xp.encs_map,ha0,e1,noS]) ?_
  refine ab (Wps0Z (s':=⟨[(0,v),(3,.bI (plainX a s)),(20,.nI k)],H,nx+19⟩) (by
   subst hX;rcases hv with rfl | ⟨id,rfl,h3⟩
   ·simp[Xp.enc,Xp.encs_map]
   ·simp[h3,Xp.enc,Xp.encs_map]) ?_)
  refine WpblockZ (Wps0Z (s':=⟨[(0,v),(3,.bI (plainX a s)),(20,.nI k),(21,.bI (decide (k=1)))],H,nx+21⟩) (by
   have:(k==1)=decide (k=1):=by by_cases h:k=1<;>simp[h]
   simp[this]) ?_)
  refine WpcondZ rfl ?_;by_cases k1:k=1
  ·rw[decide_eq_true k1];rw[if_pos k1]at hone;simp only[if_true];refine WpskZ (K:=max K2 K3) (s':=⟨[(2,.bI (oneX X))],H,nx+56⟩) (λn hn=>by
    have e2:=hK2 n (by omega);have e3:=hK3 n (by omega);change(one p1 n 58 _ []).bind shut=_ at e2;change(one p1 n 24 _ []).bind shut=_ at e3;simp only[S.av]at e2 e3;rw[hone];have hln:(((sub.length:Nat):Int)==0)=decide (sub.length=0):=by
     by_cases h:sub.length=0
     ·rw[h];rfl
     ·rw[decide_eq_false h];exact beq_eq_false_iff_ne.2 (by omega)
    clear hone;generalize decide (sub.length=0)=bz at hln;subst hX;cases c1:decide (0<=a)with
    |false=>
     rcases hv with rfl | ⟨id,rfl,h3⟩
     ·simp[Xp.enc,Xp.encs_map,c1]
     ·simp[h3,Xp.enc,Xp.encs_map,c1]
    |true=>
     cases c2:decide (a<4)with
     |false=>
      rcases hv with rfl | ⟨id,rfl,h3⟩
      ·simp[Xp.enc,Xp.encs_map,c1,c2]
      ·simp[h3,Xp.enc,Xp.encs_map,c1,c2]
     |true=>
      cases bz with
      |false=>
       rcases hv with rfl | ⟨id,rfl,h3⟩
       ·simp[Xp.enc,Xp.encs_map,c1,c2,hln]
       ·simp[h3,Xp.enc,Xp.encs_map,c1,c2,hln]
      |true=>
       cases c4:rightS s with
       |false=>
        rw[c4]at e2;rcases hv with rfl | ⟨id,rfl,h3⟩
        ·simp[callM,fz1,fz,flat,flat1,flat0,flatI,ofA,of1,Xp.enc,Xp.encs_map,c1,c2,hln,e2]
        ·simp[callM,fz1,fz,flat,flat1,flat0,flatI,ofA,of1,h3,Xp.enc,Xp.encs_map,c1,c2,hln,e2]
       |true=>
        rw[c4]at e2;rcases hv with rfl | ⟨id,rfl,h3⟩
        ·simp[callM,fz1,fz,flat,flat1,flat0,flatI,ofA,of1,Xp.enc,Xp.encs_map,c1,c2,hln,e2,e3]
        ·simp[callM,fz1,fz,flat,flat1,flat0,flatI,ofA,of1,h3,Xp.enc,Xp.encs_map,c1,c2,hln,e2,e3]) ?_
   exact WpretZ ⟨(_,_,_),⟨rfl,show nx<=nx+56 by omega,rfl⟩,rfl,rfl⟩
  ·rw[decide_eq_false k1];rw[if_neg k1]at hone;simp only[Bool.false_eq_true,if_false];refine ab (Wps0Z (by
    have:(k==2)=decide (k=2):=by by_cases h:k=2<;>simp[h]
    simp[this];rfl) ?_)
   have h23:Wp p1 p2 (.cond (.t 57) .skip (.rgn false [⟨some 59,.bin .eql 0 (.t 20) (.c (.nI (3))),none,[]⟩,⟨some 57,.mov (.t 59),none,[]⟩] [0,3,20,57]))
     ⟨[(0,v),(3,.bI (plainX a s)),(20,.nI k),(57,.bI (decide (k=2)))],H,nx+23⟩
     (λe st=>e = .norm/\∃n2,nx<=n2/\st=⟨[(0,v),(3,.bI (plainX a s)),(20,.nI k),(57,.bI (decide (k=2\/k=3)))],H,n2⟩):=by
    refine WpcondZ rfl ?_;by_cases k2:k=2
    ·rw[decide_eq_true k2];exact WpskipZ ⟨rfl,nx+23,by omega,by simp[k2]⟩
    ·rw[decide_eq_false k2];refine Wpr0Z (by
      have:(k==3)=decide (k=3):=by by_cases h:k=3<;>simp[h]
      simp[this];rfl) ?_
     exact⟨rfl,nx+25,by omega,by simp[k2]⟩
   refine Wp.mono h23 ?_;rintro e st ⟨rfl,n2,hn2,rfl⟩;simp only[Ex.then];refine WpcondZ rfl ?_;by_cases k23:k=2\/k=3
   ·rw[decide_eq_true k23];rw[if_pos k23]at hone;simp only[if_true];refine WpsgZ ?_;refine WpretZ ?_;rw[hone];exact⟨(_,_,_),⟨rfl,show nx<=n2+2 by omega,rfl⟩,rfl,rfl⟩
   ·rw[decide_eq_false k23];rw[if_neg k23]at hone;simp only[Bool.false_eq_true,if_false];refine Wps0Z (by
     have:(k==4)=decide (k=4):=by by_cases h:k=4<;>simp[h]
     simp[this];rfl) ?_
    refine WpcondZ rfl ?_;by_cases k4:k=4
    ·rw[decide_eq_true k4];rw[if_pos k4]at hone;simp only[if_true];refine Wps0Z (s':=⟨[(2,.bI (plainX a s&&decide (sub.length=1)))],H,n2+12⟩) (by
      have hln:(((sub.length:Nat):Int)==1)=decide (sub.length=1):=by
       by_cases h:sub.length=1
       ·rw[h];rfl
       ·rw[decide_eq_false h];exact beq_eq_false_iff_ne.2 (by omega)
      generalize decide (sub.length=1)=bz at hln;subst hX;cases c1:plainX a s with
      |false=>
       rcases hv with rfl | ⟨id,rfl,h3⟩
       ·simp[Xp.enc,Xp.encs_map]
       ·simp[h3,Xp.enc,Xp.encs_map]
      |true=>
       rcases hv with rfl | ⟨id,rfl,h3⟩
       ·simp[Xp.enc,Xp.encs_map,hln]
       ·simp[h3,Xp.enc,Xp.encs_map,hln]) ?_
     refine WpretZ ?_;rw[hone];exact⟨(_,_,_),⟨rfl,show nx<=n2+12 by omega,rfl⟩,rfl,rfl⟩
    ·rw[decide_eq_false k4];rw[if_neg k4]at hone;simp only[Bool.false_eq_true,if_false];refine WpskipZ ?_;simp only[Ex.then,Ex.inBlock];refine WpsgZ ?_;refine WpretZ ?_;rw[hone];exact⟨(_,_,_),⟨rfl,show nx<=n2+2+1 by omega,rfl⟩,rfl,rfl⟩
 obtain⟨⟨y,H',nx'⟩,⟨rfl,h1,rfl⟩,h4⟩:=Ev.ofx hp2 h rfl rfl _ key;exact⟨nx',h1,h4⟩
end
end Arx

/-
  A part of the proof of the statement that the last text of this claim holds: two abstract machines for the code, proved sound once, and what the program does on them. No condition.
-/
import Derived.Test.YtobopdhlbpgepaaGreatArbD
set_option linter.all false
namespace Arb
open Go
attribute [local simp] evalRgn Option.map_some evalOps step wants osem M.run_bind M.mapL M.run M.ok M.fresh M.write M.look M.lift putD Arb.set ev Arb.get keepFr bin intBin strBin mk params cellsM load obRead fadr fld isl iarr xarr idx len valid slc bound store splice nilc un eqs eq0 evalFeet footOf M.foot orderOk apartAll apart1 clash meets callM fcallM callee fz1 fzC fz flat flat1 flat0 flatI Option.bind_some putAll M.bind oo om ol oa oc ob on og od oe ci cb
theorem nrm_ref0 {n0:Nat} (h:1000<n0) (cs:List AV):nrm n0 [(1000,.cells cs)] 8 (.ref 1000 0 0 0) = .ref 1000 0 0 0:=by simp[nrm,Arb.get,h]
inductive Xp where
 |mk (k a:Int) (s:S) (sub:List Xp)
mutual
def Xp.enc:Xp->List IV
 |.mk k a s sub=>[.int .i64 k,.int .i64 a,.bool s.a,.sl 2 (s.i.map rng),.bool s.c,.sl 1 (s.s.map st1),.sl 7 (Xp.encs sub)]
def Xp.encs:List Xp->List (List IV)
 |[]=>[]
 |x::l=>x.enc::Xp.encs l
end
theorem Xp.encs_map:∀l:List Xp,Xp.encs l=l.map Xp.enc
 |[]=>rfl
 |x::l=>by simp[Xp.encs,Xp.encs_map l]
def Xp.sub:Xp->List Xp
 |.mk _ _ _ l=>l
def Xp.set:Xp->S
 |.mk _ _ s _=>s
def Xp.cs (x:Xp):List AV:=x.enc.map .iv
def Xp.av (x:Xp):AV:=.agg x.cs
theorem Xp.enc_all (x:Xp):x.enc.all notNil=true:=by cases x;simp[Xp.enc,notNil]
theorem Xp.cs_fzC (x:Xp) (w:Bool):M.mapL (fzC w) x.cs = .ret x.cs:=fzC_plain w x.enc x.enc_all
theorem Xp.cs_fz (x:Xp) (w:Bool):M.mapL (fz w 8) x.cs = .ret x.enc:=fz_plain w x.enc x.enc_all
theorem Xp.cs_nilc (x:Xp) (s:Nat):nilc s x.cs = .ret x.cs:=nilc_plain x.enc s x.enc_all
theorem Xp.cs_len (x:Xp):x.cs.length=7:=by cases x;rfl
theorem Xp.cs_7 (x:Xp):x.cs.take 7=x.cs:=by cases x;rfl
theorem Xp.cs_sub (x:Xp):(x.cs.drop 6).take 1=[.iv (.sl 7 (x.sub.map Xp.enc))]:=by cases x;simp[Xp.cs,Xp.enc,Xp.sub,Xp.encs_map]
theorem Xp.cs_set (x:Xp):(x.cs.drop 2).take 4=[.bI x.set.a,.iv (.sl 2 (x.set.i.map rng)),.bI x.set.c,.iv (.sl 1 (x.set.s.map st1))]:=by cases x;rfl
theorem Xp.cs_nrm (x:Xp) (n0:Nat) (h:Hp):x.cs.map (nrm n0 h 8)=x.cs:=nrm_ivs n0 h x.enc
theorem Xp.take_enc (x:Xp):(x.enc.take 7).map AV.iv=x.cs:=by cases x;rfl
theorem Xp.take_enc2 (x:Xp):(x.enc.map AV.iv).take 7=x.cs:=by cases x;rfl
theorem Xp.len_enc (x:Xp):x.enc.length=7:=by cases x;rfl
inductive Xp.ok:Xp->Prop
 |mk {k a:Int} {s:S} {sub:List Xp} (hk:in64 k) (ha:in64 a) (hs:s.ok) (hl:sub.length<=maxLen) (h:∀x ∈ sub,Xp.ok x):Xp.ok (.mk k a s sub)
mutual
def Xp.deep:Int->Xp->Int
 |d,.mk _ _ _ sub=>if d > 20 then 20 else if 20<Xp.deeps (d+1) 100 sub 0+1 then 20 else Xp.deeps (d+1) 100 sub 0+1
def Xp.deeps:Int->Nat->List Xp->Int->Int
 |_,_,[],n=>n
 |_,0,_::_,n=>n
 |d,k+1,x::l,n=>Xp.deeps d k l (if Xp.deep d x > n then Xp.deep d x else n)
end
mutual
theorem Xp.deep_in:∀(x:Xp) (d:Int),1<=x.deep d/\x.deep d<=20
 |.mk _ _ _ sub,d=>by
  unfold Xp.deep;split
  ·omega
  ·have:=Xp.deeps_in sub (d+1) 100 0 (by omega) (by omega);split<;>omega
theorem Xp.deeps_in:∀(l:List Xp) (d:Int) (k:Nat) (n:Int),0<=n->n<=20->0<=Xp.deeps d k l n/\Xp.deeps d k l n<=20
 |[],d,k,n,h,h'=>by unfold Xp.deeps;omega
 |x::l,d,0,n,h,h'=>by unfold Xp.deeps;omega
 |x::l,d,k+1,n,h,h'=>by
  have h1:=Xp.deep_in x d;unfold Xp.deeps;split
  ·exact Xp.deeps_in l d k _ (by omega) (by omega)
  ·exact Xp.deeps_in l d k _ (by omega) (by omega)
end
mutual
def Xp.sets:Xp->Bool
 |.mk _ _ s sub=>fewS s&&Xp.setss sub
def Xp.setss:List Xp->Bool
 |[]=>true
 |x::l=>x.sets&&Xp.setss l
end
theorem Xp.setss_all:∀l:List Xp,Xp.setss l=l.all Xp.sets
 |[]=>by unfold Xp.setss;rfl
 |x::l=>by unfold Xp.setss;simp[Xp.setss_all l]
mutual
def Xp.count:Int->Xp->Int
 |d,.mk _ _ _ sub=>if d > 20 then 100 else if 100<Xp.counts (d+1) sub 1 then 100 else Xp.counts (d+1) sub 1
def Xp.counts:Int->List Xp->Int->Int
 |_,[],n=>n
 |d,x::l,n=>if n<100 then Xp.counts d l (n+Xp.count d x) else n
end
mutual
theorem Xp.count_in:∀(x:Xp) (d:Int),1<=x.count d/\x.count d<=100
 |.mk _ _ _ sub,d=>by
  unfold Xp.count;split
  ·omega
  ·have:=Xp.counts_in sub (d+1) 1 (by omega);split<;>omega
theorem Xp.counts_in:∀(l:List Xp) (d n:Int),1<=n->n<=Xp.counts d l n
 |[],d,n,_=>by unfold Xp.counts;omega
 |x::l,d,n,hn=>by
  have h1:=Xp.count_in x d;unfold Xp.counts;split
  ·have:=Xp.counts_in l d (n+x.count d) (by omega);omega
  ·omega
end
section
variable {prog:Nat->Option IFn}
theorem Xp.counts_done {d n:Int} (h:¬n<100):∀l:List Xp,Xp.counts d l n=n
 |[]=>by unfold Xp.counts;rfl
 |x::l=>by unfold Xp.counts;rw[if_neg h]
theorem p_count (h:prog 169=some F169) {x:Xp} (hx:x.ok):∀d:Int,0<=d->d<=21->Ans prog 169 [x.av,.nI d] (.nI (x.count d)):=by
 induction hx with
 |@mk k a s sub _ _ _ hl _ ih=>
  intro d hd0 hd;generalize hX:Xp.mk k a s sub=X;have hsub:X.sub=sub:=by rw[<-hX];rfl
  refine Ans.of h rfl rfl (Wp.seq ?_);refine Wp.rgn (K:=0) (s':=⟨[(1,.nI d),(2,.ref 1000 0 0 0)],[(1000,.cells X.cs)],1128⟩) (fun n _=>by simp[Xp.av,Xp.cs_nilc]) ?_;refine Wp.seq ?_;refine Wp.rg ?_;refine Wp.seq (Wp.seq ?_);refine Wp.rgn (K:=0) (s':=⟨[(1,.nI d),(2,.ref 1000 0 0 0),(5,.nI 1),(8,.bI (decide (20<d)))],[(1000,.cells X.cs)],1320⟩) (fun n _=>by simp) ?_;by_cases hdeep:20<d
  ·refine Wp.cond (t:=true) (by simp[ev,Arb.get,hdeep]) ?_;simp only[if_true];refine Wp.seq ?_;refine Wp.rg ?_;refine Wp.ret ?_;have:X.count d=100:=by rw[<-hX];unfold Xp.count;rw[if_pos hdeep]
   rw[this];rfl
  ·refine Wp.cond (t:=false) (by simp[ev,Arb.get,hdeep]) ?_;simp only[Bool.false_eq_true,if_false];refine Wp.skip (Wp.seq (Wp.seq ?_));refine Wp.rg ?_;refine Wp.block ?_;have hcnt:X.count d=if 100<Xp.counts (d+1) sub 1 then 100 else Xp.counts (d+1) sub 1:=by rw[<-hX];unfold Xp.count;rw[if_neg hdeep]
   refine Wp.loop (fun m s1=>∃(i:Nat) (n:Int),i+m=sub.length/\1<=n/\n<200/\Xp.counts (d+1) (sub.drop i) n=Xp.counts (d+1) sub 1/\
    s1=⟨[(1,.nI d),(2,.ref 1000 0 0 0),(5,.nI n),(6,.nI i)],[(1000,.cells X.cs)],1384⟩) (m:=sub.length) ⟨0,1,by omega,by omega,by omega,rfl,rfl⟩ ?_
   rintro m s1 ⟨i,n,him,hn1,hn2,hc,rfl⟩;refine Wp.seq (Wp.seq ?_);refine Wp.rgn (K:=0) (s':=⟨[(1,.nI d),(2,.ref 1000 0 0 0),(5,.nI n),(6,.nI i),(17,.bI (decide (i<sub.length)&&decide (n<100)))],[(1000,.cells X.cs)],1960⟩) (fun n' _=>by
    have hlt:decide ((i:Int)<(sub.length:Int))=decide (i<sub.length):=decide_eq_decide.2 (by omega);cases hb:decide (i<sub.length)<;>simp[X.cs_sub,hsub,hlt,hb]) ?_
   by_cases hgo:i<sub.length/\n<100
   ·refine Wp.cond (t:=true) (by simp[ev,Arb.get,hgo.1,hgo.2]) ?_;simp only[if_true];refine Wp.skip (Wp.seq (Wp.block ?_));have hx:sub[i]?=some sub[i]:=List.getElem?_eq_getElem hgo.1;obtain⟨K,hK⟩:=ih sub[i] (List.getElem_mem _) (d+1) (by omega) (by omega);have hin:=Xp.count_in sub[i] (d+1);have hw:IntKind.i64.wrap (d+1)=d+1:=IntWalk.i64_in _ (by omega);have hw2:IntKind.i64.wrap (n+sub[i].count (d+1))=n+sub[i].count (d+1):=IntWalk.i64_in _ (by omega);refine Wp.rgn (K:=K) (s':=⟨[(1,.nI d),(2,.ref 1000 0 0 0),(5,.nI (n+sub[i].count (d+1))),(6,.nI i)],[(1000,.cells X.cs)],2664⟩) (fun n' hn'=>by
     have hc':=hK n' hn';simp only[Xp.av]at hc';simp[X.cs_sub,hsub,hx,Xp.take_enc,Xp.take_enc2,Xp.len_enc,Xp.cs_len,Xp.cs_fzC,hw,hw2,hc']) ?_
    refine Wp.rgn (K:=0) (fun n _=>by simp[wrap_succ hgo.1 hl];rfl) ?_;refine⟨m - 1,by omega,i+1,n+sub[i].count (d+1),by omega,by omega,by omega,?_,by simp[again,keepFr,get,nrm_iv,nrm_ref0,nrmO,Xp.cs_nrm]⟩;rw[<-hc,List.drop_eq_getElem_cons hgo.1]
    conv=>rhs;unfold Xp.counts
    rw[if_pos hgo.2]
   ·have hfalse:(decide (i<sub.length)&&decide (n<100))=false:=by simpa using fun h=>Int.not_lt.1 fun h'=>hgo ⟨h,h'⟩
    refine Wp.cond (t:=false) (by simp[ev,Arb.get,hfalse]) ?_;simp only[Bool.false_eq_true,if_false];refine Wp.exit ?_;simp only[Ex.then,Ex.inBlock,if_true];have hfin:Xp.counts (d+1) sub 1=n:=by
     rw[<-hc];by_cases hi:i<sub.length
     ·exact Xp.counts_done (fun h=>hgo ⟨hi,h⟩) _
     ·rw[List.drop_eq_nil_of_le (by omega)];unfold Xp.counts;rfl
    refine Wp.seq ?_;refine Wp.rgn (K:=0) (s':=⟨[(4,.nI (X.count d))],[(1000,.cells X.cs)],2152⟩) (fun n' _=>by
     rw[hcnt,hfin];by_cases hb:100<n<;>simp[mnI,hb]) ?_
    exact Wp.ret rfl
theorem Xp.deeps_none (d:Int) (n:Int):∀l:List Xp,Xp.deeps d 0 l n=n
 |[]=>by unfold Xp.deeps;rfl
 |x::l=>by unfold Xp.deeps;rfl
theorem p_deep (h:prog 170=some F170) {x:Xp} (hx:x.ok):∀d:Int,0<=d->d<=21->Ans prog 170 [x.av,.nI d] (.nI (x.deep d)):=by
 induction hx with
 |@mk k a s sub _ _ _ hl _ ih=>
  intro d hd0 hd;generalize hX:Xp.mk k a s sub=X;have hsub:X.sub=sub:=by rw[<-hX];rfl
  refine Ans.of h rfl rfl (Wp.seq ?_);refine Wp.rgn (K:=0) (s':=⟨[(1,.nI d),(2,.ref 1000 0 0 0)],[(1000,.cells X.cs)],1128⟩) (fun n _=>by simp[Xp.av,Xp.cs_nilc]) ?_;refine Wp.seq ?_;refine Wp.rg ?_;refine Wp.seq (Wp.seq ?_);refine Wp.rgn (K:=0) (s':=⟨[(1,.nI d),(2,.ref 1000 0 0 0),(5,.nI 0),(8,.bI (decide (20<d)))],[(1000,.cells X.cs)],1320⟩) (fun n _=>by simp) ?_;by_cases hdeep:20<d
  ·refine Wp.cond (t:=true) (by simp[ev,Arb.get,hdeep]) ?_;simp only[if_true];refine Wp.seq ?_;refine Wp.rg ?_;refine Wp.ret ?_;have:X.deep d=20:=by rw[<-hX];unfold Xp.deep;rw[if_pos hdeep]
   rw[this];rfl
  ·refine Wp.cond (t:=false) (by simp[ev,Arb.get,hdeep]) ?_;simp only[Bool.false_eq_true,if_false];refine Wp.skip (Wp.seq (Wp.seq ?_));refine Wp.rg ?_;refine Wp.block ?_;have hcnt:X.deep d=if 20<Xp.deeps (d+1) 100 sub 0+1 then 20 else Xp.deeps (d+1) 100 sub 0+1:=by rw[<-hX];unfold Xp.deep;rw[if_neg hdeep]
   refine Wp.loop (fun m s1=>∃(i:Nat) (n:Int),i+m=sub.length/\i<=100/\0<=n/\n<=20/\Xp.deeps (d+1) (100 - i) (sub.drop i) n=Xp.deeps (d+1) 100 sub 0/\
    s1=⟨[(1,.nI d),(2,.ref 1000 0 0 0),(5,.nI n),(6,.nI i)],[(1000,.cells X.cs)],1384⟩) (m:=sub.length) ⟨0,0,by omega,by omega,by omega,by omega,rfl,rfl⟩ ?_
   rintro m s1 ⟨i,n,him,hi100,hn1,hn2,hc,rfl⟩;refine Wp.seq (Wp.seq ?_);refine Wp.rgn (K:=0) (s':=⟨[(1,.nI d),(2,.ref 1000 0 0 0),(5,.nI n),(6,.nI i),(17,.bI (decide (i<sub.length)&&decide (i<100)))],[(1000,.cells X.cs)],1960⟩) (fun n' _=>by
    have hlt:decide ((i:Int)<(sub.length:Int))=decide (i<sub.length):=decide_eq_decide.2 (by omega);have hlt2:decide ((i:Int)<100)=decide (i<100):=decide_eq_decide.2 (by omega);cases hb:decide (i<sub.length)<;>simp[X.cs_sub,hsub,hlt,hlt2,hb]) ?_
   by_cases hgo:i<sub.length/\i<100
   ·refine Wp.cond (t:=true) (by simp[ev,Arb.get,hgo.1,hgo.2]) ?_;simp only[if_true];refine Wp.skip (Wp.seq (Wp.block ?_));have hx:sub[i]?=some sub[i]:=List.getElem?_eq_getElem hgo.1;obtain⟨K,hK⟩:=ih sub[i] (List.getElem_mem _) (d+1) (by omega) (by omega);have hin:=Xp.deep_in sub[i] (d+1);have hw:IntKind.i64.wrap (d+1)=d+1:=IntWalk.i64_in _ (by omega);refine Wp.rgn (K:=K) (s':=⟨[(1,.nI d),(2,.ref 1000 0 0 0),(5,.nI (if sub[i].deep (d+1) > n then sub[i].deep (d+1) else n)),(6,.nI i)],[(1000,.cells X.cs)],2664⟩) (fun n' hn'=>by
     have hc':=hK n' hn';simp only[Xp.av]at hc';simp[X.cs_sub,hsub,hx,Xp.take_enc,Xp.take_enc2,Xp.len_enc,Xp.cs_len,Xp.cs_fzC,hw,hc',mxI]) ?_
    refine Wp.rgn (K:=0) (fun n _=>by simp[wrap_succ hgo.1 hl];rfl) ?_;refine⟨m - 1,by omega,i+1,if sub[i].deep (d+1) > n then sub[i].deep (d+1) else n,by omega,by omega,by split<;>omega,by split<;>omega,?_,by simp[again,keepFr,get,nrm_iv,nrm_ref0,nrmO,Xp.cs_nrm]⟩;rw[<-hc,List.drop_eq_getElem_cons hgo.1,show 100 - i=(100 - (i+1))+1 by omega]
    conv=>rhs;unfold Xp.deeps
   ·have hfalse:(decide (i<sub.length)&&decide (i<100))=false:=by simpa using fun h=>Nat.not_lt.1 fun h'=>hgo ⟨h,h'⟩
    refine Wp.cond (t:=false) (by simp[ev,Arb.get,hfalse]) ?_;simp only[Bool.false_eq_true,if_false];refine Wp.exit ?_;simp only[Ex.then,Ex.inBlock,if_true];have hfin:Xp.deeps (d+1) 100 sub 0=n:=by
     rw[<-hc];by_cases hi:i<sub.length
     ·rw[show 100 - i=0 by omega];exact Xp.deeps_none _ _ _
     ·rw[List.drop_eq_nil_of_le (by omega)];unfold Xp.deeps;rfl
    refine Wp.seq ?_;have hw3:IntKind.i64.wrap (n+1)=n+1:=IntWalk.i64_in _ (by omega);refine Wp.rgn (K:=0) (s':=⟨[(4,.nI (X.deep d))],[(1000,.cells X.cs)],2216⟩) (fun n' _=>by
     rw[hcnt,hfin];by_cases hb:20<n+1<;>simp[mnI,hb,hw3]) ?_
    exact Wp.ret rfl
theorem p_sets (h27:prog 27=some F27) (h:prog 204=some F204) {x:Xp} (hx:x.ok):Ans prog 204 [x.av] (.bI x.sets):=by
 induction hx with
 |@mk k a s sub _ _ _ hl _ ih=>
  generalize hX:Xp.mk k a s sub=X;have hsub:X.sub=sub:=by rw[<-hX];rfl
  have hset:X.set=s:=by rw[<-hX];rfl
  have hval:X.sets=(fewS s&&sub.all Xp.sets):=by rw[<-hX];unfold Xp.sets;rw[Xp.setss_all]
  refine Ans.of h rfl rfl (Wp.seq ?_);refine Wp.rgn (K:=0) (s':=⟨[(1,.ref 1000 0 0 0)],[(1000,.cells X.cs)],1128⟩) (fun n _=>by simp[Xp.av,Xp.cs_nilc]) ?_;refine Wp.seq (Wp.seq ?_);obtain⟨K,hK⟩:=p_few3 h27 [s] (by simp[maxLen]);refine Wp.rgn (K:=K) (s':=⟨[(1,.ref 1000 0 0 0),(8,.bI (!fewS s))],[(1000,.cells X.cs),(1256,.buf 0 4 [[.bool s.a,.sl 2 (s.i.map rng),.bool s.c,.sl 1 (s.s.map st1)]])],1448⟩) (fun n' hn'=>by
   have hc':=hK n' hn';simp only[sets,List.map_cons,List.map_nil,S.enc,List.all_cons,List.all_nil,Bool.and_true]at hc';simp[X.cs_set,hset,setAll,hc']) ?_
  cases hfs:fewS s with
  |false=>
   refine Wp.cond (t:=true) rfl (Wp.seq ?_);refine Wp.rg ?_;refine Wp.ret ?_;rw[hval,hfs];rfl
  |true=>
   refine Wp.cond (t:=false) rfl (Wp.skip (Wp.seq (Wp.seq ?_)));refine Wp.rg ?_;refine Wp.block (Wp.range sub.length (fun i=>⟨[(1,.ref 1000 0 0 0),(3,.nI i)],[(1000,.cells X.cs),(1256,.buf 0 4 [[.bool s.a,.sl 2 (s.i.map rng),.bool s.c,.sl 1 (s.s.map st1)]])],1512⟩)
    (fun i=>(sub.take i).all Xp.sets=true) rfl (by simp) ?_ ?_)
   ·intro i hi hg;have hlt:decide ((i:Int)<(sub.length:Int))=true:=decide_eq_true (by omega);refine Wp.seq (Wp.seq ?_);refine Wp.rgn (K:=0) (s':=⟨[(1,.ref 1000 0 0 0),(3,.nI i),(13,.bI true)],[(1000,.cells X.cs),(1256,.buf 0 4 [[.bool s.a,.sl 2 (s.i.map rng),.bool s.c,.sl 1 (s.s.map st1)]])],1832⟩) (fun n' _=>by
     simp[X.cs_sub,hsub,hi]) ?_
    refine Wp.cond (t:=true) rfl (Wp.skip (Wp.seq (Wp.block (Wp.seq ?_))));have hx:sub[i]?=some sub[i]:=List.getElem?_eq_getElem hi;obtain⟨K,hK⟩:=ih sub[i] (List.getElem_mem _);refine Wp.rgn (K:=K) (s':=⟨[(1,.ref 1000 0 0 0),(3,.nI i),(22,.bI (!sub[i].sets))],[(1000,.cells X.cs),(1256,.buf 0 4 [[.bool s.a,.sl 2 (s.i.map rng),.bool s.c,.sl 1 (s.s.map st1)]])],2280⟩) (fun n' hn'=>by
     have hc':=hK n' hn';simp only[Xp.av]at hc';simp[X.cs_sub,hsub,hx,Xp.take_enc,Xp.take_enc2,Xp.len_enc,Xp.cs_len,Xp.cs_fzC,hc']) ?_
    cases hsx:sub[i].sets with
    |false=>
     refine Wp.cond (t:=true) rfl (Wp.seq ?_);refine Wp.rg ?_;refine Wp.ret ?_;rw[hval,hfs,all_false hx hsx];rfl
    |true=>
     refine Wp.cond (t:=false) rfl (Wp.skip ?_);refine Wp.rgn (K:=0) (fun n _=>by simp[wrap_succ hi hl];rfl) ?_;have hr:nrm 1512 [(1000,.cells X.cs),(1256,.buf 0 4 [[.bool s.a,.sl 2 (s.i.map rng),.bool s.c,.sl 1 (s.s.map st1)]])] 8 (.ref 1000 0 0 0) = .ref 1000 0 0 0:=by simp[nrm,Arb.get]
     refine⟨by simp[again,keepFr,get,nrm_iv,hr,nrmO,Xp.cs_nrm],?_⟩;rw[take_succ_all hx,hg,hsx];rfl
   ·intro hg;have hlt:decide ((sub.length:Int)<(sub.length:Int))=false:=decide_eq_false (by omega);refine Wp.seq (Wp.seq ?_);refine Wp.rgn (K:=0) (s':=⟨[(1,.ref 1000 0 0 0),(3,.nI sub.length),(13,.bI false)],[(1000,.cells X.cs),(1256,.buf 0 4 [[.bool s.a,.sl 2 (s.i.map rng),.bool s.c,.sl 1 (s.s.map st1)]])],1832⟩) (fun n' _=>by
     simp[X.cs_sub,hsub,hlt]) ?_
    refine Wp.cond (t:=false) rfl (Wp.exit ?_);simp only[Ex.then,Ex.inBlock,if_true];refine Wp.seq ?_;refine Wp.rg ?_;refine Wp.ret ?_;rw[List.take_length]at hg;rw[hval,hfs,hg];rfl
end
section
variable {prog:Nat->Option IFn}
theorem Ev.run {f:Nat} {args:List AV} {p:AV×Hp} (h:Ev prog f args [] p) (hp:p.1 = .bI true):∃n hp',evalF prog n f args []=some (.bI true,hp'):=by
 obtain⟨K,h⟩:=h;exact⟨K,p.2,by rw[h K (Nat.le_refl _),<-hp]⟩
end
end Arb
namespace Arb
open Go
section
variable {α:Type} {lt:α->α->Bool}
def insV (lt:α->α->Bool) (x:α):List α->List α
 |[]=>[x]
 |y::r=>if lt x y then y::insV lt x r else x::y::r
theorem sink_ins (x:α):∀(v rest:List α),sink lt v.length (v.reverse++x::rest)=(insV lt x v).reverse++rest
 |[],rest=>rfl
 |y::v,rest=>by
  have h1:(v.reverse++y::x::rest)[v.length+1]?=some x:=by
   rw[List.getElem?_append_right (by simp)];simp
  have h2:(v.reverse++y::x::rest)[v.length]?=some y:=by
   rw[List.getElem?_append_right (by simp)];simp
  rw[show(y::v).reverse++x::rest=v.reverse++y::x::rest by simp,List.length_cons,sink,h1,h2];simp only[insV];split
  ·have h3:((v.reverse++y::x::rest).set (v.length+1) y).set v.length x=v.reverse++x::y::rest:=by
    rw[List.set_append_right _ _ (by simp),List.set_append_right _ _ (by simp)];simp
   rw[h3,sink_ins x v (y::rest)];simp
  ·simp
theorem sinks_fold (l:List α):∀k,k<l.length->sinks lt l k=((l.take (k+1)).foldl (fun v x=>insV lt x v) []).reverse++l.drop (k+1)
 |0,h=>by
  match l,h with
  |x::r,_=>simp[sinks,insV]
 |k+1,h=>by
  rw[sinks,sinks_fold l k (by omega)];obtain⟨x,hx⟩:∃x,l[k+1]?=some x:=⟨_,List.getElem?_eq_getElem h⟩;rw[drop_cons hx,List.take_add_one (i:=k+1),hx];generalize hv:(l.take (k+1)).foldl (fun v x=>insV lt x v) []=v;have hl:v.length=k+1:=by
   have hlen:∀(m v:List α),(m.foldl (fun v x=>insV lt x v) v).length=v.length+m.length:=by
    intro m
    induction m with
    |nil=>intro v;rfl
    |cons a m ih=>
     intro v;rw[List.foldl_cons,ih];have:∀v:List α,(insV lt a v).length=v.length+1:=by
      intro v
      induction v with
      |nil=>rfl
      |cons b v ih2=>unfold insV;split<;>simp[ih2]
     rw[this,List.length_cons];omega
   rw[<-hv,hlen,List.length_take,List.length_nil];omega
  have:=sink_ins (lt:=lt) x v (l.drop (k+1+1));rw[hl]at this;rw[this];simp only[Option.toList_some,List.foldl_append,List.foldl_cons,List.foldl_nil,hv]
theorem isort_fold (l:List α):isort lt l=(l.foldl (fun v x=>insV lt x v) []).reverse:=by
 by_cases h:l.length=0
 ·obtain rfl:=List.eq_nil_of_length_eq_zero h;rfl
 ·rw[isort,sinks_fold l (l.length - 1) (by omega),show l.length - 1+1=l.length by omega,List.take_length,List.drop_length,List.append_nil]
theorem insV_mem {x a:α}:∀{v:List α},a ∈ insV lt x v↔a=x\/a ∈ v
 |[]=>by simp[insV]
 |y::v=>by
  unfold insV;split
  ·simp only[List.mem_cons,insV_mem];constructor
   ·rintro(h | h | h)<;>simp[h]
   ·rintro(h | h | h)<;>simp[h]
  ·simp only[List.mem_cons]
theorem foldV_mem {a:α}:∀(l v:List α),a ∈ l.foldl (fun v x=>insV lt x v) v↔a ∈ l\/a ∈ v
 |[],v=>by simp
 |x::l,v=>by
  rw[List.foldl_cons,foldV_mem l,insV_mem,List.mem_cons];constructor
  ·rintro(h | h | h)<;>simp[h]
  ·rintro((h | h) | h)<;>simp[h]
theorem isort_mem {a:α} {l:List α}:a ∈ isort lt l↔a ∈ l:=by rw[isort_fold,List.mem_reverse,foldV_mem];simp
structure Weak (lt:α->α->Bool):Prop where
 asymm:∀a b,lt a b=true->lt b a=false
 ntrans:∀a b c,lt a b=false->lt b c=false->lt a c=false
theorem insV_desc (W:Weak lt) (x:α):∀{v:List α},v.Pairwise (fun a b=>lt a b=false)->(insV lt x v).Pairwise fun a b=>lt a b=false
 |[],_=>by simp[insV]
 |y::v,h=>by
  rw[List.pairwise_cons]at h;unfold insV;split
  ·rename_i hxy;rw[List.pairwise_cons];refine⟨fun b hb=>?_,insV_desc W x h.2⟩;rcases insV_mem.1 hb with rfl | hb
   ·exact W.asymm _ _ hxy
   ·exact h.1 b hb
  ·rename_i hxy;have hxy:lt x y=false:=by simpa using hxy
   rw[List.pairwise_cons];refine⟨fun b hb=>?_,List.pairwise_cons.2 h⟩;rcases List.mem_cons.1 hb with rfl | hb
   ·exact hxy
   ·exact W.ntrans _ _ _ hxy (h.1 b hb)
theorem isort_asc (W:Weak lt) (l:List α):(isort lt l).Pairwise fun a b=>lt b a=false:=by
 rw[isort_fold,List.pairwise_reverse];have:∀(l v:List α),v.Pairwise (fun a b=>lt a b=false)->(l.foldl (fun v x=>insV lt x v) v).Pairwise fun a b=>lt a b=false:=by
  intro l
  induction l with
  |nil=>exact fun v h=>h
  |cons x l ih=>exact fun v h=>ih _ (insV_desc W x h)
 exact this l [] List.Pairwise.nil
end
def inR (l:List (Int×Int)) (n:Int):Prop:=∃p ∈ l,p.1<=n/\n<=p.2
def normal (l:List (Int×Int)):Prop:=(∀p ∈ l,p.1<=p.2)/\l.Pairwise fun p q=>p.2+1<q.1
theorem inR_cons {p:Int×Int} {l:List (Int×Int)} {n:Int}:inR (p::l) n↔(p.1<=n/\n<=p.2)\/inR l n:=by
 simp[inR]
theorem inR_append {a b:List (Int×Int)} {n:Int}:inR (a++b) n↔inR a n\/inR b n:=by
 simp only[inR,List.mem_append];constructor
 ·rintro⟨p,h | h,hp⟩
  ·exact .inl ⟨p,h,hp⟩
  ·exact .inr ⟨p,h,hp⟩
 ·rintro(⟨p,h,hp⟩|⟨p,h,hp⟩)
  ·exact⟨p,.inl h,hp⟩
  ·exact⟨p,.inr h,hp⟩
theorem inR_nil {n:Int}:¬inR [] n:=by simp[inR]
theorem normal_tail {p:Int×Int} {l:List (Int×Int)} (h:normal (p::l)):normal l:=⟨fun q hq=>h.1 q (List.mem_cons_of_mem _ hq),(List.pairwise_cons.1 h.2).2⟩
theorem normal_above {p:Int×Int} {l:List (Int×Int)} (h:normal (p::l)) {n:Int} (hn:inR l n):p.2+1<n:=by
 obtain⟨q,hq,h1,h2⟩:=hn;have:=(List.pairwise_cons.1 h.2).1 q hq;omega
theorem normal_one:∀{l t:List (Int×Int)},normal l->normal t->(∀n,inR l n↔inR t n)->l=t
 |[],[],_,_,_=>rfl
 |[],q::t,_,ht,h=>by
  have:=ht.1 q (List.mem_cons_self ..);exact(inR_nil ((h q.1).2 (inR_cons.2 (.inl ⟨Int.le_refl _,this⟩)))).elim
 |p::l,[],hl,_,h=>by
  have:=hl.1 p (List.mem_cons_self ..);exact(inR_nil ((h p.1).1 (inR_cons.2 (.inl ⟨Int.le_refl _,this⟩)))).elim
 |p::l,q::t,hl,ht,h=>by
  have hp:=hl.1 p (List.mem_cons_self ..);have hq:=ht.1 q (List.mem_cons_self ..);have lo1:q.1<=p.1:=by
   rcases inR_cons.1 ((h p.1).1 (inR_cons.2 (.inl ⟨Int.le_refl _,hp⟩)))with h1 | h1
   ·exact h1.1
   ·have:=normal_above ht h1;omega
  have lo2:p.1<=q.1:=by
   rcases inR_cons.1 ((h q.1).2 (inR_cons.2 (.inl ⟨Int.le_refl _,hq⟩)))with h1 | h1
   ·exact h1.1
   ·have:=normal_above hl h1;omega
  have hi1:q.2<=p.2:=by
   by_cases hlt:p.2<q.2
   ·rcases inR_cons.1 ((h (p.2+1)).2 (inR_cons.2 (.inl ⟨by omega,by omega⟩)))with h1 | h1
    ·omega
    ·have:=normal_above hl h1;omega
   ·omega
  have hi2:p.2<=q.2:=by
   by_cases hlt:q.2<p.2
   ·rcases inR_cons.1 ((h (q.2+1)).1 (inR_cons.2 (.inl ⟨by omega,by omega⟩)))with h1 | h1
    ·omega
    ·have:=normal_above ht h1;omega
   ·omega
  have e:p=q:=Prod.ext (by omega) (by omega);subst e;rw[normal_one (normal_tail hl) (normal_tail ht) fun n=>?_];constructor
  ·intro hn;have:=normal_above hl hn;rcases inR_cons.1 ((h n).1 (inR_cons.2 (.inr hn)))with h1 | h1
   ·omega
   ·exact h1
  ·intro hn;have:=normal_above ht hn;rcases inR_cons.1 ((h n).2 (inR_cons.2 (.inr hn)))with h1 | h1
   ·omega
   ·exact h1
def in64s (l:List (Int×Int)):Prop:=∀p ∈ l,in64 p.1/\in64 p.2
theorem joinB_snoc (o:List (Int×Int)) (p r:Int×Int):joinB (o++[p]) r=(p.2==9223372036854775807||decide (r.1<=IntKind.wrap .i64 (p.2+1))):=by
 unfold joinB;rw[List.length_append,List.length_singleton,Nat.add_sub_cancel,List.getElem?_append_right (Nat.le_refl _)];simp
theorem hiR_snoc (o:List (Int×Int)) (p r:Int×Int):hiR (o++[p]) r=o++[(p.1,if r.2 > p.2 then r.2 else p.2)]:=by
 unfold hiR;rw[List.length_append,List.length_singleton,Nat.add_sub_cancel,List.getElem?_append_right (Nat.le_refl _),Nat.sub_self];simp only[List.getElem?_cons_zero];rw[List.set_append_right _ _ (Nat.le_refl _)];simp
theorem addR_step {o:List (Int×Int)} {r:Int×Int} (ho:normal o) (h64:in64s o) (hr:in64 r.1/\in64 r.2) (hlo:∀p ∈ o,p.1<=r.1) :
  normal (addR o r)/\in64s (addR o r)/\(∀p ∈ addR o r,p.1<=r.1)/\∀n,inR (addR o r) n↔inR o n\/(r.1<=n/\n<=r.2):=by
 unfold addR;split
 ·rename_i hd;have hd:=of_decide_eq_true hd;exact⟨ho,h64,hlo,fun n=>⟨.inl,fun h=>h.elim id fun h=>by omega⟩⟩
 ·rename_i hd;have hd:¬r.2<r.1:=fun h=>hd (decide_eq_true h)
  rcases List.eq_nil_or_concat o with rfl | ⟨o',p,rfl⟩
  ·rw[if_neg (by simp[joinB])];refine⟨⟨fun q hq=>?_,by simp⟩,fun q hq=>?_,fun q hq=>?_,fun n=>?_⟩
   ·simp at hq;subst hq;omega
   ·simp at hq;subst hq;exact hr
   ·simp at hq;subst hq;omega
   ·simp[inR]
  ·rw[List.concat_eq_append]at *;rw[joinB_snoc,hiR_snoc];have hp:=ho.1 p (by simp);have hp64:=h64 p (by simp);have hplo:=hlo p (by simp);have hpw:=List.pairwise_append.1 ho.2;unfold in64 at hp64 hr;split
   ·rename_i hj;have hj:p.2=9223372036854775807\/r.1<=p.2+1:=by
     simp only[Bool.or_eq_true,beq_iff_eq,decide_eq_true_eq]at hj;rcases hj with hj | hj
     ·exact .inl hj
     ·by_cases hm:p.2=9223372036854775807
      ·exact .inl hm
      ·rw[IntWalk.i64_in _ (by omega)]at hj;exact .inr hj
    refine⟨⟨fun q hq=>?_,?_⟩,fun q hq=>?_,fun q hq=>?_,fun n=>?_⟩
    ·rcases List.mem_append.1 hq with hq | hq
     ·exact ho.1 q (by simp[hq])
     ·simp at hq;subst hq;simp only;split<;>omega
    ·refine List.pairwise_append.2 ⟨hpw.1,by simp,fun a ha b hb=>?_⟩;simp at hb;subst hb;exact hpw.2.2 a ha p (by simp)
    ·rcases List.mem_append.1 hq with hq | hq
     ·exact h64 q (by simp[hq])
     ·simp at hq;subst hq;unfold in64;simp only;split<;>omega
    ·rcases List.mem_append.1 hq with hq | hq
     ·exact hlo q (by simp[hq])
     ·simp at hq;subst hq;exact hplo
    ·rw[inR_append,inR_append,inR_cons,inR_cons];simp only[inR_nil,or_false];constructor
     ·rintro(h | h)
      ·exact .inl (.inl h)
      ·split at h
       ·by_cases hn:n<=p.2
        ·exact .inl (.inr ⟨h.1,hn⟩)
        ·exact .inr ⟨by omega,h.2⟩
       ·exact .inl (.inr h)
     ·rintro((h | h) | h)
      ·exact .inl h
      ·refine .inr ?_;split<;>omega
      ·refine .inr ?_;split<;>omega
   ·rename_i hj;have hj:p.2+1<r.1:=by
     simp only[Bool.or_eq_true,beq_iff_eq,decide_eq_true_eq,not_or]at hj;have h1:=hj.1;have h2:=hj.2;rw[IntWalk.i64_in _ (by omega)]at h2;omega
    have hall:∀a ∈ o'++[p],a.2+1<r.1:=by
     intro a ha;rcases List.mem_append.1 ha with ha | ha
     ·have h1:=hpw.2.2 a ha p (by simp);omega
     ·simp at ha;subst ha;exact hj
    refine⟨⟨fun q hq=>?_,?_⟩,fun q hq=>?_,fun q hq=>?_,fun n=>?_⟩
    ·rcases List.mem_append.1 hq with hq | hq
     ·exact ho.1 q hq
     ·simp at hq;subst hq;omega
    ·refine List.pairwise_append.2 ⟨ho.2,by simp,fun a ha b hb=>?_⟩;simp at hb;subst hb;exact hall a ha
    ·rcases List.mem_append.1 hq with hq | hq
     ·exact h64 q hq
     ·simp at hq;subst hq;exact hr
    ·rcases List.mem_append.1 hq with hq | hq
     ·exact hlo q hq
     ·simp at hq;subst hq;omega
    ·rw[inR_append,inR_cons];simp only[inR_nil,or_false]
theorem foldR_all:∀(l o:List (Int×Int)),normal o->in64s o->in64s l->l.Pairwise (fun a b=>a.1<=b.1)->(∀p ∈ o,∀r ∈ l,p.1<=r.1)->
  normal (l.foldl addR o)/\in64s (l.foldl addR o)/\∀n,inR (l.foldl addR o) n↔inR o n\/inR l n
 |[],o,ho,h64,_,_,_=>⟨ho,h64,fun n=>by simp[inR_nil]⟩
 |r::l,o,ho,h64,hl,hs,hlo=>by
  obtain⟨h1,h2,h3,h4⟩:=addR_step ho h64 (hl r (List.mem_cons_self ..)) fun p hp=>hlo p hp r (List.mem_cons_self ..)
  rw[List.pairwise_cons]at hs;obtain⟨k1,k2,k3⟩:=foldR_all l (addR o r) h1 h2 (fun p hp=>hl p (List.mem_cons_of_mem _ hp)) hs.2 fun p hp q hq=>Int.le_trans (h3 p hp) (hs.1 q hq)
  refine⟨k1,k2,fun n=>?_⟩;rw[List.foldl_cons,k3,h4,inR_cons,or_assoc]
theorem weakR:Weak ltR:=by
 constructor
 ·intro a b;unfold ltR cmpI;simp only[decide_eq_true_eq,decide_eq_false_iff_not];split<;>split<;>(try split)<;>omega
 ·intro a b c;unfold ltR cmpI;simp only[decide_eq_false_iff_not];split<;>split<;>split<;>(try split)<;>(try split)<;>(try split)<;>omega
theorem ltR_false {a b:Int×Int} (h:ltR b a=false):a.1<=b.1:=by
 unfold ltR cmpI at h;simp only[decide_eq_false_iff_not]at h;split at h
 ·omega
 ·omega
theorem normR_all {l:List (Int×Int)} (hl:in64s l):normal (normR l)/\in64s (normR l)/\∀n,inR (normR l) n↔inR l n:=by
 have hm:in64s (isort ltR l):=fun p hp=>hl p (isort_mem.1 hp)
 obtain⟨h1,h2,h3⟩:=foldR_all (isort ltR l) [] ⟨fun p hp=>(by cases hp),List.Pairwise.nil⟩ (fun p hp=>(by cases hp)) hm ((isort_asc weakR l).imp fun h=>ltR_false h) (fun p hp=>(by cases hp));refine⟨h1,h2,fun n=>?_⟩;unfold normR;rw[h3];simp[inR,isort_mem]
theorem u8_lt {a b:UInt8}:a<b↔a.toNat<b.toNat:=UInt8.lt_iff_toNat_lt
theorem u8_eq {a b:UInt8}:a=b↔a.toNat=b.toNat:=UInt8.toNat_inj.symm
theorem bl_cons {a b:UInt8} {x y:List UInt8}:Op.bytesLess (a::x) (b::y)=true↔a.toNat<b.toNat\/(a.toNat=b.toNat/\Op.bytesLess x y=true):=by
 simp only[Op.bytesLess,Bool.or_eq_true,decide_eq_true_eq,Bool.and_eq_true,beq_iff_eq,u8_lt,u8_eq]
theorem bl_irr:∀x:List UInt8,¬Op.bytesLess x x=true
 |[]=>by simp[Op.bytesLess]
 |a::x=>by rw[bl_cons];exact fun h=>h.elim (Nat.lt_irrefl _) fun h=>bl_irr x h.2
theorem bl_trans:∀x y z:List UInt8,Op.bytesLess x y=true->Op.bytesLess y z=true->Op.bytesLess x z=true
 |_,[],_,h,_=>by simp[Op.bytesLess]at h
 |_,_::_,[],_,h=>by simp[Op.bytesLess]at h
 |[],_::_,_::_,_,_=>by simp[Op.bytesLess]
 |a::x,b::y,c::z,h,k=>by
  rw[bl_cons]at h k ⊢;rcases h with h | ⟨h,h'⟩<;>rcases k with k | ⟨k,k'⟩
  ·exact .inl (by omega)
  ·exact .inl (by omega)
  ·exact .inl (by omega)
  ·exact .inr ⟨by omega,bl_trans x y z h' k'⟩
theorem bl_tri:∀x y:List UInt8,¬Op.bytesLess x y=true->¬Op.bytesLess y x=true->x=y
 |[],[],_,_=>rfl
 |[],_::_,h,_=>by simp[Op.bytesLess]at h
 |_::_,[],_,h=>by simp[Op.bytesLess]at h
 |a::x,b::y,h,k=>by
  rw[bl_cons]at h k;have e:a.toNat=b.toNat:=by omega
  rw[u8_eq.2 e,bl_tri x y (fun h'=>h (.inr ⟨e,h'⟩)) (fun h'=>k (.inr ⟨e.symm,h'⟩))]
theorem sless_irr (x:ByteArray):¬sless x x=true:=bl_irr _
theorem sless_trans {x y z:ByteArray} (h:sless x y=true) (k:sless y z=true):sless x z=true:=bl_trans _ _ _ h k
theorem sless_tri {x y:ByteArray} (h:¬sless x y=true) (k:¬sless y x=true):x=y:=by
 have:=bl_tri _ _ h k;rw[ByteArray.toList_eq,ByteArray.toList_eq]at this;cases x;cases y;simp only[Array.toList_inj]at this;rw[this]
theorem sless_asymm {x y:ByteArray} (h:sless x y=true):¬sless y x=true:=fun k=>sless_irr x (sless_trans h k)
theorem weakT:Weak ltT:=by
 constructor
 ·intro a b h;exact Bool.eq_false_iff.2 (sless_asymm h)
 ·intro a b c h k;have h:=Bool.eq_false_iff.1 h;have k:=Bool.eq_false_iff.1 k;refine Bool.eq_false_iff.2 fun hac=>?_
  by_cases hba:sless b a=true
  ·exact k (sless_trans hba hac)
  ·have:=sless_tri h hba;subst this;exact k hac
def rise (l:List ByteArray):Prop:=l.Pairwise fun a b=>sless a b=true
theorem rise_one:∀{l t:List ByteArray},rise l->rise t->(∀s,s ∈ l↔s ∈ t)->l=t
 |[],[],_,_,_=>rfl
 |[],q::t,_,_,h=>by have:=(h q).2 (List.mem_cons_self ..);cases this
 |p::l,[],_,_,h=>by have:=(h p).1 (List.mem_cons_self ..);cases this
 |p::l,q::t,hl,ht,h=>by
  have hl':=List.pairwise_cons.1 hl;have ht':=List.pairwise_cons.1 ht;have e:p=q:=by
   rcases List.mem_cons.1 ((h p).1 (List.mem_cons_self ..))with h1 | h1
   ·exact h1
   ·rcases List.mem_cons.1 ((h q).2 (List.mem_cons_self ..))with h2 | h2
    ·exact h2.symm
    ·exact(sless_asymm (ht'.1 p h1) (hl'.1 q h2)).elim
  subst e;rw[rise_one hl'.2 ht'.2 fun s=>?_];constructor
  ·intro hs;rcases List.mem_cons.1 ((h s).1 (List.mem_cons_of_mem _ hs))with h1 | h1
   ·subst h1;exact(sless_irr _ (hl'.1 _ hs)).elim
   ·exact h1
  ·intro hs;rcases List.mem_cons.1 ((h s).2 (List.mem_cons_of_mem _ hs))with h1 | h1
   ·subst h1;exact(sless_irr _ (ht'.1 _ hs)).elim
   ·exact h1
theorem compTo_all {l:List ByteArray} (hs:l.Pairwise fun a b=>ltT b a=false):∀j,j<=l.length->rise (compTo l j)/\∀s,s ∈ compTo l j↔s ∈ l.take j
 |0,_=>⟨List.Pairwise.nil,fun s=>by simp[compTo]⟩
 |j+1,hj=>by
  obtain⟨h1,h2⟩:=compTo_all hs j (by omega);obtain⟨x,hx⟩:∃x,l[j]?=some x:=⟨_,List.getElem?_eq_getElem hj⟩;have hxj:=(List.getElem?_eq_some_iff.1 hx).2;rw[compTo,hx,List.take_add_one,hx];simp only[Option.toList_some];have hget:=List.pairwise_iff_getElem.1 hs;split
  ·rename_i hc;refine⟨h1,fun s=>?_⟩;rw[h2,List.mem_append,List.mem_singleton];refine⟨.inl,fun h=>h.elim id fun h=>?_⟩;subst h;have:=List.getElem?_eq_some_iff.1 hc.2;obtain⟨hlt,he⟩:=this;rw[<-he];exact List.mem_take_iff_getElem.2 ⟨j - 1,by omega,rfl⟩
  ·rename_i hc;refine⟨List.pairwise_append.2 ⟨h1,by simp,fun a ha b hb=>?_⟩,fun s=>?_⟩
   ·rw[List.mem_singleton]at hb;subst hb;obtain⟨k,hk,hka⟩:=List.mem_take_iff_getElem.1 ((h2 a).1 ha);have hkj:k<j:=by omega
    have g1:=hget k j (by omega) hj hkj;rw[hka,hxj]at g1;have g1:=Bool.eq_false_iff.1 g1;refine Classical.byContradiction fun hno=>?_
    have e:a=b:=sless_tri hno g1;subst e;refine hc ⟨by omega,?_⟩;rw[List.getElem?_eq_getElem (by omega),Option.some.injEq];by_cases hk1:k=j - 1
    ·subst hk1;exact hka
    ·have g2:=Bool.eq_false_iff.1 (hget k (j - 1) (by omega) (by omega) (by omega));have g3:=Bool.eq_false_iff.1 (hget (j - 1) j (by omega) hj (by omega));rw[hka]at g2;rw[hxj]at g3;exact sless_tri g2 g3
   ·rw[List.mem_append,List.mem_append,h2]
theorem comp_all {l:List ByteArray} (hs:l.Pairwise fun a b=>ltT b a=false):rise (comp l)/\∀s,s ∈ comp l↔s ∈ l:=by
 have:=compTo_all hs l.length (Nat.le_refl _);rw[List.take_length]at this;exact this
theorem joinT_all (a b:List ByteArray):rise (joinT a b)/\∀s,s ∈ joinT a b↔s ∈ a\/s ∈ b:=by
 obtain⟨h1,h2⟩:=comp_all (isort_asc weakT (a++b));refine⟨h1,fun s=>?_⟩;unfold joinT;rw[h2,isort_mem,List.mem_append]

end Arb
namespace Arb
open Go
attribute [local simp] evalRgn Option.map_some evalOps step wants osem M.run_bind M.mapL M.run M.ok M.fresh M.write M.look M.lift putD Arb.set ev Arb.get keepFr bin intBin strBin mk params cellsM load obRead fadr fld isl iarr xarr idx len valid slc bound store splice nilc un eqs eq0 evalFeet footOf M.foot orderOk apartAll apart1 clash meets callM fcallM callee fz1 fzC fz flat flat1 flat0 flatI Option.bind_some putAll M.bind oo om ol oa oc ob on og od oe ci cb
section
variable {prog:Nat->Option IFn}
end
structure V where
 k:Int
 n:Int
 s:ByteArray
def V.enc (v:V):List IV:=[.int .i64 v.k,.int .i64 v.n,.str v.s]
def V.av (v:V):AV:=.agg [.iv (.int .i64 v.k),.iv (.int .i64 v.n),.iv (.str v.s)]
structure E where
 v0:V
 v1:V
 v2:V
 v3:V
def E.get (e:E):Nat->V
 |0=>e.v0
 |1=>e.v1
 |2=>e.v2
 |_=>e.v3
def E.enc (e:E):List IV:=e.v0.enc++(e.v1.enc++(e.v2.enc++e.v3.enc))
def E.cs (e:E):List AV:=e.enc.map .iv
def E.av (e:E):AV:=.agg e.cs
theorem E.cs_at (e:E) {i:Nat} (h:i<4):(e.cs.drop (i*3)).take 3=[.iv (.int .i64 (e.get i).k),.iv (.int .i64 (e.get i).n),.iv (.str (e.get i).s)]:=by
 match i,h with
 |0,_=>rfl
 |1,_=>rfl
 |2,_=>rfl
 |3,_=>rfl
theorem E.cs_12 (e:E):e.cs.take 12=e.cs:=rfl
theorem E.cs_len (e:E):e.cs.length=12:=rfl
theorem E.cs_nrm (e:E) (n0:Nat) (h:Hp):e.cs.map (nrm n0 h 8)=e.cs:=nrm_ivs n0 h e.enc
theorem E.enc_all (e:E):e.enc.all notNil=true:=by simp[E.enc,V.enc,notNil]
theorem E.cs_fzC (e:E) (w:Bool):M.mapL (fzC w) e.cs = .ret e.cs:=fzC_plain w e.enc e.enc_all
theorem E.cs_nilc (e:E) (s:Nat):nilc s e.cs = .ret e.cs:=nilc_plain e.enc s (by simp[E.enc,V.enc,notNil])
def rightV (v:V):Bool:=
 if v.k==0 then v.n==0&&v.s==⟨#[]⟩ else if v.k==1 then v.s==⟨#[]⟩ else if v.k==2 then v.n==0&&decide (v.s.size<=8) else false
def rightTo (e:E):Nat->Bool
 |0=>true
 |i+1=>rightTo e i&&rightV (e.get i)
def rightE (e:E):Bool:=rightTo e 4
def hasI (l:List (Int×Int)) (n:Int):Bool:=l.any fun p=>decide (p.1<=n)&&decide (n<=p.2)
def hasV (x:S) (v:V):Bool:=if !rightV v then false else if v.k==0 then x.a else if v.k==1 then hasI x.i v.n else hasT x.s v.s != x.c
def hasTo (b:B) (e:E):Nat->Bool
 |0=>true
 |i+1=>hasTo b e i&&hasV (b.get i) (e.get i)
def hasB (b:B) (e:E):Bool:=if !rightE e then false else hasTo b e 4
def hasF (f:List B) (e:E):Bool:=f.any fun b=>hasB b e
section
variable {prog:Nat->Option IFn}
end
def Xp.few (x:Xp):Bool:=!(decide (100<=x.count 0)||decide (20<=x.deep 0))&&x.sets
def num1 (n:Int):List IV:=[.int .i64 n]
structure Hd where
 ps:List Int
 hs:List Int
 b:Int
 g:Int
def Hd.enc (h:Hd):List IV:=[.sl 1 (h.ps.map num1),.sl 1 (h.hs.map num1),.int .i64 h.b,.int .u64 h.g]
def Hd.cs (h:Hd):List AV:=h.enc.map .iv
def Hd.av (h:Hd):AV:=.agg h.cs
theorem Hd.enc_all (x:Hd):x.enc.all notNil=true:=by simp[Hd.enc,notNil]
theorem Hd.cs_fzC (x:Hd) (w:Bool):M.mapL (fzC w) x.cs = .ret x.cs:=fzC_plain w x.enc x.enc_all
theorem Hd.cs_nilc (x:Hd) (s:Nat):nilc s x.cs = .ret x.cs:=nilc_plain x.enc s x.enc_all
theorem Hd.cs_len (x:Hd):x.cs.length=4:=rfl
theorem Hd.cs_4 (x:Hd):x.cs.take 4=x.cs:=rfl
theorem Hd.cs_nrm (x:Hd) (n0:Nat) (h:Hp):x.cs.map (nrm n0 h 8)=x.cs:=nrm_ivs n0 h x.enc
def Hd.few (h:Hd):Bool:=decide (h.ps.length<=100)&&decide (h.hs.length<=100)
structure Op where
 k:Int
 c:Int
 u:Int
 f:Int
 t:Int
 x:Xp
 e:E
structure Op.ok (o:Op):Prop where
 k:in64 o.k
 c:in64 o.c
 u:in64 o.u
 f:in64 o.f
 t:in64 o.t
 x:o.x.ok
 e:∀i,i<4->in64 (o.e.get i).k/\in64 (o.e.get i).n/\(o.e.get i).s.size<=maxLen
def Op.enc (o:Op):List IV:=.int .i64 o.k::.int .i64 o.c::.int .i64 o.u::.int .i64 o.f::.int .i64 o.t::(o.x.enc++o.e.enc)
def Op.cs (o:Op):List AV:=o.enc.map .iv
def Op.av (o:Op):AV:=.agg o.cs
def scr (l:List Op):AV:=.iv (.sl 24 (l.map Op.enc))
theorem Op.enc_all (o:Op):o.enc.all notNil=true:=by simp[Op.enc,notNil,List.all_append,Xp.enc_all,E.enc_all]
theorem Op.cs_nilc (o:Op) (s:Nat):nilc s o.cs = .ret o.cs:=nilc_plain o.enc s o.enc_all
theorem Op.cs_fzC (x:Op) (w:Bool):M.mapL (fzC w) x.cs = .ret x.cs:=fzC_plain w x.enc x.enc_all
theorem Op.enc_len (o:Op):o.enc.length=24:=by obtain⟨_,_,_,_,_,x,e⟩:=o;cases x;rfl
theorem Op.cs_len (o:Op):o.cs.length=24:=by simp[Op.cs,Op.enc_len]
theorem Op.cs_24 (o:Op):o.cs.take 24=o.cs:=List.take_of_length_le (by rw[Op.cs_len];omega)
theorem Op.enc_24 (o:Op):(o.enc.map AV.iv).take 24=o.cs:=o.cs_24
theorem Op.cs_nrm (o:Op) (n0:Nat) (h:Hp):o.cs.map (nrm n0 h 8)=o.cs:=nrm_ivs n0 h o.enc
theorem Op.at_k' (o:Op):o.cs.take 1=[.nI o.k]:=rfl
theorem Op.at_x (o:Op):(o.cs.drop 5).take 7=o.x.cs:=by obtain⟨_,_,_,_,_,x,e⟩:=o;cases x;rfl
theorem Op.at_s0 (o:Op):(o.cs.drop 14).take 1=[.iv (.str o.e.v0.s)]:=by obtain⟨_,_,_,_,_,x,e⟩:=o;cases x;rfl
theorem Op.at_s1 (o:Op):(o.cs.drop 17).take 1=[.iv (.str o.e.v1.s)]:=by obtain⟨_,_,_,_,_,x,e⟩:=o;cases x;rfl
theorem Op.at_s2 (o:Op):(o.cs.drop 20).take 1=[.iv (.str o.e.v2.s)]:=by obtain⟨_,_,_,_,_,x,e⟩:=o;cases x;rfl
theorem Op.at_s3 (o:Op):(o.cs.drop 23).take 1=[.iv (.str o.e.v3.s)]:=by obtain⟨_,_,_,_,_,x,e⟩:=o;cases x;rfl
def E.big (e:E):Bool:=decide (300<IntKind.i64.wrap (IntKind.i64.wrap (IntKind.i64.wrap (e.v0.s.size+e.v1.s.size)+e.v2.s.size)+e.v3.s.size))
def Op.few (o:Op):Bool:=o.x.few&&!o.e.big
def subsN (l:List Op):Nat:=(l.filter fun o=>o.k==1).length
def fewL (h:Hd) (l:List Op):Bool:=l.all Op.few&&(h.few&&decide (subsN l<=16)&&decide (l.length<=120))
section
variable {prog:Nat->Option IFn}
theorem p_few5 (h27:prog 27=some F27) (h169:prog 169=some F169) (h170:prog 170=some F170) (h204:prog 204=some F204) (h:prog 203=some F203) {x:Xp} (hx:x.ok):Ans prog 203 [x.av] (.bI x.few):=by
 obtain⟨K1,hK1⟩:=p_count h169 hx 0 (by omega) (by omega);obtain⟨K2,hK2⟩:=p_deep h170 hx 0 (by omega) (by omega);obtain⟨K3,hK3⟩:=p_sets h27 h204 hx;refine Ans.of h rfl rfl (Wp.seq ?_);refine Wp.rgn (K:=0) (s':=⟨[(1,.ref 1000 0 0 0)],[(1000,.cells x.cs)],1128⟩) (fun n _=>by simp[Xp.av,Xp.cs_nilc]) ?_;refine Wp.seq (Wp.seq ?_);refine Wp.rgn (K:=max K1 K2) (s':=⟨[(1,.ref 1000 0 0 0),(10,.bI (decide (100<=x.count 0)||decide (20<=x.deep 0)))],[(1000,.cells x.cs)],1640⟩) (fun n hn=>by
  have h1:=hK1 n (by omega);have h2:=hK2 n (by omega);simp only[Xp.av]at h1 h2;cases hb:decide (100<=x.count 0)<;>simp[Xp.cs_7,Xp.cs_len,Xp.cs_fzC,h1,h2,hb]) ?_
 cases hb:(decide (100<=x.count 0)||decide (20<=x.deep 0))with
 |true=>
  refine Wp.cond (t:=true) rfl (Wp.seq ?_);refine Wp.rg ?_;refine Wp.ret ?_;unfold Xp.few;rw[hb];rfl
 |false=>
  refine Wp.cond (t:=false) rfl (Wp.skip (Wp.seq ?_));refine Wp.rgn (K:=K3) (s':=⟨[(2,.bI x.sets)],[(1000,.cells x.cs)],1832⟩) (fun n hn=>by
   have h3:=hK3 n (by omega);simp only[Xp.av]at h3;simp[Xp.cs_7,Xp.cs_len,Xp.cs_fzC,h3]) ?_
  refine Wp.ret ?_;unfold Xp.few;rw[hb];cases x.sets<;>rfl
theorem p_few16 (h:prog 202=some F202) (x:Hd):Ans prog 202 [x.av] (.bI x.few):=by
 refine Ans.of h rfl rfl (Wp.seq ?_);refine Wp.rgn (K:=0) (s':=⟨[(1,.ref 1000 0 0 0)],[(1000,.cells x.cs)],1128⟩) (fun n _=>by simp[Hd.av,Hd.cs_nilc]) ?_;refine Wp.seq ?_;refine Wp.rgn (K:=0) (s':=⟨[(2,.bI x.few)],[(1000,.cells x.cs)],1832⟩) (fun n _=>by
  have e1:decide ((x.ps.length:Int)<=100)=decide (x.ps.length<=100):=decide_eq_decide.2 (by omega);have e2:decide ((x.hs.length:Int)<=100)=decide (x.hs.length<=100):=decide_eq_decide.2 (by omega);cases hb:decide (x.ps.length<=100)<;>simp[Hd.cs,Hd.enc,Hd.few,e1,e2,hb]) ?_
 exact Wp.ret rfl
theorem nrm_refc {n0:Nat} (h:1000<n0) (cs:List AV) (r:Hp):nrm n0 ((1000,.cells cs)::r) 8 (.ref 1000 0 0 0) = .ref 1000 0 0 0:=by simp[nrm,Arb.get,h]
theorem subsN_take {l:List Op} {i:Nat} {o:Op} (hx:l[i]?=some o):subsN (l.take (i+1))=subsN (l.take i)+(if o.k=1 then 1 else 0):=by
 unfold subsN;rw[List.take_add_one,hx];simp only[Option.toList_some,List.filter_append,List.length_append];by_cases h:o.k=1<;>simp[h]
theorem subsN_le (l:List Op) (i:Nat):subsN (l.take i)<=i:=by
 unfold subsN;have h1:=List.length_filter_le (fun o:Op=>o.k==1) (l.take i);have h2:(l.take i).length<=i:=List.length_take_le i l;omega
theorem p_few20 (h27:prog 27=some F27) (h169:prog 169=some F169) (h170:prog 170=some F170) (h204:prog 204=some F204) (h203:prog 203=some F203) (h202:prog 202=some F202) (h:prog 201=some F201)
  (hd:Hd) (l:List Op) (hl:l.length<=maxLen) (hx:∀o ∈ l,o.x.ok):Ans prog 201 [hd.av,scr l] (.bI (fewL hd l)):=by
 refine Ans.of h rfl rfl (Wp.seq ?_);refine Wp.rgn (K:=0) (s':=⟨[(1,scr l),(2,.ref 1000 0 0 0)],[(1000,.cells hd.cs)],1128⟩) (fun n _=>by simp[Hd.av,Hd.cs_nilc]) ?_;refine Wp.seq ?_;refine Wp.rg ?_;refine Wp.seq (Wp.seq ?_);refine Wp.rg ?_;refine Wp.block (Wp.range l.length (fun i=>⟨[(1,scr l),(2,.ref 1000 0 0 0),(5,.nI (subsN (l.take i))),(6,.nI i)],[(1000,.cells hd.cs)],1256⟩) (fun i=>(l.take i).all Op.few=true) rfl (by simp) ?_ ?_)
 ·intro i hi hg;refine Wp.seq (Wp.seq ?_);refine Wp.rgn (K:=0) (s':=⟨[(1,scr l),(2,.ref 1000 0 0 0),(5,.nI (subsN (l.take i))),(6,.nI i),(11,.bI true)],[(1000,.cells hd.cs)],1512⟩) (fun n' _=>by simp[scr,hi]) ?_;refine Wp.cond (t:=true) rfl (Wp.skip (Wp.seq (Wp.block (Wp.seq ?_))));have hxi:l[i]?=some l[i]:=List.getElem?_eq_getElem hi;generalize ho:l[i]=o at hxi;have hok:o.x.ok:=hx o (by rw[<-ho];exact List.getElem_mem _);refine Wp.rgn (K:=0) (s':=⟨[(1,scr l),(2,.ref 1000 0 0 0),(5,.nI (subsN (l.take i))),(6,.nI i),(7,.ref 1768 0 0 0)],
   [(1000,.cells hd.cs),(1777,.buf 0 2 []),(1779,.buf 0 1 []),(1780,.buf 0 7 []),(1768,.cells o.cs)],1896⟩) (fun n' _=>by
    simp[scr,hxi,Op.enc_24,Op.enc_len,Op.cs_len,Op.cs_nilc]) ?_
  refine Wp.seq (Wp.seq ?_);obtain⟨K,hK⟩:=p_few5 h27 h169 h170 h204 h203 hok;refine Wp.rgn (K:=K) (s':=⟨[(1,scr l),(2,.ref 1000 0 0 0),(5,.nI (subsN (l.take i))),(6,.nI i),(7,.ref 1768 0 0 0),(47,.bI (!o.few))],
   [(1000,.cells hd.cs),(1777,.buf 0 2 []),(1779,.buf 0 1 []),(1780,.buf 0 7 []),(1768,.cells o.cs)],3816⟩) (fun n' hn'=>by
    have hc:=hK n' hn';simp only[Xp.av]at hc;cases hf:o.x.few<;>simp[Op.at_x,Op.at_s0,Op.at_s1,Op.at_s2,Op.at_s3,Xp.cs_len,Xp.cs_fzC,hc,hf,Op.few,E.big]) ?_
  cases hf:o.few with
  |false=>
   refine Wp.cond (t:=true) rfl (Wp.seq ?_);refine Wp.rg ?_;refine Wp.ret ?_;unfold fewL;rw[all_false hxi hf];rfl
  |true=>
   refine Wp.cond (t:=false) rfl (Wp.skip (Wp.seq ?_));refine Wp.rgn (K:=0) (s':=⟨[(1,scr l),(2,.ref 1000 0 0 0),(5,.nI (subsN (l.take i))),(6,.nI i),(50,.bI (decide (o.k=1)))],
    [(1000,.cells hd.cs),(1777,.buf 0 2 []),(1779,.buf 0 1 []),(1780,.buf 0 7 []),(1768,.cells o.cs)],4008⟩) (fun n' _=>by simp[Op.at_k'];rfl) ?_
   have hle:=subsN_le l i;have hw:IntKind.i64.wrap ((subsN (l.take i):Int)+1)=(subsN (l.take i):Int)+1:=wrap_succ (N:=l.length) (by omega) hl;have hstep:=subsN_take hxi;by_cases hk:o.k=1
   ·refine Wp.cond (t:=true) (by simp[ev,Arb.get,hk]) ?_;simp only[if_true];refine Wp.rgn (K:=0) (fun n _=>by simp[hw];rfl) ?_;refine Wp.rgn (K:=0) (fun n _=>by simp[wrap_succ hi hl];rfl) ?_;refine⟨?_,by rw[take_succ_all hxi,hg,hf];rfl⟩;rw[hstep,if_pos hk];simp[again,keepFr,get,nrm_iv,nrm_refc,nrmO,Hd.cs_nrm,scr]
   ·refine Wp.cond (t:=false) (by simp[ev,Arb.get,hk]) ?_;simp only[Bool.false_eq_true,if_false];refine Wp.skip ?_;refine Wp.rgn (K:=0) (fun n _=>by simp[wrap_succ hi hl];rfl) ?_;refine⟨?_,by rw[take_succ_all hxi,hg,hf];rfl⟩;rw[hstep,if_neg hk];simp[again,keepFr,get,nrm_iv,nrm_refc,nrmO,Hd.cs_nrm,scr]
 ·intro hg;refine Wp.seq (Wp.seq ?_);refine Wp.rgn (K:=0) (s':=⟨[(1,scr l),(2,.ref 1000 0 0 0),(5,.nI (subsN l)),(6,.nI l.length),(11,.bI false)],[(1000,.cells hd.cs)],1512⟩) (fun n' _=>by simp[scr]) ?_;refine Wp.cond (t:=false) rfl (Wp.exit ?_);simp only[Ex.then,Ex.inBlock,if_true];refine Wp.seq ?_;rw[List.take_length]at hg;obtain⟨K,hK⟩:=p_few16 h202 hd;refine Wp.rgn (K:=K) (s':=⟨[(4,.bI (fewL hd l))],[(1000,.cells hd.cs)],2280⟩) (fun n' hn'=>by
   have hc:=hK n' hn';simp only[Hd.av]at hc;have e1:decide ((subsN l:Int)<=16)=decide (subsN l<=16):=decide_eq_decide.2 (by omega);have e2:decide ((l.length:Int)<=120)=decide (l.length<=120):=decide_eq_decide.2 (by omega);cases hb:hd.few<;>cases hb2:decide (subsN l<=16)<;>simp[Hd.cs_4,Hd.cs_len,Hd.cs_fzC,scr,hc,e1,e2,hb,hb2,fewL,hg]) ?_
  exact Wp.ret rfl
end
end Arb
namespace Arb
open Go
theorem ltLo_eq (a b:Int×Int):ltLo a b=ltR a b:=by
 unfold ltLo ltR cmpI;by_cases h:a.1<b.1
 ·simp[h]
 ·by_cases h2:b.1<a.1<;>simp[h,h2]
theorem normR_any {l t:List (Int×Int)} (h64:in64s l) (hm:∀x,x ∈ t↔x ∈ l) (hs:t.Pairwise fun a b=>ltLo b a=false):t.foldl addR []=normR l:=by
 have ht:in64s t:=fun p hp=>h64 p ((hm p).1 hp)
 obtain⟨h1,h2,h3⟩:=foldR_all t [] ⟨fun p hp=>(by cases hp),List.Pairwise.nil⟩ (fun p hp=>(by cases hp)) ht (hs.imp fun h=>ltR_false (by rw[<-ltLo_eq];exact h)) (fun p hp=>(by cases hp));obtain⟨n1, -,n2⟩:=normR_all h64;refine normal_one h1 n1 fun n=>?_
 rw[h3,n2];simp[inR,hm]
theorem sortT_asc (l:List ByteArray):(sortT l).Pairwise fun a b=>ltT b a=false:=by
 unfold sortT;rw[List.pairwise_map];have h:=List.pairwise_mergeSort (le:=fun(x y:List UInt8)=>decide (x<=y)) (fun a b c h1 h2=>by
  simp only[decide_eq_true_eq]at *;exact List.le_trans h1 h2) (fun a b=>by
  simp only[Bool.or_eq_true,decide_eq_true_eq];exact List.le_total a b) (l.map (·.data.toList))
 refine h.imp fun {a b} h=>?_
 simp only[decide_eq_true_eq]at h;unfold ltT sless;rw[Proofs.bytesLess_eq];simp only[decide_eq_false_iff_not,Lib.toList_data];exact List.not_lt.2 h
theorem joinT_any {a b t:List ByteArray} (hm:∀x,x ∈ t↔x ∈ a++b) (hs:t.Pairwise fun a b=>ltT b a=false):comp t=joinT a b:=by
 obtain⟨h1,h2⟩:=comp_all hs;obtain⟨h3,h4⟩:=joinT_all a b;exact rise_one h1 h3 fun s=>by rw[h2,h4,hm,List.mem_append]
theorem allSome_rng:∀l:List (Int×Int),allSome rowR (l.map rng)=some l
 |[]=>rfl
 |p::l=>by simp[allSome,rowR,rng,allSome_rng l]
theorem allSome_st1:∀l:List ByteArray,allSome rowT (l.map st1)=some l
 |[]=>rfl
 |p::l=>by simp[allSome,rowT,st1,allSome_st1 l]
theorem many_self {n:Nat} (h1:12<n) (h2:n<=100000):many n n=true:=by
 simp only[many,roomy,Bool.and_eq_true,beq_self_eq_true,true_and,Nat.ble_eq];exact⟨by simpa using h1,by omega⟩
section
variable {prog:Nat->Option IFn}
theorem r_sortR (h:prog 50=some G50) (l:List (Int×Int)) (h1:12<l.length) (h2:l.length<=100000) :
  Ev prog 50 [.own 0 0 l.length 0,.iv (.fn 51 [])] [(0,.buf 0 2 (l.map rng))] (.tup [],[(0,.buf 0 2 ((sortR l).map rng))]):=
 Ev.srt h rfl rfl (by simp[sortM,get,many_self h1 h2,allSome_rng,Arb.set];intro a b _;rfl)
theorem r_sortT (h:prog 55=some G55) (l:List ByteArray) (v:Nat) (h1:12<l.length) (h2:l.length<=100000) :
  Ev prog 55 [.own 0 0 l.length v] [(0,.buf v 1 (l.map st1))] (.tup [],[(0,.buf v 1 ((sortT l).map st1))]):=
 Ev.srt h rfl rfl (by simp[sortM,get,many_self h1 h2,allSome_st1,Arb.set];intro a _;rfl)
theorem r_ranges (H:Lib2 prog) (h38:prog 38=some F38) (h:prog 37=some F37) (l:List (Int×Int)) (hl:l.length<=100000) (h64:in64s l):Ans prog 37 [.iv (.sl 2 (l.map rng))] (.iv (.sl 2 ((normR l).map rng))):=by
 by_cases h12:l.length<=12
 ·exact p_ranges H h38 h l h12
 ·rw[<-normR_any h64 (fun x=>(sortR_all l).1.mem_iff) (sortR_all l).2];exact p_rangesQ h38 h l (sortR l) hl (sortR_len l) (r_sortR H.h50 l (by omega) hl)
theorem r_join (H:Lib2 prog) (h54:prog 54=some F54) (h56:prog 56=some F56) (h:prog 40=some F40) (a b:List ByteArray) (hl:a.length+b.length<=100000) :
  Ans prog 40 [.iv (.sl 1 (a.map st1)),.iv (.sl 1 (b.map st1))] (.iv (.sl 1 ((joinT a b).map st1))):=by
 by_cases h12:a.length+b.length<=12
 ·exact p_join H h54 h56 h a b h12
 ·rw[<-joinT_any (fun x=>(sortT_perm (a++b)).mem_iff) (sortT_asc (a++b))];exact p_joinQ h54 h56 h a b (sortT (a++b)) hl (sortT_len _) (r_sortT H.h55 (a++b) 1 (by rw[List.length_append];omega) (by rw[List.length_append];omega))
theorem r_or (H:Lib3 prog) (x y:S) (hi:x.i.length+y.i.length<=100000) (hs:x.s.length<=1000/\y.s.length<=1000) (kx:in64s x.i) (ky:in64s y.i):Ans prog 23 [x.av,y.av] (orS x y).av:=
 p_orQ H x y hi hs (r_ranges H.toLib2 H.h38 H.h37 (x.i++y.i) (by rw[List.length_append];omega) fun p hp=>(List.mem_append.1 hp).elim (kx p) (ky p)) (r_join H.toLib2 H.h54 H.h56 H.h40 x.s y.s (by omega))
end
end Arb
namespace Arb
open Go
attribute [local simp] evalRgn Option.map_some evalOps step wants osem M.run_bind M.mapL M.run M.ok M.fresh M.write M.look M.lift putD Arb.set ev Arb.get keepFr bin intBin strBin mk params cellsM load obRead fadr fld isl iarr xarr idx len valid slc bound store splice nilc un eqs eq0 evalFeet footOf M.foot orderOk apartAll apart1 clash meets callM fcallM callee fz1 fzC fz flat flat1 flat0 flatI Option.bind_some putAll M.bind oo om ol oa oc ob on og od oe ci cb
def gapsF:Int->List (Int×Int)->List (Int×Int)
 |a,[]=>[(a,9223372036854775807)]
 |a,r::l=>(if a<r.1 then[(a,IntKind.wrap .i64 (r.1 - 1))] else[])++(if r.2=9223372036854775807 then[] else gapsF (IntKind.wrap .i64 (r.2+1)) l)
theorem gapsF_len:∀(l:List (Int×Int)) (a:Int),(gapsF a l).length<=l.length+1
 |[],a=>by simp[gapsF]
 |r::l,a=>by
  have:=gapsF_len l (IntKind.wrap .i64 (r.2+1));unfold gapsF;rw[List.length_append];split<;>split<;>simp<;>omega
def minI:Int:=-9223372036854775808
section
variable {prog:Nat->Option IFn}
set_option maxHeartbeats 1000000 in
theorem p_gaps (h:prog 130=some F130) (l:List (Int×Int)) (hl:l.length<=100000):Ans prog 130 [.iv (.sl 2 (l.map rng))] (.iv (.sl 2 ((gapsF minI l).map rng))):=by
 refine Ans.of h rfl rfl (Wp.seq ?_);refine Wp.rg ?_;refine Wp.seq ?_;refine Wp.rg ?_;refine Wp.seq (Wp.seq ?_);refine Wp.rg ?_;refine Wp.block ?_;refine Wp.loop (fun m s1=>∃(i:Nat) (a:Int) (o:List (Int×Int)),i+m=l.length/\o.length<=i/\o++gapsF a (l.drop i)=gapsF minI l/\
  s1=⟨[(2,.own 1000 0 o.length 0),(3,.nI a),(6,.iv (.sl 2 (l.map rng))),(7,.nI l.length),(8,.nI i)],[(1000,.buf 0 2 (o.map rng))],1320⟩) (m:=l.length) ⟨0,minI,[],by omega,by simp,rfl,rfl⟩ ?_
 rintro m s1 ⟨i,a,o,him,hoi,hg,rfl⟩;refine Wp.seq ?_;by_cases hi:i<l.length
 ·obtain⟨r,hr⟩:∃r,l[i]?=some r:=⟨_,List.getElem?_eq_getElem hi⟩;have hd:l.drop i=r::l.drop (i+1):=drop_cons hr;rw[hd]at hg
  conv at hg=>lhs;rw[gapsF]
  refine Wp.rgn (K:=0) (fun n _=>by simp[hi];rfl) ?_;refine Wp.seq (Wp.cond rfl (Wp.skip (Wp.seq (Wp.block (Wp.seq ?_)))));refine Wp.rgn (K:=0) (fun n _=>by simp[hr,rng];rfl) ?_;refine Wp.seq (Wp.seq ?_);refine Wp.rg ?_;refine Wp.cond rfl ?_;cases hb:decide (a<r.1)with
  |true=>
   have hb':a<r.1:=by simpa using hb
   rw[if_pos hb']at hg;refine Wp.rgn (K:=0) (fun n _=>by
    simp[setAll,app,elems,roomy,show o.length+1<=1073741824 by omega];rfl) ?_
   refine Wp.seq (Wp.seq ?_);refine Wp.rg ?_;refine Wp.cond rfl ?_;cases hm:r.2==9223372036854775807 with
   |true=>
    have hm':r.2=9223372036854775807:=by simpa using hm
    rw[if_pos hm']at hg;refine Wp.seq ?_;refine Wp.rg ?_;refine Wp.ret ?_;change FinS _ _ .ret _;rw[<-hg];simp[FinS,F130,resAll,resM,outA,ev,get,M.look,M.bind,M.run,M.ok,shut,fzA,fz1,fzC,fz,M.write,rng,List.take_of_length_le]
   |false=>
    have hm':¬r.2=9223372036854775807:=by simpa using hm
    rw[if_neg hm']at hg;refine Wp.skip ?_;refine Wp.rg ?_;refine Wp.rgn (K:=0) (fun n _=>by simp[wrap_succ hi (show l.length<=maxLen by unfold maxLen;omega)];rfl) ?_;refine⟨m - 1,by omega,i+1,IntKind.wrap .i64 (r.2+1),o++[(a,IntKind.wrap .i64 (r.1 - 1))],by omega,by simp;omega,by rw[<-hg];simp,?_⟩;simp[again,keepFr,get,nrm,nrmO,rng,List.take_of_length_le]
  |false=>
   have hb':¬a<r.1:=by simpa using hb
   rw[if_neg hb']at hg;refine Wp.skip ?_;refine Wp.seq (Wp.seq ?_);refine Wp.rg ?_;refine Wp.cond rfl ?_;cases hm:r.2==9223372036854775807 with
   |true=>
    have hm':r.2=9223372036854775807:=by simpa using hm
    rw[if_pos hm']at hg;refine Wp.seq ?_;refine Wp.rg ?_;refine Wp.ret ?_;change FinS _ _ .ret _;rw[<-hg];simp[FinS,F130,resAll,resM,outA,ev,get,M.look,M.bind,M.run,M.ok,shut,fzA,fz1,fzC,fz,M.write,List.take_of_length_le]
   |false=>
    have hm':¬r.2=9223372036854775807:=by simpa using hm
    rw[if_neg hm']at hg;refine Wp.skip ?_;refine Wp.rg ?_;refine Wp.rgn (K:=0) (fun n _=>by simp[wrap_succ hi (show l.length<=maxLen by unfold maxLen;omega)];rfl) ?_;refine⟨m - 1,by omega,i+1,IntKind.wrap .i64 (r.2+1),o,by omega,by omega,by rw[<-hg];simp,?_⟩;simp[again,keepFr,get,nrm,nrmO]
 ·have hn:l.drop i=[]:=List.drop_eq_nil_of_le (by omega);rw[hn]at hg;refine Wp.rgn (K:=0) (fun n _=>by simp[hi];rfl) ?_;refine Wp.seq (Wp.cond rfl (Wp.exit ?_));simp only[Ex.then,Ex.inBlock,if_true];refine Wp.seq ?_;refine Wp.rgn (K:=0) (fun n _=>by
    simp[setAll,app,elems,roomy,show o.length+1<=1073741824 by omega];rfl) ?_
  refine Wp.ret ?_;rw[<-hg];simp[FinS,F130,resAll,resM,outA,ev,get,M.look,M.bind,M.run,M.ok,shut,fzA,fz1,fzC,fz,M.write,rng,gapsF,List.take_of_length_le]
def notS (x:S):S:=⟨!x.a,gapsF minI (normR x.i),!x.c,x.s⟩
structure Lib8 (prog:Nat->Option IFn):Prop extends Lib3 prog where
 h129:prog 129=some F129
 h130:prog 130=some F130
 h126:prog 126=some F126
set_option maxHeartbeats 2000000 in
theorem p_not (H:Lib8 prog) (x:S) (hi:x.i.length<=10000) (hs:x.s.length<=1000) (h64:in64s x.i):Ans prog 129 [x.av] (notS x).av:=by
 obtain⟨K1,hK1⟩:=r_ranges H.toLib2 H.h38 H.h37 x.i (by omega) h64;have hn:(normR x.i).length<=x.i.length:=by have:=foldR_len (isort ltR x.i) [];rw[isort_len]at this;simpa[normR]using this
 obtain⟨K2,hK2⟩:=p_gaps H.h130 (normR x.i) (by omega);refine Ans.of H.h129 rfl rfl (Wp.seq ?_);refine Wp.rgn (K:=0) (fun n _=>by simp[S.av];rfl) ?_;refine Wp.seq ?_;refine Wp.rgn (K:=max (max K1 K2) 1) (fun n hn=>by
  obtain⟨n,rfl⟩:∃n',n=n'+1:=⟨n - 1,by omega⟩;have e1:=hK1 (n+1) (by omega);have e2:=hK2 (n+1) (by omega);have hr:x.s.length<=1073741824:=by omega
  have f54:∀es,evalF prog (n+1) 54 [.iv (.sl 1 es)] []=(cloneM 1 [.iv (.sl 1 es)]).run []:=fun es=>by simp only[evalF,H.h54,F54];rfl
  generalize evalF prog (n+1)=g at e1 e2 f54;simp[ocallM,takeR,f54,cloneM,roomy,hr,e1,e2];rfl) ?_
 refine Wp.ret ?_;simp[FinS,F129,resAll,resM,outA,load,obRead,mk,ev,get,M.look,M.bind,M.run,M.run_bind,M.ok,M.lift,shut,fzA,fz1,fzC,fz,M.mapL,S.av,notS,M.write,List.take_of_length_le]
end
theorem nrm_refU (n0:Nat) (h:Hp) (id ver i j:Nat):nrm n0 h 8 (.ref id ver i j)=if id<1000 then .ref id ver i j else if id<n0 then(match get h id with
   |some (.buf v _ _) | some (.imm v _ _)=>if v=ver then .ref id 0 i j else .undef
   |some (.cells _) | some (.map _)=>.ref id ver i j
   |none=>.undef) else .undef:=rfl
theorem nrm_ownU (n0:Nat) (h:Hp) (id o n ver:Nat):nrm n0 h 8 (.own id o n ver)=if id<1000 then .own id o n ver else if id<n0 then(match get h id with
   |some (.buf v _ _) | some (.imm v _ _)=>if v=ver then .own id o n 0 else .undef
   |_=>.undef) else .undef:=rfl
theorem gapsF_64:∀(l:List (Int×Int)) (a:Int),in64 a->in64s l->in64s (gapsF a l)
 |[],a,ha,_=>fun p hp=>by
  simp only[gapsF,List.mem_singleton]at hp;subst hp;exact⟨ha,by unfold in64;omega⟩
 |r::l,a,ha,h=>fun p hp=>by
  have hw:∀n,in64 (IntKind.wrap .i64 n):=fun n=>by
   have:=IntKind.wrap_i64 n;unfold in64;omega
  unfold gapsF at hp;rcases List.mem_append.1 hp with hp | hp
  ·split at hp
   ·simp only[List.mem_singleton]at hp;subst hp;exact⟨ha,hw _⟩
   ·cases hp
  ·split at hp
   ·cases hp
   ·exact gapsF_64 l _ (hw _) (fun q hq=>h q (List.mem_cons_of_mem _ hq)) p hp
structure S.lim (x:S) (n m:Nat):Prop where
 i:x.i.length<=n
 s:x.s.length<=m
 k:in64s x.i
theorem S.lim.mono {x:S} {n m n' m':Nat} (h:x.lim n m) (hn:n<=n') (hm:m<=m'):x.lim n' m':=⟨Nat.le_trans h.i hn,Nat.le_trans h.s hm,h.k⟩
theorem min64:in64 minI:=by unfold in64 minI;omega
theorem normR_len (l:List (Int×Int)):(normR l).length<=l.length:=by have:=foldR_len (isort ltR l) [];rw[isort_len]at this;simpa[normR]using this
theorem notS_lim {x:S} {n m:Nat} (h:x.lim n m):(notS x).lim (n+1) m:=by
 refine⟨?_,h.s,gapsF_64 _ _ min64 (normR_all h.k).2.1⟩;have h1:=gapsF_len (normR x.i) minI;have h2:=normR_len x.i;have h3:=h.i;simp only[notS];omega
theorem comp_len (l:List ByteArray):(comp l).length<=l.length:=compTo_len l _
theorem orT_len (x y:S):(orT x y).length<=x.s.length+y.s.length:=by
 unfold orT;split
 ·exact Nat.le_trans (List.length_filter_le _ _) (by omega)
 ·split
  ·exact Nat.le_trans (List.length_filter_le _ _) (by omega)
  ·split
   ·exact Nat.le_trans (List.length_filter_le _ _) (by omega)
   ·unfold joinT;have:=comp_len (isort ltT (x.s++y.s));rw[isort_len,List.length_append]at this;exact this
theorem orS_lim {x y:S} {n m n' m':Nat} (h:x.lim n m) (h':y.lim n' m'):(orS x y).lim (n+n') (m+m'):=by
 refine⟨?_,Nat.le_trans (orT_len x y) (Nat.add_le_add h.s h'.s),(normR_all fun p hp=>(List.mem_append.1 hp).elim (h.k p) (h'.k p)).2.1⟩;have:=normR_len (x.i++y.i);rw[List.length_append]at this;have h1:=h.i;have h2:=h'.i;simp only[orS];omega
def andS (x y:S):S:=notS (orS (notS x) (notS y))
theorem andS_lim {x y:S} {n m n' m':Nat} (h:x.lim n m) (h':y.lim n' m'):(andS x y).lim (n+n'+3) (m+m'):=
 (notS_lim (orS_lim (notS_lim h) (notS_lim h'))).mono (by omega) (Nat.le_refl _)
def inS (x y:S):Bool:=sameS (orS x y) y
def inB (a b:B):Bool:=anyB emptyS a||(inS a.s0 b.s0&&(inS a.s1 b.s1&&(inS a.s2 b.s2&&inS a.s3 b.s3)))
theorem inB_false {a b:B} {i:Nat} (he:anyB emptyS a=false) (h:i<4) (hf:inS (a.get i) (b.get i)=false):inB a b=false:=by
 unfold inB;rw[he]
 match i,h with
 |0,_=>simp[show inS a.s0 b.s0=false from hf]
 |1,_=>simp[show inS a.s1 b.s1=false from hf]
 |2,_=>simp[show inS a.s2 b.s2=false from hf]
 |3,_=>simp[show inS a.s3 b.s3=false from hf]
theorem inB_true {a b:B} (h:∀i,i<4->inS (a.get i) (b.get i)=true):inB a b=true:=by
 have h0:inS a.s0 b.s0=true:=h 0 (by omega);have h1:inS a.s1 b.s1=true:=h 1 (by omega);have h2:inS a.s2 b.s2=true:=h 2 (by omega);have h3:inS a.s3 b.s3=true:=h 3 (by omega);simp[inB,h0,h1,h2,h3]
def B.lim (b:B) (n m:Nat):Prop:=∀i,i<4->(b.get i).lim n m
structure Lib9 (prog:Nat->Option IFn):Prop extends Lib8 prog where
 h17:prog 17=some F17
 h32:prog 32=some F32
 h33:prog 33=some F33
 h66:prog 66=some F66
 h59:prog 59=some F59
 h60:prog 60=some F60
 h67:prog 67=some F67
 h73:prog 73=some F73
 h47:prog 47=some F47
section
variable {prog:Nat->Option IFn}
set_option maxHeartbeats 2000000 in
theorem p_and (H:Lib8 prog) (x y:S) (hx:x.lim 1000 400) (hy:y.lim 1000 400):Ans prog 126 [x.av,y.av] (andS x y).av:=by
 have nx:=notS_lim hx;have ny:=notS_lim hy;have no:=orS_lim nx ny;obtain⟨K1,hK1⟩:=p_not H x (by have:=hx.i;omega) (by have:=hx.s;omega) hx.k;obtain⟨K2,hK2⟩:=p_not H y (by have:=hy.i;omega) (by have:=hy.s;omega) hy.k;obtain⟨K3,hK3⟩:=r_or H.toLib3 (notS x) (notS y) (by have:=nx.i;have:=ny.i;omega) ⟨by have:=nx.s;omega,by have:=ny.s;omega⟩ nx.k ny.k;obtain⟨K4,hK4⟩:=p_not H (orS (notS x) (notS y)) (by have:=no.i;omega) (by have:=no.s;omega) no.k;refine Ans.of H.h126 rfl rfl (Wp.seq ?_);refine Wp.rgn (K:=0) (fun n _=>by simp[S.av];rfl) ?_;refine Wp.seq ?_;refine Wp.rgn (K:=max (max K1 K2) (max K3 K4)) (fun n hn=>by
  have e1:=hK1 n (by omega);have e2:=hK2 n (by omega);have e3:=hK3 n (by omega);have e4:=hK4 n (by omega);generalize evalF prog n=g at e1 e2 e3 e4;simp only[S.av]at e1 e2 e3 e4;simp[e1,e2,e3,e4];rfl) ?_
 refine Wp.ret ?_;simp[FinS,F126,resAll,resM,outA,load,obRead,mk,ev,get,M.look,M.bind,M.run,M.run_bind,M.ok,M.lift,shut,fzA,fz1,fzC,fz,M.mapL,S.av,andS]
theorem p_inS' (H:Lib9 prog) (x y:S) (hx:x.lim 1000 400) (hy:y.lim 1000 400):Ans prog 73 [x.av,y.av] (.bI (inS x y)):=by
 have no:=orS_lim hx hy;obtain⟨K1,hK1⟩:=r_or H.toLib3 x y (by have:=hx.i;have:=hy.i;omega) ⟨by have:=hx.s;omega,by have:=hy.s;omega⟩ hx.k hy.k;obtain⟨K2,hK2⟩:=p_sameS H.h32 H.h33 H.h17 (orS x y) y (by have:=no.i;unfold maxLen;omega) (by have:=no.s;unfold maxLen;omega);refine Ans.of H.h73 rfl rfl (Wp.seq ?_);refine Wp.rgn (K:=0) (fun n _=>by simp[S.av];rfl) ?_;refine Wp.seq ?_;refine Wp.rgn (K:=max K1 K2) (fun n hn=>by
  have e1:=hK1 n (by omega);have e2:=hK2 n (by omega);generalize evalF prog n=g at e1 e2;simp only[S.av]at e1 e2;simp[e1,e2];rfl) ?_
 exact Wp.ret rfl
set_option maxHeartbeats 1000000 in
theorem p_inB' (H:Lib9 prog) (a b:B) (ha:a.lim 1000 400) (hb:b.lim 1000 400):Ans prog 67 [a.av,b.av] (.bI (inB a b)):=by
 obtain⟨K0,hK0⟩:=p_emptyB H.h66 H.h59 a;refine Ans.of H.h67 rfl rfl (Wp.seq ?_);refine Wp.rgn (K:=0) (s':=⟨[(2,.ref 1000 0 0 0),(3,.ref 1064 0 0 0)],[(1000,.cells a.cs),(1064,.cells b.cs)],1192⟩) (fun n _=>by simp[B.av,B.cs_nilc]) ?_;refine Wp.seq (Wp.seq ?_);refine Wp.rgn (K:=K0) (s':=⟨[(2,.ref 1000 0 0 0),(3,.ref 1064 0 0 0),(7,.bI (anyB emptyS a))],[(1000,.cells a.cs),(1064,.cells b.cs)],1320⟩) (fun n hn=>by
  have e1:=hK0 n (by omega);simp only[B.av]at e1;simp[B.cs_16,B.cs_len,B.cs_fzC,e1]) ?_
 refine Wp.cond rfl ?_;cases he:anyB emptyS a with
 |true=>
  refine Wp.seq ?_;refine Wp.rg ?_;refine Wp.ret ?_;have:inB a b=true:=by unfold inB;rw[he];rfl
  rw[this];rfl
 |false=>
  refine Wp.skip (Wp.seq (Wp.seq ?_));refine Wp.rg ?_;refine Wp.block ?_;refine Wp.range 4 (fun i=>⟨[(2,.ref 1000 0 0 0),(3,.ref 1064 0 0 0),(8,.nI i)],[(1000,.cells a.cs),(1064,.cells b.cs)],1384⟩) (fun i=>∀j,j<i->inS (a.get j) (b.get j)=true) (by simp[keepFr,get]) (fun j hj=>by omega) ?_ ?_
  ·intro i hi hall;have hi4:(i:Int)<4:=by omega
   obtain⟨K,hK⟩:=p_inS' H (a.get i) (b.get i) (ha i hi) (hb i hi);refine Wp.seq ?_;refine Wp.rgn (K:=0) (fun n _=>by simp[hi4,hi];rfl) ?_;refine Wp.seq (Wp.cond rfl (Wp.skip (Wp.seq (Wp.block (Wp.seq ?_)))));refine Wp.rg ?_;refine Wp.seq ?_;refine Wp.rgn (K:=K) (s':=⟨[(2,.ref 1000 0 0 0),(3,.ref 1064 0 0 0),(8,.nI i),(18,.bI (!inS (a.get i) (b.get i)))],[(1000,.cells a.cs),(1064,.cells b.cs)],2088⟩) (fun n hn=>by
    have e1:=hK n (by omega);simp only[S.av]at e1;simp[hi4,hi,B.cs_at a hi,B.cs_at b hi,B.cs_len,e1]) ?_
   refine Wp.cond rfl ?_;cases hin:inS (a.get i) (b.get i)with
   |false=>
    simp only[Bool.not_false,if_true];refine Wp.seq ?_;refine Wp.rg ?_;refine Wp.ret ?_;rw[inB_false he hi hin];rfl
   |true=>
    refine Wp.skip ?_;simp only[Ex.then,Ex.inBlock];refine Wp.rgn (K:=0) (fun n _=>by simp[wrap_lt4 hi];rfl) ?_;refine⟨by simp[again,keepFr,get,nrm_iv,nrm_refU,nrm_ownU,nrmO,B.cs_nrm],fun j hj=>?_⟩;by_cases h:j=i
    ·subst h;exact hin
    ·exact hall j (by omega)
  ·intro hall;refine Wp.seq ?_;refine Wp.rg ?_;refine Wp.seq (Wp.cond rfl (Wp.exit ?_));simp only[Ex.then,Ex.inBlock,if_true];refine Wp.seq ?_;refine Wp.rg ?_;refine Wp.ret ?_;rw[inB_true hall];rfl
end
def hidesB (a b:B) (t:Bool):Bool:=inB a b&&(t||!inB b a)
def needl (l:List B) (b:B) (i:Nat):Nat->Bool
 |0=>false
 |k+1=>needl l b i k||(k != i&&(match l[k]? with | some c=>hidesB b c (decide (k<i)) | none=>false))
def tidyTo (l:List B):Nat->List B
 |0=>[]
 |i+1=>tidyTo l i++(match l[i]? with | some b=>if anyB emptyS b||needl l b i l.length then[] else[b] | none=>[])
def tidyF (l:List B):List B:=tidyTo l l.length
theorem tidyTo_succ {l:List B} {i:Nat} {b:B} (h:l[i]?=some b):tidyTo l (i+1)=tidyTo l i++(if anyB emptyS b||needl l b i l.length then[] else[b]):=by
 simp only[tidyTo,h]
theorem needl_succ {l:List B} {b c:B} {i k:Nat} (h:l[k]?=some c):needl l b i (k+1)=(needl l b i k||(k != i&&hidesB b c (decide (k<i)))):=by
 simp only[needl,h]
theorem tidyTo_len (l:List B):∀i,(tidyTo l i).length<=i
 |0=>by simp[tidyTo]
 |i+1=>by
  have:=tidyTo_len l i;unfold tidyTo;split<;>(try split)<;>simp<;>omega
theorem tidyTo_mem {l:List B}:∀{i:Nat} {b:B},b ∈ tidyTo l i->b ∈ l
 |0,b,h=>by simp[tidyTo]at h
 |i+1,b,h=>by
  unfold tidyTo at h;rcases List.mem_append.1 h with h | h
  ·exact tidyTo_mem h
  ·split at h
   ·rename_i c hc;split at h
    ·cases h
    ·simp only[List.mem_singleton]at h;subst h;exact List.mem_of_getElem? hc
   ·cases h
section
variable {prog:Nat->Option IFn}
set_option maxHeartbeats 1000000 in
theorem p_hides (H:Lib9 prog) (a b:B) (t:Bool) (ha:a.lim 1000 400) (hb:b.lim 1000 400):Ans prog 60 [.iv (.ptr a.enc),.iv (.ptr b.enc),.bI t] (.bI (hidesB a b t)):=by
 obtain⟨K1,hK1⟩:=p_inB' H a b ha hb;obtain⟨K2,hK2⟩:=p_inB' H b a hb ha;refine Ans.of H.h60 rfl rfl (Wp.seq ?_);refine Wp.rg ?_;refine Wp.seq ?_;refine Wp.rgn (K:=max K1 K2) (s':=⟨[(6,.bI (hidesB a b t))],[],2408⟩) (fun n hn=>rgn_quiet' rfl (by
  have e1:=hK1 n (by omega);have e2:=hK2 n (by omega);simp only[B.av]at e1 e2;unfold hidesB;cases h1:inB a b<;>cases t<;>simp[B.enc_take,B.enc_len,B.enc_cs,B.cs_fzC,e1,e2,h1])) ?_
 exact Wp.ret rfl
set_option maxHeartbeats 4000000 in
theorem p_tidy (H:Lib9 prog) (l:List B) (hl:l.length<=10000) (hL:∀b ∈ l,b.lim 1000 400):Ans prog 47 [filt l] (filt (tidyF l)):=by
 have hlm:l.length<=maxLen:=by unfold maxLen;omega
 refine Ans.of H.h47 rfl rfl (Wp.seq ?_);refine Wp.rg ?_;refine Wp.seq (Wp.seq ?_);refine Wp.rgn (K:=0) (fun n _=>by simp[filt];rfl) ?_;refine Wp.block ?_;refine Wp.range l.length (fun i=>⟨[(0,filt l),(2,.own 1000 0 (tidyTo l i).length 0),(7,.nI l.length),(8,.nI i)],[(1000,.buf 0 16 ((tidyTo l i).map B.enc))],1256⟩) (fun _=>True) (by simp[keepFr,get,filt,tidyTo]) trivial ?_ ?_
 ·intro i hi _;obtain⟨b,hb⟩:∃b,l[i]?=some b:=⟨_,List.getElem?_eq_getElem hi⟩;have hbl:=hL b (List.mem_of_getElem? hb);have hlen:=tidyTo_len l i;have hnext:tidyTo l (i+1)=tidyTo l i++(if anyB emptyS b||needl l b i l.length then[] else[b]):=tidyTo_succ hb;generalize hacc:tidyTo l i=acc at hlen hnext;obtain⟨K,hK⟩:=p_emptyB H.h66 H.h59 b;refine Wp.seq ?_;refine Wp.rgn (K:=0) (fun n _=>by simp[hi];rfl) ?_;refine Wp.seq (Wp.cond rfl (Wp.skip (Wp.seq (Wp.block (Wp.seq ?_)))));refine Wp.rg ?_;refine Wp.seq (Wp.seq ?_);refine Wp.rgn (K:=K) (s':=⟨[(0,filt l),(2,.own 1000 0 acc.length 0),(3,.nI i),(7,.nI l.length),(8,.nI i),(15,.bI (anyB emptyS b))],[(1000,.buf 0 16 (acc.map B.enc))],1768⟩) (fun n hn=>by
   have hc:=hK n hn;simp only[B.av]at hc;simp[filt,hb,B.enc_take,B.enc_len,B.enc_cs,B.cs_fzC,hc]) ?_
  refine Wp.cond rfl ?_;cases he:anyB emptyS b with
  |true=>
   rw[he]at hnext;refine Wp.exit ?_;simp only[Ex.then,Ex.inBlock,if_true];refine Wp.rg ?_;refine⟨?_,trivial⟩;rw[hnext];simp[again,keepFr,get,nrm,nrmO,filt,wrap_succ hi hlm]
  |false=>
   rw[he]at hnext;refine Wp.skip (Wp.seq ?_);refine Wp.rg ?_;refine Wp.seq (Wp.seq ?_);refine Wp.rgn (K:=0) (fun n _=>by simp[filt];rfl) ?_;refine Wp.block ?_;refine Wp.range l.length (fun k=>⟨[(0,filt l),(2,.own 1000 0 acc.length 0),(3,.nI i),(4,.bI (needl l b i k)),(7,.nI l.length),(8,.nI i),(17,.nI l.length),(18,.nI k)],[(1000,.buf 0 16 (acc.map B.enc))],2024⟩)
    (fun _=>True) (by simp[keepFr,get,filt,needl]) trivial ?_ ?_
   ·intro k hk _;obtain⟨c,hc⟩:∃c,l[k]?=some c:=⟨_,List.getElem?_eq_getElem hk⟩;have hn:needl l b i (k+1)=(needl l b i k||(k != i&&hidesB b c (decide (k<i)))):=needl_succ hc;obtain⟨K,hK⟩:=p_hides H b c (decide (k<i)) hbl (hL c (List.mem_of_getElem? hc));generalize hq:needl l b i k=q at hn;refine Wp.seq ?_;refine Wp.rgn (K:=0) (fun n _=>by simp[hk];rfl) ?_;refine Wp.seq (Wp.cond rfl (Wp.skip (Wp.seq (Wp.block (Wp.seq ?_)))));refine Wp.rg ?_;refine Wp.rgn (K:=K) (s':=⟨[(0,filt l),(2,.own 1000 0 acc.length 0),(3,.nI i),(4,.bI (needl l b i (k+1))),(7,.nI l.length),(8,.nI i),(17,.nI l.length),(18,.nI k)],[(1000,.buf 0 16 (acc.map B.enc))],3432⟩)
     (fun n hn'=>rgn_quiet' rfl (by
      have e:=hK n hn';rw[hn];have hki:decide ((k:Int)<(i:Int))=decide (k<i):=decide_eq_decide.2 (by omega);have hne:((k:Int) != (i:Int))=(k != i):=by
       by_cases h:k=i
       ·subst h;simp
       ·have h1:(k:Int)≠i:=by omega
        rw[bne_iff_ne.2 h1,bne_iff_ne.2 h]
      cases q with
      |true=>simp
      |false=>cases h1:k != i<;>simp[filt,hb,hc,hki,hne,h1,e])) ?_
    simp only[Ex.then,Ex.inBlock];refine Wp.rgn (K:=0) (fun n _=>by simp[wrap_succ hk hlm];rfl) ?_;exact⟨by simp[again,keepFr,get,nrm,nrmO,filt],trivial⟩
   ·intro _;refine Wp.seq ?_;refine Wp.rg ?_;refine Wp.seq (Wp.cond rfl (Wp.exit ?_));simp only[Ex.then,Ex.inBlock,if_true];refine Wp.seq ?_;refine Wp.rg ?_;refine Wp.cond rfl ?_;cases hn:needl l b i l.length with
    |true=>
     rw[hn]at hnext;simp only[Bool.not_true,Bool.false_eq_true,if_false];refine Wp.skip ?_;simp only[Ex.then,Ex.inBlock];refine Wp.rg ?_;refine⟨?_,trivial⟩;rw[hnext];simp[again,keepFr,get,nrm,nrmO,filt,wrap_succ hi hlm]
    |false=>
     rw[hn]at hnext;simp only[Bool.not_false,if_true];refine Wp.rgn (K:=0) (fun n _=>by
      simp[-fzC, -fz,filt,hb,B.enc_take,B.enc_len,B.enc_cs,B.cs_len,B.cs_fz,setAll,app,elems,roomy,show acc.length+1<=1073741824 by omega];rfl) ?_
     simp only[Ex.then,Ex.inBlock];refine Wp.rg ?_;refine⟨?_,trivial⟩;rw[hnext];simp[again,keepFr,get,nrm,nrmO,filt,wrap_succ hi hlm,List.take_of_length_le]
 ·intro _;refine Wp.seq ?_;refine Wp.rg ?_;refine Wp.seq (Wp.cond rfl (Wp.exit ?_));simp only[Ex.then,Ex.inBlock,if_true];refine Wp.seq ?_;refine Wp.rg ?_;refine Wp.ret ?_;simp[FinS,F47,resAll,resM,outA,ev,get,M.look,M.bind,M.run,M.ok,shut,fzA,fz1,fzC,fz,M.write,filt,tidyF];exact List.take_of_length_le (by simp)
end
def andB (x y:B):B:=⟨andS x.s0 y.s0,andS x.s1 y.s1,andS x.s2 y.s2,andS x.s3 y.s3⟩
theorem andB_lim {x y:B} {n m n' m':Nat} (h:x.lim n m) (h':y.lim n' m'):(andB x y).lim (n+n'+3) (m+m'):=by
 intro i hi
 match i,hi with
 |0,_=>exact andS_lim (h 0 (by omega)) (h' 0 (by omega))
 |1,_=>exact andS_lim (h 1 (by omega)) (h' 1 (by omega))
 |2,_=>exact andS_lim (h 2 (by omega)) (h' 2 (by omega))
 |3,_=>exact andS_lim (h 3 (by omega)) (h' 3 (by omega))
def prodRow (x:B) (l:List B):List B:=(l.map (andB x)).filter fun c=>!anyB emptyS c
def prodF (a b:List B):List B:=a.flatMap fun x=>prodRow x b
theorem prodRow_len (x:B) (l:List B):(prodRow x l).length<=l.length:=by
 have:=List.length_filter_le (fun c=>!anyB emptyS c) (l.map (andB x));rw[List.length_map]at this;exact this
theorem prodF_len (b:List B):∀a:List B,(prodF a b).length<=a.length*b.length
 |[]=>by simp[prodF]
 |x::a=>by
  have h1:=prodF_len b a;have h2:=prodRow_len x b;simp only[prodF,List.flatMap_cons,List.length_append,List.length_cons,Nat.succ_mul]at *;omega
def allS:S:=⟨true,[(-9223372036854775808,9223372036854775807)],true,[]⟩
def allBx:B:=⟨allS,allS,allS,allS⟩
def zeroCs (s:Nat):List AV:=[.iv (.bool false),.own (s+2) 0 0 0,.iv (.bool false),.own (s+4) 0 0 0,.iv (.bool false),.own (s+6) 0 0 0,.iv (.bool false),.own (s+8) 0 0 0,
 .iv (.bool false),.own (s+10) 0 0 0,.iv (.bool false),.own (s+12) 0 0 0,.iv (.bool false),.own (s+14) 0 0 0,.iv (.bool false),.own (s+16) 0 0 0]
def andHp (x y:B) (cs:List AV):Hp:=[(1000,.cells x.cs),(1064,.cells y.cs),(1130,.buf 0 2 []),(1132,.buf 0 1 []),(1134,.buf 0 2 []),(1136,.buf 0 1 []),(1138,.buf 0 2 []),(1140,.buf 0 1 []),(1142,.buf 0 2 []),(1144,.buf 0 1 []),(1128,.cells cs)]
section
variable {prog:Nat->Option IFn}
set_option maxHeartbeats 4000000 in
theorem p_boxAnd (H:Lib8 prog) (h:prog 115=some F115) (x y:B) (hx:x.lim 1000 400) (hy:y.lim 1000 400):Ans prog 115 [x.av,y.av] (andB x y).av:=by
 refine Ans.of h rfl rfl (Wp.seq ?_);refine Wp.rgn (K:=0) (s':=⟨[(2,.ref 1000 0 0 0),(3,.ref 1064 0 0 0),(4,.ref 1128 0 0 0)],andHp x y (zeroCs 1128),1192⟩) (fun n _=>by simp[B.av,B.cs_nilc,andHp,zeroCs]) ?_;refine Wp.seq (Wp.seq ?_);refine Wp.rg ?_;refine Wp.block ?_;refine Wp.range 4 (fun i=>⟨[(2,.ref 1000 0 0 0),(3,.ref 1064 0 0 0),(4,.ref 1128 0 0 0),(6,.nI i)],andHp x y ((andB x y).cs.take (i*4)++(zeroCs 1128).drop (i*4)),1256⟩) (fun _=>True) (by simp[keepFr,get]) trivial ?_ ?_
 ·intro i hi _;have hi4:(i:Int)<4:=by omega
  obtain⟨K,hK⟩:=p_and H (x.get i) (y.get i) (hx i hi) (hy i hi);refine Wp.seq ?_;refine Wp.rgn (K:=0) (fun n _=>by simp[hi4,hi];rfl) ?_;refine Wp.seq (Wp.cond rfl (Wp.skip (Wp.seq (Wp.block (Wp.seq ?_)))));refine Wp.rg ?_;refine Wp.rgn (K:=K) (s':=⟨[(2,.ref 1000 0 0 0),(3,.ref 1064 0 0 0),(4,.ref 1128 0 0 0),(6,.nI i)],andHp x y ((andB x y).cs.take ((i+1)*4)++(zeroCs 1128).drop ((i+1)*4)),2088⟩) (fun n hn=>by
   have e1:=hK n (by omega);generalize evalF prog n=g at e1;have hxa:=B.cs_at x hi;have hya:=B.cs_at y hi;have hz:splice ((andB x y).cs.take (i*4)++(zeroCs 1128).drop (i*4)) (i*4) [.iv (.bool (andS (x.get i) (y.get i)).a),.iv (.sl 2 ((andS (x.get i) (y.get i)).i.map rng)),.iv (.bool (andS (x.get i) (y.get i)).c),.iv (.sl 1 ((andS (x.get i) (y.get i)).s.map st1))] =
     (andB x y).cs.take ((i+1)*4)++(zeroCs 1128).drop ((i+1)*4):=by
    match i,hi with
    |0,_=>rfl
    |1,_=>rfl
    |2,_=>rfl
    |3,_=>rfl
   have hzl:((andB x y).cs.take (i*4)++(zeroCs 1128).drop (i*4)).length=16:=by
    match i,hi with
    |0,_=>rfl
    |1,_=>rfl
    |2,_=>rfl
    |3,_=>rfl
   simp only[S.av]at e1;have hm:i*4+4<=16:=by omega
   generalize(andB x y).cs.take (i*4)++(zeroCs 1128).drop (i*4)=zs at hz hzl;simp[-fzC, -fz,andHp,hi4,hi,hxa,hya,B.cs_len,fzC,fz,e1,hzl,hm];simpa[splice]using hz) ?_
  simp only[Ex.then,Ex.inBlock];refine Wp.rgn (K:=0) (fun n _=>by simp[wrap_lt4 hi];rfl) ?_;refine⟨?_,trivial⟩
  match i,hi with
  |0,_=>simp[again,keepFr,get,nrm_iv,nrm_refU,nrm_ownU,nrmO,andHp,B.cs_nrm,zeroCs,B.cs,B.enc,S.enc]
  |1,_=>simp[again,keepFr,get,nrm_iv,nrm_refU,nrm_ownU,nrmO,andHp,B.cs_nrm,zeroCs,B.cs,B.enc,S.enc]
  |2,_=>simp[again,keepFr,get,nrm_iv,nrm_refU,nrm_ownU,nrmO,andHp,B.cs_nrm,zeroCs,B.cs,B.enc,S.enc]
  |3,_=>simp[again,keepFr,get,nrm_iv,nrm_refU,nrm_ownU,nrmO,andHp,B.cs_nrm,zeroCs,B.cs,B.enc,S.enc]
 ·intro _;refine Wp.seq ?_;refine Wp.rg ?_;refine Wp.seq (Wp.cond rfl (Wp.exit ?_));simp only[Ex.then,Ex.inBlock,if_true];refine Wp.seq ?_;have h16:(andB x y).cs.take (4*4)++(zeroCs 1128).drop (4*4)=(andB x y).cs:=rfl;rw[h16];refine Wp.rgn (K:=0) (s':=⟨[(4,.ref 1128 0 0 0)],andHp x y (andB x y).cs,1448⟩) (fun n _=>by
   have hp:splice (andB x y).cs 0 (andB x y).cs=(andB x y).cs:=B.put_all _ _ (B.cs_len _);simp[-fzC, -fz, -splice,andHp,B.cs_16,B.cs_len,B.cs_nilc,hp]) ?_
  refine Wp.ret ?_;simp[FinS,F115,resAll,resM,outA,load,obRead,mk,ev,get,M.look,M.bind,M.run,M.run_bind,M.ok,M.lift,shut,fzA,fz1,B.cs_16,B.cs_len,B.cs_fzC,B.av,andHp]
set_option maxHeartbeats 1000000 in
theorem p_atom (hA:Ans prog 42 [] allBx.av) (h19:prog 19=some F19) (h:prog 26=some F26) (x:S) {i:Nat} (hi:i<4):Ans prog 26 [.nI i,x.av] (allBx.put i x).av:=by
 obtain⟨K1,hK1⟩:=hA;obtain⟨K2,hK2⟩:=p_with h19 allBx x hi;refine Ans.of h rfl rfl (Wp.seq ?_);refine Wp.rgn (K:=0) (fun n _=>by simp[S.av];rfl) ?_;refine Wp.seq ?_;refine Wp.rgn (K:=max K1 K2) (fun n hn=>by
  have e1:=hK1 n (by omega);have e2:=hK2 n (by omega);generalize evalF prog n=g at e1 e2;simp only[S.av,B.av]at e1 e2;have hp:splice (zeroCs 1064) 0 (allBx.put i x).cs=(allBx.put i x).cs:=B.put_all _ _ rfl;simp only[zeroCs]at hp;simp[-fzC, -fz,B.cs_fzC,fzC,fz,e1,e2,B.cs_len,B.cs_nilc,hp];rfl) ?_
 refine Wp.ret ?_;simp[FinS,F26,resAll,resM,outA,load,obRead,mk,ev,get,M.look,M.bind,M.run,M.run_bind,M.ok,M.lift,shut,fzA,fz1,B.cs_16,B.cs_len,B.cs_fzC,B.av]
end
def rowsHp (s:Nat):Hp:=[(s+2,.buf 0 2 []),(s+4,.buf 0 1 []),(s+6,.buf 0 2 []),(s+8,.buf 0 1 []),(s+10,.buf 0 2 []),(s+12,.buf 0 1 []),(s+14,.buf 0 2 []),(s+16,.buf 0 1 [])]
def prodHp (o:List B) (x:B):Hp:=[(1000,.buf 0 16 (o.map B.enc)),(1450,.buf 0 2 []),(1452,.buf 0 1 []),(1454,.buf 0 2 []),(1456,.buf 0 1 []),(1458,.buf 0 2 []),(1460,.buf 0 1 []),(1462,.buf 0 2 []),(1464,.buf 0 1 []),(1448,.cells x.cs)]
section
variable {prog:Nat->Option IFn}
set_option maxHeartbeats 1000000 in
theorem p_product (H:Lib9 prog) (h115:prog 115=some F115) (h:prog 121=some F121) (a b:List B) (la:a.length<=1000) (lb:b.length<=1000) (ha:∀x ∈ a,x.lim 1000 400) (hb:∀x ∈ b,x.lim 1000 400) :
  Ans prog 121 [filt a,filt b] (filt (prodF a b)):=by
 have lam:a.length<=maxLen:=by unfold maxLen;omega
 have lbm:b.length<=maxLen:=by unfold maxLen;omega
 refine Ans.of h rfl rfl (Wp.seq ?_);refine Wp.rg ?_;refine Wp.seq (Wp.seq ?_);refine Wp.rgn (K:=0) (fun n _=>by simp[filt];rfl) ?_;refine Wp.block ?_;refine Wp.range a.length (fun i=>⟨[(1,filt b),(4,.own 1000 0 (prodF (a.take i) b).length 0),(10,filt a),(11,.nI a.length),(12,.nI i)],[(1000,.buf 0 16 ((prodF (a.take i) b).map B.enc))],1256⟩) (fun _=>True) (by simp[keepFr,get,filt,prodF]) trivial ?_ ?_
 ·intro i hi _;obtain⟨x,hx⟩:∃x,a[i]?=some x:=⟨_,List.getElem?_eq_getElem hi⟩;have hxl:=ha x (List.mem_of_getElem? hx);have hnext:prodF (a.take (i+1)) b=prodF (a.take i) b++prodRow x b:=by
   rw[List.take_add_one,hx];simp[prodF]
  have hacl:(prodF (a.take i) b).length<=1000000:=by
   have h1:=prodF_len b (a.take i);have h2:(a.take i).length<=1000:=by rw[List.length_take];omega
   exact Nat.le_trans h1 (Nat.le_trans (Nat.mul_le_mul h2 lb) (by omega))
  generalize hacc:prodF (a.take i) b=acc at hnext hacl;refine Wp.seq ?_;refine Wp.rgn (K:=0) (fun n _=>by simp[hi];rfl) ?_;refine Wp.seq (Wp.cond rfl (Wp.skip (Wp.seq (Wp.block (Wp.seq ?_)))));refine Wp.rgn (K:=0) (s':=⟨[(1,filt b),(4,.own 1000 0 acc.length 0),(6,.ref 1448 0 0 0),(10,filt a),(11,.nI a.length),(12,.nI i)],prodHp acc x,1576⟩) (fun n _=>by
   simp[-fzC, -fz, -splice,filt,hx,B.enc_take,B.enc_len,B.enc_cs,B.cs_len,B.cs_nilc,B.put_all,prodHp]) ?_
  refine Wp.seq ?_;refine Wp.rgn (K:=0) (fun n _=>by simp[filt];rfl) ?_;refine Wp.block ?_;refine Wp.range b.length (fun k=>⟨[(1,filt b),(4,.own 1000 0 (acc++prodRow x (b.take k)).length 0),(6,.ref 1448 0 0 0),(10,filt a),(11,.nI a.length),(12,.nI i),(16,filt b),(17,.nI b.length),(18,.nI k)],
   prodHp (acc++prodRow x (b.take k)) x,1768⟩) (fun _=>True) (by simp[keepFr,get,filt,prodRow]) trivial ?_ ?_
  ·intro k hk _;obtain⟨y,hy⟩:∃y,b[k]?=some y:=⟨_,List.getElem?_eq_getElem hk⟩;have hyl:=hb y (List.mem_of_getElem? hy);obtain⟨K1,hK1⟩:=p_boxAnd H.toLib8 h115 x y hxl hyl;obtain⟨K2,hK2⟩:=p_emptyB H.h66 H.h59 (andB x y);have hn:prodRow x (b.take (k+1))=prodRow x (b.take k)++if anyB emptyS (andB x y) then[] else[andB x y]:=by
    rw[List.take_add_one,hy];cases h:anyB emptyS (andB x y)<;>simp[prodRow,h]
   have hrl:(acc++prodRow x (b.take k)).length<=1001000:=by
    have:=prodRow_len x (b.take k);rw[List.length_append];rw[List.length_take]at this;omega
   rw[hn,<-List.append_assoc];generalize acc++prodRow x (b.take k)=ac at hrl;clear hn;generalize andB x y=z at hK1 hK2;refine Wp.seq ?_;refine Wp.rgn (K:=0) (fun n _=>by simp[hk,prodHp];rfl) ?_;refine Wp.seq (Wp.cond rfl (Wp.skip (Wp.seq (Wp.block (Wp.seq ?_)))));refine Wp.rgn (K:=0) (s':=⟨[(1,filt b),(4,.own 1000 0 ac.length 0),(6,.ref 1448 0 0 0),(8,.ref 1960 0 0 0),(10,filt a),(11,.nI a.length),(12,.nI i),(16,filt b),(17,.nI b.length),(18,.nI k)],
    prodHp ac x++rowsHp 1960++[(1960,.cells y.cs)],2088⟩) (fun n _=>by
    simp[-fzC, -fz, -splice,filt,hy,B.enc_take,B.enc_len,B.enc_cs,B.cs_len,B.cs_nilc,B.put_all,prodHp,rowsHp]) ?_
   refine Wp.seq ?_;refine Wp.rgn (K:=K1) (s':=⟨[(1,filt b),(4,.own 1000 0 ac.length 0),(6,.ref 1448 0 0 0),(9,.ref 2280 0 0 0),(10,filt a),(11,.nI a.length),(12,.nI i),(16,filt b),(17,.nI b.length),(18,.nI k)],
    prodHp ac x++rowsHp 1960++[(1960,.cells y.cs)]++rowsHp 2280++[(2280,.cells z.cs)],2408⟩) (fun n hn'=>by
    have e:=hK1 n hn';generalize evalF prog n=g at e;simp only[B.av]at e;simp[-fzC, -fz, -splice,fz1,B.cs_16,B.cs_fzC,B.cs_len,B.cs_nilc,B.put_all,prodHp,rowsHp,e]) ?_
   refine Wp.seq ?_;refine Wp.rgn (K:=K2) (s':=⟨[(1,filt b),(4,.own 1000 0 ac.length 0),(6,.ref 1448 0 0 0),(9,.ref 2280 0 0 0),(10,filt a),(11,.nI a.length),(12,.nI i),(16,filt b),(17,.nI b.length),(18,.nI k),(27,.bI (!anyB emptyS z))],
    prodHp ac x++rowsHp 1960++[(1960,.cells y.cs)]++rowsHp 2280++[(2280,.cells z.cs)],2600⟩) (fun n hn'=>by
    have e:=hK2 n hn';generalize evalF prog n=g at e;simp only[B.av]at e;simp[-fzC, -fz, -splice,fz1,B.cs_16,B.cs_fzC,B.cs_len,prodHp,rowsHp,e]) ?_
   refine Wp.cond rfl ?_;cases he:anyB emptyS z with
   |true=>
    refine Wp.skip ?_;simp only[Ex.then,Ex.inBlock];refine Wp.rgn (K:=0) (fun n _=>by simp[wrap_succ hk lbm,prodHp,rowsHp];rfl) ?_;refine⟨?_,trivial⟩;simp[again,keepFr,get,nrm_iv,nrm_refU,nrm_ownU,nrmO,filt,prodHp,rowsHp,B.cs_nrm]
   |false=>
    refine Wp.rgn (K:=0) (fun n _=>by
     simp[-fzC, -fz,prodHp,rowsHp,filt,B.cs_16,B.enc_cs,B.cs_len,B.cs_fz,setAll,app,elems,roomy,show ac.length+1<=1073741824 by omega];rfl) ?_
    simp only[Ex.then,Ex.inBlock];refine Wp.rgn (K:=0) (fun n _=>by simp[wrap_succ hk lbm];rfl) ?_;refine⟨?_,trivial⟩;simp[again,keepFr,get,nrm_iv,nrm_refU,nrm_ownU,nrmO,filt,prodHp,B.cs_nrm,List.take_of_length_le]
  ·intro _;refine Wp.seq ?_;refine Wp.rgn (K:=0) (fun n _=>by simp[prodHp];rfl) ?_;refine Wp.seq (Wp.cond rfl (Wp.exit ?_));simp only[Ex.then,Ex.inBlock,if_true];refine Wp.rgn (K:=0) (fun n _=>by simp[wrap_succ hi lam];rfl) ?_;refine⟨?_,trivial⟩;rw[hnext];simp[again,keepFr,get,nrm_iv,nrm_refU,nrm_ownU,nrmO,filt,B.cs_nrm]
 ·intro _;refine Wp.seq ?_;refine Wp.rg ?_;refine Wp.seq (Wp.cond rfl (Wp.exit ?_));simp only[Ex.then,Ex.inBlock,if_true];refine Wp.seq ?_;refine Wp.rg ?_;refine Wp.ret ?_;simp[FinS,F121,resAll,resM,outA,ev,get,M.look,M.bind,M.run,M.ok,shut,fzA,fz1,fzC,fz,M.write,filt];exact List.take_of_length_le (by simp)
end
def rsB (b:B):Bool:=allB rightS b&&allB smallS b
def rightF (l:List B):Bool:=decide (l.length<=4)&&(l.all rsB&&(tidyF l).length==l.length)
section
variable {prog:Nat->Option IFn}
set_option maxHeartbeats 1000000 in
theorem p_rightF (H:Lib9 prog) (h24:prog 24=some F24) (h46:prog 46=some F46) (h58:prog 58=some F58) (h45:prog 45=some F45) (h:prog 30=some F30) (l:List B) (hl:l.length<=10000) (hL:∀b ∈ l,b.lim 1000 400) :
  Ans prog 30 [filt l] (.bI (rightF l)):=by
 have hlm:l.length<=maxLen:=by unfold maxLen;omega
 refine Ans.of h rfl rfl (Wp.seq ?_);refine Wp.rg ?_;refine Wp.seq (Wp.seq ?_);refine Wp.rgn (K:=0) (fun n _=>by simp[filt];rfl) ?_;refine Wp.cond rfl ?_;by_cases h4:l.length<=4
 ·have h4':decide ((4:Int)<(l.length:Int))=false:=decide_eq_false (by omega);rw[h4'];refine Wp.skip (Wp.seq (Wp.seq ?_));refine Wp.rgn (K:=0) (fun n _=>by simp[filt];rfl) ?_;refine Wp.block ?_;refine Wp.range l.length (fun i=>⟨[(0,filt l),(8,filt l),(9,.nI l.length),(10,.nI i)],[],1448⟩) (fun i=>(l.take i).all rsB=true) (by simp[keepFr,get,filt]) (by simp) ?_ ?_
  ·intro i hi hall;obtain⟨b,hb⟩:∃b,l[i]?=some b:=⟨_,List.getElem?_eq_getElem hi⟩;have hbl:=hL b (List.mem_of_getElem? hb);obtain⟨K1,hK1⟩:=p_rightB rightS (fun x h1 h2=>p_rightS h58 x h1 h2) h45 b (fun j hj=>⟨by have:=(hbl j hj).i;unfold maxLen;omega,by have:=(hbl j hj).s;unfold maxLen;omega⟩);obtain⟨K2,hK2⟩:=p_smallB h24 h46 b;refine Wp.seq ?_;refine Wp.rgn (K:=0) (fun n _=>by simp[hi];rfl) ?_;refine Wp.seq (Wp.cond rfl (Wp.skip (Wp.seq (Wp.block (Wp.seq ?_)))));refine Wp.rgn (K:=0) (fun n _=>by
    simp[-fzC, -fz,filt,hb,B.enc_take,B.enc_len,B.enc_cs,B.cs_len,B.cs_nilc];rfl) ?_
   refine Wp.seq ?_;refine Wp.rgn (K:=max K1 K2) (s':=⟨[(0,filt l),(8,filt l),(9,.nI l.length),(10,.nI i),(21,.bI (!(allB rightS b&&allB smallS b)))],_,_⟩) (fun n hn=>by
    have e1:=hK1 n (by omega);have e2:=hK2 n (by omega);simp only[B.av]at e1 e2;cases hb:allB rightS b<;>rw[hb]at e1<;>simp[filt,B.cs_16,B.cs_len,B.cs_fzC,e1,e2]
    all_goals exact⟨rfl,rfl⟩) ?_
   refine Wp.cond rfl ?_;cases hrb:allB rightS b&&allB smallS b with
   |false=>
    refine Wp.seq ?_;refine Wp.rg ?_;refine Wp.ret ?_;have:rightF l=false:=by
     unfold rightF;rw[all_false hb (show rsB b=false from hrb)];simp
    rw[this];rfl
   |true=>
    refine Wp.skip ?_;simp only[Ex.then,Ex.inBlock];refine Wp.rgn (K:=0) (fun n _=>by simp[wrap_succ hi hlm];rfl) ?_;exact⟨by simp[again,keepFr,get,nrm,nrmO,filt],by rw[take_succ_all hb,hall];exact hrb⟩
  ·intro hall;rw[List.take_length]at hall;obtain⟨K3,hK3⟩:=p_tidy H l hl hL;refine Wp.seq ?_;refine Wp.rg ?_;refine Wp.seq (Wp.cond rfl (Wp.exit ?_));simp only[Ex.then,Ex.inBlock,if_true];refine Wp.seq ?_;refine Wp.rgn (K:=K3) (s':=⟨[(2,.bI (rightF l))],[],_⟩) (fun n hn=>by
    have e3:=hK3 n hn;simp only[filt]at e3;have e4:rightF l=(((tidyF l).length:Int)==(l.length:Int)):=by
     unfold rightF;rw[hall,decide_eq_true h4];simp only[Bool.true_and];by_cases h:(tidyF l).length=l.length
     ·rw[h];simp
     ·have:¬((tidyF l).length:Int)=(l.length:Int):=by omega
      rw[beq_eq_false_iff_ne.2 h,beq_eq_false_iff_ne.2 this]
    rw[e4];generalize tidyF l=t at e3;simp[filt,e3];rfl) ?_
   exact Wp.ret rfl
 ·have h4':decide ((4:Int)<(l.length:Int))=true:=decide_eq_true (by omega);rw[h4'];refine Wp.seq ?_;refine Wp.rg ?_;refine Wp.ret ?_;have:rightF l=false:=by unfold rightF;rw[decide_eq_false h4];rfl
  rw[this];rfl
end
end Arb
namespace Arx
open Go Arb
theorem lset_nil (n:Nat) (x:AV):Arx.set ([]:Fr) n x=[(n,x)]:=rfl
theorem lset_cons (p:Nat×AV) (r:Fr) (n:Nat) (x:AV):Arx.set (p::r) n x=if p.1=n then(n,x)::r else p::Arx.set r n x:=rfl
mutual
def meas:Nat->Xp->Int->Int×Int×Bool
 |left,.mk _ _ _ sub,p=>if left=0\/40<p+1 then(p+1,0,false) else measL (left - 1) sub (p+1) 0
def measL:Nat->List Xp->Int->Int->Int×Int×Bool
 |_,[],p,d=>(p,d+1,true)
 |left,x::l,p,d=>if(meas left x p).2.2 then measL left l (meas left x p).1 (if(meas left x p).2.1 > d then(meas left x p).2.1 else d) else((meas left x p).1,0,false)
end
mutual
theorem meas_in:∀(x:Xp) (left:Nat) (p:Int),0<=p->p<=40->p<(meas left x p).1/\(meas left x p).1<=41/\0<=(meas left x p).2.1/\(meas left x p).2.1<=left/\((meas left x p).2.2=true->(meas left x p).1<=40)
 |.mk k a s sub,left,p,h0,h1=>by
  unfold meas;split
  ·simp;omega
  ·rename_i h;have:=measL_in sub (left - 1) (p+1) 0 (by omega) (by omega) (by omega) (by omega);exact⟨by omega,by omega,by omega,by omega,this.2.2.2.2⟩
theorem measL_in:∀(l:List Xp) (left:Nat) (p d:Int),0<=p->p<=40->0<=d->d<=left->p<=(measL left l p d).1/\(measL left l p d).1<=41/\0<=(measL left l p d).2.1/\(measL left l p d).2.1<=left+1/\((measL left l p d).2.2=true->(measL left l p d).1<=40)
 |[],left,p,d,h0,h1,h2,h3=>by simp[measL];omega
 |x::l,left,p,d,h0,h1,h2,h3=>by
  have hx:=meas_in x left p h0 h1;unfold measL;split
  ·rename_i hok;have hd:0<=(if(meas left x p).2.1 > d then(meas left x p).2.1 else d)/\(if(meas left x p).2.1 > d then(meas left x p).2.1 else d)<=left:=by split<;>omega
   have:=measL_in l left (meas left x p).1 _ (by omega) (hx.2.2.2.2 hok) hd.1 hd.2;exact⟨by omega,by omega,by omega,by omega,this.2.2.2.2⟩
  ·simp;omega
end
def PX (H:Hp) (v:AV) (x:Xp) (bar:Nat):Prop:=v = .iv (.ptr x.enc)\/∃id,v = .ref id 0 0 0/\get H id=some (.cells (x.enc.map .iv))/\id≠bar
section
variable {p1:Nat->Option Arb.IFn} {p2:Nat->Option IFn}
theorem Ev.ofx (hp2:PrimsLe p2) {f:Nat} {fn:IFn} (hf:p2 f=some fn) (hcl:fn.prim=none) {args:List AV} (hn:args.length=fn.np) {hp:Hp} {nx:Nat} (P:AV×Hp×Nat->Prop) (h:Wp p1 p2 fn.body ⟨params args 0,hp,nx⟩ (fun e s=>∃p,P p/\Fin fn.res p e s)) :
  ∃p,P p/\Ev p1 p2 f args hp nx p:=by
 obtain⟨K,ex,s',h,p,hP,hq⟩:=h;exact⟨p,hP,Ev.of hp2 hf hcl hn ⟨K,ex,s',h,hq⟩⟩
theorem ev191 (hp2:PrimsLe p2) (h:p2 191=some F191) {x:Xp} (hx:x.ok):∀(left:Nat) (p:Int) (v:AV) (H:Hp) (nx pid:Nat),left<=8->0<=p->p<=40->PX H v x pid->get H pid=some (.cells [.iv (.int .i64 p)])->
  ∃H' nx',nx<=nx'/\get H' pid=some (.cells [.iv (.int .i64 (meas left x p).1)])/\(∀k,k≠pid->get H' k=get H k)/\
   Ev p1 p2 191 [v,.iv (.int .i64 left),.ref pid 0 0 0] H nx (.tup [.iv (.int .i64 (meas left x p).2.1),.iv (.bool (meas left x p).2.2)],H',nx'):=by
 induction hx with
 |@mk k a s sub hk ha hs hl _ ih=>
  intro left p v H nx pid hleft hp0 hp1 hv hpid;have hw:IntKind.i64.wrap (p+1)=p+1:=IntWalk.i64_in _ (by omega);generalize hX:Xp.mk k a s sub=X at hv;have hmeas:meas left X p=if left=0\/40<p+1 then(p+1,0,false) else measL (left - 1) sub (p+1) 0:=by rw[<-hX];conv=>lhs;unfold meas
  have key:Wp p1 p2 F191.body ⟨params [v,.iv (.int .i64 left),.ref pid 0 0 0] 0,H,nx⟩ (fun e s=>∃r:AV×Hp×Nat,(r.1 = .tup [.iv (.int .i64 (meas left X p).2.1),.iv (.bool (meas left X p).2.2)]/\nx<=r.2.2/\
    get r.2.1 pid=some (.cells [.iv (.int .i64 (meas left X p).1)])/\(∀k,k≠pid->get r.2.1 k=get H k))/\Fin F191.res r e s):=by
   refine Wp.seq ?_;refine Wp.rgn (K:=0) (fun n _=>by simp[evalRgn,Option.map_some,evalOps,oo,om,ol,oa,oc,ob,on,og,od,oe,ci,cb,step,wants,isS,osem,M.run_bind,M.mapL,M.run,M.ok,M.fresh,M.write,M.look,M.lift,putD,ev,fr_cons,fr_nil,keepFr,lset_nil,lset_cons,get_set_same,bin,binM,intBin,strBin,mk,params,cellsM,load,obRead,fadr,fld,isl,iarr,xarr,idx,len,valid,slc,rowLen,bound,store,splice,un,callee,Option.bind_some,M.bind,putAll];rfl) ?_;refine Wp.seq (Wp.seq ?_);refine Wp.rgn (K:=0) (fun n _=>by simp[evalRgn,Option.map_some,evalOps,oo,om,ol,oa,oc,ob,on,og,od,oe,ci,cb,step,wants,isS,osem,M.run_bind,M.mapL,M.run,M.ok,M.fresh,M.write,M.look,M.lift,putD,ev,fr_cons,fr_nil,keepFr,lset_nil,lset_cons,get_set_same,bin,binM,intBin,strBin,mk,params,cellsM,load,obRead,fadr,fld,isl,iarr,xarr,idx,len,valid,slc,rowLen,bound,store,splice,un,callee,Option.bind_some,M.bind,putAll,hpid,hw];rfl) ?_
   have hc1:((left:Int)==0)=decide (left=0):=by
    by_cases h:left=0
    ·subst h;rfl
    ·rw[decide_eq_false h];exact beq_eq_false_iff_ne.2 (by omega)
   refine Wp.seq ?_;refine Wp.rgn (K:=0) (s':=⟨[(0,v),(1,.iv (.int .i64 left)),(2,.ref pid 0 0 0),(6,.iv (.int .i64 0)),(23,.iv (.bool (decide (left=0)||decide (40<p+1))))],Arx.set H pid (.cells [.iv (.int .i64 (p+1))]),nx+16⟩) (fun n _=>by
    cases hb:decide (left=0)<;>simp[evalRgn,Option.map_some,evalOps,oo,om,ol,oa,oc,ob,on,og,od,oe,ci,cb,step,wants,isS,osem,M.run_bind,M.mapL,M.run,M.ok,M.fresh,M.write,M.look,M.lift,putD,ev,fr_cons,fr_nil,keepFr,lset_nil,lset_cons,get_set_same,bin,binM,intBin,strBin,mk,params,cellsM,load,obRead,fadr,fld,isl,iarr,xarr,idx,len,valid,slc,rowLen,bound,store,splice,un,callee,Option.bind_some,M.bind,putAll,hc1,hb]) ?_
   by_cases hstop:left=0\/40<p+1
   ·refine Wp.cond (t:=true) (by simpa[ev,fr_cons]using hstop) ?_;simp only[if_true];refine Wp.seq ?_;refine Wp.rgn (K:=0) (fun n _=>by simp[evalRgn,Option.map_some,evalOps,oo,om,ol,oa,oc,ob,on,og,od,oe,ci,cb,step,wants,isS,osem,M.run_bind,M.mapL,M.run,M.ok,M.fresh,M.write,M.look,M.lift,putD,ev,fr_cons,fr_nil,keepFr,lset_nil,lset_cons,get_set_same,bin,binM,intBin,strBin,mk,params,cellsM,load,obRead,fadr,fld,isl,iarr,xarr,idx,len,valid,slc,rowLen,bound,store,splice,un,callee,Option.bind_some,M.bind,putAll];rfl) ?_;refine Wp.ret ?_;rw[if_pos hstop]at hmeas;rw[hmeas];exact⟨(_,_,_),⟨rfl,show nx<=nx+16+2 by omega,get_set_same _ _ _,fun k hk=>get_set_ne _ _ (Ne.symm hk)⟩,rfl,rfl⟩
   ·refine Wp.cond (t:=false) (by simpa[ev,fr_cons]using hstop) ?_;simp only[Bool.false_eq_true,if_false];rw[if_neg hstop]at hmeas;refine Wp.skip (Wp.seq (Wp.seq ?_));have hread:∀H',get H' pid=some (.cells [.iv (.int .i64 (p+1))])->(∀k,k≠pid->get H' k=get H k)->PX H' v X pid:=fun H' h1 h2=>by
     rcases hv with rfl | ⟨id,rfl,h3,h4⟩
     ·exact .inl rfl
     ·exact .inr ⟨id,rfl,by rw[h2 id h4];exact h3,h4⟩
    have hv1:=hread (Arx.set H pid (.cells [.iv (.int .i64 (p+1))])) (get_set_same _ _ _) fun k hk=>get_set_ne _ _ (Ne.symm hk)
    generalize hH1:Arx.set H pid (.cells [.iv (.int .i64 (p+1))])=H1 at hv1;have hold1:∀k,k≠pid->get H1 k=get H k:=fun k hk=>by rw[<-hH1];exact get_set_ne _ _ (Ne.symm hk)
    have hpid1:get H1 pid=some (.cells [.iv (.int .i64 (p+1))]):=by rw[<-hH1];exact get_set_same _ _ _
    refine Wp.rgn (K:=0) (s':=⟨[(0,v),(1,.iv (.int .i64 left)),(2,.ref pid 0 0 0),(6,.iv (.int .i64 0)),(28,.iv (.int .i64 sub.length)),(29,.iv (.int .i64 0))],H1,nx+22⟩) (fun n _=>by
     subst hX;rcases hv1 with rfl | ⟨id,rfl,h3,h4⟩
     ·simp[evalRgn,Option.map_some,evalOps,oo,om,ol,oa,oc,ob,on,og,od,oe,ci,cb,step,wants,isS,osem,M.run_bind,M.mapL,M.run,M.ok,M.fresh,M.write,M.look,M.lift,putD,ev,fr_cons,fr_nil,keepFr,lset_nil,lset_cons,get_set_same,bin,binM,intBin,strBin,mk,params,cellsM,load,obRead,fadr,fld,isl,iarr,xarr,idx,len,valid,slc,rowLen,bound,store,splice,un,callee,Option.bind_some,M.bind,putAll,Xp.enc,Xp.encs_map]
     ·simp[evalRgn,Option.map_some,evalOps,oo,om,ol,oa,oc,ob,on,og,od,oe,ci,cb,step,wants,isS,osem,M.run_bind,M.mapL,M.run,M.ok,M.fresh,M.write,M.look,M.lift,putD,ev,fr_cons,fr_nil,keepFr,lset_nil,lset_cons,get_set_same,bin,binM,intBin,strBin,mk,params,cellsM,load,obRead,fadr,fld,isl,iarr,xarr,idx,len,valid,slc,rowLen,bound,store,splice,un,callee,Option.bind_some,M.bind,putAll,h3,Xp.enc,Xp.encs_map]) ?_
    refine Wp.block ?_;refine Wp.loop (fun m s1=>∃(i:Nat) (q d:Int) (H2:Hp) (n2:Nat),i+m=sub.length/\0<=q/\q<=40/\0<=d/\d<=(left - 1:Nat)/\measL (left - 1) (sub.drop i) q d=measL (left - 1) sub (p+1) 0/\get H2 pid=some (.cells [.iv (.int .i64 q)])/\
     (∀k,k≠pid->get H2 k=get H k)/\nx<=n2/\s1=⟨[(0,v),(1,.iv (.int .i64 left)),(2,.ref pid 0 0 0),(6,.iv (.int .i64 d)),(28,.iv (.int .i64 sub.length)),(29,.iv (.int .i64 i))],H2,n2⟩) (m:=sub.length)
     ⟨0,p+1,0,H1,nx+22,by omega,by omega,by omega,by omega,by omega,rfl,hpid1,hold1,by omega,rfl⟩ ?_
    rintro m s1 ⟨i,q,d,H2,n2,him,hq0,hq1,hd0,hd1,hm,hpid2,hold2,hn2,rfl⟩;refine Wp.seq ?_;by_cases hi:i<sub.length
    ·have hx:sub[i]?=some sub[i]:=List.getElem?_eq_getElem hi;have hd:sub.drop i=sub[i]::sub.drop (i+1):=List.drop_eq_getElem_cons hi;have hin:=meas_in sub[i] (left - 1) q hq0 hq1;obtain⟨H3,n3,hn3,hpid3,hold3,K,hK⟩:=ih sub[i] (List.getElem_mem _) (left - 1) q (.iv (.ptr (sub[i]).enc)) H2 (n2+3+15) pid (by omega) hq0 hq1 (.inl rfl) hpid2;have hwl:IntKind.i64.wrap ((left:Int) - 1)=((left - 1:Nat):Int):=by rw[IntWalk.i64_in _ (by omega)];omega
     have hwi:IntKind.i64.wrap ((i:Int)+1)=(i:Int)+1:=wrap_succ hi hl;rw[hd]at hm
     conv at hm=>lhs;unfold measL
     have hv2:=hread H2;refine Wp.rgn (K:=0) (fun n _=>by simp[evalRgn,Option.map_some,evalOps,oo,om,ol,oa,oc,ob,on,og,od,oe,ci,cb,step,wants,isS,osem,M.run_bind,M.mapL,M.run,M.ok,M.fresh,M.write,M.look,M.lift,putD,ev,fr_cons,fr_nil,keepFr,lset_nil,lset_cons,get_set_same,bin,binM,intBin,strBin,mk,params,cellsM,load,obRead,fadr,fld,isl,iarr,xarr,idx,len,valid,slc,rowLen,bound,store,splice,un,callee,Option.bind_some,M.bind,putAll,hi];rfl) ?_;refine Wp.seq (Wp.cond (t:=true) rfl (Wp.skip (Wp.seq (Wp.block (Wp.seq ?_)))));refine Wp.rgn (K:=0) (s':=⟨[(0,v),(1,.iv (.int .i64 left)),(2,.ref pid 0 0 0),(6,.iv (.int .i64 d)),(8,.iv (.int .i64 i)),(28,.iv (.int .i64 sub.length)),(29,.iv (.int .i64 i))],H2,n2+3⟩) (fun n _=>by simp[evalRgn,Option.map_some,evalOps,oo,om,ol,oa,oc,ob,on,og,od,oe,ci,cb,step,wants,isS,osem,M.run_bind,M.mapL,M.run,M.ok,M.fresh,M.write,M.look,M.lift,putD,ev,fr_cons,fr_nil,keepFr,lset_nil,lset_cons,get_set_same,bin,binM,intBin,strBin,mk,params,cellsM,load,obRead,fadr,fld,isl,iarr,xarr,idx,len,valid,slc,rowLen,bound,store,splice,un,callee,Option.bind_some,M.bind,putAll]) ?_
     refine Wp.seq ?_;generalize hr:meas (left - 1) sub[i] q=r at hK hm hin hpid3;obtain⟨q',d',ok⟩:=r;refine Wp.rgn (K:=K) (s':=⟨[(0,v),(1,.iv (.int .i64 left)),(2,.ref pid 0 0 0),(6,.iv (.int .i64 d)),(9,.iv (.int .i64 d')),(10,.iv (.bool ok)),(28,.iv (.int .i64 sub.length)),(29,.iv (.int .i64 i))],H3,n3⟩) (fun n hn=>by
      have hc:=hK n hn;subst hX;rcases hv with rfl | ⟨id,rfl,h3,h4⟩
      ·simp[evalRgn,Option.map_some,evalOps,oo,om,ol,oa,oc,ob,on,og,od,oe,ci,cb,step,wants,isS,osem,M.run_bind,M.mapL,M.run,M.ok,M.fresh,M.write,M.look,M.lift,putD,ev,fr_cons,fr_nil,keepFr,lset_nil,lset_cons,get_set_same,bin,binM,intBin,strBin,mk,params,cellsM,load,obRead,fadr,fld,isl,iarr,xarr,idx,len,valid,slc,rowLen,bound,store,splice,un,callee,Option.bind_some,M.bind,putAll,Xp.enc,Xp.encs_map,hx,hwl,hc]
      ·have h5:get H2 id=some (.cells ((Xp.mk k a s sub).enc.map .iv)):=by rw[hold2 id h4];exact h3
       simp[evalRgn,Option.map_some,evalOps,oo,om,ol,oa,oc,ob,on,og,od,oe,ci,cb,step,wants,isS,osem,M.run_bind,M.mapL,M.run,M.ok,M.fresh,M.write,M.look,M.lift,putD,ev,fr_cons,fr_nil,keepFr,lset_nil,lset_cons,get_set_same,bin,binM,intBin,strBin,mk,params,cellsM,load,obRead,fadr,fld,isl,iarr,xarr,idx,len,valid,slc,rowLen,bound,store,splice,un,callee,Option.bind_some,M.bind,putAll,h5,Xp.enc,Xp.encs_map,hx,hwl,hc]) ?_
     refine Wp.seq (Wp.seq ?_);refine Wp.rgn (K:=0) (fun n _=>by simp[evalRgn,Option.map_some,evalOps,oo,om,ol,oa,oc,ob,on,og,od,oe,ci,cb,step,wants,isS,osem,M.run_bind,M.mapL,M.run,M.ok,M.fresh,M.write,M.look,M.lift,putD,ev,fr_cons,fr_nil,keepFr,lset_nil,lset_cons,get_set_same,bin,binM,intBin,strBin,mk,params,cellsM,load,obRead,fadr,fld,isl,iarr,xarr,idx,len,valid,slc,rowLen,bound,store,splice,un,callee,Option.bind_some,M.bind,putAll];rfl) ?_;refine Wp.cond rfl ?_;cases ok with
     |false=>
      simp only[Bool.false_eq_true,if_false]at hm;refine Wp.seq ?_;refine Wp.rgn (K:=0) (fun n _=>by simp[evalRgn,Option.map_some,evalOps,oo,om,ol,oa,oc,ob,on,og,od,oe,ci,cb,step,wants,isS,osem,M.run_bind,M.mapL,M.run,M.ok,M.fresh,M.write,M.look,M.lift,putD,ev,fr_cons,fr_nil,keepFr,lset_nil,lset_cons,get_set_same,bin,binM,intBin,strBin,mk,params,cellsM,load,obRead,fadr,fld,isl,iarr,xarr,idx,len,valid,slc,rowLen,bound,store,splice,un,callee,Option.bind_some,M.bind,putAll];rfl) ?_;refine Wp.ret ?_;rw[hmeas,<-hm];exact⟨(_,_,_),⟨rfl,show nx<=n3+2+2 by omega,hpid3,fun k hk=>by rw[hold3 k hk];exact hold2 k hk⟩,rfl,rfl⟩
     |true=>
      simp only[if_true]at hm;refine Wp.skip ?_;refine Wp.rgn (K:=0) (fun n _=>by simp[evalRgn,Option.map_some,evalOps,oo,om,ol,oa,oc,ob,on,og,od,oe,ci,cb,step,wants,isS,osem,M.run_bind,M.mapL,M.run,M.ok,M.fresh,M.write,M.look,M.lift,putD,ev,fr_cons,fr_nil,keepFr,lset_nil,lset_cons,get_set_same,bin,binM,intBin,strBin,mk,params,cellsM,load,obRead,fadr,fld,isl,iarr,xarr,idx,len,valid,slc,rowLen,bound,store,splice,un,callee,Option.bind_some,M.bind,putAll,mxI];rfl) ?_;refine Wp.rgn (K:=0) (fun n _=>by simp[evalRgn,Option.map_some,evalOps,oo,om,ol,oa,oc,ob,on,og,od,oe,ci,cb,step,wants,isS,osem,M.run_bind,M.mapL,M.run,M.ok,M.fresh,M.write,M.look,M.lift,putD,ev,fr_cons,fr_nil,keepFr,lset_nil,lset_cons,get_set_same,bin,binM,intBin,strBin,mk,params,cellsM,load,obRead,fadr,fld,isl,iarr,xarr,idx,len,valid,slc,rowLen,bound,store,splice,un,callee,Option.bind_some,M.bind,putAll,hwi];rfl) ?_
      have hd2:0<=(if d' > d then d' else d)/\(if d' > d then d' else d)<=((left - 1:Nat):Int):=by
       simp only at hin;split<;>omega
      refine⟨m - 1,by omega,i+1,q',if d' > d then d' else d,H3,_,by omega,by simp only at hin;omega,hin.2.2.2.2 rfl,hd2.1,hd2.2,hm,hpid3,fun k hk=>by rw[hold3 k hk];exact hold2 k hk,?_,by simp[fr_cons,keepFr];rfl⟩
      show nx<=n3+2+4+2
      omega
    ·have hd:sub.drop i=[]:=List.drop_eq_nil_of_le (by omega);rw[hd]at hm
     conv at hm=>lhs;unfold measL
     have hwd:IntKind.i64.wrap (d+1)=d+1:=IntWalk.i64_in _ (by omega);refine Wp.rgn (K:=0) (fun n _=>by simp[evalRgn,Option.map_some,evalOps,oo,om,ol,oa,oc,ob,on,og,od,oe,ci,cb,step,wants,isS,osem,M.run_bind,M.mapL,M.run,M.ok,M.fresh,M.write,M.look,M.lift,putD,ev,fr_cons,fr_nil,keepFr,lset_nil,lset_cons,get_set_same,bin,binM,intBin,strBin,mk,params,cellsM,load,obRead,fadr,fld,isl,iarr,xarr,idx,len,valid,slc,rowLen,bound,store,splice,un,callee,Option.bind_some,M.bind,putAll,hi];rfl) ?_;refine Wp.seq (Wp.cond (t:=false) rfl (Wp.exit ?_));simp only[Ex.then,Ex.inBlock,if_true];refine Wp.seq ?_;refine Wp.rgn (K:=0) (fun n _=>by simp[evalRgn,Option.map_some,evalOps,oo,om,ol,oa,oc,ob,on,og,od,oe,ci,cb,step,wants,isS,osem,M.run_bind,M.mapL,M.run,M.ok,M.fresh,M.write,M.look,M.lift,putD,ev,fr_cons,fr_nil,keepFr,lset_nil,lset_cons,get_set_same,bin,binM,intBin,strBin,mk,params,cellsM,load,obRead,fadr,fld,isl,iarr,xarr,idx,len,valid,slc,rowLen,bound,store,splice,un,callee,Option.bind_some,M.bind,putAll,hwd];rfl) ?_
     refine Wp.ret ?_;rw[hmeas,<-hm];exact⟨(_,_,_),⟨rfl,show nx<=n2+1+4 by omega,hpid2,hold2⟩,rfl,rfl⟩
  obtain⟨⟨y,H',nx'⟩,⟨rfl,h1,h2,h3⟩,h4⟩:=Ev.ofx hp2 h rfl rfl _ key;exact⟨H',nx',h1,h2,h3,h4⟩
end
end Arx
namespace Arx
open Go Arb
attribute [local simp] evalRgn Option.map_some evalOps step wants isS osem M.run_bind M.mapL M.run M.ok M.fresh M.write M.look M.lift putD ev fr_cons fr_nil keepFr lset_nil lset_cons get_set_same bin binM intBin strBin mk params cellsM load obRead fadr fld isl iarr xarr idx len valid slc rowLen bound store splice un callee Option.bind_some M.bind putAll oo om ol oa oc ob on og od oe ci cb
def Fresh (H:Hp) (nx:Nat):Prop:=∀k,4*nx<=k->get H k=none
structure Ext (H:Hp) (nx:Nat) (H':Hp) (nx':Nat):Prop where
 le:nx<=nx'
 fresh:Fresh H' nx'
 old:∀k,k<4*nx->get H' k=get H k
theorem Ext.refl {H:Hp} {nx nx':Nat} (h:Fresh H nx) (hn:nx<=nx'):Ext H nx H nx':=⟨hn,fun k hk=>h k (by omega),fun _ _=>rfl⟩
theorem Ext.trans {H H' H'':Hp} {n n' n'':Nat} (a:Ext H n H' n') (b:Ext H' n' H'' n''):Ext H n H'' n'':=⟨Nat.le_trans a.le b.le,b.fresh,fun k hk=>(b.old k (by have:=a.le;omega)).trans (a.old k hk)⟩
def PY (H:Hp) (v:AV) (x:Xp):Prop:=v = .iv (.ptr x.enc)\/∃id,v = .ref id 0 0 0/\get H id=some (.cells (x.enc.map .iv))
def noS:S:=⟨false,[],false,[]⟩
def plainX (a:Int) (s:S):Bool:=a==0&&sameS s noS
def oneX:Xp->Bool
 |.mk k a s sub=>if k=1 then decide (0<=a)&&(decide (a<4)&&(decide (sub.length=0)&&(rightS s&&smallS s))) else if k=2\/k=3 then plainX a s else if k=4 then plainX a s&&decide (sub.length=1) else false
mutual
def allX:Xp->Bool
 |.mk k a s sub=>allXL sub&&oneX (.mk k a s sub)
def allXL:List Xp->Bool
 |[]=>true
 |x::l=>allX x&&allXL l
end
section
variable {p1:Nat->Option Arb.IFn} {p2:Nat->Option IFn}
set_option maxHeartbeats 1000000 in
theorem ev192 (hp2:PrimsLe p2) (h17:p1 17=some Arb.F17) (h32:p1 32=some Arb.F32) (h33:p1 33=some Arb.F33) (h58:p1 58=some Arb.F58) (h24:p1 24=some Arb.F24) (h:p2 192=some F192) {x:Xp} (hx:x.ok) (v:AV) (H:Hp) (nx:Nat) (hv:PY H v x) :
  ∃nx',nx<=nx'/\Ev p1 p2 192 [v] H nx (.bI (oneX x),H,nx'):=by
 obtain @⟨k,a,s,sub,hk,ha,hs,hl, -⟩:=hx;generalize hX:Xp.mk k a s sub=X at hv;have hone:oneX X=if k=1 then decide (0<=a)&&(decide (a<4)&&(decide (sub.length=0)&&(rightS s&&smallS s))) else if k=2\/k=3 then plainX a s else if k=4 then plainX a s&&decide (sub.length=1) else false:=by rw[<-hX];rfl
 obtain⟨K1,hK1⟩:=Arb.p_sameS h32 h33 h17 s noS hs.li hs.ls;obtain⟨K2,hK2⟩:=Arb.p_rightS h58 s hs.li hs.ls;obtain⟨K3,hK3⟩:=Arb.p_smallS h24 s;have key:Wp p1 p2 F192.body ⟨params [v] 0,H,nx⟩ (fun e st=>∃r:AV×Hp×Nat,(r.1 = .bI (oneX X)/\nx<=r.2.2/\r.2.1=H)/\Fin F192.res r e st):=by
  refine Wp.seq ?_;refine Wp.rg ?_;refine Wp.seq ?_;refine Wp.rgn (K:=K1) (s':=⟨[(0,v),(3,.bI (plainX a s))],H,nx+15⟩) (fun n hn=>by
   have e1:=hK1 n hn;change(one p1 n 17 _ []).bind shut=_ at e1;simp only[S.av,noS,List.map_nil]at e1;unfold plainX;subst hX;cases ha0:a==0 with
   |false=>
    rcases hv with rfl | ⟨id,rfl,h3⟩
    ·simp[Xp.enc,Xp.encs_map,ha0]
    ·simp[h3,Xp.enc,Xp.encs_map,ha0]
   |true=>
    rcases hv with rfl | ⟨id,rfl,h3⟩
    ·simp[callM,fz1,fz,flat,flat1,flat0,flatI,ofA,of1,Xp.enc,Xp.encs_map,ha0,e1,noS]
    ·simp[callM,fz1,fz,flat,flat1,flat0,flatI,ofA,of1,h3,Xp.enc,Xp.encs_map,ha0,e1,noS]) ?_
  refine Wp.seq (Wp.seq ?_);refine Wp.rgn (K:=0) (s':=⟨[(0,v),(3,.bI (plainX a s)),(20,.nI k)],H,nx+19⟩) (fun n _=>by
   subst hX;rcases hv with rfl | ⟨id,rfl,h3⟩
   ·simp[Xp.enc,Xp.encs_map]
   ·simp[h3,Xp.enc,Xp.encs_map]) ?_
  refine Wp.block (Wp.seq ?_);refine Wp.rgn (K:=0) (s':=⟨[(0,v),(3,.bI (plainX a s)),(20,.nI k),(21,.bI (decide (k=1)))],H,nx+21⟩) (fun n _=>by
   have:(k==1)=decide (k=1):=by by_cases h:k=1<;>simp[h]
   simp[this]) ?_
  refine Wp.cond rfl ?_;by_cases k1:k=1
  ·rw[decide_eq_true k1];rw[if_pos k1]at hone;simp only[if_true];refine Wp.seq ?_;refine Wp.rgn (K:=max K2 K3) (s':=⟨[(2,.bI (oneX X))],H,nx+56⟩) (fun n hn=>by
    have e2:=hK2 n (by omega);have e3:=hK3 n (by omega);change(one p1 n 58 _ []).bind shut=_ at e2;change(one p1 n 24 _ []).bind shut=_ at e3;simp only[S.av]at e2 e3;rw[hone];have hln:(((sub.length:Nat):Int)==0)=decide (sub.length=0):=by
     by_cases h:sub.length=0
     ·rw[h];rfl
     ·rw[decide_eq_false h];exact beq_eq_false_iff_ne.2 (by omega)
    clear hone;generalize decide (sub.length=0)=bz at hln;subst hX;cases c1:decide (0<=a)with
    |false=>
     rcases hv with rfl | ⟨id,rfl,h3⟩
     ·simp[Xp.enc,Xp.encs_map,c1]
     ·simp[h3,Xp.enc,Xp.encs_map,c1]
    |true=>
     cases c2:decide (a<4)with
     |false=>
      rcases hv with rfl | ⟨id,rfl,h3⟩
      ·simp[Xp.enc,Xp.encs_map,c1,c2]
      ·simp[h3,Xp.enc,Xp.encs_map,c1,c2]
     |true=>
      cases bz with
      |false=>
       rcases hv with rfl | ⟨id,rfl,h3⟩
       ·simp[Xp.enc,Xp.encs_map,c1,c2,hln]
       ·simp[h3,Xp.enc,Xp.encs_map,c1,c2,hln]
      |true=>
       cases c4:rightS s with
       |false=>
        rw[c4]at e2;rcases hv with rfl | ⟨id,rfl,h3⟩
        ·simp[callM,fz1,fz,flat,flat1,flat0,flatI,ofA,of1,Xp.enc,Xp.encs_map,c1,c2,hln,e2]
        ·simp[callM,fz1,fz,flat,flat1,flat0,flatI,ofA,of1,h3,Xp.enc,Xp.encs_map,c1,c2,hln,e2]
       |true=>
        rw[c4]at e2;rcases hv with rfl | ⟨id,rfl,h3⟩
        ·simp[callM,fz1,fz,flat,flat1,flat0,flatI,ofA,of1,Xp.enc,Xp.encs_map,c1,c2,hln,e2,e3]
        ·simp[callM,fz1,fz,flat,flat1,flat0,flatI,ofA,of1,h3,Xp.enc,Xp.encs_map,c1,c2,hln,e2,e3]) ?_
   exact Wp.ret ⟨(_,_,_),⟨rfl,show nx<=nx+56 by omega,rfl⟩,rfl,rfl⟩
  ·rw[decide_eq_false k1];rw[if_neg k1]at hone;simp only[Bool.false_eq_true,if_false];refine Wp.seq (Wp.seq ?_);refine Wp.rgn (K:=0) (s':=⟨[(0,v),(3,.bI (plainX a s)),(20,.nI k),(57,.bI (decide (k=2)))],H,nx+23⟩) (fun n _=>by
    have:(k==2)=decide (k=2):=by by_cases h:k=2<;>simp[h]
    simp[this]) ?_
   have h23:Wp p1 p2 (.cond (.t 57) .skip (.rgn false [⟨some 59,.bin .eql 0 (.t 20) (.c (.nI (3))),none,[]⟩,⟨some 57,.mov (.t 59),none,[]⟩] [0,3,20,57]))
     ⟨[(0,v),(3,.bI (plainX a s)),(20,.nI k),(57,.bI (decide (k=2)))],H,nx+23⟩
     (fun e st=>e = .norm/\∃n2,nx<=n2/\st=⟨[(0,v),(3,.bI (plainX a s)),(20,.nI k),(57,.bI (decide (k=2\/k=3)))],H,n2⟩):=by
    refine Wp.cond rfl ?_;by_cases k2:k=2
    ·rw[decide_eq_true k2];exact Wp.skip ⟨rfl,nx+23,by omega,by simp[k2]⟩
    ·rw[decide_eq_false k2];refine Wp.rgn (K:=0) (s':=⟨[(0,v),(3,.bI (plainX a s)),(20,.nI k),(57,.bI (decide (k=3)))],H,nx+25⟩) (fun n _=>by
      have:(k==3)=decide (k=3):=by by_cases h:k=3<;>simp[h]
      simp[this]) ?_
     exact⟨rfl,nx+25,by omega,by simp[k2]⟩
   refine Wp.mono h23 ?_;rintro e st ⟨rfl,n2,hn2,rfl⟩;simp only[Ex.then];refine Wp.cond rfl ?_;by_cases k23:k=2\/k=3
   ·rw[decide_eq_true k23];rw[if_pos k23]at hone;simp only[if_true];refine Wp.seq ?_;refine Wp.rg ?_;refine Wp.ret ?_;rw[hone];exact⟨(_,_,_),⟨rfl,show nx<=n2+2 by omega,rfl⟩,rfl,rfl⟩
   ·rw[decide_eq_false k23];rw[if_neg k23]at hone;simp only[Bool.false_eq_true,if_false];refine Wp.seq ?_;refine Wp.rgn (K:=0) (s':=⟨[(0,v),(3,.bI (plainX a s)),(61,.bI (decide (k=4)))],H,n2+2⟩) (fun n _=>by
     have:(k==4)=decide (k=4):=by by_cases h:k=4<;>simp[h]
     simp[this]) ?_
    refine Wp.cond rfl ?_;by_cases k4:k=4
    ·rw[decide_eq_true k4];rw[if_pos k4]at hone;simp only[if_true];refine Wp.seq ?_;refine Wp.rgn (K:=0) (s':=⟨[(2,.bI (plainX a s&&decide (sub.length=1)))],H,n2+12⟩) (fun n _=>by
      have hln:(((sub.length:Nat):Int)==1)=decide (sub.length=1):=by
       by_cases h:sub.length=1
       ·rw[h];rfl
       ·rw[decide_eq_false h];exact beq_eq_false_iff_ne.2 (by omega)
      generalize decide (sub.length=1)=bz at hln;subst hX;cases c1:plainX a s with
      |false=>
       rcases hv with rfl | ⟨id,rfl,h3⟩
       ·simp[Xp.enc,Xp.encs_map]
       ·simp[h3,Xp.enc,Xp.encs_map]
      |true=>
       rcases hv with rfl | ⟨id,rfl,h3⟩
       ·simp[Xp.enc,Xp.encs_map,hln]
       ·simp[h3,Xp.enc,Xp.encs_map,hln]) ?_
     refine Wp.ret ?_;rw[hone];exact⟨(_,_,_),⟨rfl,show nx<=n2+12 by omega,rfl⟩,rfl,rfl⟩
    ·rw[decide_eq_false k4];rw[if_neg k4]at hone;simp only[Bool.false_eq_true,if_false];refine Wp.skip ?_;simp only[Ex.then,Ex.inBlock];refine Wp.seq ?_;refine Wp.rg ?_;refine Wp.ret ?_;rw[hone];exact⟨(_,_,_),⟨rfl,show nx<=n2+2+1 by omega,rfl⟩,rfl,rfl⟩
 obtain⟨⟨y,H',nx'⟩,⟨rfl,h1,rfl⟩,h4⟩:=Ev.ofx hp2 h rfl rfl _ key;exact⟨nx',h1,h4⟩
end
theorem allXL_all:∀l:List Xp,allXL l=l.all allX
 |[]=>by unfold allXL;rfl
 |x::l=>by unfold allXL;rw[List.all_cons,allXL_all l]
def sizeX (x:Xp):Int×Int:=if(meas 8 x 0).2.2 then((meas 8 x 0).1,(meas 8 x 0).2.1) else(0,0)
def rightX (x:Xp):Bool:=decide (0<(sizeX x).1)&&allX x
structure LibX (p1:Nat->Option Arb.IFn) (p2:Nat->Option IFn):Prop where
 h17:p1 17=some Arb.F17
 h32:p1 32=some Arb.F32
 h33:p1 33=some Arb.F33
 h58:p1 58=some Arb.F58
 h24:p1 24=some Arb.F24
 h192:p2 192=some F192
 h191:p2 191=some F191
 h190:p2 190=some F190
 h189:p2 189=some F189
 h186:p2 186=some F186
section
variable {p1:Nat->Option Arb.IFn} {p2:Nat->Option IFn}
set_option maxHeartbeats 1000000 in
theorem ev189 (hp2:PrimsLe p2) (L:LibX p1 p2) {x:Xp} (hx:x.ok):∀(v:AV) (H:Hp) (nx:Nat),PY H v x->∃nx',nx<=nx'/\Ev p1 p2 189 [v] H nx (.bI (allX x),H,nx'):=by
 have hx0:=hx
 induction hx with
 |@mk k a s sub hk ha hs hl hsub ih=>
  intro v H nx hv;have h1:∀n,∃nx',n<=nx'/\Ev p1 p2 192 [v] H n (.bI (oneX (Xp.mk k a s sub)),H,nx'):=fun n=>ev192 hp2 L.h17 L.h32 L.h33 L.h58 L.h24 L.h192 hx0 v H n hv
  generalize hX:Xp.mk k a s sub=X at hv h1;have hall:allX X=(allXL sub&&oneX X):=by rw[<-hX];conv=>lhs;unfold allX
  have key:Wp p1 p2 F189.body ⟨params [v] 0,H,nx⟩ (fun e st=>∃r:AV×Hp×Nat,(r.1 = .bI (allX X)/\nx<=r.2.2/\r.2.1=H)/\Fin F189.res r e st):=by
   refine Wp.seq ?_;refine Wp.rg ?_;refine Wp.seq (Wp.seq ?_);refine Wp.rgn (K:=0) (s':=⟨[(0,v),(8,.nI sub.length),(9,.nI 0)],H,nx+7⟩) (fun n _=>by
    subst hX;rcases hv with rfl | ⟨id,rfl,h3⟩
    ·simp[Xp.enc,Xp.encs_map]
    ·simp[h3,Xp.enc,Xp.encs_map]) ?_
   refine Wp.block ?_;refine Wp.loop (fun m s1=>∃(i n2:Nat),i+m=sub.length/\allXL (sub.drop i)=allXL sub/\nx<=n2/\s1=⟨[(0,v),(8,.nI sub.length),(9,.nI i)],H,n2⟩) (m:=sub.length) ⟨0,nx+7,by omega,rfl,by omega,rfl⟩ ?_;rintro m s1 ⟨i,n2,him,hd,hn2,rfl⟩;refine Wp.seq ?_;by_cases hi:i<sub.length
   ·have hx:sub[i]?=some sub[i]:=List.getElem?_eq_getElem hi;have hdr:sub.drop i=sub[i]::sub.drop (i+1):=List.drop_eq_getElem_cons hi;have hwi:IntKind.i64.wrap ((i:Int)+1)=(i:Int)+1:=wrap_succ hi hl;obtain⟨n3,hn3,K,hK⟩:=ih sub[i] (List.getElem_mem _) (hsub _ (List.getElem_mem _)) (.iv (.ptr (sub[i]).enc)) H (n2+3+8) (.inl rfl);rw[hdr]at hd
    conv at hd=>lhs;unfold allXL
    generalize allX sub[i]=b at hd hK;refine Wp.rgn (K:=0) (fun n _=>by simp[hi];rfl) ?_;refine Wp.seq (Wp.cond (t:=true) rfl (Wp.skip (Wp.seq (Wp.block (Wp.seq ?_)))));refine Wp.rgn (K:=0) (s':=⟨[(0,v),(3,.nI i),(8,.nI sub.length),(9,.nI i)],H,n2+3⟩) (fun n _=>by simp) ?_;refine Wp.seq ?_;refine Wp.rgn (K:=K) (s':=⟨[(0,v),(8,.nI sub.length),(9,.nI i),(19,.bI !b)],H,n3⟩) (fun n hn=>by
     have hc:=hK n hn;subst hX;rcases hv with rfl | ⟨id,rfl,h3⟩
     ·simp[Xp.enc,Xp.encs_map,hx,hc]
     ·simp[h3,Xp.enc,Xp.encs_map,hx,hc]) ?_
    refine Wp.cond rfl ?_;cases b with
    |false=>
     refine Wp.seq ?_;refine Wp.rg ?_;refine Wp.ret ?_;rw[hall,<-hd];exact⟨(_,_,_),⟨rfl,show nx<=n3+1 by omega,rfl⟩,rfl,rfl⟩
    |true=>
     refine Wp.skip ?_;simp only[Ex.then,Ex.inBlock];refine Wp.rgn (K:=0) (fun n _=>by simp[hwi];rfl) ?_;refine⟨m - 1,by omega,i+1,n3+2,by omega,by simpa using hd,by omega,by simp[fr_cons,keepFr]⟩
   ·have hdr:sub.drop i=[]:=List.drop_eq_nil_of_le (by omega);rw[hdr]at hd
    conv at hd=>lhs;unfold allXL
    refine Wp.rgn (K:=0) (fun n _=>by simp[hi];rfl) ?_;refine Wp.seq (Wp.cond (t:=false) rfl (Wp.exit ?_));simp only[Ex.then,Ex.inBlock,if_true];refine Wp.seq ?_;obtain⟨n3,hn3,K,hK⟩:=h1 (n2+1+3);refine Wp.rgn (K:=K) (s':=⟨[(2,.bI (oneX X))],H,n3⟩) (fun n hn=>by
     have hc:=hK n hn;simp[hc]) ?_
    refine Wp.ret ?_;rw[hall,<-hd];exact⟨(_,_,_),⟨rfl,show nx<=n3 by omega,rfl⟩,rfl,rfl⟩
  obtain⟨⟨y,H',nx'⟩,⟨rfl,q1,rfl⟩,h4⟩:=Ev.ofx hp2 L.h189 rfl rfl _ key;exact⟨nx',q1,h4⟩
theorem ev190 (hp2:PrimsLe p2) (L:LibX p1 p2) {x:Xp} (hx:x.ok) (H:Hp) (nx:Nat) (hf:Fresh H nx):∃H' nx',Ext H nx H' nx'/\Ev p1 p2 190 [.agg (x.enc.map .iv)] H nx (.tup [.iv (.int .i64 (sizeX x).1),.iv (.int .i64 (sizeX x).2)],H',nx'):=by
 have f0:=hf (4*nx) (by omega);have f1:=hf (4*(nx+1)) (by omega);have g0:get (Arx.set (Arx.set H (4*nx) (Ob.cells (x.enc.map .iv))) (4*(nx+1)) (Ob.cells [.nI 0])) (4*nx)=some (.cells (x.enc.map .iv)):=by rw[get_set_ne _ _ (by omega),get_set_same]
 obtain⟨H',n',hn',hpid,hold,K,hK⟩:=ev191 (p1:=p1) hp2 L.h191 hx 8 0 (.ref (4*nx) 0 0 0) (Arx.set (Arx.set H (4*nx) (.cells (x.enc.map .iv))) (4*(nx+1)) (.cells [.nI 0])) (nx+3+6) (4*(nx+1))
  (by omega) (by omega) (by omega) (.inr ⟨4*nx,rfl,g0,by omega⟩) (get_set_same _ _ _)
 have hext:∀(o:Ob) (n2:Nat),n'<=n2->Ext H nx (Arx.set H' (4*(nx+1)) o) n2:=fun o n2 h2=>⟨by omega,fun k hk=>by
  rw[get_set_ne _ _ (by omega),hold k (by omega),get_set_ne _ _ (by omega),get_set_ne _ _ (by omega)];exact hf k (by omega),fun k hk=>by
  rw[get_set_ne _ _ (by omega),hold k (by omega),get_set_ne _ _ (by omega),get_set_ne _ _ (by omega)]⟩
 have key:Wp p1 p2 F190.body ⟨params [.agg (x.enc.map .iv)] 0,H,nx⟩ (fun e st=>∃r:AV×Hp×Nat,(r.1 = .tup [.iv (.int .i64 (sizeX x).1),.iv (.int .i64 (sizeX x).2)]/\Ext H nx r.2.1 r.2.2)/\Fin F190.res r e st):=by
  refine Wp.seq ?_;refine Wp.rgn (K:=0) (s':=⟨[(1,.ref (4*nx) 0 0 0),(2,.ref (4*(nx+1)) 0 0 0)],Arx.set (Arx.set H (4*nx) (.cells (x.enc.map .iv))) (4*(nx+1)) (.cells [.nI 0]),nx+3⟩) (fun n _=>by
   have f2:get (Arx.set H (4*nx) (Ob.cells (x.enc.map AV.iv))) (4*(nx+1))=none:=by rw[get_set_ne _ _ (by omega)];exact f1
   simp[f0,f2]) ?_
  refine Wp.seq ?_;unfold sizeX;generalize hr:meas 8 x 0=r at hK hpid;obtain⟨q,d,ok⟩:=r;refine Wp.rgn (K:=K) (s':=⟨[(2,.ref (4*(nx+1)) 0 0 0),(3,.nI d),(4,.bI ok)],H',n'⟩) (fun n hn=>by
   have hc:=hK n hn;simp only[show((8:Nat):Int)=8 from rfl]at hc;simp[hc]) ?_
  refine Wp.seq (Wp.seq ?_);refine Wp.rg ?_;refine Wp.cond rfl ?_;cases ok with
  |false=>
   refine Wp.seq ?_;refine Wp.rgn (K:=0) (fun n _=>by simp[hpid];rfl) ?_;refine Wp.ret ⟨(_,_,_),⟨rfl,hext (.cells [.nI 0]) (n'+2+2) (by omega)⟩,?_,rfl⟩;simp[F190,resAll,resM,load,obRead,mk,ev,fr_cons,fr_nil,M.look,M.bind,M.run,M.run_bind,M.ok,M.lift,M.mapL,get_set_same]
  |true=>
   refine Wp.skip ?_;simp only[Ex.then];refine Wp.seq ?_;refine Wp.rgn (K:=0) (fun n _=>by simp[hpid];rfl) ?_;refine Wp.ret ⟨(_,_,_),⟨rfl,hext (.cells [.nI q]) (n'+2+4) (by omega)⟩,?_,rfl⟩;simp[F190,resAll,resM,load,obRead,mk,ev,fr_cons,fr_nil,M.look,M.bind,M.run,M.run_bind,M.ok,M.lift,M.mapL,get_set_same]
 obtain⟨⟨y,H',nx'⟩,⟨rfl,h1⟩,h4⟩:=Ev.ofx hp2 L.h190 rfl rfl _ key;exact⟨H',nx',h1,h4⟩
theorem ev186 (hp2:PrimsLe p2) (L:LibX p1 p2) {x:Xp} (hx:x.ok) (H:Hp) (nx:Nat) (hf:Fresh H nx):∃H' nx',Ext H nx H' nx'/\Ev p1 p2 186 [.agg (x.enc.map .iv)] H nx (.bI (rightX x),H',nx'):=by
 have f0:=hf (4*nx) (by omega);have hf1:Fresh (Arx.set H (4*nx) (.cells (x.enc.map .iv))) (nx+2):=fun k hk=>by rw[get_set_ne _ _ (by omega)];exact hf k (by omega)
 obtain⟨H',n',hE,K,hK⟩:=ev190 (p1:=p1) hp2 L hx (Arx.set H (4*nx) (.cells (x.enc.map .iv))) (nx+2+7) (fun k hk=>hf1 k (by omega));have hg:get H' (4*nx)=some (.cells (x.enc.map .iv)):=by rw[hE.old _ (by omega)];exact get_set_same _ _ _
 obtain⟨n3,hn3,K2,hK2⟩:=ev189 (p1:=p1) hp2 L hx (.ref (4*nx) 0 0 0) H' (n'+6) (.inr ⟨4*nx,rfl,hg⟩);have hext:∀n2,n'<=n2->Ext H nx H' n2:=fun n2 h2=>⟨by have:=hE.le;omega,fun k hk=>hE.fresh k (by omega),fun k hk=>by rw[hE.old _ (by omega)];exact get_set_ne _ _ (by omega)⟩
 have key:Wp p1 p2 F186.body ⟨params [.agg (x.enc.map .iv)] 0,H,nx⟩ (fun e st=>∃r:AV×Hp×Nat,(r.1 = .bI (rightX x)/\Ext H nx r.2.1 r.2.2)/\Fin F186.res r e st):=by
  have hlen:(x.enc.map AV.iv).length=7:=by rw[List.length_map];exact x.len_enc
  have htk:(x.enc.map AV.iv).take 7=x.enc.map AV.iv:=List.take_of_length_le (by omega);refine Wp.seq ?_;refine Wp.rgn (K:=0) (s':=⟨[(1,.ref (4*nx) 0 0 0)],Arx.set H (4*nx) (.cells (x.enc.map .iv)),nx+2⟩) (fun n _=>by simp[f0]) ?_;refine Wp.seq ?_;unfold rightX;generalize sizeX x=r at hK;obtain⟨q,d⟩:=r;generalize hcs:x.enc.map AV.iv=cs at hlen htk hK;refine Wp.rgn (K:=K) (s':=⟨[(1,.ref (4*nx) 0 0 0),(3,.nI q)],H',n'⟩) (fun n hn=>by
   have hc:=hK n hn;simp[hlen,htk,hc]) ?_
  refine Wp.seq ?_;cases hq:decide (0<q)with
  |false=>
   refine Wp.rgn (K:=0) (s':=⟨[(2,.bI false)],H',n'+6⟩) (fun n hn=>by simp[hq]) ?_;exact Wp.ret ⟨(_,_,_),⟨rfl,hext (n'+6) (by omega)⟩,rfl,rfl⟩
  |true=>
   refine Wp.rgn (K:=K2) (s':=⟨[(2,.bI (allX x))],H',n3⟩) (fun n hn=>by
    have hc:=hK2 n hn;simp[hq,hc]) ?_
   exact Wp.ret ⟨(_,_,_),⟨rfl,hext n3 (by omega)⟩,rfl,rfl⟩
 obtain⟨⟨y,H',nx'⟩,⟨rfl,h1⟩,h4⟩:=Ev.ofx hp2 L.h186 rfl rfl _ key;exact⟨H',nx',h1,h4⟩
end
end Arx
namespace Arx
open Go Arb
def bxC (b:B):List AV:=b.enc.map AV.iv
theorem bxC_fz (w:Bool) (b:B):M.mapL (fz w 7) (bxC b) = .ret b.enc:=by simp[bxC,B.enc,S.enc,M.mapL,fz,M.bind]
theorem bxC_fzL (w:Bool):∀l:List B,M.mapL (M.mapL (fz w 7)) (l.map bxC) = .ret (l.map B.enc)
 |[]=>rfl
 |b::l=>by rw[List.map_cons,M.mapL,bxC_fz,M.bind,bxC_fzL w l];rfl
def LB (H:Hp) (n:Nat) (y:AV) (l:List B):Prop:=
 (y = .iv (.nsl 16)/\l=[])\/y = .iv (.sl 16 (l.map B.enc))\/∃id,id<4*n/\y = .own id 0 l.length 0/\(get H id=some (.buf 0 16 (l.map bxC))\/get H id=some (.imm 0 16 (l.map B.enc)))
theorem LB.mono {H H':Hp} {n n':Nat} {y:AV} {l:List B} (h:LB H n y l) (hn:n<=n') (ho:∀k,k<4*n->get H' k=get H k):LB H' n' y l:=by
 rcases h with h | h | ⟨id,h1,h2,h3⟩
 ·exact .inl h
 ·exact .inr (.inl h)
 ·exact .inr (.inr ⟨id,by omega,h2,by rw[ho id h1];exact h3⟩)
theorem LB.ext {H H':Hp} {n n':Nat} {y:AV} {l:List B} (h:LB H n y l) (e:Ext H n H' n'):LB H' n' y l:=h.mono e.le e.old
theorem LB.len {H:Hp} {n:Nat} {y:AV} {l:List B} (h:LB H n y l):(Arx.len false y).run H=some (.nI l.length,H):=by
 rcases h with⟨rfl,rfl⟩|rfl | ⟨id,h1,rfl,h3 | h3⟩
 ·rfl
 ·simp[Arx.len,M.run]
 ·simp[Arx.len,M.run,M.look,M.run_bind,h3,M.ok,M.bind]
 ·simp[Arx.len,M.run,M.look,M.run_bind,h3,M.ok,M.bind]
theorem LB.elems {H:Hp} {n:Nat} {y:AV} {l:List B} (h:LB H n y l):(Arx.elemsS 16 y).run H=some (l.map bxC,H):=by
 have h0:(l.map B.enc).map (fun r=>r.map AV.iv)=l.map bxC:=by rw[List.map_map];rfl
 rcases h with⟨rfl,rfl⟩|rfl | ⟨id,h1,rfl,h3 | h3⟩
 ·rfl
 ·simp only[Arx.elemsS,Arx.elems,M.run_bind,M.ok];simp[M.run,h0,bxC]
 ·simp[Arx.elemsS,Arx.elems,M.run,M.look,M.run_bind,h3,M.ok,M.bind,List.take_of_length_le]
 ·simp[Arx.elemsS,Arx.elems,M.run,M.look,M.run_bind,h3,M.ok,M.bind,List.take_of_length_le,bxC]
theorem LB.fz0 {H:Hp} {n:Nat} {y:AV} {l:List B} (h:LB H n y l):(fz1 false y).run H=some (.iv (.sl 16 (l.map B.enc)),H):=by
 rcases h with⟨rfl,rfl⟩|rfl | ⟨id,h1,rfl,h3 | h3⟩
 ·rfl
 ·rfl
 ·have hh:((l.map bxC).drop 0).take l.length=l.map bxC:=by simp[List.take_of_length_le]
  unfold fz1 fz;simp[M.run,M.look,M.run_bind,h3,M.ok,M.bind,hh,bxC_fzL,List.take_of_length_le]
 ·unfold fz1 fz;simp[M.run,M.look,M.run_bind,h3,M.ok,M.bind,List.take_of_length_le]
theorem LB.fz1 {H:Hp} {n:Nat} {y:AV} {l:List B} (h:LB H n y l):∃H',(Arx.fz1 true y).run H=some (.iv (.sl 16 (l.map B.enc)),H')/\(∀k,4*n<=k->get H' k=get H k)/\(∀(m:Nat) (y':AV) (l':List B),LB H m y' l'->LB H' m y' l')/\
  (∀k,y≠.own k 0 l.length 0->get H' k=get H k):=by
 rcases h with⟨rfl,rfl⟩|rfl | ⟨id,h1,rfl,h3 | h3⟩
 ·exact⟨H,rfl,fun _ _=>rfl,fun _ _ _ h=>h,fun _ _=>rfl⟩
 ·exact⟨H,rfl,fun _ _=>rfl,fun _ _ _ h=>h,fun _ _=>rfl⟩
 ·refine⟨Arx.set H id (.imm 0 16 (l.map B.enc)),?_,fun k hk=>get_set_ne _ _ (by omega),fun m y' l' h=>?_,fun k hk=>get_set_ne _ _ fun e=>hk (by rw[e])⟩
  ·unfold Arx.fz1 Arx.fz;simp[M.run,M.look,M.run_bind,h3,M.ok,M.bind,bxC_fzL,M.write,List.take_of_length_le]
  ·rcases h with h | h | ⟨id',q1,q2,q3⟩
   ·exact .inl h
   ·exact .inr (.inl h)
   ·refine .inr (.inr ⟨id',q1,q2,?_⟩);by_cases he:id=id'
    ·subst he;right;rw[get_set_same];rcases q3 with q3 | q3
     ·rw[h3]at q3;simp only[Option.some.injEq,Ob.buf.injEq,true_and]at q3;have:l.map B.enc=l'.map B.enc:=by
       have h1:=bxC_fzL false l;have h2:=bxC_fzL false l';rw[q3]at h1;rw[h1]at h2;exact M.ret.inj h2
      rw[this]
     ·rw[h3]at q3;simp at q3
    ·rw[get_set_ne _ _ he];exact q3
 ·refine⟨H,?_,fun _ _=>rfl,fun _ _ _ h=>h,fun _ _=>rfl⟩;unfold Arx.fz1 Arx.fz;simp[M.run,M.look,M.run_bind,h3,M.ok,M.bind,List.take_of_length_le]
end Arx
namespace Arx
open Go Arb
attribute [local simp] evalRgn Option.map_some evalOps step wants isS osem M.run_bind M.mapL M.run M.ok M.fresh M.write M.look M.lift putD ev fr_cons fr_nil keepFr lset_nil lset_cons get_set_same bin binM intBin strBin mk params cellsM load obRead fadr fld isl iarr xarr idx len valid slc rowLen bound store splice un callee Option.bind_some M.bind putAll oo om ol oa oc ob on og od oe ci cb
def zB:List AV:=[.iv (.bool false),.iv (.nsl 2),.iv (.bool false),.iv (.nsl 1),.iv (.bool false),.iv (.nsl 2),.iv (.bool false),.iv (.nsl 1),.iv (.bool false),.iv (.nsl 2),.iv (.bool false),.iv (.nsl 1),.iv (.bool false),.iv (.nsl 2),.iv (.bool false),.iv (.nsl 1)]
section
variable {p1:Nat->Option Arb.IFn} {p2:Nat->Option IFn}
theorem ev188_0 (hp2:PrimsLe p2) (h:p2 188=some F188) (H:Hp) (nx:Nat):∃nx',nx<=nx'/\Ev p1 p2 188 [.iv (.nsl 16),.nI 0] H nx (.iv (.nsl 16),H,nx'):=by
 refine⟨nx+15,by omega,Ev.of hp2 h rfl rfl (Wp.seq ?_)⟩;refine Wp.rg ?_;refine Wp.seq (Wp.seq ?_);refine Wp.rg ?_;refine Wp.cond (t:=false) rfl (Wp.skip ?_);simp only[Ex.then];refine Wp.seq (Wp.seq ?_);refine Wp.rgn (K:=0) (s':=⟨[(0,.iv (.nsl 16)),(1,.nI 0)],H,nx+11⟩) (fun n _=>by simp[capn,show IntKind.i64.wrap 0=0 from by decide]) ?_;refine Wp.seq ?_;refine Wp.rg ?_;refine Wp.cond (t:=false) rfl (Wp.skip ?_);simp only[Ex.then];refine Wp.seq ?_;refine Wp.rg ?_;exact Wp.ret ⟨rfl,rfl⟩
theorem ev188_n (hp2:PrimsLe p2) (h:p2 188=some F188) (H:Hp) (nx:Nat) (hf:Fresh H nx) (m:Nat) (h0:0<m) (hm:m<=1000) :
  ∃nx' id,nx+18<nx'/\id=4*(nx+18)/\Ev p1 p2 188 [.iv (.nsl 16),.nI m] H nx (.own id 0 0 0,Arx.set H id (.buf 0 16 (List.replicate m zB)),nx'):=by
 have hm0:¬(m:Int)<0:=by omega
 have hm1:(0:Int)<m:=by omega
 have hm2:¬(m:Int)=0:=by omega
 have hm3:m≠0:=by omega
 have hw:IntKind.i64.wrap (m:Int)=m:=IntWalk.i64_in _ (by omega);have hr:roomy m=true:=by simp only[roomy,Nat.ble_eq];omega
 have hfr:get H (4*(nx+18))=none:=hf _ (by omega);refine⟨nx+25,4*(nx+18),by omega,rfl,Ev.of hp2 h rfl rfl (Wp.seq ?_)⟩;refine Wp.rg ?_;refine Wp.seq (Wp.seq ?_);refine Wp.rgn (K:=0) (s':=⟨[(0,.iv (.nsl 16)),(1,.nI m),(6,.bI false)],H,nx+3⟩) (fun n _=>by simp[hm0]) ?_;refine Wp.cond (t:=false) rfl (Wp.skip ?_);simp only[Ex.then];refine Wp.seq (Wp.seq ?_);refine Wp.rgn (K:=0) (s':=⟨[(0,.iv (.nsl 16)),(1,.nI m)],H,nx+11⟩) (fun n _=>by simp[capn,show IntKind.i64.wrap 0=0 from by decide,hw]) ?_;refine Wp.seq ?_;refine Wp.rgn (K:=0) (s':=⟨[(0,.iv (.nsl 16)),(1,.nI m),(16,.bI true)],H,nx+13⟩) (fun n _=>by simp[h0]) ?_
 refine Wp.cond (t:=true) rfl ?_;simp only[if_true];refine Wp.rgn (K:=0) (s':=⟨[(0,.own (4*(nx+18)) 0 0 0)],Arx.set H (4*(nx+18)) (.buf 0 16 (List.replicate m zB)),nx+23⟩) (fun n _=>by
  simp[capn,appn,hr,hm2,hm3,hfr,zB]) ?_
 simp only[Ex.then];refine Wp.seq ?_;refine Wp.rg ?_;exact Wp.ret ⟨rfl,rfl⟩
def tot (l1 l2:List B) (i:Nat):Nat:=if i=0 then 0 else if i=1 then l1.length else l1.length+l2.length
def rowsTo (l1 l2:List B) (i:Nat):List (List AV):=
 if i=0 then List.replicate (l1.length+l2.length) zB else if i=1 then l1.map bxC++List.replicate l2.length zB else(l1++l2).map bxC
theorem rowsTo_len (l1 l2:List B) (i:Nat):(rowsTo l1 l2 i).length=l1.length+l2.length:=by unfold rowsTo;split<;>(try split)<;>simp
set_option maxHeartbeats 1000000 in
theorem ev187 (hp2:PrimsLe p2) (h188:p2 188=some F188) (h:p2 187=some F187) (H:Hp) (nx rid:Nat) (y1 y2:AV) (l1 l2:List B) (hrid:rid<4*nx) (hr:get H rid=some (.buf 0 1 [[y1],[y2]])) (hf:Fresh H nx)
  (hy1:LB H nx y1 l1) (hy2:LB H nx y2 l2) (hl:l1.length+l2.length<=1000):∃H' nx' y,Ext H nx H' nx'/\LB H' nx' y (l1++l2)/\(∀k o n w,y = .own k o n w->4*nx<=k)/\Ev p1 p2 187 [.own rid 0 2 0] H nx (y,H',nx'):=by
 have key:Wp p1 p2 F187.body ⟨params [.own rid 0 2 0] 0,H,nx⟩ (fun e st=>∃r:AV×Hp×Nat,(Ext H nx r.2.1 r.2.2/\LB r.2.1 r.2.2 r.1 (l1++l2)/\∀k o n w,r.1 = .own k o n w->4*nx<=k)/\Fin F187.res r e st):=by
  refine Wp.seq ?_;refine Wp.rg ?_;refine Wp.seq ?_;refine Wp.rg ?_;refine Wp.seq (Wp.seq ?_);refine Wp.rgn (K:=0) (s':=⟨[(0,.own rid 0 2 0),(3,.nI 0),(9,.own rid 0 2 0),(10,.nI 2),(11,.nI 0)],H,nx+5⟩) (fun n _=>by simp[hr]) ?_;refine Wp.block ?_;refine Wp.loop (fun m s1=>∃(i n2:Nat),i+m=2/\nx<=n2/\s1=⟨[(0,.own rid 0 2 0),(3,.nI (tot l1 l2 i)),(9,.own rid 0 2 0),(10,.nI 2),(11,.nI i)],H,n2⟩) (m:=2) ⟨0,nx+5,rfl,by omega,by simp[fr_cons,keepFr,tot]⟩ ?_;rintro m s1 ⟨i,n2,him,hn2,rfl⟩;refine Wp.seq ?_;by_cases hi:i<2
  ·have hi':(i:Int)<2:=by omega
   obtain⟨rows,hrows,hr⟩:∃rows,rows=[[y1],[y2]]/\get H rid=some (.buf 0 1 rows):=⟨_,rfl,hr⟩;obtain⟨y,l,hy,hyl,ht⟩:∃y l,rows[i]?=some [y]/\LB H nx y l/\tot l1 l2 (i+1)=tot l1 l2 i+l.length:=by
    subst hrows
    match i,hi with
    |0,_=>exact⟨y1,l1,rfl,hy1,by simp[tot]⟩
    |1,_=>exact⟨y2,l2,rfl,hy2,by simp[tot]⟩
   have htl:tot l1 l2 i+l.length<=1000:=by rw[<-ht];unfold tot;split<;>(try split)<;>omega
   have hlen:=hyl.len;have hwt:IntKind.i64.wrap ((tot l1 l2 i:Int)+(l.length:Int))=((tot l1 l2 (i+1):Nat):Int):=by rw[IntWalk.i64_in _ (by omega),ht];omega
   have hneg:¬((tot l1 l2 (i+1):Nat):Int)<0:=by omega
   have hwi:IntKind.i64.wrap ((i:Int)+1)=((i+1:Nat):Int):=by rw[IntWalk.i64_in _ (by omega)];omega
   refine Wp.rgn (K:=0) (fun n _=>by simp[hi',hi];rfl) ?_;refine Wp.seq (Wp.cond (t:=true) rfl (Wp.skip (Wp.seq (Wp.block (Wp.seq ?_)))));refine Wp.rgn (K:=0) (s':=⟨[(0,.own rid 0 2 0),(3,.nI (tot l1 l2 i)),(5,y),(9,.own rid 0 2 0),(10,.nI 2),(11,.nI i)],H,n2+4⟩) (fun n _=>by simp[hr,hi',hi,hy]) ?_;refine Wp.seq ?_;refine Wp.rgn (K:=0) (s':=⟨[(0,.own rid 0 2 0),(3,.nI (tot l1 l2 (i+1):Nat)),(9,.own rid 0 2 0),(10,.nI 2),(11,.nI i)],H,n2+9⟩) (fun n _=>by simp[-len,hlen,hwt]) ?_;refine Wp.seq ?_;refine Wp.rgn (K:=0) (fun n _=>by simp[hneg];rfl) ?_;refine Wp.cond (t:=false) rfl (Wp.skip ?_);simp only[Ex.then,Ex.inBlock]
   refine Wp.rgn (K:=0) (fun n _=>by simp[hwi];rfl) ?_;exact⟨m - 1,by omega,i+1,n2+9+2+2,by omega,by omega,by simp[fr_cons,keepFr]⟩
  ·obtain rfl:i=2:=by omega
   refine Wp.rg ?_;refine Wp.seq (Wp.cond (t:=false) rfl (Wp.exit ?_));simp only[Ex.then,Ex.inBlock,if_true];refine Wp.seq ?_;have ht2:tot l1 l2 2=l1.length+l2.length:=rfl;obtain⟨n3,y3,H3,hE3,hy3,hev⟩:∃(n3:Nat) (y3:AV) (H3:Hp),Ext H nx H3 n3/\((l1.length+l2.length=0/\y3 = .iv (.nsl 16))\/∃id,id<4*n3/\4*nx<=id/\y3 = .own id 0 0 0/\get H3 id=some (.buf 0 16 (rowsTo l1 l2 0)))/\
     Ev p1 p2 188 [.iv (.nsl 16),.nI (tot l1 l2 2:Nat)] H (n2+1+3) (y3,H3,n3):=by
    rw[ht2];by_cases h0:l1.length+l2.length=0
    ·obtain⟨n3,hn3,hev⟩:=ev188_0 (p1:=p1) hp2 h188 H (n2+1+3);rw[h0];exact⟨n3,_,H,.refl hf (by omega),.inl ⟨rfl,rfl⟩,hev⟩
    ·obtain⟨n3,id,hn3,hid,hev⟩:=ev188_n (p1:=p1) hp2 h188 H (n2+1+3) (fun k hk=>hf k (by omega)) (l1.length+l2.length) (by omega) hl;exact⟨n3,_,_,⟨by omega,fun k hk=>by rw[get_set_ne _ _ (by omega)];exact hf k (by omega),fun k hk=>get_set_ne _ _ (by omega)⟩,.inr ⟨id,by omega,by omega,rfl,get_set_same _ _ _⟩,hev⟩
   obtain⟨K,hK⟩:=hev;refine Wp.rgn (K:=K) (s':=⟨[(0,.own rid 0 2 0),(6,y3)],H3,n3⟩) (fun n hn=>by
    have hc:=hK n hn;simp[hc]) ?_
   have hr3:get H3 rid=some (.buf 0 1 [[y1],[y2]]):=by rw[hE3.old _ hrid];exact hr
   refine Wp.seq (Wp.seq ?_);refine Wp.rgn (K:=0) (s':=⟨[(6,y3),(25,.own rid 0 2 0),(26,.nI 2),(27,.nI 0)],H3,n3+3⟩) (fun n _=>by simp[hr3]) ?_;refine Wp.block ?_;refine Wp.loop (fun m s1=>∃(i n4:Nat) (y4:AV) (H4:Hp),i+m=2/\n3<=n4/\Ext H nx H4 n3/\((l1.length+l2.length=0/\y4 = .iv (.nsl 16))\/∃id,id<4*n3/\4*nx<=id/\y4 = .own id 0 (tot l1 l2 i) 0/\get H4 id=some (.buf 0 16 (rowsTo l1 l2 i)))/\
    s1=⟨[(6,y4),(25,.own rid 0 2 0),(26,.nI 2),(27,.nI i)],H4,n4⟩) (m:=2) ⟨0,n3+3,y3,H3,rfl,by omega,hE3,hy3,by simp[fr_cons,keepFr]⟩ ?_
   rintro m s1 ⟨i,n4,y4,H4,him,hn4,hE4,hy4,rfl⟩;have hr4:get H4 rid=some (.buf 0 1 [[y1],[y2]]):=by rw[hE4.old _ hrid];exact hr
   refine Wp.seq ?_;by_cases hi:i<2
   ·have hi':(i:Int)<2:=by omega
    have hz1:=hy1.ext hE4;have hz2:=hy2.ext hE4;obtain⟨rows,hrows,hr4⟩:∃rows,rows=[[y1],[y2]]/\get H4 rid=some (.buf 0 1 rows):=⟨_,rfl,hr4⟩;obtain⟨y,l,hy,hyl,ht,hsp⟩:∃y l,rows[i]?=some [y]/\LB H4 n3 y l/\tot l1 l2 (i+1)=tot l1 l2 i+l.length/\Arb.splice (rowsTo l1 l2 i) (tot l1 l2 i) (l.map bxC)=rowsTo l1 l2 (i+1):=by
     subst hrows
     match i,hi with
     |0,_=>exact⟨y1,l1,rfl,hz1,by simp[tot],by simp[Arb.splice,rowsTo,tot]⟩
     |1,_=>exact⟨y2,l2,rfl,hz2,by simp[tot],by simp[Arb.splice,rowsTo,tot]⟩
    have helems:=hyl.elems;have hle:tot l1 l2 i+l.length<=l1.length+l2.length:=by rw[<-ht];unfold tot;split<;>(try split)<;>omega
    have hwi:IntKind.i64.wrap ((i:Int)+1)=((i+1:Nat):Int):=by rw[IntWalk.i64_in _ (by omega)];omega
    refine Wp.rgn (K:=0) (fun n _=>by simp[hi',hi];rfl) ?_;refine Wp.seq (Wp.cond (t:=true) rfl (Wp.skip (Wp.seq (Wp.block (Wp.seq ?_)))));refine Wp.rgn (K:=0) (s':=⟨[(6,y4),(8,y),(25,.own rid 0 2 0),(26,.nI 2),(27,.nI i)],H4,n4+4⟩) (fun n _=>by simp[hr4,hi',hi,hy]) ?_;rcases hy4 with⟨h0,rfl⟩|⟨id,hid,hid2,rfl,hgid⟩
    ·have hl0:l=[]:=List.eq_nil_of_length_eq_zero (by omega);subst hl0;refine Wp.rgn (K:=0) (s':=⟨[(6,.iv (.nsl 16)),(25,.own rid 0 2 0),(26,.nI 2),(27,.nI i)],H4,n4+8⟩) (fun n _=>by simp[app,helems]) ?_;simp only[Ex.then,Ex.inBlock];refine Wp.rgn (K:=0) (fun n _=>by simp[hwi];rfl) ?_;exact⟨m - 1,by omega,i+1,n4+8+2,_,H4,by omega,by omega,hE4,.inl ⟨h0,rfl⟩,by simp[fr_cons,keepFr]⟩
    ·have hrl:=rowsTo_len l1 l2 i;refine Wp.rgn (K:=0) (s':=⟨[(6,.own id 0 (tot l1 l2 (i+1)) 0),(25,.own rid 0 2 0),(26,.nI 2),(27,.nI i)],Arx.set H4 id (.buf 0 16 (rowsTo l1 l2 (i+1))),n4+8⟩) (fun n _=>by
      rw[<-hsp,ht];simp[-splice,app,helems,hgid,hrl,hle]) ?_
     simp only[Ex.then,Ex.inBlock];refine Wp.rgn (K:=0) (fun n _=>by simp[hwi];rfl) ?_;refine⟨m - 1,by omega,i+1,n4+8+2,_,_,by omega,by omega,⟨hE4.le,fun k hk=>by rw[get_set_ne _ _ (by omega)];exact hE4.fresh k hk,fun k hk=>by rw[get_set_ne _ _ (by omega)];exact hE4.old k hk⟩,
      .inr ⟨id,hid,hid2,rfl,get_set_same _ _ _⟩,by simp[fr_cons,keepFr]⟩
   ·obtain rfl:i=2:=by omega
    refine Wp.rg ?_;refine Wp.seq (Wp.cond (t:=false) rfl (Wp.exit ?_));simp only[Ex.then,Ex.inBlock,if_true];refine Wp.seq ?_;refine Wp.rg ?_;refine Wp.ret ⟨(y4,H4,n4+1+2),⟨⟨by have:=hE4.le;show nx<=n4+1+2;omega,fun k hk=>hE4.fresh k (by simp only at hk;omega),hE4.old⟩,?_,?_⟩,rfl,rfl⟩
    case refine_2=>
     rintro k o n w hw;rcases hy4 with⟨h0,rfl⟩|⟨id,hid,hid2,rfl,hgid⟩
     ·cases hw
     ·cases hw;exact hid2
    rcases hy4 with⟨h0,rfl⟩|⟨id,hid,hid2,rfl,hgid⟩
    ·have e1:l1=[]:=List.eq_nil_of_length_eq_zero (by omega);have e2:l2=[]:=List.eq_nil_of_length_eq_zero (by omega);subst e1 e2;exact .inl ⟨rfl,rfl⟩
    ·refine .inr (.inr ⟨id,by show id<4*(n4+1+2);omega,?_,.inl hgid⟩);rw[ht2,List.length_append]
 obtain⟨⟨y,H',nx'⟩,⟨h1,h2,h3⟩,h4⟩:=Ev.ofx hp2 h rfl rfl _ key;exact⟨H',nx',y,h1,h2,h3,h4⟩
end
end Arx
namespace Arx
open Go Arb
mutual
def cnt:Xp->Nat
 |.mk _ _ _ sub=>1+cntL sub
def cntL:List Xp->Nat
 |[]=>0
 |x::l=>cnt x+cntL l
end
def nextB (both:Bool) (l m:List B):List B:=if both then tidyF (prodF l m) else tidyF (l++m)
mutual
def boxesX:Bool->Xp->List B×Int
 |neg,.mk k a s sub=>if k=1 then(tidyF [allBx.put a.toNat (if neg then notS s else s)],0) else if k=4 then boxes1 (!neg) sub else boxesL neg (decide (k=2) != neg) sub (if decide (k=2) != neg then[allBx] else[])
def boxes1:Bool->List Xp->List B×Int
 |_,[]=>([],0)
 |neg,x::_=>boxesX neg x
def boxesL:Bool->Bool->List Xp->List B->List B×Int
 |_,_,[],l=>(l,0)
 |neg,both,x::r,l=>if(boxesX neg x).2≠0 then([],(boxesX neg x).2) else if 16<(nextB both l (boxesX neg x).1).length then([],4) else boxesL neg both r (nextB both l (boxesX neg x).1)
end
theorem allS_lim:allS.lim 1 0:=⟨by simp[allS],by simp[allS],fun p hp=>by simp[allS]at hp;subst hp;unfold in64;omega⟩
theorem allBx_lim:allBx.lim 1 0:=by
 intro i hi
 match i,hi with
 |0,_=>exact allS_lim
 |1,_=>exact allS_lim
 |2,_=>exact allS_lim
 |3,_=>exact allS_lim
theorem put_lim {b:B} {s:S} {n m:Nat} (hb:b.lim n m) (hs:s.lim n m) (i:Nat):(b.put i s).lim n m:=by
 intro j hj;unfold B.put;have h0:=hb 0 (by omega);have h1:=hb 1 (by omega);have h2:=hb 2 (by omega);have h3:=hb 3 (by omega);split<;>(match j,hj with
  |0,_=>first | exact hs | exact h0
  |1,_=>first | exact hs | exact h1
  |2,_=>first | exact hs | exact h2
  |3,_=>first | exact hs | exact h3)
theorem limM {b:B} {n m n' m':Nat} (h:b.lim n m) (hn:n<=n') (hm:m<=m'):b.lim n' m':=fun i hi=>(h i hi).mono hn hm
theorem okL {s:S} (h:s.ok) (hs:smallS s=true):s.lim 6 6:=by
 simp only[smallS,Bool.and_eq_true,decide_eq_true_eq]at hs;exact⟨hs.1,hs.2,h.ri⟩
theorem tidyF_mem {l:List B} {b:B} (h:b ∈ tidyF l):b ∈ l:=tidyTo_mem h
theorem tidyF_len (l:List B):(tidyF l).length<=l.length:=tidyTo_len l _
theorem prodF_mem {a b:List B} {c:B} (h:c ∈ prodF a b):∃x ∈ a,∃y ∈ b,c=andB x y:=by
 unfold prodF prodRow at h;rw[List.mem_flatMap]at h;obtain⟨x,hx,h⟩:=h;rw[List.mem_filter,List.mem_map]at h;obtain⟨⟨y,hy,rfl⟩, -⟩:=h;exact⟨x,hx,y,hy,rfl⟩
theorem nextB_lim {both:Bool} {l m:List B} {n k n' k':Nat} (hl:∀b ∈ l,b.lim n k) (hm:∀b ∈ m,b.lim n' k'):∀b ∈ nextB both l m,b.lim (n+n'+3) (k+k'):=by
 intro b hb;unfold nextB at hb;split at hb
 ·obtain⟨x,hx,y,hy,rfl⟩:=prodF_mem (tidyF_mem hb);exact andB_lim (hl x hx) (hm y hy)
 ·rcases List.mem_append.1 (tidyF_mem hb)with h | h
  ·exact limM (hl b h) (by omega) (by omega)
  ·exact limM (hm b h) (by omega) (by omega)
theorem allX_mk {k a:Int} {s:S} {sub:List Xp} (h:allX (.mk k a s sub)=true):(∀x ∈ sub,allX x=true)/\oneX (.mk k a s sub)=true:=by
 unfold allX at h;rw[Bool.and_eq_true,allXL_all,List.all_eq_true]at h;exact h
theorem one_atom {a:Int} {s:S} {sub:List Xp} (h:oneX (.mk 1 a s sub)=true):0<=a/\a<4/\smallS s=true:=by
 unfold oneX at h;simp only[if_true,Bool.and_eq_true,decide_eq_true_eq]at h;exact⟨h.1,h.2.1,h.2.2.2.2⟩
theorem one_not {a:Int} {s:S} {sub:List Xp} (h:oneX (.mk 4 a s sub)=true):∃x,sub=[x]:=by
 unfold oneX at h;simp at h
 match sub,h.2 with
 |[x],_=>exact⟨x,rfl⟩
theorem allBx_put_lim {s:S} (h:s.ok) (hs:smallS s=true) (neg:Bool) (i:Nat):(allBx.put i (if neg then notS s else s)).lim 7 6:=by
 refine put_lim (limM allBx_lim (by omega) (by omega)) ?_ i;cases neg
 ·exact(okL h hs).mono (by omega) (by omega)
 ·exact notS_lim (okL h hs)
theorem boxes_lim {x:Xp} (hx:x.ok):∀neg,allX x=true->(∀b ∈ (boxesX neg x).1,b.lim (10*cnt x - 3) (6*cnt x))/\(boxesX neg x).1.length<=16:=by
 induction hx with
 |@mk k a s sub hk ha hs hl hsub ih=>
  intro neg hall;obtain⟨hall1,hone⟩:=allX_mk hall;have hc:cnt (.mk k a s sub)=1+cntL sub:=by conv=>lhs;unfold cnt
  rw[hc]
  conv=>lhs;unfold boxesX
  conv=>rhs;unfold boxesX
  by_cases k1:k=1
  ·subst k1;simp only[if_true];obtain⟨-, -,hsm⟩:=one_atom hone;refine⟨fun b hb=>?_,Nat.le_trans (tidyF_len _) (by simp)⟩;have:=tidyF_mem hb;simp only[List.mem_singleton]at this;subst this;exact limM (allBx_put_lim hs hsm neg a.toNat) (by omega) (by omega)
  ·simp only[if_neg k1];by_cases k4:k=4
   ·subst k4;simp only[if_true];obtain⟨x,rfl⟩:=one_not hone;have:=ih x (by simp) (!neg) (hall1 x (by simp))
    conv=>lhs;unfold boxes1
    conv=>rhs;unfold boxes1
    have hcl:cntL [x]=cnt x:=by unfold cntL;unfold cntL;rfl
    rw[hcl];exact⟨fun b hb=>limM (this.1 b hb) (by omega) (by omega),this.2⟩
   ·simp only[if_neg k4];generalize(decide (k=2) != neg)=both;have key:∀(r:List Xp) (l:List B) (c:Nat),(∀x ∈ r,x ∈ sub)->(∀b ∈ l,b.lim (1+10*c) (6*c))->l.length<=16->
      (∀b ∈ (boxesL neg both r l).1,b.lim (1+10*(c+cntL r)) (6*(c+cntL r)))/\(boxesL neg both r l).1.length<=16:=by
     intro r
     induction r with
     |nil=>
      intro l c _ h1 h2;unfold boxesL cntL;exact⟨h1,h2⟩
     |cons x r ihr=>
      intro l c hr h1 h2;obtain⟨q1,q2⟩:=ih x (hr x (by simp)) neg (hall1 x (hr x (by simp)));have hcr:cntL (x::r)=cnt x+cntL r:=by conv=>lhs;unfold cntL
      have hpos:1<=cnt x:=by cases x;unfold cnt;omega
      rw[hcr];unfold boxesL;split
      ·exact⟨fun b hb=>by simp at hb,by simp⟩
      ·split
       ·exact⟨fun b hb=>by simp at hb,by simp⟩
       ·rename_i hlen;have hn:=nextB_lim (both:=both) h1 q1;have:=ihr (nextB both l (boxesX neg x).1) (c+cnt x) (fun y hy=>hr y (by simp[hy])) (fun b hb=>limM (hn b hb) (by omega) (by omega)) (by omega);rw[Nat.add_assoc]at this;exact this
    have hk:=key sub (if both then[allBx] else[]) 0 (fun x hx=>hx) (fun b hb=>by
     split at hb
     ·simp only[List.mem_singleton]at hb;subst hb;exact limM allBx_lim (by omega) (by omega)
     ·simp at hb) (by split<;>simp)
    rw[Nat.zero_add]at hk;exact⟨fun b hb=>limM (hk.1 b hb) (by omega) (by omega),hk.2⟩
structure LibB (p1:Nat->Option Arb.IFn) (p2:Nat->Option IFn):Prop extends LibX p1 p2 where
 L9:Lib9 p1
 h115:p1 115=some Arb.F115
 h121:p1 121=some Arb.F121
 h26:p1 26=some Arb.F26
 h19:p1 19=some Arb.F19
 hA:Ans p1 42 [] allBx.av
 h185:p2 185=some F185
 h187:p2 187=some F187
 h188:p2 188=some F188
def PZ (H:Hp) (n:Nat) (v:AV) (x:Xp):Prop:=v = .iv (.ptr x.enc)\/∃id,id<4*n/\v = .ref id 0 0 0/\get H id=some (.cells (x.enc.map .iv))
theorem PZ.ext {H H':Hp} {n n':Nat} {v:AV} {x:Xp} (h:PZ H n v x) (e:Ext H n H' n'):PZ H' n' v x:=by
 rcases h with h | ⟨id,h1,h2,h3⟩
 ·exact .inl h
 ·exact .inr ⟨id,by have:=e.le;omega,h2,by rw[e.old id h1];exact h3⟩
theorem enc_fz (w:Bool) (b:B):M.mapL (fz w 7) (b.enc.map AV.iv) = .ret b.enc:=bxC_fz w b
theorem allIv_iv:∀l:List IV,allIv (l.map Arb.AV.iv)=some l
 |[]=>rfl
 |x::l=>by simp[allIv,allIv_iv l]
section
variable {p1:Nat->Option Arb.IFn} {p2:Nat->Option IFn}
theorem call47 (L:LibB p1 p2) {l:List B} (hl:l.length<=10000) (hL:∀b ∈ l,b.lim 1000 400):∃K,∀n,K<=n->∀(H H':Hp) (y:AV),(fz1 true y).run H=some (.iv (.sl 16 (l.map B.enc)),H')->
  (fcallM (one p1 n) (.iv (.fn 47 [])) [y]).run H=some (.iv (.sl 16 ((tidyF l).map B.enc)),H'):=by
 obtain⟨K,hK⟩:=p_tidy L.L9 l hl hL;refine⟨K,fun n hn H H' y hy=>?_⟩;have e:(one p1 n 47 [filt l] []).bind shut=some (filt (tidyF l)):=hK n hn;simp only[filt]at e;simp[fcallM,callee,M.run_bind,M.lift,M.run,M.mapL,hy,e,ofA,of1]
theorem call121 (L:LibB p1 p2) {a b:List B} (la:a.length<=1000) (lb:b.length<=1000) (ha:∀x ∈ a,x.lim 1000 400) (hb:∀x ∈ b,x.lim 1000 400):∃K,∀n,K<=n->∀(H H1 H2:Hp) (y z:AV),(fz1 true y).run H=some (.iv (.sl 16 (a.map B.enc)),H1)->
  (fz1 true z).run H1=some (.iv (.sl 16 (b.map B.enc)),H2)->(fcallM (one p1 n) (.iv (.fn 121 [])) [y,z]).run H=some (.iv (.sl 16 ((prodF a b).map B.enc)),H2):=by
 obtain⟨K,hK⟩:=p_product L.L9 L.h115 L.h121 a b la lb ha hb;refine⟨K,fun n hn H H1 H2 y z hy hz=>?_⟩;have e:(one p1 n 121 [filt a,filt b] []).bind shut=some (filt (prodF a b)):=hK n hn;simp only[filt]at e;simp[fcallM,callee,M.run_bind,M.lift,M.run,M.mapL,hy,hz,e,ofA,of1]
theorem call129 (L:LibB p1 p2) {s:S} (h:s.lim 1000 400):∃K,∀n,K<=n->∀(H:Hp),(fcallM (one p1 n) (.iv (.fn 129 [])) [.agg (s.enc.map AV.iv)]).run H=some (.agg ((notS s).enc.map AV.iv),H)/\((fcallM (one p1 n) (.iv (.fn 129 [])) [.agg (s.enc.map AV.iv)]).foot H).2=[]:=by
 obtain⟨K,hK⟩:=p_not L.L9.toLib8 s (by have:=h.i;omega) (by have:=h.s;omega) h.k;refine⟨K,fun n hn H=>?_⟩;have e:(one p1 n 129 [s.av] []).bind shut=some (notS s).av:=hK n hn;simp only[S.av]at e;constructor
 ·simp[fcallM,callee,M.run_bind,M.lift,M.run,M.mapL,fz1,fz,S.enc,M.bind,e,ofA,of1,allIv]
 ·simp[fcallM,callee,M.run_bind,M.lift,M.run,M.mapL,fz1,fz,S.enc,M.bind,e,ofA,of1,allIv,M.foot]
theorem call26 (L:LibB p1 p2) (s:S) {i:Nat} (hi:i<4):∃K,∀n,K<=n->∀(H:Hp),(fcallM (one p1 n) (.iv (.fn 26 [])) [.nI i,.agg (s.enc.map AV.iv)]).run H=some (.agg ((allBx.put i s).enc.map AV.iv),H):=by
 obtain⟨K,hK⟩:=p_atom L.hA L.h19 L.h26 s hi;refine⟨K,fun n hn H=>?_⟩;have e:(one p1 n 26 [.nI i,s.av] []).bind shut=some (.agg ((allBx.put i s).enc.map Arb.AV.iv)):=hK n hn;simp only[S.av]at e;simp[fcallM,callee,M.run_bind,M.lift,M.run,M.mapL,fz1,fz,S.enc,M.bind,e,ofA,of1,allIv_iv]
end
end Arx
namespace Arx
open Go Arb
attribute [local simp] evalRgn Option.map_some evalOps step wants isS osem M.run_bind M.mapL M.run M.ok M.fresh M.write M.look M.lift putD ev fr_cons fr_nil keepFr lset_nil lset_cons get_set_same bin binM intBin strBin mk params cellsM load obRead fadr fld isl iarr xarr idx len valid slc rowLen bound store splice un callee Option.bind_some M.bind putAll oo om ol oa oc ob on og od oe ci cb
section
variable {p1:Nat->Option Arb.IFn} {p2:Nat->Option IFn}
theorem enc_len16 (b:B):(b.enc.map AV.iv).length=16:=rfl
def opsA:List IOper:=match F185.body with
 |.seq _ (.seq _ (.seq (.seq _ (.block _ (.seq _ (.cond _ (.seq (.rgn _ ops _) _) _)))) _))=>ops
 |_=>[]
def opsB:List IOper:=match F185.body with
 |.seq _ (.seq _ (.seq (.seq _ (.block _ (.seq _ (.cond _ _ (.seq _ (.cond _ (.seq (.rgn _ ops _) _) _)))))) _))=>ops
 |_=>[]
set_option maxHeartbeats 1000000 in
theorem atomA (L:LibB p1 p2) {k a:Int} {s:S} {sub:List Xp} (hs:s.ok) (h:allX (.mk 1 a s sub)=true) (v:AV) (H:Hp) (nx:Nat) (hv:PZ H nx v (.mk k a s sub)) (hf:get H (4*(nx+10))=none) (fr:Fr) (hfr:fr=[(0,v),(1,.bI true),(6,.iv (.nsl 16)),(7,.bI (decide (k=2) != true)),(57,.bI true)]) :
  ∃K,∀n,K<=n->evalRgn (one p1 n) (run2 p1 p2 n) true opsA [4,5] ⟨fr,H,nx⟩=some ⟨[(4,.iv (.sl 16 ((tidyF [allBx.put a.toNat (notS s)]).map B.enc))),(5,.nI 0)],
   Arx.set (Arx.set H (4*(nx+10)) (.buf 0 16 [(allBx.put a.toNat (notS s)).enc.map AV.iv])) (4*(nx+10)) (.imm 0 16 [(allBx.put a.toNat (notS s)).enc]),nx+14⟩:=by
 obtain⟨ha0,ha4,hsm⟩:=one_atom (allX_mk h).2;obtain⟨i,rfl⟩:∃i:Nat,a=(i:Int):=⟨a.toNat,by omega⟩;have hi:i<4:=by omega
 have hbl:(allBx.put i (notS s)).lim 1000 400:=limM (allBx_put_lim hs hsm true i) (by omega) (by omega);simp only[Int.toNat_natCast];obtain⟨K1,hK1⟩:=call129 L ((okL hs hsm).mono (n':=1000) (m':=400) (by omega) (by omega));obtain⟨K2,hK2⟩:=call26 L (notS s) hi;obtain⟨K3,hK3⟩:=call47 L (l:=[allBx.put i (notS s)]) (by simp) (fun b hb=>by simp only[List.mem_singleton]at hb;subst hb;exact hbl);refine⟨max K1 (max K2 K3),fun n hn=>?_⟩;have e1:=fun H=>(hK1 n (by omega) H).1
 have d1:=fun H=>(hK1 n (by omega) H).2
 have e2:=hK2 n (by omega);have e3:=hK3 n (by omega);generalize notS s=t at *;generalize allBx.put i t=b at *;generalize one p1 n=c1 at *;subst hfr;simp only[S.enc,List.map_cons,List.map_nil]at e1 e2 d1;have hfz:(fz1 true (.own (4*(nx+10)) 0 1 0)).run (Arx.set H (4*(nx+10)) (.buf 0 16 [b.enc.map AV.iv]))=some (.iv (.sl 16 [b.enc]),Arx.set (Arx.set H (4*(nx+10)) (.buf 0 16 [b.enc.map AV.iv])) (4*(nx+10)) (.imm 0 16 [b.enc])):=by
  unfold fz1 fz;simp[M.run,M.look,M.run_bind,get_set_same,M.ok,M.bind,M.mapL,enc_fz,M.write]
 have e3':=e3 _ _ _ hfz;have hlen:=enc_len16 b;generalize b.enc.map AV.iv=cs at *;rcases hv with rfl | ⟨id,hid,rfl,h3⟩
 ·simp[opsA,F185,evalFeet,Xp.enc,e1,e2,e3',hf,Nat.add_assoc,hlen,setAll,footOf];unfold orderOk;rw[Bool.or_eq_true];right;simp[apartAll,apart1,clash,meets,M.foot,d1]
 ·simp[opsA,F185,evalFeet,Xp.enc,e1,e2,e3',hf,h3,Nat.add_assoc,hlen,setAll,footOf];unfold orderOk;rw[Bool.or_eq_true];right;simp[apartAll,apart1,clash,meets,M.foot,M.bind,M.ok,M.lift,mk,obRead,Xp.enc,d1,h3]
set_option maxHeartbeats 1000000 in
theorem atomB (L:LibB p1 p2) {k a:Int} {s:S} {sub:List Xp} (hs:s.ok) (h:allX (.mk 1 a s sub)=true) (v:AV) (H:Hp) (nx:Nat) (hv:PZ H nx v (.mk k a s sub)) (hf:get H (4*(nx+9))=none) (fr:Fr) (hfr:fr=[(0,v),(1,.bI false),(6,.iv (.nsl 16)),(7,.bI (decide (k=2) != false)),(78,.bI true)]) :
  ∃K,∀n,K<=n->evalRgn (one p1 n) (run2 p1 p2 n) true opsB [4,5] ⟨fr,H,nx⟩=some ⟨[(4,.iv (.sl 16 ((tidyF [allBx.put a.toNat s]).map B.enc))),(5,.nI 0)],
   Arx.set (Arx.set H (4*(nx+9)) (.buf 0 16 [(allBx.put a.toNat s).enc.map AV.iv])) (4*(nx+9)) (.imm 0 16 [(allBx.put a.toNat s).enc]),nx+13⟩:=by
 obtain⟨ha0,ha4,hsm⟩:=one_atom (allX_mk h).2;obtain⟨i,rfl⟩:∃i:Nat,a=(i:Int):=⟨a.toNat,by omega⟩;have hi:i<4:=by omega
 have hbl:(allBx.put i s).lim 1000 400:=limM (allBx_put_lim hs hsm false i) (by omega) (by omega);simp only[Int.toNat_natCast];obtain⟨K2,hK2⟩:=call26 L s hi;obtain⟨K3,hK3⟩:=call47 L (l:=[allBx.put i s]) (by simp) (fun b hb=>by simp only[List.mem_singleton]at hb;subst hb;exact hbl);refine⟨max K2 K3,fun n hn=>?_⟩;have e2:=hK2 n (by omega);have e3:=hK3 n (by omega);generalize allBx.put i s=b at *;generalize one p1 n=c1 at *;subst hfr;simp only[S.enc,List.map_cons,List.map_nil]at e2;have hfz:(fz1 true (.own (4*(nx+9)) 0 1 0)).run (Arx.set H (4*(nx+9)) (.buf 0 16 [b.enc.map AV.iv]))=some (.iv (.sl 16 [b.enc]),Arx.set (Arx.set H (4*(nx+9)) (.buf 0 16 [b.enc.map AV.iv])) (4*(nx+9)) (.imm 0 16 [b.enc])):=by
  unfold fz1 fz;simp[M.run,M.look,M.run_bind,get_set_same,M.ok,M.bind,M.mapL,enc_fz,M.write]
 have e3':=e3 _ _ _ hfz;have hlen:=enc_len16 b;generalize b.enc.map AV.iv=cs at *;rcases hv with rfl | ⟨id,hid,rfl,h3⟩
 ·simp[opsB,F185,evalFeet,Xp.enc,e2,e3',hf,Nat.add_assoc,hlen,setAll,footOf];unfold orderOk;rw[Bool.or_eq_true];right;simp[apartAll,apart1,clash,meets,M.foot]
 ·simp[opsB,F185,evalFeet,Xp.enc,e2,e3',hf,h3,Nat.add_assoc,hlen,setAll,footOf];unfold orderOk;rw[Bool.or_eq_true];right;simp[apartAll,apart1,clash,meets,M.foot,M.bind,M.ok,M.lift,mk,obRead,Xp.enc,h3]
end
section
variable {p1:Nat->Option Arb.IFn} {p2:Nat->Option IFn}
theorem LB.nil (H:Hp) (n:Nat):LB H n (.iv (.nsl 16)) []:=.inl ⟨rfl,rfl⟩
theorem LB.sl (H:Hp) (n:Nat) (l:List B):LB H n (.iv (.sl 16 (l.map B.enc))) l:=.inr (.inl rfl)
theorem LB.cell {H:Hp} {n:Nat} {y:AV} {l:List B} (h:LB H n y l):cellsM y = .ret [y]:=by
 rcases h with⟨rfl, -⟩|rfl | ⟨id, -,rfl, -⟩<;>rfl
theorem Ext.set {H H':Hp} {n n' id:Nat} (h:Ext H n H' n') (h1:4*n<=id) (h2:id<4*n') (o:Ob):Ext H n (Arx.set H' id o) n':=
 ⟨h.le,fun k hk=>by rw[get_set_ne _ _ (by omega)];exact h.fresh k hk,fun k hk=>by rw[get_set_ne _ _ (by omega)];exact h.old k hk⟩
theorem Ext.up {H H':Hp} {n n' n'':Nat} (h:Ext H n H' n') (hn:n'<=n''):Ext H n H' n'':=⟨Nat.le_trans h.le hn,fun k hk=>h.fresh k (by omega),h.old⟩
theorem next_ok (hp2:PrimsLe p2) (L:LibB p1 p2) (both neg:Bool) {l m:List B} (hl:l.length<=16) (hm:m.length<=16) {q1 k1 q2 k2:Nat} (hL:∀b ∈ l,b.lim q1 k1) (hM:∀b ∈ m,b.lim q2 k2) (hq:q1+q2+3<=1000) (hk:k1+k2<=400) (v:AV) (a b c:AV) (y z:AV) (H:Hp) (nx n0:Nat) (hn0:n0<=nx) (hf:Fresh H nx) (H0:Hp)
  (hE:Ext H0 n0 H nx) (hy:LB H nx y l) (hz:LB H nx z m) (hown:∀k,(y = .own k 0 l.length 0\/z = .own k 0 m.length 0)->4*n0<=k) {Q:Ex->St->Prop}
  (hQ:∀(H':Hp) (nx':Nat),Ext H0 n0 H' nx'->Q .norm ⟨[(0,v),(1,a),(6,.iv (.sl 16 ((nextB both l m).map B.enc))),(7,.bI both),(25,b),(26,c)],H',nx'⟩) :
  Wp p1 p2 (.seq (.rgn false [⟨some 43,.mov (.t 7),none,[]⟩] [0,1,6,7,9,25,26,43])
  (.cond (.t 43) (.rgn false [⟨some 44,.mov (.t 6),none,[]⟩,
  ⟨some 45,.mov (.t 9),none,[]⟩,
  ⟨some 46,.call 3 (.c (.iv (.fn 121 []))) [.t 44,.t 45],none,[]⟩,
  ⟨some 47,.call 3 (.c (.iv (.fn 47 []))) [.t 46],none,[]⟩,
  ⟨some 6,.mov (.t 47),none,[]⟩] [0,1,6,7,25,26])
  (.rgn false [⟨some 48,.mov (.t 6),none,[]⟩,
  ⟨some 49,.mov (.t 9),none,[]⟩,
  ⟨some 50,.bsl 1 [.iv (.nsl 16)] 2 [(0,.t 48),(1,.t 49)],none,[]⟩,
  ⟨some 51,.scall (.c (.iv (.fn 187 []))) [.t 50],none,[]⟩,
  ⟨some 52,.call 3 (.c (.iv (.fn 47 []))) [.t 51],none,[]⟩,
  ⟨some 6,.mov (.t 52),none,[]⟩] [0,1,6,7,25,26])))
   ⟨[(0,v),(1,a),(6,y),(7,.bI both),(9,z),(25,b),(26,c)],H,nx⟩ Q:=by
 refine Wp.seq ?_;refine Wp.rg ?_;refine Wp.cond rfl ?_;have hL':∀b ∈ l,b.lim 1000 400:=fun b hb=>limM (hL b hb) (by omega) (by omega)
 have hM':∀b ∈ m,b.lim 1000 400:=fun b hb=>limM (hM b hb) (by omega) (by omega)
 cases both with
 |true=>
  simp only[if_true];obtain⟨K1,hK1⟩:=call121 L (a:=l) (b:=m) (by omega) (by omega) hL' hM';obtain⟨K2,hK2⟩:=call47 L (l:=prodF l m) (Nat.le_trans (prodF_len _ _) (Nat.le_trans (Nat.mul_le_mul hl hm) (by omega))) (fun b hb=>by
   obtain⟨x,hx,y,hy,rfl⟩:=prodF_mem hb;exact limM (andB_lim (hL x hx) (hM y hy)) (by omega) (by omega))
  obtain⟨H1,f1,f1a,f1b,f1c⟩:=hy.fz1;obtain⟨H2,f2,f2a,f2b,f2c⟩:=(f1b _ _ _ hz).fz1;have hE2:Ext H0 n0 H2 (nx+1+5):=by
   refine⟨by omega,fun k hk=>?_,fun k hk=>?_⟩
   ·rw[f2a k (by omega),f1a k (by omega)];exact hf k (by omega)
   ·rw[f2c k (fun e=>by have:=hown k (.inr e);omega),f1c k (fun e=>by have:=hown k (.inl e);omega)];exact hE.old k hk
  refine Wp.rgn (K:=max K1 K2) (s':=⟨[(0,v),(1,a),(6,.iv (.sl 16 ((nextB true l m).map B.enc))),(7,.bI true),(25,b),(26,c)],H2,nx+1+5⟩) (fun n hn=>by
   have e1:=hK1 n (by omega) H H1 H2 y z f1 f2;have e2:=hK2 n (by omega) H2 H2 (.iv (.sl 16 ((prodF l m).map B.enc))) rfl;have h3:nextB true l m=tidyF (prodF l m):=rfl;rw[h3];generalize tidyF (prodF l m)=t at *;generalize prodF l m=u at *;simp[e1,e2]) ?_
  exact hQ _ _ hE2
 |false=>
  simp only[Bool.false_eq_true,if_false];obtain⟨K2,hK2⟩:=call47 L (l:=l++m) (by rw[List.length_append];omega) (fun b hb=>(List.mem_append.1 hb).elim (hL' b) (hM' b));have hfr:get H (4*(nx+1+2))=none:=hf _ (by omega);obtain⟨H3,n3,w,hE3,hw,hwo,K3,hK3⟩:=ev187 (p1:=p1) hp2 L.h188 L.h187 (Arx.set H (4*(nx+1+2)) (.buf 0 1 [[y],[z]])) (nx+1+6) (4*(nx+1+2)) y z l m (by omega) (get_set_same _ _ _) (fun k hk=>by rw[get_set_ne _ _ (by omega)];exact hf k (by omega))
   (hy.mono (by omega) fun k hk=>get_set_ne _ _ (by omega)) (hz.mono (by omega) fun k hk=>get_set_ne _ _ (by omega)) (by omega)
  obtain⟨H4,f1,f1a,f1b,f1c⟩:=hw.fz1;have hE4:Ext H0 n0 H4 n3:=by
   refine⟨by have:=hE3.le;omega,fun k hk=>?_,fun k hk=>?_⟩
   ·rw[f1a k (by omega)];exact hE3.fresh k hk
   ·rw[f1c k (fun e=>by have:=hwo _ _ _ _ e;omega),hE3.old k (by omega),get_set_ne _ _ (by omega)];exact hE.old k hk
  refine Wp.rgn (K:=max K2 K3) (s':=⟨[(0,v),(1,a),(6,.iv (.sl 16 ((nextB false l m).map B.enc))),(7,.bI false),(25,b),(26,c)],H4,n3⟩) (fun n hn=>by
   have e1:=hK3 n (by omega);have e2:=hK2 n (by omega) H3 H4 w f1;have h3:nextB false l m=tidyF (l++m):=rfl;rw[h3];generalize tidyF (l++m)=t at *;simp only[Nat.add_assoc,Nat.reduceAdd]at e1 hfr;have c1:=hy.cell;have c2:=hz.cell;simp[-cellsM,c1,c2,hfr,setAll,Nat.add_assoc,e1,e2]) ?_
  exact hQ _ _ hE4
theorem boxesX_atom (neg:Bool) (a:Int) (s:S) (sub:List Xp):boxesX neg (.mk 1 a s sub)=(tidyF [allBx.put a.toNat (if neg then notS s else s)],0):=by
 conv=>lhs;unfold boxesX
 rw[if_pos rfl]
theorem cnt_pos (x:Xp):1<=cnt x:=by cases x;unfold cnt;omega
theorem cntL_cons (z:Xp) (l:List Xp):cntL (z::l)=cnt z+cntL l:=by conv=>lhs;unfold cntL
theorem cntL_nil:cntL []=0:=by unfold cntL;rfl
theorem cntL_take {sub:List Xp} {i:Nat} {x:Xp} (h:sub[i]?=some x):cntL (sub.take (i+1))=cntL (sub.take i)+cnt x:=by
 have key:∀(l:List Xp) (y:Xp),cntL (l++[y])=cntL l+cnt y:=by
  intro l y
  induction l with
  |nil=>rw[List.nil_append,cntL_cons,cntL_nil];omega
  |cons z l ih=>rw[List.cons_append,cntL_cons,cntL_cons,ih];omega
 rw[List.take_add_one,h];exact key _ _
theorem cntL_drop (sub:List Xp) (i:Nat):cntL sub=cntL (sub.take i)+cntL (sub.drop i):=by
 induction sub generalizing i with
 |nil=>simp[cntL_nil]
 |cons z l ih=>
  cases i with
  |zero=>simp[cntL_nil]
  |succ i=>rw[List.take_succ_cons,List.drop_succ_cons,cntL_cons,cntL_cons,ih i];omega
set_option maxHeartbeats 2000000 in
theorem ev185 (hp2:PrimsLe p2) (L:LibB p1 p2) {x:Xp} (hx:x.ok):∀(neg:Bool) (v:AV) (H:Hp) (nx:Nat),allX x=true->cnt x<=40->PZ H nx v x->Fresh H nx->
  ∃H' nx' y,Ext H nx H' nx'/\LB H' nx' y (boxesX neg x).1/\(∀k o n w,y = .own k o n w->4*nx<=k)/\Ev p1 p2 185 [v,.bI neg] H nx (.tup [y,.iv (.int .i64 (boxesX neg x).2)],H',nx'):=by
 induction hx with
 |@mk k a s sub hk ha hs hl hsub ih=>
  intro neg v H nx hall hcnt hv hf;obtain⟨hall1,hone⟩:=allX_mk hall;have hcX:cnt (.mk k a s sub)=1+cntL sub:=by conv=>lhs;unfold cnt
  rw[hcX]at hcnt;have key:Wp p1 p2 F185.body ⟨params [v,.bI neg] 0,H,nx⟩ (fun e st=>∃r:AV×Hp×Nat,(∃y,r.1 = .tup [y,.iv (.int .i64 (boxesX neg (.mk k a s sub)).2)]/\Ext H nx r.2.1 r.2.2/\LB r.2.1 r.2.2 y (boxesX neg (.mk k a s sub)).1/\(∀k o n w,y = .own k o n w->4*nx<=k))/\Fin F185.res r e st):=by
   refine Wp.seq ?_;refine Wp.rg ?_;refine Wp.seq ?_;refine Wp.rg ?_;refine Wp.seq (Wp.seq ?_);have hbeq:∀n:Int,(k==n)=decide (k=n):=fun n=>by by_cases h:k=n<;>simp[h]
   refine Wp.rgn (K:=0) (s':=⟨[(0,v),(1,.bI neg),(6,.iv (.nsl 16)),(7,.bI (decide (k=2) != neg))],H,nx+11⟩) (fun n _=>by
    rcases hv with rfl | ⟨id,hid,rfl,h3⟩
    ·simp[Xp.enc,hbeq];cases decide (k=2)<;>cases neg<;>rfl
    ·simp[h3,Xp.enc,hbeq];cases decide (k=2)<;>cases neg<;>rfl) ?_
   refine Wp.block (Wp.seq ?_);refine Wp.rgn (K:=0) (s':=⟨[(0,v),(1,.bI neg),(6,.iv (.nsl 16)),(7,.bI (decide (k=2) != neg)),(57,.bI (decide (k=1)&&neg))],H,nx+20⟩) (fun n _=>by
    rcases hv with rfl | ⟨id,hid,rfl,h3⟩
    ·cases hb:decide (k=1)<;>simp[Xp.enc,hbeq,hb]
    ·cases hb:decide (k=1)<;>simp[h3,Xp.enc,hbeq,hb]) ?_
   refine Wp.cond rfl ?_;by_cases k1:k=1
   ·subst k1;rw[boxesX_atom];cases neg with
    |true=>
     simp only[decide_true,Bool.and_self,if_true];refine Wp.seq ?_;have hv2:PZ H (nx+20) v (.mk 1 a s sub):=hv.ext (.refl hf (by omega));obtain⟨K,hK⟩:=atomA L hs hall v H (nx+20) hv2 (hf _ (by omega)) _ rfl;refine Wp.rgn (K:=K) (fun n hn=>hK n hn) ?_;refine Wp.ret ⟨(_,_,_),⟨_,rfl,?_,LB.sl _ _ _,fun k o n w h=>by cases h⟩,rfl,rfl⟩;exact((Ext.refl hf (show nx<=nx+20+14 by omega)).set (by omega) (by omega) _).set (by omega) (by omega) _
    |false=>
     simp only[decide_true,Bool.and_false,Bool.false_eq_true,if_false];refine Wp.seq ?_;refine Wp.rgn (K:=0) (s':=⟨[(0,v),(1,.bI false),(6,.iv (.nsl 16)),(7,.bI (decide ((1:Int)=2) != false)),(78,.bI true)],H,nx+26⟩) (fun n _=>by
      rcases hv with rfl | ⟨id,hid,rfl,h3⟩
      ·simp[Xp.enc]
      ·simp[h3,Xp.enc]) ?_
     refine Wp.cond (t:=true) rfl ?_;simp only[if_true];refine Wp.seq ?_;have hv2:PZ H (nx+26) v (.mk 1 a s sub):=hv.ext (.refl hf (by omega));obtain⟨K,hK⟩:=atomB L hs hall v H (nx+26) hv2 (hf _ (by omega)) _ rfl;refine Wp.rgn (K:=K) (fun n hn=>hK n hn) ?_;refine Wp.ret ⟨(_,_,_),⟨_,rfl,?_,LB.sl _ _ _,fun k o n w h=>by cases h⟩,rfl,rfl⟩;exact((Ext.refl hf (show nx<=nx+26+13 by omega)).set (by omega) (by omega) _).set (by omega) (by omega) _
   ·have hX:boxesX neg (.mk k a s sub)=if k=4 then boxes1 (!neg) sub else boxesL neg (decide (k=2) != neg) sub (if decide (k=2) != neg then[allBx] else[]):=by
     conv=>lhs;unfold boxesX
     rw[if_neg k1]
    rw[decide_eq_false k1];simp only[Bool.false_and,Bool.false_eq_true,if_false];refine Wp.seq ?_;refine Wp.rgn (K:=0) (s':=⟨[(0,v),(1,.bI neg),(6,.iv (.nsl 16)),(7,.bI (decide (k=2) != neg)),(78,.bI false)],H,nx+26⟩) (fun n _=>by
     have:=decide_eq_false k1;rcases hv with rfl | ⟨id,hid,rfl,h3⟩
     ·simp[Xp.enc,hbeq,this]
     ·simp[h3,Xp.enc,hbeq,this]) ?_
    refine Wp.cond (t:=false) rfl ?_;simp only[Bool.false_eq_true,if_false];refine Wp.seq ?_;refine Wp.rgn (K:=0) (s':=⟨[(0,v),(1,.bI neg),(6,.iv (.nsl 16)),(7,.bI (decide (k=2) != neg)),(95,.bI (decide (k=4)))],H,nx+32⟩) (fun n _=>by
     rcases hv with rfl | ⟨id,hid,rfl,h3⟩
     ·simp[Xp.enc,hbeq]
     ·simp[h3,Xp.enc,hbeq]) ?_
    refine Wp.cond rfl ?_;by_cases k4:k=4
    ·subst k4;rw[if_pos rfl]at hX;obtain⟨x0,rfl⟩:=one_not hone;have hX2:boxesX neg (.mk 4 a s [x0])=boxesX (!neg) x0:=by rw[hX];unfold boxes1;rfl
     rw[hX2];simp only[decide_true,if_true];refine Wp.seq ?_;have hc0:cntL [x0]=cnt x0:=by unfold cntL;unfold cntL;rfl
     obtain⟨H',n',y,hE,hy,hyo,K,hK⟩:=ih x0 (by simp) (!neg) (.iv (.ptr x0.enc)) H (nx+32+12) (hall1 x0 (by simp)) (by omega) (.inl rfl) (fun k hk=>hf k (by omega));generalize boxesX (!neg) x0=r at *;refine Wp.rgn (K:=K) (s':=⟨[(4,y),(5,.nI r.2)],H',n'⟩) (fun n hn=>by
      have hc:=hK n hn;rcases hv with rfl | ⟨id,hid,rfl,h3⟩
      ·simp[Xp.enc,Xp.encs_map,hc]
      ·simp[h3,Xp.enc,Xp.encs_map,hc]) ?_
     refine Wp.ret ⟨(_,_,_),⟨y,rfl,⟨by have:=hE.le;show nx<=n';omega,hE.fresh,fun k hk=>hE.old k (by omega)⟩,hy,fun k o n w h=>by have:=hyo k o n w h;omega⟩,rfl,rfl⟩
    ·rw[if_neg k4]at hX;rw[hX,decide_eq_false k4];simp only[Bool.false_eq_true,if_false];clear hX;generalize(decide (k=2) != neg)=both at *;refine Wp.seq (Wp.seq ?_);refine Wp.rg ?_;generalize hl0:(if both then[allBx] else[])=l0;have hmid:Wp p1 p2 (.cond (.t 18) (.rgn false [⟨some 19,.call 3 (.c (.iv (.fn 42 []))) [],none,[]⟩,
       ⟨some 20,.bsl 16 [.bI false,.iv (.nsl 2),.bI false,.iv (.nsl 1),.bI false,.iv (.nsl 2),.bI false,.iv (.nsl 1),.bI false,.iv (.nsl 2),.bI false,.iv (.nsl 1),.bI false,.iv (.nsl 2),.bI false,.iv (.nsl 1)] 1 [(0,.t 19)],none,[]⟩,
       ⟨some 6,.mov (.t 20),none,[]⟩] [0,1,6,7]) .skip) ⟨[(0,v),(1,.bI neg),(6,.iv (.nsl 16)),(7,.bI both),(18,.bI both)],H,nx+33⟩
       (fun e st=>e = .norm/\∃(H0:Hp) (n0:Nat) (y0:AV),Ext H nx H0 n0/\LB H0 n0 y0 l0/\(∀k o n w,y0 = .own k o n w->4*nx<=k)/\∃z,(z=[]\/z=[(18,.bI false)])/\st=⟨[(0,v),(1,.bI neg),(6,y0),(7,.bI both)]++z,H0,n0⟩):=by
      refine Wp.cond rfl ?_;cases both with
      |false=>
       subst hl0;exact Wp.skip ⟨rfl,H,nx+33,_,.refl hf (by omega),LB.nil _ _,(fun k o n w h=>by cases h),[(18,.bI false)],.inr rfl,rfl⟩
      |true=>
       subst hl0;simp only[if_true];obtain⟨K,hK⟩:=L.hA;have hfr:get H (4*(nx+34))=none:=hf _ (by omega);refine Wp.rgn (K:=K) (s':=⟨[(0,v),(1,.bI neg),(6,.own (4*(nx+34)) 0 1 0),(7,.bI true)],Arx.set H (4*(nx+34)) (.buf 0 16 [bxC allBx]),nx+36⟩) (fun n hn=>by
        have e:(one p1 n 42 [] []).bind shut=some (.agg (allBx.enc.map Arb.AV.iv)):=hK n hn;have hlen:=enc_len16 allBx;have hc:(fcallM (one p1 n) (.iv (.fn 42 [])) []).run H=some (.agg (allBx.enc.map AV.iv),H):=by
         simp[fcallM,callee,M.run_bind,M.lift,M.run,M.mapL,e,ofA,of1,allIv_iv]
        unfold bxC;generalize allBx.enc.map AV.iv=cs at *;simp[hc,hfr,hlen,setAll,Nat.add_assoc]) ?_
       exact⟨rfl,_,nx+36,_,(Ext.refl hf (show nx<=nx+36 by omega)).set (by omega) (by omega) _,.inr (.inr ⟨4*(nx+34),by omega,rfl,.inl (get_set_same _ _ _)⟩),(fun k o n w h=>by cases h;omega),[],.inl rfl,rfl⟩
     refine Wp.mono hmid ?_;rintro e st ⟨rfl,H0,n0,y0,hE0,hy0,hyo0,z,hz,rfl⟩;simp only[Ex.then];have hv0:=hv.ext hE0;refine Wp.seq ?_;refine Wp.rgn (K:=0) (s':=⟨[(0,v),(1,.bI neg),(6,y0),(7,.bI both),(25,.nI sub.length),(26,.nI 0)],H0,n0+6⟩) (fun n _=>by
      rcases hz with rfl | rfl
      ·rcases hv0 with rfl | ⟨id,hid,rfl,h3⟩
       ·simp[Xp.enc,Xp.encs_map]
       ·simp[h3,Xp.enc,Xp.encs_map]
      ·rcases hv0 with rfl | ⟨id,hid,rfl,h3⟩
       ·simp[Xp.enc,Xp.encs_map]
       ·simp[h3,Xp.enc,Xp.encs_map]) ?_
     refine Wp.block ?_;have hlim0:∀b ∈ l0,b.lim (1+10*0) (6*0):=fun b hb=>by
      rw[<-hl0]at hb;split at hb
      ·simp only[List.mem_singleton]at hb;subst hb;exact limM allBx_lim (by omega) (by omega)
      ·simp at hb
     have hlen0:l0.length<=16:=by rw[<-hl0];split<;>simp
     refine Wp.loop (fun m s1=>∃(i n2:Nat) (y:AV) (H2:Hp) (l:List B),i+m=sub.length/\boxesL neg both (sub.drop i) l=boxesL neg both sub l0/\Ext H nx H2 n2/\LB H2 n2 y l/\(∀k o n w,y = .own k o n w->4*nx<=k)/\l.length<=16/\
      (∀b ∈ l,b.lim (1+10*cntL (sub.take i)) (6*cntL (sub.take i)))/\s1=⟨[(0,v),(1,.bI neg),(6,y),(7,.bI both),(25,.nI sub.length),(26,.nI i)],H2,n2⟩) (m:=sub.length)
      ⟨0,n0+6,y0,H0,l0,by omega,rfl,hE0.up (by omega),hy0.mono (by omega) fun _ _=>rfl,hyo0,hlen0,by simpa[cntL_nil]using hlim0,by simp[fr_cons,keepFr]⟩ ?_
     rintro m s1 ⟨i,n2,y,H2,l,him,hbx,hE2,hy,hyo,hlen,hlim,rfl⟩;refine Wp.seq ?_;by_cases hi:i<sub.length
     ·have hx:sub[i]?=some sub[i]:=List.getElem?_eq_getElem hi;have hdr:sub.drop i=sub[i]::sub.drop (i+1):=List.drop_eq_getElem_cons hi;have hwi:IntKind.i64.wrap ((i:Int)+1)=(i:Int)+1:=wrap_succ hi hl;have hct:=cntL_take hx;have hcd:=cntL_drop sub (i+1);have hv2:=hv.ext hE2;obtain⟨q1,q2⟩:=boxes_lim (hsub _ (List.getElem_mem hi)) neg (hall1 _ (List.getElem_mem hi));obtain⟨H3,n3,y3,hE3,hy3,hyo3,K,hK⟩:=ih sub[i] (List.getElem_mem _) neg (.iv (.ptr (sub[i]).enc)) H2 (n2+3+13) (hall1 _ (List.getElem_mem _)) (by omega) (.inl rfl) (fun k hk=>hE2.fresh k (by omega));rw[hdr]at hbx
      conv at hbx=>lhs;unfold boxesL
      have hcp:cnt sub[i]<=40:=by omega
      have hcp0:1<=cnt sub[i]:=cnt_pos _;generalize cnt sub[i]=cn at *;generalize boxesX neg sub[i]=r at *;obtain⟨m2,e⟩:=r;simp only at hbx hy3 hK q1 q2;refine Wp.rgn (K:=0) (fun n _=>by simp[hi];rfl) ?_;refine Wp.seq (Wp.cond (t:=true) rfl (Wp.skip (Wp.seq (Wp.block (Wp.seq ?_)))));refine Wp.rgn (K:=0) (s':=⟨[(0,v),(1,.bI neg),(6,y),(7,.bI both),(8,.nI i),(25,.nI sub.length),(26,.nI i)],H2,n2+3⟩) (fun n _=>by simp) ?_;refine Wp.seq ?_;refine Wp.rgn (K:=K) (s':=⟨[(0,v),(1,.bI neg),(6,y),(7,.bI both),(9,y3),(10,.nI e),(25,.nI sub.length),(26,.nI i)],H3,n3⟩) (fun n hn=>by
       have hc:=hK n hn;rcases hv2 with rfl | ⟨id,hid,rfl,h3⟩
       ·simp[Xp.enc,Xp.encs_map,hx,hc]
       ·simp[h3,Xp.enc,Xp.encs_map,hx,hc]) ?_
      have hE23:Ext H nx H3 n3:=hE2.trans ⟨by have:=hE3.le;omega,hE3.fresh,fun k hk=>hE3.old k (by omega)⟩;refine Wp.seq (Wp.seq ?_);refine Wp.rg ?_;refine Wp.cond rfl ?_;by_cases he:e=0
      ·subst he;simp only[ne_eq,not_true_eq_false,if_false]at hbx;refine Wp.skip ?_;simp only[Ex.then];refine Wp.seq ?_;have hy':LB H3 (n3+2) y l:=hy.mono (by have:=hE3.le;omega) fun k hk=>hE3.old k (by omega)
       refine next_ok hp2 L both neg hlen q2 hlim q1 (by omega) (by omega) v (.bI neg) (.nI sub.length) (.nI i) y y3 H3 (n3+2) nx (by have:=hE23.le;omega) (fun k hk=>hE23.fresh k (by omega)) H (hE23.up (by omega)) hy' (hy3.mono (by omega) fun _ _=>rfl)
        (fun k hk=>by
         rcases hk with hk | hk
         ·exact hyo _ _ _ _ hk
         ·have:=hyo3 _ _ _ _ hk;have:=hE2.le;omega) ?_
       intro H4 n4 hE4;simp only[Ex.then];have hnl:=nextB_lim (both:=both) hlim q1;generalize nextB both l m2=l4 at *;refine Wp.seq ?_;refine Wp.rgn (K:=0) (s':=⟨[(0,v),(1,.bI neg),(6,.iv (.sl 16 (l4.map B.enc))),(7,.bI both),(25,.nI sub.length),(26,.nI i),(55,.bI (decide (16<l4.length)))],H4,n4+3⟩) (fun n _=>by
        have:decide ((16:Int)<(l4.length:Int))=decide (16<l4.length):=decide_eq_decide.2 (by omega);simp[this]) ?_
       refine Wp.cond rfl ?_;by_cases h16:16<l4.length
       ·rw[if_pos h16]at hbx;rw[decide_eq_true h16];simp only[if_true];refine Wp.seq ?_;refine Wp.rg ?_;refine Wp.ret ?_;rw[<-hbx];exact⟨(_,_,_),⟨_,rfl,hE4.up (show n4<=n4+3+2 by omega),LB.nil _ _,fun k o n w h=>by cases h⟩,rfl,rfl⟩
       ·rw[if_neg h16]at hbx;rw[decide_eq_false h16];simp only[Bool.false_eq_true,if_false];refine Wp.skip ?_;simp only[Ex.then,Ex.inBlock];refine Wp.rgn (K:=0) (fun n _=>by simp[hwi];rfl) ?_;refine⟨m - 1,by omega,i+1,n4+3+2,_,H4,l4,by omega,hbx,hE4.up (by omega),LB.sl _ _ _,(fun k o n w h=>by cases h),by omega,fun b hb=>limM (hnl b hb) (by omega) (by omega),by simp[fr_cons,keepFr]⟩
      ·have hne:(e==0)=false:=beq_eq_false_iff_ne.2 he;simp only[ne_eq,he,not_false_eq_true,if_true]at hbx;rw[show(e != 0)=true from bne_iff_ne.2 he];simp only[if_true];refine Wp.seq ?_;refine Wp.rg ?_;refine Wp.ret ?_;rw[<-hbx];exact⟨(_,_,_),⟨_,rfl,hE23.up (show n3<=n3+2+3 by omega),LB.nil _ _,fun k o n w h=>by cases h⟩,rfl,rfl⟩
     ·have hdr:sub.drop i=[]:=List.drop_eq_nil_of_le (by omega);rw[hdr]at hbx
      conv at hbx=>lhs;unfold boxesL
      refine Wp.rgn (K:=0) (fun n _=>by simp[hi];rfl) ?_;refine Wp.seq (Wp.cond (t:=false) rfl (Wp.exit ?_));simp only[Ex.then,Ex.inBlock,if_true];refine Wp.seq ?_;refine Wp.rg ?_;refine Wp.ret ?_;rw[<-hbx];exact⟨(_,_,_),⟨y,rfl,hE2.up (show n2<=n2+1+3 by omega),hy.mono (by show n2<=n2+1+3;omega) fun _ _=>rfl,hyo⟩,rfl,rfl⟩
  obtain⟨⟨y,H',nx'⟩,⟨y',rfl,h1,h2,h3⟩,h4⟩:=Ev.ofx hp2 L.h185 rfl rfl _ key;exact⟨H',nx',y',h1,h2,h3,h4⟩
end
mutual
theorem meas_cnt:∀(x:Xp) (left:Nat) (p:Int),(meas left x p).2.2=true->(meas left x p).1=p+cnt x
 |.mk k a s sub,left,p,h=>by
  unfold meas at h ⊢;unfold cnt;split at h
  ·simp at h
  ·rename_i hs;rw[if_neg hs];have:=measL_cnt sub (left - 1) (p+1) 0 h;rw[this];omega
theorem measL_cnt:∀(l:List Xp) (left:Nat) (p d:Int),(measL left l p d).2.2=true->(measL left l p d).1=p+cntL l
 |[],left,p,d,h=>by unfold measL cntL;simp
 |x::l,left,p,d,h=>by
  unfold measL at h ⊢;split at h
  ·rename_i hok;rw[if_pos hok];have h1:=meas_cnt x left p hok;have h2:=measL_cnt l left _ _ h;rw[cntL_cons,h2,h1];omega
  ·simp at h
end
theorem right_cnt {x:Xp} (h:rightX x=true):cnt x<=40/\allX x=true:=by
 unfold rightX at h;rw[Bool.and_eq_true,decide_eq_true_eq]at h;refine⟨?_,h.2⟩;have h1:=h.1;unfold sizeX at h1;split at h1
 ·rename_i hok;have a:=meas_cnt x 8 0 hok;have b:=(meas_in x 8 0 (by omega) (by omega)).2.2.2.2 hok;omega
 ·simp at h1
def ofX (x:Xp):List B×Int:=if rightX x then(if(boxesX false x).2=0/\rightF (boxesX false x).1=true then((boxesX false x).1,0) else([],4)) else([],2)
section
variable {p1:Nat->Option Arb.IFn} {p2:Nat->Option IFn}
structure LibO (p1:Nat->Option Arb.IFn) (p2:Nat->Option IFn):Prop extends LibB p1 p2 where
 h46:p1 46=some Arb.F46
 h45:p1 45=some Arb.F45
 h30:p1 30=some Arb.F30
 h184:p2 184=some F184
set_option maxHeartbeats 1000000 in
theorem ev184 (hp2:PrimsLe p2) (L:LibO p1 p2) {x:Xp} (hx:x.ok) (H:Hp) (nx:Nat) (hf:Fresh H nx):∃H' nx' y,Ext H nx H' nx'/\LB H' nx' y (ofX x).1/\(∀k o n w,y = .own k o n w->4*nx<=k)/\
  Ev p1 p2 184 [.agg (x.enc.map .iv)] H nx (.tup [y,.iv (.int .i64 (ofX x).2)],H',nx'):=by
 have f0:=hf (4*nx) (by omega);have hlen:(x.enc.map AV.iv).length=7:=by rw[List.length_map];exact x.len_enc
 have htk:(x.enc.map AV.iv).take 7=x.enc.map AV.iv:=List.take_of_length_le (by omega);have hE1:Ext H nx (Arx.set H (4*nx) (.cells (x.enc.map .iv))) (nx+3):=(Ext.refl hf (by omega)).set (by omega) (by omega) _;obtain⟨H1,n1,hE2,K1,hK1⟩:=ev186 (p1:=p1) hp2 L.toLibX hx (Arx.set H (4*nx) (.cells (x.enc.map .iv))) (nx+3+3) (fun k hk=>hE1.fresh k (by omega));have hE12:Ext H nx H1 n1:=hE1.trans ⟨by have:=hE2.le;omega,hE2.fresh,fun k hk=>hE2.old k (by omega)⟩;have hg:get H1 (4*nx)=some (.cells (x.enc.map .iv)):=by rw[hE2.old _ (by omega)];exact get_set_same _ _ _
 have key:Wp p1 p2 F184.body ⟨params [.agg (x.enc.map .iv)] 0,H,nx⟩ (fun e st=>∃r:AV×Hp×Nat,(∃y,r.1 = .tup [y,.iv (.int .i64 (ofX x).2)]/\Ext H nx r.2.1 r.2.2/\LB r.2.1 r.2.2 y (ofX x).1/\(∀k o n w,y = .own k o n w->4*nx<=k))/\Fin F184.res r e st):=by
  refine Wp.seq ?_;refine Wp.rgn (K:=0) (s':=⟨[(1,.ref (4*nx) 0 0 0)],Arx.set H (4*nx) (.cells (x.enc.map .iv)),nx+3⟩) (fun n _=>by simp[f0]) ?_;refine Wp.seq (Wp.seq ?_);unfold ofX;generalize hcs:x.enc.map AV.iv=cs at *;cases hr:rightX x with
  |false=>
   rw[hr]at hK1;refine Wp.rgn (K:=K1) (s':=⟨[(1,.ref (4*nx) 0 0 0),(8,.bI true)],H1,n1⟩) (fun n hn=>by
    have hc:=hK1 n hn;simp[hlen,htk,hc]) ?_
   refine Wp.cond (t:=true) rfl ?_;simp only[if_true];refine Wp.seq ?_;refine Wp.rg ?_;exact Wp.ret ⟨(_,_,_),⟨_,rfl,hE12.up (show n1<=n1+2 by omega),LB.nil _ _,fun k o n w h=>by cases h⟩,rfl,rfl⟩
  |true=>
   rw[hr]at hK1;obtain⟨hcn,hall⟩:=right_cnt hr;obtain⟨b1,b2⟩:=boxes_lim hx false hall;obtain⟨H2,n2,y,hE3,hy,hyo,K2,hK2⟩:=ev185 (p1:=p1) hp2 L.toLibB hx false (.ref (4*nx) 0 0 0) H1 (n1+6) hall hcn (.inr ⟨4*nx,by have:=hE12.le;have:=hE2.le;omega,rfl,by rw[hcs];exact hg⟩) (fun k hk=>hE12.fresh k (by omega));have hE13:Ext H nx H2 n2:=hE12.trans ⟨by have:=hE3.le;omega,hE3.fresh,fun k hk=>hE3.old k (by omega)⟩;refine Wp.rgn (K:=K1) (s':=⟨[(1,.ref (4*nx) 0 0 0),(8,.bI false)],H1,n1⟩) (fun n hn=>by
    have hc:=hK1 n hn;simp[hlen,htk,hc]) ?_
   refine Wp.cond (t:=false) rfl (Wp.skip ?_);simp only[Ex.then];refine Wp.seq ?_;generalize hbx:boxesX false x=r at *;obtain⟨l,e⟩:=r;simp only at b1 b2 hy hK2;refine Wp.rgn (K:=K2) (s':=⟨[(4,y),(5,.nI e)],H2,n2⟩) (fun n hn=>by
    have hc:=hK2 n hn;simp[hc]) ?_
   obtain⟨K3,hK3⟩:=p_rightF L.L9 L.h24 L.h46 L.h58 L.h45 L.h30 l (by omega) (fun b hb=>limM (b1 b hb) (by omega) (by omega));refine Wp.seq (Wp.seq ?_);refine Wp.rgn (K:=K3) (s':=⟨[(4,y),(19,.bI (!(decide (e=0)&&rightF l)))],H2,n2+7⟩) (fun n hn=>by
    have hc:(one p1 n 30 [filt l] []).bind shut=some (.bI (rightF l)):=hK3 n hn;simp only[filt]at hc;have hz:=hy.fz0;have hcall:(callM (one p1 n) (.iv (.fn 30 [])) [y]).run H2=some (.bI (rightF l),H2):=by
     simp[callM,callee,M.run_bind,M.lift,M.run,M.mapL,hz,hc,M.ok,flat,flat1,flat0,flatI,ofA,of1]
    have hb:(e==0)=decide (e=0):=by by_cases h:e=0<;>simp[h]
    have hb2:(e != 0)=!decide (e=0):=by rw[<-hb];rfl
    generalize rightF l=q at *;cases h0:decide (e=0)<;>simp[hcall,hb,hb2,h0]) ?_
   refine Wp.cond rfl ?_;simp only[if_true];by_cases hok:e=0/\rightF l=true
   ·rw[if_pos hok];have:(!(decide (e=0)&&rightF l))=false:=by rw[decide_eq_true hok.1,hok.2];rfl
    rw[this];simp only[Bool.false_eq_true,if_false];refine Wp.skip ?_;simp only[Ex.then];refine Wp.seq ?_;refine Wp.rg ?_;exact Wp.ret ⟨(_,_,_),⟨y,rfl,hE13.up (show n2<=n2+7+3 by omega),hy.mono (show n2<=n2+7+3 by omega) fun _ _=>rfl,fun k o n w h=>by have:=hyo k o n w h;have:=hE12.le;omega⟩,rfl,rfl⟩
   ·rw[if_neg hok];have:(!(decide (e=0)&&rightF l))=true:=by
     by_cases h0:e=0
     ·have:rightF l=false:=Bool.eq_false_iff.2 fun h=>hok ⟨h0,h⟩
      rw[this];simp
     ·rw[decide_eq_false h0];rfl
    rw[this];simp only[if_true];refine Wp.seq ?_;refine Wp.rg ?_;exact Wp.ret ⟨(_,_,_),⟨_,rfl,hE13.up (show n2<=n2+7+2 by omega),LB.nil _ _,fun k o n w h=>by cases h⟩,rfl,rfl⟩
 obtain⟨⟨y,H',nx'⟩,⟨y',rfl,h1,h2,h3⟩,h4⟩:=Ev.ofx hp2 L.h184 rfl rfl _ key;exact⟨H',nx',y',h1,h2,h3,h4⟩
end
end Arx
namespace Arb
open Go
attribute [local simp] evalRgn Option.map_some evalOps step wants osem M.run_bind M.mapL M.run M.ok M.fresh M.write M.look M.lift putD Arb.set ev Arb.get keepFr bin intBin strBin mk params cellsM load obRead fadr fld isl iarr xarr idx len valid slc bound store splice nilc un eqs eq0 evalFeet footOf M.foot orderOk apartAll apart1 clash meets callM fcallM callee fz1 fzC fz flat flat1 flat0 flatI Option.bind_some putAll M.bind oo om ol oa oc ob on og od oe ci cb
section
variable {prog:Nat->Option IFn}
theorem x_rightV (h:prog 138=some F138) (v:V):Ans prog 138 [v.av] (.bI (rightV v)):=by
 refine Ans.of h rfl rfl (Wp.seq ?_);refine Wp.rgn (K:=0) (fun n _=>by simp[V.av];rfl) ?_;refine Wp.seq (Wp.seq ?_);refine Wp.rg ?_;refine Wp.block (Wp.seq ?_);refine Wp.rg ?_;refine Wp.cond rfl ?_;unfold rightV;cases h0:v.k==0 with
 |true=>
  refine Wp.seq ?_;refine Wp.rgn (K:=0) (s':=⟨[(2,.bI (v.n==0&&v.s==⟨#[]⟩))],_,_⟩) (fun n _=>by
   simp[h0];exact⟨rfl,rfl⟩) ?_
  exact Wp.ret rfl
 |false=>
  simp only[Bool.false_eq_true,if_false];refine Wp.seq ?_;refine Wp.rg ?_;refine Wp.cond rfl ?_;cases h1:v.k==1 with
  |true=>
   refine Wp.seq ?_;refine Wp.rg ?_;exact Wp.ret rfl
  |false=>
   simp only[Bool.false_eq_true,if_false];refine Wp.seq ?_;refine Wp.rg ?_;refine Wp.cond rfl ?_;cases h2:v.k==2 with
   |true=>
    refine Wp.seq ?_;refine Wp.rgn (K:=0) (s':=⟨[(2,.bI (v.n==0&&decide (v.s.size<=8)))],_,_⟩) (fun n _=>by
     have hs:decide ((v.s.size:Int)<=8)=decide (v.s.size<=8):=decide_eq_decide.2 (by omega);cases h3:v.n==0<;>simp[h3,hs]
     all_goals exact⟨rfl,rfl⟩) ?_
    exact Wp.ret rfl
   |false=>
    refine Wp.skip ?_;simp only[Ex.then,Ex.inBlock];refine Wp.seq ?_;refine Wp.rg ?_;exact Wp.ret rfl
theorem x_event (h138:prog 138=some F138) (h:prog 137=some F137) (e:E):Ans prog 137 [e.av] (.bI (rightE e)):=by
 refine Ans.of h rfl rfl (Wp.seq ?_);refine Wp.rgn (K:=0) (s':=⟨[(1,.ref 1000 0 0 0)],[(1000,.cells e.cs)],1128⟩) (fun n _=>by simp[E.av,E.cs_nilc]) ?_;refine Wp.seq (Wp.seq ?_);refine Wp.rgn (K:=0) (fun n _=>by simp[E.cs_12,E.cs_len];rfl) ?_;refine Wp.block ?_;refine Wp.range 4 (fun i=>⟨[(5,.agg e.cs),(6,.nI i)],[(1000,.cells e.cs)],1256⟩) (fun i=>rightTo e i=true) rfl rfl ?_ ?_
 ·intro i hi hg;have hi':(i:Int)<4:=by omega
  have hm:min 3 (12 - i*3)=3:=by omega
  refine Wp.seq ?_;refine Wp.rgn (K:=0) (fun n _=>by simp[hi',hi];rfl) ?_;refine Wp.seq (Wp.cond rfl (Wp.skip (Wp.seq (Wp.block (Wp.seq ?_)))));refine Wp.rgn (K:=0) (fun n _=>by simp[E.cs_at e hi,hi',hi,E.cs_len,hm];rfl) ?_;refine Wp.seq ?_;obtain⟨K,hK⟩:=x_rightV h138 (e.get i);refine Wp.rgn (K:=K) (fun n hn=>by
   have hc:=hK n hn;simp only[V.av]at hc;simp[hc];rfl) ?_
  refine Wp.cond rfl ?_;have hnext:rightTo e (i+1)=(rightTo e i&&rightV (e.get i)):=rfl;cases hs:rightV (e.get i)with
  |false=>
   refine Wp.seq ?_;refine Wp.rg ?_;refine Wp.ret ?_;have hf:rightTo e (i+1)=false:=by rw[hnext,hs,Bool.and_false]
   have:rightE e=false:=by
    have key:∀m,i+1<=m->rightTo e m=false:=by
     intro m hm
     induction m with
     |zero=>omega
     |succ m ih=>
      by_cases h:i+1=m+1
      ·rw[<-h];exact hf
      ·show(rightTo e m&&_)=false
       rw[ih (by omega)];rfl
    exact key 4 (by omega)
   rw[this];rfl
  |true=>
   refine Wp.skip ?_;simp only[Ex.then,Ex.inBlock];refine Wp.rgn (K:=0) (fun n _=>by simp[wrap_lt4 hi];rfl) ?_;exact⟨by simp[again,keepFr,get,nrm_iv,nrm_agg,nrmO,E.cs_nrm,show e.cs=e.enc.map .iv from rfl],by rw[hnext,hg,hs];rfl⟩
 ·intro hg;refine Wp.seq ?_;refine Wp.rg ?_;refine Wp.seq (Wp.cond rfl (Wp.exit ?_));simp only[Ex.then,Ex.inBlock,if_true];refine Wp.seq ?_;refine Wp.rg ?_;refine Wp.ret ?_;rw[show rightE e=true from hg];rfl
end
def idxF {α:Type} (f:α->Bool):List α->Nat->Int
 |[],_=>-1
 |x::l,k=>if f x then(k:Int) else idxF f l (k+1)
theorem idxF_any {α:Type} (f:α->Bool):∀(l:List α) (k:Nat),decide (0<=idxF f l k)=l.any f
 |[],k=>by simp[idxF]
 |x::l,k=>by
  unfold idxF;rw[List.any_cons];cases f x with
  |true=>simp
  |false=>simp[idxF_any f l (k+1)]
theorem idxF_cons {α:Type} {f:α->Bool} {l:List α} {i:Nat} {x:α} (h:l[i]?=some x):idxF f (l.drop i) i=if f x then(i:Int) else idxF f (l.drop (i+1)) (i+1):=by
 rw[drop_cons h];rfl
section
variable {prog:Nat->Option IFn}
def inP (n:Int) (p:Int×Int):Bool:=decide (p.1<=n)&&decide (n<=p.2)
theorem x_in (h:prog 128=some F128) (v:V) (p:Int×Int):Ans prog 128 [.agg [.nI p.1,.nI p.2],.iv (.ptr v.enc)] (.bI (inP v.n p)):=by
 refine Ans.of h rfl rfl (Wp.seq ?_);refine Wp.rg ?_;refine Wp.seq ?_;refine Wp.rgn (K:=0) (s':=⟨[(3,.bI (inP v.n p))],_,_⟩) (fun n _=>by
  unfold inP;cases h1:decide (p.1<=v.n)<;>simp[V.enc,h1]
  all_goals exact⟨rfl,rfl⟩) ?_
 exact Wp.ret rfl
theorem x_idxR (h128:prog 128=some F128) (h:prog 148=some F148) (v:V) (l:List (Int×Int)) (hl:l.length<=maxLen):Ans prog 148 [.iv (.sl 2 (l.map rng)),.iv (.fn 128 [.ptr v.enc])] (.nI (idxF (inP v.n) l 0)):=by
 refine Ans.of h rfl rfl (Wp.seq ?_);refine Wp.rg ?_;refine Wp.seq (Wp.seq ?_);refine Wp.rg ?_;refine Wp.block ?_;refine Wp.range l.length (fun i=>⟨[(0,.iv (.sl 2 (l.map rng))),(1,.iv (.fn 128 [.ptr v.enc])),(7,.nI l.length),(8,.nI i)],[],1256⟩) (fun i=>idxF (inP v.n) (l.drop i) i=idxF (inP v.n) l 0) (by simp[keepFr,get]) rfl ?_ ?_
 ·intro i hi hg;obtain⟨p,hp⟩:∃p,l[i]?=some p:=⟨_,List.getElem?_eq_getElem hi⟩;obtain⟨K,hK⟩:=x_in h128 v p;rw[idxF_cons hp]at hg;refine Wp.seq ?_;refine Wp.rgn (K:=0) (fun n _=>by simp[hi];rfl) ?_;refine Wp.seq (Wp.cond rfl (Wp.skip (Wp.seq (Wp.block (Wp.seq ?_)))));refine Wp.rg ?_;refine Wp.seq ?_;generalize inP v.n p=b at hK hg;refine Wp.rgn (K:=K) (s':=⟨[(0,.iv (.sl 2 (l.map rng))),(1,.iv (.fn 128 [.ptr v.enc])),(5,.nI i),(7,.nI l.length),(8,.nI i),(16,.bI b)],_,_⟩) (fun n hn=>by
   have e:=hK n hn;simp[hp,rng,e];exact⟨rfl,rfl⟩) ?_
  refine Wp.cond rfl ?_;cases b with
  |true=>
   refine Wp.seq ?_;refine Wp.rg ?_;refine Wp.ret ?_;rw[<-hg];rfl
  |false=>
   refine Wp.skip ?_;simp only[Ex.then,Ex.inBlock];refine Wp.rgn (K:=0) (fun n _=>by simp[wrap_succ hi hl];rfl) ?_;exact⟨by simp[again,keepFr,get,nrm],by simpa using hg⟩
 ·intro hg;refine Wp.seq ?_;refine Wp.rg ?_;refine Wp.seq (Wp.cond rfl (Wp.exit ?_));simp only[Ex.then,Ex.inBlock,if_true];refine Wp.seq ?_;refine Wp.rg ?_;refine Wp.ret ?_;rw[<-hg,List.drop_length];rfl
theorem x_hasR (h128:prog 128=some F128) (h148:prog 148=some F148) (h:prog 141=some F141) (v:V) (l:List (Int×Int)) (hl:l.length<=maxLen):Ans prog 141 [.iv (.sl 2 (l.map rng)),.iv (.fn 128 [.ptr v.enc])] (.bI (hasI l v.n)):=by
 obtain⟨K,hK⟩:=x_idxR h128 h148 v l hl;refine Ans.of h rfl rfl (Wp.seq ?_);refine Wp.rg ?_;refine Wp.seq ?_;have hh:decide (0<=idxF (inP v.n) l 0)=hasI l v.n:=idxF_any (inP v.n) l 0;generalize idxF (inP v.n) l 0=q at hK hh;refine Wp.rgn (K:=K) (s':=⟨[(4,.bI (hasI l v.n))],_,_⟩) (fun n hn=>by
  have e:=hK n hn;simp[e,hh];exact⟨rfl,rfl⟩) ?_
 exact Wp.ret rfl
set_option maxHeartbeats 1000000 in
theorem x_hasV (h128:prog 128=some F128) (h148:prog 148=some F148) (h141:prog 141=some F141) (h138:prog 138=some F138) (h64:prog 64=some F64) (h53:prog 53=some F53) (h:prog 127=some F127) (x:S) (v:V) (hi:x.i.length<=maxLen) (hs:x.s.length<=maxLen) :
  Ans prog 127 [x.av,v.av] (.bI (hasV x v)):=by
 obtain⟨K1,hK1⟩:=x_rightV h138 v;obtain⟨K2,hK2⟩:=x_hasR h128 h148 h141 v x.i hi;obtain⟨K3,hK3⟩:=p_contains h64 h53 x.s v.s hs;refine Ans.of h rfl rfl (Wp.seq ?_);refine Wp.rgn (K:=0) (fun n _=>by simp[S.av,V.av];rfl) ?_;refine Wp.seq (Wp.block (Wp.seq ?_));unfold hasV;have hrv:rightV v=if v.k==0 then v.n==0&&v.s==⟨#[]⟩ else if v.k==1 then v.s==⟨#[]⟩ else if v.k==2 then v.n==0&&decide (v.s.size<=8) else false:=rfl
 generalize hr:rightV v=r at *;refine Wp.rgn (K:=K1) (s':=⟨[(2,.ref 1000 0 0 0),(3,.ref 1064 0 0 0),(5,.bI (!r))],_,_⟩) (fun n hn=>by
  have e:=hK1 n hn;simp only[V.av]at e;simp[e];exact⟨rfl,rfl⟩) ?_
 refine Wp.cond rfl ?_;cases r with
 |false=>
  refine Wp.seq ?_;refine Wp.rg ?_;exact Wp.ret rfl
 |true=>
  simp only[Bool.not_true,Bool.false_eq_true,if_false];refine Wp.seq ?_;refine Wp.rg ?_;refine Wp.cond rfl ?_;cases h1:v.k==1 with
  |true=>
   have h0:(v.k==0)=false:=by have:=beq_iff_eq.1 h1;rw[this];rfl
   rw[h0];simp only[Bool.false_eq_true,if_false,if_true];refine Wp.seq ?_;generalize hasI x.i v.n=b at hK2 ⊢;refine Wp.rgn (K:=K2) (s':=⟨[(4,.bI b)],_,_⟩) (fun n hn=>by
    have e:=hK2 n hn;simp only[V.enc]at e;simp[e,fz];exact⟨rfl,rfl⟩) ?_
   exact Wp.ret rfl
  |false=>
   simp only[Bool.false_eq_true,if_false];refine Wp.seq ?_;refine Wp.rg ?_;refine Wp.cond rfl ?_;cases h2:v.k==2 with
   |true=>
    have h0:(v.k==0)=false:=by have:=beq_iff_eq.1 h2;rw[this];rfl
    rw[h0];simp only[Bool.false_eq_true,if_false,if_true];refine Wp.seq ?_;generalize hasT x.s v.s=b at hK3 ⊢;refine Wp.rgn (K:=K3) (s':=⟨[(4,.bI (b != x.c))],_,_⟩) (fun n hn=>rgn_quiet' rfl (by
     have e:=hK3 n hn;simp[e];refine⟨?_,rfl,rfl⟩;cases b<;>cases x.c<;>rfl)) ?_
    exact Wp.ret rfl
   |false=>
    have h0:(v.k==0)=true:=by
     cases h0:v.k==0 with
     |true=>rfl
     |false=>rw[h0,h1,h2]at hrv;simp at hrv
    rw[h0];simp only[if_true];refine Wp.skip ?_;simp only[Ex.then,Ex.inBlock];refine Wp.seq ?_;refine Wp.rg ?_;exact Wp.ret rfl
end
structure LibH (prog:Nat->Option IFn):Prop where
 h128:prog 128=some F128
 h148:prog 148=some F148
 h141:prog 141=some F141
 h138:prog 138=some F138
 h137:prog 137=some F137
 h64:prog 64=some F64
 h53:prog 53=some F53
 h127:prog 127=some F127
 h116:prog 116=some F116
 h120:prog 120=some F120
 h151:prog 151=some F151
 h144:prog 144=some F144
 h119:prog 119=some F119
section
variable {prog:Nat->Option IFn}
set_option maxHeartbeats 1000000 in
theorem x_hasB (H:LibH prog) (b:B) (e:E) (hb:b.fits):Ans prog 116 [b.av,e.av] (.bI (hasB b e)):=by
 obtain⟨K1,hK1⟩:=x_event H.h138 H.h137 e;refine Ans.of H.h116 rfl rfl (Wp.seq ?_);refine Wp.rgn (K:=0) (s':=⟨[(2,.ref 1000 0 0 0),(3,.ref 1064 0 0 0)],[(1000,.cells b.cs),(1064,.cells e.cs)],1192⟩) (fun n _=>by simp[B.av,E.av,B.cs_nilc,E.cs_nilc]) ?_;refine Wp.seq (Wp.seq ?_);refine Wp.rgn (K:=K1) (s':=⟨[(2,.ref 1000 0 0 0),(3,.ref 1064 0 0 0),(9,.bI (!rightE e))],[(1000,.cells b.cs),(1064,.cells e.cs)],1384⟩) (fun n hn=>by
  have c:=hK1 n hn;simp only[E.av]at c;simp[E.cs_12,E.cs_len,E.cs_fzC,c]) ?_
 refine Wp.cond rfl ?_;unfold hasB;cases hr:rightE e with
 |false=>
  refine Wp.seq ?_;refine Wp.rg ?_;exact Wp.ret rfl
 |true=>
  simp only[Bool.not_true,Bool.false_eq_true,if_false];refine Wp.skip ?_;simp only[Ex.then];refine Wp.seq (Wp.seq ?_);refine Wp.rgn (K:=0) (fun n _=>by simp[B.cs_16,B.cs_len];rfl) ?_;refine Wp.block ?_;refine Wp.range 4 (fun i=>⟨[(3,.ref 1064 0 0 0),(10,.agg b.cs),(11,.nI i)],[(1000,.cells b.cs),(1064,.cells e.cs)],1512⟩) (fun i=>hasTo b e i=true) (by simp[keepFr,get]) rfl ?_ ?_
  ·intro i hi hg;have hi':(i:Int)<4:=by omega
   have hm:min 4 (16 - i*4)=4:=by omega
   have hm3:min 3 (12 - i*3)=3:=by omega
   refine Wp.seq ?_;refine Wp.rgn (K:=0) (fun n _=>by simp[hi',hi];rfl) ?_;refine Wp.seq (Wp.cond rfl (Wp.skip (Wp.seq (Wp.block (Wp.seq ?_)))));refine Wp.rgn (K:=0) (fun n _=>by simp[B.cs_at b hi,hi',hi,B.cs_len,hm];rfl) ?_;refine Wp.seq ?_;obtain⟨K,hK⟩:=x_hasV H.h128 H.h148 H.h141 H.h138 H.h64 H.h53 H.h127 (b.get i) (e.get i) (hb i hi).1 (hb i hi).2;have hnext:hasTo b e (i+1)=(hasTo b e i&&hasV (b.get i) (e.get i)):=rfl;generalize hasV (b.get i) (e.get i)=q at hK hnext;refine Wp.rgn (K:=K) (fun n hn=>by
    have hc:=hK n hn;simp only[S.av,V.av]at hc;simp[E.cs_at e hi,hi',hi,E.cs_len,hm3,hc];rfl) ?_
   refine Wp.cond rfl ?_;cases q with
   |false=>
    refine Wp.seq ?_;refine Wp.rg ?_;refine Wp.ret ?_;have hf:hasTo b e (i+1)=false:=by rw[hnext,Bool.and_false]
    have:hasTo b e 4=false:=by
     have key:∀m,i+1<=m->hasTo b e m=false:=by
      intro m hm
      induction m with
      |zero=>omega
      |succ m ih=>
       by_cases h:i+1=m+1
       ·rw[<-h];exact hf
       ·show(hasTo b e m&&_)=false
        rw[ih (by omega)];rfl
     exact key 4 (by omega)
    rw[this];rfl
   |true=>
    refine Wp.skip ?_;simp only[Ex.then,Ex.inBlock];refine Wp.rgn (K:=0) (fun n _=>by simp[wrap_lt4 hi];rfl) ?_;exact⟨by simp[again,keepFr,get,nrm_iv,nrm_refU,nrm_agg,nrmO,E.cs_nrm,B.cs_nrm,show b.cs=b.enc.map .iv from rfl],by rw[hnext,hg];rfl⟩
  ·intro hg;refine Wp.seq ?_;refine Wp.rg ?_;refine Wp.seq (Wp.cond rfl (Wp.exit ?_));simp only[Ex.then,Ex.inBlock,if_true];refine Wp.seq ?_;refine Wp.rg ?_;refine Wp.ret ?_;rw[hg];rfl
theorem x_has1 (H:LibH prog) (b:B) (e:E) (hb:b.fits):Ans prog 120 [b.av,.iv (.ptr e.enc)] (.bI (hasB b e)):=by
 obtain⟨K1,hK1⟩:=x_hasB H b e hb;refine Ans.of H.h120 rfl rfl (Wp.seq ?_);refine Wp.rgn (K:=0) (s':=⟨[(1,.iv (.ptr e.enc)),(2,.ref 1000 0 0 0)],[(1000,.cells b.cs)],1128⟩) (fun n _=>by simp[B.av,B.cs_nilc]) ?_;refine Wp.seq ?_;generalize hasB b e=q at hK1 ⊢;refine Wp.rgn (K:=K1) (s':=⟨[(3,.bI q)],[(1000,.cells b.cs)],1384⟩) (fun n hn=>by
  have c:=hK1 n hn;have hle:e.enc.length=12:=rfl;have het:e.enc.take 12=e.enc:=rfl;have hcs:e.enc.map AV.iv=e.cs:=rfl;simp only[B.av,E.av]at c;simp[B.cs_16,B.cs_len,B.cs_fzC,E.cs_fzC,hle,het,hcs,c]) ?_
 exact Wp.ret rfl
theorem x_idxB (H:LibH prog) (l:List B) (e:E) (hl:l.length<=maxLen) (hL:∀b ∈ l,b.fits):Ans prog 151 [filt l,.iv (.fn 120 [.ptr e.enc])] (.nI (idxF (fun b=>hasB b e) l 0)):=by
 refine Ans.of H.h151 rfl rfl (Wp.seq ?_);refine Wp.rg ?_;refine Wp.seq (Wp.seq ?_);refine Wp.rgn (K:=0) (fun n _=>by simp[filt];rfl) ?_;refine Wp.block ?_;refine Wp.range l.length (fun i=>⟨[(0,filt l),(1,.iv (.fn 120 [.ptr e.enc])),(7,.nI l.length),(8,.nI i)],[],1256⟩) (fun i=>idxF (fun b=>hasB b e) (l.drop i) i=idxF (fun b=>hasB b e) l 0) (by simp[keepFr,get,filt]) rfl ?_ ?_
 ·intro i hi hg;obtain⟨b,hb⟩:∃b,l[i]?=some b:=⟨_,List.getElem?_eq_getElem hi⟩;obtain⟨K,hK⟩:=x_has1 H b e (hL b (List.mem_of_getElem? hb));rw[idxF_cons hb]at hg;refine Wp.seq ?_;refine Wp.rgn (K:=0) (fun n _=>by simp[hi];rfl) ?_;refine Wp.seq (Wp.cond rfl (Wp.skip (Wp.seq (Wp.block (Wp.seq ?_)))));refine Wp.rg ?_;refine Wp.seq ?_;generalize hasB b e=q at hK hg;refine Wp.rgn (K:=K) (s':=⟨[(0,filt l),(1,.iv (.fn 120 [.ptr e.enc])),(5,.nI i),(7,.nI l.length),(8,.nI i),(16,.bI q)],_,_⟩) (fun n hn=>by
   have c:=hK n hn;simp only[B.av]at c;simp[filt,hb,B.enc_take,B.enc_len,B.enc_cs,B.cs_fzC,c];exact⟨rfl,rfl⟩) ?_
  refine Wp.cond rfl ?_;cases q with
  |true=>
   refine Wp.seq ?_;refine Wp.rg ?_;refine Wp.ret ?_;rw[<-hg];rfl
  |false=>
   refine Wp.skip ?_;simp only[Ex.then,Ex.inBlock];refine Wp.rgn (K:=0) (fun n _=>by simp[wrap_succ hi hl];rfl) ?_;exact⟨by simp[again,keepFr,get,nrm,filt],by simpa using hg⟩
 ·intro hg;refine Wp.seq ?_;refine Wp.rg ?_;refine Wp.seq (Wp.cond rfl (Wp.exit ?_));simp only[Ex.then,Ex.inBlock,if_true];refine Wp.seq ?_;refine Wp.rg ?_;refine Wp.ret ?_;rw[<-hg,List.drop_length];rfl
theorem x_hasF (H:LibH prog) (l:List B) (e:E) (hl:l.length<=maxLen) (hL:∀b ∈ l,b.fits):Ans prog 119 [filt l,e.av] (.bI (hasF l e)):=by
 obtain⟨K,hK⟩:=x_idxB H l e hl hL;have hh:decide (0<=idxF (fun b=>hasB b e) l 0)=hasF l e:=idxF_any _ l 0;have h144:Ans prog 144 [filt l,.iv (.fn 120 [.ptr e.enc])] (.bI (hasF l e)):=by
  refine Ans.of H.h144 rfl rfl (Wp.seq ?_);refine Wp.rg ?_;refine Wp.seq ?_;generalize idxF (fun b=>hasB b e) l 0=q at hK hh;refine Wp.rgn (K:=K) (s':=⟨[(4,.bI (hasF l e))],[],1384⟩) (fun n hn=>by
   have c:=hK n hn;simp only[filt]at c;simp[filt,c,hh]) ?_
  exact Wp.ret rfl
 obtain⟨K2,hK2⟩:=h144;refine Ans.of H.h119 rfl rfl (Wp.seq ?_);refine Wp.rgn (K:=0) (s':=⟨[(0,filt l),(3,.ref 1000 0 0 0)],[(1000,.cells e.cs)],1128⟩) (fun n _=>by simp[E.av,E.cs_nilc]) ?_;refine Wp.seq ?_;generalize hasF l e=q at hK2 ⊢;refine Wp.rgn (K:=K2) (s':=⟨[(4,.bI q)],[(1000,.cells e.cs)],1384⟩) (fun n hn=>by
  have c:=hK2 n hn;simp only[filt]at c;have hcl:(fz1 false (.clo 120 [.ref 1000 0 0 0])).run [(1000,.cells e.cs)]=some (.iv (.fn 120 [.ptr e.enc]),[(1000,.cells e.cs)]):=by
   simp[fz1,fz,fzC,M.mapL,M.run,M.run_bind,M.look,M.bind,M.ok,Arb.get,E.cs,E.enc,V.enc]
  have hsl:∀(es:List (List IV)),fz1 false (.iv (.sl 16 es)) = .ret (.iv (.sl 16 es)):=fun _=>rfl
  simp[-fz1, -fz, -fzC,filt,hcl,hsl,c]) ?_
 exact Wp.ret rfl
end
def parOk:List Int->Nat->Bool
 |[],_=>true
 |p::l,i=>!(decide (p<0)||decide ((i:Int)<p))&&parOk l (i+1)
def homOk (n:Nat):List Int->Bool
 |[]=>true
 |b::l=>!(decide (b<0)||decide ((n:Int)<b))&&homOk n l
def argBad (h:Hd):Bool:=decide (8<h.hs.length)||(decide (h.b<0)||(decide (1000000<h.b)||h.g==18446744073709551615))
def checkH (h:Hd):Int:=if 8<=h.ps.length then 8 else if parOk h.ps 0 then(if argBad h then 1 else if homOk h.ps.length h.hs then 0 else 1) else 8
theorem checkH_0 {h:Hd} (e:checkH h=0):h.ps.length<8/\parOk h.ps 0=true/\h.hs.length<=8/\homOk h.ps.length h.hs=true:=by
 unfold checkH at e;split at e
 ·cases e
 ·split at e
  ·split at e
   ·cases e
   ·rename_i h3;split at e
    ·rename_i h1 h2 h4;refine⟨by omega,h2,?_,h4⟩;unfold argBad at h3;have:decide (8<h.hs.length)=false:=by
      cases hd:decide (8<h.hs.length)with
      |false=>rfl
      |true=>rw[hd]at h3;simp at h3
     have:=of_decide_eq_false this;omega
    ·cases e
  ·cases e
theorem parOk_at:∀{l:List Int} {i j:Nat} {p:Int},parOk l i=true->l[j]?=some p->0<=p/\p<=(i+j:Nat)
 |[],i,j,p,h,hp=>by simp at hp
 |q::l,i,0,p,h,hp=>by
  simp only[List.getElem?_cons_zero,Option.some.injEq]at hp;subst hp;unfold parOk at h;simp only[Bool.and_eq_true,Bool.not_eq_true',Bool.or_eq_false_iff,decide_eq_false_iff_not]at h;omega
 |q::l,i,j+1,p,h,hp=>by
  unfold parOk at h;rw[Bool.and_eq_true]at h;have:=parOk_at h.2 (by simpa using hp);omega
section
variable {prog:Nat->Option IFn}
set_option maxHeartbeats 1000000 in
theorem x_check (h:prog 131=some F131) (x:Hd) (hp:x.ps.length<=maxLen) (hh:x.hs.length<=maxLen):Ans prog 131 [x.av] (.nI (checkH x)):=by
 have hcs:x.cs=[.iv (.sl 1 (x.ps.map num1)),.iv (.sl 1 (x.hs.map num1)),.nI x.b,.iv (.int .u64 x.g)]:=rfl;refine Ans.of h rfl rfl (Wp.seq ?_);refine Wp.rgn (K:=0) (s':=⟨[(1,.ref 1000 0 0 0)],[(1000,.cells x.cs)],1128⟩) (fun n _=>by simp[Hd.av,Hd.cs_nilc]) ?_;refine Wp.seq (Wp.seq ?_);refine Wp.rgn (K:=0) (s':=⟨[(1,.ref 1000 0 0 0),(10,.bI (decide (8<=x.ps.length)))],[(1000,.cells x.cs)],1384⟩) (fun n _=>by
  have:decide ((8:Int)<=(x.ps.length:Int))=decide (8<=x.ps.length):=decide_eq_decide.2 (by omega);simp[hcs,this]) ?_
 refine Wp.cond rfl ?_;unfold checkH;by_cases h8:8<=x.ps.length
 ·rw[decide_eq_true h8];refine Wp.seq ?_;refine Wp.rg ?_;refine Wp.ret ?_;rw[if_pos h8];rfl
 ·rw[decide_eq_false h8,if_neg h8];refine Wp.skip ?_;simp only[Ex.then];refine Wp.seq (Wp.seq ?_);refine Wp.rgn (K:=0) (s':=⟨[(1,.ref 1000 0 0 0),(12,.iv (.sl 1 (x.ps.map num1))),(13,.nI x.ps.length),(14,.nI 0)],[(1000,.cells x.cs)],1640⟩) (fun n _=>by simp[hcs]) ?_;refine Wp.block ?_;refine Wp.range x.ps.length (fun i=>⟨[(1,.ref 1000 0 0 0),(12,.iv (.sl 1 (x.ps.map num1))),(13,.nI x.ps.length),(14,.nI i)],[(1000,.cells x.cs)],1640⟩) (fun i=>parOk (x.ps.drop i) i=parOk x.ps 0) (by simp[keepFr,get]) rfl ?_ ?_
  ·intro i hi hg;obtain⟨p,hpp⟩:∃p,x.ps[i]?=some p:=⟨_,List.getElem?_eq_getElem hi⟩;rw[drop_cons hpp]at hg
   conv at hg=>lhs;unfold parOk
   refine Wp.seq ?_;refine Wp.rgn (K:=0) (fun n _=>by simp[hi];rfl) ?_;refine Wp.seq (Wp.cond rfl (Wp.skip (Wp.seq (Wp.block (Wp.seq ?_)))));refine Wp.rgn (K:=0) (fun n _=>by simp[hpp,num1];rfl) ?_;refine Wp.seq ?_;refine Wp.rgn (K:=0) (s':=⟨[(1,.ref 1000 0 0 0),(12,.iv (.sl 1 (x.ps.map num1))),(13,.nI x.ps.length),(14,.nI i),(25,.bI (decide (p<0)||decide ((i:Int)<p)))],[(1000,.cells x.cs)],_⟩) (fun n _=>by
    cases h1:decide (p<0)<;>simp[h1]
    all_goals rfl) ?_
   refine Wp.cond rfl ?_;cases hb:decide (p<0)||decide ((i:Int)<p)with
   |true=>
    rw[hb]at hg;refine Wp.seq ?_;refine Wp.rg ?_;refine Wp.ret ?_;rw[<-hg];rfl
   |false=>
    rw[hb]at hg;refine Wp.skip ?_;simp only[Ex.then,Ex.inBlock];refine Wp.rgn (K:=0) (fun n _=>by simp[wrap_succ hi hp];rfl) ?_;exact⟨by simp[again,keepFr,get,nrm_iv,nrm_refU,nrmO,Hd.cs_nrm],by simpa using hg⟩
  ·intro hg;rw[List.drop_length]at hg;refine Wp.seq ?_;refine Wp.rg ?_;refine Wp.seq (Wp.cond rfl (Wp.exit ?_));simp only[Ex.then,Ex.inBlock,if_true];have hpo:parOk x.ps 0=true:=by rw[<-hg];rfl
   rw[hpo];simp only[if_true];refine Wp.seq (Wp.seq ?_);refine Wp.rgn (K:=0) (s':=⟨[(1,.ref 1000 0 0 0),(45,.bI (argBad x))],[(1000,.cells x.cs)],2920⟩) (fun n _=>by
    have:decide ((8:Int)<(x.hs.length:Int))=decide (8<x.hs.length):=decide_eq_decide.2 (by omega);unfold argBad;cases h1:decide (8<x.hs.length)
    ·cases h2:decide (x.b<0)
     ·cases h3:decide (1000000<x.b)<;>simp[hcs,this,h1,h2,h3]
     ·simp[hcs,this,h1,h2]
    ·simp[hcs,this,h1]) ?_
   refine Wp.cond rfl ?_;cases hab:argBad x with
   |true=>
    refine Wp.seq ?_;refine Wp.rg ?_;exact Wp.ret rfl
   |false=>
    simp only[Bool.false_eq_true,if_false];refine Wp.skip ?_;simp only[Ex.then];refine Wp.seq (Wp.seq ?_);refine Wp.rgn (K:=0) (s':=⟨[(1,.ref 1000 0 0 0),(47,.iv (.sl 1 (x.hs.map num1))),(48,.nI x.hs.length),(49,.nI 0)],[(1000,.cells x.cs)],3176⟩) (fun n _=>by simp[hcs]) ?_;refine Wp.block ?_;refine Wp.range x.hs.length (fun i=>⟨[(1,.ref 1000 0 0 0),(47,.iv (.sl 1 (x.hs.map num1))),(48,.nI x.hs.length),(49,.nI i)],[(1000,.cells x.cs)],3176⟩) (fun i=>homOk x.ps.length (x.hs.drop i)=homOk x.ps.length x.hs) (by simp[keepFr,get]) rfl ?_ ?_
    ·intro i hi hg;obtain⟨p,hpp⟩:∃p,x.hs[i]?=some p:=⟨_,List.getElem?_eq_getElem hi⟩;rw[drop_cons hpp]at hg
     conv at hg=>lhs;unfold homOk
     refine Wp.seq ?_;refine Wp.rgn (K:=0) (fun n _=>by simp[hi];rfl) ?_;refine Wp.seq (Wp.cond rfl (Wp.skip (Wp.seq (Wp.block (Wp.seq ?_)))));refine Wp.rgn (K:=0) (fun n _=>by simp[hpp,num1];rfl) ?_;refine Wp.seq ?_;refine Wp.rgn (K:=0) (s':=⟨[(1,.ref 1000 0 0 0),(47,.iv (.sl 1 (x.hs.map num1))),(48,.nI x.hs.length),(49,.nI i),(61,.bI (decide (p<0)||decide ((x.ps.length:Int)<p)))],[(1000,.cells x.cs)],_⟩) (fun n _=>by
      cases h1:decide (p<0)<;>simp[hcs,h1]
      all_goals rfl) ?_
     refine Wp.cond rfl ?_;cases hb:decide (p<0)||decide ((x.ps.length:Int)<p)with
     |true=>
      rw[hb]at hg;refine Wp.seq ?_;refine Wp.rg ?_;refine Wp.ret ?_;rw[<-hg];rfl
     |false=>
      rw[hb]at hg;refine Wp.skip ?_;simp only[Ex.then,Ex.inBlock];refine Wp.rgn (K:=0) (fun n _=>by simp[wrap_succ hi hh];rfl) ?_;exact⟨by simp[again,keepFr,get,nrm_iv,nrm_refU,nrmO,Hd.cs_nrm],by simpa using hg⟩
    ·intro hg;rw[List.drop_length]at hg;refine Wp.seq ?_;refine Wp.rg ?_;refine Wp.seq (Wp.cond rfl (Wp.exit ?_));simp only[Ex.then,Ex.inBlock,if_true];refine Wp.seq ?_;refine Wp.rg ?_;refine Wp.ret ?_;rw[<-hg];rfl
end
def sizeH (h:Hd):Nat:=if checkH h=0 then h.ps.length+1 else 0
def brokerH (h:Hd) (b:Int):Bool:=decide (0<=b)&&decide (b<sizeH h)
def kids (b:Int):List Int->Nat->List Int
 |[],_=>[]
 |p::l,i=>(if p==b then[(i:Int)+1] else[])++kids b l (i+1)
def parent (h:Hd) (b:Int):List Int:=if 0<b then(match h.ps[(b - 1).toNat]? with | some p=>[p] | none=>[]) else[]
def neighH (h:Hd) (b:Int):List Int:=if brokerH h b then parent h b++kids b h.ps 0 else[]
def ints (l:List Int):AV:=.iv (.sl 1 (l.map num1))
theorem kids_len (b:Int):∀(l:List Int) (i:Nat),(kids b l i).length<=l.length
 |[],i=>by simp[kids]
 |p::l,i=>by
  have:=kids_len b l (i+1);unfold kids;split<;>simp<;>omega
theorem neighH_len (h:Hd) (b:Int) (hp:h.ps.length<=100):(neighH h b).length<=101:=by
 unfold neighH;split
 ·have:=kids_len b h.ps 0;rw[List.length_append];have:(parent h b).length<=1:=by
   unfold parent;split
   ·split<;>simp
   ·simp
  omega
 ·simp
structure LibT (prog:Nat->Option IFn):Prop where
 h131:prog 131=some F131
 h134:prog 134=some F134
 h135:prog 135=some F135
 h133:prog 133=some F133
 h145:prog 145=some F145
 h152:prog 152=some F152
section
variable {prog:Nat->Option IFn}
theorem x_size (H:LibT prog) (x:Hd) (hp:x.ps.length<=100) (hh:x.hs.length<=100):Ans prog 134 [x.av] (.nI (sizeH x)):=by
 have hcs:x.cs=[.iv (.sl 1 (x.ps.map num1)),.iv (.sl 1 (x.hs.map num1)),.nI x.b,.iv (.int .u64 x.g)]:=rfl;obtain⟨K,hK⟩:=x_check H.h131 x (by unfold maxLen;omega) (by unfold maxLen;omega);refine Ans.of H.h134 rfl rfl (Wp.seq ?_);refine Wp.rgn (K:=0) (s':=⟨[(1,.ref 1000 0 0 0)],[(1000,.cells x.cs)],1128⟩) (fun n _=>by simp[Hd.av,Hd.cs_nilc]) ?_;refine Wp.seq (Wp.seq ?_);have hb:(checkH x != 0)=!decide (checkH x=0):=by by_cases h:checkH x=0<;>simp[h]
 unfold sizeH;refine Wp.rgn (K:=K) (s':=⟨[(1,.ref 1000 0 0 0),(5,.bI (!decide (checkH x=0)))],[(1000,.cells x.cs)],1320⟩) (fun n hn=>by
  have c:=hK n hn;simp only[Hd.av]at c;generalize checkH x=q at c hb;simp[Hd.cs_4,Hd.cs_len,Hd.cs_fzC,c,hb]) ?_
 refine Wp.cond rfl ?_;by_cases h0:checkH x=0
 ·rw[decide_eq_true h0,if_pos h0];refine Wp.skip ?_;simp only[Ex.then];refine Wp.seq ?_;have hw:IntKind.i64.wrap ((x.ps.length:Int)+1)=((x.ps.length+1:Nat):Int):=by rw[IntWalk.i64_in _ (by omega)];omega
  refine Wp.rgn (K:=0) (s':=⟨[(2,.nI (x.ps.length+1:Nat))],[(1000,.cells x.cs)],1640⟩) (fun n _=>by simp[hcs,hw]) ?_;exact Wp.ret rfl
 ·rw[decide_eq_false h0,if_neg h0];refine Wp.seq ?_;refine Wp.rg ?_;exact Wp.ret rfl
theorem x_broker (H:LibT prog) (x:Hd) (b:Int) (hp:x.ps.length<=100) (hh:x.hs.length<=100):Ans prog 135 [.iv (.ptr x.enc),.nI b] (.bI (brokerH x b)):=by
 obtain⟨K,hK⟩:=x_size H x hp hh;refine Ans.of H.h135 rfl rfl (Wp.seq ?_);refine Wp.rg ?_;refine Wp.seq ?_;have hle:x.enc.length=4:=rfl;have het:x.enc.take 4=x.enc:=rfl;have hcs:x.enc.map AV.iv=x.cs:=rfl;refine Wp.rgn (K:=K) (s':=⟨[(4,.bI (brokerH x b))],[],1768⟩) (fun n hn=>by
  have c:=hK n hn;simp only[Hd.av]at c;unfold brokerH;generalize sizeH x=q at c;cases h1:decide (0<=b)<;>simp[hle,het,hcs,Hd.cs_fzC,c,h1]) ?_
 exact Wp.ret rfl
set_option maxHeartbeats 1000000 in
theorem x_neigh (H:LibT prog) (x:Hd) (b:Int) (hp:x.ps.length<=100) (hh:x.hs.length<=100):Ans prog 133 [x.av,.nI b] (ints (neighH x b)):=by
 have hcs:x.cs=[.iv (.sl 1 (x.ps.map num1)),.iv (.sl 1 (x.hs.map num1)),.nI x.b,.iv (.int .u64 x.g)]:=rfl;obtain⟨K,hK⟩:=x_broker H x b hp hh;have hnl:=neighH_len x b hp;refine Ans.of H.h133 rfl rfl (Wp.seq ?_);refine Wp.rgn (K:=0) (s':=⟨[(1,.nI b),(2,.ref 1000 0 0 0),(4,.own 1064 0 0 0)],[(1000,.cells x.cs),(1064,.buf 0 1 [])],1128⟩) (fun n _=>by simp[Hd.av,Hd.cs_nilc]) ?_;refine Wp.seq (Wp.seq ?_);refine Wp.rgn (K:=K) (s':=⟨[(1,.nI b),(2,.ref 1000 0 0 0),(4,.own 1064 0 0 0),(9,.bI (!brokerH x b))],[(1000,.cells x.cs),(1064,.buf 0 1 [])],1320⟩) (fun n hn=>by
  have c:=hK n hn;have hptr:(fz1 false (.ref 1000 0 0 0)).run [(1000,.cells x.cs),(1064,.buf 0 1 [])]=some (.iv (.ptr x.enc),[(1000,.cells x.cs),(1064,.buf 0 1 [])]):=by
   simp[fz1,fz,M.mapL,M.run,M.run_bind,M.look,M.bind,M.ok,Arb.get,hcs,Hd.enc,fzC]
  have hint:∀k n,fz1 false (.iv (.int k n)) = .ret (.iv (.int k n)):=fun _ _=>rfl
  simp[-fz1, -fz, -fzC,hptr,hint,c]) ?_
 refine Wp.cond rfl ?_;unfold neighH at hnl ⊢;cases hb:brokerH x b with
 |false=>
  refine Wp.seq ?_;refine Wp.rg ?_;refine Wp.ret ?_;change FinS _ _ .ret _;simp[FinS,F133,resAll,resM,outA,ev,get,M.look,M.bind,M.run,M.ok,shut,fzA,fz1,fzC,fz,M.write,ints,Arb.set]
 |true=>
  rw[hb]at hnl;simp only[if_true]at hnl;simp only[Bool.not_true,Bool.false_eq_true,if_false,if_true];refine Wp.skip ?_;simp only[Ex.then];have hbr:0<=b/\b<=x.ps.length:=by
   unfold brokerH at hb;rw[Bool.and_eq_true,decide_eq_true_eq,decide_eq_true_eq]at hb;have:=hb.2;unfold sizeH at this;split at this
   ·omega
   ·omega
  refine Wp.seq (Wp.seq ?_);refine Wp.rg ?_;generalize hpar:parent x b=par at hnl ⊢;have hmid:Wp prog (.cond (.t 11) (.rgn false [⟨some 12,.mov (.t 4),none,[]⟩,⟨some 13,.fadr 0 (.t 2),none,[]⟩,⟨some 14,.load false 1 (.t 13),none,[]⟩,⟨some 15,.mov (.t 1),none,[]⟩,⟨some 16,.bin .sub 0 (.t 15) (.c (.int .i64 (1))),none,[]⟩,
    ⟨some 17,.isl 1 (.t 14) (.t 16),none,[]⟩,⟨some 18,.load false 1 (.t 17),none,[]⟩,⟨some 19,.bsl 1 [.int .i64 0] 1 [(0,.t 18)],none,[]⟩,⟨some 20,.app 1 (.t 12) (.t 19),none,[]⟩,⟨some 4,.mov (.t 20),none,[]⟩] [1,2,4]) .skip)
    ⟨[(1,.nI b),(2,.ref 1000 0 0 0),(4,.own 1064 0 0 0),(11,.bI (decide (b > 0)))],[(1000,.cells x.cs),(1064,.buf 0 1 [])],1448⟩
    (fun e st=>e = .norm/\∃(ver nx:Nat) (z:Fr) (g:Hp),((nx=1448/\g=[])\/(nx=2088/\g=[(1896,.buf 0 1 (par.map num1))]))/\(z=[]\/z=[(11,.bI false)])/\st=⟨[(1,.nI b),(2,.ref 1000 0 0 0),(4,.own 1064 0 par.length ver)]++z,[(1000,.cells x.cs),(1064,.buf ver 1 (par.map num1))]++g,nx⟩):=by
   refine Wp.cond rfl ?_;by_cases h0:b > 0
   ·rw[decide_eq_true h0];obtain⟨j,hj⟩:∃j:Nat,b=(j:Int)+1:=⟨(b - 1).toNat,by omega⟩;obtain⟨p,hpp⟩:∃p,x.ps[j]?=some p:=⟨_,List.getElem?_eq_getElem (by omega)⟩;have hpe:par=[p]:=by
     rw[<-hpar];unfold parent;rw[if_pos h0,show(b - 1).toNat=j from by omega,hpp]
    have hw:IntKind.i64.wrap (b - 1)=(j:Int):=by rw[IntWalk.i64_in _ (by omega)];omega
    subst hpe;refine Wp.rgn (K:=0) (s':=⟨[(1,.nI b),(2,.ref 1000 0 0 0),(4,.own 1064 0 1 1)],[(1000,.cells x.cs),(1064,.buf 1 1 [num1 p]),(1896,.buf 0 1 [num1 p])],2088⟩) (fun n _=>by
     simp[hcs,hw,hpp,num1,setAll,app,elems,roomy]) ?_
    exact⟨rfl,1,2088,[],_,.inr ⟨rfl,rfl⟩,.inl rfl,rfl⟩
   ·rw[decide_eq_false h0];have hpe:par=[]:=by rw[<-hpar];unfold parent;rw[if_neg h0]
    subst hpe;exact Wp.skip ⟨rfl,0,1448,_,[],.inl ⟨rfl,rfl⟩,.inr rfl,rfl⟩
  refine Wp.mono hmid ?_;rintro e st ⟨rfl,ver,nx,z,g,hN,hz,rfl⟩;simp only[Ex.then];refine Wp.seq (Wp.seq ?_);refine Wp.rgn (K:=0) (s':=⟨[(1,.nI b),(4,.own 1064 0 par.length ver),(22,.iv (.sl 1 (x.ps.map num1))),(23,.nI x.ps.length),(24,.nI 0)],[(1000,.cells x.cs),(1064,.buf ver 1 (par.map num1))]++g,nx+256⟩) (fun n _=>by
   rcases hN with⟨rfl,rfl⟩|⟨rfl,rfl⟩<;>rcases hz with rfl | rfl<;>simp[hcs]) ?_
  refine Wp.block ?_;refine Wp.loop (fun m s1=>∃(i v:Nat) (o:List Int),i+m=x.ps.length/\o++kids b (x.ps.drop i) i=par++kids b x.ps 0/\s1=⟨[(1,.nI b),(4,.own 1064 0 o.length v),(22,.iv (.sl 1 (x.ps.map num1))),(23,.nI x.ps.length),(24,.nI i)],[(1000,.cells x.cs),(1064,.buf v 1 (o.map num1))]++g,nx+256⟩)
   (m:=x.ps.length) ⟨0,ver,par,by omega,rfl,by simp[keepFr,get]⟩ ?_
  rintro m s1 ⟨i,v,o,him,ho,rfl⟩;have hol:o.length<=101:=by
   have:=congrArg List.length ho;rw[List.length_append]at this;omega
  refine Wp.seq ?_;by_cases hi:i<x.ps.length
  ·obtain⟨p,hpp⟩:∃p,x.ps[i]?=some p:=⟨_,List.getElem?_eq_getElem hi⟩;rw[drop_cons hpp]at ho
   conv at ho=>lhs;unfold kids
   have hw:IntKind.i64.wrap ((i:Int)+1)=(i:Int)+1:=IntWalk.i64_in _ (by omega);refine Wp.rgn (K:=0) (s':=⟨[(1,.nI b),(4,.own 1064 0 o.length v),(22,.iv (.sl 1 (x.ps.map num1))),(23,.nI x.ps.length),(24,.nI i),(25,.bI true)],[(1000,.cells x.cs),(1064,.buf v 1 (o.map num1))]++g,nx+320⟩) (fun n _=>by rcases hN with⟨rfl,rfl⟩|⟨rfl,rfl⟩<;>simp[hi]) ?_;refine Wp.seq (Wp.cond rfl (Wp.skip (Wp.seq (Wp.block (Wp.seq ?_)))));refine Wp.rgn (K:=0) (s':=⟨[(1,.nI b),(4,.own 1064 0 o.length v),(5,.nI i),(6,.nI p),(22,.iv (.sl 1 (x.ps.map num1))),(23,.nI x.ps.length),(24,.nI i)],[(1000,.cells x.cs),(1064,.buf v 1 (o.map num1))]++g,nx+640⟩) (fun n _=>by rcases hN with⟨rfl,rfl⟩|⟨rfl,rfl⟩<;>simp[hpp,num1]) ?_
   refine Wp.seq ?_;refine Wp.rgn (K:=0) (s':=⟨[(1,.nI b),(4,.own 1064 0 o.length v),(5,.nI i),(22,.iv (.sl 1 (x.ps.map num1))),(23,.nI x.ps.length),(24,.nI i),(31,.bI (p==b))],[(1000,.cells x.cs),(1064,.buf v 1 (o.map num1))]++g,nx+832⟩) (fun n _=>by rcases hN with⟨rfl,rfl⟩|⟨rfl,rfl⟩<;>simp[hpp]) ?_;refine Wp.cond rfl ?_;cases hpb:p==b with
   |true=>
    rw[hpb]at ho;simp only[if_true];refine Wp.rgn (K:=0) (s':=⟨[(1,.nI b),(4,.own 1064 0 (o.length+1) (v+1)),(22,.iv (.sl 1 (x.ps.map num1))),(23,.nI x.ps.length),(24,.nI i)],[(1000,.cells x.cs),(1064,.buf (v+1) 1 ((o++[(i:Int)+1]).map num1))]++g++[(nx+1024,.buf 0 1 [num1 ((i:Int)+1)])],nx+1216⟩) (fun n _=>by
     rcases hN with⟨rfl,rfl⟩|⟨rfl,rfl⟩<;>simp[hw,setAll,app,elems,roomy,num1,show o.length+1<=1073741824 by omega,List.take_of_length_le]) ?_
    simp only[Ex.then,Ex.inBlock];refine Wp.rgn (K:=0) (s':=⟨[(1,.nI b),(4,.own 1064 0 (o.length+1) (v+1)),(22,.iv (.sl 1 (x.ps.map num1))),(23,.nI x.ps.length),(24,.nI ((i:Int)+1))],[(1000,.cells x.cs),(1064,.buf (v+1) 1 ((o++[(i:Int)+1]).map num1))]++g++[(nx+1024,.buf 0 1 [num1 ((i:Int)+1)])],nx+1344⟩) (fun n _=>by
     rcases hN with⟨rfl,rfl⟩|⟨rfl,rfl⟩<;>simp[hw]) ?_
    refine⟨m - 1,by omega,i+1,0,o++[(i:Int)+1],by omega,by rw[<-ho];simp,?_⟩;rcases hN with⟨rfl,rfl⟩|⟨rfl,rfl⟩<;>simp[again,keepFr,get,nrm_iv,nrm_ownU,nrmO,Hd.cs_nrm]
   |false=>
    rw[hpb]at ho;simp only[Bool.false_eq_true,if_false];refine Wp.skip ?_;simp only[Ex.then,Ex.inBlock];refine Wp.rgn (K:=0) (s':=⟨[(1,.nI b),(4,.own 1064 0 o.length v),(22,.iv (.sl 1 (x.ps.map num1))),(23,.nI x.ps.length),(24,.nI ((i:Int)+1))],[(1000,.cells x.cs),(1064,.buf v 1 (o.map num1))]++g,nx+960⟩) (fun n _=>by
     rcases hN with⟨rfl,rfl⟩|⟨rfl,rfl⟩<;>simp[hw]) ?_
    refine⟨m - 1,by omega,i+1,0,o,by omega,by rw[<-ho];simp,?_⟩;rcases hN with⟨rfl,rfl⟩|⟨rfl,rfl⟩<;>simp[again,keepFr,get,nrm_iv,nrm_ownU,nrmO,Hd.cs_nrm]
  ·have hdr:x.ps.drop i=[]:=List.drop_eq_nil_of_le (by omega);rw[hdr]at ho
   conv at ho=>lhs;unfold kids
   rw[List.append_nil]at ho;refine Wp.rgn (K:=0) (s':=⟨[(1,.nI b),(4,.own 1064 0 o.length v),(22,.iv (.sl 1 (x.ps.map num1))),(23,.nI x.ps.length),(24,.nI i),(25,.bI false)],[(1000,.cells x.cs),(1064,.buf v 1 (o.map num1))]++g,nx+320⟩) (fun n _=>by rcases hN with⟨rfl,rfl⟩|⟨rfl,rfl⟩<;>simp[hi]) ?_;refine Wp.seq (Wp.cond rfl (Wp.exit ?_));simp only[Ex.then,Ex.inBlock,if_true];refine Wp.seq ?_;refine Wp.rgn (K:=0) (s':=⟨[(4,.own 1064 0 o.length v)],[(1000,.cells x.cs),(1064,.buf v 1 (o.map num1))]++g,nx+448⟩) (fun n _=>by
    rcases hN with⟨rfl,rfl⟩|⟨rfl,rfl⟩<;>simp) ?_
   refine Wp.ret ?_;change FinS _ _ .ret _;rw[<-ho];rcases hN with⟨rfl,rfl⟩|⟨rfl,rfl⟩<;>simp[FinS,F133,resAll,resM,outA,ev,get,M.look,M.bind,M.run,M.ok,shut,fzA,fz1,fzC,fz,M.write,ints,Arb.set,List.take_of_length_le]
end
section
variable {prog:Nat->Option IFn}
theorem x_idxI (h:prog 152=some F152) (l:List Int) (v:Int) (hl:l.length<=maxLen):Ans prog 152 [ints l,.nI v] (.nI (idxF (fun p=>v==p) l 0)):=by
 refine Ans.of h rfl rfl (Wp.seq ?_);refine Wp.rg ?_;refine Wp.seq (Wp.seq ?_);refine Wp.rgn (K:=0) (fun n _=>by simp[ints];rfl) ?_;refine Wp.block ?_;refine Wp.range l.length (fun i=>⟨[(0,ints l),(1,.nI v),(7,.nI l.length),(8,.nI i)],[],1256⟩) (fun i=>idxF (fun p=>v==p) (l.drop i) i=idxF (fun p=>v==p) l 0) (by simp[keepFr,get,ints]) rfl ?_ ?_
 ·intro i hi hg;obtain⟨p,hp⟩:∃p,l[i]?=some p:=⟨_,List.getElem?_eq_getElem hi⟩;rw[idxF_cons hp]at hg;refine Wp.seq ?_;refine Wp.rgn (K:=0) (fun n _=>by simp[hi];rfl) ?_;refine Wp.seq (Wp.cond rfl (Wp.skip (Wp.seq (Wp.block (Wp.seq ?_)))));refine Wp.rg ?_;refine Wp.seq ?_;refine Wp.rgn (K:=0) (s':=⟨[(0,ints l),(1,.nI v),(5,.nI i),(7,.nI l.length),(8,.nI i),(16,.bI (v==p))],[],1832⟩) (fun n hn=>by simp[ints,hp,num1]) ?_;refine Wp.cond rfl ?_;cases hb:v==p with
  |true=>
   rw[hb]at hg;refine Wp.seq ?_;refine Wp.rg ?_;refine Wp.ret ?_;rw[<-hg];rfl
  |false=>
   rw[hb]at hg;refine Wp.skip ?_;simp only[Ex.then,Ex.inBlock];refine Wp.rgn (K:=0) (fun n _=>by simp[wrap_succ hi hl];rfl) ?_;exact⟨by simp[again,keepFr,get,nrm,ints],by simpa using hg⟩
 ·intro hg;refine Wp.seq ?_;refine Wp.rg ?_;refine Wp.seq (Wp.cond rfl (Wp.exit ?_));simp only[Ex.then,Ex.inBlock,if_true];refine Wp.seq ?_;refine Wp.rg ?_;refine Wp.ret ?_;rw[<-hg,List.drop_length];rfl
theorem x_contI (h152:prog 152=some F152) (h:prog 145=some F145) (l:List Int) (v:Int) (hl:l.length<=maxLen):Ans prog 145 [ints l,.nI v] (.bI (l.any fun p=>v==p)):=by
 obtain⟨K,hK⟩:=x_idxI h152 l v hl;have hh:=idxF_any (fun p=>v==p) l 0;refine Ans.of h rfl rfl (Wp.seq ?_);refine Wp.rg ?_;refine Wp.seq ?_;generalize idxF (fun p=>v==p) l 0=q at hK hh;generalize l.any (fun p=>v==p)=a at hh ⊢;refine Wp.rgn (K:=K) (s':=⟨[(4,.bI a)],[],1384⟩) (fun n hn=>by
  have c:=hK n hn;simp only[ints]at c;simp[ints,c,hh]) ?_
 exact Wp.ret rfl
end
end Arb
namespace Arx
open Go Arb
attribute [local simp] evalRgn Option.map_some evalOps step wants isS osem M.run_bind M.mapL M.run M.ok M.fresh M.write M.look M.lift putD ev fr_cons fr_nil keepFr lset_nil lset_cons get_set_same bin binM intBin strBin mk params cellsM load obRead fadr fld isl iarr xarr idx len valid slc rowLen bound store splice un callee Option.bind_some M.bind putAll oo om ol oa oc ob on og od oe ci cb
def numC (n:Int):List AV:=[.iv (.int .i64 n)]
def IX (H:Hp) (n:Nat) (y:AV) (l:List Int):Prop:=∃id v,id<4*n/\id % 4=0/\y = .own id 0 l.length v/\get H id=some (.buf v 1 (l.map numC))
theorem IX.mono {H H':Hp} {n n':Nat} {y:AV} {l:List Int} (h:IX H n y l) (hn:n<=n') (ho:∀k,k<4*n->get H' k=get H k):IX H' n' y l:=by
 obtain⟨id,v,h1,h2,h3,h4⟩:=h;exact⟨id,v,by omega,h2,h3,by rw[ho id h1];exact h4⟩
def hdC (x:Hd):List AV:=x.enc.map AV.iv
theorem hdC_eq (x:Hd):hdC x=[.iv (.sl 1 (x.ps.map num1)),.iv (.sl 1 (x.hs.map num1)),.nI x.b,.iv (.int .u64 x.g)]:=rfl
def upW (ps:List Int):Nat->List Int
 |0=>[0]
 |b+1=>((b+1:Nat):Int)::upW ps (min ((ps[b]?).getD 0).toNat b)
termination_by b=>b
decreasing_by omega
theorem upW_len (ps:List Int):∀(k b:Nat),b<=k->(upW ps b).length<=b+1
 |k,0,_=>by simp[upW]
 |0,b+1,h=>by omega
 |k+1,b+1,h=>by
  rw[upW,List.length_cons];have:=upW_len ps k (min ((ps[b]?).getD 0).toNat b) (by omega);omega
section
variable {p1:Nat->Option Arb.IFn} {p2:Nat->Option IFn}
set_option maxHeartbeats 1000000 in
theorem ev136 (hp2:PrimsLe p2) (h:p2 136=some F136) (x:Hd) (hpar:parOk x.ps 0=true) (b hid:Nat) (hb:b<=x.ps.length) (hb8:b<=100) (H:Hp) (nx:Nat) (hlt:hid<4*nx) (hx:get H hid=some (.cells (hdC x))) (hf:Fresh H nx) :
  ∃H' nx' y,Ext H nx H' nx'/\IX H' nx' y (upW x.ps b)/\(∀k o n w,y = .own k o n w->4*nx<=k)/\Ev p1 p2 136 [.ref hid 0 0 0,.nI b] H nx (y,H',nx'):=by
 have key:Wp p1 p2 F136.body ⟨params [.ref hid 0 0 0,.nI b] 0,H,nx⟩ (fun e st=>∃r:AV×Hp×Nat,(Ext H nx r.2.1 r.2.2/\IX r.2.1 r.2.2 r.1 (upW x.ps b)/\∀k o n w,r.1 = .own k o n w->4*nx<=k)/\Fin F136.res r e st):=by
  refine Wp.seq ?_;refine Wp.rg ?_;refine Wp.seq (Wp.seq ?_);have hfr:get H (4*(nx+2))=none:=hf _ (by omega);refine Wp.rgn (K:=0) (s':=⟨[(0,.ref hid 0 0 0),(1,.nI b),(4,.own (4*(nx+2)) 0 1 0)],Arx.set H (4*(nx+2)) (.buf 0 1 [numC b]),nx+4⟩) (fun n _=>by
   simp[hfr,setAll,Nat.add_assoc,numC]) ?_
  refine Wp.block ?_;refine Wp.loop (fun m s1=>∃(c n2 v id:Nat) (pre:List Int) (H2:Hp),c=m/\c<=b/\c<=x.ps.length/\pre++upW x.ps c=upW x.ps b/\4*nx<=id/\id<4*n2/\id % 4=0/\get H2 id=some (.buf v 1 ((pre++[(c:Int)]).map numC))/\Ext H nx H2 n2/\
   s1=⟨[(0,.ref hid 0 0 0),(1,.nI c),(4,.own id 0 (pre.length+1) v)],H2,n2⟩) (m:=b)
   ⟨b,nx+4,0,4*(nx+2),[],_,rfl,by omega,hb,rfl,by omega,by omega,by omega,get_set_same _ _ _,(Ext.refl hf (by omega)).set (by omega) (by omega) _,by simp[fr_cons,keepFr]⟩ ?_
  rintro m s1 ⟨c,n2,v,id,pre,H2,rfl,hcb,hcl,hpre,hid1,hid2,hid4,hg,hE,rfl⟩;have hx2:get H2 hid=some (.cells (hdC x)):=by rw[hE.old _ hlt];exact hx
  refine Wp.seq (Wp.seq ?_);cases c with
  |zero=>
   refine Wp.rg ?_;refine Wp.cond (t:=false) rfl (Wp.exit ?_);simp only[Ex.then,Ex.inBlock,if_true];refine Wp.seq ?_;refine Wp.rg ?_;refine Wp.ret ⟨(_,_,_),⟨hE.up (show n2<=n2+2+2 by omega),⟨id,v,show id<4*(n2+2+2) by omega,hid4,?_,?_⟩,fun k o n w h=>by cases h;exact hid1⟩,rfl,rfl⟩
   ·rw[<-hpre,upW];simp
   ·rw[hg,<-hpre,upW];rfl
  |succ c=>
   obtain⟨p,hp⟩:∃p,x.ps[c]?=some p:=⟨_,List.getElem?_eq_getElem (by omega)⟩;obtain⟨hp0,hp1⟩:=parOk_at hpar hp;obtain⟨q,rfl⟩:∃q:Nat,p=(q:Int):=⟨p.toNat,by omega⟩;have hqc:q<=c:=by omega
   rw[upW,hp]at hpre;simp only[Option.getD_some,Int.toNat_natCast,Nat.min_eq_left hqc]at hpre;have hpos:(0:Int)<((c+1:Nat):Int):=by omega
   have hw:IntKind.i64.wrap (((c+1:Nat):Int) - 1)=(c:Int):=by rw[IntWalk.i64_in _ (by omega)];omega
   generalize hcc:((c+1:Nat):Int)=cc at *;refine Wp.rgn (K:=0) (s':=⟨[(0,.ref hid 0 0 0),(1,.nI cc),(4,.own id 0 (pre.length+1) v),(8,.bI true)],H2,n2+2⟩) (fun n _=>by simp[hpos]) ?_;refine Wp.cond (t:=true) rfl (Wp.skip ?_);simp only[Ex.then];refine Wp.seq (Wp.block ?_);refine Wp.rgn (K:=0) (s':=⟨[(0,.ref hid 0 0 0),(1,.nI q),(4,.own id 0 (pre.length+1) v)],H2,n2+11⟩) (fun n _=>by simp[hx2,hdC_eq,hw,hp,num1]) ?_;simp only[Ex.then,Ex.inBlock];have hfr2:get H2 (4*(n2+13))=none:=hE.fresh _ (by omega);have hne:4*(n2+13)≠id:=by omega
   have hlen:(pre++[cc]).length<=101:=by
    have h1:=congrArg List.length hpre;have h2:=upW_len x.ps b b (Nat.le_refl _);rw[List.length_append,List.length_cons]at h1;rw[List.length_append,List.length_singleton];omega
   have hgr:¬(pre.length+1+1<=(pre++[cc]).length):=by rw[List.length_append,List.length_singleton];omega
   have hroom:roomy (pre.length+1+1)=true:=by rw[List.length_append,List.length_singleton]at hlen;simp only[roomy,Nat.ble_eq];omega
   have hln:(pre++[cc]).length=pre.length+1:=by simp
   generalize hrow:pre++[cc]=row at hg hgr hln;have htk:(row.map numC).take (pre.length+1)=row.map numC:=List.take_of_length_le (by rw[List.length_map];omega);refine Wp.rgn (K:=0) (s':=⟨[(0,.ref hid 0 0 0),(1,.nI q),(4,.own id 0 (pre.length+1+1) (v+1))],Arx.set (Arx.set H2 (4*(n2+13)) (.buf 0 1 [numC q])) id (.buf (v+1) 1 ((row++[(q:Int)]).map numC)),n2+16⟩) (fun n _=>by
    have hg2:get (Arx.set H2 (4*(n2+13)) (Ob.buf 0 1 [[AV.iv (IV.int .i64 q)]])) id=some (.buf v 1 (row.map numC)):=by rw[get_set_ne _ _ hne];exact hg
    simp[hfr2,setAll,Nat.add_assoc,app,elems,elemsS,hg2,hid4,hln,hroom,htk,numC]) ?_
   simp only[Ex.then];have hE2:Ext H nx (Arx.set H2 (4*(n2+13)) (.buf 0 1 [numC q])) (n2+16):=(hE.up (show n2<=n2+16 by omega)).set (by have:=hE.le;omega) (by omega) _;refine⟨q,by omega,q,n2+16,v+1,id,row,_,rfl,by omega,by omega,?_,hid1,by omega,hid4,get_set_same _ _ _,hE2.set hid1 (by omega) _,by simp[fr_cons,keepFr,hln]⟩;rw[<-hpre,<-hrow,List.append_assoc];rfl
 obtain⟨⟨y,H',nx'⟩,⟨h1,h2,h3⟩,h4⟩:=Ev.ofx hp2 h rfl rfl _ key;exact⟨H',nx',y,h1,h2,h3,h4⟩
end
def Swapped (row row':List Int) (n i:Nat):Prop:=row'.length=row.length/\∀k,row'[k]?=if k<n/\(k<i\/n<=k+i) then row[n - 1 - k]? else row[k]?
theorem swapped_end {row row':List Int} {n i:Nat} (h:Swapped row row' n i) (hn:n<=row.length) (hi:n<=2*i+1):row'=(row.take n).reverse++row.drop n:=by
 refine List.ext_getElem? fun k=>?_
 rw[h.2 k];by_cases hk:k<n
 ·have rhs:((row.take n).reverse++row.drop n)[k]?=row[n - 1 - k]?:=by
   rw[List.getElem?_append_left (by simp;omega),List.getElem?_reverse (by simp;omega),List.length_take,Nat.min_eq_left hn,List.getElem?_take,if_pos (by omega)]
  rw[rhs];by_cases h2:k<i\/n<=k+i
  ·rw[if_pos ⟨hk,h2⟩]
  ·rw[if_neg (fun h=>h2 h.2),show n - 1 - k=k by omega]
 ·rw[if_neg (fun h=>hk h.1),List.getElem?_append_right (by simp;omega),List.length_reverse,List.length_take,Nat.min_eq_left hn,List.getElem?_drop];congr 1;omega
section
variable {p1:Nat->Option Arb.IFn} {p2:Nat->Option IFn}
set_option maxHeartbeats 1000000 in
theorem ev180 (hp2:PrimsLe p2) (h:p2 180=some F180) (row:List Int) (n v id:Nat) (hn:n<=row.length) (hn8:n<=1000) (H:Hp) (nx:Nat) (hg:get H id=some (.buf v 1 (row.map numC))) :
  ∃H' nx',nx<=nx'/\get H' id=some (.buf v 1 (((row.take n).reverse++row.drop n).map numC))/\(∀k,k≠id->get H' k=get H k)/\Ev p1 p2 180 [.own id 0 n v] H nx (.tup [],H',nx'):=by
 have key:Wp p1 p2 F180.body ⟨params [.own id 0 n v] 0,H,nx⟩ (fun e st=>∃r:AV×Hp×Nat,(r.1 = .tup []/\nx<=r.2.2/\get r.2.1 id=some (.buf v 1 (((row.take n).reverse++row.drop n).map numC))/\(∀k,k≠id->get r.2.1 k=get H k))/\Fin F180.res r e st):=by
  refine Wp.seq ?_;have hw0:IntKind.i64.wrap ((n:Int) - 1)=(n:Int) - 1:=IntWalk.i64_in _ (by omega);refine Wp.rgn (K:=0) (s':=⟨[(0,.own id 0 n v),(2,.nI 0),(3,.nI ((n:Int) - 1))],H,nx+5⟩) (fun n _=>by simp[hg,hw0]) ?_;refine Wp.block ?_;refine Wp.loop (fun m s1=>∃(i n2:Nat) (row':List Int) (H2:Hp),m+i=n/\nx<=n2/\2*i<=n+1/\Swapped row row' n i/\get H2 id=some (.buf v 1 (row'.map numC))/\(∀k,k≠id->get H2 k=get H k)/\
   s1=⟨[(0,.own id 0 n v),(2,.nI i),(3,.nI ((n:Int) - 1 - i))],H2,n2⟩) (m:=n)
   ⟨0,nx+5,row,H,by omega,by omega,by omega,⟨rfl,fun k=>by rw[if_neg (by omega)]⟩,hg,fun _ _=>rfl,by simp[fr_cons,keepFr]⟩ ?_
  rintro m s1 ⟨i,n2,row',H2,him,hn2,h2i,hsw,hg2,hold,rfl⟩;refine Wp.seq (Wp.seq ?_);by_cases hi:2*i+1<n
  ·obtain⟨j,hj⟩:∃j:Nat,j+i+1=n:=⟨n - 1 - i,by omega⟩;have hji:(n:Int) - 1 - i=(j:Int):=by omega
   have hlt:(i:Int)<(j:Int):=by omega
   have hltn:i<j:=by omega
   rw[hji];have hlen:=hsw.1;obtain⟨a,ha⟩:∃a,row'[i]?=some a:=⟨_,List.getElem?_eq_getElem (by omega)⟩;obtain⟨c,hc⟩:∃c,row'[j]?=some c:=⟨_,List.getElem?_eq_getElem (by omega)⟩;have ha0:=hsw.2 i;have hc0:=hsw.2 j;rw[if_neg (by omega),ha]at ha0;rw[if_neg (by omega),hc]at hc0;have hwi:IntKind.i64.wrap ((i:Int)+1)=(i:Int)+1:=IntWalk.i64_in _ (by omega);have hwj:IntKind.i64.wrap ((j:Int) - 1)=(j:Int) - 1:=IntWalk.i64_in _ (by omega);have hin:(i:Int)<(n:Int):=by omega
   have hjn:(j:Int)<(n:Int):=by omega
   have hin':i<n:=by omega
   have hjn':j<n:=by omega
   refine Wp.rgn (K:=0) (s':=⟨[(0,.own id 0 n v),(2,.nI i),(3,.nI j),(9,.bI true)],H2,n2+3⟩) (fun n _=>by simp[hltn]) ?_;refine Wp.cond (t:=true) rfl (Wp.skip ?_);simp only[Ex.then];have e1:(row'.map numC)[i]?=some (numC a):=by simp[ha]
   have e2:(row'.map numC)[j]?=some (numC c):=by simp[hc]
   have e3:((row'.map numC).set i (numC c))[j]?=some (numC c):=by rw[List.getElem?_set_ne (by omega)];exact e2
   have e4:((row'.map numC).set i (numC c)).set j (numC a)=((row'.set i c).set j a).map numC:=by rw[List.map_set,List.map_set]
   have hsw2:Swapped row ((row'.set i c).set j a) n (i+1):=by
    refine⟨by simp[hlen],fun k=>?_⟩;by_cases k1:k=j
    ·subst k1;rw[List.getElem?_set_self (by simp;omega),if_pos (by omega),show n - 1 - k=i by omega,ha0]
    ·rw[List.getElem?_set_ne (by omega)];by_cases k2:k=i
     ·subst k2;rw[List.getElem?_set_self (by omega),if_pos (by omega),show n - 1 - k=j by omega,hc0]
     ·rw[List.getElem?_set_ne (by omega),hsw.2 k];by_cases q:k<n/\(k<i\/n<=k+i)
      ·rw[if_pos q,if_pos (by omega)]
      ·rw[if_neg q,if_neg (by omega)]
   generalize row'.map numC=es at *;refine Wp.seq (Wp.block ?_);refine Wp.rgn (K:=0) (s':=⟨[(0,.own id 0 n v),(2,.nI i),(3,.nI j)],Arx.set (Arx.set H2 id (.buf v 1 (es.set i (numC c)))) id (.buf v 1 ((es.set i (numC c)).set j (numC a))),n2+19⟩) (fun n _=>by
    simp only[numC]at e1 e2 e3 ⊢;simp[evalFeet,footOf,hg2,hin,hjn,hin',hjn',e1,e2,e3];exact(by unfold orderOk;rw[Bool.or_eq_true];right;simp[apartAll,apart1,clash,meets,M.foot,M.bind,M.ok,M.lift,mk,obRead,hg2,e1,e2])) ?_
   simp only[Ex.then,Ex.inBlock];refine Wp.rgn (K:=0) (s':=⟨[(0,.own id 0 n v),(2,.nI ((i:Int)+1)),(3,.nI ((j:Int) - 1))],Arx.set (Arx.set H2 id (.buf v 1 (es.set i (numC c)))) id (.buf v 1 ((es.set i (numC c)).set j (numC a))),n2+25⟩) (fun n _=>by simp[hwi,hwj]) ?_;refine⟨m - 1,by omega,i+1,n2+25,(row'.set i c).set j a,Arx.set (Arx.set H2 id (.buf v 1 (es.set i (numC c)))) id (.buf v 1 ((es.set i (numC c)).set j (numC a))),by omega,by omega,by omega,hsw2,by rw[get_set_same,e4],fun k hk=>by rw[get_set_ne _ _ (Ne.symm hk),get_set_ne _ _ (Ne.symm hk)];exact hold k hk,?_⟩;have:(j:Int) - 1=(n:Int) - 1 - ((i:Int)+1):=by omega
   simp[fr_cons,keepFr,this]
  ·have hlt:¬(i:Int)<(n:Int) - 1 - i:=by omega
   refine Wp.rgn (K:=0) (s':=⟨[(0,.own id 0 n v),(2,.nI i),(3,.nI ((n:Int) - 1 - i)),(9,.bI false)],H2,n2+3⟩) (fun n _=>by simp[hlt]) ?_;refine Wp.cond (t:=false) rfl (Wp.exit ?_);simp only[Ex.then,Ex.inBlock,if_true];refine⟨(.tup [],H2,n2+3),⟨rfl,by show nx<=n2+3;omega,?_,hold⟩,rfl,rfl⟩;rw[<-swapped_end hsw hn (by omega)];exact hg2
 obtain⟨⟨y,H',nx'⟩,⟨rfl,h1,h2,h3⟩,h4⟩:=Ev.ofx hp2 h rfl rfl _ key;exact⟨H',nx',h1,h2,h3,h4⟩
end
theorem Wp.scope {p1:Nat->Option Arb.IFn} {p2:Nat->Option IFn} {b:IC} {s:St} {Q:Ex->St->Prop} (h:Wp p1 p2 b s Q):Wp p1 p2 (.scope b) s Q:=by
 obtain⟨K,ex,s',h,q⟩:=h;exact⟨K,ex,s',fun n hn=>by simp only[evalC];exact h n hn,q⟩
def IB (H:Hp) (n:Nat) (y:AV) (l:List Int):Prop:=∃id v es,id<4*n/\y = .own id 0 l.length v/\get H id=some (.buf v 1 es)/\es.take l.length=l.map numC
def fj (x:Int):List Int->Nat->Option Nat
 |[],_=>none
 |y::r,j=>if x==y then some j else fj x r (j+1)
def fi (b:List Int):List Int->Nat->Option (Nat×Nat)
 |[],_=>none
 |x::r,i=>match fj x b 0 with
  |some j=>some (i,j)
  |none=>fi b r (i+1)
theorem fj_lt {x:Int}:∀{l:List Int} {k j:Nat},fj x l k=some j->k<=j/\j<k+l.length
 |[],k,j,h=>by simp[fj]at h
 |y::l,k,j,h=>by
  unfold fj at h;split at h
  ·simp only[Option.some.injEq]at h;subst h;simp
  ·have:=fj_lt h;simp only[List.length_cons];omega
theorem fi_lt {b:List Int}:∀{l:List Int} {k i j:Nat},fi b l k=some (i,j)->k<=i/\i<k+l.length/\j<b.length
 |[],k,i,j,h=>by simp[fi]at h
 |x::l,k,i,j,h=>by
  unfold fi at h;split at h
  ·rename_i j' hj;simp only[Option.some.injEq,Prod.mk.injEq]at h;obtain⟨rfl,rfl⟩:=h;have:=fj_lt hj;simp only[List.length_cons];omega
  ·have:=fi_lt h;simp only[List.length_cons];omega
def joinW (a b:List Int):List Int:=match fi b a 0 with
 |some p=>a.take (p.1+1)++(b.take p.2).reverse
 |none=>a++b.reverse
def wayX (h:Hd) (from_ to:Int):List Int:=if brokerH h from_&&brokerH h to then joinW (upW h.ps from_.toNat) (upW h.ps to.toNat) else[]
def hopX (h:Hd) (from_ to:Int):Int:=match(wayX h from_ to)[1]? with
 |some x=>x
 |none=>-1
theorem broker_in {h:Hd} {b:Int} (e:brokerH h b=true):∃n:Nat,b=(n:Int)/\n<=h.ps.length/\checkH h=0:=by
 unfold brokerH at e;rw[Bool.and_eq_true,decide_eq_true_eq,decide_eq_true_eq]at e;have h2:=e.2;unfold sizeH at h2;split at h2
 ·exact⟨b.toNat,by omega,by omega,by assumption⟩
 ·omega
structure LibW (p1:Nat->Option Arb.IFn) (p2:Nat->Option IFn):Prop where
 T:LibT p1
 h136:p2 136=some F136
 h180:p2 180=some F180
 h179:p2 179=some F179
 h178:p2 178=some F178
 h175:p2 175=some F175
 h182:p2 182=some F182
 h181:p2 181=some F181
section
variable {p1:Nat->Option Arb.IFn} {p2:Nat->Option IFn}
theorem hd_take (x:Hd):(hdC x).take 4=hdC x:=rfl
theorem hd_len (x:Hd):(hdC x).length=4:=rfl
theorem hd_fz (w:Bool) (x:Hd):M.mapL (fz w 7) (hdC x) = .ret x.enc:=by simp[hdC,Hd.enc,M.mapL,fz,M.bind]
theorem hd_fz8 (w:Bool) (x:Hd):M.mapL (fz w 8) (hdC x) = .ret x.enc:=by simp[hdC,Hd.enc,M.mapL,fz,M.bind]
theorem call135 (L:LibW p1 p2) (x:Hd) (b:Int) (hp:x.ps.length<=100) (hh:x.hs.length<=100):∃K,∀n,K<=n->∀(H:Hp) (id:Nat),get H id=some (.cells (hdC x))->(callM (one p1 n) (.iv (.fn 135 [])) [.ref id 0 0 0,.nI b]).run H=some (.bI (brokerH x b),H):=by
 obtain⟨K,hK⟩:=x_broker L.T x b hp hh;refine⟨K,fun n hn H id hg=>?_⟩;have e:(one p1 n 135 [.iv (.ptr x.enc),.nI b] []).bind shut=some (.bI (brokerH x b)):=hK n hn;have hz:(fz1 false (.ref id 0 0 0)).run H=some (.iv (.ptr x.enc),H):=by
  unfold fz1 fz;simp[M.run,M.look,M.run_bind,hg,M.ok,M.bind,hd_fz]
 have hi:fz1 false (.nI b) = .ret (.nI b):=rfl;simp[callM,callee,M.run_bind,M.lift,M.run,M.mapL,hz,hi,e,M.ok,flat,flat1,flat0,flatI,ofA,of1]
def wayBlk:IC:=match F179.body with
 |.seq _ (.scope (.seq _ (.seq _ (.seq _ (.seq (.seq _ c) _)))))=>c
 |_=>.skip
def cutA (A B:List Int):Nat:=match fi B A 0 with
 |some p=>p.1+1
 |none=>A.length
def cutB (A B:List Int):Nat:=match fi B A 0 with
 |some p=>p.2
 |none=>B.length
theorem cut_join (A B:List Int):joinW A B=A.take (cutA A B)++(B.take (cutB A B)).reverse/\cutA A B<=A.length/\cutB A B<=B.length:=by
 unfold joinW cutA cutB;cases h:fi B A 0 with
 |none=>simp
 |some p=>
  have:=fi_lt h;refine⟨rfl,?_,?_⟩<;>simp only[]<;>omega
set_option maxHeartbeats 2000000 in
theorem way_meet (A B:List Int) (ia va ib vb:Nat) (la:A.length<=101) (lb:B.length<=101) (H:Hp) (nx:Nat) (ga:get H ia=some (.buf va 1 (A.map numC))) (gb:get H ib=some (.buf vb 1 (B.map numC))) :
  Wp p1 p2 wayBlk ⟨[(7,.own ia 0 A.length va),(8,.own ib 0 B.length vb),(25,.own ia 0 A.length va),(26,.nI A.length),(27,.nI 0)],H,nx⟩
   (fun e st=>e = .norm/\∃n4 z,nx<=n4/\(z=[]\/z=[(25,.own ia 0 A.length va),(26,.nI A.length),(27,.nI A.length),(28,.bI false)])/\st=⟨[(7,.own ia 0 (cutA A B) va),(8,.own ib 0 (cutB A B) vb)]++z,H,n4⟩):=by
 refine Wp.block ?_;refine Wp.loop (fun m s1=>∃(i n2:Nat),i+m=A.length/\fi B (A.drop i) i=fi B A 0/\nx<=n2/\s1=⟨[(7,.own ia 0 A.length va),(8,.own ib 0 B.length vb),(25,.own ia 0 A.length va),(26,.nI A.length),(27,.nI i)],H,n2⟩) (m:=A.length) ⟨0,nx,by omega,rfl,by omega,by simp[fr_cons,keepFr]⟩ ?_;rintro m s1 ⟨i,n2,him,hfi,hn2,rfl⟩;refine Wp.seq ?_;by_cases hi:i<A.length
 ·obtain⟨x,hx⟩:∃x,A[i]?=some x:=⟨_,List.getElem?_eq_getElem hi⟩;have hi':(i:Int)<(A.length:Int):=by omega
  have hxc:(A.map numC)[i]?=some (numC x):=by simp[hx]
  have hwi:IntKind.i64.wrap ((i:Int)+1)=(i:Int)+1:=IntWalk.i64_in _ (by omega);rw[drop_cons hx]at hfi
  conv at hfi=>lhs;unfold fi
  have hla:(A.map numC).length=A.length:=by simp
  have hlb:(B.map numC).length=B.length:=by simp
  refine Wp.rgn (K:=0) (fun n _=>by simp[hi];rfl) ?_;refine Wp.seq (Wp.cond (t:=true) rfl (Wp.skip (Wp.seq (Wp.block (Wp.seq ?_)))));refine Wp.rgn (K:=0) (s':=⟨[(7,.own ia 0 A.length va),(8,.own ib 0 B.length vb),(9,.nI i),(10,.nI x),(25,.own ia 0 A.length va),(26,.nI A.length),(27,.nI i)],H,n2+6⟩) (fun n _=>by
   generalize A.map numC=es at *;simp only[numC]at hxc;simp[ga,hi,hxc]) ?_
  refine Wp.seq ?_;refine Wp.rgn (K:=0) (s':=⟨[(7,.own ia 0 A.length va),(8,.own ib 0 B.length vb),(9,.nI i),(10,.nI x),(25,.own ia 0 A.length va),(26,.nI A.length),(27,.nI i),(32,.own ib 0 B.length vb),(33,.nI B.length),(34,.nI 0)],H,n2+9⟩) (fun n _=>by simp[gb]) ?_;refine Wp.block ?_;refine Wp.loop (fun m2 s1=>∃(j n3:Nat),j+m2=B.length/\fj x (B.drop j) j=fj x B 0/\nx<=n3/\s1=⟨[(7,.own ia 0 A.length va),(8,.own ib 0 B.length vb),(9,.nI i),(10,.nI x),(25,.own ia 0 A.length va),(26,.nI A.length),(27,.nI i),(32,.own ib 0 B.length vb),(33,.nI B.length),(34,.nI j)],H,n3⟩)
   (m:=B.length) ⟨0,n2+9,by omega,rfl,by omega,by simp[fr_cons,keepFr]⟩ ?_
  rintro m2 s1 ⟨j,n3,hjm,hfj,hn3,rfl⟩;refine Wp.seq ?_;by_cases hj:j<B.length
  ·obtain⟨y,hy⟩:∃y,B[j]?=some y:=⟨_,List.getElem?_eq_getElem hj⟩;have hj':(j:Int)<(B.length:Int):=by omega
   have hyc:(B.map numC)[j]?=some (numC y):=by simp[hy]
   have hwj:IntKind.i64.wrap ((j:Int)+1)=(j:Int)+1:=IntWalk.i64_in _ (by omega);rw[drop_cons hy]at hfj
   conv at hfj=>lhs;unfold fj
   refine Wp.rgn (K:=0) (fun n _=>by simp[hj];rfl) ?_;refine Wp.seq (Wp.cond (t:=true) rfl (Wp.skip (Wp.seq (Wp.block (Wp.seq ?_)))));refine Wp.rgn (K:=0) (s':=⟨[(7,.own ia 0 A.length va),(8,.own ib 0 B.length vb),(9,.nI i),(10,.nI x),(11,.nI j),(12,.nI y),(25,.own ia 0 A.length va),(26,.nI A.length),(27,.nI i),(32,.own ib 0 B.length vb),(33,.nI B.length),(34,.nI j)],H,n3+6⟩) (fun n _=>by
    generalize B.map numC=es at *;simp only[numC]at hyc;simp[gb,hj,hyc]) ?_
   refine Wp.seq ?_;refine Wp.rg ?_;refine Wp.cond rfl ?_;cases hxy:x==y with
   |true=>
    rw[hxy]at hfj;simp only[if_true]at hfj;rw[<-hfj]at hfi;simp only at hfi;simp only[if_true];have hca:cutA A B=i+1:=by unfold cutA;rw[<-hfi]
    have hcb:cutB A B=j:=by unfold cutB;rw[<-hfi]
    refine Wp.seq ?_;refine Wp.rgn (K:=0) (s':=⟨[(7,.own ia 0 (i+1) va),(8,.own ib 0 j vb)],H,n3+18⟩) (fun n _=>by
     have h1:(0:Int)<=(i:Int)+1:=by omega
     have h2:(i:Int)+1<=(A.length:Int):=by omega
     have h3:(j:Int)<=(B.length:Int):=by omega
     have h4:((i:Int)+1).toNat=i+1:=by omega
     have h5:j<=B.length:=by omega
     have h6:i+1<=A.length:=by omega
     generalize A.map numC=ea at *;generalize B.map numC=eb at *;simp[evalFeet,footOf,ga,gb,hwi,hla,hlb,h1,h2,h3,h4,h5,h6];exact(by unfold orderOk;rw[Bool.or_eq_true];right;simp[apartAll,apart1,clash,meets,M.foot,M.bind,M.ok,M.lift,mk,obRead,ga,gb,hla,hlb,h2,h5])) ?_
    refine Wp.exit ?_;have fin:Ex.norm=Ex.norm/\∃n4 z,nx<=n4/\(z=[]\/z=[(25,.own ia 0 A.length va),(26,.nI A.length),(27,.nI A.length),(28,.bI false)])/\(⟨[(7,.own ia 0 (i+1) va),(8,.own ib 0 j vb)],H,n3+18⟩:St)=⟨[(7,.own ia 0 (cutA A B) va),(8,.own ib 0 (cutB A B) vb)]++z,H,n4⟩:=
     ⟨rfl,n3+18,[],by omega,.inl rfl,by rw[hca,hcb];rfl⟩
    exact fin
   |false=>
    rw[hxy]at hfj;simp only[Bool.false_eq_true,if_false]at hfj;simp only[Bool.false_eq_true,if_false];refine Wp.skip ?_;simp only[Ex.then,Ex.inBlock];refine Wp.rgn (K:=0) (fun n _=>by simp[hwj];rfl) ?_;exact⟨m2 - 1,by omega,j+1,_,by omega,hfj,by show nx<=n3+6+3+2;omega,by simp[fr_cons,keepFr]⟩
  ·have hdr:B.drop j=[]:=List.drop_eq_nil_of_le (by omega);rw[hdr]at hfj
   conv at hfj=>lhs;unfold fj
   rw[<-hfj]at hfi;simp only at hfi;refine Wp.rgn (K:=0) (fun n _=>by simp[hj];rfl) ?_;refine Wp.seq (Wp.cond (t:=false) rfl (Wp.exit ?_));simp only[Ex.then,Ex.inBlock,if_true];refine Wp.rgn (K:=0) (fun n _=>by simp[hwi];rfl) ?_;exact⟨m - 1,by omega,i+1,_,by omega,hfi,by show nx<=n3+1+2;omega,by simp[fr_cons,keepFr]⟩
 ·obtain rfl:i=A.length:=by omega
  rw[List.drop_length]at hfi
  conv at hfi=>lhs;unfold fi
  have hca:cutA A B=A.length:=by unfold cutA;rw[<-hfi]
  have hcb:cutB A B=B.length:=by unfold cutB;rw[<-hfi]
  refine Wp.rg ?_;refine Wp.seq (Wp.cond (t:=false) rfl (Wp.exit ?_));simp only[Ex.then,Ex.inBlock,if_true];exact⟨trivial,_,_,show nx<=n2+1 by omega,.inr rfl,by rw[hca,hcb];rfl⟩
set_option maxHeartbeats 2000000 in
theorem ev179 (hp2:PrimsLe p2) (L:LibW p1 p2) (x:Hd) (hp:x.ps.length<=100) (hh:x.hs.length<=100) (f t:Int) (H:Hp) (nx:Nat) (hf:Fresh H nx) :
  ∃H' nx' y,Ext H nx H' nx'/\((y = .iv (.nsl 1)/\wayX x f t=[])\/IB H' nx' y (wayX x f t))/\Ev p1 p2 179 [.agg (hdC x),.nI f,.nI t] H nx (y,H',nx'):=by
 have hfr:get H (4*nx)=none:=hf _ (by omega);have hE1:Ext H nx (Arx.set H (4*nx) (.cells (hdC x))) (nx+2):=(Ext.refl hf (by omega)).set (by omega) (by omega) _;have hg1:get (Arx.set H (4*nx) (Ob.cells (hdC x))) (4*nx)=some (.cells (hdC x)):=get_set_same _ _ _;generalize hH1:Arx.set H (4*nx) (Ob.cells (hdC x))=H1 at hE1 hg1;have key:Wp p1 p2 F179.body ⟨params [.agg (hdC x),.nI f,.nI t] 0,H,nx⟩ (fun e st=>∃r:AV×Hp×Nat,(Ext H nx r.2.1 r.2.2/\((r.1 = .iv (.nsl 1)/\wayX x f t=[])\/IB r.2.1 r.2.2 r.1 (wayX x f t)))/\Fin F179.res r e st):=by
  refine Wp.seq ?_;refine Wp.rgn (K:=0) (s':=⟨[(1,.nI f),(2,.nI t),(3,.ref (4*nx) 0 0 0)],H1,nx+2⟩) (fun n _=>by
   rw[<-hH1];simp[hfr]) ?_
  refine Wp.scope (Wp.seq (Wp.seq ?_));obtain⟨K1,hK1⟩:=call135 L x f hp hh;obtain⟨K2,hK2⟩:=call135 L x t hp hh;unfold wayX;cases hbf:brokerH x f with
  |false=>
   rw[hbf]at hK1;refine Wp.rgn (K:=K1) (s':=⟨[(1,.nI f),(2,.nI t),(3,.ref (4*nx) 0 0 0),(20,.bI true)],H1,nx+10⟩) (fun n hn=>by
    have e1:=hK1 n hn H1 (4*nx) hg1;simp[e1]) ?_
   refine Wp.cond (t:=true) rfl ?_;simp only[if_true];refine Wp.seq ?_;refine Wp.rg ?_;exact Wp.ret ⟨(_,_,_),⟨hE1.up (show nx+2<=nx+10+1 by omega),.inl ⟨rfl,rfl⟩⟩,rfl,rfl⟩
  |true=>
   rw[hbf]at hK1;refine Wp.rgn (K:=max K1 K2) (s':=⟨[(1,.nI f),(2,.nI t),(3,.ref (4*nx) 0 0 0),(20,.bI (!brokerH x t))],H1,nx+10⟩) (fun n hn=>by
    have e1:=hK1 n (by omega) H1 (4*nx) hg1;have e2:=hK2 n (by omega) H1 (4*nx) hg1;simp[e1,e2]) ?_
   refine Wp.cond rfl ?_;cases hbt:brokerH x t with
   |false=>
    simp only[Bool.not_false,if_true];refine Wp.seq ?_;refine Wp.rg ?_;exact Wp.ret ⟨(_,_,_),⟨hE1.up (show nx+2<=nx+10+1 by omega),.inl ⟨rfl,rfl⟩⟩,rfl,rfl⟩
   |true=>
    simp only[Bool.not_true,Bool.false_eq_true,if_false,Bool.and_self,if_true];refine Wp.skip ?_;simp only[Ex.then];obtain⟨a,rfl,hal,hck⟩:=broker_in hbf;obtain⟨b,rfl,hbl, -⟩:=broker_in hbt;obtain⟨hps,hpar, -, -⟩:=checkH_0 hck;simp only[Int.toNat_natCast];obtain⟨H2,n2,y2,hE2,⟨ia,va,ia1,ia4,rfl,ga⟩,ho2,KA,hKA⟩:=ev136 (p1:=p1) hp2 L.h136 x hpar a (4*nx) hal (by omega) H1 (nx+10+6) (by omega) hg1 (fun k hk=>hE1.fresh k (by omega));have hg2:get H2 (4*nx)=some (.cells (hdC x)):=by rw[hE2.old _ (by omega)];exact hg1
    obtain⟨H3,n3,y3,hE3,⟨ib,vb,ib1,ib4,rfl,gb⟩,ho3,KB,hKB⟩:=ev136 (p1:=p1) hp2 L.h136 x hpar b (4*nx) hbl (by omega) H2 n2 (by have:=hE2.le;omega) hg2 hE2.fresh;have ha0:=ho2 _ _ _ _ rfl;have hb0:=ho3 _ _ _ _ rfl;have ga3:get H3 ia=some (.buf va 1 ((upW x.ps a).map numC)):=by rw[hE3.old _ ia1];exact ga
    have hE13:Ext H nx H3 n3:=hE1.trans ⟨by have:=hE2.le;have:=hE3.le;omega,hE3.fresh,fun k hk=>by rw[hE3.old _ (by have:=hE2.le;omega),hE2.old _ (by omega)]⟩;have hal8:=upW_len x.ps a a (Nat.le_refl _);have hbl8:=upW_len x.ps b b (Nat.le_refl _);generalize upW x.ps a=A at *;generalize upW x.ps b=B at *;refine Wp.seq ?_;refine Wp.rgn (K:=max KA KB) (s':=⟨[(7,.own ia 0 A.length va),(8,.own ib 0 B.length vb)],H3,n3⟩) (fun n hn=>by
     have e1:=hKA n (by omega);have e2:=hKB n (by omega);simp[e1,e2]) ?_
    refine Wp.seq (Wp.skip ?_);simp only[Ex.then];refine Wp.seq ?_;refine Wp.seq ?_;refine Wp.rgn (K:=0) (s':=⟨[(7,.own ia 0 A.length va),(8,.own ib 0 B.length vb),(25,.own ia 0 A.length va),(26,.nI A.length),(27,.nI 0)],H3,n3+3⟩) (fun n _=>by simp[ga3]) ?_;refine Wp.mono (way_meet A B ia va ib vb (by omega) (by omega) H3 (n3+3) ga3 gb) ?_;rintro e st ⟨rfl,n4,z,hn4,hz,rfl⟩;simp only[Ex.then];obtain⟨hjoin,hca,hcb⟩:=cut_join A B;rw[hjoin];generalize cutA A B=na at *;generalize cutB A B=nb at *;obtain⟨H5,n5,hn5,gb5,ho5,KR,hKR⟩:=ev180 (p1:=p1) hp2 L.h180 B nb vb ib hcb (by omega) H3 (n4+2) gb;have hne:ia≠ib:=by omega
    have ga5:get H5 ia=some (.buf va 1 (A.map numC)):=by rw[ho5 ia hne];exact ga3
    refine Wp.seq ?_;refine Wp.rgn (K:=KR) (s':=⟨[(7,.own ia 0 na va),(8,.own ib 0 nb vb)],H5,n5⟩) (fun n hn=>by
     have e1:=hKR n hn;rcases hz with rfl | rfl<;>simp[e1]) ?_
    have hE5:Ext H nx H5 n5:=by
     refine⟨by have:=hE13.le;omega,fun k hk=>?_,fun k hk=>?_⟩
     ·rw[ho5 k (by omega)];exact hE13.fresh k (by omega)
     ·rw[ho5 k (by omega)];exact hE13.old k hk
    refine Wp.seq ?_;have hnb:((B.take nb).reverse).length=nb:=by rw[List.length_reverse,List.length_take];omega
    have hel:(elemsS 1 (.own ib 0 nb vb)).run H5=some (((B.take nb).reverse).map numC,H5):=by
     have ht:(((B.take nb).reverse++B.drop nb).map numC).take nb=((B.take nb).reverse).map numC:=by
      rw[List.map_append,List.take_append_of_le_length (by rw[List.length_map];omega),List.take_of_length_le (by rw[List.length_map];omega)]
     generalize((B.take nb).reverse++B.drop nb).map numC=eb at *;rw[<-ht];simp[elemsS,elems,M.run_bind,M.look,M.run,gb5,M.ok,M.bind]
    have hlr:(A.take na++(B.take nb).reverse).length=na+nb:=by rw[List.length_append,List.length_take,hnb];omega
    generalize hR:(B.take nb).reverse=R at *;by_cases hin:na+R.length<=A.length
    ·refine Wp.rgn (K:=0) (s':=⟨[(6,.own ia 0 (na+R.length) va)],Arx.set H5 ia (.buf va 1 (Arb.splice (A.map numC) na (R.map numC))),n5+4⟩) (fun n _=>by
      have hl:(A.map numC).length=A.length:=by simp
      generalize A.map numC=ea at *;simp[-splice,app,hel,ga5,hl,hin]) ?_
     refine Wp.ret ⟨(_,_,_),⟨(hE5.up (show n5<=n5+4 by omega)).set (by omega) (by have:=hE13.le;omega) _,.inr ⟨ia,va,_,by show ia<4*(n5+4);omega,by rw[hlr,hnb],get_set_same _ _ _,?_⟩⟩,rfl,rfl⟩;rw[hlr,Arb.splice,List.map_append,List.map_take];rw[List.take_append_of_le_length (by simp;omega),List.take_of_length_le (by simp;omega)]
    ·have hroom:roomy (na+R.length)=true:=by simp only[roomy,Nat.ble_eq];omega
     refine Wp.rgn (K:=0) (s':=⟨[(6,.own ia 0 (na+R.length) (va+1))],Arx.set H5 ia (.buf (va+1) 1 ((A.map numC).take na++R.map numC)),n5+4⟩) (fun n _=>by
      have hl:(A.map numC).length=A.length:=by simp
      generalize A.map numC=ea at *;simp[-splice,app,hel,ga5,hl,hin,hroom,ia4]) ?_
     refine Wp.ret ⟨(_,_,_),⟨(hE5.up (show n5<=n5+4 by omega)).set (by omega) (by have:=hE13.le;omega) _,.inr ⟨ia,va+1,_,by show ia<4*(n5+4);omega,by rw[hlr,hnb],get_set_same _ _ _,?_⟩⟩,rfl,rfl⟩;rw[hlr,List.map_append,List.map_take];exact List.take_of_length_le (by simp;omega)
 obtain⟨⟨y,H',nx'⟩,⟨h1,h2⟩,h4⟩:=Ev.ofx hp2 L.h179 rfl rfl _ key;exact⟨H',nx',y,h1,h2,h4⟩
end
def QE (e:Nat) (H:Hp) (n:Nat) (y:AV) (rows:List (List AV)):Prop:=(y = .iv (.nsl e)/\rows=[])\/∃id v,id<4*n/\id % 4=0/\y = .own id 0 rows.length v/\get H id=some (.buf v e rows)
theorem QE.nil (e:Nat) (H:Hp) (n:Nat):QE e H n (.iv (.nsl e)) []:=.inl ⟨rfl,rfl⟩
theorem QE.mono {e:Nat} {H H':Hp} {n n':Nat} {y:AV} {rows:List (List AV)} (h:QE e H n y rows) (hn:n<=n') (ho:∀k,k<4*n->get H' k=get H k):QE e H' n' y rows:=by
 rcases h with h | ⟨id,v,h1,h2,h3,h4⟩
 ·exact .inl h
 ·exact .inr ⟨id,v,by omega,h2,h3,by rw[ho id h1];exact h4⟩
theorem QE.len {e:Nat} {H:Hp} {n:Nat} {y:AV} {rows:List (List AV)} (h:QE e H n y rows):(Arx.len false y).run H=some (.nI rows.length,H):=by
 rcases h with⟨rfl,rfl⟩|⟨id,v,h1,h2,rfl,h4⟩
 ·rfl
 ·simp[Arx.len,M.run,M.look,M.run_bind,h4,M.ok,M.bind]
theorem QE.push {e:Nat} {H:Hp} {n:Nat} {y:AV} {rows:List (List AV)} (h:QE e H n y rows) (r:List AV) {g slot:Nat} (hg:get H g=some (.buf 0 e [r])) (hgn:4*n<=g) (hs:n<=slot) (hfs:get H (4*slot)=none) (hr:rows.length+1<=1073741824) :
  ∃y' H',(app e slot false y (.own g 0 1 0)).run H=some (y',H')/\(∀m,slot<m->QE e H' m y' (rows++[r]))/\(∀k,(∀o n w,y≠.own k o n w)->k≠4*slot->get H' k=get H k)/\(∀k o n w,y' = .own k o n w->k=4*slot\/∃o n w,y = .own k o n w):=by
 have hel:(elemsS e (.own g 0 1 0)).run H=some ([r],H):=by simp[elemsS,elems,M.run_bind,M.look,M.run,hg,M.ok,M.bind]
 rcases h with⟨rfl,rfl⟩|⟨id,v,h1,h2,rfl,h4⟩
 ·refine⟨.own (4*slot) 0 1 0,Arx.set H (4*slot) (.buf 0 e [r]),?_,fun m hm=>.inr ⟨4*slot,0,by omega,by omega,rfl,get_set_same _ _ _⟩,fun k _ hk=>get_set_ne _ _ (Ne.symm hk),fun k o n w h=>by cases h;exact .inl rfl⟩;have h1:roomy 1=true:=by decide
  simp[app,M.run_bind,hel,M.ok,M.fresh,M.write,M.run,hfs,M.bind,h1]
 ·have hroom:roomy (rows.length+1)=true:=by simp only[roomy,Nat.ble_eq];exact hr
  refine⟨.own id 0 (rows.length+1) (v+1),Arx.set H id (.buf (v+1) e (rows++[r])),?_,fun m hm=>.inr ⟨id,v+1,by omega,h2,by simp,get_set_same _ _ _⟩,fun k hk _=>get_set_ne _ _ fun e=>hk 0 rows.length v (by rw[e]),fun k o n w h=>by cases h;exact .inr ⟨_,_,_,rfl⟩⟩;have hno:¬rows.length+1<=rows.length:=by omega
  simp[app,M.run_bind,hel,M.look,M.run,h4,M.ok,M.bind,hroom,h2,M.write,hno]
def RB (H:Hp) (n:Nat) (y:AV) (l:List Int):Prop:=(y = .iv (.nsl 1)/\l=[])\/IB H n y l
theorem RB.len {H:Hp} {n:Nat} {y:AV} {l:List Int} (h:RB H n y l):(Arx.len false y).run H=some (.nI l.length,H):=by
 rcases h with⟨rfl,rfl⟩|⟨id,v,es,h1,rfl,h3,h4⟩
 ·rfl
 ·simp[Arx.len,M.run,M.look,M.run_bind,h3,M.ok,M.bind]
def beyTo (h:Hd) (b n:Int):Nat->List Int
 |0=>[]
 |t+1=>beyTo h b n t++if hopX h b t==n then[(t:Int)] else[]
def linkX (h:Hd) (b n:Int):Bool:=(neighH h b).any fun p=>n==p
def beyX (h:Hd) (b n:Int):List Int:=if linkX h b n then beyTo h b n (sizeH h) else[]
theorem beyTo_len (h:Hd) (b n:Int):∀t,(beyTo h b n t).length<=t
 |0=>by simp[beyTo]
 |t+1=>by
  have:=beyTo_len h b n t;unfold beyTo;rw[List.length_append];split<;>simp<;>omega
theorem sizeH_le (h:Hd) (hp:h.ps.length<=100):sizeH h<=101:=by unfold sizeH;split<;>omega
section
variable {p1:Nat->Option Arb.IFn} {p2:Nat->Option IFn}
theorem ev178 (hp2:PrimsLe p2) (L:LibW p1 p2) (x:Hd) (hp:x.ps.length<=100) (hh:x.hs.length<=100) (f t:Int) (H:Hp) (nx:Nat) (hf:Fresh H nx) :
  ∃H' nx',Ext H nx H' nx'/\Ev p1 p2 178 [.agg (hdC x),.nI f,.nI t] H nx (.nI (hopX x f t),H',nx'):=by
 have hfr:get H (4*nx)=none:=hf _ (by omega);have hE1:Ext H nx (Arx.set H (4*nx) (.cells (hdC x))) (nx+2):=(Ext.refl hf (by omega)).set (by omega) (by omega) _;obtain⟨H2,n2,y,hE2,hy,K,hK⟩:=ev179 (p1:=p1) hp2 L x hp hh f t (Arx.set H (4*nx) (.cells (hdC x))) (nx+2+5) (fun k hk=>hE1.fresh k (by omega));have hE12:Ext H nx H2 n2:=hE1.trans ⟨by have:=hE2.le;omega,hE2.fresh,fun k hk=>hE2.old k (by omega)⟩;have key:Wp p1 p2 F178.body ⟨params [.agg (hdC x),.nI f,.nI t] 0,H,nx⟩ (fun e st=>∃r:AV×Hp×Nat,(r.1 = .nI (hopX x f t)/\Ext H nx r.2.1 r.2.2)/\Fin F178.res r e st):=by
  refine Wp.seq ?_;refine Wp.rgn (K:=0) (s':=⟨[(1,.nI f),(2,.nI t),(3,.ref (4*nx) 0 0 0)],Arx.set H (4*nx) (.cells (hdC x)),nx+2⟩) (fun n _=>by simp[hfr]) ?_;refine Wp.seq (Wp.seq ?_);refine Wp.rgn (K:=K) (s':=⟨[(7,y)],H2,n2⟩) (fun n hn=>by
   have c:=hK n hn;simp[hd_take,hd_len,c]) ?_
  have hy':RB H2 n2 y (wayX x f t):=hy;have hlen:=hy'.len;unfold hopX;generalize wayX x f t=w at *;refine Wp.seq ?_;refine Wp.rgn (K:=0) (s':=⟨[(7,y),(14,.bI (decide (1<w.length)))],H2,n2+3⟩) (fun n _=>by
   have:decide ((1:Int)<(w.length:Int))=decide (1<w.length):=decide_eq_decide.2 (by omega);simp[-len,hlen,this]) ?_
  refine Wp.cond rfl ?_;by_cases h1:1<w.length
  ·rw[decide_eq_true h1];simp only[if_true];obtain⟨q,hq⟩:∃q,w[1]?=some q:=⟨_,List.getElem?_eq_getElem h1⟩;rw[hq];rcases hy with⟨-,hnil⟩|⟨id,v,es,i1,rfl,i3,i4⟩
   ·rw[hnil]at h1;simp at h1
   ·have he:es[1]?=some (numC q):=by
     have:=congrArg (fun l=>l[1]?) i4;simp only[List.getElem?_take,if_pos h1,List.getElem?_map,hq,Option.map_some]at this;exact this
    have h1':(1:Int)<(w.length:Int):=by omega
    refine Wp.seq ?_;refine Wp.rgn (K:=0) (s':=⟨[(6,.nI q)],H2,n2+7⟩) (fun n _=>by
     simp only[numC]at he;simp[i3,h1',h1,he]) ?_
    exact Wp.ret ⟨(_,_,_),⟨rfl,hE12.up (show n2<=n2+7 by omega)⟩,rfl,rfl⟩
  ·rw[decide_eq_false h1];have hq:w[1]?=none:=List.getElem?_eq_none (by omega);rw[hq];simp only[Bool.false_eq_true,if_false];refine Wp.skip ?_;simp only[Ex.then];refine Wp.seq ?_;refine Wp.rg ?_;exact Wp.ret ⟨(_,_,_),⟨rfl,hE12.up (show n2<=n2+3+1 by omega)⟩,rfl,rfl⟩
 obtain⟨⟨y,H',nx'⟩,⟨rfl,h1⟩,h4⟩:=Ev.ofx hp2 L.h178 rfl rfl _ key;exact⟨H',nx',h1,h4⟩
theorem callLink (L:LibW p1 p2) (x:Hd) (b n:Int) (hp:x.ps.length<=100) (hh:x.hs.length<=100):∃K,∀m,K<=m->∀(H:Hp),(fcallM (one p1 m) (.iv (.fn 133 [])) [.agg (hdC x),.nI b]).run H=some (.iv (.sl 1 ((neighH x b).map num1)),H)/\
  (callM (one p1 m) (.iv (.fn 145 [])) [.iv (.sl 1 ((neighH x b).map num1)),.nI n]).run H=some (.bI (linkX x b n),H):=by
 obtain⟨K1,hK1⟩:=x_neigh L.T x b hp hh;obtain⟨K2,hK2⟩:=x_contI L.T.h152 L.T.h145 (neighH x b) n (by have:=neighH_len x b hp;unfold maxLen;omega);refine⟨max K1 K2,fun m hm H=>?_⟩;have e1:(one p1 m 133 [.agg (x.enc.map Arb.AV.iv),.nI b] []).bind shut=some (.iv (.sl 1 ((neighH x b).map num1))):=hK1 m (by omega);have e2:(one p1 m 145 [.iv (.sl 1 ((neighH x b).map num1)),.nI n] []).bind shut=some (.bI (linkX x b n)):=hK2 m (by omega);have hz:∀w,fz1 w (.agg (hdC x)) = .ret (.agg (x.enc.map Arb.AV.iv)):=fun w=>by
  unfold fz1;simp only[];rw[hd_fz8];rfl
 have hi:∀w,fz1 w (.nI b) = .ret (.nI b):=fun _=>rfl
 have hi2:fz1 false (.nI n) = .ret (.nI n):=rfl;have hs:∀es,fz1 false (.iv (.sl 1 es)) = .ret (.iv (.sl 1 es)):=fun _=>rfl
 generalize linkX x b n=q at *;generalize(neighH x b).map num1=rows at *;exact⟨by simp[fcallM,callee,M.run_bind,M.lift,M.run,M.mapL,hz,hi,e1,ofA,of1,M.bind],by simp[callM,callee,M.run_bind,M.lift,M.run,M.mapL,hs,hi2,e2,ofA,of1,M.ok,flat,flat1,flat0,flatI,M.bind]⟩
theorem callSize (L:LibW p1 p2) (x:Hd) (hp:x.ps.length<=100) (hh:x.hs.length<=100):∃K,∀m,K<=m->∀(H:Hp),(callM (one p1 m) (.iv (.fn 134 [])) [.agg (hdC x)]).run H=some (.nI (sizeH x),H):=by
 obtain⟨K1,hK1⟩:=x_size L.T x hp hh;refine⟨K1,fun m hm H=>?_⟩;have e1:(one p1 m 134 [.agg (x.enc.map Arb.AV.iv)] []).bind shut=some (.nI (sizeH x)):=hK1 m (by omega);have hz:∀w,fz1 w (.agg (hdC x)) = .ret (.agg (x.enc.map Arb.AV.iv)):=fun w=>by
  unfold fz1;simp only[];rw[hd_fz8];rfl
 simp[callM,callee,M.run_bind,M.lift,M.run,M.mapL,hz,e1,ofA,of1,M.ok,flat,flat1,flat0,flatI,M.bind]
def QI (H:Hp) (n:Nat) (y:AV) (l:List Int):Prop:=QE 1 H n y (l.map numC)
theorem QI.fz0 {H:Hp} {n:Nat} {y:AV} {l:List Int} (h:QI H n y l):(fz1 false y).run H=some (.iv (.sl 1 (l.map num1)),H):=by
 have hm:∀w,∀l:List Int,M.mapL (M.mapL (fz w 7)) (l.map numC) = .ret (l.map num1):=by
  intro w l
  induction l with
  |nil=>rfl
  |cons a l ih=>
   rw[List.map_cons,M.mapL,ih];rfl
 rcases h with⟨rfl,h0⟩|⟨id,v,h1,h2,rfl,h4⟩
 ·have:l=[]:=List.map_eq_nil_iff.1 h0;subst this;rfl
 ·unfold fz1 fz;simp[M.run,M.look,M.run_bind,h4,M.ok,M.bind,hm,List.take_of_length_le]
set_option maxHeartbeats 1000000 in
theorem ev175 (hp2:PrimsLe p2) (L:LibW p1 p2) (x:Hd) (hp:x.ps.length<=100) (hh:x.hs.length<=100) (b m0:Int) (H:Hp) (nx:Nat) (hf:Fresh H nx) :
  ∃H' nx' y,Ext H nx H' nx'/\QI H' nx' y (beyX x b m0)/\Ev p1 p2 175 [.agg (hdC x),.nI b,.nI m0] H nx (y,H',nx'):=by
 have hfr:get H (4*nx)=none:=hf _ (by omega);have hE1:Ext H nx (Arx.set H (4*nx) (.cells (hdC x))) (nx+2):=(Ext.refl hf (by omega)).set (by omega) (by omega) _;have hg1:get (Arx.set H (4*nx) (Ob.cells (hdC x))) (4*nx)=some (.cells (hdC x)):=get_set_same _ _ _;generalize hH1:Arx.set H (4*nx) (Ob.cells (hdC x))=H1 at hE1 hg1;obtain⟨K1,hK1⟩:=callLink L x b m0 hp hh;obtain⟨K2,hK2⟩:=callSize L x hp hh;have hsz:=sizeH_le x hp;have key:Wp p1 p2 F175.body ⟨params [.agg (hdC x),.nI b,.nI m0] 0,H,nx⟩ (fun e st=>∃r:AV×Hp×Nat,(Ext H nx r.2.1 r.2.2/\QI r.2.1 r.2.2 r.1 (beyX x b m0))/\Fin F175.res r e st):=by
  refine Wp.seq ?_;refine Wp.rgn (K:=0) (s':=⟨[(1,.nI b),(2,.nI m0),(3,.ref (4*nx) 0 0 0),(6,.iv (.nsl 1))],H1,nx+2⟩) (fun n _=>by
   rw[<-hH1];simp[hfr]) ?_
  refine Wp.seq (Wp.seq ?_);unfold beyX;generalize linkX x b m0=q at *;refine Wp.rgn (K:=K1) (s':=⟨[(1,.nI b),(2,.nI m0),(3,.ref (4*nx) 0 0 0),(6,.iv (.nsl 1)),(13,.bI (!q))],H1,nx+8⟩) (fun n hn=>by
   obtain⟨c1,c2⟩:=hK1 n hn H1;simp[hg1,hd_take,hd_len,c1,c2]) ?_
  refine Wp.cond rfl ?_;cases q with
  |false=>
   simp only[Bool.not_false,if_true];refine Wp.seq ?_;refine Wp.rg ?_;exact Wp.ret ⟨(_,_,_),⟨hE1.up (show nx+2<=nx+8+1 by omega),QE.nil _ _ _⟩,rfl,rfl⟩
  |true=>
   simp only[Bool.not_true,Bool.false_eq_true,if_false,if_true];refine Wp.skip ?_;simp only[Ex.then];refine Wp.seq (Wp.seq ?_);generalize sizeH x=N at *;refine Wp.rgn (K:=K2) (s':=⟨[(1,.nI b),(2,.nI m0),(3,.ref (4*nx) 0 0 0),(6,.iv (.nsl 1)),(15,.nI N),(16,.nI 0)],H1,nx+11⟩) (fun n hn=>by
    have c:=hK2 n hn H1;simp[hg1,hd_take,hd_len,c]) ?_
   refine Wp.block ?_;refine Wp.loop (fun m s1=>∃(t n2:Nat) (y:AV) (H2:Hp),t+m=N/\Ext H nx H2 n2/\get H2 (4*nx)=some (.cells (hdC x))/\QI H2 n2 y (beyTo x b m0 t)/\(∀k o n w,y = .own k o n w->4*nx<k)/\
    s1=⟨[(1,.nI b),(2,.nI m0),(3,.ref (4*nx) 0 0 0),(6,y),(15,.nI N),(16,.nI t)],H2,n2⟩) (m:=N)
    ⟨0,nx+11,_,H1,by omega,hE1.up (by omega),hg1,QE.nil _ _ _,(fun k o n w h=>by cases h),by simp[fr_cons,keepFr]⟩ ?_
   rintro m s1 ⟨t,n2,y,H2,htm,hE2,hg2,hy,hyo,rfl⟩;refine Wp.seq ?_;by_cases ht:t<N
   ·have hwt:IntKind.i64.wrap ((t:Int)+1)=((t+1:Nat):Int):=by rw[IntWalk.i64_in _ (by omega)];omega
    obtain⟨H3,n3,hE3,K,hK⟩:=ev178 (p1:=p1) hp2 L x hp hh b t H2 (n2+3+6) (fun k hk=>hE2.fresh k (by omega));have hE23:Ext H nx H3 n3:=hE2.trans ⟨by have:=hE3.le;omega,hE3.fresh,fun k hk=>hE3.old k (by omega)⟩;have hg3:get H3 (4*nx)=some (.cells (hdC x)):=by rw[hE3.old _ (by have:=hE2.le;omega)];exact hg2
    have hy3:QI H3 n3 y (beyTo x b m0 t):=hy.mono (by have:=hE3.le;omega) fun k hk=>hE3.old k (by omega)
    have hnext:beyTo x b m0 (t+1)=beyTo x b m0 t++if hopX x b t==m0 then[(t:Int)] else[]:=rfl
    have hbl:=beyTo_len x b m0 t;generalize beyTo x b m0 t=l at *;generalize hopX x b t=hq at *;refine Wp.rgn (K:=0) (fun n _=>by simp[ht];rfl) ?_;refine Wp.seq (Wp.cond (t:=true) rfl (Wp.skip (Wp.seq (Wp.block (Wp.seq ?_)))));refine Wp.rgn (K:=0) (s':=⟨[(1,.nI b),(2,.nI m0),(3,.ref (4*nx) 0 0 0),(6,y),(7,.nI t),(15,.nI N),(16,.nI t)],H2,n2+3⟩) (fun n _=>by simp) ?_;refine Wp.seq ?_;refine Wp.rgn (K:=K) (s':=⟨[(1,.nI b),(2,.nI m0),(3,.ref (4*nx) 0 0 0),(6,y),(7,.nI t),(15,.nI N),(16,.nI t),(24,.bI (hq==m0))],H3,n3⟩) (fun n hn=>by
     have c:=hK n hn;simp[hg2,hd_take,hd_len,c]) ?_
    refine Wp.cond rfl ?_;cases hb:hq==m0 with
    |true=>
     rw[hb]at hnext;simp only[if_true]at hnext ⊢;have hfg:get H3 (4*(n3+2))=none:=hE23.fresh _ (by omega);have hfs:get (Arx.set H3 (4*(n3+2)) (.buf 0 1 [numC t])) (4*(n3+3))=none:=by rw[get_set_ne _ _ (by omega)];exact hE23.fresh _ (by omega)
     have hy4:QE 1 (Arx.set H3 (4*(n3+2)) (.buf 0 1 [numC t])) n3 y (l.map numC):=hy3.mono (Nat.le_refl _) fun k hk=>get_set_ne _ _ (by omega)
     obtain⟨y',H4,hrun,hq4,hold4,hown4⟩:=hy4.push (numC t) (g:=4*(n3+2)) (slot:=n3+3) (get_set_same _ _ _) (by omega) (by omega) hfs (by rw[List.length_map];omega);refine Wp.rgn (K:=0) (s':=⟨[(1,.nI b),(2,.nI m0),(3,.ref (4*nx) 0 0 0),(6,y'),(15,.nI N),(16,.nI t)],H4,n3+5⟩) (fun n _=>by
      simp only[numC]at hrun;simp[hfg,setAll,Nat.add_assoc,hrun]) ?_
     simp only[Ex.then,Ex.inBlock];refine Wp.rgn (K:=0) (fun n _=>by simp[hwt];rfl) ?_;have hn3:=hE23.le;have hoo:∀k,(∀o n w,y≠.own k o n w)->k≠4*(n3+3)->k≠4*(n3+2)->get H4 k=get H3 k:=fun k h1 h2 h3=>by rw[hold4 k h1 h2,get_set_ne _ _ (Ne.symm h3)]
     refine⟨m - 1,by omega,t+1,n3+5+2,y',H4,by omega,⟨by omega,fun k hk=>?_,fun k hk=>?_⟩,?_,?_,?_,by simp[fr_cons,keepFr]⟩
     ·rw[hoo k (fun o n w e=>?_) (by omega) (by omega)]
      ·exact hE23.fresh k (by omega)
      ·rcases hy3 with⟨rfl, -⟩|⟨id,v,i1, -,rfl, -⟩
       ·cases e
       ·cases e;omega
     ·rw[hoo k (fun o n w e=>by have:=hyo _ _ _ _ e;omega) (by omega) (by omega)];exact hE23.old k hk
     ·rw[hoo _ (fun o n w e=>by have:=hyo _ _ _ _ e;omega) (by omega) (by omega)];exact hg3
     ·rw[hnext];unfold QI;rw[List.map_append];exact hq4 _ (by omega)
     ·intro k o n w e;rcases hown4 k o n w e with h | ⟨o',n',w',h⟩
      ·omega
      ·exact hyo _ _ _ _ h
    |false=>
     rw[hb]at hnext;simp only[Bool.false_eq_true,if_false,List.append_nil]at hnext ⊢;refine Wp.skip ?_;simp only[Ex.then,Ex.inBlock];refine Wp.rgn (K:=0) (fun n _=>by simp[hwt];rfl) ?_;refine⟨m - 1,by omega,t+1,_,y,H3,by omega,hE23.up (show n3<=n3+2 by omega),hg3,?_,hyo,by simp[fr_cons,keepFr]⟩;rw[hnext];exact hy3.mono (by show n3<=n3+2;omega) fun _ _=>rfl
   ·obtain rfl:t=N:=by omega
    refine Wp.rg ?_;refine Wp.seq (Wp.cond (t:=false) rfl (Wp.exit ?_));simp only[Ex.then,Ex.inBlock,if_true];refine Wp.seq ?_;refine Wp.rg ?_;exact Wp.ret ⟨(y,H2,n2+1+2),⟨hE2.up (show n2<=n2+1+2 by omega),hy.mono (by show n2<=n2+1+2;omega) fun _ _=>rfl⟩,rfl,rfl⟩
 obtain⟨⟨y,H',nx'⟩,⟨h1,h2⟩,h4⟩:=Ev.ofx hp2 L.h175 rfl rfl _ key;exact⟨H',nx',y,h1,h2,h4⟩
end
def awayX (h:Hd) (b n z:Int):Bool:=linkX h b n&&!(beyX h b n).any fun p=>z==p
theorem beyX_len (h:Hd) (b n:Int) (hp:h.ps.length<=100):(beyX h b n).length<=101:=by
 unfold beyX;split
 ·have:=beyTo_len h b n (sizeH h);have:=sizeH_le h hp;omega
 ·simp
section
variable {p1:Nat->Option Arb.IFn} {p2:Nat->Option IFn}
theorem ev182 (hp2:PrimsLe p2) (L:LibW p1 p2) (x:Hd) (hp:x.ps.length<=100) (hh:x.hs.length<=100) (b m0:Int) (lid:Nat) (rest:List AV) (H:Hp) (nx:Nat) (hg:get H lid=some (.cells (hdC x++rest))) :
  Ev p1 p2 182 [.ref lid 0 0 0,.nI b,.nI m0] H nx (.bI (linkX x b m0),H,nx+10):=by
 obtain⟨K1,hK1⟩:=callLink L x b m0 hp hh;refine Ev.of hp2 L.h182 rfl rfl ?_;refine Wp.seq ?_;refine Wp.rg ?_;refine Wp.seq ?_;generalize linkX x b m0=q at *;have htk:(hdC x++rest).take 4=hdC x:=by rw[List.take_append_of_le_length (by rw[hd_len];exact Nat.le_refl _)];exact hd_take x
 refine Wp.rgn (K:=K1) (s':=⟨[(6,.bI q)],H,nx+10⟩) (fun n hn=>by
  obtain⟨c1,c2⟩:=hK1 n hn H;generalize hdC x++rest=cs at *;simp[hg,htk,hd_len,c1,c2]) ?_
 exact Wp.ret ⟨rfl,rfl⟩
theorem callCont (L:LibW p1 p2) (l:List Int) (v:Int) (hl:l.length<=1000):∃K,∀m,K<=m->∀(H:Hp) (n:Nat) (y:AV),QI H n y l->(callM (one p1 m) (.iv (.fn 145 [])) [y,.nI v]).run H=some (.bI (l.any fun p=>v==p),H):=by
 obtain⟨K2,hK2⟩:=x_contI L.T.h152 L.T.h145 l v (by unfold maxLen;omega);refine⟨K2,fun m hm H n y hy=>?_⟩;have e2:(one p1 m 145 [.iv (.sl 1 (l.map num1)),.nI v] []).bind shut=some (.bI (l.any fun p=>v==p)):=hK2 m (by omega);have hz:=hy.fz0;have hi2:fz1 false (.nI v) = .ret (.nI v):=rfl;generalize(l.any fun p=>v==p)=q at *;simp[callM,callee,M.run_bind,M.lift,M.run,M.mapL,hz,hi2,e2,ofA,of1,M.ok,flat,flat1,flat0,flatI,M.bind]
set_option maxHeartbeats 1000000 in
theorem ev181 (hp2:PrimsLe p2) (L:LibW p1 p2) (x:Hd) (hp:x.ps.length<=100) (hh:x.hs.length<=100) (b m0 z:Int) (lid:Nat) (rest:List AV) (H:Hp) (nx:Nat) (hf:Fresh H nx) (hg:get H lid=some (.cells (hdC x++rest))) :
  ∃H' nx',Ext H nx H' nx'/\Ev p1 p2 181 [.ref lid 0 0 0,.nI b,.nI m0,.nI z] H nx (.bI (awayX x b m0 z),H',nx'):=by
 have htk:(hdC x++rest).take 4=hdC x:=by rw[List.take_append_of_le_length (by rw[hd_len];exact Nat.le_refl _)];exact hd_take x
 have hfr:∀k,Fresh H (nx+k):=fun k j hj=>hf j (by omega)
 obtain⟨K1,hK1⟩:=ev182 (p1:=p1) hp2 L x hp hh b m0 lid rest H (nx+1+17) hg;obtain⟨H2,n2,y,hE2,hy,K2,hK2⟩:=ev175 (p1:=p1) hp2 L x hp hh b m0 H (nx+1+17+10) (by exact hfr 28);have hbl:=beyX_len x b m0 hp;obtain⟨K3,hK3⟩:=callCont (p1:=p1) L (beyX x b m0) z (by omega);have key:Wp p1 p2 F181.body ⟨params [.ref lid 0 0 0,.nI b,.nI m0,.nI z] 0,H,nx⟩ (fun e st=>∃r:AV×Hp×Nat,(r.1 = .bI (awayX x b m0 z)/\Ext H nx r.2.1 r.2.2)/\Fin F181.res r e st):=by
  refine Wp.seq ?_;refine Wp.rg ?_;refine Wp.seq ?_;unfold awayX;generalize linkX x b m0=q at *;generalize beyX x b m0=l at *;cases q with
  |false=>
   refine Wp.rgn (K:=K1) (s':=⟨[(8,.bI false)],H,nx+1+17+10⟩) (fun n hn=>by
    have c:=hK1 n hn;simp[c]) ?_
   exact Wp.ret ⟨(_,_,_),⟨rfl,(Ext.refl hf (show nx<=nx+1+17+10 by omega))⟩,rfl,rfl⟩
  |true=>
   have hy0:QI H2 n2 y l:=hy;refine Wp.rgn (K:=max K1 (max K2 K3)) (s':=⟨[(8,.bI (!l.any fun p=>z==p))],H2,n2⟩) (fun n hn=>by
    have c:=hK1 n (by omega);have c2:=hK2 n (by omega);have c3:=hK3 n (by omega) H2 n2 y hy0;generalize hdC x++rest=cs at *;simp[c,hg,htk,hd_len,c2,c3]) ?_
   exact Wp.ret ⟨(_,_,_),⟨by simp,⟨by have:=hE2.le;show nx<=n2;omega,hE2.fresh,fun k hk=>hE2.old k (by omega)⟩⟩,rfl,rfl⟩
 obtain⟨⟨y,H',nx'⟩,⟨rfl,h1⟩,h4⟩:=Ev.ofx hp2 L.h181 rfl rfl _ key;exact⟨H',nx',h1,h4⟩
end
end Arx

/-
  A part of the proof of the statement that the last text of this claim holds: two abstract machines for the code, proved sound once, and what the program does on them. No condition.
-/
import Derived.Test.YtolpagjajaknbaaGreatArbD
set_option linter.all false
namespace Arx
open Go Arb
attribute [local simp] evalRgn Option.map_some evalOps step wants isS osem Mrun_bindZ M.mapL M.run M.ok M.fresh M.write M.look M.lift putD ev fr_cons fr_nil keepFr lset_nil lset_cons get_set_same bin binM intBin strBin mk params cellsM load obRead fadr fld isl iarr xarr idx len valid slc rowLen bound store splice un callee Option.bind_some M.bind putAll
theorem allXL_all:∀l:List Xp,allXL l=l.all allX
 |[]=>by unfold allXL;rfl
 |x::l=>by unfold allXL;rw[List.all_cons,allXL_all l]
def sizeX (x:Xp):Int×Int:=if(meas 8 x 0).2.2 then((meas 8 x 0).1,(meas 8 x 0).2.1) else(0,0)
def rightX (x:Xp):Bool:=decide (0<(sizeX x).1)&&allX x
structure LibX (p1:Nat->Option Arb.IFn) (p2:Nat->Option IFn):Prop where
 h17:p1 17=some Arb.F17
 h32:p1 32=some Arb.F32
 h33:p1 33=some Arb.F33
 h58:p1 58=some Arb.F58
 h24:p1 24=some Arb.F24
 h192:p2 192=some F192
 h191:p2 191=some F191
 h190:p2 190=some F190
 h189:p2 189=some F189
 h186:p2 186=some F186
section
variable {p1:Nat->Option Arb.IFn} {p2:Nat->Option IFn}
set_option maxHeartbeats 1000000 in
theorem ev189 (hp2:PrimsLe p2) (L:LibX p1 p2) {x:Xp} (hx:x.ok):∀(v:AV) (H:Hp) (nx:Nat),PY H v x->∃nx',nx<=nx'/\Ev p1 p2 189 [v] H nx (.bI (allX x),H,nx'):=by
 have hx0:=hx
 induction hx with
 |@mk k a s sub hk ha hs hl hsub ih=>
  intro v H nx hv;have h1:∀n,∃nx',n<=nx'/\Ev p1 p2 192 [v] H n (.bI (oneX (Xp.mk k a s sub)),H,nx'):=λn=>ev192 hp2 L.h17 L.h32 L.h33 L.h58 L.h24 L.h192 hx0 v H n hv
  generalize hX:Xp.mk k a s sub=X at hv h1;have hall:allX X=(allXL sub&&oneX X):=by rw[<-hX];conv=>lhs;unfold allX
  have key:Wp p1 p2 F189.body ⟨params [v] 0,H,nx⟩ (λe st=>∃r:AV×Hp×Nat,(r.1 = .bI (allX X)/\nx<=r.2.2/\r.2.1=H)/\Fin F189.res r e st):=by
   refine WpsgZ ?_;refine ab (Wps0Z (s':=⟨[(0,v),(8,.nI sub.length),(9,.nI 0)],H,nx+7⟩) (by
    subst hX;rcases hv with rfl | ⟨id,rfl,h3⟩
    ·simp[Xp.enc,Xp.encs_map]
    ·simp[h3,Xp.enc,Xp.encs_map]) ?_)
   refine WpblockZ ?_;refine WploopZ (λm s1=>∃(i n2:Nat),i+m=sub.length/\allXL (sub.drop i)=allXL sub/\nx<=n2/\s1=⟨[(0,v),(8,.nI sub.length),(9,.nI i)],H,n2⟩) (m:=sub.length) ⟨0,nx+7,by omega,rfl,by omega,rfl⟩ ?_;rintro m s1 ⟨i,n2,him,hd,hn2,rfl⟩;refine ab ?_;by_cases hi:i<sub.length
   ·have hx:sub[i]?=some sub[i]:=List.getElem?_eq_getElem hi;have hdr:sub.drop i=sub[i]::sub.drop (i+1):=List.drop_eq_getElem_cons hi;have hwi:IntKind.i64.wrap ((i:Int)+1)=(i:Int)+1:=wrap_succ hi hl;obtain⟨n3,hn3,K,hK⟩:=ih sub[i] (List.getElem_mem _) (hsub _ (List.getElem_mem _)) (.iv (.ptr (sub[i]).enc)) H (n2+3+8) (.inl rfl);rw[hdr]at hd
    conv at hd=>lhs;unfold allXL
    generalize allX sub[i]=b at hd hK;refine Wpr0Z (by simp[hi];rfl) ?_;refine ab (WpcondZ (t:=true) rfl (WpskipZ (ab (WpblockZ (Wps0Z (by simp;rfl) ?_)))));refine WpskZ (K:=K) (s':=⟨[(0,v),(8,.nI sub.length),(9,.nI i),(19,.bI !b)],H,n3⟩) (λn hn=>by
     have hc:=hK n hn;subst hX;rcases hv with rfl | ⟨id,rfl,h3⟩
     ·simp[Xp.enc,Xp.encs_map,hx,hc]
     ·simp[h3,Xp.enc,Xp.encs_map,hx,hc]) ?_
    refine WpcondZ rfl ?_;cases b with
    |false=>
     refine WpsgZ ?_;refine WpretZ ?_;rw[hall,<-hd];exact⟨(_,_,_),⟨rfl,show nx<=n3+1 by omega,rfl⟩,rfl,rfl⟩
    |true=>
     refine WpskipZ ?_;simp only[Ex.then,Ex.inBlock];refine Wpr0Z (by simp[hwi];rfl) ?_;refine⟨m - 1,by omega,i+1,n3+2,by omega,by simpa using hd,by omega,by simp[fr_cons,keepFr]⟩
   ·have hdr:sub.drop i=[]:=List.drop_eq_nil_of_le (by omega);rw[hdr]at hd
    conv at hd=>lhs;unfold allXL
    refine Wpr0Z (by simp[hi];rfl) ?_;refine ab (WpcondZ (t:=false) rfl (WpexitZ ?_));simp only[Ex.then,Ex.inBlock,if_true];refine ab ?_;obtain⟨n3,hn3,K,hK⟩:=h1 (n2+1+3);refine WprgnZ (K:=K) (λn hn=>by
     have hc:=hK n hn;simp[hc];rfl) ?_
    refine WpretZ ?_;rw[hall,<-hd];exact⟨(_,_,_),⟨rfl,show nx<=n3 by omega,rfl⟩,rfl,rfl⟩
  obtain⟨⟨y,H',nx'⟩,⟨rfl,q1,rfl⟩,h4⟩:=Ev.ofx hp2 L.h189 rfl rfl _ key;exact⟨nx',q1,h4⟩
theorem ev190 (hp2:PrimsLe p2) (L:LibX p1 p2) {x:Xp} (hx:x.ok) (H:Hp) (nx:Nat) (hf:Fresh H nx):∃H' nx',Ext H nx H' nx'/\Ev p1 p2 190 [.agg (x.enc.map .iv)] H nx (.tup [.iv (.int .i64 (sizeX x).1),.iv (.int .i64 (sizeX x).2)],H',nx'):=by
 have f0:=hf (4*nx) (by omega);have f1:=hf (4*(nx+1)) (by omega);have g0:get (Arx.set (Arx.set H (4*nx) (Ob.cells (x.enc.map .iv))) (4*(nx+1)) (Ob.cells [.nI 0])) (4*nx)=some (.cells (x.enc.map .iv)):=by rw[get_set_ne _ _ (by omega),get_set_same]
 obtain⟨H',n',hn',hpid,hold,K,hK⟩:=ev191 (p1:=p1) hp2 L.h191 hx 8 0 (.ref (4*nx) 0 0 0) (Arx.set (Arx.set H (4*nx) (.cells (x.enc.map .iv))) (4*(nx+1)) (.cells [.nI 0])) (nx+3+6) (4*(nx+1))
  (by omega) (by omega) (by omega) (.inr ⟨4*nx,rfl,g0,by omega⟩) (get_set_same _ _ _)
 have hext:∀(o:Ob) (n2:Nat),n'<=n2->Ext H nx (Arx.set H' (4*(nx+1)) o) n2:=λo n2 h2=>⟨by omega,λk hk=>by
  rw[get_set_ne _ _ (by omega),hold k (by omega),get_set_ne _ _ (by omega),get_set_ne _ _ (by omega)];exact hf k (by omega),λk hk=>by
  rw[get_set_ne _ _ (by omega),hold k (by omega),get_set_ne _ _ (by omega),get_set_ne _ _ (by omega)]⟩
 have key:Wp p1 p2 F190.body ⟨params [.agg (x.enc.map .iv)] 0,H,nx⟩ (λe st=>∃r:AV×Hp×Nat,(r.1 = .tup [.iv (.int .i64 (sizeX x).1),.iv (.int .i64 (sizeX x).2)]/\Ext H nx r.2.1 r.2.2)/\Fin F190.res r e st):=by
  refine WpskZ (K:=0) (λn _=>by
   have f2:get (Arx.set H (4*nx) (Ob.cells (x.enc.map AV.iv))) (4*(nx+1))=none:=by rw[get_set_ne _ _ (by omega)];exact f1
   simp[f0,f2];rfl) ?_
  refine ab ?_;unfold sizeX;generalize hr:meas 8 x 0=r at hK hpid;obtain⟨q,d,ok⟩:=r;refine WprgnZ (K:=K) (λn hn=>by
   have hc:=hK n hn;simp only[show((8:Nat):Int)=8 from rfl]at hc;simp[hc];rfl) ?_
  refine ab (WpsgZ ?_);refine WpcondZ rfl ?_;cases ok with
  |false=>
   refine Wps0Z (by simp[hpid];rfl) ?_;refine WpretZ ⟨(_,_,_),⟨rfl,hext (.cells [.nI 0]) (n'+2+2) (by omega)⟩,?_,rfl⟩;simp[F190,resAll,resM,load,obRead,mk,ev,fr_cons,fr_nil,M.look,M.bind,M.run,Mrun_bindZ,M.ok,M.lift,M.mapL,get_set_same]
  |true=>
   refine WpskipZ ?_;simp only[Ex.then];refine Wps0Z (by simp[hpid];rfl) ?_;refine WpretZ ⟨(_,_,_),⟨rfl,hext (.cells [.nI q]) (n'+2+4) (by omega)⟩,?_,rfl⟩;simp[F190,resAll,resM,load,obRead,mk,ev,fr_cons,fr_nil,M.look,M.bind,M.run,Mrun_bindZ,M.ok,M.lift,M.mapL,get_set_same]
 obtain⟨⟨y,H',nx'⟩,⟨rfl,h1⟩,h4⟩:=Ev.ofx hp2 L.h190 rfl rfl _ key;exact⟨H',nx',h1,h4⟩
theorem ev186 (hp2:PrimsLe p2) (L:LibX p1 p2) {x:Xp} (hx:x.ok) (H:Hp) (nx:Nat) (hf:Fresh H nx):∃H' nx',Ext H nx H' nx'/\Ev p1 p2 186 [.agg (x.enc.map .iv)] H nx (.bI (rightX x),H',nx'):=by
 have f0:=hf (4*nx) (by omega);have hf1:Fresh (Arx.set H (4*nx) (.cells (x.enc.map .iv))) (nx+2):=λk hk=>by rw[get_set_ne _ _ (by omega)];exact hf k (by omega)
 obtain⟨H',n',hE,K,hK⟩:=ev190 (p1:=p1) hp2 L hx (Arx.set H (4*nx) (.cells (x.enc.map .iv))) (nx+2+7) (λk hk=>hf1 k (by omega));have hg:get H' (4*nx)=some (.cells (x.enc.map .iv)):=by rw[hE.old _ (by omega)];exact get_set_same _ _ _
 obtain⟨n3,hn3,K2,hK2⟩:=ev189 (p1:=p1) hp2 L hx (.ref (4*nx) 0 0 0) H' (n'+6) (.inr ⟨4*nx,rfl,hg⟩);have hext:∀n2,n'<=n2->Ext H nx H' n2:=λn2 h2=>⟨by have:=hE.le;omega,λk hk=>hE.fresh k (by omega),λk hk=>by rw[hE.old _ (by omega)];exact get_set_ne _ _ (by omega)⟩
 have key:Wp p1 p2 F186.body ⟨params [.agg (x.enc.map .iv)] 0,H,nx⟩ (λe st=>∃r:AV×Hp×Nat,(r.1 = .bI (rightX x)/\Ext H nx r.2.1 r.2.2)/\Fin F186.res r e st):=by
  have hlen:(x.enc.map AV.iv).length=7:=by rw[List.length_map];exact x.len_enc
  have htk:(x.enc.map AV.iv).take 7=x.enc.map AV.iv:=List.take_of_length_le (by omega);refine Wps0Z (by simp[f0];rfl) ?_;refine ab ?_;unfold rightX;generalize sizeX x=r at hK;obtain⟨q,d⟩:=r;generalize hcs:x.enc.map AV.iv=cs at hlen htk hK;refine WprgnZ (K:=K) (λn hn=>by
   have hc:=hK n hn;simp[hlen,htk,hc];rfl) ?_
  refine ab ?_;cases hq:decide (0<q)with
  |false=>
   refine Wpr0Z (by simp[hq];rfl) ?_;exact WpretZ ⟨(_,_,_),⟨rfl,hext (n'+6) (by omega)⟩,rfl,rfl⟩
  |true=>
   refine WprgnZ (K:=K2) (λn hn=>by
    have hc:=hK2 n hn;simp[hq,hc];rfl) ?_
   exact WpretZ ⟨(_,_,_),⟨rfl,hext n3 (by omega)⟩,rfl,rfl⟩
 obtain⟨⟨y,H',nx'⟩,⟨rfl,h1⟩,h4⟩:=Ev.ofx hp2 L.h186 rfl rfl _ key;exact⟨H',nx',h1,h4⟩
end
end Arx
namespace Arb
open Go
theorem hasI_iff {l:List (Int×Int)} {n:Int}:hasI l n=true↔inR l n:=by
 simp[hasI,inR]
theorem or_hasV (x y:S) (v:V) (h:∀n,inR (orS x y).i n↔inR x.i n\/inR y.i n):hasV (orS x y) v=(hasV x v||hasV y v):=by
 unfold hasV;split
 ·rfl
 ·split
  ·rfl
  ·split
   ·rw[Bool.eq_iff_iff,Bool.or_eq_true,hasI_iff,hasI_iff,hasI_iff];exact h _
   ·exact or_str x y v.s
def E.ok (e:E):Prop:=∀i,i<4->in64 (e.get i).n

end Arb
namespace Arb
open Go
attribute [local simp] evalRgn Option.map_some evalOps step wants osem Mrun_bindZ M.mapL M.run M.ok M.fresh M.write M.look M.lift putD Arb.set ev Arb.get keepFr bin intBin strBin mk params cellsM load obRead fadr fld isl iarr xarr idx len valid slc bound store splice nilc un eqs eq0 evalFeet footOf M.foot orderOk apartAll apart1 clash meets callM fcallM callee fz1 fzC fz flat flat1 flat0 flatI Option.bind_some putAll M.bind
section
variable {prog:Nat->Option IFn}
end
section
variable {prog:Nat->Option IFn}
end
def badQ (l:List (Int×Int)):Nat->Bool
 |0=>match l[0]? with
  |some r=>decide (r.2<r.1)
  |none=>false
 |j+1=>match l[j+1]?,l[j]? with
  |some r,some p=>decide (r.2<r.1)||(decide (r.1<=p.2)||decide (r.1<=IntKind.wrap .i64 (p.2+1)))
  |_,_=>false
theorem badQ_eq {l:List (Int×Int)} (h:in64s l):∀i,badQ l i=badR l i
 |0=>rfl
 |j+1=>by
  cases hr:l[j+1]? with
  |none=>simp only[badQ,badR,hr]
  |some r=>
   cases hp:l[j]? with
   |none=>simp only[badQ,badR,hr,hp]
   |some p=>
    have h1:=h p (List.mem_of_getElem? hp);have h2:=h r (List.mem_of_getElem? hr);unfold in64 at h1 h2;simp only[badQ,badR,hr,hp];cases hd:decide (r.1<=p.2)with
    |true=>simp
    |false=>
     have hd:=of_decide_eq_false hd;rw[IntWalk.i64_in (p.2+1) (by omega),IntWalk.i64_in (r.1 - 1) (by omega)];rw[show(decide (r.1<=p.2+1))=(r.1 - 1==p.2) by rw[Bool.eq_iff_iff];simp;omega]
section
variable {prog:Nat->Option IFn}
theorem p_smallS3 (h:prog 106=some F106) (x:S):Ans prog 106 [x.av] (.bI (smallS x)):=by
 refine Ans.of h rfl rfl (Wps0Z (by simp[S.av];rfl) ?_);refine Wps0Z (s':=⟨[(2,.bI (smallS x))],[(1000,.cells [.bI x.a,.iv (.sl 2 (x.i.map rng)),.bI x.c,.iv (.sl 1 (x.s.map st1))])],1832⟩) (by
  have e1:decide ((x.i.length:Int)<=6)=decide (x.i.length<=6):=decide_eq_decide.2 (by omega);have e2:decide ((x.s.length:Int)<=6)=decide (x.s.length<=6):=decide_eq_decide.2 (by omega);unfold smallS;cases h1:decide (x.i.length<=6)<;>simp[e1,e2,h1]) ?_
 exact WpretZ rfl
theorem p_emptyS3 (h:prog 108=some F108) (x:S):Ans prog 108 [x.av] (.bI (emptyS x)):=by
 refine Ans.of h rfl rfl (Wps0Z (by simp[S.av];rfl) ?_);refine Wps0Z (s':=⟨[(2,.bI (emptyS x))],[(1000,.cells [.bI x.a,.iv (.sl 2 (x.i.map rng)),.bI x.c,.iv (.sl 1 (x.s.map st1))])],2472⟩) (by
  have e1:((x.i.length:Int)==0)=(x.i.length==0):=by rw[Bool.eq_iff_iff];simp
  have e2:((x.s.length:Int)==0)=(x.s.length==0):=by rw[Bool.eq_iff_iff];simp
  cases b0:x.a<;>cases b1:x.i.length==0<;>cases b2:x.c<;>simp[emptyS,e1,e2,b0,b1,b2]) ?_
 exact WpretZ rfl
theorem rightS_badR {x:S} {i:Nat} (hi:i<x.i.length) (h:badR x.i i=true):rightS x=false:=by
 unfold rightS;rw[Bool.and_eq_false_iff];left;rw[List.all_eq_false];exact⟨i,List.mem_range.2 hi,by simp[h]⟩
theorem rightS_badT {x:S} {i:Nat} (hi:i<x.s.length) (h:badT x.s i=true):rightS x=false:=by
 unfold rightS;rw[Bool.and_eq_false_iff];right;rw[List.all_eq_false];exact⟨i,List.mem_range.2 hi,by simp[h]⟩
theorem rightS_none {x:S} (h1:∀i,i<x.i.length->badR x.i i=false) (h2:∀i,i<x.s.length->badT x.s i=false):rightS x=true:=by
 unfold rightS;simp only[Bool.and_eq_true,List.all_eq_true,List.mem_range,Bool.not_eq_true'];exact⟨h1,h2⟩
set_option maxHeartbeats 4000000 in
theorem p_rightS3 (h:prog 105=some F105) (x:S) (hx:x.ok):Ans prog 105 [x.av] (.bI (rightS x)):=by
 have hb:∀i,badQ x.i i=badR x.i i:=badQ_eq hx.ri;have li:=hx.li;have ls:=hx.ls;unfold maxLen at li ls;refine Ans.of h rfl rfl (Wps0Z (by simp[S.av];rfl) ?_);refine ab (WpsgZ ?_);refine WpblockZ ?_;refine WprangeZ x.i.length (λi=>⟨[(1,.ref 1000 0 0 0),(3,.nI i)],[(1000,.cells [.bI x.a,.iv (.sl 2 (x.i.map rng)),.bI x.c,.iv (.sl 1 (x.s.map st1))])],1192⟩) (λi=>∀j,j<i->badR x.i j=false) rfl (λj hj=>absurd hj (Nat.not_lt_zero _)) ?_ ?_
 ·intro i hi hg;have hi':(i:Int)<x.i.length:=by omega
  obtain⟨r,hr⟩:∃r,x.i[i]?=some r:=⟨_,List.getElem?_eq_getElem hi⟩;refine ab (Wps0Z (by simp[hi];rfl) ?_);refine WpcondZ rfl (WpskipZ (ab (WpblockZ (Wps0Z (by simp[hr,rng];rfl) ?_))));refine ab (WpsgZ ?_);refine WpcondZ rfl ?_;cases hd:decide (r.2<r.1)with
  |true=>
   refine WpsgZ ?_;refine WpretZ ?_;have hbad:badR x.i i=true:=by
    rw[<-hb];cases i with
    |zero=>simp[badQ,hr,of_decide_eq_true hd]
    |succ j=>
     obtain⟨p,hp⟩:∃p,x.i[j]?=some p:=⟨_,List.getElem?_eq_getElem (by omega)⟩;simp[badQ,hr,hp,of_decide_eq_true hd]
   rw[rightS_badR hi hbad];rfl
  |false=>
   refine WpskipZ (ab ?_);refine WprgnZ (K:=0) (s':=⟨[(1,.ref 1000 0 0 0),(3,.nI i),(49,.bI (badQ x.i i))],[(1000,.cells [.bI x.a,.iv (.sl 2 (x.i.map rng)),.bI x.c,.iv (.sl 1 (x.s.map st1))]),(1832,.cells [.nI r.1,.nI r.2])],4008⟩) (λn _=>rgn_quiet' rfl (by
    cases i with
    |zero=>simp[badQ,hr,hd]
    |succ j=>
     obtain⟨p,hp⟩:∃p,x.i[j]?=some p:=⟨_,List.getElem?_eq_getElem (by omega)⟩;have hp':x.i[j]'(by omega)=p:=(List.getElem?_eq_some_iff.1 hp).2;have hm1:(0:Int)<(j:Int)+1:=by omega
     have hm0:(0:Int)<=(j:Int)+1:=by omega
     have hm2:IntKind.wrap .i64 ((j:Int))=(j:Int):=IntWalk.i64_in _ (by omega);have hm3:j<x.i.length:=by omega
     cases h1:decide (r.1<=p.2)<;>simp[badQ,hr,hd,hp',hm1,hm2,hm3,rng,h1])) ?_
   refine WpcondZ rfl ?_;rw[hb];cases hbd:badR x.i i with
   |true=>
    refine WpsgZ ?_;refine WpretZ ?_;rw[rightS_badR hi hbd];rfl
   |false=>
    refine WpskipZ ?_;refine WprgZ ?_;refine⟨by simp[again,keepFr,get,nrmO,nrm,wrap_succ hi hx.li],λj hj=>?_⟩;by_cases hji:j=i
    ·rw[hji];exact hbd
    ·exact hg j (by omega)
 ·intro hg;refine ab (WpsgZ ?_);refine WpcondZ rfl (WpexitZ ?_);simp only[Ex.then,Ex.inBlock,if_true];refine ab (WpsgZ ?_);refine WpblockZ ?_;refine WprangeZ x.s.length (λi=>⟨[(1,.ref 1000 0 0 0),(5,.nI i)],[(1000,.cells [.bI x.a,.iv (.sl 2 (x.i.map rng)),.bI x.c,.iv (.sl 1 (x.s.map st1))])],1576⟩) (λi=>∀j,j<i->badT x.s j=false) rfl (λj hj=>absurd hj (Nat.not_lt_zero _)) ?_ ?_
  ·intro i hi hgt;have hi':(i:Int)<x.s.length:=by omega
   obtain⟨r,hr⟩:∃r,x.s[i]?=some r:=⟨_,List.getElem?_eq_getElem hi⟩;have hr':x.s[i]'(by omega)=r:=(List.getElem?_eq_some_iff.1 hr).2;have he:decide ((8:Int)<r.size)=decide (8<r.size):=decide_eq_decide.2 (by omega);refine ab (Wps0Z (by simp[hi];rfl) ?_);refine WpcondZ rfl (WpskipZ (ab (WpblockZ (ab ?_))));refine WprgnZ (K:=0) (s':=⟨[(1,.ref 1000 0 0 0),(5,.nI i),(81,.bI (badT x.s i))],[(1000,.cells [.bI x.a,.iv (.sl 2 (x.i.map rng)),.bI x.c,.iv (.sl 1 (x.s.map st1))])],3496⟩) (λn _=>rgn_quiet' rfl (by
    cases i with
    |zero=>cases h1:decide (8<r.size)<;>simp[badT,hr,he,h1,st1]
    |succ j=>
     obtain⟨p,hp⟩:∃p,x.s[j]?=some p:=⟨_,List.getElem?_eq_getElem (by omega)⟩;have hp':x.s[j]'(by omega)=p:=(List.getElem?_eq_some_iff.1 hp).2;have hm1:(0:Int)<(j:Int)+1:=by omega
     have hm0:(0:Int)<=(j:Int)+1:=by omega
     have hm2:IntKind.wrap .i64 ((j:Int))=(j:Int):=IntWalk.i64_in _ (by omega);have hm3:j<x.s.length:=by omega
     cases h1:decide (8<r.size)<;>simp[badT,hr',he,h1,hp',hm0,hm1,hm2,hm3,hi,st1])) ?_
   refine WpcondZ rfl ?_;cases hbd:badT x.s i with
   |true=>
    refine WpsgZ ?_;refine WpretZ ?_;rw[rightS_badT hi hbd];rfl
   |false=>
    refine WpskipZ ?_;refine WprgZ ?_;refine⟨by simp[again,keepFr,get,nrmO,nrm,wrap_succ hi hx.ls],λj hj=>?_⟩;by_cases hji:j=i
    ·rw[hji];exact hbd
    ·exact hgt j (by omega)
  ·intro hgt;refine ab (WpsgZ ?_);refine WpcondZ rfl (WpexitZ ?_);simp only[Ex.then,Ex.inBlock,if_true];refine WpsgZ ?_;refine WpretZ ?_;rw[rightS_none hg hgt];rfl
set_option maxHeartbeats 1000000 in
theorem p_rightB4 (h105:prog 105=some F105) (h:prog 100=some F100) (b:B) (hb:b.ok):Ans prog 100 [b.av] (.bI (allB rightS b)):=by
 refine Ans.of h rfl rfl (Wps0Z (by simp[-fzC, -fz,B.av,B.cs_nilc];rfl) ?_);refine ab (WpsgZ ?_);refine WpblockZ ?_;refine WprangeZ 4 (λi=>⟨[(1,.ref 1000 0 0 0),(3,.nI i)],[(1000,.cells b.cs)],1192⟩) (λi=>∀j,j<i->rightS (b.get j)=true) rfl (λj hj=>absurd hj (Nat.not_lt_zero _)) ?_ ?_
 ·intro i hi hg;have hi':(i:Int)<4:=by omega
  have hm:min 4 (16 - i*4)=4:=by omega
  refine ab (Wps0Z (by simp[hi'];rfl) ?_);refine WpcondZ rfl (WpskipZ (ab (WpblockZ (ab ?_))));obtain⟨K,hK⟩:=p_rightS3 h105 (b.get i) (hb.at hi);refine WprgnZ (K:=K) (λn hn=>by
   have e1:=hK n hn;simp only[S.av]at e1;generalize evalF prog n=g at e1;simp[hi',B.cs_at b hi,e1];rfl) ?_
  refine WpcondZ rfl ?_;cases hr:rightS (b.get i)with
  |false=>
   refine WpsgZ ?_;refine WpretZ ?_;rw[allB_false hi hr];rfl
  |true=>
   refine WpskipZ ?_;refine WprgZ ?_;refine⟨by simp[again,keepFr,get,nrm_iv,nrm_ref_cells,nrmO,B.cs_nrm,wrap_lt4 hi],λj hj=>?_⟩;by_cases hji:j=i
   ·rw[hji];exact hr
   ·exact hg j (by omega)
 ·intro hg;refine ab (WpsgZ ?_);refine WpcondZ rfl (WpexitZ ?_);simp only[Ex.then,Ex.inBlock,if_true];refine WpsgZ ?_;refine WpretZ ?_;rw[allB_true hg];rfl
set_option maxHeartbeats 1000000 in
theorem p_smallB4 (h106:prog 106=some F106) (h:prog 101=some F101) (b:B) (_hb:b.ok):Ans prog 101 [b.av] (.bI (allB smallS b)):=by
 refine Ans.of h rfl rfl (Wps0Z (by simp[-fzC, -fz,B.av,B.cs_nilc];rfl) ?_);refine ab (WpsgZ ?_);refine WpblockZ ?_;refine WprangeZ 4 (λi=>⟨[(1,.ref 1000 0 0 0),(3,.nI i)],[(1000,.cells b.cs)],1192⟩) (λi=>∀j,j<i->smallS (b.get j)=true) rfl (λj hj=>absurd hj (Nat.not_lt_zero _)) ?_ ?_
 ·intro i hi hg;have hi':(i:Int)<4:=by omega
  have hm:min 4 (16 - i*4)=4:=by omega
  refine ab (Wps0Z (by simp[hi'];rfl) ?_);refine WpcondZ rfl (WpskipZ (ab (WpblockZ (ab ?_))));obtain⟨K,hK⟩:=p_smallS3 h106 (b.get i);refine WprgnZ (K:=K) (λn hn=>by
   have e1:=hK n hn;simp only[S.av]at e1;generalize evalF prog n=g at e1;simp[hi',B.cs_at b hi,e1];rfl) ?_
  refine WpcondZ rfl ?_;cases hr:smallS (b.get i)with
  |false=>
   refine WpsgZ ?_;refine WpretZ ?_;rw[allB_false hi hr];rfl
  |true=>
   refine WpskipZ ?_;refine WprgZ ?_;refine⟨by simp[again,keepFr,get,nrm_iv,nrm_ref_cells,nrmO,B.cs_nrm,wrap_lt4 hi],λj hj=>?_⟩;by_cases hji:j=i
   ·rw[hji];exact hr
   ·exact hg j (by omega)
 ·intro hg;refine ab (WpsgZ ?_);refine WpcondZ rfl (WpexitZ ?_);simp only[Ex.then,Ex.inBlock,if_true];refine WpsgZ ?_;refine WpretZ ?_;rw[allB_true hg];rfl
set_option maxHeartbeats 1000000 in
theorem p_emptyB4 (h108:prog 108=some F108) (h:prog 103=some F103) (b:B) (_hb:b.ok):Ans prog 103 [b.av] (.bI (anyB emptyS b)):=by
 refine Ans.of h rfl rfl (Wps0Z (by simp[-fzC, -fz,B.av,B.cs_nilc];rfl) ?_);refine ab (WpsgZ ?_);refine WpblockZ ?_;refine WprangeZ 4 (λi=>⟨[(1,.ref 1000 0 0 0),(3,.nI i)],[(1000,.cells b.cs)],1192⟩) (λi=>∀j,j<i->emptyS (b.get j)=false) rfl (λj hj=>absurd hj (Nat.not_lt_zero _)) ?_ ?_
 ·intro i hi hg;have hi':(i:Int)<4:=by omega
  refine ab (Wps0Z (by simp[hi'];rfl) ?_);refine WpcondZ rfl (WpskipZ (ab (WpblockZ (ab ?_))));obtain⟨K,hK⟩:=p_emptyS3 h108 (b.get i);refine WprgnZ (K:=K) (λn hn=>by
   have e1:=hK n hn;simp only[S.av]at e1;generalize evalF prog n=g at e1;simp[hi',B.cs_at b hi,e1];rfl) ?_
  refine WpcondZ rfl ?_;cases hr:emptyS (b.get i)with
  |true=>
   refine WpsgZ ?_;refine WpretZ ?_;rw[anyB_true hi hr];rfl
  |false=>
   refine WpskipZ ?_;refine WprgZ ?_;refine⟨by simp[again,keepFr,get,nrm_iv,nrm_ref_cells,nrmO,B.cs_nrm,wrap_lt4 hi],λj hj=>?_⟩;by_cases hji:j=i
   ·rw[hji];exact hr
   ·exact hg j (by omega)
 ·intro hg;refine ab (WpsgZ ?_);refine WpcondZ rfl (WpexitZ ?_);simp only[Ex.then,Ex.inBlock,if_true];refine WpsgZ ?_;refine WpretZ ?_;rw[anyB_false hg];rfl
end
structure Right6 (prog:Nat->Option IFn):Prop where
 h98:prog 98=some F98
 h99:prog 99=some F99
 h100:prog 100=some F100
 h101:prog 101=some F101
 h103:prog 103=some F103
 h105:prog 105=some F105
 h106:prog 106=some F106
 h108:prog 108=some F108
section
variable {prog:Nat->Option IFn}
end
end Arb
namespace Arx
open Go Arb
def bxC (b:B):List AV:=b.enc.map AV.iv
theorem bxC_fz (w:Bool) (b:B):M.mapL (fz w 7) (bxC b) = .ret b.enc:=by simp[bxC,B.enc,S.enc,M.mapL,fz,M.bind]
theorem bxC_fzL (w:Bool):∀l:List B,M.mapL (M.mapL (fz w 7)) (l.map bxC) = .ret (l.map B.enc)
 |[]=>rfl
 |b::l=>by rw[List.map_cons,M.mapL,bxC_fz,M.bind,bxC_fzL w l];rfl
def LB (H:Hp) (n:Nat) (y:AV) (l:List B):Prop:=
 (y = .iv (.nsl 16)/\l=[])\/y = .iv (.sl 16 (l.map B.enc))\/∃id,id<4*n/\y = .own id 0 l.length 0/\(get H id=some (.buf 0 16 (l.map bxC))\/get H id=some (.imm 0 16 (l.map B.enc)))
theorem LB.mono {H H':Hp} {n n':Nat} {y:AV} {l:List B} (h:LB H n y l) (hn:n<=n') (ho:∀k,k<4*n->get H' k=get H k):LB H' n' y l:=by
 rcases h with h | h | ⟨id,h1,h2,h3⟩
 ·exact .inl h
 ·exact .inr (.inl h)
 ·exact .inr (.inr ⟨id,by omega,h2,by rw[ho id h1];exact h3⟩)
theorem LB.ext {H H':Hp} {n n':Nat} {y:AV} {l:List B} (h:LB H n y l) (e:Ext H n H' n'):LB H' n' y l:=h.mono e.le e.old
theorem LB.len {H:Hp} {n:Nat} {y:AV} {l:List B} (h:LB H n y l):(Arx.len false y).run H=some (.nI l.length,H):=by
 rcases h with⟨rfl,rfl⟩|rfl | ⟨id,h1,rfl,h3 | h3⟩
 ·rfl
 ·simp[Arx.len,M.run]
 ·simp[Arx.len,M.run,M.look,Mrun_bindZ,h3,M.ok,M.bind]
 ·simp[Arx.len,M.run,M.look,Mrun_bindZ,h3,M.ok,M.bind]
theorem LB.elems {H:Hp} {n:Nat} {y:AV} {l:List B} (h:LB H n y l):(Arx.elemsS 16 y).run H=some (l.map bxC,H):=by
 have h0:(l.map B.enc).map (λr=>r.map AV.iv)=l.map bxC:=by rw[List.map_map];rfl
 rcases h with⟨rfl,rfl⟩|rfl | ⟨id,h1,rfl,h3 | h3⟩
 ·rfl
 ·simp only[Arx.elemsS,Arx.elems,Mrun_bindZ,M.ok];simp[M.run,h0,bxC]
 ·simp[Arx.elemsS,Arx.elems,M.run,M.look,Mrun_bindZ,h3,M.ok,M.bind,List.take_of_length_le]
 ·simp[Arx.elemsS,Arx.elems,M.run,M.look,Mrun_bindZ,h3,M.ok,M.bind,List.take_of_length_le,bxC]
theorem LB.fz0 {H:Hp} {n:Nat} {y:AV} {l:List B} (h:LB H n y l):(fz1 false y).run H=some (.iv (.sl 16 (l.map B.enc)),H):=by
 rcases h with⟨rfl,rfl⟩|rfl | ⟨id,h1,rfl,h3 | h3⟩
 ·rfl
 ·rfl
 ·have hh:((l.map bxC).drop 0).take l.length=l.map bxC:=by simp[List.take_of_length_le]
  unfold fz1 fz;simp[M.run,M.look,Mrun_bindZ,h3,M.ok,M.bind,hh,bxC_fzL,List.take_of_length_le]
 ·unfold fz1 fz;simp[M.run,M.look,Mrun_bindZ,h3,M.ok,M.bind,List.take_of_length_le]
theorem LB.fz1 {H:Hp} {n:Nat} {y:AV} {l:List B} (h:LB H n y l):∃H',(Arx.fz1 true y).run H=some (.iv (.sl 16 (l.map B.enc)),H')/\(∀k,4*n<=k->get H' k=get H k)/\(∀(m:Nat) (y':AV) (l':List B),LB H m y' l'->LB H' m y' l')/\
  (∀k,y≠.own k 0 l.length 0->get H' k=get H k):=by
 rcases h with⟨rfl,rfl⟩|rfl | ⟨id,h1,rfl,h3 | h3⟩
 ·exact⟨H,rfl,λ_ _=>rfl,λ_ _ _ h=>h,λ_ _=>rfl⟩
 ·exact⟨H,rfl,λ_ _=>rfl,λ_ _ _ h=>h,λ_ _=>rfl⟩
 ·refine⟨Arx.set H id (.imm 0 16 (l.map B.enc)),?_,λk hk=>get_set_ne _ _ (by omega),λm y' l' h=>?_,λk hk=>get_set_ne _ _ λe=>hk (by rw[e])⟩
  ·unfold Arx.fz1 Arx.fz;simp[M.run,M.look,Mrun_bindZ,h3,M.ok,M.bind,bxC_fzL,M.write,List.take_of_length_le]
  ·rcases h with h | h | ⟨id',q1,q2,q3⟩
   ·exact .inl h
   ·exact .inr (.inl h)
   ·refine .inr (.inr ⟨id',q1,q2,?_⟩);by_cases he:id=id'
    ·subst he;right;rw[get_set_same];rcases q3 with q3 | q3
     ·rw[h3]at q3;simp only[Option.some.injEq,Ob.buf.injEq,true_and]at q3;have:l.map B.enc=l'.map B.enc:=by
       have h1:=bxC_fzL false l;have h2:=bxC_fzL false l';rw[q3]at h1;rw[h1]at h2;exact M.ret.inj h2
      rw[this]
     ·rw[h3]at q3;simp at q3
    ·rw[get_set_ne _ _ he];exact q3
 ·refine⟨H,?_,λ_ _=>rfl,λ_ _ _ h=>h,λ_ _=>rfl⟩;unfold Arx.fz1 Arx.fz;simp[M.run,M.look,Mrun_bindZ,h3,M.ok,M.bind,List.take_of_length_le]
end Arx
namespace Arx
open Go Arb
attribute [local simp] evalRgn Option.map_some evalOps step wants isS osem Mrun_bindZ M.mapL M.run M.ok M.fresh M.write M.look M.lift putD ev fr_cons fr_nil keepFr lset_nil lset_cons get_set_same bin binM intBin strBin mk params cellsM load obRead fadr fld isl iarr xarr idx len valid slc rowLen bound store splice un callee Option.bind_some M.bind putAll
def zB:List AV:=[.iv (.bool false),.iv (.nsl 2),.iv (.bool false),.iv (.nsl 1),.iv (.bool false),.iv (.nsl 2),.iv (.bool false),.iv (.nsl 1),.iv (.bool false),.iv (.nsl 2),.iv (.bool false),.iv (.nsl 1),.iv (.bool false),.iv (.nsl 2),.iv (.bool false),.iv (.nsl 1)]
section
variable {p1:Nat->Option Arb.IFn} {p2:Nat->Option IFn}
theorem ev188_0 (hp2:PrimsLe p2) (h:p2 188=some F188) (H:Hp) (nx:Nat):∃nx',nx<=nx'/\Ev p1 p2 188 [.iv (.nsl 16),.nI 0] H nx (.iv (.nsl 16),H,nx'):=by
 refine⟨nx+15,by omega,Ev.of hp2 h rfl rfl (ab ?_)⟩;refine WprgZ ?_;refine ab (WpsgZ ?_);refine WpcondZ (t:=false) rfl (WpskipZ ?_);simp only[Ex.then];refine ab (Wps0Z (by simp[capn,show IntKind.i64.wrap 0=0 from by decide];rfl) ?_);refine WpsgZ ?_;refine WpcondZ (t:=false) rfl (WpskipZ ?_);simp only[Ex.then];refine WpsgZ ?_;exact WpretZ ⟨rfl,rfl⟩
theorem ev188_n (hp2:PrimsLe p2) (h:p2 188=some F188) (H:Hp) (nx:Nat) (hf:Fresh H nx) (m:Nat) (h0:0<m) (hm:m<=1000) :
  ∃nx' id,nx+18<nx'/\id=4*(nx+18)/\Ev p1 p2 188 [.iv (.nsl 16),.nI m] H nx (.own id 0 0 0,Arx.set H id (.buf 0 16 (List.replicate m zB)),nx'):=by
 have hm0:¬(m:Int)<0:=by omega
 have hm1:(0:Int)<m:=by omega
 have hm2:¬(m:Int)=0:=by omega
 have hm3:m≠0:=by omega
 have hw:IntKind.i64.wrap (m:Int)=m:=IntWalk.i64_in _ (by omega);have hr:roomy m=true:=by simp only[roomy,Nat.ble_eq];omega
 have hfr:get H (4*(nx+18))=none:=hf _ (by omega);refine⟨nx+25,4*(nx+18),by omega,rfl,Ev.of hp2 h rfl rfl (ab ?_)⟩;refine WprgZ ?_;refine ab (Wps0Z (by simp[hm0];rfl) ?_);refine WpcondZ (t:=false) rfl (WpskipZ ?_);simp only[Ex.then];refine ab (Wps0Z (by simp[capn,show IntKind.i64.wrap 0=0 from by decide,hw];rfl) ?_);refine Wps0Z (by simp[h0];rfl) ?_;refine WpcondZ (t:=true) rfl ?_;simp only[if_true];refine Wpr0Z (by
  simp[capn,appn,hr,hm3,hfr,zB];rfl) ?_
 simp only[Ex.then];refine WpsgZ ?_;exact WpretZ ⟨rfl,rfl⟩
def tot (l1 l2:List B) (i:Nat):Nat:=if i=0 then 0 else if i=1 then l1.length else l1.length+l2.length
def rowsTo (l1 l2:List B) (i:Nat):List (List AV):=
 if i=0 then List.replicate (l1.length+l2.length) zB else if i=1 then l1.map bxC++List.replicate l2.length zB else(l1++l2).map bxC
theorem rowsTo_len (l1 l2:List B) (i:Nat):(rowsTo l1 l2 i).length=l1.length+l2.length:=by unfold rowsTo;split<;>(try split)<;>simp
set_option maxHeartbeats 1000000 in
theorem ev187 (hp2:PrimsLe p2) (h188:p2 188=some F188) (h:p2 187=some F187) (H:Hp) (nx rid:Nat) (y1 y2:AV) (l1 l2:List B) (hrid:rid<4*nx) (hr:get H rid=some (.buf 0 1 [[y1],[y2]])) (hf:Fresh H nx)
  (hy1:LB H nx y1 l1) (hy2:LB H nx y2 l2) (hl:l1.length+l2.length<=1000):∃H' nx' y,Ext H nx H' nx'/\LB H' nx' y (l1++l2)/\(∀k o n w,y = .own k o n w->4*nx<=k)/\Ev p1 p2 187 [.own rid 0 2 0] H nx (y,H',nx'):=by
 have key:Wp p1 p2 F187.body ⟨params [.own rid 0 2 0] 0,H,nx⟩ (λe st=>∃r:AV×Hp×Nat,(Ext H nx r.2.1 r.2.2/\LB r.2.1 r.2.2 r.1 (l1++l2)/\∀k o n w,r.1 = .own k o n w->4*nx<=k)/\Fin F187.res r e st):=by
  refine WpsgZ ?_;refine WpsgZ ?_;refine ab (Wps0Z (by simp[hr];rfl) ?_);refine WpblockZ ?_;refine WploopZ (λm s1=>∃(i n2:Nat),i+m=2/\nx<=n2/\s1=⟨[(0,.own rid 0 2 0),(3,.nI (tot l1 l2 i)),(9,.own rid 0 2 0),(10,.nI 2),(11,.nI i)],H,n2⟩) (m:=2) ⟨0,nx+5,rfl,by omega,by simp[fr_cons,keepFr,tot]⟩ ?_;rintro m s1 ⟨i,n2,him,hn2,rfl⟩;refine ab ?_;by_cases hi:i<2
  ·have hi':(i:Int)<2:=by omega
   obtain⟨rows,hrows,hr⟩:∃rows,rows=[[y1],[y2]]/\get H rid=some (.buf 0 1 rows):=⟨_,rfl,hr⟩;obtain⟨y,l,hy,hyl,ht⟩:∃y l,rows[i]?=some [y]/\LB H nx y l/\tot l1 l2 (i+1)=tot l1 l2 i+l.length:=by
    subst hrows
    match i,hi with
    |0,_=>exact⟨y1,l1,rfl,hy1,by simp[tot]⟩
    |1,_=>exact⟨y2,l2,rfl,hy2,by simp[tot]⟩
   have htl:tot l1 l2 i+l.length<=1000:=by rw[<-ht];unfold tot;split<;>(try split)<;>omega
   have hlen:=hyl.len;have hwt:IntKind.i64.wrap ((tot l1 l2 i:Int)+(l.length:Int))=((tot l1 l2 (i+1):Nat):Int):=by rw[IntWalk.i64_in _ (by omega),ht];omega
   have hneg:¬((tot l1 l2 (i+1):Nat):Int)<0:=by omega
   have hwi:IntKind.i64.wrap ((i:Int)+1)=((i+1:Nat):Int):=by rw[IntWalk.i64_in _ (by omega)];omega
   refine Wpr0Z (by simp[hi'];rfl) ?_;refine ab (WpcondZ (t:=true) rfl (WpskipZ (ab (WpblockZ (Wps0Z (by simp[hr,hi',hy];rfl) ?_)))));refine Wps0Z (by simp[-len,hlen,hwt];rfl) ?_;refine Wps0Z (by simp[hneg];rfl) ?_;refine WpcondZ (t:=false) rfl (WpskipZ ?_);simp only[Ex.then,Ex.inBlock];refine Wpr0Z (by simp[hwi];rfl) ?_;exact⟨m - 1,by omega,i+1,n2+9+2+2,by omega,by omega,by simp[fr_cons,keepFr]⟩
  ·obtain rfl:i=2:=by omega
   refine WprgZ ?_;refine ab (WpcondZ (t:=false) rfl (WpexitZ ?_));simp only[Ex.then,Ex.inBlock,if_true];refine ab ?_;have ht2:tot l1 l2 2=l1.length+l2.length:=rfl;obtain⟨n3,y3,H3,hE3,hy3,hev⟩:∃(n3:Nat) (y3:AV) (H3:Hp),Ext H nx H3 n3/\((l1.length+l2.length=0/\y3 = .iv (.nsl 16))\/∃id,id<4*n3/\4*nx<=id/\y3 = .own id 0 0 0/\get H3 id=some (.buf 0 16 (rowsTo l1 l2 0)))/\
     Ev p1 p2 188 [.iv (.nsl 16),.nI (tot l1 l2 2:Nat)] H (n2+1+3) (y3,H3,n3):=by
    rw[ht2];by_cases h0:l1.length+l2.length=0
    ·obtain⟨n3,hn3,hev⟩:=ev188_0 (p1:=p1) hp2 h188 H (n2+1+3);rw[h0];exact⟨n3,_,H,.refl hf (by omega),.inl ⟨rfl,rfl⟩,hev⟩
    ·obtain⟨n3,id,hn3,hid,hev⟩:=ev188_n (p1:=p1) hp2 h188 H (n2+1+3) (λk hk=>hf k (by omega)) (l1.length+l2.length) (by omega) hl;exact⟨n3,_,_,⟨by omega,λk hk=>by rw[get_set_ne _ _ (by omega)];exact hf k (by omega),λk hk=>get_set_ne _ _ (by omega)⟩,.inr ⟨id,by omega,by omega,rfl,get_set_same _ _ _⟩,hev⟩
   obtain⟨K,hK⟩:=hev;refine WprgnZ (K:=K) (λn hn=>by
    have hc:=hK n hn;simp[hc];rfl) ?_
   have hr3:get H3 rid=some (.buf 0 1 [[y1],[y2]]):=by rw[hE3.old _ hrid];exact hr
   refine ab (Wps0Z (by simp[hr3];rfl) ?_);refine WpblockZ ?_;refine WploopZ (λm s1=>∃(i n4:Nat) (y4:AV) (H4:Hp),i+m=2/\n3<=n4/\Ext H nx H4 n3/\((l1.length+l2.length=0/\y4 = .iv (.nsl 16))\/∃id,id<4*n3/\4*nx<=id/\y4 = .own id 0 (tot l1 l2 i) 0/\get H4 id=some (.buf 0 16 (rowsTo l1 l2 i)))/\
    s1=⟨[(6,y4),(25,.own rid 0 2 0),(26,.nI 2),(27,.nI i)],H4,n4⟩) (m:=2) ⟨0,n3+3,y3,H3,rfl,by omega,hE3,hy3,by simp[fr_cons,keepFr]⟩ ?_
   rintro m s1 ⟨i,n4,y4,H4,him,hn4,hE4,hy4,rfl⟩;have hr4:get H4 rid=some (.buf 0 1 [[y1],[y2]]):=by rw[hE4.old _ hrid];exact hr
   refine ab ?_;by_cases hi:i<2
   ·have hi':(i:Int)<2:=by omega
    have hz1:=hy1.ext hE4;have hz2:=hy2.ext hE4;obtain⟨rows,hrows,hr4⟩:∃rows,rows=[[y1],[y2]]/\get H4 rid=some (.buf 0 1 rows):=⟨_,rfl,hr4⟩;obtain⟨y,l,hy,hyl,ht,hsp⟩:∃y l,rows[i]?=some [y]/\LB H4 n3 y l/\tot l1 l2 (i+1)=tot l1 l2 i+l.length/\Arb.splice (rowsTo l1 l2 i) (tot l1 l2 i) (l.map bxC)=rowsTo l1 l2 (i+1):=by
     subst hrows
     match i,hi with
     |0,_=>exact⟨y1,l1,rfl,hz1,by simp[tot],by simp[Arb.splice,rowsTo,tot]⟩
     |1,_=>exact⟨y2,l2,rfl,hz2,by simp[tot],by simp[Arb.splice,rowsTo,tot]⟩
    have helems:=hyl.elems;have hle:tot l1 l2 i+l.length<=l1.length+l2.length:=by rw[<-ht];unfold tot;split<;>(try split)<;>omega
    have hwi:IntKind.i64.wrap ((i:Int)+1)=((i+1:Nat):Int):=by rw[IntWalk.i64_in _ (by omega)];omega
    refine Wpr0Z (by simp[hi'];rfl) ?_;refine ab (WpcondZ (t:=true) rfl (WpskipZ (ab (WpblockZ (Wps0Z (by simp[hr4,hi',hy];rfl) ?_)))));rcases hy4 with⟨h0,rfl⟩|⟨id,hid,hid2,rfl,hgid⟩
    ·have hl0:l=[]:=List.eq_nil_of_length_eq_zero (by omega);subst hl0;refine Wpr0Z (by simp[app,helems];rfl) ?_;simp only[Ex.then,Ex.inBlock];refine Wpr0Z (by simp[hwi];rfl) ?_;exact⟨m - 1,by omega,i+1,n4+8+2,_,H4,by omega,by omega,hE4,.inl ⟨h0,rfl⟩,by simp[fr_cons,keepFr]⟩
    ·have hrl:=rowsTo_len l1 l2 i;refine Wpr0Z (s':=⟨[(6,.own id 0 (tot l1 l2 (i+1)) 0),(25,.own rid 0 2 0),(26,.nI 2),(27,.nI i)],Arx.set H4 id (.buf 0 16 (rowsTo l1 l2 (i+1))),n4+8⟩) (by
      rw[<-hsp,ht];simp[-splice,app,helems,hgid,hrl,hle]) ?_
     simp only[Ex.then,Ex.inBlock];refine Wpr0Z (by simp[hwi];rfl) ?_;refine⟨m - 1,by omega,i+1,n4+8+2,_,_,by omega,by omega,⟨hE4.le,λk hk=>by rw[get_set_ne _ _ (by omega)];exact hE4.fresh k hk,λk hk=>by rw[get_set_ne _ _ (by omega)];exact hE4.old k hk⟩,
      .inr ⟨id,hid,hid2,rfl,get_set_same _ _ _⟩,by simp[fr_cons,keepFr]⟩
   ·obtain rfl:i=2:=by omega
    refine WprgZ ?_;refine ab (WpcondZ (t:=false) rfl (WpexitZ ?_));simp only[Ex.then,Ex.inBlock,if_true];refine WpsgZ ?_;refine WpretZ ⟨(y4,H4,n4+1+2),⟨⟨by have:=hE4.le;show nx<=n4+1+2;omega,λk hk=>hE4.fresh k (by simp only at hk;omega),hE4.old⟩,?_,?_⟩,rfl,rfl⟩
    case refine_2=>
     rintro k o n w hw;rcases hy4 with⟨h0,rfl⟩|⟨id,hid,hid2,rfl,hgid⟩
     ·cases hw
     ·cases hw;exact hid2
    rcases hy4 with⟨h0,rfl⟩|⟨id,hid,hid2,rfl,hgid⟩
    ·have e1:l1=[]:=List.eq_nil_of_length_eq_zero (by omega);have e2:l2=[]:=List.eq_nil_of_length_eq_zero (by omega);subst e1 e2;exact .inl ⟨rfl,rfl⟩
    ·refine .inr (.inr ⟨id,by show id<4*(n4+1+2);omega,?_,.inl hgid⟩);rw[ht2,List.length_append]
 obtain⟨⟨y,H',nx'⟩,⟨h1,h2,h3⟩,h4⟩:=Ev.ofx hp2 h rfl rfl _ key;exact⟨H',nx',y,h1,h2,h3,h4⟩
end
end Arx
namespace Arx
open Go Arb
mutual
def cnt:Xp->Nat
 |.mk _ _ _ sub=>1+cntL sub
def cntL:List Xp->Nat
 |[]=>0
 |x::l=>cnt x+cntL l
end
def nextB (both:Bool) (l m:List B):List B:=if both then tidyF (prodF l m) else tidyF (l++m)
mutual
def boxesX:Bool->Xp->List B×Int
 |neg,.mk k a s sub=>if k=1 then(tidyF [allBx.put a.toNat (if neg then notS s else s)],0) else if k=4 then boxes1 (!neg) sub else boxesL neg (decide (k=2) != neg) sub (if decide (k=2) != neg then[allBx] else[])
def boxes1:Bool->List Xp->List B×Int
 |_,[]=>([],0)
 |neg,x::_=>boxesX neg x
def boxesL:Bool->Bool->List Xp->List B->List B×Int
 |_,_,[],l=>(l,0)
 |neg,both,x::r,l=>if(boxesX neg x).2≠0 then([],(boxesX neg x).2) else if 16<(nextB both l (boxesX neg x).1).length then([],4) else boxesL neg both r (nextB both l (boxesX neg x).1)
end
theorem allS_lim:allS.lim 1 0:=⟨by simp[allS],by simp[allS],λp hp=>by simp[allS]at hp;subst hp;unfold in64;omega⟩
theorem allBx_lim:allBx.lim 1 0:=by
 intro i hi
 match i,hi with
 |0,_=>exact allS_lim
 |1,_=>exact allS_lim
 |2,_=>exact allS_lim
 |3,_=>exact allS_lim
theorem put_lim {b:B} {s:S} {n m:Nat} (hb:b.lim n m) (hs:s.lim n m) (i:Nat):(b.put i s).lim n m:=by
 intro j hj;unfold B.put;have h0:=hb 0 (by omega);have h1:=hb 1 (by omega);have h2:=hb 2 (by omega);have h3:=hb 3 (by omega);split<;>(match j,hj with
  |0,_=>first | exact hs | exact h0
  |1,_=>first | exact hs | exact h1
  |2,_=>first | exact hs | exact h2
  |3,_=>first | exact hs | exact h3)
theorem limM {b:B} {n m n' m':Nat} (h:b.lim n m) (hn:n<=n') (hm:m<=m'):b.lim n' m':=λi hi=>(h i hi).mono hn hm
theorem okL {s:S} (h:s.ok) (hs:smallS s=true):s.lim 6 6:=by
 simp only[smallS,Bool.and_eq_true,decide_eq_true_eq]at hs;exact⟨hs.1,hs.2,h.ri⟩
theorem tidyF_mem {l:List B} {b:B} (h:b ∈ tidyF l):b ∈ l:=tidyTo_mem h
theorem tidyF_len (l:List B):(tidyF l).length<=l.length:=tidyTo_len l _
theorem prodF_mem {a b:List B} {c:B} (h:c ∈ prodF a b):∃x ∈ a,∃y ∈ b,c=andB x y:=by
 unfold prodF prodRow at h;rw[List.mem_flatMap]at h;obtain⟨x,hx,h⟩:=h;rw[List.mem_filter,List.mem_map]at h;obtain⟨⟨y,hy,rfl⟩, -⟩:=h;exact⟨x,hx,y,hy,rfl⟩
theorem nextB_lim {both:Bool} {l m:List B} {n k n' k':Nat} (hl:∀b ∈ l,b.lim n k) (hm:∀b ∈ m,b.lim n' k'):∀b ∈ nextB both l m,b.lim (n+n'+3) (k+k'):=by
 intro b hb;unfold nextB at hb;split at hb
 ·obtain⟨x,hx,y,hy,rfl⟩:=prodF_mem (tidyF_mem hb);exact andB_lim (hl x hx) (hm y hy)
 ·rcases List.mem_append.1 (tidyF_mem hb)with h | h
  ·exact limM (hl b h) (by omega) (by omega)
  ·exact limM (hm b h) (by omega) (by omega)
theorem allX_mk {k a:Int} {s:S} {sub:List Xp} (h:allX (.mk k a s sub)=true):(∀x ∈ sub,allX x=true)/\oneX (.mk k a s sub)=true:=by
 unfold allX at h;rw[Bool.and_eq_true,allXL_all,List.all_eq_true]at h;exact h
theorem one_atom {a:Int} {s:S} {sub:List Xp} (h:oneX (.mk 1 a s sub)=true):0<=a/\a<4/\smallS s=true:=by
 unfold oneX at h;simp only[if_true,Bool.and_eq_true,decide_eq_true_eq]at h;exact⟨h.1,h.2.1,h.2.2.2.2⟩
theorem one_not {a:Int} {s:S} {sub:List Xp} (h:oneX (.mk 4 a s sub)=true):∃x,sub=[x]:=by
 unfold oneX at h;simp at h
 match sub,h.2 with
 |[x],_=>exact⟨x,rfl⟩
theorem allBx_put_lim {s:S} (h:s.ok) (hs:smallS s=true) (neg:Bool) (i:Nat):(allBx.put i (if neg then notS s else s)).lim 7 6:=by
 refine put_lim (limM allBx_lim (by omega) (by omega)) ?_ i;cases neg
 ·exact(okL h hs).mono (by omega) (by omega)
 ·exact notS_lim (okL h hs)
theorem boxes_lim {x:Xp} (hx:x.ok):∀neg,allX x=true->(∀b ∈ (boxesX neg x).1,b.lim (10*cnt x - 3) (6*cnt x))/\(boxesX neg x).1.length<=16:=by
 induction hx with
 |@mk k a s sub hk ha hs hl hsub ih=>
  intro neg hall;obtain⟨hall1,hone⟩:=allX_mk hall;have hc:cnt (.mk k a s sub)=1+cntL sub:=by conv=>lhs;unfold cnt
  rw[hc]
  conv=>lhs;unfold boxesX
  conv=>rhs;unfold boxesX
  by_cases k1:k=1
  ·subst k1;simp only[if_true];obtain⟨-, -,hsm⟩:=one_atom hone;refine⟨λb hb=>?_,Nat.le_trans (tidyF_len _) (by simp)⟩;have:=tidyF_mem hb;simp only[List.mem_singleton]at this;subst this;exact limM (allBx_put_lim hs hsm neg a.toNat) (by omega) (by omega)
  ·simp only[if_neg k1];by_cases k4:k=4
   ·subst k4;simp only[if_true];obtain⟨x,rfl⟩:=one_not hone;have:=ih x (by simp) (!neg) (hall1 x (by simp))
    conv=>lhs;unfold boxes1
    conv=>rhs;unfold boxes1
    have hcl:cntL [x]=cnt x:=by unfold cntL;unfold cntL;rfl
    rw[hcl];exact⟨λb hb=>limM (this.1 b hb) (by omega) (by omega),this.2⟩
   ·simp only[if_neg k4];generalize(decide (k=2) != neg)=both;have key:∀(r:List Xp) (l:List B) (c:Nat),(∀x ∈ r,x ∈ sub)->(∀b ∈ l,b.lim (1+10*c) (6*c))->l.length<=16->
      (∀b ∈ (boxesL neg both r l).1,b.lim (1+10*(c+cntL r)) (6*(c+cntL r)))/\(boxesL neg both r l).1.length<=16:=by
     intro r
     induction r with
     |nil=>
      intro l c _ h1 h2;unfold boxesL cntL;exact⟨h1,h2⟩
     |cons x r ihr=>
      intro l c hr h1 h2;obtain⟨q1,q2⟩:=ih x (hr x (by simp)) neg (hall1 x (hr x (by simp)));have hcr:cntL (x::r)=cnt x+cntL r:=by conv=>lhs;unfold cntL
      have hpos:1<=cnt x:=by cases x;unfold cnt;omega
      rw[hcr];unfold boxesL;split
      ·exact⟨λb hb=>by simp at hb,by simp⟩
      ·split
       ·exact⟨λb hb=>by simp at hb,by simp⟩
       ·rename_i hlen;have hn:=nextB_lim (both:=both) h1 q1;have:=ihr (nextB both l (boxesX neg x).1) (c+cnt x) (λy hy=>hr y (by simp[hy])) (λb hb=>limM (hn b hb) (by omega) (by omega)) (by omega);rw[Nat.add_assoc]at this;exact this
    have hk:=key sub (if both then[allBx] else[]) 0 (λx hx=>hx) (λb hb=>by
     split at hb
     ·simp only[List.mem_singleton]at hb;subst hb;exact limM allBx_lim (by omega) (by omega)
     ·simp at hb) (by split<;>simp)
    rw[Nat.zero_add]at hk;exact⟨λb hb=>limM (hk.1 b hb) (by omega) (by omega),hk.2⟩
structure LibB (p1:Nat->Option Arb.IFn) (p2:Nat->Option IFn):Prop extends LibX p1 p2 where
 L9:Lib9 p1
 h115:p1 115=some Arb.F115
 h121:p1 121=some Arb.F121
 h26:p1 26=some Arb.F26
 h19:p1 19=some Arb.F19
 hA:Ans p1 42 [] allBx.av
 h185:p2 185=some F185
 h187:p2 187=some F187
 h188:p2 188=some F188
def PZ (H:Hp) (n:Nat) (v:AV) (x:Xp):Prop:=v = .iv (.ptr x.enc)\/∃id,id<4*n/\v = .ref id 0 0 0/\get H id=some (.cells (x.enc.map .iv))
theorem PZ.ext {H H':Hp} {n n':Nat} {v:AV} {x:Xp} (h:PZ H n v x) (e:Ext H n H' n'):PZ H' n' v x:=by
 rcases h with h | ⟨id,h1,h2,h3⟩
 ·exact .inl h
 ·exact .inr ⟨id,by have:=e.le;omega,h2,by rw[e.old id h1];exact h3⟩
theorem enc_fz (w:Bool) (b:B):M.mapL (fz w 7) (b.enc.map AV.iv) = .ret b.enc:=bxC_fz w b
theorem allIv_iv:∀l:List IV,allIv (l.map Arb.AV.iv)=some l
 |[]=>rfl
 |x::l=>by simp[allIv,allIv_iv l]
section
variable {p1:Nat->Option Arb.IFn} {p2:Nat->Option IFn}
theorem call47 (L:LibB p1 p2) {l:List B} (hl:l.length<=10000) (hL:∀b ∈ l,b.lim 1000 400):∃K,∀n,K<=n->∀(H H':Hp) (y:AV),(fz1 true y).run H=some (.iv (.sl 16 (l.map B.enc)),H')->
  (fcallM (one p1 n) (.iv (.fn 47 [])) [y]).run H=some (.iv (.sl 16 ((tidyF l).map B.enc)),H'):=by
 obtain⟨K,hK⟩:=p_tidy L.L9 l hl hL;refine⟨K,λn hn H H' y hy=>?_⟩;have e:(one p1 n 47 [filt l] []).bind shut=some (filt (tidyF l)):=hK n hn;simp only[filt]at e;simp[fcallM,callee,Mrun_bindZ,M.lift,M.run,M.mapL,hy,e,ofA,of1]
theorem call121 (L:LibB p1 p2) {a b:List B} (la:a.length<=1000) (lb:b.length<=1000) (ha:∀x ∈ a,x.lim 1000 400) (hb:∀x ∈ b,x.lim 1000 400):∃K,∀n,K<=n->∀(H H1 H2:Hp) (y z:AV),(fz1 true y).run H=some (.iv (.sl 16 (a.map B.enc)),H1)->
  (fz1 true z).run H1=some (.iv (.sl 16 (b.map B.enc)),H2)->(fcallM (one p1 n) (.iv (.fn 121 [])) [y,z]).run H=some (.iv (.sl 16 ((prodF a b).map B.enc)),H2):=by
 obtain⟨K,hK⟩:=p_product L.L9 L.h115 L.h121 a b la lb ha hb;refine⟨K,λn hn H H1 H2 y z hy hz=>?_⟩;have e:(one p1 n 121 [filt a,filt b] []).bind shut=some (filt (prodF a b)):=hK n hn;simp only[filt]at e;simp[fcallM,callee,Mrun_bindZ,M.lift,M.run,M.mapL,hy,hz,e,ofA,of1]
theorem call129 (L:LibB p1 p2) {s:S} (h:s.lim 1000 400):∃K,∀n,K<=n->∀(H:Hp),(fcallM (one p1 n) (.iv (.fn 129 [])) [.agg (s.enc.map AV.iv)]).run H=some (.agg ((notS s).enc.map AV.iv),H)/\((fcallM (one p1 n) (.iv (.fn 129 [])) [.agg (s.enc.map AV.iv)]).foot H).2=[]:=by
 obtain⟨K,hK⟩:=p_not L.L9.toLib8 s (by have:=h.i;omega) (by have:=h.s;omega) h.k;refine⟨K,λn hn H=>?_⟩;have e:(one p1 n 129 [s.av] []).bind shut=some (notS s).av:=hK n hn;simp only[S.av]at e;constructor
 ·simp[fcallM,callee,Mrun_bindZ,M.lift,M.run,M.mapL,fz1,fz,S.enc,M.bind,e,ofA,of1,allIv]
 ·simp[fcallM,callee,Mrun_bindZ,M.lift,M.run,M.mapL,fz1,fz,S.enc,M.bind,e,ofA,of1,allIv,M.foot]
theorem call26 (L:LibB p1 p2) (s:S) {i:Nat} (hi:i<4):∃K,∀n,K<=n->∀(H:Hp),(fcallM (one p1 n) (.iv (.fn 26 [])) [.nI i,.agg (s.enc.map AV.iv)]).run H=some (.agg ((allBx.put i s).enc.map AV.iv),H):=by
 obtain⟨K,hK⟩:=p_atom L.hA L.h19 L.h26 s hi;refine⟨K,λn hn H=>?_⟩;have e:(one p1 n 26 [.nI i,s.av] []).bind shut=some (.agg ((allBx.put i s).enc.map Arb.AV.iv)):=hK n hn;simp only[S.av]at e;simp[fcallM,callee,Mrun_bindZ,M.lift,M.run,M.mapL,fz1,fz,S.enc,M.bind,e,ofA,of1,allIv_iv]
end
end Arx
namespace Arx
open Go Arb
attribute [local simp] evalRgn Option.map_some evalOps step wants isS osem Mrun_bindZ M.mapL M.run M.ok M.fresh M.write M.look M.lift putD ev fr_cons fr_nil keepFr lset_nil lset_cons get_set_same bin binM intBin strBin mk params cellsM load obRead fadr fld isl iarr xarr idx len valid slc rowLen bound store splice un callee Option.bind_some M.bind putAll
section
variable {p1:Nat->Option Arb.IFn} {p2:Nat->Option IFn}
theorem enc_len16 (b:B):(b.enc.map AV.iv).length=16:=rfl
def opsA:List IOper:=match F185.body with
 |.seq _ (.seq _ (.seq (.seq _ (.block _ (.seq _ (.cond _ (.seq (.rgn _ ops _) _) _)))) _))=>ops
 |_=>[]
def opsB:List IOper:=match F185.body with
 |.seq _ (.seq _ (.seq (.seq _ (.block _ (.seq _ (.cond _ _ (.seq _ (.cond _ (.seq (.rgn _ ops _) _) _)))))) _))=>ops
 |_=>[]
set_option maxHeartbeats 1000000 in
theorem atomA (L:LibB p1 p2) {k a:Int} {s:S} {sub:List Xp} (hs:s.ok) (h:allX (.mk 1 a s sub)=true) (v:AV) (H:Hp) (nx:Nat) (hv:PZ H nx v (.mk k a s sub)) (hf:get H (4*(nx+10))=none) (fr:Fr) (hfr:fr=[(0,v),(1,.bI true),(6,.iv (.nsl 16)),(7,.bI (decide (k=2) != true)),(57,.bI true)]) :
  ∃K,∀n,K<=n->evalRgn (one p1 n) (run2 p1 p2 n) true opsA [4,5] ⟨fr,H,nx⟩=some ⟨[(4,.iv (.sl 16 ((tidyF [allBx.put a.toNat (notS s)]).map B.enc))),(5,.nI 0)],
   Arx.set (Arx.set H (4*(nx+10)) (.buf 0 16 [(allBx.put a.toNat (notS s)).enc.map AV.iv])) (4*(nx+10)) (.imm 0 16 [(allBx.put a.toNat (notS s)).enc]),nx+14⟩:=by
 obtain⟨ha0,ha4,hsm⟩:=one_atom (allX_mk h).2;obtain⟨i,rfl⟩:∃i:Nat,a=(i:Int):=⟨a.toNat,by omega⟩;have hi:i<4:=by omega
 have hbl:(allBx.put i (notS s)).lim 1000 400:=limM (allBx_put_lim hs hsm true i) (by omega) (by omega);simp only[Int.toNat_natCast];obtain⟨K1,hK1⟩:=call129 L ((okL hs hsm).mono (n':=1000) (m':=400) (by omega) (by omega));obtain⟨K2,hK2⟩:=call26 L (notS s) hi;obtain⟨K3,hK3⟩:=call47 L (l:=[allBx.put i (notS s)]) (by simp) (λb hb=>by simp only[List.mem_singleton]at hb;subst hb;exact hbl);refine⟨max K1 (max K2 K3),λn hn=>?_⟩;have e1:=λH=>(hK1 n (by omega) H).1
 have d1:=λH=>(hK1 n (by omega) H).2
 have e2:=hK2 n (by omega);have e3:=hK3 n (by omega);generalize notS s=t at *;generalize allBx.put i t=b at *;generalize one p1 n=c1 at *;subst hfr;simp only[S.enc,List.map_cons,List.map_nil]at e1 e2 d1;have hfz:(fz1 true (.own (4*(nx+10)) 0 1 0)).run (Arx.set H (4*(nx+10)) (.buf 0 16 [b.enc.map AV.iv]))=some (.iv (.sl 16 [b.enc]),Arx.set (Arx.set H (4*(nx+10)) (.buf 0 16 [b.enc.map AV.iv])) (4*(nx+10)) (.imm 0 16 [b.enc])):=by
  unfold fz1 fz;simp[M.run,M.look,Mrun_bindZ,get_set_same,M.ok,M.bind,M.mapL,enc_fz,M.write]
 have e3':=e3 _ _ _ hfz;have hlen:=enc_len16 b;generalize b.enc.map AV.iv=cs at *;rcases hv with rfl | ⟨id,hid,rfl,h3⟩
 ·simp[opsA,F185,evalFeet,Xp.enc,e1,e2,e3',hf,Nat.add_assoc,hlen,setAll,footOf];unfold orderOk;rw[Bool.or_eq_true];right;simp[apartAll,apart1,clash,meets,M.foot,d1]
 ·simp[opsA,F185,evalFeet,Xp.enc,e1,e2,e3',hf,h3,Nat.add_assoc,hlen,setAll,footOf];unfold orderOk;rw[Bool.or_eq_true];right;simp[apartAll,apart1,clash,meets,M.foot,M.bind,M.ok,M.lift,mk,obRead,Xp.enc,d1,h3]
set_option maxHeartbeats 1000000 in
theorem atomB (L:LibB p1 p2) {k a:Int} {s:S} {sub:List Xp} (hs:s.ok) (h:allX (.mk 1 a s sub)=true) (v:AV) (H:Hp) (nx:Nat) (hv:PZ H nx v (.mk k a s sub)) (hf:get H (4*(nx+9))=none) (fr:Fr) (hfr:fr=[(0,v),(1,.bI false),(6,.iv (.nsl 16)),(7,.bI (decide (k=2) != false)),(78,.bI true)]) :
  ∃K,∀n,K<=n->evalRgn (one p1 n) (run2 p1 p2 n) true opsB [4,5] ⟨fr,H,nx⟩=some ⟨[(4,.iv (.sl 16 ((tidyF [allBx.put a.toNat s]).map B.enc))),(5,.nI 0)],
   Arx.set (Arx.set H (4*(nx+9)) (.buf 0 16 [(allBx.put a.toNat s).enc.map AV.iv])) (4*(nx+9)) (.imm 0 16 [(allBx.put a.toNat s).enc]),nx+13⟩:=by
 obtain⟨ha0,ha4,hsm⟩:=one_atom (allX_mk h).2;obtain⟨i,rfl⟩:∃i:Nat,a=(i:Int):=⟨a.toNat,by omega⟩;have hi:i<4:=by omega
 have hbl:(allBx.put i s).lim 1000 400:=limM (allBx_put_lim hs hsm false i) (by omega) (by omega);simp only[Int.toNat_natCast];obtain⟨K2,hK2⟩:=call26 L s hi;obtain⟨K3,hK3⟩:=call47 L (l:=[allBx.put i s]) (by simp) (λb hb=>by simp only[List.mem_singleton]at hb;subst hb;exact hbl);refine⟨max K2 K3,λn hn=>?_⟩;have e2:=hK2 n (by omega);have e3:=hK3 n (by omega);generalize allBx.put i s=b at *;generalize one p1 n=c1 at *;subst hfr;simp only[S.enc,List.map_cons,List.map_nil]at e2;have hfz:(fz1 true (.own (4*(nx+9)) 0 1 0)).run (Arx.set H (4*(nx+9)) (.buf 0 16 [b.enc.map AV.iv]))=some (.iv (.sl 16 [b.enc]),Arx.set (Arx.set H (4*(nx+9)) (.buf 0 16 [b.enc.map AV.iv])) (4*(nx+9)) (.imm 0 16 [b.enc])):=by
  unfold fz1 fz;simp[M.run,M.look,Mrun_bindZ,get_set_same,M.ok,M.bind,M.mapL,enc_fz,M.write]
 have e3':=e3 _ _ _ hfz;have hlen:=enc_len16 b;generalize b.enc.map AV.iv=cs at *;rcases hv with rfl | ⟨id,hid,rfl,h3⟩
 ·simp[opsB,F185,evalFeet,Xp.enc,e2,e3',hf,Nat.add_assoc,hlen,setAll,footOf];unfold orderOk;rw[Bool.or_eq_true];right;simp[apartAll,apart1,clash,meets,M.foot]
 ·simp[opsB,F185,evalFeet,Xp.enc,e2,e3',hf,h3,Nat.add_assoc,hlen,setAll,footOf];unfold orderOk;rw[Bool.or_eq_true];right;simp[apartAll,apart1,clash,meets,M.foot,M.bind,M.ok,M.lift,mk,obRead,Xp.enc,h3]
end
section
variable {p1:Nat->Option Arb.IFn} {p2:Nat->Option IFn}
theorem LB.nil (H:Hp) (n:Nat):LB H n (.iv (.nsl 16)) []:=.inl ⟨rfl,rfl⟩
theorem LB.sl (H:Hp) (n:Nat) (l:List B):LB H n (.iv (.sl 16 (l.map B.enc))) l:=.inr (.inl rfl)
theorem LB.cell {H:Hp} {n:Nat} {y:AV} {l:List B} (h:LB H n y l):cellsM y = .ret [y]:=by
 rcases h with⟨rfl, -⟩|rfl | ⟨id, -,rfl, -⟩<;>rfl
theorem Ext.set {H H':Hp} {n n' id:Nat} (h:Ext H n H' n') (h1:4*n<=id) (h2:id<4*n') (o:Ob):Ext H n (Arx.set H' id o) n':=
 ⟨h.le,λk hk=>by rw[get_set_ne _ _ (by omega)];exact h.fresh k hk,λk hk=>by rw[get_set_ne _ _ (by omega)];exact h.old k hk⟩
theorem Ext.up {H H':Hp} {n n' n'':Nat} (h:Ext H n H' n') (hn:n'<=n''):Ext H n H' n'':=⟨Nat.le_trans h.le hn,λk hk=>h.fresh k (by omega),h.old⟩
theorem next_ok (hp2:PrimsLe p2) (L:LibB p1 p2) (both neg:Bool) {l m:List B} (hl:l.length<=16) (hm:m.length<=16) {q1 k1 q2 k2:Nat} (hL:∀b ∈ l,b.lim q1 k1) (hM:∀b ∈ m,b.lim q2 k2) (hq:q1+q2+3<=1000) (hk:k1+k2<=400) (v:AV) (a b c:AV) (y z:AV) (H:Hp) (nx n0:Nat) (hn0:n0<=nx) (hf:Fresh H nx) (H0:Hp)
  (hE:Ext H0 n0 H nx) (hy:LB H nx y l) (hz:LB H nx z m) (hown:∀k,(y = .own k 0 l.length 0\/z = .own k 0 m.length 0)->4*n0<=k) {Q:Ex->St->Prop}
  (hQ:∀(H':Hp) (nx':Nat),Ext H0 n0 H' nx'->Q .norm ⟨[(0,v),(1,a),(6,.iv (.sl 16 ((nextB both l m).map B.enc))),(7,.bI both),(25,b),(26,c)],H',nx'⟩) :
  Wp p1 p2 (.seq (.rgn false [⟨some 43,.mov (.t 7),none,[]⟩] [0,1,6,7,9,25,26,43])
  (.cond (.t 43) (.rgn false [⟨some 44,.mov (.t 6),none,[]⟩,
  ⟨some 45,.mov (.t 9),none,[]⟩,
  ⟨some 46,.call 3 (.c (.iv (.fn 121 []))) [.t 44,.t 45],none,[]⟩,
  ⟨some 47,.call 3 (.c (.iv (.fn 47 []))) [.t 46],none,[]⟩,
  ⟨some 6,.mov (.t 47),none,[]⟩] [0,1,6,7,25,26])
  (.rgn false [⟨some 48,.mov (.t 6),none,[]⟩,
  ⟨some 49,.mov (.t 9),none,[]⟩,
  ⟨some 50,.bsl 1 [.iv (.nsl 16)] 2 [(0,.t 48),(1,.t 49)],none,[]⟩,
  ⟨some 51,.scall (.c (.iv (.fn 187 []))) [.t 50],none,[]⟩,
  ⟨some 52,.call 3 (.c (.iv (.fn 47 []))) [.t 51],none,[]⟩,
  ⟨some 6,.mov (.t 52),none,[]⟩] [0,1,6,7,25,26])))
   ⟨[(0,v),(1,a),(6,y),(7,.bI both),(9,z),(25,b),(26,c)],H,nx⟩ Q:=by
 refine WpsgZ ?_;refine WpcondZ rfl ?_;have hL':∀b ∈ l,b.lim 1000 400:=λb hb=>limM (hL b hb) (by omega) (by omega)
 have hM':∀b ∈ m,b.lim 1000 400:=λb hb=>limM (hM b hb) (by omega) (by omega)
 cases both with
 |true=>
  simp only[if_true];obtain⟨K1,hK1⟩:=call121 L (a:=l) (b:=m) (by omega) (by omega) hL' hM';obtain⟨K2,hK2⟩:=call47 L (l:=prodF l m) (Nat.le_trans (prodF_len _ _) (Nat.le_trans (Nat.mul_le_mul hl hm) (by omega))) (λb hb=>by
   obtain⟨x,hx,y,hy,rfl⟩:=prodF_mem hb;exact limM (andB_lim (hL x hx) (hM y hy)) (by omega) (by omega))
  obtain⟨H1,f1,f1a,f1b,f1c⟩:=hy.fz1;obtain⟨H2,f2,f2a,f2b,f2c⟩:=(f1b _ _ _ hz).fz1;have hE2:Ext H0 n0 H2 (nx+1+5):=by
   refine⟨by omega,λk hk=>?_,λk hk=>?_⟩
   ·rw[f2a k (by omega),f1a k (by omega)];exact hf k (by omega)
   ·rw[f2c k (λe=>by have:=hown k (.inr e);omega),f1c k (λe=>by have:=hown k (.inl e);omega)];exact hE.old k hk
  refine WprgnZ (K:=max K1 K2) (s':=⟨[(0,v),(1,a),(6,.iv (.sl 16 ((nextB true l m).map B.enc))),(7,.bI true),(25,b),(26,c)],H2,nx+1+5⟩) (λn hn=>by
   have e1:=hK1 n (by omega) H H1 H2 y z f1 f2;have e2:=hK2 n (by omega) H2 H2 (.iv (.sl 16 ((prodF l m).map B.enc))) rfl;have h3:nextB true l m=tidyF (prodF l m):=rfl;rw[h3];generalize tidyF (prodF l m)=t at *;generalize prodF l m=u at *;simp[e1,e2]) ?_
  exact hQ _ _ hE2
 |false=>
  simp only[Bool.false_eq_true,if_false];obtain⟨K2,hK2⟩:=call47 L (l:=l++m) (by rw[List.length_append];omega) (λb hb=>(List.mem_append.1 hb).elim (hL' b) (hM' b));have hfr:get H (4*(nx+1+2))=none:=hf _ (by omega);obtain⟨H3,n3,w,hE3,hw,hwo,K3,hK3⟩:=ev187 (p1:=p1) hp2 L.h188 L.h187 (Arx.set H (4*(nx+1+2)) (.buf 0 1 [[y],[z]])) (nx+1+6) (4*(nx+1+2)) y z l m (by omega) (get_set_same _ _ _) (λk hk=>by rw[get_set_ne _ _ (by omega)];exact hf k (by omega))
   (hy.mono (by omega) λk hk=>get_set_ne _ _ (by omega)) (hz.mono (by omega) λk hk=>get_set_ne _ _ (by omega)) (by omega)
  obtain⟨H4,f1,f1a,f1b,f1c⟩:=hw.fz1;have hE4:Ext H0 n0 H4 n3:=by
   refine⟨by have:=hE3.le;omega,λk hk=>?_,λk hk=>?_⟩
   ·rw[f1a k (by omega)];exact hE3.fresh k hk
   ·rw[f1c k (λe=>by have:=hwo _ _ _ _ e;omega),hE3.old k (by omega),get_set_ne _ _ (by omega)];exact hE.old k hk
  refine WprgnZ (K:=max K2 K3) (s':=⟨[(0,v),(1,a),(6,.iv (.sl 16 ((nextB false l m).map B.enc))),(7,.bI false),(25,b),(26,c)],H4,n3⟩) (λn hn=>by
   have e1:=hK3 n (by omega);have e2:=hK2 n (by omega) H3 H4 w f1;have h3:nextB false l m=tidyF (l++m):=rfl;rw[h3];generalize tidyF (l++m)=t at *;simp only[Nat.add_assoc,Nat.reduceAdd]at e1 hfr;have c1:=hy.cell;have c2:=hz.cell;simp[-cellsM,c1,c2,hfr,setAll,Nat.add_assoc,e1,e2]) ?_
  exact hQ _ _ hE4
theorem boxesX_atom (neg:Bool) (a:Int) (s:S) (sub:List Xp):boxesX neg (.mk 1 a s sub)=(tidyF [allBx.put a.toNat (if neg then notS s else s)],0):=by
 conv=>lhs;unfold boxesX
 rw[if_pos rfl]
theorem cnt_pos (x:Xp):1<=cnt x:=by cases x;unfold cnt;omega
theorem cntL_cons (z:Xp) (l:List Xp):cntL (z::l)=cnt z+cntL l:=by conv=>lhs;unfold cntL
theorem cntL_nil:cntL []=0:=by unfold cntL;rfl
theorem cntL_take {sub:List Xp} {i:Nat} {x:Xp} (h:sub[i]?=some x):cntL (sub.take (i+1))=cntL (sub.take i)+cnt x:=by
 have key:∀(l:List Xp) (y:Xp),cntL (l++[y])=cntL l+cnt y:=by
  intro l y
  induction l with
  |nil=>rw[List.nil_append,cntL_cons,cntL_nil];omega
  |cons z l ih=>rw[List.cons_append,cntL_cons,cntL_cons,ih];omega
 rw[List.take_add_one,h];exact key _ _
theorem cntL_drop (sub:List Xp) (i:Nat):cntL sub=cntL (sub.take i)+cntL (sub.drop i):=by
 induction sub generalizing i with
 |nil=>simp[cntL_nil]
 |cons z l ih=>
  cases i with
  |zero=>simp[cntL_nil]
  |succ i=>rw[List.take_succ_cons,List.drop_succ_cons,cntL_cons,cntL_cons,ih i];omega
set_option maxHeartbeats 2000000 in
theorem ev185 (hp2:PrimsLe p2) (L:LibB p1 p2) {x:Xp} (hx:x.ok):∀(neg:Bool) (v:AV) (H:Hp) (nx:Nat),allX x=true->cnt x<=40->PZ H nx v x->Fresh H nx->
  ∃H' nx' y,Ext H nx H' nx'/\LB H' nx' y (boxesX neg x).1/\(∀k o n w,y = .own k o n w->4*nx<=k)/\Ev p1 p2 185 [v,.bI neg] H nx (.tup [y,.iv (.int .i64 (boxesX neg x).2)],H',nx'):=by
 induction hx with
 |@mk k a s sub hk ha hs hl hsub ih=>
  intro neg v H nx hall hcnt hv hf;obtain⟨hall1,hone⟩:=allX_mk hall;have hcX:cnt (.mk k a s sub)=1+cntL sub:=by conv=>lhs;unfold cnt
  rw[hcX]at hcnt;have key:Wp p1 p2 F185.body ⟨params [v,.bI neg] 0,H,nx⟩ (λe st=>∃r:AV×Hp×Nat,(∃y,r.1 = .tup [y,.iv (.int .i64 (boxesX neg (.mk k a s sub)).2)]/\Ext H nx r.2.1 r.2.2/\LB r.2.1 r.2.2 y (boxesX neg (.mk k a s sub)).1/\(∀k o n w,y = .own k o n w->4*nx<=k))/\Fin F185.res r e st):=by
   refine WpsgZ ?_;refine WpsgZ ?_;refine ab (ab ?_);have hbeq:∀n:Int,(k==n)=decide (k=n):=λn=>by by_cases h:k=n<;>simp[h]
   refine Wpr0Z (s':=⟨[(0,v),(1,.bI neg),(6,.iv (.nsl 16)),(7,.bI (decide (k=2) != neg))],H,nx+11⟩) (by
    rcases hv with rfl | ⟨id,hid,rfl,h3⟩
    ·simp[Xp.enc,hbeq];cases decide (k=2)<;>cases neg<;>rfl
    ·simp[h3,Xp.enc,hbeq];cases decide (k=2)<;>cases neg<;>rfl) ?_
   refine WpblockZ (Wps0Z (s':=⟨[(0,v),(1,.bI neg),(6,.iv (.nsl 16)),(7,.bI (decide (k=2) != neg)),(57,.bI (decide (k=1)&&neg))],H,nx+20⟩) (by
    rcases hv with rfl | ⟨id,hid,rfl,h3⟩
    ·cases hb:decide (k=1)<;>simp[Xp.enc,hbeq,hb]
    ·cases hb:decide (k=1)<;>simp[h3,Xp.enc,hbeq,hb]) ?_)
   refine WpcondZ rfl ?_;by_cases k1:k=1
   ·subst k1;rw[boxesX_atom];cases neg with
    |true=>
     simp only[decide_true,Bool.and_self,if_true];refine ab ?_;have hv2:PZ H (nx+20) v (.mk 1 a s sub):=hv.ext (.refl hf (by omega));obtain⟨K,hK⟩:=atomA L hs hall v H (nx+20) hv2 (hf _ (by omega)) _ rfl;refine WprgnZ (K:=K) (λn hn=>hK n hn) ?_;refine WpretZ ⟨(_,_,_),⟨_,rfl,?_,LB.sl _ _ _,λk o n w h=>by cases h⟩,rfl,rfl⟩;exact((Ext.refl hf (show nx<=nx+20+14 by omega)).set (by omega) (by omega) _).set (by omega) (by omega) _
    |false=>
     simp only[decide_true,Bool.and_false,Bool.false_eq_true,if_false];refine Wps0Z (s':=⟨[(0,v),(1,.bI false),(6,.iv (.nsl 16)),(7,.bI (decide ((1:Int)=2) != false)),(78,.bI true)],H,nx+26⟩) (by
      rcases hv with rfl | ⟨id,hid,rfl,h3⟩
      ·simp[Xp.enc]
      ·simp[h3,Xp.enc]) ?_
     refine WpcondZ (t:=true) rfl ?_;simp only[if_true];refine ab ?_;have hv2:PZ H (nx+26) v (.mk 1 a s sub):=hv.ext (.refl hf (by omega));obtain⟨K,hK⟩:=atomB L hs hall v H (nx+26) hv2 (hf _ (by omega)) _ rfl;refine WprgnZ (K:=K) (λn hn=>hK n hn) ?_;refine WpretZ ⟨(_,_,_),⟨_,rfl,?_,LB.sl _ _ _,λk o n w h=>by cases h⟩,rfl,rfl⟩;exact((Ext.refl hf (show nx<=nx+26+13 by omega)).set (by omega) (by omega) _).set (by omega) (by omega) _
   ·have hX:boxesX neg (.mk k a s sub)=if k=4 then boxes1 (!neg) sub else boxesL neg (decide (k=2) != neg) sub (if decide (k=2) != neg then[allBx] else[]):=by
     conv=>lhs;unfold boxesX
     rw[if_neg k1]
    rw[decide_eq_false k1];simp only[Bool.false_and,Bool.false_eq_true,if_false];refine Wps0Z (s':=⟨[(0,v),(1,.bI neg),(6,.iv (.nsl 16)),(7,.bI (decide (k=2) != neg)),(78,.bI false)],H,nx+26⟩) (by
     have:=decide_eq_false k1;rcases hv with rfl | ⟨id,hid,rfl,h3⟩
     ·simp[Xp.enc,hbeq,this]
     ·simp[h3,Xp.enc,hbeq,this]) ?_
    refine WpcondZ (t:=false) rfl ?_;simp only[Bool.false_eq_true,if_false];refine Wps0Z (s':=⟨[(0,v),(1,.bI neg),(6,.iv (.nsl 16)),(7,.bI (decide (k=2) != neg)),(95,.bI (decide (k=4)))],H,nx+32⟩) (by
     rcases hv with rfl | ⟨id,hid,rfl,h3⟩
     ·simp[Xp.enc,hbeq]
     ·simp[h3,Xp.enc,hbeq]) ?_
    refine WpcondZ rfl ?_;by_cases k4:k=4
    ·subst k4;rw[if_pos rfl]at hX;obtain⟨x0,rfl⟩:=one_not hone;have hX2:boxesX neg (.mk 4 a s [x0])=boxesX (!neg) x0:=by rw[hX];unfold boxes1;rfl
     rw[hX2];simp only[decide_true,if_true];refine ab ?_;have hc0:cntL [x0]=cnt x0:=by unfold cntL;unfold cntL;rfl
     obtain⟨H',n',y,hE,hy,hyo,K,hK⟩:=ih x0 (by simp) (!neg) (.iv (.ptr x0.enc)) H (nx+32+12) (hall1 x0 (by simp)) (by omega) (.inl rfl) (λk hk=>hf k (by omega));generalize boxesX (!neg) x0=r at *;refine WprgnZ (K:=K) (s':=⟨[(4,y),(5,.nI r.2)],H',n'⟩) (λn hn=>by
      have hc:=hK n hn;rcases hv with rfl | ⟨id,hid,rfl,h3⟩
      ·simp[Xp.enc,Xp.encs_map,hc]
      ·simp[h3,Xp.enc,Xp.encs_map,hc]) ?_
     refine WpretZ ⟨(_,_,_),⟨y,rfl,⟨by have:=hE.le;show nx<=n';omega,hE.fresh,λk hk=>hE.old k (by omega)⟩,hy,λk o n w h=>by have:=hyo k o n w h;omega⟩,rfl,rfl⟩
    ·rw[if_neg k4]at hX;rw[hX,decide_eq_false k4];simp only[Bool.false_eq_true,if_false];clear hX;generalize(decide (k=2) != neg)=both at *;refine ab (WpsgZ ?_);generalize hl0:(if both then[allBx] else[])=l0;have hmid:Wp p1 p2 (.cond (.t 18) (.rgn false [⟨some 19,.call 3 (.c (.iv (.fn 42 []))) [],none,[]⟩,
       ⟨some 20,.bsl 16 [.bI false,.iv (.nsl 2),.bI false,.iv (.nsl 1),.bI false,.iv (.nsl 2),.bI false,.iv (.nsl 1),.bI false,.iv (.nsl 2),.bI false,.iv (.nsl 1),.bI false,.iv (.nsl 2),.bI false,.iv (.nsl 1)] 1 [(0,.t 19)],none,[]⟩,
       ⟨some 6,.mov (.t 20),none,[]⟩] [0,1,6,7]) .skip) ⟨[(0,v),(1,.bI neg),(6,.iv (.nsl 16)),(7,.bI both),(18,.bI both)],H,nx+33⟩
       (λe st=>e = .norm/\∃(H0:Hp) (n0:Nat) (y0:AV),Ext H nx H0 n0/\LB H0 n0 y0 l0/\(∀k o n w,y0 = .own k o n w->4*nx<=k)/\∃z,(z=[]\/z=[(18,.bI false)])/\st=⟨[(0,v),(1,.bI neg),(6,y0),(7,.bI both)]++z,H0,n0⟩):=by
      refine WpcondZ rfl ?_;cases both with
      |false=>
       subst hl0;exact WpskipZ ⟨rfl,H,nx+33,_,.refl hf (by omega),LB.nil _ _,(λk o n w h=>by cases h),[(18,.bI false)],.inr rfl,rfl⟩
      |true=>
       subst hl0;simp only[if_true];obtain⟨K,hK⟩:=L.hA;have hfr:get H (4*(nx+34))=none:=hf _ (by omega);refine WprgnZ (K:=K) (s':=⟨_,Arx.set H (4*(nx+34)) (.buf 0 16 [bxC allBx]),nx+36⟩) (λn hn=>by
        have e:(one p1 n 42 [] []).bind shut=some (.agg (allBx.enc.map Arb.AV.iv)):=hK n hn;have hlen:=enc_len16 allBx;have hc:(fcallM (one p1 n) (.iv (.fn 42 [])) []).run H=some (.agg (allBx.enc.map AV.iv),H):=by
         simp[fcallM,callee,Mrun_bindZ,M.lift,M.run,M.mapL,e,ofA,of1,allIv_iv]
        unfold bxC;generalize allBx.enc.map AV.iv=cs at *;simp[hc,hfr,hlen,setAll,Nat.add_assoc];rfl) ?_
       exact⟨rfl,_,nx+36,_,(Ext.refl hf (show nx<=nx+36 by omega)).set (by omega) (by omega) _,.inr (.inr ⟨4*(nx+34),by omega,rfl,.inl (get_set_same _ _ _)⟩),(λk o n w h=>by cases h;omega),[],.inl rfl,rfl⟩
     refine Wp.mono hmid ?_;rintro e st ⟨rfl,H0,n0,y0,hE0,hy0,hyo0,z,hz,rfl⟩;simp only[Ex.then];have hv0:=hv.ext hE0;refine Wps0Z (s':=⟨[(0,v),(1,.bI neg),(6,y0),(7,.bI both),(25,.nI sub.length),(26,.nI 0)],H0,n0+6⟩) (by
      rcases hz with rfl | rfl
      ·rcases hv0 with rfl | ⟨id,hid,rfl,h3⟩
       ·simp[Xp.enc,Xp.encs_map]
       ·simp[h3,Xp.enc,Xp.encs_map]
      ·rcases hv0 with rfl | ⟨id,hid,rfl,h3⟩
       ·simp[Xp.enc,Xp.encs_map]
       ·simp[h3,Xp.enc,Xp.encs_map]) ?_
     refine WpblockZ ?_;have hlim0:∀b ∈ l0,b.lim (1+10*0) (6*0):=λb hb=>by
      rw[<-hl0]at hb;split at hb
      ·simp only[List.mem_singleton]at hb;subst hb;exact limM allBx_lim (by omega) (by omega)
      ·simp at hb
     have hlen0:l0.length<=16:=by rw[<-hl0];split<;>simp
     refine WploopZ (λm s1=>∃(i n2:Nat) (y:AV) (H2:Hp) (l:List B),i+m=sub.length/\boxesL neg both (sub.drop i) l=boxesL neg both sub l0/\Ext H nx H2 n2/\LB H2 n2 y l/\(∀k o n w,y = .own k o n w->4*nx<=k)/\l.length<=16/\
      (∀b ∈ l,b.lim (1+10*cntL (sub.take i)) (6*cntL (sub.take i)))/\s1=⟨[(0,v),(1,.bI neg),(6,y),(7,.bI both),(25,.nI sub.length),(26,.nI i)],H2,n2⟩) (m:=sub.length)
      ⟨0,n0+6,y0,H0,l0,by omega,rfl,hE0.up (by omega),hy0.mono (by omega) λ_ _=>rfl,hyo0,hlen0,by simpa[cntL_nil]using hlim0,by simp[fr_cons,keepFr]⟩ ?_
     rintro m s1 ⟨i,n2,y,H2,l,him,hbx,hE2,hy,hyo,hlen,hlim,rfl⟩;refine ab ?_;by_cases hi:i<sub.length
     ·have hx:sub[i]?=some sub[i]:=List.getElem?_eq_getElem hi;have hdr:sub.drop i=sub[i]::sub.drop (i+1):=List.drop_eq_getElem_cons hi;have hwi:IntKind.i64.wrap ((i:Int)+1)=(i:Int)+1:=wrap_succ hi hl;have hct:=cntL_take hx;have hcd:=cntL_drop sub (i+1);have hv2:=hv.ext hE2;obtain⟨q1,q2⟩:=boxes_lim (hsub _ (List.getElem_mem hi)) neg (hall1 _ (List.getElem_mem hi));obtain⟨H3,n3,y3,hE3,hy3,hyo3,K,hK⟩:=ih sub[i] (List.getElem_mem _) neg (.iv (.ptr (sub[i]).enc)) H2 (n2+3+13) (hall1 _ (List.getElem_mem _)) (by omega) (.inl rfl) (λk hk=>hE2.fresh k (by omega));rw[hdr]at hbx
      conv at hbx=>lhs;unfold boxesL
      have hcp0:1<=cnt sub[i]:=cnt_pos _;generalize cnt sub[i]=cn at *;generalize boxesX neg sub[i]=r at *;obtain⟨m2,e⟩:=r;simp only at hbx hy3 hK q1 q2;refine Wpr0Z (by simp[hi];rfl) ?_;refine ab (WpcondZ (t:=true) rfl (WpskipZ (ab (WpblockZ (Wps0Z (by simp;rfl) ?_)))));refine WpskZ (K:=K) (s':=⟨[(0,v),(1,.bI neg),(6,y),(7,.bI both),(9,y3),(10,.nI e),(25,.nI sub.length),(26,.nI i)],H3,n3⟩) (λn hn=>by
       have hc:=hK n hn;rcases hv2 with rfl | ⟨id,hid,rfl,h3⟩
       ·simp[Xp.enc,Xp.encs_map,hx,hc]
       ·simp[h3,Xp.enc,Xp.encs_map,hx,hc]) ?_
      have hE23:Ext H nx H3 n3:=hE2.trans ⟨by have:=hE3.le;omega,hE3.fresh,λk hk=>hE3.old k (by omega)⟩;refine ab (WpsgZ ?_);refine WpcondZ rfl ?_;by_cases he:e=0
      ·subst he;simp only[ne_eq,not_true_eq_false,if_false]at hbx;refine WpskipZ ?_;simp only[Ex.then];refine ab ?_;have hy':LB H3 (n3+2) y l:=hy.mono (by have:=hE3.le;omega) λk hk=>hE3.old k (by omega)
       refine next_ok hp2 L both neg hlen q2 hlim q1 (by omega) (by omega) v (.bI neg) (.nI sub.length) (.nI i) y y3 H3 (n3+2) nx (by have:=hE23.le;omega) (λk hk=>hE23.fresh k (by omega)) H (hE23.up (by omega)) hy' (hy3.mono (by omega) λ_ _=>rfl)
        (λk hk=>by
         rcases hk with hk | hk
         ·exact hyo _ _ _ _ hk
         ·have:=hyo3 _ _ _ _ hk;have:=hE2.le;omega) ?_
       intro H4 n4 hE4;simp only[Ex.then];have hnl:=nextB_lim (both:=both) hlim q1;generalize nextB both l m2=l4 at *;refine Wps0Z (by
        have:decide ((16:Int)<(l4.length:Int))=decide (16<l4.length):=decide_eq_decide.2 (by omega);simp[this];rfl) ?_
       refine WpcondZ rfl ?_;by_cases h16:16<l4.length
       ·rw[if_pos h16]at hbx;rw[decide_eq_true h16];simp only[if_true];refine WpsgZ ?_;refine WpretZ ?_;rw[<-hbx];exact⟨(_,_,_),⟨_,rfl,hE4.up (show n4<=n4+3+2 by omega),LB.nil _ _,λk o n w h=>by cases h⟩,rfl,rfl⟩
       ·rw[if_neg h16]at hbx;rw[decide_eq_false h16];simp only[Bool.false_eq_true,if_false];refine WpskipZ ?_;simp only[Ex.then,Ex.inBlock];refine Wpr0Z (by simp[hwi];rfl) ?_;refine⟨m - 1,by omega,i+1,n4+3+2,_,H4,l4,by omega,hbx,hE4.up (by omega),LB.sl _ _ _,(λk o n w h=>by cases h),by omega,λb hb=>limM (hnl b hb) (by omega) (by omega),by simp[fr_cons,keepFr]⟩
      ·have hne:(e==0)=false:=beq_eq_false_iff_ne.2 he;simp only[ne_eq,he,not_false_eq_true,if_true]at hbx;rw[show(e != 0)=true from bne_iff_ne.2 he];simp only[if_true];refine WpsgZ ?_;refine WpretZ ?_;rw[<-hbx];exact⟨(_,_,_),⟨_,rfl,hE23.up (show n3<=n3+2+3 by omega),LB.nil _ _,λk o n w h=>by cases h⟩,rfl,rfl⟩
     ·have hdr:sub.drop i=[]:=List.drop_eq_nil_of_le (by omega);rw[hdr]at hbx
      conv at hbx=>lhs;unfold boxesL
      refine Wpr0Z (by simp[hi];rfl) ?_;refine ab (WpcondZ (t:=false) rfl (WpexitZ ?_));simp only[Ex.then,Ex.inBlock,if_true];refine WpsgZ ?_;refine WpretZ ?_;rw[<-hbx];exact⟨(_,_,_),⟨y,rfl,hE2.up (show n2<=n2+1+3 by omega),hy.mono (by show n2<=n2+1+3;omega) λ_ _=>rfl,hyo⟩,rfl,rfl⟩
  obtain⟨⟨y,H',nx'⟩,⟨y',rfl,h1,h2,h3⟩,h4⟩:=Ev.ofx hp2 L.h185 rfl rfl _ key;exact⟨H',nx',y',h1,h2,h3,h4⟩
end
mutual
theorem meas_cnt:∀(x:Xp) (left:Nat) (p:Int),(meas left x p).2.2=true->(meas left x p).1=p+cnt x
 |.mk k a s sub,left,p,h=>by
  unfold meas at h ⊢;unfold cnt;split at h
  ·simp at h
  ·rename_i hs;rw[if_neg hs];have:=measL_cnt sub (left - 1) (p+1) 0 h;rw[this];omega
theorem measL_cnt:∀(l:List Xp) (left:Nat) (p d:Int),(measL left l p d).2.2=true->(measL left l p d).1=p+cntL l
 |[],left,p,d,h=>by unfold measL cntL;simp
 |x::l,left,p,d,h=>by
  unfold measL at h ⊢;split at h
  ·rename_i hok;rw[if_pos hok];have h1:=meas_cnt x left p hok;have h2:=measL_cnt l left _ _ h;rw[cntL_cons,h2,h1];omega
  ·simp at h
end
theorem right_cnt {x:Xp} (h:rightX x=true):cnt x<=40/\allX x=true:=by
 unfold rightX at h;rw[Bool.and_eq_true,decide_eq_true_eq]at h;refine⟨?_,h.2⟩;have h1:=h.1;unfold sizeX at h1;split at h1
 ·rename_i hok;have a:=meas_cnt x 8 0 hok;have b:=(meas_in x 8 0 (by omega) (by omega)).2.2.2.2 hok;omega
 ·simp at h1
def ofX (x:Xp):List B×Int:=if rightX x then(if(boxesX false x).2=0/\rightF (boxesX false x).1=true then((boxesX false x).1,0) else([],4)) else([],2)
section
variable {p1:Nat->Option Arb.IFn} {p2:Nat->Option IFn}
structure LibO (p1:Nat->Option Arb.IFn) (p2:Nat->Option IFn):Prop extends LibB p1 p2 where
 h46:p1 46=some Arb.F46
 h45:p1 45=some Arb.F45
 h30:p1 30=some Arb.F30
 h184:p2 184=some F184
set_option maxHeartbeats 1000000 in
theorem ev184 (hp2:PrimsLe p2) (L:LibO p1 p2) {x:Xp} (hx:x.ok) (H:Hp) (nx:Nat) (hf:Fresh H nx):∃H' nx' y,Ext H nx H' nx'/\LB H' nx' y (ofX x).1/\(∀k o n w,y = .own k o n w->4*nx<=k)/\
  Ev p1 p2 184 [.agg (x.enc.map .iv)] H nx (.tup [y,.iv (.int .i64 (ofX x).2)],H',nx'):=by
 have f0:=hf (4*nx) (by omega);have hlen:(x.enc.map AV.iv).length=7:=by rw[List.length_map];exact x.len_enc
 have htk:(x.enc.map AV.iv).take 7=x.enc.map AV.iv:=List.take_of_length_le (by omega);have hE1:Ext H nx (Arx.set H (4*nx) (.cells (x.enc.map .iv))) (nx+3):=(Ext.refl hf (by omega)).set (by omega) (by omega) _;obtain⟨H1,n1,hE2,K1,hK1⟩:=ev186 (p1:=p1) hp2 L.toLibX hx (Arx.set H (4*nx) (.cells (x.enc.map .iv))) (nx+3+3) (λk hk=>hE1.fresh k (by omega));have hE12:Ext H nx H1 n1:=hE1.trans ⟨by have:=hE2.le;omega,hE2.fresh,λk hk=>hE2.old k (by omega)⟩;have hg:get H1 (4*nx)=some (.cells (x.enc.map .iv)):=by rw[hE2.old _ (by omega)];exact get_set_same _ _ _
 have key:Wp p1 p2 F184.body ⟨params [.agg (x.enc.map .iv)] 0,H,nx⟩ (λe st=>∃r:AV×Hp×Nat,(∃y,r.1 = .tup [y,.iv (.int .i64 (ofX x).2)]/\Ext H nx r.2.1 r.2.2/\LB r.2.1 r.2.2 y (ofX x).1/\(∀k o n w,y = .own k o n w->4*nx<=k))/\Fin F184.res r e st):=by
  refine Wps0Z (s':=⟨[(1,.ref (4*nx) 0 0 0)],Arx.set H (4*nx) (.cells (x.enc.map .iv)),nx+3⟩) (by simp[f0]) ?_;refine ab (ab ?_);unfold ofX;generalize hcs:x.enc.map AV.iv=cs at *;cases hr:rightX x with
  |false=>
   rw[hr]at hK1;refine WprgnZ (K:=K1) (s':=⟨[(1,.ref (4*nx) 0 0 0),(8,.bI true)],H1,n1⟩) (λn hn=>by
    have hc:=hK1 n hn;simp[hlen,htk,hc]) ?_
   refine WpcondZ (t:=true) rfl ?_;simp only[if_true];refine WpsgZ ?_;exact WpretZ ⟨(_,_,_),⟨_,rfl,hE12.up (show n1<=n1+2 by omega),LB.nil _ _,λk o n w h=>by cases h⟩,rfl,rfl⟩
  |true=>
   rw[hr]at hK1;obtain⟨hcn,hall⟩:=right_cnt hr;obtain⟨b1,b2⟩:=boxes_lim hx false hall;obtain⟨H2,n2,y,hE3,hy,hyo,K2,hK2⟩:=ev185 (p1:=p1) hp2 L.toLibB hx false (.ref (4*nx) 0 0 0) H1 (n1+6) hall hcn (.inr ⟨4*nx,by have:=hE12.le;have:=hE2.le;omega,rfl,by rw[hcs];exact hg⟩) (λk hk=>hE12.fresh k (by omega));have hE13:Ext H nx H2 n2:=hE12.trans ⟨by have:=hE3.le;omega,hE3.fresh,λk hk=>hE3.old k (by omega)⟩;refine WprgnZ (K:=K1) (s':=⟨[(1,.ref (4*nx) 0 0 0),(8,.bI false)],H1,n1⟩) (λn hn=>by
    have hc:=hK1 n hn;simp[hlen,htk,hc]) ?_
   refine WpcondZ (t:=false) rfl (WpskipZ ?_);simp only[Ex.then];refine ab ?_;generalize hbx:boxesX false x=r at *;obtain⟨l,e⟩:=r;simp only at b1 b2 hy hK2;refine WprgnZ (K:=K2) (s':=⟨[(4,y),(5,.nI e)],H2,n2⟩) (λn hn=>by
    have hc:=hK2 n hn;simp[hc]) ?_
   obtain⟨K3,hK3⟩:=p_rightF L.L9 L.h24 L.h46 L.h58 L.h45 L.h30 l (by omega) (λb hb=>limM (b1 b hb) (by omega) (by omega));refine ab (WpskZ (K:=K3) (s':=⟨[(4,y),(19,.bI (!(decide (e=0)&&rightF l)))],H2,n2+7⟩) (λn hn=>by
    have hc:(one p1 n 30 [filt l] []).bind shut=some (.bI (rightF l)):=hK3 n hn;simp only[filt]at hc;have hz:=hy.fz0;have hcall:(callM (one p1 n) (.iv (.fn 30 [])) [y]).run H2=some (.bI (rightF l),H2):=by
     simp[callM,callee,Mrun_bindZ,M.lift,M.run,M.mapL,hz,hc,M.ok,flat,flat1,flat0,flatI,ofA,of1]
    have hb:(e==0)=decide (e=0):=by by_cases h:e=0<;>simp[h]
    have hb2:(e != 0)=!decide (e=0):=by rw[<-hb];rfl
    generalize rightF l=q at *;cases h0:decide (e=0)<;>simp[hcall,hb,hb2,h0]) ?_)
   refine WpcondZ rfl ?_;simp only[if_true];by_cases hok:e=0/\rightF l=true
   ·rw[if_pos hok];have:(!(decide (e=0)&&rightF l))=false:=by rw[decide_eq_true hok.1,hok.2];rfl
    rw[this];simp only[Bool.false_eq_true,if_false];refine WpskipZ ?_;simp only[Ex.then];refine WpsgZ ?_;exact WpretZ ⟨(_,_,_),⟨y,rfl,hE13.up (show n2<=n2+7+3 by omega),hy.mono (show n2<=n2+7+3 by omega) λ_ _=>rfl,λk o n w h=>by have:=hyo k o n w h;have:=hE12.le;omega⟩,rfl,rfl⟩
   ·rw[if_neg hok];have:(!(decide (e=0)&&rightF l))=true:=by
     by_cases h0:e=0
     ·have:rightF l=false:=Bool.eq_false_iff.2 λh=>hok ⟨h0,h⟩
      rw[this];simp
     ·rw[decide_eq_false h0];rfl
    rw[this];simp only[if_true];refine WpsgZ ?_;exact WpretZ ⟨(_,_,_),⟨_,rfl,hE13.up (show n2<=n2+7+2 by omega),LB.nil _ _,λk o n w h=>by cases h⟩,rfl,rfl⟩
 obtain⟨⟨y,H',nx'⟩,⟨y',rfl,h1,h2,h3⟩,h4⟩:=Ev.ofx hp2 L.h184 rfl rfl _ key;exact⟨H',nx',y',h1,h2,h3,h4⟩
end
def numC (n:Int):List AV:=[.iv (.int .i64 n)]
def IX (H:Hp) (n:Nat) (y:AV) (l:List Int):Prop:=∃id v,id<4*n/\id % 4=0/\y = .own id 0 l.length v/\get H id=some (.buf v 1 (l.map numC))
theorem IX.mono {H H':Hp} {n n':Nat} {y:AV} {l:List Int} (h:IX H n y l) (hn:n<=n') (ho:∀k,k<4*n->get H' k=get H k):IX H' n' y l:=by
 obtain⟨id,v,h1,h2,h3,h4⟩:=h;exact⟨id,v,by omega,h2,h3,by rw[ho id h1];exact h4⟩
def hdC (x:Hd):List AV:=x.enc.map AV.iv
theorem hdC_eq (x:Hd):hdC x=[.iv (.sl 1 (x.ps.map num1)),.iv (.sl 1 (x.hs.map num1)),.nI x.b,.iv (.int .u64 x.g)]:=rfl
section
variable {p1:Nat->Option Arb.IFn} {p2:Nat->Option IFn}
end
section
variable {p1:Nat->Option Arb.IFn} {p2:Nat->Option IFn}
end
theorem Wp.scope {p1:Nat->Option Arb.IFn} {p2:Nat->Option IFn} {b:IC} {s:St} {Q:Ex->St->Prop} (h:Wp p1 p2 b s Q):Wp p1 p2 (.scope b) s Q:=by
 obtain⟨K,ex,s',h,q⟩:=h;exact⟨K,ex,s',λn hn=>by simp only[evalC];exact h n hn,q⟩
def IB (H:Hp) (n:Nat) (y:AV) (l:List Int):Prop:=∃id v es,id<4*n/\y = .own id 0 l.length v/\get H id=some (.buf v 1 es)/\es.take l.length=l.map numC
structure LibW (p1:Nat->Option Arb.IFn) (p2:Nat->Option IFn):Prop where
 T:LibT p1
 h136:p2 136=some F136
 h180:p2 180=some F180
 h179:p2 179=some F179
 h178:p2 178=some F178
 h175:p2 175=some F175
 h182:p2 182=some F182
 h181:p2 181=some F181
section
variable {p1:Nat->Option Arb.IFn} {p2:Nat->Option IFn}
theorem hd_take (x:Hd):(hdC x).take 4=hdC x:=rfl
theorem hd_len (x:Hd):(hdC x).length=4:=rfl
theorem hd_fz8 (w:Bool) (x:Hd):M.mapL (fz w 8) (hdC x) = .ret x.enc:=by simp[hdC,Hd.enc,M.mapL,fz,M.bind]
end
def QE (e:Nat) (H:Hp) (n:Nat) (y:AV) (rows:List (List AV)):Prop:=(y = .iv (.nsl e)/\rows=[])\/∃id v,id<4*n/\id % 4=0/\y = .own id 0 rows.length v/\get H id=some (.buf v e rows)
theorem QE.nil (e:Nat) (H:Hp) (n:Nat):QE e H n (.iv (.nsl e)) []:=.inl ⟨rfl,rfl⟩
theorem QE.mono {e:Nat} {H H':Hp} {n n':Nat} {y:AV} {rows:List (List AV)} (h:QE e H n y rows) (hn:n<=n') (ho:∀k,k<4*n->get H' k=get H k):QE e H' n' y rows:=by
 rcases h with h | ⟨id,v,h1,h2,h3,h4⟩
 ·exact .inl h
 ·exact .inr ⟨id,v,by omega,h2,h3,by rw[ho id h1];exact h4⟩
theorem QE.len {e:Nat} {H:Hp} {n:Nat} {y:AV} {rows:List (List AV)} (h:QE e H n y rows):(Arx.len false y).run H=some (.nI rows.length,H):=by
 rcases h with⟨rfl,rfl⟩|⟨id,v,h1,h2,rfl,h4⟩
 ·rfl
 ·simp[Arx.len,M.run,M.look,Mrun_bindZ,h4,M.ok,M.bind]
theorem QE.push {e:Nat} {H:Hp} {n:Nat} {y:AV} {rows:List (List AV)} (h:QE e H n y rows) (r:List AV) {g slot:Nat} (hg:get H g=some (.buf 0 e [r])) (hgn:4*n<=g) (hs:n<=slot) (hfs:get H (4*slot)=none) (hr:rows.length+1<=1073741824) :
  ∃y' H',(app e slot false y (.own g 0 1 0)).run H=some (y',H')/\(∀m,slot<m->QE e H' m y' (rows++[r]))/\(∀k,(∀o n w,y≠.own k o n w)->k≠4*slot->get H' k=get H k)/\(∀k o n w,y' = .own k o n w->k=4*slot\/∃o n w,y = .own k o n w):=by
 have hel:(elemsS e (.own g 0 1 0)).run H=some ([r],H):=by simp[elemsS,elems,Mrun_bindZ,M.look,M.run,hg,M.ok,M.bind]
 rcases h with⟨rfl,rfl⟩|⟨id,v,h1,h2,rfl,h4⟩
 ·refine⟨.own (4*slot) 0 1 0,Arx.set H (4*slot) (.buf 0 e [r]),?_,λm hm=>.inr ⟨4*slot,0,by omega,by omega,rfl,get_set_same _ _ _⟩,λk _ hk=>get_set_ne _ _ (Ne.symm hk),λk o n w h=>by cases h;exact .inl rfl⟩;have h1:roomy 1=true:=by decide
  simp[app,Mrun_bindZ,hel,M.ok,M.fresh,M.write,M.run,hfs,M.bind,h1]
 ·have hroom:roomy (rows.length+1)=true:=by simp only[roomy,Nat.ble_eq];exact hr
  refine⟨.own id 0 (rows.length+1) (v+1),Arx.set H id (.buf (v+1) e (rows++[r])),?_,λm hm=>.inr ⟨id,v+1,by omega,h2,by simp,get_set_same _ _ _⟩,λk hk _=>get_set_ne _ _ λe=>hk 0 rows.length v (by rw[e]),λk o n w h=>by cases h;exact .inr ⟨_,_,_,rfl⟩⟩;have hno:¬rows.length+1<=rows.length:=by omega
  simp[app,Mrun_bindZ,hel,M.look,M.run,h4,M.ok,M.bind,hroom,h2,M.write,hno]
def RB (H:Hp) (n:Nat) (y:AV) (l:List Int):Prop:=(y = .iv (.nsl 1)/\l=[])\/IB H n y l
theorem RB.len {H:Hp} {n:Nat} {y:AV} {l:List Int} (h:RB H n y l):(Arx.len false y).run H=some (.nI l.length,H):=by
 rcases h with⟨rfl,rfl⟩|⟨id,v,es,h1,rfl,h3,h4⟩
 ·rfl
 ·simp[Arx.len,M.run,M.look,Mrun_bindZ,h3,M.ok,M.bind]
section
variable {p1:Nat->Option Arb.IFn} {p2:Nat->Option IFn}
def QI (H:Hp) (n:Nat) (y:AV) (l:List Int):Prop:=QE 1 H n y (l.map numC)
theorem QI.fz0 {H:Hp} {n:Nat} {y:AV} {l:List Int} (h:QI H n y l):(fz1 false y).run H=some (.iv (.sl 1 (l.map num1)),H):=by
 have hm:∀w,∀l:List Int,M.mapL (M.mapL (fz w 7)) (l.map numC) = .ret (l.map num1):=by
  intro w l
  induction l with
  |nil=>rfl
  |cons a l ih=>
   rw[List.map_cons,M.mapL,ih];rfl
 rcases h with⟨rfl,h0⟩|⟨id,v,h1,h2,rfl,h4⟩
 ·have:l=[]:=List.map_eq_nil_iff.1 h0;subst this;rfl
 ·unfold fz1 fz;simp[M.run,M.look,Mrun_bindZ,h4,M.ok,M.bind,hm,List.take_of_length_le]
end
section
variable {p1:Nat->Option Arb.IFn} {p2:Nat->Option IFn}
end
end Arx
namespace Arx
open Go Arb
def NoPut {α:Type}:M α->Prop
 |.ret _=>True
 |.fail=>True
 |.get _ k=>∀o,NoPut (k o)
 |.put _ _ _=>False
theorem NoPut.foot {α:Type}:∀(m:M α) (h:Hp),NoPut m->(m.foot h).2=[]
 |.ret _,_,_=>rfl
 |.fail,_,_=>rfl
 |.get id k,h,hm=>by simp only[M.foot];exact NoPut.foot (k _) h (hm _)
theorem NoPut.bind {α β:Type}:∀{m:M α} {f:α->M β},NoPut m->(∀a,NoPut (f a))->NoPut (m.bind f)
 |.ret a,f,_,hf=>hf a
 |.fail,_,_,_=>trivial
 |.get id k,f,hm,hf=>λo=>NoPut.bind (hm o) hf
theorem NoPut.ok (b:Bool):NoPut (M.ok b):=by unfold M.ok;split<;>trivial
theorem NoPut.lift {α:Type} (o:Option α):NoPut (M.lift o):=by cases o<;>trivial
theorem NoPut.look (id:Nat):NoPut (M.look id):=λo=>by cases o<;>trivial
theorem NoPut.mapL {α β:Type} {f:α->M β} (hf:∀x,NoPut (f x)):∀l:List α,NoPut (M.mapL f l)
 |[]=>trivial
 |x::r=>NoPut.bind (hf x) λy=>NoPut.bind (NoPut.mapL hf r) λys=>trivial
theorem NoPut.mk_ (agg:Bool) (l:List AV):NoPut (Arx.mk agg l):=by unfold mk;split;trivial;split<;>trivial
theorem NoPut.idx_ (a:AV):NoPut (Arx.idx a):=by unfold idx;split<;>trivial
theorem NoPut.bound_ (y:Nat) (o:Option AV):NoPut (Arx.bound y o):=by
 unfold bound;split
 ·trivial
 ·exact NoPut.bind (NoPut.ok _) λ_=>trivial
 ·trivial
theorem NoPut.fz_:∀(n:Nat) (a:AV),NoPut (fz false n a)
 |0,_=>trivial
 |n+1,a=>by
  unfold fz;split
  ·trivial
  ·trivial
  ·refine NoPut.bind (NoPut.look _) λo=>?_
   split
   ·refine NoPut.bind (NoPut.ok _) λ_=>?_
    rw[if_neg (by simp)];exact NoPut.bind (NoPut.mapL (NoPut.mapL (NoPut.fz_ n)) _) λ_=>trivial
   ·exact NoPut.bind (NoPut.ok _) λ_=>trivial
   ·trivial
  ·refine NoPut.bind (NoPut.look _) λo=>?_
   split
   ·refine NoPut.bind (NoPut.ok _) λ_=>?_
    rw[if_neg (by simp)];exact NoPut.bind (NoPut.lift _) λ_=>NoPut.bind (NoPut.mapL (NoPut.fz_ n) _) λ_=>trivial
   ·exact NoPut.bind (NoPut.ok _) λ_=>NoPut.bind (NoPut.lift _) λ_=>trivial
   ·refine NoPut.bind (NoPut.ok _) λ_=>NoPut.bind (NoPut.mapL (NoPut.fz_ n) _) λ_=>?_
    rw[if_neg (by simp)];trivial
   ·exact NoPut.bind (NoPut.ok _) λ_=>trivial
   ·trivial
  ·exact NoPut.bind (NoPut.mapL (NoPut.fz_ n) _) λ_=>trivial
  ·trivial
theorem NoPut.fz1_ (a:AV):NoPut (fz1 false a):=by
 unfold fz1;split
 ·exact NoPut.bind (NoPut.mapL (NoPut.fz_ 8) _) λ_=>trivial
 ·exact NoPut.bind (NoPut.fz_ 8 _) λ_=>trivial
def cls:IOp->Nat
 |.mov _ | .pick _ _ _ | .un _ _ | .cvi _ _ | .ext _ _ | .mkf _ _ _=>0
 |.build _ _ | .mx _ _ | .mn _ _ | .eqc _ _ _ _=>0
 |.bin _ q _ _=>if q=0\/q=1 then 0 else 1
 |.load _ _ _ | .fadr _ _ | .isl _ _ _ | .len _ _ | .nchk _ | .slc _ _ _ _ | .mget _ _ _ _ _ _=>1
 |.call 0 _ _=>1
 |.alloc _ _ | .bsl _ _ _ _=>2
 |_=>3
def Nix {α:Type} (m:M α):Prop:=∀h,m.foot h=([],[])
theorem Nix.ret {α:Type} (a:α):Nix (M.ret a):=λ_=>rfl
theorem Nix.fail {α:Type}:Nix (M.fail:M α):=λ_=>rfl
theorem Nix.lift {α:Type} (o:Option α):Nix (M.lift o):=by cases o;exact Nix.fail;exact Nix.ret _
theorem Nix.ok (b:Bool):Nix (M.ok b):=by unfold M.ok;split;exact Nix.ret _;exact Nix.fail
theorem Nix.bind {α β:Type} {m:M α} {f:α->M β} (hm:Nix m) (hf:∀a,Nix (f a)):Nix (m.bind f):=by
 cases m with
 |ret a=>exact hf a
 |fail=>exact Nix.fail
 |get id k=>intro h;have:=hm h;simp[M.foot]at this
 |put id o k=>intro h;have:=hm h;simp[M.foot]at this
theorem Nix.mapL {α β:Type} {f:α->M β} (hf:∀x,Nix (f x)):∀l:List α,Nix (M.mapL f l)
 |[]=>Nix.ret _
 |x::r=>Nix.bind (hf x) λy=>Nix.bind (Nix.mapL hf r) λys=>Nix.ret _
theorem Nix.cells (a:AV):Nix (cellsM a):=by unfold cellsM;split<;>first | exact Nix.ret _ | exact Nix.fail
theorem Nix.idx_ (a:AV):Nix (Arx.idx a):=by unfold idx;split<;>first | exact Nix.ret _ | exact Nix.fail
variable (c1:Call1)
theorem cls0 {slot:Nat} {ρ:Opd->AV} {op:IOp} (h:cls op=0):Nix (osem c1 slot ρ op):=by
 cases op<;>first | (simp[cls]at h;done) | skip
 case mov=>exact Nix.ret _
 case pick=>simp only[osem];split<;>first | exact Nix.ret _ | exact Nix.fail
 case build=>exact Nix.bind (Nix.mapL (λp=>Nix.bind (Nix.cells _) λ_=>Nix.bind (Nix.ok _) λ_=>Nix.ret _) _) λ_=>Nix.ret _
 case bin op q x y=>
  have hq:q=0\/q=1:=by
   simp only[cls]at h;by_cases hq:q=0\/q=1
   ·exact hq
   ·rw[if_neg hq]at h;cases h
  simp only[osem];rcases hq with rfl | rfl<;>exact Nix.bind (Nix.lift _) λ_=>Nix.ret _
 case un=>exact Nix.bind (Nix.lift _) λ_=>Nix.ret _
 case cvi=>exact Nix.bind (Nix.idx_ _) λ_=>Nix.ret _
 case ext=>simp only[osem];split<;>first | exact Nix.lift _ | exact Nix.fail
 case mkf=>exact Nix.ret _
 case mx=>simp only[osem];split<;>first | exact Nix.bind (Nix.lift _) λ_=>Nix.ret _ | exact Nix.fail
 case mn=>simp only[osem];split<;>first | exact Nix.bind (Nix.lift _) λ_=>Nix.ret _ | exact Nix.fail
 case eqc=>simp only[osem];split<;>first | exact Nix.bind (Nix.lift _) λ_=>Nix.ret _ | exact Nix.fail
 case call mode f args=>cases mode<;>simp[cls]at h
theorem cls1 {slot:Nat} {ρ:Opd->AV} {op:IOp} (h:cls op=1):NoPut (osem c1 slot ρ op):=by
 cases op<;>first | (simp[cls]at h;done) | skip
 case bin op q x y=>
  simp only[osem,binM];split
  ·exact NoPut.bind (NoPut.look _) λ_=>NoPut.bind (NoPut.ok _) λ_=>by split<;>trivial
  ·exact NoPut.bind (NoPut.look _) λ_=>NoPut.bind (NoPut.ok _) λ_=>by split<;>trivial
  ·exact NoPut.bind (NoPut.look _) λ_=>NoPut.bind (NoPut.ok _) λ_=>by split<;>trivial
  ·exact NoPut.bind (NoPut.lift _) λ_=>trivial
 case load=>
  simp only[osem,Arx.load];split
  ·exact NoPut.bind (NoPut.look _) λ_=>NoPut.bind (NoPut.lift _) λ_=>NoPut.bind (NoPut.ok _) λ_=>NoPut.mk_ _ _
  ·exact NoPut.bind (NoPut.ok _) λ_=>NoPut.mk_ _ _
  ·trivial
 case fadr=>
  simp only[osem,Arx.fadr];split
  ·exact NoPut.bind (NoPut.look _) λ_=>NoPut.bind (NoPut.ok _) λ_=>trivial
  ·exact NoPut.bind (NoPut.ok _) λ_=>trivial
  ·trivial
 case isl=>
  simp only[osem,Arx.isl];refine NoPut.bind (NoPut.idx_ _) λn=>NoPut.bind (NoPut.ok _) λ_=>?_
  split
  ·refine NoPut.bind (NoPut.ok _) λ_=>NoPut.bind (NoPut.look _) λo=>?_
   split<;>first | exact NoPut.bind (NoPut.ok _) λ_=>trivial | trivial
  ·exact NoPut.bind (NoPut.ok _) λ_=>NoPut.bind (NoPut.lift _) λ_=>trivial
  ·trivial
 case len=>
  simp only[osem,Arx.len];split
  ·refine NoPut.bind (NoPut.look _) λo=>?_
   split<;>first | exact NoPut.bind (NoPut.ok _) λ_=>trivial | trivial
  ·trivial
  ·trivial
  ·trivial
  ·trivial
 case nchk=>
  simp only[osem];split
  ·exact NoPut.bind (NoPut.look _) λ_=>NoPut.bind (NoPut.ok _) λ_=>trivial
  ·trivial
  ·trivial
  ·trivial
  ·trivial
 case slc=>
  simp only[osem,Arx.slc];split
  ·exact NoPut.bind (NoPut.look _) λ_=>NoPut.bind (NoPut.lift _) λ_=>NoPut.bind (NoPut.bound_ _ _) λ_=>NoPut.bind (NoPut.bound_ _ _) λ_=>trivial
  ·exact NoPut.bind (NoPut.ok _) λ_=>NoPut.bind (NoPut.bound_ _ _) λ_=>NoPut.bind (NoPut.bound_ _ _) λ_=>trivial
  ·exact NoPut.bind (NoPut.bound_ _ _) λ_=>NoPut.bind (NoPut.bound_ _ _) λ_=>trivial
  ·trivial
 case call mode f args=>
  have hm:mode=0:=by cases mode with
   |zero=>rfl
   |succ m=>simp[cls]at h
  subst hm;exact NoPut.bind (NoPut.lift _) λq=>NoPut.bind (NoPut.mapL NoPut.fz1_ _) λ_=>NoPut.bind (NoPut.lift _) λ_=>NoPut.bind (NoPut.ok _) λ_=>NoPut.lift _
 case mget=>
  simp only[osem,Arx.mget];refine NoPut.bind (NoPut.ok _) λ_=>NoPut.bind ?_ λx=>NoPut.bind (NoPut.lift _) λp=>?_
  ·unfold lookMap;split
   ·refine NoPut.bind (NoPut.look _) λo=>?_
    split<;>trivial
   ·trivial
  ·split
   ·trivial
   ·exact NoPut.bind (NoPut.mk_ _ _) λ_=>trivial
theorem fresh_foot {α:Type} {id:Nat} {o:Ob} {a:α} (h:Hp) {r:α} {h':Hp} (e:((M.fresh id).bind λ_=>(M.write id o).bind λ_=>.ret a).run h=some (r,h')) :
  ∀n ∈ (((M.fresh id).bind λ_=>(M.write id o).bind λ_=>.ret a).foot h).2,Arx.get h n=none:=by
 intro n hn;simp only[M.fresh,M.write,M.bind,M.run]at e;cases hg:Arx.get h id with
 |some x=>rw[hg]at e;simp[M.bind,M.run]at e
 |none=>
  simp only[M.fresh,M.write,M.bind,M.foot,hg,List.nil_append,List.mem_singleton]at hn;subst hn;exact hg
theorem cls2 {slot:Nat} {ρ:Opd->AV} {op:IOp} (h:cls op=2) {hp:Hp} {r:AV} {h':Hp} (e:(osem c1 slot ρ op).run hp=some (r,h')):∀n ∈ ((osem c1 slot ρ op).foot hp).2,Arx.get hp n=none:=by
 cases op<;>first | (simp[cls]at h;done) | skip
 case alloc tag z=>
  simp only[osem]at e ⊢;unfold M.ok at e ⊢;split at e
  ·rename_i ht;rw[if_pos ht];exact fresh_foot hp e
  ·simp[M.bind,M.run]at e
 case bsl e0 z n ps=>
  simp only[osem]at e ⊢;generalize hm:M.mapL (λp:Nat×Opd=>(cellsM (ρ p.2)).bind λxs=>(M.ok (xs.length==e0&&Nat.blt p.1 n)).bind λ_=>.ret (p.1,xs)) ps=m at *;have hnix:Nix m:=by rw[<-hm];exact Nix.mapL (λp=>Nix.bind (Nix.cells _) λ_=>Nix.bind (Nix.ok _) λ_=>Nix.ret _) _
  unfold M.ok at e ⊢;split at e
  ·rename_i ht;rw[if_pos ht];simp only[M.bind]at e ⊢;cases m with
   |ret l=>exact fresh_foot hp e
   |fail=>simp[M.bind,M.run]at e
   |get id k=>have:=hnix hp;simp[M.foot]at this
   |put id o k=>have:=hnix hp;simp[M.foot]at this
  ·simp[M.bind,M.run]at e
 case bin op q x y=>simp only[cls]at h;split at h<;>cases h
 case call mode f args=>cases mode<;>simp[cls]at h
def sPair (al:Bool) (x y:IOp):Bool:=cls x==0||cls y==0||(Nat.ble (cls x) 1&&Nat.ble (cls y) 1)||(al&&Nat.ble (cls x) 1&&cls y==2)
def sA1 (al:Bool) (x:IOp) (i:Nat):List IOper->Bool
 |[]=>true
 |y::r=>(y.aft.contains i||sPair al x y.op)&&sA1 al x i r
def sAll (al:Bool):Nat->List IOper->Bool
 |_,[]=>true
 |i,x::r=>sA1 al x.op i r&&sAll al (i+1) r
def nCall (ops:List IOper):Bool:=ops.all λo=>(isS o.op).isNone
def sOk (ops:List IOper):Bool:=sAll (nCall ops) 0 ops
def Kn (al:Bool) (op:IOp) (f:Feet) (h:Hp):Prop:=(cls op=0->f = .m ([],[]))/\(cls op=1->∃l,f = .m (l,[])/\(al=true->∀n ∈ l,On h n))
theorem isS_cls {op:IOp} {p:Opd×List Opd} (h:isS op=some p):cls op=3:=by cases op<;>first | (simp[isS]at h;done) | rfl
variable {c1} {cx:CallX}
theorem step_kn {al:Bool} {slot:Nat} {o:IOper} {s t:St} (e:step c1 cx slot o s=some t) (ha:al=true->(isS o.op).isNone=true):Kn al o.op (footOf c1 slot o s t.hp) t.hp/\
  (cls o.op=2->∃l w,footOf c1 slot o s t.hp = .m (l,w)/\∀n ∈ w,Arx.get s.hp n=none)/\(al=true->∀n,On s.hp n->On t.hp n):=by
 unfold step at e;unfold footOf Kn;cases hw:wants s.fr o.gd with
 |none=>rw[hw]at e;cases e
 |some b=>
  rw[hw]at e;cases b with
  |false=>
   simp only[Option.some.injEq]at e;subst e;exact⟨⟨λ_=>rfl,λ_=>⟨[],rfl,λ_ n hn=>by simp at hn⟩⟩,λ_=>⟨[],[],rfl,λn hn=>by simp at hn⟩,λ_ n h=>h⟩
  |true=>
   simp only[]at e ⊢;cases hs:isS o.op with
   |some fa=>
    have hc:=isS_cls hs;rw[hc];refine⟨⟨λh=>?_,λh=>?_⟩,λh=>?_,λh=>?_⟩
    ·cases h
    ·cases h
    ·cases h
    ·have:=ha h;rw[hs]at this;simp at this
   |none=>
    rw[hs]at e;simp only[]at e ⊢;cases hr:(osem c1 slot (ev s.fr) o.op).run s.hp with
    |none=>rw[hr]at e;cases e
    |some q=>
     rw[hr]at e;obtain⟨v,h⟩:=q;simp only[Option.some.injEq]at e;subst e;refine⟨⟨λh0=>by rw[cls0 c1 h0],λh1=>⟨_,?_,λ_ n hn=>nr_osem c1 slot _ o.op _ _ _ hr n hn⟩⟩,λh2=>⟨_,_,rfl,cls2 c1 h2 hr⟩,λ_ n hn=>M.stay _ _ _ _ n hr hn⟩;have:=NoPut.foot _ s.hp (cls1 c1 (slot:=slot) (ρ:=ev s.fr) h1);rw[<-this]
theorem feet_of {ops:List IOper}:∀{slot:Nat} {s s1:St},evalOps c1 cx ops slot s=some s1->∃fs,evalFeet c1 cx ops slot s=some (s1,fs):=by
 induction ops with
 |nil=>intro slot s s1 e;simp only[evalOps,Option.some.injEq]at e;subst e;exact⟨[],rfl⟩
 |cons o r ih=>
  intro slot s s1 e;simp only[evalOps]at e;cases h1:step c1 cx slot o s with
  |none=>rw[h1]at e;cases e
  |some t=>
   rw[h1]at e;obtain⟨fs,h⟩:=ih e;exact⟨footOf c1 slot o s t.hp::fs,by simp only[evalFeet,h1,h]⟩
theorem clash_s {al:Bool} {x y:IOp} {fx fy:Feet} {h:Hp} (hx:Kn al x fx h) (hy:Kn al y fy h\/True) (h0:cls y=0->fy = .m ([],[])) (h1:cls y=1->∃l,fy = .m (l,[])) (h2:cls y=2->∃l w,fy = .m (l,w)/\∀n ∈ w,Arx.get h n=none) (hs:sPair al x y=true):clash fx fy=false:=by
 unfold sPair at hs;simp only[Bool.or_eq_true,Bool.and_eq_true,beq_iff_eq,Nat.ble_eq]at hs;have hq:∀l l',clash (.m (l,[])) (.m (l',[]))=false:=λl l'=>by simp[clash,meets]
 have hn:∀f,clash (.m ([],[])) f=false:=λf=>by
  cases f with
  |m y=>simp[clash,meets]
  |c h0 h1=>simp[clash]
 have hn':∀f,clash f (.m ([],[]))=false:=λf=>by
  cases f with
  |m y=>simp[clash,meets]
  |c h0 h1=>simp[clash]
 have hqx:cls x<=1->∃l,fx = .m (l,[])/\(al=true->∀n ∈ l,On h n):=λhle=>by
  rcases(show cls x=0\/cls x=1 by omega)with q | q
  ·exact⟨[],hx.1 q,λ_ n hn=>by simp at hn⟩
  ·exact hx.2 q
 rcases hs with((hs | hs) | hs) | hs
 ·rw[hx.1 hs];exact hn _
 ·rw[h0 hs];exact hn' _
 ·obtain⟨l,rfl, -⟩:=hqx hs.1;rcases(show cls y=0\/cls y=1 by omega)with q | q
  ·rw[h0 q];exact hn' _
  ·obtain⟨l',rfl⟩:=h1 q;exact hq _ _
 ·obtain⟨⟨ha,hle⟩,hc⟩:=hs;obtain⟨l,rfl,hon⟩:=hqx hle;obtain⟨l',w,rfl,hw⟩:=h2 hc;have:∀n ∈ w,l.contains n=false:=λn hn=>by
   rw[Bool.eq_false_iff];intro hc;have:=hon ha n (by simpa using hc);unfold On at this;rw[hw n hn]at this;simp at this
  simp only[clash,meets,List.any_nil,List.append_nil,Bool.false_or];rw[Bool.eq_false_iff];intro hc;obtain⟨n,hn,hc⟩:=List.any_eq_true.1 hc;rw[this n hn]at hc;cases hc
theorem Kn.mono {al:Bool} {op:IOp} {f:Feet} {h h':Hp} (k:Kn al op f h) (hs:al=true->∀n,On h n->On h' n):Kn al op f h':=
 ⟨k.1,λh1=>by obtain⟨l,e,q⟩:=k.2 h1;exact⟨l,e,λha n hn=>hs ha n (q ha n hn)⟩⟩
theorem apart_s {al:Bool} {x:IOp} {fx:Feet} {i:Nat}:∀{ops:List IOper} {slot:Nat} {s s1:St} {fs:List Feet},evalFeet c1 cx ops slot s=some (s1,fs)->(al=true->nCall ops=true)->Kn al x fx s.hp->sA1 al x i ops=true->apart1 fx i fs (ops.map (·.aft))=true
 |[],slot,s,s1,fs,e,_,_,_=>by simp only[evalFeet,Option.some.injEq,Prod.mk.injEq]at e;rw[<-e.2];rfl
 |y::r,slot,s,s1,fs,e,ha,hk,hs=>by
  simp only[evalFeet]at e;cases h1:step c1 cx slot y s with
  |none=>rw[h1]at e;cases e
  |some t=>
   rw[h1]at e;simp only[]at e;cases h2:evalFeet c1 cx r (slot+1) t with
   |none=>rw[h2]at e;cases e
   |some p=>
    rw[h2]at e;simp only[Option.some.injEq,Prod.mk.injEq]at e;obtain⟨-,rfl⟩:=e;simp only[sA1,Bool.and_eq_true,Bool.or_eq_true]at hs;have ha':al=true->(isS y.op).isNone=true/\nCall r=true:=λh=>by have:=ha h;simpa[nCall]using this
    obtain⟨k1,k2,k3⟩:=step_kn h1 λh=>(ha' h).1
    simp only[List.map_cons,apart1,Bool.and_eq_true,Bool.or_eq_true,Bool.not_eq_true'];refine⟨?_,apart_s (s1:=p.1) (fs:=p.2) h2 (λh=>(ha' h).2) (hk.mono k3) hs.2⟩;rcases hs.1 with q | q
    ·exact .inr q
    ·exact .inl (clash_s hk (.inr trivial) k1.1 (λh=>by obtain⟨l,e, -⟩:=k1.2 h;exact⟨l,e⟩) k2 q)
theorem all_s {al:Bool}:∀{ops:List IOper} {slot i:Nat} {s s1:St} {fs:List Feet},evalFeet c1 cx ops slot s=some (s1,fs)->(al=true->nCall ops=true)->sAll al i ops=true->apartAll fs i (ops.map (·.aft))=true
 |[],slot,i,s,s1,fs,e,_,_=>by simp only[evalFeet,Option.some.injEq,Prod.mk.injEq]at e;rw[<-e.2];rfl
 |x::r,slot,i,s,s1,fs,e,ha,hs=>by
  simp only[evalFeet]at e;cases h1:step c1 cx slot x s with
  |none=>rw[h1]at e;cases e
  |some t=>
   rw[h1]at e;simp only[]at e;cases h2:evalFeet c1 cx r (slot+1) t with
   |none=>rw[h2]at e;cases e
   |some p=>
    rw[h2]at e;simp only[Option.some.injEq,Prod.mk.injEq]at e;obtain⟨-,rfl⟩:=e;simp only[sAll,Bool.and_eq_true]at hs;have ha':al=true->(isS x.op).isNone=true/\nCall r=true:=λh=>by have:=ha h;simpa[nCall]using this
    obtain⟨k1, -, -⟩:=step_kn h1 λh=>(ha' h).1
    simp only[List.map_cons,apartAll,Bool.and_eq_true];exact⟨apart_s (s1:=p.1) (fs:=p.2) h2 (λh=>(ha' h).2) k1 hs.1,all_s (s1:=p.1) (fs:=p.2) h2 (λh=>(ha' h).2) hs.2⟩
theorem rgn_s {ops:List IOper} {keep:List Nat} {s s':St} (hs:sOk ops=true) (h:evalRgn c1 cx false ops keep s=some s'):evalRgn c1 cx true ops keep s=some s':=by
 unfold evalRgn at h ⊢;simp only[Bool.false_eq_true,if_false,if_true]at h ⊢;cases he:evalOps c1 cx ops s.nx { s with nx:=s.nx+ops.length } with
 |none=>rw[he]at h;cases h
 |some t=>
  rw[he]at h;obtain⟨fs,hf⟩:=feet_of he;have ho:orderOk ops fs=true:=by unfold orderOk;rw[all_s hf (λh=>h) hs,Bool.or_true]
  rw[hf];simp only[ho,if_true];exact h
theorem Wp.drawn {p1:Nat->Option Arb.IFn} {p2:Nat->Option IFn} {ops:List IOper} {keep:List Nat} {s:St} {Q:Ex->St->Prop} (hs:sOk ops=true) (h:Wp p1 p2 (.rgn false ops keep) s Q):Wp p1 p2 (.rgn true ops keep) s Q:=by
 obtain⟨K,ex,s',h,q⟩:=h;refine⟨K,ex,s',λn hn=>?_,q⟩;have h1:=h n hn;simp only[evalC]at h1 ⊢;cases he:evalRgn (one p1 n) (run2 p1 p2 n) false ops keep s with
 |none=>rw[he]at h1;cases h1
 |some t=>rw[he]at h1;rw[rgn_s hs he];exact h1
def numV (n:Int):AV:=.iv (.int .i64 n)
structure Act where
 c:Int
 u:Int
 b:List B
 f:Int
 t:Int
structure Pb where
 c:Int
 e:E
 s:Int
structure Lg where
 acts:List Act
 pubs:List Pb
 drains:List Int
def Act.fits (a:Act):Prop:=a.b.length<=1000/\∀b ∈ a.b,b.lim 1000 400
def AR (H:Hp) (n:Nat) (r:List AV) (a:Act):Prop:=∃y,r=[numV a.c,numV a.u,y,numV a.f,numV a.t]/\LB H n y a.b
def AL (H:Hp) (n:Nat) (rs:List (List AV)) (l:List Act):Prop:=rs.length=l.length/\∀(i:Nat) (r:List AV) (a:Act),rs[i]?=some r->l[i]?=some a->AR H n r a
def pbC (i:Nat) (p:Pb):List AV:=[numV ((i:Int)+1),numV p.c]++(p.e.enc.map AV.iv++[numV p.s])
def PL (rs:List (List AV)) (l:List Pb):Prop:=rs.length=l.length/\∀(i:Nat) (p:Pb),l[i]?=some p->rs[i]?=some (pbC i p)
theorem AL.nil (H:Hp) (n:Nat):AL H n [] []:=⟨rfl,λi r a h=>by simp at h⟩
theorem AL.get {H:Hp} {n:Nat} {rs:List (List AV)} {l:List Act} (h:AL H n rs l) {i:Nat} {a:Act} (ha:l[i]?=some a):∃r,rs[i]?=some r/\AR H n r a:=by
 have hi:i<l.length:=(List.getElem?_eq_some_iff.1 ha).1;have:i<rs.length:=by rw[h.1];exact hi
 exact⟨_,List.getElem?_eq_getElem this,h.2 i _ a (List.getElem?_eq_getElem this) ha⟩
theorem AL.mono {H H':Hp} {n n':Nat} {rs:List (List AV)} {l:List Act} (h:AL H n rs l) (hb:∀y b,LB H n y b->LB H' n' y b):AL H' n' rs l:=
 ⟨h.1,λi r a h1 h2=>by obtain⟨y,e,q⟩:=h.2 i r a h1 h2;exact⟨y,e,hb _ _ q⟩⟩
theorem AL.push {H:Hp} {n:Nat} {rs:List (List AV)} {l:List Act} (h:AL H n rs l) {r:List AV} {a:Act} (hr:AR H n r a):AL H n (rs++[r]) (l++[a]):=by
 refine⟨by simp[h.1],λi r' a' h1 h2=>?_⟩;by_cases hi:i<rs.length
 ·rw[List.getElem?_append_left hi]at h1;rw[List.getElem?_append_left (by rw[<-h.1];exact hi)]at h2;exact h.2 i r' a' h1 h2
 ·rw[List.getElem?_append_right (by omega)]at h1;rw[List.getElem?_append_right (by rw[<-h.1];omega)]at h2;rw[<-h.1]at h2;cases hj:i - rs.length with
  |zero=>
   rw[hj]at h1 h2;simp only[List.getElem?_cons_zero,Option.some.injEq]at h1 h2;rw[<-h1,<-h2];exact hr
  |succ j=>rw[hj]at h1;simp at h1
theorem AL.set {H:Hp} {n:Nat} {rs:List (List AV)} {l:List Act} (h:AL H n rs l) {i:Nat} {r:List AV} {a:Act} (hr:AR H n r a):AL H n (rs.set i r) (l.set i a):=by
 refine⟨by simp[h.1],λj r' a' h1 h2=>?_⟩;by_cases hij:i=j
 ·subst hij;have hi:i<rs.length:=by have:=(List.getElem?_eq_some_iff.1 h1).1;simpa using this
  rw[List.getElem?_set_self hi]at h1;rw[List.getElem?_set_self (by rw[<-h.1];exact hi)]at h2;simp only[Option.some.injEq]at h1 h2;rw[<-h1,<-h2];exact hr
 ·rw[List.getElem?_set_ne hij]at h1 h2;exact h.2 j r' a' h1 h2
theorem PL.nil:PL [] []:=⟨rfl,λi p h=>by simp at h⟩
theorem PL.push {rs:List (List AV)} {l:List Pb} (h:PL rs l) (p:Pb):PL (rs++[pbC l.length p]) (l++[p]):=by
 refine⟨by simp[h.1],λi q hq=>?_⟩;by_cases hi:i<l.length
 ·rw[List.getElem?_append_left hi]at hq;rw[List.getElem?_append_left (by rw[h.1];exact hi)];exact h.2 i q hq
 ·rw[List.getElem?_append_right (by omega)]at hq;rw[List.getElem?_append_right (by rw[h.1];omega),h.1];cases hj:i - l.length with
  |zero=>
   rw[hj]at hq;simp only[List.getElem?_cons_zero,Option.some.injEq]at hq;have:i=l.length:=by omega
   subst this;subst hq;simp
  |succ j=>rw[hj]at hq;simp at hq
structure LGp (lo:Nat) (H:Hp) (n lid:Nat) (pre:List AV) (g:Lg) (ya yp yd:AV) (ra rp:List (List AV)):Prop where
 li:4*lo<=lid/\lid<4*n
 at_:get H lid=some (.cells (pre++[ya,yp,yd]))
 a:QE 5 H n ya ra
 al:AL H n ra g.acts
 p:QE 15 H n yp rp
 pl:PL rp g.pubs
 d:QI H n yd g.drains
 la:∀k o m w,ya = .own k o m w->4*lo<=k
 lp:∀k o m w,yp = .own k o m w->4*lo<=k
 ld:∀k o m w,yd = .own k o m w->4*lo<=k
 fits:∀a ∈ g.acts,a.fits
abbrev LG (lo:Nat) (H:Hp) (n lid:Nat) (h:Hd) (g:Lg) (ya yp yd:AV) (ra rp:List (List AV)):Prop:=LGp lo H n lid (hdC h) g ya yp yd ra rp
theorem LGp.ext {lo:Nat} {H H':Hp} {n n' lid:Nat} {pre:List AV} {g:Lg} {ya yp yd:AV} {ra rp:List (List AV)} (L:LGp lo H n lid pre g ya yp yd ra rp) (e:Ext H n H' n'):LGp lo H' n' lid pre g ya yp yd ra rp:=
 ⟨⟨L.li.1,by have:=L.li.2;have:=e.le;omega⟩,by rw[e.old _ L.li.2];exact L.at_,L.a.mono e.le e.old,L.al.mono λ_ _ q=>q.ext e,L.p.mono e.le e.old,L.pl,QE.mono L.d e.le e.old,L.la,L.lp,L.ld,L.fits⟩
theorem cellsM_iv (x:IV):cellsM (.iv x) = .ret [.iv x]:=rfl
theorem cellsM_agg (cs:List AV):cellsM (.agg cs) = .ret cs:=rfl
theorem QE.cell {e:Nat} {H:Hp} {n:Nat} {y:AV} {rows:List (List AV)} (h:QE e H n y rows):cellsM y = .ret [y]:=by
 rcases h with⟨rfl, -⟩|⟨id,v, -, -,rfl, -⟩<;>rfl
theorem QE.at_ {e:Nat} {H:Hp} {n:Nat} {y:AV} {rows:List (List AV)} (h:QE e H n y rows) {i:Nat} {r:List AV} (hr:rows[i]?=some r):∃id v,id<4*n/\id % 4=0/\y = .own id 0 rows.length v/\get H id=some (.buf v e rows):=by
 rcases h with⟨rfl,rfl⟩|h
 ·simp at hr
 ·exact h
theorem QE.not_ {e:Nat} {H:Hp} {n:Nat} {y:AV} {rows:List (List AV)} (h:QE e H n y rows) {k:Nat} {ob:Ob} (hk:get H k=some ob) (hne:∀v es,ob≠.buf v e es):∀o n w,y≠.own k o n w:=by
 intro o n w e;rcases h with⟨rfl, -⟩|⟨id,v, -, -,rfl,h4⟩
 ·cases e
 ·cases e;rw[hk]at h4;cases h4;exact hne _ _ rfl
theorem QE.push2 {e:Nat} {H:Hp} {n:Nat} {y:AV} {rows:List (List AV)} (h:QE e H n y rows) (hf:Fresh H n) (r:List AV) {g slot:Nat} {H1:Hp} (hg:get H1 g=some (.buf 0 e [r])) (hg0:∀k,k≠g->get H1 k=get H k) (hgn:4*n<=g) (hs:n<=slot) (hgs:g<4*slot) (hr:rows.length+1<=1073741824) :
  ∃y' H',(app e slot false y (.own g 0 1 0)).run H1=some (y',H')/\Fresh H' (slot+1)/\QE e H' (slot+1) y' (rows++[r])/\(∀k,k<4*n->(∀o n w,y≠.own k o n w)->get H' k=get H k)/\(∀k o n w,y' = .own k o n w->k=4*slot\/∃o n w,y = .own k o n w):=by
 have hfs:get H1 (4*slot)=none:=by rw[hg0 _ (by omega)];exact hf _ (by omega)
 have hy1:QE e H1 n y rows:=h.mono (Nat.le_refl _) λk hk=>hg0 k (by omega)
 obtain⟨y',H',h1,h2,h3,h4⟩:=hy1.push r hg hgn hs hfs hr;have hyo:∀k o n' w,y = .own k o n' w->k<4*n:=λk o n' w e=>by
  rcases h with⟨rfl, -⟩|⟨id,v,i1, -,rfl, -⟩
  ·cases e
  ·cases e;exact i1
 refine⟨y',H',h1,λk hk=>?_,h2 _ (by omega),λk hk hne=>?_,h4⟩
 ·rw[h3 k (λo n' w e=>by have:=hyo _ _ _ _ e;omega) (by omega),hg0 _ (by omega)];exact hf k (by omega)
 ·rw[h3 k hne (by omega),hg0 _ (by omega)]
theorem bpush {e:Nat} {H H':Hp} {n n' m:Nat} {y:AV} {rows:List (List AV)} (h:QE e H n y rows) (hn:n<=n') {z:AV} (ho:∀k,k<4*n->(∀o n w,z≠.own k o n w)->get H' k=get H k) {e2:Nat} {rz:List (List AV)} (hz:QE e2 H m z rz) (hne:e≠e2):QE e H' n' y rows:=by
 rcases h with h | ⟨id,v,i1,i2,i3,i4⟩
 ·exact .inl h
 ·exact .inr ⟨id,v,by omega,i2,i3,by rw[ho id i1 (hz.not_ i4 λv' es h=>by cases h;exact hne rfl)];exact i4⟩
theorem lbpush {H H':Hp} {n n' m:Nat} {y:AV} {l:List B} (h:LB H n y l) (hn:n<=n') {z:AV} (ho:∀k,k<4*n->(∀o n w,z≠.own k o n w)->get H' k=get H k) {e2:Nat} {rz:List (List AV)} (hz:QE e2 H m z rz) (hne:16≠e2):LB H' n' y l:=by
 rcases h with h | h | ⟨id,h1,h2,h3⟩
 ·exact .inl h
 ·exact .inr (.inl h)
 ·refine .inr (.inr ⟨id,by omega,h2,?_⟩);rcases h3 with h3 | h3
  ·left;rw[ho id h1 (hz.not_ h3 λv' es h=>by cases h;exact hne rfl)];exact h3
  ·right;rw[ho id h1 (hz.not_ h3 λv' es h=>by cases h)];exact h3
theorem QE.setC {e:Nat} {H:Hp} {n:Nat} {y:AV} {rows:List (List AV)} (h:QE e H n y rows) {k:Nat} {cs:List AV} (hk:get H k=some (.cells cs)) (ob:Ob):QE e (Arx.set H k ob) n y rows:=by
 rcases h with h | ⟨id,v,i1,i2,i3,i4⟩
 ·exact .inl h
 ·exact .inr ⟨id,v,i1,i2,i3,by rw[get_set_ne _ _ (λe=>by subst e;rw[hk]at i4;cases i4)];exact i4⟩
theorem LB.setC {H:Hp} {n:Nat} {y:AV} {l:List B} (h:LB H n y l) {k:Nat} {cs:List AV} (hk:get H k=some (.cells cs)) (ob:Ob):LB (Arx.set H k ob) n y l:=by
 rcases h with h | h | ⟨id,h1,h2,h3⟩
 ·exact .inl h
 ·exact .inr (.inl h)
 ·refine .inr (.inr ⟨id,h1,h2,?_⟩);rw[get_set_ne _ _ (λe=>by subst e;rw[hk]at h3;rcases h3 with h3 | h3<;>cases h3)];exact h3
theorem LGp.pushA {lo:Nat} {H:Hp} {n lid:Nat} {pre:List AV} {g:Lg} {ya yp yd:AV} {ra rp:List (List AV)} (L:LGp lo H n lid pre g ya yp yd ra rp) (hf:Fresh H n) {a:Act} {r:List AV} (hr:AR H n r a) (ha:a.fits) {gid slot n':Nat} (h1:4*n<=gid) (h2:n<=slot) (h3:gid<4*slot) (hn:slot<n') (hlen:ra.length<=1000000) :
  ∃y' H4,(app 5 slot false ya (.own gid 0 1 0)).run (Arx.set H gid (.buf 0 5 [r]))=some (y',H4)/\get H4 lid=some (.cells (pre++[ya,yp,yd]))/\Fresh (Arx.set H4 lid (.cells (pre++[y',yp,yd]))) n'/\
   LGp lo (Arx.set H4 lid (.cells (pre++[y',yp,yd]))) n' lid pre { g with acts:=g.acts++[a] } y' yp yd (ra++[r]) rp/\(∀k,k<4*lo->get (Arx.set H4 lid (.cells (pre++[y',yp,yd]))) k=get H k):=by
 obtain⟨y',H4,p1,p2,p3,p4,p5⟩:=QE.push2 (e:=5) L.a hf r (g:=gid) (slot:=slot) (get_set_same _ _ _) (λk hk=>get_set_ne _ _ (Ne.symm hk)) h1 h2 h3 (by first | omega | (rw[List.length_map];omega));have hl4:get H4 lid=some (.cells (pre++[ya,yp,yd])):=by rw[p4 lid L.li.2 (QE.not_ (e:=5) L.a L.at_ λv es h=>by cases h)];exact L.at_
 have ho:∀k,k<4*lo->get H4 k=get H k:=λk hk=>p4 k (by have:=L.li;omega) λo m w e=>by have:=L.la k o m w e;omega
 refine⟨y',H4,p1,hl4,λk hk=>?_,?_,λk hk=>?_⟩
 ·rw[get_set_ne _ _ (by have:=L.li;omega)];exact p2 k (by omega)
 ·have hlb:∀y b,LB H n y b->LB (Arx.set H4 lid (.cells (pre++[y',yp,yd]))) n' y b:=λy b q=>(lbpush q (show n<=n' by omega) p4 L.a (by decide)).setC hl4 _
  exact⟨⟨L.li.1,by have:=L.li;omega⟩,get_set_same _ _ _,(QE.setC (e:=5) (p3.mono (show slot+1<=n' by omega) λ_ _=>rfl) hl4 _),((L.al.mono hlb).push (by obtain⟨y,e,q⟩:=hr;exact⟨y,e,hlb _ _ q⟩)),(QE.setC (bpush (e:=15) L.p (show n<=n' by omega) p4 L.a (by decide)) hl4 _),L.pl,(QE.setC (bpush (e:=1) L.d (show n<=n' by omega) p4 L.a (by decide)) hl4 _),(λk o m w e=>by rcases p5 k o m w e with q | ⟨o,m,w,q⟩;(have:=L.li;omega);exact L.la k o m w q),L.lp,L.ld,(λb hb=>by rcases List.mem_append.1 hb with q | q;exact L.fits b q;rw[List.mem_singleton.1 q];exact ha)⟩
 ·rw[get_set_ne _ _ (by have:=L.li;omega)];exact ho k hk
theorem LGp.pushP {lo:Nat} {H:Hp} {n lid:Nat} {pre:List AV} {g:Lg} {ya yp yd:AV} {ra rp:List (List AV)} (L:LGp lo H n lid pre g ya yp yd ra rp) (hf:Fresh H n) (p:Pb) {gid slot n':Nat} (h1:4*n<=gid) (h2:n<=slot) (h3:gid<4*slot) (hn:slot<n') (hlen:rp.length<=1000000) :
  ∃y' H4,(app 15 slot false yp (.own gid 0 1 0)).run (Arx.set H gid (.buf 0 15 [(pbC g.pubs.length p)]))=some (y',H4)/\get H4 lid=some (.cells (pre++[ya,yp,yd]))/\Fresh (Arx.set H4 lid (.cells (pre++[ya,y',yd]))) n'/\
   LGp lo (Arx.set H4 lid (.cells (pre++[ya,y',yd]))) n' lid pre { g with pubs:=g.pubs++[p] } ya y' yd ra (rp++[pbC g.pubs.length p])/\(∀k,k<4*lo->get (Arx.set H4 lid (.cells (pre++[ya,y',yd]))) k=get H k):=by
 obtain⟨y',H4,p1,p2,p3,p4,p5⟩:=QE.push2 (e:=15) L.p hf (pbC g.pubs.length p) (g:=gid) (slot:=slot) (get_set_same _ _ _) (λk hk=>get_set_ne _ _ (Ne.symm hk)) h1 h2 h3 (by first | omega | (rw[List.length_map];omega));have hl4:get H4 lid=some (.cells (pre++[ya,yp,yd])):=by rw[p4 lid L.li.2 (QE.not_ (e:=15) L.p L.at_ λv es h=>by cases h)];exact L.at_
 have ho:∀k,k<4*lo->get H4 k=get H k:=λk hk=>p4 k (by have:=L.li;omega) λo m w e=>by have:=L.lp k o m w e;omega
 refine⟨y',H4,p1,hl4,λk hk=>?_,?_,λk hk=>?_⟩
 ·rw[get_set_ne _ _ (by have:=L.li;omega)];exact p2 k (by omega)
 ·have hlb:∀y b,LB H n y b->LB (Arx.set H4 lid (.cells (pre++[ya,y',yd]))) n' y b:=λy b q=>(lbpush q (show n<=n' by omega) p4 L.p (by decide)).setC hl4 _
  exact⟨⟨L.li.1,by have:=L.li;omega⟩,get_set_same _ _ _,(QE.setC (bpush (e:=5) L.a (show n<=n' by omega) p4 L.p (by decide)) hl4 _),(L.al.mono hlb),(QE.setC (e:=15) (p3.mono (show slot+1<=n' by omega) λ_ _=>rfl) hl4 _),(L.pl.push p),(QE.setC (bpush (e:=1) L.d (show n<=n' by omega) p4 L.p (by decide)) hl4 _),L.la,(λk o m w e=>by rcases p5 k o m w e with q | ⟨o,m,w,q⟩;(have:=L.li;omega);exact L.lp k o m w q),L.ld,L.fits⟩
 ·rw[get_set_ne _ _ (by have:=L.li;omega)];exact ho k hk
theorem LGp.pushD {lo:Nat} {H:Hp} {n lid:Nat} {pre:List AV} {g:Lg} {ya yp yd:AV} {ra rp:List (List AV)} (L:LGp lo H n lid pre g ya yp yd ra rp) (hf:Fresh H n) (t:Int) {gid slot n':Nat} (h1:4*n<=gid) (h2:n<=slot) (h3:gid<4*slot) (hn:slot<n') (hlen:g.drains.length<=1000000) :
  ∃y' H4,(app 1 slot false yd (.own gid 0 1 0)).run (Arx.set H gid (.buf 0 1 [(numC t)]))=some (y',H4)/\get H4 lid=some (.cells (pre++[ya,yp,yd]))/\Fresh (Arx.set H4 lid (.cells (pre++[ya,yp,y']))) n'/\
   LGp lo (Arx.set H4 lid (.cells (pre++[ya,yp,y']))) n' lid pre { g with drains:=g.drains++[t] } ya yp y' ra rp/\(∀k,k<4*lo->get (Arx.set H4 lid (.cells (pre++[ya,yp,y']))) k=get H k):=by
 obtain⟨y',H4,p1,p2,p3,p4,p5⟩:=QE.push2 (e:=1) L.d hf (numC t) (g:=gid) (slot:=slot) (get_set_same _ _ _) (λk hk=>get_set_ne _ _ (Ne.symm hk)) h1 h2 h3 (by first | omega | (rw[List.length_map];omega));have hl4:get H4 lid=some (.cells (pre++[ya,yp,yd])):=by rw[p4 lid L.li.2 (QE.not_ (e:=1) L.d L.at_ λv es h=>by cases h)];exact L.at_
 have ho:∀k,k<4*lo->get H4 k=get H k:=λk hk=>p4 k (by have:=L.li;omega) λo m w e=>by have:=L.ld k o m w e;omega
 refine⟨y',H4,p1,hl4,λk hk=>?_,?_,λk hk=>?_⟩
 ·rw[get_set_ne _ _ (by have:=L.li;omega)];exact p2 k (by omega)
 ·have hlb:∀y b,LB H n y b->LB (Arx.set H4 lid (.cells (pre++[ya,yp,y']))) n' y b:=λy b q=>(lbpush q (show n<=n' by omega) p4 L.d (by decide)).setC hl4 _
  exact⟨⟨L.li.1,by have:=L.li;omega⟩,get_set_same _ _ _,(QE.setC (bpush (e:=5) L.a (show n<=n' by omega) p4 L.d (by decide)) hl4 _),(L.al.mono hlb),(QE.setC (bpush (e:=15) L.p (show n<=n' by omega) p4 L.d (by decide)) hl4 _),L.pl,(by show QE 1 _ _ _ ((g.drains++[t]).map numC);rw[List.map_append];exact QE.setC (p3.mono (show slot+1<=n' by omega) λ_ _=>rfl) hl4 _),L.la,L.lp,(λk o m w e=>by rcases p5 k o m w e with q | ⟨o,m,w,q⟩;(have:=L.li;omega);exact L.ld k o m w q),L.fits⟩
 ·rw[get_set_ne _ _ (by have:=L.li;omega)];exact ho k hk
variable {c1:Call1} {cx:CallX}
end Arx
namespace Arx
open Go Arb
attribute [local simp] evalRgn Option.map_some evalOps step wants isS osem Mrun_bindZ M.mapL M.run M.ok M.fresh M.write M.look M.lift putD ev fr_cons fr_nil keepFr lset_nil lset_cons get_set_same bin binM intBin strBin mk params cellsM load obRead fadr fld isl iarr xarr idx len valid slc rowLen bound store splice un callee Option.bind_some M.bind putAll
def aliveN (c:Int) (l:List Act):Nat:=(l.filter λa=>a.c==c&&a.t==0).length
def ofN (c:Int) (l:List Act):Nat:=(l.filter λa=>a.c==c).length
def subX (g:Lg) (o:Arb.Op) (now:Int):Lg:=if(ofX o.x).2=0/\aliveN o.c g.acts<6 then { g with acts:=g.acts++[⟨o.c,(ofN o.c g.acts:Int)+1,(ofX o.x).1,now,0⟩] } else g
theorem ofX_fits {x:Xp} (hx:x.ok):(ofX x).1.length<=1000/\∀b ∈ (ofX x).1,b.lim 1000 400:=by
 unfold ofX;split
 ·rename_i hr;obtain⟨hcn,hall⟩:=right_cnt hr;obtain⟨b1,b2⟩:=boxes_lim hx false hall;split
  ·exact⟨by show(boxesX false x).1.length<=1000;omega,λb hb=>limM (b1 b hb) (by omega) (by omega)⟩
  ·exact⟨by simp,λb hb=>by simp at hb⟩
 ·exact⟨by simp,λb hb=>by simp at hb⟩
theorem aliveN_le (c:Int) (l:List Act):aliveN c l<=l.length:=List.length_filter_le _ _
theorem ofN_le (c:Int) (l:List Act):ofN c l<=l.length:=List.length_filter_le _ _
theorem aliveN_take {c:Int} {l:List Act} {i:Nat} {a:Act} (h:l[i]?=some a):aliveN c (l.take (i+1))=aliveN c (l.take i)+if(a.c==c&&a.t==0)=true then 1 else 0:=by
 unfold aliveN;rw[List.take_add_one,h,List.filter_append,List.length_append];cases hb:(a.c==c&&a.t==0)<;>simp[hb]
theorem ofN_take {c:Int} {l:List Act} {i:Nat} {a:Act} (h:l[i]?=some a):ofN c (l.take (i+1))=ofN c (l.take i)+if(a.c==c)=true then 1 else 0:=by
 unfold ofN;rw[List.take_add_one,h,List.filter_append,List.length_append];cases hb:(a.c==c)<;>simp[hb]
structure LibL (p1:Nat->Option Arb.IFn) (p2:Nat->Option IFn):Prop where
 O:LibO p1 p2
 W:LibW p1 p2
 h:LibH p1
 h183:p2 183=some F183
 h177:p2 177=some F177
 h176:p2 176=some F176
 h174:p2 174=some F174
 h196:p2 196=some F196
 h142:p2 142=some F142
 h149:p2 149=some F149
 h195:p2 195=some F195
 h154:p2 154=some F154
 h155:p2 155=some F155
 h199:p2 199=some F199
 h200:p2 200=some F200
 h143:p2 143=some F143
 h150:p2 150=some F150
 h139:p2 139=some F139
 h146:p2 146=some F146
 h197:p2 197=some F197
 h198:p2 198=some F198
 h153:p2 153=some F153
 h159:p2 159=some F159
section
variable {p1:Nat->Option Arb.IFn} {p2:Nat->Option IFn}
theorem op_at (o:Arb.Op):o.enc.length=24/\o.enc.take 1=[.int .i64 o.k]/\(o.enc.drop 1).take 1=[.int .i64 o.c]/\o.enc.tail.take 1=[.int .i64 o.c]/\(o.enc.drop 2).take 1=[.int .i64 o.u]/\(o.enc.drop 5).take 7=o.x.enc/\(o.enc.drop 12).take 12=o.e.enc:=by
 obtain⟨_,_,_,_,_,x,e⟩:=o;cases x;exact⟨rfl,rfl,rfl,rfl,rfl,rfl,rfl⟩
set_option maxHeartbeats 4000000 in
theorem ev183 (hp2:PrimsLe p2) (L:LibL p1 p2) (x:Hd) (o:Arb.Op) (ho:o.ok) (now lo lid:Nat) (g:Lg) (H:Hp) (nx:Nat) (hf:Fresh H nx) {ya yp yd:AV} {ra rp:List (List AV)} (G:LG lo H nx lid x g ya yp yd ra rp) (hl:g.acts.length<=1000) :
  ∃H' nx' ya' yp' yd' ra' rp',nx<=nx'/\Fresh H' nx'/\LG lo H' nx' lid x (subX g o now) ya' yp' yd' ra' rp'/\(∀k,k<4*lo->get H' k=get H k)/\Ev p1 p2 183 [.ref lid 0 0 0,.iv (.ptr o.enc),.nI now] H nx (.tup [],H',nx'):=by
 obtain⟨o0,o1,o2,o3, -,o5, -⟩:=op_at o;obtain⟨H1,n1,yb,hE1,hyb,hybo,K1,hK1⟩:=ev184 (p1:=p1) hp2 L.O ho.x H (nx+10) (λk hk=>hf k (by omega));have hbf:=ofX_fits ho.x;have hxl:(o.x.enc).length=7:=o.x.len_enc;unfold subX;generalize ofX o.x=r at *;obtain⟨bs,er⟩:=r;simp only[]at hyb hK1 hbf;generalize o.enc=oe at *;generalize o.x.enc=xe at *;generalize hoc:o.c=c at *;have hE01:Ext H nx H1 n1:=⟨by have:=hE1.le;omega,hE1.fresh,λk hk=>hE1.old k (by omega)⟩;have G1:=G.ext hE01;have key:Wp p1 p2 F183.body ⟨params [.ref lid 0 0 0,.iv (.ptr oe),.nI now] 0,H,nx⟩ (λe st=>∃r:AV×Hp×Nat,(r.1 = .tup []/\∃ya' yp' yd' ra' rp',nx<=r.2.2/\Fresh r.2.1 r.2.2/\LG lo r.2.1 r.2.2 lid x (if er=0/\aliveN c g.acts<6 then { g with acts:=g.acts++[⟨c,(ofN c g.acts:Int)+1,bs,now,0⟩] } else g) ya' yp' yd' ra' rp'/\(∀k,k<4*lo->get r.2.1 k=get H k))/\Fin F183.res r e st):=by
  refine WpskZ (K:=K1) (λn hn=>by
   have hc:=hK1 n hn;simp[o0,o5,hxl,hc];rfl) ?_
  refine WpsgZ ?_;refine ab (ab ?_);have hla:=G1.a.len;have hat:=G1.at_;have hral:ra.length=g.acts.length:=G1.al.1;rw[hral]at hla;refine Wpr0Z (by
   simp[-len,hat,hdC_eq,hla];rfl) ?_
  refine WpblockZ ?_;refine WploopZ (λm s1=>∃(i n2:Nat) (H2:Hp),i+m=g.acts.length/\Ext H1 n1 H2 n2/\
   s1=⟨[(0,.ref lid 0 0 0),(1,.iv (.ptr oe)),(2,.nI now),(6,yb),(7,.nI er),(8,.nI (aliveN c (g.acts.take i))),(9,.nI (ofN c (g.acts.take i))),(23,ya),(24,.nI g.acts.length),(25,.nI i)],H2,n2⟩) (m:=g.acts.length)
   ⟨0,n1+8,H1,by omega,Ext.refl hE1.fresh (by omega),by simp[fr_cons,keepFr,aliveN,ofN]⟩ ?_
  rintro m s1 ⟨i,n2,H2,him,hE2,rfl⟩;refine ab ?_;by_cases hi:i<g.acts.length
  ·obtain⟨a,ha⟩:∃a,g.acts[i]?=some a:=⟨_,List.getElem?_eq_getElem hi⟩;have hw1:IntKind.i64.wrap ((i:Int)+1)=(i:Int)+1:=IntWalk.i64_in _ (by omega);have G2:=G1.ext hE2;obtain⟨row,hrow,yrow,rfl,hyrow⟩:=G2.al.get ha;obtain⟨ida,va,i1, -,hya,i4⟩:=G2.a.at_ hrow;rw[hral]at hya;subst hya;have hal:=aliveN_take (c:=c) ha;have hof:=ofN_take (c:=c) ha;have hal9:aliveN c (g.acts.take i)<=1000:=by have:=aliveN_le c (g.acts.take i);rw[List.length_take]at this;omega
   have hof9:ofN c (g.acts.take i)<=1000:=by have:=ofN_le c (g.acts.take i);rw[List.length_take]at this;omega
   generalize aliveN c (g.acts.take i)=A at *;generalize ofN c (g.acts.take i)=N at *;have hwA:IntKind.i64.wrap ((A:Int)+1)=(A:Int)+1:=IntWalk.i64_in _ (by omega);have hwN:IntKind.i64.wrap ((N:Int)+1)=(N:Int)+1:=IntWalk.i64_in _ (by omega);simp only[numV]at hrow;have hfr:get H2 (4*(n2+1+2))=none:=hE2.fresh _ (by omega);have hE3:Ext H1 n1 (Arx.set (Arx.set H2 (4*(n2+1+2)) (.cells [.nI 0,.nI 0,.iv (.nsl 16),.nI 0,.nI 0])) (4*(n2+1+2)) (.cells [.nI a.c,.nI a.u,yrow,.nI a.f,.nI a.t])) (n2+1+4):=
    ((hE2.up (show n2<=n2+1+4 by omega)).set (by have:=hE2.le;omega) (by omega) _).set (by have:=hE2.le;omega) (by omega) _
   generalize hH3:(Arx.set (Arx.set H2 (4*(n2+1+2)) (Ob.cells [.nI 0,.nI 0,.iv (.nsl 16),.nI 0,.nI 0])) (4*(n2+1+2)) (Ob.cells [.nI a.c,.nI a.u,yrow,.nI a.f,.nI a.t]))=H3 at hE3;have h3g:get H3 (4*(n2+1+2))=some (.cells [.nI a.c,.nI a.u,yrow,.nI a.f,.nI a.t]):=by rw[<-hH3];exact get_set_same _ _ _
   refine Wpr0Z (by simp[hi];rfl) ?_;refine ab (WpcondZ (t:=true) rfl (WpskipZ (ab (WpblockZ (Wps0Z (s':=⟨_,H3,n2+1+4⟩) (by
    rw[<-hH3];simp[i4,hi,hrow,hfr];rfl) ?_)))))
   refine ab (Wp.drawn rfl ?_);refine Wpr0Z (by
    simp[h3g,o0,o3];rfl) ?_
   refine WpcondZ rfl ?_;cases hac:a.c==c with
   |false=>
    rw[hac]at hal hof;simp only[Bool.false_and,Bool.false_eq_true,if_false,Nat.add_zero]at hal hof ⊢;refine WpskipZ ?_;simp only[Ex.then,Ex.inBlock];refine Wpr0Z (by simp[hw1];rfl) ?_;exact⟨m - 1,by omega,i+1,_,H3,by omega,hE3.up (show n2+1+4<=n2+1+4+7+2 by omega),by simp[fr_cons,keepFr,hal,hof]⟩
   |true=>
    rw[hac]at hal hof;simp only[Bool.true_and,if_true]at hal hof ⊢;refine Wps0Z (by simp[hwN];rfl) ?_;refine Wps0Z (by
     simp[h3g];rfl) ?_
    refine WpcondZ rfl ?_;cases hat0:a.t==0 with
    |false=>
     rw[hat0]at hal;simp only[Bool.false_eq_true,if_false,Nat.add_zero]at hal ⊢;refine WpskipZ ?_;simp only[Ex.then,Ex.inBlock];refine Wpr0Z (by simp[hw1];rfl) ?_;exact⟨m - 1,by omega,i+1,_,H3,by omega,hE3.up (show n2+1+4<=n2+1+4+7+3+3+2 by omega),by simp[fr_cons,keepFr,hal,hof]⟩
    |true=>
     rw[hat0]at hal;simp only[if_true]at hal ⊢;refine Wpr0Z (by simp[hwA];rfl) ?_;simp only[Ex.then,Ex.inBlock];refine Wpr0Z (by simp[hw1];rfl) ?_;exact⟨m - 1,by omega,i+1,_,H3,by omega,hE3.up (show n2+1+4<=n2+1+4+7+3+3+3+2 by omega),by simp[fr_cons,keepFr,hal,hof]⟩
  ·obtain rfl:i=g.acts.length:=by omega
   refine WprgZ ?_;refine ab (WpcondZ (t:=false) rfl (WpexitZ ?_));simp only[Ex.then,Ex.inBlock,if_true];have G2:=G1.ext hE2;have hN9:=ofN_le c g.acts;generalize ofN c g.acts=N at *;generalize aliveN c g.acts=A at *;refine Wps0Z (s':=⟨[(0,.ref lid 0 0 0),(1,.iv (.ptr oe)),(2,.nI now),(6,yb),(9,.nI N),(49,.bI (decide (er=0)&&decide (A<6)))],H2,n2+1+6⟩) (by
    have h1:(er==0)=decide (er=0):=by by_cases h:er=0<;>simp[h]
    have h2:decide ((A:Int)<6)=decide (A<6):=decide_eq_decide.2 (by omega);cases h0:decide (er=0)<;>simp[h1,h2,h0]) ?_
   refine WpcondZ rfl ?_;by_cases hc:er=0/\A<6
   ·rw[if_pos hc];have:(decide (er=0)&&decide (A<6))=true:=by simp[hc]
    rw[this];simp only[if_true];have hwN:IntKind.i64.wrap ((N:Int)+1)=(N:Int)+1:=IntWalk.i64_in _ (by omega);have G3:=G2.ext (Ext.refl hE2.fresh (show n2<=n2+1+6 by omega));have hf3:Fresh H2 (n2+1+6):=λk hk=>hE2.fresh k (by omega)
    have hE4:=hE01.trans (hE2.up (show n2<=n2+1+6 by omega));obtain⟨y',H4,q1,q2,q3,q4,q5⟩:=G3.pushA hf3 (a:=⟨c,(N:Int)+1,bs,now,0⟩) (r:=[.nI c,.nI ((N:Int)+1),yb,.nI now,.nI 0]) ⟨yb,rfl,hyb.mono (show n1<=n2+1+6 by have:=hE2.le;omega) hE2.old⟩ hbf (gid:=4*(n2+1+6+14)) (slot:=n2+1+6+15) (n':=n2+1+6+19) (by omega) (by omega) (by omega) (by omega) (by omega);have hat2:=G2.at_;have hfg:get H2 (4*(n2+1+6+14))=none:=hf3 _ (by omega);have hlg:get (Arx.set H2 (4*(n2+1+6+14)) (.buf 0 5 [[.nI c,.nI ((N:Int)+1),yb,.nI now,.nI 0]])) lid=get H2 lid:=get_set_ne _ _ (by have:=G2.li;omega);have hcell:cellsM yb = .ret [yb]:=hyb.cell
    have hcell':cellsM y' = .ret [y']:=q4.a.cell;rw[hdC_eq]at q2 q3 q4 q5 hat2;simp only[List.cons_append,List.nil_append]at q2 q3 q4 q5 hat2;refine Wp.drawn rfl ?_;refine Wpr0Z (s':=⟨[],_,n2+1+6+19⟩) (by
     simp only[Nat.add_assoc]at q1 q2 hfg hlg;simp[-cellsM,cellsM_iv,cellsM_agg,hat2,o0,o3,hwN,hfg,hcell,hcell',setAll,putAll,Nat.add_assoc,q1,q2];rfl) ?_
    exact⟨(_,_,_),⟨rfl,y',yp,yd,_,rp,by have:=hE4.le;show nx<=n2+1+6+19;omega,q3,q4,λk hk=>by rw[q5 k hk];exact hE4.old k (by have:=G.li;omega)⟩,rfl,rfl⟩
   ·rw[if_neg hc];have:(decide (er=0)&&decide (A<6))=false:=by
     rw[Bool.eq_false_iff];intro h;exact hc (by simpa using h)
    rw[this];simp only[Bool.false_eq_true,if_false];refine WpskipZ ?_;have hE4:=hE01.trans (hE2.up (show n2<=n2+1+6 by omega));exact⟨(_,_,_),⟨rfl,ya,yp,yd,ra,rp,hE4.le,hE4.fresh,G.ext hE4,λk hk=>hE4.old k (by have:=G.li;omega)⟩,rfl,rfl⟩
 obtain⟨⟨y,H',nx'⟩,⟨rfl,ya',yp',yd',ra',rp',h1,h2,h3,h4⟩,h5⟩:=Ev.ofx hp2 L.h183 rfl rfl _ key;exact⟨H',nx',ya',yp',yd',ra',rp',h1,h2,h3,h4,h5⟩
end
end Arx
namespace Arx
open Go Arb
def endM (c u:Int) (a:Act):Bool:=a.c==c&&(a.u==u&&a.t==0)
def endX (c u now:Int) (l:List Act):List Act:=if 0<=idxF (endM c u) l 0 then l.modify (idxF (endM c u) l 0).toNat (λa=>{ a with t:=now }) else l
theorem endX_len (c u now:Int) (l:List Act):(endX c u now l).length=l.length:=by unfold endX;split<;>simp
def outC (h:Hd) (c:Int):Bool:=decide (c<0)||decide ((h.hs.length:Int)<=c)
def stepX (h:Hd) (g:Lg) (i:Nat) (o:Arb.Op):Lg:=
 let g1:Lg:=if o.k=5 then { g with drains:=g.drains++[(i:Int)+1] } else g
 if outC h o.c=true then g1
 else if o.k=1 then subX g1 o ((i:Int)+1)
 else if o.k=2 then { g1 with acts:=endX o.c o.u ((i:Int)+1) g1.acts }
 else if o.k=3 then(if rightE o.e=true then { g1 with pubs:=g1.pubs++[⟨o.c,o.e,(i:Int)+1⟩] } else g1)
 else g1
def readTo (h:Hd) (l:List Arb.Op):Nat->Lg
 |0=>⟨[],[],[]⟩
 |t+1=>match l[t]? with
  |some o=>stepX h (readTo h l t) t o
  |none=>readTo h l t
def readX (h:Hd) (l:List Arb.Op):Lg:=if checkH h=0 then readTo h l l.length else⟨[],[],[]⟩
theorem subX_len (g:Lg) (o:Arb.Op) (now:Int):(subX g o now).acts.length<=g.acts.length+1/\(subX g o now).pubs=g.pubs/\(subX g o now).drains=g.drains:=by
 unfold subX;split<;>simp
theorem stepX_len (h:Hd) (g:Lg) (i:Nat) (o:Arb.Op):(stepX h g i o).acts.length<=g.acts.length+1/\(stepX h g i o).pubs.length<=g.pubs.length+1/\(stepX h g i o).drains.length<=g.drains.length+1:=by
 unfold stepX;simp only[];have h1:(if o.k=5 then { g with drains:=g.drains++[(i:Int)+1] } else g).acts.length=g.acts.length:=by split<;>rfl
 have h2:(if o.k=5 then { g with drains:=g.drains++[(i:Int)+1] } else g).pubs.length=g.pubs.length:=by split<;>rfl
 have h3:(if o.k=5 then { g with drains:=g.drains++[(i:Int)+1] } else g).drains.length<=g.drains.length+1:=by split<;>simp
 generalize(if o.k=5 then { g with drains:=g.drains++[(i:Int)+1] } else g)=g1 at *;have hs:=subX_len g1 o ((i:Int)+1);split
 ·omega
 ·split
  ·rw[hs.2.1,hs.2.2];omega
  ·split
   ·simp only[endX_len];omega
   ·split
    ·split
     ·simp only[List.length_append,List.length_cons,List.length_nil];omega
     ·omega
    ·omega
theorem readTo_len (h:Hd) (l:List Arb.Op):∀t,(readTo h l t).acts.length<=t/\(readTo h l t).pubs.length<=t/\(readTo h l t).drains.length<=t
 |0=>by simp[readTo]
 |t+1=>by
  have ih:=readTo_len h l t;unfold readTo;split
  ·rename_i o _;have:=stepX_len h (readTo h l t) t o;omega
  ·omega
theorem QE.setB {e:Nat} {H:Hp} {n:Nat} {y:AV} {rows:List (List AV)} (h:QE e H n y rows) {k v e':Nat} {es:List (List AV)} (hk:get H k=some (.buf v e' es)) (hne:e≠e') (ob:Ob):QE e (Arx.set H k ob) n y rows:=by
 rcases h with h | ⟨id,v,i1,i2,i3,i4⟩
 ·exact .inl h
 ·exact .inr ⟨id,v,i1,i2,i3,by rw[get_set_ne _ _ (λe=>by subst e;rw[hk]at i4;cases i4;exact hne rfl)];exact i4⟩
theorem LB.setB {H:Hp} {n:Nat} {y:AV} {l:List B} (h:LB H n y l) {k v e':Nat} {es:List (List AV)} (hk:get H k=some (.buf v e' es)) (hne:16≠e') (ob:Ob):LB (Arx.set H k ob) n y l:=by
 rcases h with h | h | ⟨id,h1,h2,h3⟩
 ·exact .inl h
 ·exact .inr (.inl h)
 ·refine .inr (.inr ⟨id,h1,h2,?_⟩);rw[get_set_ne _ _ (λe=>by
   subst e;rw[hk]at h3;rcases h3 with h3 | h3
   ·cases h3;exact hne rfl
   ·cases h3)]
  exact h3
theorem LGp.setA {lo:Nat} {H:Hp} {n lid:Nat} {pre:List AV} {g:Lg} {yp yd:AV} {ra rp:List (List AV)} {ida va:Nat} (L:LGp lo H n lid pre g (.own ida 0 ra.length va) yp yd ra rp) (hid:get H ida=some (.buf va 5 ra)) (hlt:ida<4*n) (hm:ida % 4=0) {i:Nat} {a:Act} {r:List AV} (hr:AR H n r a) (ha:a.fits) :
  LGp lo (Arx.set H ida (.buf va 5 (ra.set i r))) n lid pre { g with acts:=g.acts.set i a } (.own ida 0 ra.length va) yp yd (ra.set i r) rp:=by
 have hlb:∀y b,LB H n y b->LB (Arx.set H ida (.buf va 5 (ra.set i r))) n y b:=λy b q=>q.setB hid (by decide) _
 refine⟨L.li,?_,?_,(L.al.mono hlb).set (by obtain⟨y,e,q⟩:=hr;exact⟨y,e,hlb _ _ q⟩),L.p.setB hid (by decide) _,L.pl,QE.setB L.d hid (by decide) _,L.la,L.lp,L.ld,λb hb=>?_⟩
 ·rw[get_set_ne _ _ (λe=>by rw[e]at hid;have:=L.at_;rw[hid]at this;cases this)];exact L.at_
 ·exact .inr ⟨ida,va,hlt,hm,by simp,get_set_same _ _ _⟩
 ·rcases List.mem_or_eq_of_mem_set hb with q | q
  ·exact L.fits b q
  ·rw[q];exact ha
section
variable {p1:Nat->Option Arb.IFn} {p2:Nat->Option IFn}
theorem callCheck (L:LibL p1 p2) (x:Hd) (hp:x.ps.length<=100) (hh:x.hs.length<=100):∃K,∀m,K<=m->∀(H:Hp),(callM (one p1 m) (.iv (.fn 131 [])) [.agg (hdC x)]).run H=some (.nI (checkH x),H):=by
 obtain⟨K1,hK1⟩:=x_check L.W.T.h131 x (by unfold maxLen;omega) (by unfold maxLen;omega);refine⟨K1,λm hm H=>?_⟩;have e1:(one p1 m 131 [.agg (x.enc.map Arb.AV.iv)] []).bind shut=some (.nI (checkH x)):=hK1 m (by omega);have hz:∀w,fz1 w (.agg (hdC x)) = .ret (.agg (x.enc.map Arb.AV.iv)):=λw=>by
  unfold fz1;simp only[];rw[hd_fz8];rfl
 simp[callM,callee,Mrun_bindZ,M.lift,M.run,M.mapL,hz,e1,ofA,of1,M.ok,flat,flat1,flat0,flatI,M.bind]
theorem callEvent (L:LibL p1 p2) (e:E):∃K,∀m,K<=m->∀(H:Hp),(callM (one p1 m) (.iv (.fn 137 [])) [.agg (e.enc.map AV.iv)]).run H=some (.bI (rightE e),H):=by
 obtain⟨K1,hK1⟩:=x_event L.h.h138 L.h.h137 e;refine⟨K1,λm hm H=>?_⟩;have e1:(one p1 m 137 [.agg (e.enc.map Arb.AV.iv)] []).bind shut=some (.bI (rightE e)):=hK1 m (by omega);have hz:fz1 false (.agg (e.enc.map AV.iv)) = .ret (.agg (e.enc.map Arb.AV.iv)):=by
  unfold fz1;simp only[];rw[fz_ivs false 7 e.enc e.enc_all];rfl
 simp[callM,callee,Mrun_bindZ,M.lift,M.run,M.mapL,hz,e1,ofA,of1,M.ok,flat,flat1,flat0,flatI,M.bind]
end
end Arx
namespace Arx
open Go Arb
attribute [local simp] evalRgn Option.map_some evalOps step wants isS osem Mrun_bindZ M.mapL M.run M.ok M.fresh M.write M.look M.lift putD ev fr_cons fr_nil keepFr lset_nil lset_cons get_set_same bin binM intBin strBin mk params cellsM load obRead fadr fld isl iarr xarr idx len valid slc rowLen bound store splice un callee Option.bind_some M.bind putAll
def opBlk:IC:=match F177.body with
 |.seq _ (.scope (.seq _ (.seq _ (.seq _ (.seq (.seq _ (.block _ (.loop _ (.seq _ (.seq _ (.seq (.block _ (.seq _ (.seq _ c))) _)))))) _)))))=>c
 |_=>.skip
def endBlk:IC:=match opBlk with
 |.seq _ (.seq _ (.seq _ (.block _ (.seq _ (.cond _ _ (.seq _ (.cond _ e _)))))))=>e
 |_=>.skip
structure FRB (fr:Fr) (scr box:AV) (lid:Nat) (N i:Int):Prop where
 g1:get fr 1=some scr
 g2:get fr 2=some box
 g5:get fr 5=some (.ref lid 0 0 0)
 g19:get fr 19=some (.iv (.int .i64 N))
 g20:get fr 20=some (.iv (.int .i64 i))
section
variable {p1:Nat->Option Arb.IFn} {p2:Nat->Option IFn}
set_option maxHeartbeats 4000000 in
theorem read_end (scr box:AV) (N i:Int) (x:Hd) (o:Arb.Op) (now lo lid:Nat) (g:Lg) (H:Hp) (nx:Nat) (hf:Fresh H nx) {ya yp yd:AV} {ra rp:List (List AV)} (G:LG lo H nx lid x g ya yp yd ra rp) (hl:g.acts.length<=1000) :
  Wp p1 p2 endBlk ⟨[(1,scr),(2,box),(5,.ref lid 0 0 0),(7,.iv (.ptr o.enc)),(8,.nI now),(19,.nI N),(20,.nI i),(61,.nI o.k),(68,.bI true)],H,nx⟩
   (λe st=>(e = .norm\/e = .exit 1)/\∃ya' yp' yd' ra' rp',FRB st.fr scr box lid N i/\nx<=st.nx/\Fresh st.hp st.nx/\LG lo st.hp st.nx lid x { g with acts:=endX o.c o.u now g.acts } ya' yp' yd' ra' rp'/\(∀k,k<4*lo->get st.hp k=get H k)):=by
 obtain⟨o0,o1,o2,o3,o4, -, -⟩:=op_at o;unfold endX;generalize o.enc=oe at *;generalize o.c=c at *;generalize o.u=u at *;have hla:=G.a.len;have hat:=G.at_;have hral:ra.length=g.acts.length:=G.al.1;rw[hral]at hla;refine Wps0Z (s':=⟨[(1,scr),(2,box),(5,.ref lid 0 0 0),(7,.iv (.ptr oe)),(8,.nI now),(19,.nI N),(20,.nI i),(74,.nI g.acts.length),(75,.nI 0)],H,nx+6⟩) (by
  simp[-len,hat,hdC_eq,hla]) ?_
 refine WpblockZ ?_;refine WploopZ (λm s1=>∃(j n2:Nat),j+m=g.acts.length/\nx<=n2/\idxF (endM c u) (g.acts.drop j) j=idxF (endM c u) g.acts 0/\
  s1=⟨[(1,scr),(2,box),(5,.ref lid 0 0 0),(7,.iv (.ptr oe)),(8,.nI now),(19,.nI N),(20,.nI i),(74,.nI g.acts.length),(75,.nI j)],H,n2⟩) (m:=g.acts.length)
  ⟨0,nx+6,by omega,by omega,rfl,by simp[fr_cons,keepFr]⟩ ?_
 rintro m s1 ⟨j,n2,hjm,hn2,hidx,rfl⟩;refine ab ?_;by_cases hj:j<g.acts.length
 ·obtain⟨a,ha⟩:∃a,g.acts[j]?=some a:=⟨_,List.getElem?_eq_getElem hj⟩;have hw1:IntKind.i64.wrap ((j:Int)+1)=(j:Int)+1:=IntWalk.i64_in _ (by omega);rw[idxF_cons ha]at hidx;obtain⟨row,hrow,yrow,rfl,hyrow⟩:=G.al.get ha;obtain⟨ida,va,i1,i2,hya,i4⟩:=G.a.at_ hrow;have G0:=G;rw[hya]at G0;rw[hral]at hya;have hgE:{ g with acts:=g.acts.set j { a with t:=now } }=({ acts:=g.acts.set j { a with t:=now },pubs:=g.pubs,drains:=g.drains }:Lg):=rfl;simp only[numV]at hrow;refine Wpr0Z (by simp[hj];rfl) ?_;refine ab (WpcondZ (t:=true) rfl (WpskipZ (ab (WpblockZ (WpsgZ ?_)))));refine ab ?_;rw[hya,hdC_eq]at hat
  refine Wpr0Z (s':=⟨[(1,scr),(2,box),(5,.ref lid 0 0 0),(7,.iv (.ptr oe)),(8,.nI now),(10,.ref ida va j 0),(19,.nI N),(20,.nI i),(74,.nI g.acts.length),(75,.nI j)],H,n2+1+2+7⟩) (by
   simp[hat,i4,hj]) ?_
  refine ab (Wp.drawn rfl ?_);refine Wpr0Z (s':=⟨[(1,scr),(2,box),(5,.ref lid 0 0 0),(7,.iv (.ptr oe)),(8,.nI now),(10,.ref ida va j 0),(19,.nI N),(20,.nI i),(74,.nI g.acts.length),(75,.nI j),(110,.bI (endM c u a))],H,n2+1+2+7+27⟩) (by
   unfold endM;cases h1:a.c==c<;>cases h2:a.u==u<;>simp[i4,hrow,o0,o2,o3,o4,h1,h2]) ?_
  refine WpcondZ rfl ?_;cases hm:endM c u a with
  |true=>
   rw[hm]at hidx;simp only[if_true]at hidx ⊢;have hsp:splice [AV.iv (IV.int IntKind.i64 a.c),AV.iv (IV.int IntKind.i64 a.u),yrow,AV.iv (IV.int IntKind.i64 a.f),AV.iv (IV.int IntKind.i64 a.t)] 4 [.nI now]=[AV.iv (IV.int IntKind.i64 a.c),AV.iv (IV.int IntKind.i64 a.u),yrow,AV.iv (IV.int IntKind.i64 a.f),AV.iv (IV.int IntKind.i64 now)]:=rfl;refine Wps0Z (s':=⟨[(1,scr),(2,box),(5,.ref lid 0 0 0),(19,.nI N),(20,.nI i)],Arx.set H ida (.buf va 5 (ra.set j [AV.iv (IV.int IntKind.i64 a.c),AV.iv (IV.int IntKind.i64 a.u),yrow,AV.iv (IV.int IntKind.i64 a.f),AV.iv (IV.int IntKind.i64 now)])),n2+1+2+7+27+5⟩) (by
    simp[i4,hrow]) ?_
   refine WpexitZ ?_;simp only[Ex.then,Ex.inBlock,if_true,if_false,reduceIte,show ¬(1=4) by decide,show ¬(1=3) by decide];have G1:=G0.ext (Ext.refl hf (show nx<=n2+1+2+7+27+5 by omega));have haf:a.fits:=G.fits a (List.mem_of_getElem? ha);have G2:=G1.setA i4 (by omega) i2 (i:=j) (a:={ a with t:=now }) (r:=[AV.iv (IV.int IntKind.i64 a.c),AV.iv (IV.int IntKind.i64 a.u),yrow,AV.iv (IV.int IntKind.i64 a.f),AV.iv (IV.int IntKind.i64 now)]) ⟨yrow,rfl,hyrow.mono (by omega) λ_ _=>rfl⟩ haf;rw[<-hidx];have hmod:g.acts.modify (j:Int).toNat (λa=>{ a with t:=now })=g.acts.set j { a with t:=now }:=by
    rw[Int.toNat_natCast];apply List.ext_getElem?;intro k;rw[List.getElem?_modify];by_cases hk:j=k
    ·subst hk;rw[List.getElem?_set_self hj,ha];simp
    ·rw[List.getElem?_set_ne hk];simp[hk]
   rw[if_pos (show(0:Int)<=(j:Int) by omega),hmod];have hlo:4*lo<=ida:=G0.la _ _ _ _ rfl;have hidn:ida<4*nx:=by rcases G0.a with⟨h, -⟩|⟨id',v',q1, -,q3, -⟩;(cases h);(cases q3;exact q1)
   exact⟨by simp,_,_,_,_,_,⟨rfl,rfl,rfl,rfl,rfl⟩,by show nx<=n2+1+2+7+27+5;omega,λk hk=>by
    show get (Arx.set H ida _) k=none
    rw[get_set_ne _ _ (by have:4*(n2+1+2+7+27+5)<=k:=hk;omega)];exact hf k (by have:4*(n2+1+2+7+27+5)<=k:=hk;omega),G2,λk hk=>get_set_ne _ _ (by omega)⟩
  |false=>
   rw[hm]at hidx;simp only[Bool.false_eq_true,if_false]at hidx ⊢;refine WpskipZ ?_;simp only[Ex.then,Ex.inBlock];refine Wpr0Z (by simp[hw1];rfl) ?_;exact⟨m - 1,by omega,j+1,_,by omega,by show nx<=n2+1+2+7+27+2;omega,hidx,by simp[fr_cons,keepFr]⟩
 ·obtain rfl:j=g.acts.length:=by omega
  refine WprgZ ?_;refine ab (WpcondZ (t:=false) rfl (WpexitZ ?_));simp only[Ex.then,Ex.inBlock,if_true];rw[List.drop_length]at hidx;have:¬0<=idxF (endM c u) g.acts 0:=by rw[<-hidx];simp[idxF]
  rw[if_neg this];have hE:=Ext.refl hf (show nx<=n2+1 by omega);exact⟨by simp,_,_,_,_,_,⟨rfl,rfl,rfl,rfl,rfl⟩,by show nx<=n2+1;omega,hE.fresh,G.ext hE,by simp⟩
end
structure FR7 (fr:Fr) (scr box:AV) (lid:Nat) (N i:Int) (oe:List IV) (now:Nat):Prop extends FRB fr scr box lid N i where
 g7:get fr 7=some (.iv (.ptr oe))
 g8:get fr 8=some (.iv (.int .i64 now))
def drainC:IC:=match opBlk with
 |.seq c _=>c
 |_=>.skip
section
variable {p1:Nat->Option Arb.IFn} {p2:Nat->Option IFn}
set_option maxHeartbeats 4000000 in
theorem read_drain (scr box:AV) (N i:Int) (x:Hd) (o:Arb.Op) (now lo lid:Nat) (g:Lg) (H:Hp) (nx:Nat) (hf:Fresh H nx) {ya yp yd:AV} {ra rp:List (List AV)} (G:LG lo H nx lid x g ya yp yd ra rp) (hl:g.drains.length<=1000) :
  Wp p1 p2 drainC ⟨[(1,scr),(2,box),(5,.ref lid 0 0 0),(7,.iv (.ptr o.enc)),(8,.nI now),(19,.nI N),(20,.nI i)],H,nx⟩
   (λe st=>e = .norm/\∃ya' yp' yd' ra' rp',FR7 st.fr scr box lid N i o.enc now/\nx<=st.nx/\Fresh st.hp st.nx/\LG lo st.hp st.nx lid x (if o.k=5 then { g with drains:=g.drains++[(now:Int)] } else g) ya' yp' yd' ra' rp'/\(∀k,k<4*lo->get st.hp k=get H k)):=by
 obtain⟨o0,o1,o2,o3,o4, -, -⟩:=op_at o;generalize o.enc=oe at *;generalize o.k=k at *;refine Wps0Z (by
  have:(k==5)=decide (k=5):=by by_cases h:k=5<;>simp[h]
  simp[o0,o1,this];rfl) ?_
 refine WpcondZ rfl ?_;by_cases hk:k=5
 ·rw[decide_eq_true hk,if_pos hk];simp only[if_true];have G1:=G.ext (Ext.refl hf (show nx<=nx+5 by omega));obtain⟨y',H4,q1,q2,q3,q4,q5⟩:=G1.pushD (λk hk=>hf k (by omega)) (now:Int) (gid:=4*(nx+5+6)) (slot:=nx+5+7) (n':=nx+5+11) (by omega) (by omega) (by omega) (by omega) (by omega);have hat2:=G.at_;have hfg:get H (4*(nx+5+6))=none:=hf _ (by omega);have hlg:get (Arx.set H (4*(nx+5+6)) (.buf 0 1 [numC now])) lid=get H lid:=get_set_ne _ _ (by have:=G.li;omega);have hcell':cellsM y' = .ret [y']:=QE.cell (e:=1) q4.d;rw[hdC_eq]at q2 q3 q4 q5 hat2;simp only[List.cons_append,List.nil_append]at q2 q3 q4 q5 hat2
  simp only[numC]at q1 hlg;refine Wpr0Z (s':=⟨[(1,scr),(2,box),(5,.ref lid 0 0 0),(7,.iv (.ptr oe)),(8,.nI now),(19,.nI N),(20,.nI i)],_,nx+5+11⟩) (by
   simp only[Nat.add_assoc]at q1 q2 hfg hlg;simp[-cellsM,cellsM_iv,hat2,hfg,hcell',setAll,putAll,Nat.add_assoc,q1,q2];rfl) ?_
  exact⟨rfl,ya,yp,y',ra,rp,⟨⟨rfl,rfl,rfl,rfl,rfl⟩,rfl,rfl⟩,by show nx<=nx+5+11;omega,q3,q4,q5⟩
 ·rw[decide_eq_false hk,if_neg hk];simp only[Bool.false_eq_true,if_false];refine WpskipZ ?_;have hE:=Ext.refl hf (show nx<=nx+5 by omega);exact⟨rfl,_,_,_,_,_,⟨⟨rfl,rfl,rfl,rfl,rfl⟩,rfl,rfl⟩,by show nx<=nx+5;omega,hE.fresh,G.ext hE,λ_ _=>rfl⟩
set_option maxHeartbeats 8000000 in
theorem read_op (hp2:PrimsLe p2) (L:LibL p1 p2) (scr:AV) (N i:Nat) (x:Hd) (o:Arb.Op) (ho:o.ok) (lo lid bid:Nat) (g:Lg) (H:Hp) (nx:Nat) (hf:Fresh H nx) {ya yp yd:AV} {ra rp:List (List AV)} (G:LG lo H nx lid x g ya yp yd ra rp) (hla:g.acts.length<=1000) (hlp:g.pubs.length<=1000) (hld:g.drains.length<=1000)
  (hb:get H bid=some (.cells (hdC x))) (hbl:bid<4*lo) :
  Wp p1 p2 opBlk ⟨[(1,scr),(2,.ref bid 0 0 0),(5,.ref lid 0 0 0),(7,.iv (.ptr o.enc)),(8,.nI (i+1:Nat)),(19,.nI N),(20,.nI i)],H,nx⟩
   (λe st=>(e = .norm\/e = .exit 1)/\∃ya' yp' yd' ra' rp',FRB st.fr scr (.ref bid 0 0 0) lid N i/\nx<=st.nx/\Fresh st.hp st.nx/\LG lo st.hp st.nx lid x (stepX x g i o) ya' yp' yd' ra' rp'/\(∀k,k<4*lo->get st.hp k=get H k)):=by
 refine ab (Wp.mono (read_drain scr (.ref bid 0 0 0) N i x o (i+1) lo lid g H nx hf G hld) ?_);rintro e ⟨fr,H1,n1⟩ ⟨rfl,ya1,yp1,yd1,ra1,rp1,F,hn1,hf1,G1,ho1⟩;simp only[Ex.then];unfold stepX;simp only[]at *;have hcast:((i+1:Nat):Int)=(i:Int)+1:=by omega
 rw[hcast]at G1;have hla1:(if o.k=5 then { g with drains:=g.drains++[(i:Int)+1] } else g).acts.length<=1000:=by split<;>exact hla
 have hlp1:(if o.k=5 then { g with drains:=g.drains++[(i:Int)+1] } else g).pubs.length<=1000:=by split<;>exact hlp
 generalize(if o.k=5 then { g with drains:=g.drains++[(i:Int)+1] } else g)=g1 at *;obtain⟨o0,o1,o2,o3,o4,o5,o6⟩:=op_at o;have hb1:get H1 bid=some (.cells (hdC x)):=by rw[ho1 _ hbl];exact hb
 obtain⟨⟨f1,f2,f5,f19,f20⟩,f7,f8⟩:=F;refine ab (ab (Wp.drawn rfl ?_));refine Wpr0Z (s':=⟨[(1,scr),(2,.ref bid 0 0 0),(5,.ref lid 0 0 0),(7,.iv (.ptr o.enc)),(8,.nI (i+1:Nat)),(19,.nI N),(20,.nI i),(57,.bI (outC x o.c))],H1,n1+15⟩) (by
  unfold outC;rw[hdC_eq]at hb1;generalize o.enc=oe at *;generalize o.c=c at *;cases h1:decide (c<0)<;>simp[get_set,f1,f2,f5,f7,f8,f19,f20,o0,o3,hb1,h1]) ?_
 refine WpcondZ rfl ?_;cases hout:outC x o.c with
 |true=>
  simp only[if_true];refine WpexitZ ?_;have hE:=Ext.refl hf1 (show n1<=n1+15 by omega);exact⟨.inr rfl,_,_,_,_,_,⟨rfl,rfl,rfl,rfl,rfl⟩,by show nx<=n1+15;omega,hE.fresh,G1.ext hE,ho1⟩
 |false=>
  simp only[Bool.false_eq_true,if_false];refine WpskipZ ?_;simp only[Ex.then];refine ab ?_;have hox:=ho.x;generalize hoe:o.enc=oe at *;refine Wpr0Z (by
   simp[o0,o1];rfl) ?_
  refine WpblockZ (Wps0Z (by
   have:(o.k==1)=decide (o.k=1):=by by_cases h:o.k=1<;>simp[h]
   simp[this];rfl) ?_)
  refine WpcondZ rfl ?_;by_cases k1:o.k=1
  ·rw[decide_eq_true k1,if_pos k1];simp only[if_true];have hE:=Ext.refl hf1 (show n1<=n1+15+4+2+4 by omega);obtain⟨H2,n2,ya',yp',yd',ra',rp',b1,b2,b3,b4,K,hK⟩:=ev183 (p1:=p1) hp2 L x o ho (i+1) lo lid g1 H1 (n1+15+4+2+4) hE.fresh (G1.ext hE) hla1;rw[hoe]at hK;rw[hcast]at b3;refine WprgnZ (K:=K) (λn hn=>by
    have c:=hK n hn;simp at c ⊢;simp[c];rfl) ?_
   exact⟨.inl rfl,_,_,_,_,_,⟨rfl,rfl,rfl,rfl,rfl⟩,by show nx<=n2;omega,b2,b3,λk hk=>(b4 k hk).trans (ho1 k hk)⟩
  ·rw[decide_eq_false k1,if_neg k1];simp only[Bool.false_eq_true,if_false];refine Wps0Z (by
    have:(o.k==2)=decide (o.k=2):=by by_cases h:o.k=2<;>simp[h]
    simp[this];rfl) ?_
   refine WpcondZ rfl ?_;by_cases k2:o.k=2
   ·rw[decide_eq_true k2,if_pos k2];simp only[if_true];have hE:=Ext.refl hf1 (show n1<=n1+15+4+2+2 by omega);have q:=read_end (p1:=p1) (p2:=p2) scr (.ref bid 0 0 0) N i x o (i+1) lo lid g1 H1 (n1+15+4+2+2) hE.fresh (G1.ext hE) hla1;rw[k2,hoe,hcast]at q;rw[k2];refine Wp.mono q ?_;rintro e ⟨fr',H2,n2⟩ ⟨he,ya',yp',yd',ra',rp',b0,b1,b2,b3,b4⟩;simp only[]at b1 b2 b3 b4;rcases he with rfl | rfl
    ·exact⟨.inl rfl,_,_,_,_,_,b0,by show nx<=n2;omega,b2,b3,λk hk=>(b4 k hk).trans (ho1 k hk)⟩
    ·simp only[Ex.inBlock,show ¬(1=2) by decide,if_false];exact⟨.inr trivial,_,_,_,_,_,b0,by show nx<=n2;omega,b2,b3,λk hk=>(b4 k hk).trans (ho1 k hk)⟩
   ·rw[decide_eq_false k2,if_neg k2];simp only[Bool.false_eq_true,if_false];refine Wps0Z (by
     have:(o.k==3)=decide (o.k=3):=by by_cases h:o.k=3<;>simp[h]
     simp[this];rfl) ?_
    refine WpcondZ rfl ?_;by_cases k3:o.k=3
    ·rw[decide_eq_true k3,if_pos k3];simp only[if_true];obtain⟨K,hK⟩:=callEvent (p1:=p1) L o.e;have hel:(o.e.enc).length=12:=rfl;refine WpskZ (K:=K) (s':=⟨[(1,scr),(2,.ref bid 0 0 0),(5,.ref lid 0 0 0),(7,.iv (.ptr oe)),(8,.nI (i+1:Nat)),(19,.nI N),(20,.nI i),(122,.bI (rightE o.e))],H1,n1+15+4+2+2+2+5⟩) (λn hn=>by
      have c:=hK n hn H1;generalize rightE o.e=re at *;generalize o.e.enc=ee at *;simp[o0,o6,hel,c]) ?_
     refine WpcondZ rfl ?_;cases hre:rightE o.e with
     |true=>
      simp only[if_true];refine Wp.drawn rfl ?_;have hwl:IntKind.i64.wrap ((g1.pubs.length:Int)+1)=(g1.pubs.length:Int)+1:=IntWalk.i64_in _ (by omega);have hE:=Ext.refl hf1 (show n1<=n1+15+4+2+2+2+5 by omega);have hpl:rp1.length=g1.pubs.length:=G1.pl.1;obtain⟨y',H4,q1,q2,q3,q4,q5⟩:=(G1.ext hE).pushP hE.fresh ⟨o.c,o.e,(i:Int)+1⟩ (gid:=4*(n1+15+4+2+2+2+5+22)) (slot:=n1+15+4+2+2+2+5+23) (n':=n1+15+4+2+2+2+5+27) (by omega) (by omega) (by omega) (by omega) (by omega);have hat2:=G1.at_;have hplen:=G1.p.len;rw[hpl]at hplen;have hfg:get H1 (4*(n1+15+4+2+2+2+5+22))=none:=hf1 _ (by omega);have hlg:∀ob,get (Arx.set H1 (4*(n1+15+4+2+2+2+5+22)) ob) lid=get H1 lid:=λob=>get_set_ne _ _ (by have:=G1.li;omega)
      have hcell':cellsM y' = .ret [y']:=q4.p.cell;rw[hdC_eq]at q2 q3 q4 q5 hat2;simp only[List.cons_append,List.nil_append]at q2 q3 q4 q5 hat2;refine Wpr0Z (s':=⟨[(1,scr),(2,.ref bid 0 0 0),(5,.ref lid 0 0 0),(19,.nI N),(20,.nI i)],_,n1+15+4+2+2+2+5+27⟩) (by
       simp only[Nat.add_assoc]at q1 q2 hfg hlg;simp only[pbC,numV,E.enc,V.enc,List.map_cons,List.map_nil,List.cons_append,List.nil_append]at q1;simp only[E.enc,V.enc,List.cons_append,List.nil_append]at o6;simp[-cellsM, -len,cellsM_iv,cellsM_agg,hat2,o0,o3,o6,hplen,hwl,hfg,hcell',setAll,putAll,Nat.add_assoc,q1,q2];rfl) ?_
      exact⟨.inl rfl,_,_,_,_,_,⟨rfl,rfl,rfl,rfl,rfl⟩,by show nx<=n1+15+4+2+2+2+5+27;omega,q3,q4,λk hk=>(q5 k hk).trans (ho1 k hk)⟩
     |false=>
      simp only[Bool.false_eq_true,if_false];refine WpskipZ ?_;have hE:=Ext.refl hf1 (show n1<=n1+15+4+2+2+2+5 by omega);exact⟨.inl rfl,_,_,_,_,_,⟨rfl,rfl,rfl,rfl,rfl⟩,by show nx<=n1+15+4+2+2+2+5;omega,hE.fresh,G1.ext hE,ho1⟩
    ·rw[decide_eq_false k3,if_neg k3];simp only[Bool.false_eq_true,if_false];refine WpskipZ ?_;have hE:=Ext.refl hf1 (show n1<=n1+15+4+2+2+2 by omega);exact⟨.inl rfl,_,_,_,_,_,⟨rfl,rfl,rfl,rfl,rfl⟩,by show nx<=n1+15+4+2+2+2;omega,hE.fresh,G1.ext hE,ho1⟩
end
theorem readTo_succ {h:Hd} {l:List Arb.Op} {t:Nat} {o:Arb.Op} (ho:l[t]?=some o):readTo h l (t+1)=stepX h (readTo h l t) t o:=by
 rw[readTo,ho]
section
variable {p1:Nat->Option Arb.IFn} {p2:Nat->Option IFn}
set_option maxHeartbeats 4000000 in
theorem ev177 (hp2:PrimsLe p2) (L:LibL p1 p2) (x:Hd) (hp:x.ps.length<=100) (hh:x.hs.length<=100) (l:List Arb.Op) (hl:l.length<=1000) (hok:∀o ∈ l,o.ok) (H:Hp) (nx:Nat) (hf:Fresh H nx) :
  ∃H' nx' lid ya yp yd ra rp,Ext H nx H' nx'/\LG (nx+1) H' nx' lid x (readX x l) ya yp yd ra rp/\Ev p1 p2 177 [.agg (hdC x),.iv (.sl 24 (l.map Arb.Op.enc))] H nx (.ref lid 0 0 0,H',nx'):=by
 have hfr:get H (4*nx)=none:=hf _ (by omega);have hfr2:get H (4*(nx+4))=none:=hf _ (by omega);have hE1:Ext H nx (Arx.set H (4*nx) (.cells (hdC x))) (nx+2):=(Ext.refl hf (by omega)).set (by omega) (by omega) _;have hfr3:get (Arx.set H (4*nx) (.cells (hdC x))) (4*(nx+4))=none:=by rw[get_set_ne _ _ (by omega)];exact hfr2
 have hE2:Ext H nx (Arx.set (Arx.set H (4*nx) (.cells (hdC x))) (4*(nx+4)) (.cells (hdC x++[.iv (.nsl 5),.iv (.nsl 15),.iv (.nsl 1)]))) (nx+6):=(hE1.up (show nx+2<=nx+6 by omega)).set (by omega) (by omega) _;have hbx:get (Arx.set (Arx.set H (4*nx) (.cells (hdC x))) (4*(nx+4)) (.cells (hdC x++[.iv (.nsl 5),.iv (.nsl 15),.iv (.nsl 1)]))) (4*nx)=some (.cells (hdC x)):=by rw[get_set_ne _ _ (by omega)];exact get_set_same _ _ _
 have hlx:get (Arx.set (Arx.set H (4*nx) (.cells (hdC x))) (4*(nx+4)) (.cells (hdC x++[.iv (.nsl 5),.iv (.nsl 15),.iv (.nsl 1)]))) (4*(nx+4))=some (.cells (hdC x++[.iv (.nsl 5),.iv (.nsl 15),.iv (.nsl 1)])):=get_set_same _ _ _;have hdef:Arx.set (Arx.set H (4*nx) (.cells (hdC x))) (4*(nx+4)) (.cells (hdC x++[.iv (.nsl 5),.iv (.nsl 15),.iv (.nsl 1)]))=Arx.set (Arx.set H (4*nx) (.cells (hdC x))) (4*(nx+4)) (.cells (hdC x++[.iv (.nsl 5),.iv (.nsl 15),.iv (.nsl 1)])):=rfl;generalize hH1:Arx.set (Arx.set H (4*nx) (.cells (hdC x))) (4*(nx+4)) (.cells (hdC x++[.iv (.nsl 5),.iv (.nsl 15),.iv (.nsl 1)]))=H1 at hE2 hbx hlx
 have G1:LG (nx+1) H1 (nx+6) (4*(nx+4)) x ⟨[],[],[]⟩ (.iv (.nsl 5)) (.iv (.nsl 15)) (.iv (.nsl 1)) [] []:=
  ⟨⟨by omega,by omega⟩,hlx,QE.nil _ _ _,AL.nil _ _,QE.nil _ _ _,PL.nil,QE.nil _ _ _,(λk o m w h=>by cases h),(λk o m w h=>by cases h),(λk o m w h=>by cases h),λa ha=>by cases ha⟩
 obtain⟨K1,hK1⟩:=callCheck (p1:=p1) L x hp hh;have key:Wp p1 p2 F177.body ⟨params [.agg (hdC x),.iv (.sl 24 (l.map Arb.Op.enc))] 0,H,nx⟩ (λe st=>∃r:AV×Hp×Nat,(∃lid ya yp yd ra rp,r.1 = .ref lid 0 0 0/\Ext H nx r.2.1 r.2.2/\LG (nx+1) r.2.1 r.2.2 lid x (readX x l) ya yp yd ra rp)/\Fin F177.res r e st):=by
  refine Wps0Z (by simp[hfr];rfl) ?_;refine Wp.scope (Wps0Z (s':=⟨_,H1,nx+6⟩) (by
   rw[<-hH1];rw[hdC_eq]at hfr3 ⊢;simp[hfr3,putAll,Nat.add_assoc];rfl) ?_)
  refine ab (ab ?_);unfold readX;refine WprgnZ (K:=K1) (s':=⟨[(1,.iv (.sl 24 (l.map Arb.Op.enc))),(2,.ref (4*nx) 0 0 0),(5,.ref (4*(nx+4)) 0 0 0),(16,.bI (!decide (checkH x=0)))],H1,nx+9⟩) (λn hn=>by
   have c:=hK1 n hn H1;have hb:(checkH x != 0)=!decide (checkH x=0):=by by_cases h:checkH x=0<;>simp[h]
   generalize checkH x=q at *;simp[hbx,hd_take,hd_len,c,hb]) ?_
  refine WpcondZ rfl ?_;by_cases hc:checkH x=0
  ·rw[decide_eq_true hc,if_pos hc];simp only[Bool.not_true,Bool.false_eq_true,if_false];refine WpskipZ ?_;simp only[Ex.then];refine ab (WpskipZ ?_);simp only[Ex.then];refine ab (Wps0Z (by simp;rfl) ?_);refine WpblockZ ?_;refine WploopZ (λm s1=>∃(i n2:Nat) (H2:Hp) (ya yp yd:AV) (ra rp:List (List AV)),i+m=l.length/\nx+6<=n2/\Fresh H2 n2/\LG (nx+1) H2 n2 (4*(nx+4)) x (readTo x l i) ya yp yd ra rp/\(∀k,k<4*(nx+1)->get H2 k=get H1 k)/\
    s1=⟨[(1,.iv (.sl 24 (l.map Arb.Op.enc))),(2,.ref (4*nx) 0 0 0),(5,.ref (4*(nx+4)) 0 0 0),(19,.nI l.length),(20,.nI i)],H2,n2⟩) (m:=l.length)
    ⟨0,nx+12,H1,_,_,_,_,_,by omega,by omega,λk hk=>hE2.fresh k (by omega),G1.ext (Ext.refl hE2.fresh (by omega)),λ_ _=>rfl,by simp[fr_cons,keepFr]⟩ ?_
   rintro m s1 ⟨i,n2,H2,ya,yp,yd,ra,rp,him,hn2,hf2,G2,ho2,rfl⟩;refine ab ?_;by_cases hi:i<l.length
   ·obtain⟨o,ho⟩:∃o,l[i]?=some o:=⟨_,List.getElem?_eq_getElem hi⟩;have hrow:(l.map Arb.Op.enc)[i]?=some o.enc:=by rw[List.getElem?_map,ho];rfl
    have hw1:IntKind.i64.wrap ((i:Int)+1)=(i:Int)+1:=IntWalk.i64_in _ (by omega);have hlen:=readTo_len x l i;have hnext:=readTo_succ (h:=x) ho;generalize hscr:l.map Arb.Op.enc=scr at *;refine Wpr0Z (by simp[hi];rfl) ?_;refine ab (WpcondZ (t:=true) rfl (WpskipZ (ab (WpblockZ (WpsgZ ?_)))));refine Wps0Z (by
     simp[hrow,hw1];rfl) ?_
    have hE3:=Ext.refl hf2 (show n2<=n2+1+2+7 by omega);have hop:=read_op hp2 L (.iv (.sl 24 scr)) l.length i x o (hok o (List.mem_of_getElem? ho)) (nx+1) (4*(nx+4)) (4*nx) (readTo x l i) H2 (n2+1+2+7) hE3.fresh (G2.ext hE3) (by omega) (by omega) (by omega) (by rw[ho2 _ (by omega)];exact hbx) (by omega);refine Wp.mono hop ?_;rintro e ⟨fr,H4,n4⟩ ⟨he,ya',yp',yd',ra',rp',⟨f1,f2,f5,f19,f20⟩,b1,b2,b3,b4⟩;simp only[]at f1 f2 f5 f19 f20 b1 b2 b3 b4;have hcont:∀Q:Ex->St->Prop,(∀H5 n5,H5=H4->n5=n4+2->Q .norm ⟨[(1,.iv (.sl 24 scr)),(2,.ref (4*nx) 0 0 0),(5,.ref (4*(nx+4)) 0 0 0),(19,.nI l.length),(20,.nI (i+1:Nat))],H5,n5⟩)->
      Wp p1 p2 (.rgn false [⟨some 149,.bin .add 0 (.t 20) (.c (.nI (1))),none,[]⟩,⟨some 20,.mov (.t 149),none,[]⟩] [1,2,5,19,20]) ⟨fr,H4,n4⟩ Q:=λQ hQ=>by
     refine Wpr0Z (by
      simp[get_set,f1,f2,f5,f19,f20,hw1];rfl) ?_
     exact hQ _ _ rfl rfl
    rcases he with rfl | rfl
    ·simp only[Ex.then,Ex.inBlock];refine hcont _ ?_;rintro H5 n5 rfl rfl;refine⟨m - 1,by omega,i+1,n4+2,H5,ya',yp',yd',ra',rp',by omega,by omega,λk hk=>b2 k (by omega),?_,λk hk=>(b4 k hk).trans (ho2 k hk),by simp[fr_cons,keepFr]⟩;rw[hnext];exact b3.ext (Ext.refl b2 (by omega))
    ·simp only[Ex.then,Ex.inBlock,if_true];refine hcont _ ?_;rintro H5 n5 rfl rfl;refine⟨m - 1,by omega,i+1,n4+2,H5,ya',yp',yd',ra',rp',by omega,by omega,λk hk=>b2 k (by omega),?_,λk hk=>(b4 k hk).trans (ho2 k hk),by simp[fr_cons,keepFr]⟩;rw[hnext];exact b3.ext (Ext.refl b2 (by omega))
   ·obtain rfl:i=l.length:=by omega
    refine WprgZ ?_;refine ab (WpcondZ (t:=false) rfl (WpexitZ ?_));simp only[Ex.then,Ex.inBlock,if_true];refine WpsgZ ?_;have hE3:=Ext.refl hf2 (show n2<=n2+1+2 by omega);exact WpretZ ⟨(_,H2,n2+1+2),⟨_,ya,yp,yd,ra,rp,rfl,⟨by show nx<=n2+1+2;omega,hE3.fresh,λk hk=>by show get H2 k=get H k;rw[ho2 k (by omega)];exact hE2.old k hk⟩,G2.ext hE3⟩,rfl,rfl⟩
  ·rw[decide_eq_false hc,if_neg hc];simp only[Bool.not_false,if_true];refine WpsgZ ?_;have hE3:=Ext.refl hE2.fresh (show nx+6<=nx+9+2 by omega);exact WpretZ ⟨(_,H1,nx+9+2),⟨_,_,_,_,_,_,rfl,hE2.trans hE3,G1.ext hE3⟩,rfl,rfl⟩
 obtain⟨⟨y,H',nx'⟩,⟨lid,ya,yp,yd,ra,rp,rfl,h1,h2⟩,h4⟩:=Ev.ofx hp2 L.h177 rfl rfl _ key;exact⟨H',nx',lid,ya,yp,yd,ra,rp,h1,h2,h4⟩
end
def PP (H:Hp) (n:Nat) (v:AV) (id:Int):Option Pb->Prop
 |none=>v = .iv .nilp
 |some p=>∃(idp vp j:Nat) (rows:List (List AV)),v = .ref idp vp j 0/\idp<4*n/\get H idp=some (.buf vp 15 rows)/\rows[j]?=some (pbC j p)/\id=(j:Int)+1
theorem PP.ext {H H':Hp} {n n':Nat} {v:AV} {id:Int} {p:Option Pb} (h:PP H n v id p) (e:Ext H n H' n'):PP H' n' v id p:=by
 cases p with
 |none=>exact h
 |some p=>
  obtain⟨idp,vp,j,rows,h1,h2,h3,h4,h5⟩:=h;exact⟨idp,vp,j,rows,h1,by have:=e.le;omega,by rw[e.old _ h2];exact h3,h4,h5⟩
def actC (a:Act) (y:AV):List AV:=[.iv (.int .i64 a.c),.iv (.int .i64 a.u),y,.iv (.int .i64 a.f),.iv (.int .i64 a.t)]
section
variable {p1:Nat->Option Arb.IFn} {p2:Nat->Option IFn}
theorem fits_of {bs:List B} (h:∀b ∈ bs,b.lim 1000 400):∀b ∈ bs,b.fits:=λb hb i hi=>by
 have:=h b hb i hi;have h1:=this.i;have h2:=this.s;unfold maxLen;omega
theorem callHas (L:LibL p1 p2) (bs:List B) (hl:bs.length<=1000) (hb:∀b ∈ bs,b.lim 1000 400) (e:E):∃K,∀m,K<=m->∀(H:Hp) (n:Nat) (y:AV),LB H n y bs->(callM (one p1 m) (.iv (.fn 119 [])) [y,.agg (e.enc.map AV.iv)]).run H=some (.bI (hasF bs e),H):=by
 obtain⟨K,hK⟩:=x_hasF L.h bs e (by unfold maxLen;omega) (fits_of hb);refine⟨K,λm hm H n y hy=>?_⟩;have e1:(one p1 m 119 [.iv (.sl 16 (bs.map B.enc)),.agg (e.enc.map Arb.AV.iv)] []).bind shut=some (.bI (hasF bs e)):=hK m hm;have hz:=hy.fz0;have hz2:fz1 false (.agg (e.enc.map AV.iv)) = .ret (.agg (e.enc.map Arb.AV.iv)):=by
  unfold fz1;simp only[];rw[fz_ivs false 7 e.enc e.enc_all];rfl
 generalize hasF bs e=q at *;simp[callM,callee,Mrun_bindZ,M.lift,M.run,M.mapL,hz,hz2,e1,ofA,of1,M.ok,flat,flat1,flat0,flatI,M.bind]
end
def idxB (e:Nat) (agg:Bool):IC:=
  .seq (.rgn false [⟨some 4,.mov (.c (.iv (.int .i64 (0)))),none,[]⟩] [0,1])
  (.seq (.seq (.rgn false [⟨some 6,.mov (.t 0),none,[]⟩,
  ⟨some 7,.len false (.t 6),none,[]⟩,
  ⟨some 8,.mov (.c (.iv (.int .i64 (0)))),none,[]⟩] [0,1,7,8])
  (.block 0 (.loop [0,1,7,8] (.seq (.rgn false [⟨some 9,.bin .lss 0 (.t 8) (.t 7),none,[]⟩] [0,1,7,8,9])
  (.seq (.cond (.t 9) (.skip)
  (.exit 0))
  (.seq (.block 1 (.seq (.rgn false [⟨some 10,.mov (.t 8),none,[]⟩,
  ⟨some 5,.mov (.t 10),none,[]⟩] [0,1,5,7,8])
  (.seq (.rgn false [⟨some 11,.mov (.t 1),none,[]⟩,
  ⟨some 12,.mov (.t 0),none,[]⟩,
  ⟨some 13,.mov (.t 5),none,[]⟩,
  ⟨some 14,.isl e (.t 12) (.t 13),none,[]⟩,
  ⟨some 15,.load agg e (.t 14),none,[]⟩,
  ⟨some 16,.scall (.t 11) [.t 15],none,[]⟩] [0,1,5,7,8,16])
  (.cond (.t 16) (.seq (.rgn false [⟨some 17,.mov (.t 5),none,[]⟩,
  ⟨some 4,.mov (.t 17),none,[]⟩] [4])
  (.ret))
  (.skip)))))
  (.rgn false [⟨some 18,.bin .add 0 (.t 8) (.c (.iv (.int .i64 (1)))),none,[]⟩,
  ⟨some 8,.mov (.t 18),none,[]⟩] [0,1,7,8])))))))
  (.seq (.rgn false [⟨some 4,.mov (.c (.iv (.int .i64 (-1)))),none,[]⟩] [4])
  (.ret)))
def conB (f:Nat):IC:=
  .seq (.rgn false [⟨some 4,.mov (.c (.iv (.bool false))),none,[]⟩] [0,1])
  (.seq (.rgn false [⟨some 5,.mov (.t 0),none,[]⟩,
  ⟨some 6,.mov (.t 1),none,[]⟩,
  ⟨some 7,.scall (.c (.iv (.fn f []))) [.t 5,.t 6],none,[]⟩,
  ⟨some 8,.bin .geq 0 (.t 7) (.c (.iv (.int .i64 (0)))),none,[]⟩,
  ⟨some 4,.mov (.t 8),none,[]⟩] [4])
  (.ret))
section
variable {p1:Nat->Option Arb.IFn} {p2:Nat->Option IFn}
def Says (p1:Nat->Option Arb.IFn) (p2:Nat->Option IFn) {α:Type} (e:Nat) (agg:Bool) (y fv:AV) (l:List α) (f:α->Bool) (H:Hp) (nx:Nat):Prop:=
 (∀H2 n2,Ext H nx H2 n2->(Arx.len false y).run H2=some (.iv (.int .i64 l.length),H2))/\
 ∃fid caps,callee fv=some (fid,[],caps)/\∀(j:Nat) (a:α),l[j]?=some a->∀H2 n2,Ext H nx H2 n2->∃ptr v,(Arx.isl e y (.iv (.int .i64 j))).run H2=some (ptr,H2)/\(Arx.load agg e ptr).run H2=some (v,H2)/\
  ∃H3 n3,Ext H2 n2 H3 n3/\Ev p1 p2 fid (v::caps) H2 n2 (.iv (.bool (f a)),H3,n3)
set_option maxHeartbeats 1000000 in
theorem wpIdx {α:Type} (e:Nat) (agg:Bool) (y fv:AV) (l:List α) (hl:l.length<=1000000) (f:α->Bool) (H:Hp) (nx:Nat) (hf:Fresh H nx) (S:Says p1 p2 e agg y fv l f H nx) :
  Wp p1 p2 (idxB e agg) ⟨params [y,fv] 0,H,nx⟩ (λex st=>∃r:AV×Hp×Nat,(r.1 = .nI (idxF f l 0)/\Ext H nx r.2.1 r.2.2)/\Fin [.t 4] r ex st):=by
 obtain⟨hlen,fid,caps,hcal,hsay⟩:=S;refine WpsgZ ?_;refine ab (ab ?_);have hl0:=hlen H nx (Ext.refl hf (Nat.le_refl _));refine Wpr0Z (s':=⟨[(0,y),(1,fv),(7,.nI l.length),(8,.nI 0)],H,nx+4⟩) (by simp[-len,hl0]) ?_;refine WpblockZ ?_;refine WploopZ (λm s1=>∃(i n2:Nat) (H2:Hp),i+m=l.length/\idxF f (l.drop i) i=idxF f l 0/\Ext H nx H2 n2/\s1=⟨[(0,y),(1,fv),(7,.nI l.length),(8,.nI i)],H2,n2⟩) (m:=l.length)
  ⟨0,nx+4,H,by omega,rfl,Ext.refl hf (by omega),by simp[fr_cons,keepFr]⟩ ?_
 rintro m s1 ⟨i,n2,H2,him,hidx,hE2,rfl⟩;refine ab ?_;by_cases hi:i<l.length
 ·obtain⟨a,ha⟩:∃a,l[i]?=some a:=⟨_,List.getElem?_eq_getElem hi⟩;have hw1:IntKind.i64.wrap ((i:Int)+1)=(i:Int)+1:=IntWalk.i64_in _ (by omega);rw[idxF_cons ha]at hidx;refine Wpr0Z (by simp[hi];rfl) ?_;refine ab (WpcondZ (t:=true) rfl (WpskipZ (ab (WpblockZ (WpsgZ ?_)))));refine ab ?_;obtain⟨ptr,v,h1,h2,H3,n3,hE3,K,hK⟩:=hsay i a ha H2 (n2+1+2+6) (hE2.up (by omega));have hE4:Ext H nx H3 n3:=(hE2.up (show n2<=n2+1+2+6 by omega)).trans hE3;generalize f a=q at *;refine WprgnZ (K:=K) (s':=⟨[(0,y),(1,fv),(5,.nI i),(7,.nI l.length),(8,.nI i),(16,.bI q)],H3,n3⟩) (λn hn=>by
   have c:=hK n hn;simp[-isl, -load, -callee,h1,h2,hcal,c]) ?_
  refine WpcondZ rfl ?_;cases q with
  |true=>
   simp only[if_true]at hidx ⊢;refine WpsgZ ?_;refine WpretZ ?_;exact⟨(_,_,_),⟨by rw[<-hidx],hE4.up (show n3<=n3+2 by omega)⟩,rfl,rfl⟩
  |false=>
   simp only[Bool.false_eq_true,if_false]at hidx ⊢;refine WpskipZ ?_;simp only[Ex.then,Ex.inBlock];refine Wpr0Z (by simp[hw1];rfl) ?_;exact⟨m - 1,by omega,i+1,_,H3,by omega,hidx,hE4.up (show n3<=n3+2 by omega),by simp[fr_cons,keepFr]⟩
 ·obtain rfl:i=l.length:=by omega
  refine WprgZ ?_;refine ab (WpcondZ (t:=false) rfl (WpexitZ ?_));simp only[Ex.then,Ex.inBlock,if_true];refine WpsgZ ?_;rw[List.drop_length]at hidx;exact WpretZ ⟨(_,_,_),⟨by rw[<-hidx];rfl,hE2.up (show n2<=n2+1+1 by omega)⟩,rfl,rfl⟩
theorem evIdx (hp2:PrimsLe p2) {k:Nat} {fn:IFn} (hk:p2 k=some fn) {α:Type} {e:Nat} {agg:Bool} (hfn:fn=⟨2,[.t 4],idxB e agg,none⟩) {y fv:AV} {l:List α} (hl:l.length<=1000000) {f:α->Bool} {H:Hp} {nx:Nat} (hf:Fresh H nx) (S:Says p1 p2 e agg y fv l f H nx) :
  ∃H' nx',Ext H nx H' nx'/\Ev p1 p2 k [y,fv] H nx (.nI (idxF f l 0),H',nx'):=by
 subst hfn;obtain⟨⟨y,H',nx'⟩,⟨rfl,h1⟩,h4⟩:=Ev.ofx hp2 hk rfl rfl _ (wpIdx e agg y fv l hl f H nx hf S);exact⟨H',nx',h1,h4⟩
theorem evCon (hp2:PrimsLe p2) {k k':Nat} {fn fn':IFn} (hk:p2 k=some fn) (hk':p2 k'=some fn') {α:Type} {e:Nat} {agg:Bool} (hfn:fn=⟨2,[.t 4],idxB e agg,none⟩) (hfn':fn'=⟨2,[.t 4],conB k,none⟩) {y fv:AV} {l:List α} (hl:l.length<=1000000) {f:α->Bool} {H:Hp} {nx:Nat} (hf:Fresh H nx) (S:∀H2 n2,Ext H nx H2 n2->Says p1 p2 e agg y fv l f H2 n2) :
  ∃H' nx',Ext H nx H' nx'/\Ev p1 p2 k' [y,fv] H nx (.bI (l.any f),H',nx'):=by
 subst hfn';have hE:=Ext.refl hf (show nx<=nx+6 by omega);obtain⟨H1,n1,hE1,K,hK⟩:=evIdx (p1:=p1) hp2 hk hfn hl (λj hj=>hf j (by omega)) (S H (nx+1+5) hE);have hE2:Ext H nx H1 n1:=⟨by have:=hE1.le;omega,hE1.fresh,λj hj=>hE1.old j (by omega)⟩;have key:Wp p1 p2 (conB k) ⟨params [y,fv] 0,H,nx⟩ (λex st=>∃r:AV×Hp×Nat,(r.1 = .bI (l.any f)/\Ext H nx r.2.1 r.2.2)/\Fin [.t 4] r ex st):=by
  refine WpsgZ ?_;refine ab ?_;rw[<-idxF_any f l 0];generalize idxF f l 0=q at *;refine WprgnZ (K:=K) (s':=⟨[(4,.bI (decide (0<=q)))],H1,n1⟩) (λn hn=>by
   have c:=hK n hn;simp[c]) ?_
  exact WpretZ ⟨(_,_,_),⟨rfl,hE2⟩,rfl,rfl⟩
 obtain⟨⟨y,H',nx'⟩,⟨rfl,h1⟩,h4⟩:=Ev.ofx hp2 hk' rfl rfl _ key;exact⟨H',nx',h1,h4⟩
end
end Arx
namespace Arx
open Go Arb
def mfI {β:Type} (k:List Int):List (List Int×β)->Nat->Option (Nat×β)
 |[],_=>none
 |q::r,i=>if k==q.1 then some (i,q.2) else mfI k r (i+1)
def mputX {β:Type} (m:List (List Int×β)) (k:List Int) (v:β):List (List Int×β):=match mfI k m 0 with
 |some r=>m.set r.1 (k,v)
 |none=>m++[(k,v)]
def KL {β:Type} (n:Nat) (m:List (List Int×β)):Prop:=∀q ∈ m,q.1.length=n
theorem KL.nil {β:Type} (n:Nat):KL n ([]:List (List Int×β)):=λq h=>by cases h
theorem KL.put {β:Type} {n:Nat} {m:List (List Int×β)} (h:KL n m) {k:List Int} (hk:k.length=n) (v:β):KL n (mputX m k v):=by
 unfold mputX;split
 ·intro q hq;rcases List.mem_or_eq_of_mem_set hq with e | e
  ·exact h q e
  ·rw[e];exact hk
 ·intro q hq;rcases List.mem_append.1 hq with e | e
  ·exact h q e
  ·rw[List.mem_singleton.1 e];exact hk
end Arx
namespace Arx
open Go Arb
attribute [local simp] evalRgn Option.map_some evalOps step wants isS osem Mrun_bindZ M.mapL M.run M.ok M.fresh M.write M.look M.lift putD ev fr_cons fr_nil keepFr lset_nil lset_cons get_set_same bin binM intBin strBin mk params cellsM load obRead fadr fld isl iarr xarr idx len valid slc rowLen bound store splice un callee Option.bind_some M.bind putAll
structure Dv where
 c:Int
 p:Int
 s:Int
def Dv.enc (d:Dv):List IV:=[.int .i64 d.c,.int .i64 d.p,.int .i64 d.s]
theorem QI.push3 {H:Hp} {n lo:Nat} {y:AV} {l:List Int} (h:QI H n y l) (hf:Fresh H n) (t:Int) {gid slot n':Nat} (h1:4*n<=gid) (h2:n<=slot) (h3:gid<4*slot) (hn:slot<n') (hlen:l.length<=1000000) (hlo:∀k o m w,y = .own k o m w->4*lo<=k) (hln:lo<=n) :
  ∃y' H4,(app 1 slot false y (.own gid 0 1 0)).run (Arx.set H gid (.buf 0 1 [numC t]))=some (y',H4)/\Fresh H4 n'/\QI H4 n' y' (l++[t])/\(∀k o m w,y' = .own k o m w->4*lo<=k)/\(∀k,k<4*lo->get H4 k=get H k)/\
   (∀k ob,get H k=some ob->(∀v es,ob≠.buf v 1 es)->get H4 k=some ob):=by
 obtain⟨y',H4,p1,p2,p3,p4,p5⟩:=QE.push2 (e:=1) h hf (numC t) (g:=gid) (slot:=slot) (get_set_same _ _ _) (λk hk=>get_set_ne _ _ (Ne.symm hk)) h1 h2 h3 (by rw[List.length_map];omega);refine⟨y',H4,p1,λk hk=>p2 k (by omega),?_,λk o m w e=>?_,λk hk=>p4 k (by omega) λo m w e=>by have:=hlo k o m w e;omega,λk ob hk hne=>?_⟩
 ·show QE 1 _ _ _ ((l++[t]).map numC)
  rw[List.map_append];exact p3.mono (by omega) λ_ _=>rfl
 ·rcases p5 k o m w e with q | ⟨o,m,w,q⟩
  ·omega
  ·exact hlo k o m w q
 ·have hkn:k<4*n:=by
   rcases Nat.lt_or_ge k (4*n)with q | q
   ·exact q
   ·rw[hf k q]at hk;cases hk
  rw[p4 k hkn (QE.not_ (e:=1) h hk hne)];exact hk
section
variable {p1:Nat->Option Arb.IFn} {p2:Nat->Option IFn}
theorem pbC_at (j:Nat) (p:Pb):((pbC j p).drop 1).take 1=[.nI p.c]/\(pbC j p).tail.take 1=[.nI p.c]/\((pbC j p).drop 14).take 1=[.nI p.s]/\((pbC j p).drop 2).take 12=p.e.enc.map AV.iv:=⟨rfl,rfl,rfl,rfl⟩
end
theorem QI.nil (H:Hp) (n:Nat):QI H n (.iv (.nsl 1)) []:=QE.nil 1 H n
section
variable {p1:Nat->Option Arb.IFn} {p2:Nat->Option IFn}
end
structure Cr where
 f:Int
 t:Int
 p:Int
 s:Int
def Cr.enc (d:Cr):List IV:=[.int .i64 d.f,.int .i64 d.t,.int .i64 d.p,.int .i64 d.s]
section
variable {p1:Nat->Option Arb.IFn} {p2:Nat->Option IFn}
end
theorem readX_len (h:Hd) (l:List Arb.Op):(readX h l).acts.length<=l.length/\(readX h l).pubs.length<=l.length/\(readX h l).drains.length<=l.length:=by
 unfold readX;split
 ·exact readTo_len h l _
 ·simp
section
variable {p1:Nat->Option Arb.IFn} {p2:Nat->Option IFn}
end
def keptX (c bt:Int) (e:E) (a:Act):Bool:=(a.c==c&&(a.t==0||decide (bt<=a.t)))&&hasF a.b e
def mustA (g:Lg) (c bt:Int) (i:Nat) (e:E) (a:Act):Bool:=keptX c bt e a&&(g.drains.take i).any λt=>decide (a.f<t)
def mustX (g:Lg) (c:Int) (p:Pb):Int:=if 0<=idxF (λt=>decide (p.s<t)) g.drains 0 then
  (if(g.acts.any (mustA g c ((g.drains[(idxF (λt=>decide (p.s<t)) g.drains 0).toNat]?).getD 0) (idxF (λt=>decide (p.s<t)) g.drains 0).toNat p.e))=true then(g.drains[(idxF (λt=>decide (p.s<t)) g.drains 0).toNat]?).getD 0 else 0) else 0
theorem idxF_lt {α:Type} (f:α->Bool):∀(l:List α) (k:Nat),idxF f l k = -1\/∃i:Nat,idxF f l k=((k+i:Nat):Int)/\i<l.length
 |[],k=>.inl rfl
 |a::l,k=>by
  unfold idxF;split
  ·exact .inr ⟨0,by simp,by simp⟩
  ·rcases idxF_lt f l (k+1)with h | ⟨i,h1,h2⟩
   ·exact .inl h
   ·exact .inr ⟨i+1,by rw[h1];congr 1;omega,by simp;omega⟩
section
variable {p1:Nat->Option Arb.IFn} {p2:Nat->Option IFn}
theorem ev200 (hp2:PrimsLe p2) (L:LibL p1 p2) (t:Int) (p:Pb) (bx idp vp j:Nat) (rows:List (List AV)) (H:Hp) (nx:Nat) (hb:get H bx=some (.cells [.ref idp vp j 0])) (hi:get H idp=some (.buf vp 15 rows)) (hr:rows[j]?=some (pbC j p)) :
  Ev p1 p2 200 [.nI t,.ref bx 0 0 0] H nx (.bI (decide (p.s<t)),H,nx+8):=by
 obtain⟨a1,a1',a14,a2⟩:=pbC_at j p;generalize pbC j p=pr at *;refine Ev.of hp2 L.h200 rfl rfl ?_;refine WpsgZ ?_;refine Wps0Z (by simp[hb,hi,hr,a14];rfl) ?_;exact WpretZ ⟨rfl,rfl⟩
theorem ev199 (hp2:PrimsLe p2) (L:LibL p1 p2) (t:Int) (a:Act) (y:AV) (bx ida va j:Nat) (rows:List (List AV)) (H:Hp) (nx:Nat) (hb:get H bx=some (.cells [.ref ida va j 0])) (hi:get H ida=some (.buf va 5 rows)) (hr:rows[j]?=some (actC a y)) :
  Ev p1 p2 199 [.nI t,.ref bx 0 0 0] H nx (.bI (decide (a.f<t)),H,nx+8):=by
 unfold actC at hr;refine Ev.of hp2 L.h199 rfl rfl ?_;refine WpsgZ ?_;refine Wps0Z (by simp[hb,hi,hr];rfl) ?_;exact WpretZ ⟨rfl,rfl⟩
theorem says_num {l:List Int} {H:Hp} {nx id v k:Nat} (hg:get H id=some (.buf v 1 (l.map numC))) (hid:id<4*nx) (hk:k<=l.length) {fid:Nat} {caps:List AV} {f:Int->Bool}
  (hf:∀(t:Int) H2 n2,Ext H nx H2 n2->∃H3 n3,Ext H2 n2 H3 n3/\Ev p1 p2 fid (.nI t::caps) H2 n2 (.bI (f t),H3,n3)) :
  Says p1 p2 1 false (.own id 0 k v) (.clo fid [] caps) (l.take k) f H nx:=by
 have hlt:(l.take k).length=k:=by rw[List.length_take];omega
 refine⟨λH2 n2 hE=>?_,fid,caps,rfl,λj a ha H2 n2 hE=>?_⟩
 ·have:=(hE.old _ hid).trans hg;rw[hlt];simp[Arx.len,M.run,M.look,Mrun_bindZ,this,M.ok,M.bind]
 ·have hgi:=(hE.old _ hid).trans hg;have hjl:j<k:=by have:=(List.getElem?_eq_some_iff.1 ha).1;omega
  rw[List.getElem?_take,if_pos hjl]at ha;have hrow:(l.map numC)[j]?=some (numC a):=by rw[List.getElem?_map,ha];rfl
  simp only[numC]at hrow hgi;obtain⟨H3,n3,h1,h2⟩:=hf a H2 n2 hE;refine⟨.ref id v j 0,.nI a,?_,?_,H3,n3,h1,h2⟩
  ·simp[Arx.isl,idx,Mrun_bindZ,M.ok,M.bind,M.look,M.run,hgi,hjl]
  ·generalize List.map (λn=>[AV.iv (IV.int IntKind.i64 n)]) l=es at *;simp[Arx.load,Mrun_bindZ,M.look,M.run,M.lift,hgi,obRead,hrow,M.ok,Arx.mk,M.bind]
set_option maxHeartbeats 8000000 in
theorem ev198 (hp2:PrimsLe p2) (L:LibL p1 p2) {lo lid:Nat} {x:Hd} {g:Lg} {H:Hp} {nx:Nat} {ya yp yd:AV} {ra rp:List (List AV)} (G:LG lo H nx lid x g ya yp yd ra rp) (hla:g.acts.length<=1000) (hld:g.drains.length<=1000) (hf:Fresh H nx) (c:Int)
  (p:Pb) (idp vp j:Nat) (rows:List (List AV)) (hidp:idp<4*nx) (hi:get H idp=some (.buf vp 15 rows)) (hr:rows[j]?=some (pbC j p)) :
  ∃H' nx',Ext H nx H' nx'/\Ev p1 p2 198 [.ref lid 0 0 0,.nI c,.ref idp vp j 0] H nx (.nI (mustX g c p),H',nx'):=by
 have f0:get H (4*nx)=none:=hf _ (by omega);have hE1:Ext H nx (Arx.set H (4*nx) (.cells [.ref idp vp j 0])) (nx+2):=(Ext.refl hf (by omega)).set (by omega) (by omega) _;have g0:get (Arx.set H (4*nx) (Ob.cells [.ref idp vp j 0])) (4*nx)=some (.cells [.ref idp vp j 0]):=get_set_same _ _ _;generalize hH1:Arx.set H (4*nx) (Ob.cells [.ref idp vp j 0])=H1 at hE1 g0;have G1:=G.ext hE1;have hi1:get H1 idp=some (.buf vp 15 rows):=by rw[hE1.old _ hidp];exact hi
 have hdl:(g.drains.map numC).length=g.drains.length:=by simp
 obtain⟨H2,n2,hE2,K1,hK1⟩:∃H' nx',Ext H1 (nx+2+7) H' nx'/\Ev p1 p2 150 [yd,.clo 200 [] [.ref (4*nx) 0 0 0]] H1 (nx+2+7) (.nI (idxF (λt=>decide (p.s<t)) g.drains 0),H',nx'):=by
  have hf1:Fresh H1 (nx+2+7):=λk hk=>hE1.fresh k (by omega)
  refine evIdx (p1:=p1) hp2 L.h150 rfl (by omega) hf1 ?_;rcases G1.d with⟨hy,hn⟩|⟨id,v,q1,q2,hy,q4⟩
  ·have:g.drains=[]:=List.map_eq_nil_iff.1 hn;rw[this,hy];exact⟨λ_ _ _=>rfl,200,_,rfl,λj a h=>by simp at h⟩
  ·rw[hy,hdl];have:=says_num (p1:=p1) (p2:=p2) (l:=g.drains) (H:=H1) (nx:=nx+2+7) (k:=g.drains.length) q4 (by omega) (Nat.le_refl _) (fid:=200) (caps:=[.ref (4*nx) 0 0 0]) (f:=λt=>decide (p.s<t)) (λt H3 n3 hE3=>⟨H3,_,Ext.refl hE3.fresh (show n3<=n3+8 by omega),ev200 hp2 L t p (4*nx) idp vp j rows H3 n3 (by rw[hE3.old _ (by omega)];exact g0) (by rw[hE3.old _ (by omega)];exact hi1) hr⟩);rw[List.take_length]at this;exact this
 have hE02:Ext H nx H2 n2:=(hE1.up (show nx+2<=nx+2+7 by omega)).trans hE2;have G2:=G.ext hE02;have hle2:=hE2.le;have g02:get H2 (4*nx)=some (.cells [.ref idp vp j 0]):=by rw[hE2.old _ (by omega)];exact g0
 have hi2:get H2 idp=some (.buf vp 15 rows):=by rw[hE2.old _ (by omega)];exact hi1
 obtain⟨a1,a1',a14,a2⟩:=pbC_at j p;have hel:(p.e.enc.map AV.iv).length=12:=rfl;have key:Wp p1 p2 F198.body ⟨params [.ref lid 0 0 0,.nI c,.ref idp vp j 0] 0,H,nx⟩ (λe st=>∃r:AV×Hp×Nat,(r.1 = .nI (mustX g c p)/\Ext H nx r.2.1 r.2.2)/\Fin F198.res r e st):=by
  refine Wps0Z (s':=⟨_,H1,nx+2⟩) (by
   rw[<-hH1];simp[f0];rfl) ?_
  refine ab ?_;have hat1:=G1.at_;have hat2:=G2.at_;rw[hdC_eq]at hat1 hat2;unfold mustX;have hix:=idxF_lt (λt=>decide (p.s<t)) g.drains 0;generalize hidx:idxF (λt=>decide (p.s<t)) g.drains 0=ix at *;refine WprgnZ (K:=K1) (λn hn=>by
   have c:=hK1 n hn;simp[hat1,c];rfl) ?_
  refine ab (Wps0Z (by simp;rfl) ?_);refine WpcondZ rfl ?_;rcases hix with hix | ⟨i,hix,hil⟩
  ·have h1:decide (ix<0)=true:=decide_eq_true (by omega);rw[h1,if_neg (show ¬(0:Int)<=ix by omega)];simp only[if_true];refine WpsgZ ?_;exact WpretZ ⟨(_,_,_),⟨rfl,hE02.up (show n2<=n2+2+1 by omega)⟩,rfl,rfl⟩
  ·rw[Nat.zero_add]at hix;subst hix;have h1:decide ((i:Int)<0)=false:=decide_eq_false (by omega);rw[h1,if_pos (show(0:Int)<=(i:Int) by omega)];simp only[Bool.false_eq_true,if_false,Int.toNat_natCast];refine WpskipZ ?_;simp only[Ex.then];obtain⟨bt,hbt⟩:∃bt,g.drains[i]?=some bt:=⟨_,List.getElem?_eq_getElem hil⟩;have hbc:(g.drains.map numC)[i]?=some [.nI bt]:=by rw[List.getElem?_map,hbt];rfl
   rw[hbt];simp only[Option.getD_some];obtain⟨idd,vd,q1, -,hyd,q4⟩:=G2.d.at_ hbc;rw[hdl]at hyd;have hyd':=hyd;subst hyd';refine Wps0Z (s':=⟨[(0,.ref lid 0 0 0),(1,.nI c),(5,.ref (4*nx) 0 0 0),(7,.nI i),(8,.nI bt)],H2,n2+2+8⟩) (by
    generalize g.drains.map numC=es at *;simp[hat2,q4,hil,hbc]) ?_
   refine ab (ab ?_);have hral:=G2.al.1;have hlen:=G2.a.len;rw[hral]at hlen;refine Wpr0Z (by
    simp[-len,hat2,hlen];rfl) ?_
   refine WpblockZ ?_;refine WploopZ (λm s1=>∃(k n3:Nat) (H3:Hp),k+m=g.acts.length/\Ext H2 n2 H3 n3/\(g.acts.drop k).any (mustA g c bt i p.e)=g.acts.any (mustA g c bt i p.e)/\
    s1=⟨[(0,.ref lid 0 0 0),(1,.nI c),(5,.ref (4*nx) 0 0 0),(7,.nI i),(8,.nI bt),(31,.nI g.acts.length),(32,.nI k)],H3,n3⟩) (m:=g.acts.length)
    ⟨0,n2+2+8+6,H2,by omega,Ext.refl hE2.fresh (by omega),rfl,by simp[fr_cons,keepFr]⟩ ?_
   rintro m s1 ⟨k,n3,H3,hkm,hE3,hany,rfl⟩;refine ab ?_;have hle3:=hE3.le;by_cases hk:k<g.acts.length
   ·obtain⟨a,ha⟩:∃a,g.acts[k]?=some a:=⟨_,List.getElem?_eq_getElem hk⟩;have hw1:IntKind.i64.wrap ((k:Int)+1)=(k:Int)+1:=IntWalk.i64_in _ (by omega);rw[drop_cons ha,List.any_cons]at hany;have G3:=G2.ext hE3;have hat3:=G3.at_;rw[hdC_eq]at hat3;obtain⟨row,hrow,yrow,rfl,hyrow⟩:=G3.al.get ha;obtain⟨ida,va,i1, -,hya,i4⟩:=G3.a.at_ hrow;rw[hral]at hya;subst hya;simp only[numV]at hrow;have haf:=G3.fits a (List.mem_of_getElem? ha);obtain⟨K2,hK2⟩:=callHas (p1:=p1) L a.b haf.1 haf.2 p.e;have hfb:get H3 (4*(n3+1+2+6))=none:=hE3.fresh _ (by omega);have hE4:Ext H3 n3 (Arx.set (Arx.set H3 (4*(n3+1+2+6)) (.cells [.iv .nilp])) (4*(n3+1+2+6)) (.cells [.ref ida va k 0])) (n3+1+2+8):=
     ((Ext.refl hE3.fresh (show n3<=n3+1+2+8 by omega)).set (by omega) (by omega) _).set (by omega) (by omega) _
    have g4:get (Arx.set (Arx.set H3 (4*(n3+1+2+6)) (Ob.cells [.iv .nilp])) (4*(n3+1+2+6)) (Ob.cells [.ref ida va k 0])) (4*(n3+1+2+6))=some (.cells [.ref ida va k 0]):=get_set_same _ _ _;generalize hH4:(Arx.set (Arx.set H3 (4*(n3+1+2+6)) (Ob.cells [.iv .nilp])) (4*(n3+1+2+6)) (Ob.cells [.ref ida va k 0]))=H4 at hE4 g4;have hE24:=hE3.trans hE4;have i44:get H4 ida=some (.buf va 5 ra):=by rw[hE4.old _ (by omega)];exact i4
    have g04:get H4 (4*nx)=some (.cells [.ref idp vp j 0]):=by rw[hE24.old _ (by omega)];exact g02
    have hi4:get H4 idp=some (.buf vp 15 rows):=by rw[hE24.old _ (by omega)];exact hi2
    have hd4:get H4 idd=some (.buf vd 1 (g.drains.map numC)):=by rw[hE24.old _ q1];exact q4
    have hy4:LB H4 (n3+1+2+8) yrow a.b:=hyrow.ext hE4;have hat4:=(G2.ext hE24).at_;rw[hdC_eq]at hat4;refine Wpr0Z (by simp[hk];rfl) ?_;refine ab (WpcondZ (t:=true) rfl (WpskipZ (ab (WpblockZ (WpsgZ ?_)))));refine Wps0Z (s':=⟨_,H4,n3+1+2+8⟩) (by
     rw[<-hH4];simp only[Nat.add_assoc]at hfb;simp[hat3,i4,hk,hfb,Nat.add_assoc];rfl) ?_
    refine ab (Wp.drawn rfl ?_);refine WprgnZ (K:=K2) (s':=⟨[(0,.ref lid 0 0 0),(1,.nI c),(5,.ref (4*nx) 0 0 0),(7,.nI i),(8,.nI bt),(10,.ref (4*(n3+1+2+6)) 0 0 0),(11,.bI (keptX c bt p.e a)),(31,.nI g.acts.length),(32,.nI k)],H4,n3+1+2+8+34⟩) (λn hn=>by
     have cc:=hK2 n hn H4 _ yrow hy4;unfold keptX;generalize hasF a.b p.e=q at *;generalize pbC j p=pr at *;generalize p.e.enc.map AV.iv=ee at *;cases h1:a.c==c
     ·simp[g4,i44,hrow,h1]
     ·cases h2:a.t==0
      ·by_cases h3:bt<=a.t
       ·simp[g4,i44,hrow,g04,hi4,hr,a2,hel,h1,h2,h3,cc]
       ·simp[g4,i44,hrow,h1,h2,h3]
      ·simp[g4,i44,hrow,g04,hi4,hr,a2,hel,h1,h2,cc]) ?_
    refine ab ?_;obtain⟨H5,n5,hE5,K3,hK3⟩:∃H' nx',Ext H4 (n3+1+2+8+34+11) H' nx'/\Ev p1 p2 143 [.own idd 0 i vd,.clo 199 [] [.ref (4*(n3+1+2+6)) 0 0 0]] H4 (n3+1+2+8+34+11) (.bI ((g.drains.take i).any λt=>decide (a.f<t)),H',nx'):=by
     refine evCon (p1:=p1) hp2 L.h150 L.h143 rfl rfl (by rw[List.length_take];omega) (λq hq=>hE4.fresh q (by omega)) λH6 n6 hE6=>?_
     refine says_num (l:=g.drains) (by rw[hE6.old _ (by omega)];exact hd4) (by have:=hE6.le;omega) (by omega) λt H7 n7 hE7=>⟨H7,_,Ext.refl hE7.fresh (show n7<=n7+8 by omega),ev199 hp2 L t a yrow (4*(n3+1+2+6)) ida va k ra H7 n7 ?_ ?_ hrow⟩
     ·rw[hE7.old _ (by have:=hE6.le;omega),hE6.old _ (by omega)];exact g4
     ·rw[hE7.old _ (by have:=hE6.le;omega),hE6.old _ (by omega)];exact i44
    have hE45:Ext H4 (n3+1+2+8) H5 n5:=(Ext.refl hE4.fresh (by omega)).trans hE5;have hma:mustA g c bt i p.e a=(keptX c bt p.e a&&(g.drains.take i).any λt=>decide (a.f<t)):=rfl;rw[hma]at hany;generalize keptX c bt p.e a=kp at *;generalize((g.drains.take i).any λt=>decide (a.f<t))=dr at *;obtain⟨H6,n6,hE6,hreg⟩:∃H6 n6,Ext H4 (n3+1+2+8) H6 n6/\∀n,K3<=n->∀ops:List IOper,ops=[⟨some 74,.mov (.t 11),none,[]⟩,⟨some 75,.mov (.t 74),none,[]⟩,⟨some 76,.mov (.t 0),some (75,true),[]⟩,⟨some 77,.nchk (.t 76),some (75,true),[]⟩,⟨some 78,.fadr 6 (.t 77),some (75,true),[]⟩,⟨some 79,.load false 1 (.t 78),some (75,true),[]⟩,⟨some 80,.mov (.t 7),some (75,true),[]⟩,⟨some 81,.slc 1 (.t 79) none (some (.t 80)),some (75,true),[]⟩,⟨some 82,.mkf 199 [] [.t 10],some (75,true),[]⟩,⟨some 83,.scall (.c (.iv (.fn 143 []))) [.t 81,.t 82],some (75,true),[]⟩,⟨some 84,.pick (.t 75) (.t 83) (.c (.bI false)),none,[]⟩]->
      evalRgn (one p1 n) (run2 p1 p2 n) false ops [0,1,5,7,8,31,32,84] ⟨[(0,.ref lid 0 0 0),(1,.nI c),(5,.ref (4*nx) 0 0 0),(7,.nI i),(8,.nI bt),(10,.ref (4*(n3+1+2+6)) 0 0 0),(11,.bI kp),(31,.nI g.acts.length),(32,.nI k)],H4,n3+1+2+8+34⟩ =
      some ⟨[(0,.ref lid 0 0 0),(1,.nI c),(5,.ref (4*nx) 0 0 0),(7,.nI i),(8,.nI bt),(31,.nI g.acts.length),(32,.nI k),(84,.bI (kp&&dr))],H6,n6⟩:=by
     cases kp with
     |false=>
      refine⟨H4,n3+1+2+8+34+11,Ext.refl hE4.fresh (by omega),λn hn ops ho=>?_⟩;subst ho;simp
     |true=>
      refine⟨H5,n5,hE45,λn hn ops ho=>?_⟩;subst ho;have cc:=hK3 n hn;have hil2:i<=g.drains.length:=by omega
      simp only[Nat.add_assoc]at cc;generalize hes:g.drains.map numC=es at *;simp[hat4,hd4,hdl,hil2,cc,Nat.add_assoc]
    refine WprgnZ (K:=K3) (λn hn=>hreg n hn _ rfl) ?_;refine WpcondZ rfl ?_;have hE26:=hE24.trans hE6;cases hkd:kp&&dr with
    |true=>
     rw[hkd,Bool.true_or]at hany;rw[<-hany];simp only[if_true];refine WpsgZ ?_;exact WpretZ ⟨(_,_,_),⟨rfl,hE02.trans (hE26.up (show n6<=n6+2 by omega))⟩,rfl,rfl⟩
    |false=>
     rw[hkd,Bool.false_or]at hany;simp only[Bool.false_eq_true,if_false];refine WpskipZ ?_;simp only[Ex.then,Ex.inBlock];refine Wpr0Z (by simp[hw1];rfl) ?_;exact⟨m - 1,by omega,k+1,_,H6,by omega,hE26.up (show n6<=n6+2 by omega),hany,by simp[fr_cons,keepFr]⟩
   ·obtain rfl:k=g.acts.length:=by omega
    refine WprgZ ?_;refine ab (WpcondZ (t:=false) rfl (WpexitZ ?_));simp only[Ex.then,Ex.inBlock,if_true];rw[List.drop_length,List.any_nil]at hany;rw[<-hany];refine WpsgZ ?_;exact WpretZ ⟨(_,_,_),⟨by simp,hE02.trans (hE3.up (show n3<=n3+1+1 by omega))⟩,rfl,rfl⟩
 obtain⟨⟨y,H',nx'⟩,⟨rfl,h1⟩,h4⟩:=Ev.ofx hp2 L.h198 rfl rfl _ key;exact⟨H',nx',h1,h4⟩
end
def gotX (c:Int) (i:Int) (bt:Int) (d:Dv):Bool:=d.c==c&&(d.p==i+1&&decide (d.s<=bt))
def missP (g:Lg) (d:List Dv) (c i:Int) (p:Pb):Bool:=decide (0<mustX g c p)&&!d.any (gotX c i (mustX g c p))
def missOne (g:Lg) (d:List Dv) (c:Int) (t:Nat):List (Int×Int):=match g.pubs[t]? with
 |some p=>if missP g d c t p=true then[(c,(t:Int)+1)] else[]
 |none=>[]
def missRow (g:Lg) (d:List Dv) (c:Int):Nat->List (Int×Int)
 |0=>[]
 |t+1=>missRow g d c t++missOne g d c t
def missTo (g:Lg) (d:List Dv):Nat->List (Int×Int)
 |0=>[]
 |k+1=>missTo g d k++missRow g d k g.pubs.length
def pairC (p:Int×Int):List AV:=[.iv (.int .i64 p.1),.iv (.int .i64 p.2)]
theorem missOne_len (g:Lg) (d:List Dv) (c:Int) (t:Nat):(missOne g d c t).length<=1:=by
 unfold missOne;split
 ·split<;>simp
 ·simp
theorem missRow_len (g:Lg) (d:List Dv) (c:Int):∀t,(missRow g d c t).length<=t
 |0=>by simp[missRow]
 |t+1=>by
  unfold missRow;have:=missRow_len g d c t;have:=missOne_len g d c t;rw[List.length_append];omega
theorem missTo_len (g:Lg) (d:List Dv):∀k,(missTo g d k).length<=k*g.pubs.length
 |0=>by simp[missTo]
 |k+1=>by
  unfold missTo;have:=missTo_len g d k;have:=missRow_len g d k g.pubs.length;rw[List.length_append,Nat.succ_mul];omega
theorem QE.push3 {e:Nat} {H:Hp} {n lo:Nat} {y:AV} {l:List (List AV)} (h:QE e H n y l) (hf:Fresh H n) (r:List AV) {gid slot n':Nat} (h1:4*n<=gid) (h2:n<=slot) (h3:gid<4*slot) (hn:slot<n') (hlen:l.length<=1000000) (hlo:∀k o m w,y = .own k o m w->4*lo<=k) (hln:lo<=n) :
  ∃y' H4,(app e slot false y (.own gid 0 1 0)).run (Arx.set H gid (.buf 0 e [r]))=some (y',H4)/\Fresh H4 n'/\QE e H4 n' y' (l++[r])/\(∀k o m w,y' = .own k o m w->4*lo<=k)/\(∀k,k<4*lo->get H4 k=get H k)/\
   (∀k ob,get H k=some ob->(∀v es,ob≠.buf v e es)->get H4 k=some ob):=by
 obtain⟨y',H4,p1,p2,p3,p4,p5⟩:=QE.push2 (e:=e) h hf r (g:=gid) (slot:=slot) (get_set_same _ _ _) (λk hk=>get_set_ne _ _ (Ne.symm hk)) h1 h2 h3 (by omega);refine⟨y',H4,p1,λk hk=>p2 k (by omega),p3.mono (by omega) λ_ _=>rfl,λk o m w e=>?_,λk hk=>p4 k (by omega) λo m w e=>by have:=hlo k o m w e;omega,λk ob hk hne=>?_⟩
 ·rcases p5 k o m w e with q | ⟨o,m,w,q⟩
  ·omega
  ·exact hlo k o m w q
 ·have hkn:k<4*n:=by
   rcases Nat.lt_or_ge k (4*n)with q | q
   ·exact q
   ·rw[hf k q]at hk;cases hk
  rw[p4 k hkn (QE.not_ (e:=e) h hk hne)];exact hk
section
variable {p1:Nat->Option Arb.IFn} {p2:Nat->Option IFn}
theorem ev197 (hp2:PrimsLe p2) (L:LibL p1 p2) (d:Dv) (c bt:Int) (i:Nat) (hi:i<=1000000) (bc bi bb:Nat) (H:Hp) (nx:Nat) (hf:Fresh H nx) (hc:get H bc=some (.cells [.nI c])) (hii:get H bi=some (.cells [.nI i])) (hb:get H bb=some (.cells [.nI bt])) :
  ∃H' nx',Ext H nx H' nx'/\Ev p1 p2 197 [.agg (d.enc.map AV.iv),.ref bc 0 0 0,.ref bi 0 0 0,.ref bb 0 0 0] H nx (.bI (gotX c i bt d),H',nx'):=by
 have hfr:get H (4*nx)=none:=hf _ (by omega);have hlt:∀{k:Nat} {ob:Ob},get H k=some ob->4*nx≠k:=λ{k ob} h e=>by rw[<-e,hfr]at h;cases h
 have hE1:Ext H nx (Arx.set H (4*nx) (.cells (d.enc.map AV.iv))) (nx+2):=(Ext.refl hf (by omega)).set (by omega) (by omega) _;have hc1:get (Arx.set H (4*nx) (.cells (d.enc.map AV.iv))) bc=_:=(get_set_ne _ _ (hlt hc)).trans hc;have hi1:get (Arx.set H (4*nx) (.cells (d.enc.map AV.iv))) bi=_:=(get_set_ne _ _ (hlt hii)).trans hii;have hb1:get (Arx.set H (4*nx) (.cells (d.enc.map AV.iv))) bb=_:=(get_set_ne _ _ (hlt hb)).trans hb;have hw:IntKind.i64.wrap ((i:Int)+1)=(i:Int)+1:=IntWalk.i64_in _ (by omega);refine⟨_,nx+2+18,hE1.up (by omega),Ev.of hp2 L.h197 rfl rfl ?_⟩;have hg1:get (Arx.set H (4*nx) (Ob.cells (d.enc.map AV.iv))) (4*nx)=some (.cells (d.enc.map AV.iv)):=get_set_same _ _ _
 have hden:d.enc.map AV.iv=[.nI d.c,.nI d.p,.nI d.s]:=rfl;generalize hH1:Arx.set H (4*nx) (Ob.cells (d.enc.map AV.iv))=H1 at *;refine Wps0Z (s':=⟨[(1,.ref bc 0 0 0),(2,.ref bi 0 0 0),(3,.ref bb 0 0 0),(4,.ref (4*nx) 0 0 0)],H1,nx+2⟩) (by
  rw[<-hH1];simp[hfr]) ?_
 refine ab ?_;rw[hden]at hg1;refine Wpr0Z (s':=⟨[(5,.bI (gotX c i bt d))],H1,nx+2+18⟩) (by
  unfold gotX;cases h1:d.c==c
  ·simp[hg1,hc1,hi1,hb1,h1]
  ·cases h2:d.p==(i:Int)+1
   ·simp[hg1,hc1,hi1,hb1,h1,h2,hw]
   ·simp[hg1,hc1,hi1,hb1,h1,h2,hw]) ?_
 exact WpretZ ⟨rfl,rfl⟩
def DR (H:Hp) (n:Nat) (y:AV) (d:List Dv):Prop:=y = .iv (.sl 3 (d.map Dv.enc))\/QE 3 H n y (d.map λv=>v.enc.map AV.iv)
theorem DR.mono {H H':Hp} {n n':Nat} {y:AV} {d:List Dv} (h:DR H n y d) (hE:Ext H n H' n'):DR H' n' y d:=h.imp id λq=>q.mono hE.le hE.old
theorem ev139 (hp2:PrimsLe p2) (L:LibL p1 p2) (d:List Dv) (hd:d.length<=1000) (c bt:Int) (i:Nat) (hi:i<=1000000) (bc bi bb:Nat) (H:Hp) (nx:Nat) (hf:Fresh H nx) (hc:get H bc=some (.cells [.nI c])) (hii:get H bi=some (.cells [.nI i])) (hb:get H bb=some (.cells [.nI bt])) (y:AV) (hy:DR H nx y d) :
  ∃H' nx',Ext H nx H' nx'/\Ev p1 p2 139 [y,.clo 197 [] [.ref bc 0 0 0,.ref bi 0 0 0,.ref bb 0 0 0]] H nx (.bI (d.any (gotX c i bt)),H',nx'):=by
 have hlt:∀{k:Nat} {ob:Ob},get H k=some ob->k<4*nx:=λ{k ob} h=>by
  rcases Nat.lt_or_ge k (4*nx)with h1 | h1
  ·exact h1
  ·rw[hf k h1]at h;cases h
 refine evCon (p1:=p1) (e:=3) (agg:=true) hp2 L.h146 L.h139 rfl rfl (by omega) hf λH2 n2 hE2=>⟨λH3 n3 hE3=>?_,197,_,rfl,λj a ha H3 n3 hE3=>?_⟩
 ·have hy3:=hy.mono (hE2.trans hE3);rcases hy3 with rfl | q
  ·simp[Arx.len,M.run]
  ·have:=q.len;rw[List.length_map]at this;exact this
 have hE:=hE2.trans hE3;obtain⟨H4,n4,hE4,hev⟩:=ev197 (p1:=p1) hp2 L a c bt i hi bc bi bb H3 n3 hE3.fresh (by rw[hE.old _ (hlt hc)];exact hc) (by rw[hE.old _ (hlt hii)];exact hii) (by rw[hE.old _ (hlt hb)];exact hb);have hy3:=hy.mono hE;rcases hy3 with rfl | q
 ·have hrow:(d.map Dv.enc)[j]?=some a.enc:=by rw[List.getElem?_map,ha];rfl
  refine⟨.iv (.ptr a.enc),.agg (a.enc.map AV.iv),?_,?_,H4,n4,hE4,hev⟩
  ·generalize d.map Dv.enc=rows at *;simp[Arx.isl,idx,Mrun_bindZ,M.ok,M.bind,M.run,M.lift,hrow]
  ·simp[Arx.load,Dv.enc,Mrun_bindZ,M.ok,M.run,M.bind,Arx.mk]
 ·have hrow:(d.map λv=>v.enc.map AV.iv)[j]?=some (a.enc.map AV.iv):=by rw[List.getElem?_map,ha];rfl
  obtain⟨id,v,i1, -,hyy,i4⟩:=q.at_ hrow;have hjl:j<(d.map λv=>v.enc.map AV.iv).length:=(List.getElem?_eq_some_iff.1 hrow).1;refine⟨.ref id v j 0,.agg (a.enc.map AV.iv),?_,?_,H4,n4,hE4,hev⟩
  ·rw[hyy];clear hrow;generalize(d.map λv=>v.enc.map AV.iv).length=R at *;simp[Arx.isl,idx,Mrun_bindZ,M.ok,M.bind,M.look,M.run,i4,hjl]
  ·clear hjl hyy;generalize(d.map λv=>v.enc.map AV.iv)=rows at *;simp only[Dv.enc,List.map_cons,List.map_nil]at hrow ⊢;simp[Arx.load,Mrun_bindZ,M.look,M.run,M.lift,i4,obRead,hrow,M.ok,Arx.mk,M.bind]
end
structure FRM (fr:Fr) (rv yb:AV) (lid cb:Nat) (N k W t:Int):Prop where
 g2:get fr 2=some rv
 g6:get fr 6=some yb
 g7:get fr 7=some (.ref lid 0 0 0)
 g8:get fr 8=some (.ref cb 0 0 0)
 g17:get fr 17=some (.iv (.int .i64 N))
 g18:get fr 18=some (.iv (.int .i64 k))
 g25:get fr 25=some (.iv (.int .i64 W))
 g26:get fr 26=some (.iv (.int .i64 t))
def missBlk:IC:=match F153.body with
 |.seq _ (.seq _ (.seq (.seq _ (.block _ (.loop _ (.seq _ (.seq _ (.seq (.block _ (.seq _ (.seq (.seq _ (.block _ (.loop _ (.seq _ (.seq _ (.seq (.block _ c) _)))))) _))) _)))))) _))=>c
 |.seq _ (.seq _ (.seq (.seq _ (.block _ (.loop _ (.seq _ (.seq _ (.seq (.block _ (.seq _ (.seq _ (.block _ (.loop _ (.seq _ (.seq _ (.seq (.block _ c) _)))))))) _)))))) _))=>c
 |_=>.skip
section
variable {p1:Nat->Option Arb.IFn} {p2:Nat->Option IFn}
set_option maxHeartbeats 8000000 in
theorem miss_one (hp2:PrimsLe p2) (L:LibL p1 p2) {lo lid:Nat} {x:Hd} {g:Lg} {H1:Hp} {n1:Nat} {ya yp yd:AV} {ra rp:List (List AV)} (G:LG lo H1 n1 lid x g ya yp yd ra rp) (hla:g.acts.length<=1000) (hlp:g.pubs.length<=1000) (hld:g.drains.length<=1000)
  (d:List Dv) (hd:d.length<=1000) (c:Int) (t:Nat) (p:Pb) (hpt:g.pubs[t]?=some p) (l:List (Int×Int)) (hll:l.length<=1000000)
  (H2:Hp) (n2:Nat) (hE:Ext H1 n1 H2 n2) (yb:AV) (hyb:QE 2 H2 n2 yb (l.map pairC)) (hybo:∀k o m w,yb = .own k o m w->4*n1<=k) (cb:Nat) (hcb:get H2 cb=some (.cells [.nI c])) (N k W:Int) (yr:AV) (hyr:DR H1 n1 yr d) :
  Wp p1 p2 missBlk ⟨[(2,yr),(6,yb),(7,.ref lid 0 0 0),(8,.ref cb 0 0 0),(17,.nI N),(18,.nI k),(25,.nI W),(26,.nI t),(27,.bI true)],H2,n2⟩
   (λe st=>e = .norm/\∃yb',FRM st.fr yr yb' lid cb N k W t/\Ext H1 n1 st.hp st.nx/\QE 2 st.hp st.nx yb' ((l++(if missP g d c t p=true then[(c,(t:Int)+1)] else[])).map pairC)/\(∀k o m w,yb' = .own k o m w->4*n1<=k)/\get st.hp cb=some (.cells [.nI c])):=by
 have hn12:=hE.le;have htl:t<g.pubs.length:=(List.getElem?_eq_some_iff.1 hpt).1;have hcblt:cb<4*n2:=by
  rcases Nat.lt_or_ge cb (4*n2)with h | h
  ·exact h
  ·rw[hE.fresh _ h]at hcb;cases hcb
 have hw1:IntKind.i64.wrap ((t:Int)+1)=(t:Int)+1:=IntWalk.i64_in _ (by omega);have hfr:get H2 (4*(n2+1))=none:=hE.fresh _ (by omega);have hE3:Ext H2 n2 (Arx.set (Arx.set H2 (4*(n2+1)) (.cells [.nI 0])) (4*(n2+1)) (.cells [.nI t])) (n2+3):=
  ((Ext.refl hE.fresh (show n2<=n2+3 by omega)).set (by omega) (by omega) _).set (by omega) (by omega) _
 have hg3:get (Arx.set (Arx.set H2 (4*(n2+1)) (Ob.cells [.nI 0])) (4*(n2+1)) (Ob.cells [.nI t])) (4*(n2+1))=some (.cells [.nI t]):=get_set_same _ _ _;generalize hH3:(Arx.set (Arx.set H2 (4*(n2+1)) (Ob.cells [.nI 0])) (4*(n2+1)) (Ob.cells [.nI t]))=H3 at hE3 hg3;have hE13:=hE.trans hE3;have G3:=G.ext hE13;have hcb3:get H3 cb=some (.cells [.nI c]):=by rw[hE3.old _ hcblt];exact hcb
 have hyb3:QE 2 H3 (n2+3) yb (l.map pairC):=hyb.mono (by omega) hE3.old;have hrow:=G3.pl.2 t p hpt;obtain⟨idp,vp,i1, -,hyp,i4⟩:=G3.p.at_ hrow;have hrpl:=G3.pl.1;rw[hrpl]at hyp;obtain⟨H4,n4,hE4,K1,hK1⟩:=ev198 (p1:=p1) hp2 L (G3.ext (Ext.refl hE3.fresh (show n2+3<=n2+3+11 by omega))) hla hld (λk hk=>hE3.fresh k (by omega)) c p idp vp t rp (by omega) i4 hrow;have hle4:=hE4.le;have hfa3:get H3 (4*(n2+3+9))=none:=hE3.fresh _ (by omega);have hfa:get H4 (4*(n2+3+9))=none:=by rw[hE4.old _ (by omega)];exact hfa3
 have hE34:Ext H3 (n2+3) H4 n4:=(Ext.refl hE3.fresh (show n2+3<=n2+3+11 by omega)).trans hE4;have hE35:Ext H3 (n2+3) (Arx.set (Arx.set H4 (4*(n2+3+9)) (.cells [.nI 0])) (4*(n2+3+9)) (.cells [.nI (mustX g c p)])) n4:=(hE34.set (by omega) (by omega) _).set (by omega) (by omega) _;have hg5:get (Arx.set (Arx.set H4 (4*(n2+3+9)) (Ob.cells [.nI 0])) (4*(n2+3+9)) (Ob.cells [.nI (mustX g c p)])) (4*(n2+3+9))=some (.cells [.nI (mustX g c p)]):=get_set_same _ _ _;generalize hH5:Arx.set (Arx.set H4 (4*(n2+3+9)) (Ob.cells [.nI 0])) (4*(n2+3+9)) (Ob.cells [.nI (mustX g c p)])=H5 at hE35 hg5;have hE15:=hE13.trans hE35
 have hcb5:get H5 cb=some (.cells [.nI c]):=by rw[hE35.old _ (by omega)];exact hcb3
 have hib5:get H5 (4*(n2+1))=some (.cells [.nI t]):=by rw[hE35.old _ (by omega)];exact hg3
 have hyb5:QE 2 H5 n4 yb (l.map pairC):=hyb3.mono (by omega) hE35.old;have hat3:=G3.at_;rw[hdC_eq,hyp]at hat3;have hlidlt:=G3.li;refine Wps0Z (s':=⟨_,H3,n2+3⟩) (by
  rw[<-hH3];simp[hfr];rfl) ?_
 refine ab ?_;have e1:¬cb=4*(n2+3+9):=by omega
 have e2:¬lid=4*(n2+3+9):=by intro e;have:=G.li;omega
 have e3:¬idp=4*(n2+3+9):=by omega
 have e4:¬4*(n2+1)=4*(n2+3+9):=by omega
 refine WprgnZ (K:=K1) (s':=⟨[(2,yr),(6,yb),(7,.ref lid 0 0 0),(8,.ref cb 0 0 0),(9,.ref (4*(n2+1)) 0 0 0),(10,.ref (4*(n2+3+9)) 0 0 0),(17,.nI N),(18,.nI k),(25,.nI W),(26,.nI t)],H5,n4⟩) (λn hn=>by
  have cc:=hK1 n hn;rw[<-hH5];generalize mustX g c p=mu at *;generalize haid:n2+3+9=aid at *;simp[evalFeet,footOf,hcb3,hg3,hat3,i4,htl,cc,hfa,haid];exact(by unfold orderOk;rw[Bool.or_eq_true];right;simp[apartAll,apart1,clash,meets,M.foot,M.bind,M.ok,M.lift,mk,obRead,hcb3,hg3,hat3,i4,htl,cc,hfa,haid,e1,e2,e3,e4,Ne.symm e1,Ne.symm e2,Ne.symm e3,Ne.symm e4])) ?_
 refine Wps0Z (by simp;rfl) ?_;refine ab ?_;obtain⟨H6,n6,hE6,K2,hK2⟩:=ev139 (p1:=p1) hp2 L d hd c (mustX g c p) t (by omega) cb (4*(n2+1)) (4*(n2+3+9)) H5 (n4+2+8) (λq hq=>hE35.fresh q (by omega)) hcb5 hib5 hg5 yr (hyr.mono (hE15.trans (Ext.refl hE35.fresh (show n4<=n4+2+8 by omega))));have hmp:missP g d c t p=(decide (0<mustX g c p)&&!d.any (gotX c t (mustX g c p))):=rfl;rw[hmp];generalize mustX g c p=mu at *;generalize d.any (gotX c t mu)=got at *;obtain⟨H7,n7,hE7,hreg⟩:∃H7 n7,Ext H5 (n4+2) H7 n7/\∀n,K2<=n->∀ops:List IOper,ops=[⟨some 39,.load false 1 (.t 10),none,[]⟩,⟨some 40,.bin .gtr 0 (.t 39) (.c (.nI (0))),none,[]⟩,⟨some 41,.mov (.t 40),none,[]⟩,⟨some 42,.mov (.t 2),some (41,true),[]⟩,⟨some 43,.mov (.t 11),some (41,true),[]⟩,⟨some 44,.scall (.c (.iv (.fn 139 []))) [.t 42,.t 43],some (41,true),[]⟩,⟨some 45,.un .not (.t 44),some (41,true),[]⟩,⟨some 46,.pick (.t 41) (.t 45) (.c (.bI false)),none,[]⟩]->
   evalRgn (one p1 n) (run2 p1 p2 n) false ops [2,6,7,8,9,17,18,25,26,46] ⟨[(2,yr),(6,yb),(7,.ref lid 0 0 0),(8,.ref cb 0 0 0),(9,.ref (4*(n2+1)) 0 0 0),(10,.ref (4*(n2+3+9)) 0 0 0),(11,.clo 197 [] [.ref cb 0 0 0,.ref (4*(n2+1)) 0 0 0,.ref (4*(n2+3+9)) 0 0 0]),(17,.nI N),(18,.nI k),(25,.nI W),(26,.nI t)],H5,n4+2⟩ =
   some ⟨[(2,yr),(6,yb),(7,.ref lid 0 0 0),(8,.ref cb 0 0 0),(9,.ref (4*(n2+1)) 0 0 0),(17,.nI N),(18,.nI k),(25,.nI W),(26,.nI t),(46,.bI (decide (0<mu)&&!got))],H7,n7⟩:=by
  by_cases hmu:0<mu
  ·refine⟨H6,n6,(Ext.refl (λq hq=>hE35.fresh q (by omega)) (show n4+2<=n4+2+8 by omega)).trans hE6,λn hn ops ho=>?_⟩;subst ho;have cc:=hK2 n hn;simp only[Nat.add_assoc]at cc hg5;simp[hg5,hmu,cc,Nat.add_assoc]
  ·refine⟨H5,n4+2+8,Ext.refl (λq hq=>hE35.fresh q (by omega)) (by omega),λn hn ops ho=>?_⟩;subst ho;simp only[Nat.add_assoc]at hg5;simp[hg5,hmu,Nat.add_assoc]
 refine WprgnZ (K:=K2) (λn hn=>hreg n hn _ rfl) ?_;refine WpcondZ rfl ?_;have hle7:=hE7.le;have hE57:Ext H5 n4 H7 n7:=(Ext.refl hE35.fresh (show n4<=n4+2 by omega)).trans hE7;have hE17:=hE15.trans hE57;have hcbn:cb<4*n4:=by omega
 have hcb7:get H7 cb=some (.cells [.nI c]):=by rw[hE57.old _ hcbn];exact hcb5
 have hib7:get H7 (4*(n2+1))=some (.cells [.nI t]):=by rw[hE57.old _ (by omega)];exact hib5
 have hyb7:QE 2 H7 n7 yb (l.map pairC):=hyb5.mono hE57.le hE57.old;cases hb:decide (0<mu)&&!got with
 |false=>
  simp only[Bool.false_eq_true,if_false];refine WpskipZ ?_;exact⟨rfl,yb,⟨rfl,rfl,rfl,rfl,rfl,rfl,rfl,rfl⟩,hE17,by rw[List.append_nil];exact hyb7,hybo,hcb7⟩
 |true=>
  simp only[if_true];have hfg:get H7 (4*(n7+5))=none:=hE7.fresh _ (by omega);obtain⟨y',H8,r1,r2,r3,r4,r5,r6⟩:=hyb7.push3 hE7.fresh [.nI c,.nI ((t:Int)+1)] (lo:=n1) (gid:=4*(n7+5)) (slot:=n7+6) (n':=n7+8) (by omega) (by omega) (by omega) (by omega) (by rw[List.length_map];omega) hybo (by omega);refine Wpr0Z (by
   simp[hcb7,hib7,hw1,hfg,r1,setAll,putAll];rfl) ?_
  refine⟨rfl,y',⟨rfl,rfl,rfl,rfl,rfl,rfl,rfl,rfl⟩,⟨by show n1<=n7+8;omega,r2,λq hq=>(r5 q hq).trans (hE17.old q hq)⟩,?_,r4,r6 _ _ hcb7 λv es h=>by cases h⟩;rw[List.map_append];exact r3
end
section
variable {p1:Nat->Option Arb.IFn} {p2:Nat->Option IFn}
set_option maxHeartbeats 4000000 in
theorem ev153g (hp2:PrimsLe p2) (L:LibL p1 p2) (x:Hd) (hp:x.ps.length<=100) (hh:x.hs.length<=100) (l:List Arb.Op) (hl:l.length<=1000) (hok:∀o ∈ l,o.ok) (d:List Dv) (hd:d.length<=1000) (H:Hp) (nx:Nat) (hf:Fresh H nx) (yr:AV) (hyr:DR H nx yr d) :
  ∃H' nx' y,Ext H nx H' nx'/\QE 2 H' nx' y ((missTo (readX x l) d x.hs.length).map pairC)/\Ev p1 p2 153 [.agg (hdC x),.iv (.sl 24 (l.map Arb.Op.enc)),yr] H nx (y,H',nx'):=by
 have hfr:get H (4*nx)=none:=hf _ (by omega);have hE1:Ext H nx (Arx.set H (4*nx) (.cells (hdC x))) (nx+2):=(Ext.refl hf (by omega)).set (by omega) (by omega) _;have hb:get (Arx.set H (4*nx) (Ob.cells (hdC x))) (4*nx)=some (.cells (hdC x)):=get_set_same _ _ _;generalize hH0:Arx.set H (4*nx) (Ob.cells (hdC x))=H0 at hE1 hb;obtain⟨H1,n1,lid,ya,yp,yd,ra,rp,hE2,G,K1,hK1⟩:=ev177 (p1:=p1) hp2 L x hp hh l hl hok H0 (nx+2+4) (λk hk=>hE1.fresh k (by omega));have hE01:Ext H nx H1 n1:=(hE1.up (show nx+2<=nx+2+4 by omega)).trans hE2;have hgl:=readX_len x l;generalize readX x l=g at *;have hle2:=hE2.le;have hb1:get H1 (4*nx)=some (.cells (hdC x)):=by rw[hE2.old _ (by omega)];exact hb
 have hrpl:=G.pl.1;have key:Wp p1 p2 F153.body ⟨params [.agg (hdC x),.iv (.sl 24 (l.map Arb.Op.enc)),yr] 0,H,nx⟩ (λe st=>∃r:AV×Hp×Nat,(Ext H nx r.2.1 r.2.2/\QE 2 r.2.1 r.2.2 r.1 ((missTo g d x.hs.length).map pairC))/\Fin F153.res r e st):=by
  generalize l.map Arb.Op.enc=scr at *;refine Wps0Z (s':=⟨[(1,.iv (.sl 24 scr)),(2,yr),(3,.ref (4*nx) 0 0 0),(6,.iv (.nsl 2))],H0,nx+2⟩) (by
   rw[<-hH0];simp[hfr]) ?_
  refine WpskZ (K:=K1) (λn hn=>by
   have c:=hK1 n hn;simp[hb,hd_take,hd_len,c];rfl) ?_
  refine ab (ab ?_);have hbc:=hb1;rw[hdC_eq]at hbc;refine Wpr0Z (by
   simp[hbc];rfl) ?_
  refine WpblockZ ?_;refine WploopZ (λm s1=>∃(k n2:Nat) (H2:Hp) (yb:AV),k+m=x.hs.length/\Ext H1 n1 H2 n2/\QE 2 H2 n2 yb ((missTo g d k).map pairC)/\(∀q o m w,yb = .own q o m w->4*n1<=q)/\
   s1=⟨[(2,yr),(6,yb),(7,.ref lid 0 0 0),(17,.nI x.hs.length),(18,.nI k)],H2,n2⟩) (m:=x.hs.length)
   ⟨0,n1+4,H1,.iv (.nsl 2),by omega,Ext.refl hE2.fresh (by omega),QE.nil _ _ _,(λq o m w h=>by cases h),by simp[fr_cons,keepFr]⟩ ?_
  rintro m s1 ⟨k,n2,H2,yb,hkm,hE3,hyb,hybo,rfl⟩;refine ab ?_;by_cases hk:k<x.hs.length
  ·have hw1:IntKind.i64.wrap ((k:Int)+1)=(k:Int)+1:=IntWalk.i64_in _ (by omega);have hle3:=hE3.le;have hmt:=missTo_len g d k;have hmul:k*g.pubs.length<=100*1000:=Nat.mul_le_mul (by omega) (by omega);have hfc:get H2 (4*(n2+1+1))=none:=hE3.fresh _ (by omega);have hE4:Ext H1 n1 (Arx.set (Arx.set H2 (4*(n2+1+1)) (.cells [.nI 0])) (4*(n2+1+1)) (.cells [.nI k])) (n2+1+3):=
    ((hE3.up (show n2<=n2+1+3 by omega)).set (by omega) (by omega) _).set (by omega) (by omega) _
   have hE24:Ext H2 n2 (Arx.set (Arx.set H2 (4*(n2+1+1)) (.cells [.nI 0])) (4*(n2+1+1)) (.cells [.nI k])) (n2+1+3):=
    ((Ext.refl hE3.fresh (show n2<=n2+1+3 by omega)).set (by omega) (by omega) _).set (by omega) (by omega) _
   have g4:get (Arx.set (Arx.set H2 (4*(n2+1+1)) (Ob.cells [.nI 0])) (4*(n2+1+1)) (Ob.cells [.nI k])) (4*(n2+1+1))=some (.cells [.nI k]):=get_set_same _ _ _;generalize hH4:Arx.set (Arx.set H2 (4*(n2+1+1)) (Ob.cells [.nI 0])) (4*(n2+1+1)) (Ob.cells [.nI k])=H4 at hE4 hE24 g4;have hyb4:QE 2 H4 (n2+1+3) yb ((missTo g d k).map pairC):=hyb.mono (by omega) hE24.old;have hat4:=(G.ext hE4).at_;have hpl4:=(G.ext hE4).p.len;rw[hdC_eq]at hat4;rw[hrpl]at hpl4;refine Wpr0Z (by simp[hk];rfl) ?_;refine ab (WpcondZ (t:=true) rfl (WpskipZ (ab (WpblockZ (Wps0Z (s':=⟨_,H4,n2+1+3⟩) (by
    rw[<-hH4];simp[hfc];rfl) ?_)))))
   refine Wps0Z (by
    simp[-len,hat4,hpl4];rfl) ?_
   refine WpblockZ ?_;refine WploopZ (λm1 s1=>∃(t n3:Nat) (H3:Hp) (y3:AV),t+m1=g.pubs.length/\Ext H1 n1 H3 n3/\QE 2 H3 n3 y3 ((missTo g d k++missRow g d k t).map pairC)/\(∀q o m w,y3 = .own q o m w->4*n1<=q)/\get H3 (4*(n2+1+1))=some (.cells [.nI k])/\
    s1=⟨[(2,yr),(6,y3),(7,.ref lid 0 0 0),(8,.ref (4*(n2+1+1)) 0 0 0),(17,.nI x.hs.length),(18,.nI k),(25,.nI g.pubs.length),(26,.nI t)],H3,n3⟩) (m:=g.pubs.length)
    ⟨0,n2+1+3+6,H4,yb,by omega,hE4.up (by omega),by rw[missRow,List.append_nil];exact hyb4.mono (by omega) λ_ _=>rfl,hybo,g4,by simp[fr_cons,keepFr]⟩ ?_
   rintro m1 s1 ⟨t,n3,H3,y3,htm,hE5,hy3,hy3o,g3,rfl⟩;refine ab ?_;by_cases ht:t<g.pubs.length
   ·obtain⟨p,hpt⟩:∃p,g.pubs[t]?=some p:=⟨_,List.getElem?_eq_getElem ht⟩;have hw2:IntKind.i64.wrap ((t:Int)+1)=(t:Int)+1:=IntWalk.i64_in _ (by omega);have hmr:=missRow_len g d k t;have hone:=miss_one (p1:=p1) hp2 L G (by omega) (by omega) (by omega) d hd k t p hpt (missTo g d k++missRow g d k t) (by rw[List.length_append];omega) H3 (n3+1) (hE5.up (by omega)) y3 (hy3.mono (by omega) λ_ _=>rfl) hy3o (4*(n2+1+1)) g3 x.hs.length k g.pubs.length yr (hyr.mono hE01);have hnext:missTo g d k++missRow g d k (t+1)=(missTo g d k++missRow g d k t)++(if missP g d k t p=true then[((k:Int),(t:Int)+1)] else[]):=by
     rw[missRow,missOne,hpt,List.append_assoc]
    rw[<-hnext]at hone;refine Wpr0Z (by simp[ht];rfl) ?_;refine ab (WpcondZ (t:=true) rfl (WpskipZ (ab (WpblockZ ?_))));refine Wp.mono hone ?_;rintro e ⟨fr,H6,n6⟩ ⟨rfl,y6,⟨f2,f6,f7,f8,f17,f18,f25,f26⟩,b1,b2,b3,b4⟩;simp only[]at f2 f6 f7 f8 f17 f18 f25 f26 b1 b2 b3 b4;simp only[Ex.then,Ex.inBlock];refine Wpr0Z (by
     simp[get_set,f2,f6,f7,f8,f17,f18,f25,f26,hw2];rfl) ?_
    exact⟨m1 - 1,by omega,t+1,n6+2,H6,y6,by omega,b1.up (by omega),b2.mono (by omega) λ_ _=>rfl,b3,b4,by simp[fr_cons,keepFr]⟩
   ·obtain rfl:t=g.pubs.length:=by omega
    refine WprgZ ?_;refine ab (WpcondZ (t:=false) rfl (WpexitZ ?_));simp only[Ex.then,Ex.inBlock,if_true];refine Wpr0Z (by simp[hw1];rfl) ?_;exact⟨m - 1,by omega,k+1,_,H3,y3,by omega,hE5.up (show n3<=n3+1+2 by omega),by rw[missTo];exact hy3.mono (show n3<=n3+1+2 by omega) λ_ _=>rfl,hy3o,by simp[fr_cons,keepFr]⟩
  ·obtain rfl:k=x.hs.length:=by omega
   refine WprgZ ?_;refine ab (WpcondZ (t:=false) rfl (WpexitZ ?_));simp only[Ex.then,Ex.inBlock,if_true];refine WpsgZ ?_;exact WpretZ ⟨(yb,H2,n2+1+2),⟨hE01.trans (hE3.up (show n2<=n2+1+2 by omega)),hyb.mono (show n2<=n2+1+2 by omega) λ_ _=>rfl⟩,rfl,rfl⟩
 obtain⟨⟨y,H',nx'⟩,⟨h1,h2⟩,h4⟩:=Ev.ofx hp2 L.h153 rfl rfl _ key;exact⟨H',nx',y,h1,h2,h4⟩
end
def fewT (h:Hd) (l:List Arb.Op) (a b:Nat):Bool:=fewL h l&&(decide (a<=100)&&decide (b<=100))
section
variable {p1:Nat->Option Arb.IFn} {p2:Nat->Option IFn}
structure Few (p1:Nat->Option Arb.IFn):Prop where
 h27:p1 27=some Arb.F27
 h169:p1 169=some Arb.F169
 h170:p1 170=some Arb.F170
 h204:p1 204=some Arb.F204
 h203:p1 203=some Arb.F203
 h202:p1 202=some Arb.F202
 h201:p1 201=some Arb.F201
 h171:p1 171=some Arb.F171
theorem ev159g (hp2:PrimsLe p2) (L:LibL p1 p2) (W:Few p1) (x:Hd) (l:List Arb.Op) (hl:l.length<=maxLen) (hok:∀o ∈ l,o.ok) (yd yc:AV) (a b:Nat) (hya:∀H,(Arx.len false yd).run H=some (.nI a,H)) (hyb:∀H,(Arx.len false yc).run H=some (.nI b,H)) (H:Hp) (nx:Nat) (hfr:get H (4*nx)=none) :
  Ev p1 p2 159 [.agg (hdC x),.iv (.sl 24 (l.map Arb.Op.enc)),yd,yc] H nx (.bI (fewT x l a b),Arx.set H (4*nx) (.cells (hdC x)),nx+16):=by
 obtain⟨K,hK⟩:=p_few20 W.h27 W.h169 W.h170 W.h204 W.h203 W.h202 W.h201 x l hl λo ho=>(hok o ho).x
 refine Ev.of hp2 L.h159 rfl rfl ?_;have hg:get (Arx.set H (4*nx) (Ob.cells (hdC x))) (4*nx)=some (.cells (hdC x)):=get_set_same _ _ _;generalize hH1:Arx.set H (4*nx) (Ob.cells (hdC x))=H1 at hg;have hcall:∀m,K<=m->(callM (one p1 m) (.iv (.fn 201 [])) [.agg (hdC x),.iv (.sl 24 (l.map Arb.Op.enc))]).run H1=some (.bI (fewL x l),H1):=λm hm=>by
  have e1:(one p1 m 201 [.agg (x.enc.map Arb.AV.iv),.iv (.sl 24 (l.map Arb.Op.enc))] []).bind shut=some (.bI (fewL x l)):=hK m hm;have hz:fz1 false (.agg (hdC x)) = .ret (.agg (x.enc.map Arb.AV.iv)):=by
   unfold fz1;simp only[];rw[hd_fz8];rfl
  have hz2:fz1 false (.iv (.sl 24 (l.map Arb.Op.enc))) = .ret (.iv (.sl 24 (l.map Arb.Op.enc))):=rfl;generalize fewL x l=q at *;simp[callM,callee,Mrun_bindZ,M.lift,M.run,M.mapL,hz,hz2,e1,ofA,of1,M.ok,flat,flat1,flat0,flatI,M.bind]
 unfold fewT;generalize fewL x l=q at *;generalize l.map Arb.Op.enc=scr at *;refine Wps0Z (s':=⟨[(1,.iv (.sl 24 scr)),(2,yd),(3,yc),(4,.ref (4*nx) 0 0 0)],H1,nx+2⟩) (by
  rw[<-hH1];simp[hfr]) ?_
 refine WpskZ (K:=K) (s':=⟨[(8,.bI (q&&(decide (a<=100)&&decide (b<=100))))],H1,nx+16⟩) (λn hn=>by
  have c:=hcall n hn;have h1:decide ((a:Int)<=100)=decide (a<=100):=decide_eq_decide.2 (by omega);have h2:decide ((b:Int)<=100)=decide (b<=100):=decide_eq_decide.2 (by omega);cases q
  ·simp[-len,hg,hd_take,hd_len,c]
  ·cases h3:decide (a<=100)<;>simp[-len,hya,hyb,hg,hd_take,hd_len,c,h1,h2,h3]) ?_
 exact WpretZ ⟨rfl,rfl⟩
end
section
variable {p1:Nat->Option Arb.IFn} {p2:Nat->Option IFn}
theorem ev154n (hp2:PrimsLe p2) (L:LibL p1 p2) (x:Hd) (hp:x.ps.length<=100) (hh:x.hs.length<=100) (l:List Arb.Op) (hl:l.length<=1000) (hok:∀o ∈ l,o.ok) (H:Hp) (nx:Nat) (hf:Fresh H nx) :
  ∃H' nx',Ext H nx H' nx'/\Ev p1 p2 154 [.agg (hdC x),.iv (.sl 24 (l.map Arb.Op.enc)),.iv (.nsl 3)] H nx (.iv (.nsl 1),H',nx'):=by
 have hfr:get H (4*nx)=none:=hf _ (by omega);have hE1:Ext H nx (Arx.set H (4*nx) (.cells (hdC x))) (nx+2):=(Ext.refl hf (by omega)).set (by omega) (by omega) _;have hb:get (Arx.set H (4*nx) (Ob.cells (hdC x))) (4*nx)=some (.cells (hdC x)):=get_set_same _ _ _;generalize hH0:Arx.set H (4*nx) (Ob.cells (hdC x))=H0 at hE1 hb;obtain⟨H1,n1,lid,ya,yp,yd,ra,rp,hE2,G,K1,hK1⟩:=ev177 (p1:=p1) hp2 L x hp hh l hl hok H0 (nx+2+4) (λk hk=>hE1.fresh k (by omega));have hE01:Ext H nx H1 n1:=(hE1.up (show nx+2<=nx+2+4 by omega)).trans hE2;have hfm:get H1 (4*n1)=none:=hE2.fresh _ (by omega);have hE3:Ext H1 n1 (Arx.set H1 (4*n1) (.map [])) (n1+5):=(Ext.refl hE2.fresh (show n1<=n1+5 by omega)).set (by omega) (by omega) _
 have key:Wp p1 p2 F154.body ⟨params [.agg (hdC x),.iv (.sl 24 (l.map Arb.Op.enc)),.iv (.nsl 3)] 0,H,nx⟩ (λe st=>∃r:AV×Hp×Nat,(r.1 = .iv (.nsl 1)/\Ext H nx r.2.1 r.2.2)/\Fin F154.res r e st):=by
  generalize l.map Arb.Op.enc=scr at *;refine Wps0Z (s':=⟨_,H0,nx+2⟩) (by
   rw[<-hH0];simp[hfr];rfl) ?_
  refine WpskZ (K:=K1) (λn hn=>by
   have c:=hK1 n hn;simp[hb,hd_take,hd_len,c];rfl) ?_
  refine Wps0Z (by
   simp[hfm];rfl) ?_
  refine ab (Wps0Z (by
   simp;rfl) ?_)
  refine WpblockZ ?_;refine WploopZ (λ_ s1=>s1=⟨[(1,.iv (.sl 24 scr)),(6,.iv (.nsl 1)),(7,.ref lid 0 0 0),(8,.ref (4*n1) 0 0 0),(17,.iv (.nsl 3)),(18,.nI 0),(19,.nI 0)],Arx.set H1 (4*n1) (.map []),n1+5⟩) (m:=0) (by simp[fr_cons,keepFr]) ?_;rintro m s1 rfl;refine WpsgZ ?_;refine ab (WpcondZ (t:=false) rfl (WpexitZ ?_));simp only[Ex.then,Ex.inBlock,if_true];refine WpsgZ ?_;exact WpretZ ⟨(_,_,n1+5+1+2),⟨rfl,hE01.trans (hE3.up (show n1+5<=n1+5+1+2 by omega))⟩,rfl,rfl⟩
 obtain⟨⟨y,H',nx'⟩,⟨rfl,h2⟩,h4⟩:=Ev.ofx hp2 L.h154 rfl rfl _ key;exact⟨H',nx',h2,h4⟩
theorem ev155n (hp2:PrimsLe p2) (L:LibL p1 p2) (x:Hd) (hp:x.ps.length<=100) (hh:x.hs.length<=100) (l:List Arb.Op) (hl:l.length<=1000) (hok:∀o ∈ l,o.ok) (H:Hp) (nx:Nat) (hf:Fresh H nx) :
  ∃H' nx',Ext H nx H' nx'/\Ev p1 p2 155 [.agg (hdC x),.iv (.sl 24 (l.map Arb.Op.enc)),.iv (.nsl 4)] H nx (.iv (.nsl 1),H',nx'):=by
 have hfr:get H (4*nx)=none:=hf _ (by omega);have hE1:Ext H nx (Arx.set H (4*nx) (.cells (hdC x))) (nx+2):=(Ext.refl hf (by omega)).set (by omega) (by omega) _;have hb:get (Arx.set H (4*nx) (Ob.cells (hdC x))) (4*nx)=some (.cells (hdC x)):=get_set_same _ _ _;generalize hH0:Arx.set H (4*nx) (Ob.cells (hdC x))=H0 at hE1 hb;obtain⟨H1,n1,lid,ya,yp,yd,ra,rp,hE2,G,K1,hK1⟩:=ev177 (p1:=p1) hp2 L x hp hh l hl hok H0 (nx+2+4) (λk hk=>hE1.fresh k (by omega));have hE01:Ext H nx H1 n1:=(hE1.up (show nx+2<=nx+2+4 by omega)).trans hE2;have hfm:get H1 (4*n1)=none:=hE2.fresh _ (by omega);have hfm2:get (Arx.set H1 (4*n1) (.map [])) (4*(n1+2))=none:=by rw[get_set_ne _ _ (by omega)];exact hE2.fresh _ (by omega)
 have hE3:Ext H1 n1 (Arx.set (Arx.set H1 (4*n1) (.map [])) (4*(n1+2)) (.map [])) (n1+7):=((Ext.refl hE2.fresh (show n1<=n1+7 by omega)).set (by omega) (by omega) _).set (by omega) (by omega) _;have key:Wp p1 p2 F155.body ⟨params [.agg (hdC x),.iv (.sl 24 (l.map Arb.Op.enc)),.iv (.nsl 4)] 0,H,nx⟩ (λe st=>∃r:AV×Hp×Nat,(r.1 = .iv (.nsl 1)/\Ext H nx r.2.1 r.2.2)/\Fin F155.res r e st):=by
  generalize l.map Arb.Op.enc=scr at *;refine Wps0Z (s':=⟨_,H0,nx+2⟩) (by
   rw[<-hH0];simp[hfr];rfl) ?_
  refine WpskZ (K:=K1) (λn hn=>by
   have c:=hK1 n hn;simp[hb,hd_take,hd_len,c];rfl) ?_
  refine Wps0Z (by
   simp[hfm];rfl) ?_
  refine Wps0Z (by
   simp[hfm2];rfl) ?_
  refine ab (Wps0Z (by
   simp;rfl) ?_)
  refine WpblockZ ?_;refine WploopZ (λ_ s1=>s1=⟨[(3,.ref (4*nx) 0 0 0),(6,.iv (.nsl 1)),(7,.ref lid 0 0 0),(8,.ref (4*n1) 0 0 0),(9,.ref (4*(n1+2)) 0 0 0),(21,.iv (.nsl 4)),(22,.nI 0),(23,.nI 0)],Arx.set (Arx.set H1 (4*n1) (.map [])) (4*(n1+2)) (.map []),n1+7⟩) (m:=0) (by simp[fr_cons,keepFr]) ?_;rintro m s1 rfl;refine WpsgZ ?_;refine ab (WpcondZ (t:=false) rfl (WpexitZ ?_));simp only[Ex.then,Ex.inBlock,if_true];refine WpsgZ ?_;exact WpretZ ⟨(_,_,n1+7+1+2),⟨rfl,hE01.trans (hE3.up (show n1+7<=n1+7+1+2 by omega))⟩,rfl,rfl⟩
 obtain⟨⟨y,H',nx'⟩,⟨rfl,h2⟩,h4⟩:=Ev.ofx hp2 L.h155 rfl rfl _ key;exact⟨H',nx',h2,h4⟩
end
end Arx
namespace Arx
open Go Arb
def below:Tr Ob->Nat->Nat->Nat->Bool
 |.nil,_,_,_=>true
 |.node v l r,a,c,b=>(v.isNone||decide (c<b))&&(below l (2*a) (a+c) b&&below r (2*a) (2*a+c) b)
theorem below_spec:∀(t:Tr Ob) (a c b:Nat),below t a c b=true->∀k,b<=a*k+c->t.look k=none
 |.nil,a,c,b,_,k,_=>Tr.look_nil k
 |.node v l r,a,c,b,h,k,hk=>by
  simp only[below,Bool.and_eq_true,Bool.or_eq_true,decide_eq_true_eq,Option.isNone_iff_eq_none]at h;obtain⟨h1,h2,h3⟩:=h;cases k with
  |zero=>
   rcases h1 with h1 | h1
   ·exact h1
   ·simp at hk;omega
  |succ k=>
   have hd:=Nat.div_add_mod k 2;rw[Tr.look];split
   ·rename_i he;refine below_spec l _ _ b h2 _ ?_;have:a*(k+1)=2*a*(k / 2)+a:=by
     have:k=2*(k / 2):=by omega
     rw[Nat.mul_add,Nat.mul_one]
     conv=>lhs;rw[this]
     rw[<-Nat.mul_assoc,Nat.mul_comm a 2]
    omega
   ·rename_i he;refine below_spec r _ _ b h3 _ ?_;have:a*(k+1)=2*a*(k / 2)+2*a:=by
     have:k=2*(k / 2)+1:=by omega
     rw[Nat.mul_add,Nat.mul_one]
     conv=>lhs;rw[this]
     rw[Nat.mul_add,<-Nat.mul_assoc,Nat.mul_comm a 2,Nat.mul_one];omega
    omega
theorem below_fresh {t:Hp} {n:Nat} (h:below t 1 0 (4*n)=true):Fresh t n:=λk hk=>below_spec t 1 0 (4*n) h k (by omega)
section
end
end Arx
namespace Arx
open Go Arb
attribute [local simp] evalRgn Option.map_some evalOps step wants isS osem Mrun_bindZ M.mapL M.run M.ok M.fresh M.write M.look M.lift putD ev fr_cons fr_nil keepFr lset_nil lset_cons get_set_same bin binM intBin strBin mk params cellsM load obRead fadr fld isl iarr xarr idx len valid slc rowLen bound store splice un callee Option.bind_some M.bind putAll
section
variable {p1:Nat->Option Arb.IFn} {p2:Nat->Option IFn}
def twiceT (s:Nat) (p1:Nat->Option Arb.IFn) (p2:Nat->Option IFn) (K:Nat):Bool:=
 match run2 p1 p2 K 158 [] .nil s with
 |some (.iv (.bool true),h,n)=>below h 1 0 (4*n)&&(get h 4).isNone&&Nat.ble s n&&(match run2 p1 p2 K 158 [] h (n+18)with
  |some (.iv (.bool true),h2,_)=>(get h2 4).isNone&&(get h2 (4*n)).isNone
  |_=>false)
 |_=>false
theorem twiceT_spec {s K:Nat} (ht:twiceT s p1 p2 K=true):∃h n h2 n2,run2 p1 p2 K 158 [] .nil s=some (.bI true,h,n)/\Fresh h n/\get h 4=none/\s<=n/\run2 p1 p2 K 158 [] h (n+18)=some (.bI true,h2,n2)/\get h2 4=none/\get h2 (4*n)=none:=by
 unfold twiceT at ht;split at ht
 ·rename_i h n e;simp only[Bool.and_eq_true,Option.isNone_iff_eq_none,Nat.ble_eq]at ht;obtain⟨⟨⟨h1,h4⟩,h13⟩,h3⟩:=ht;split at h3
  ·rename_i h2 n2 e2;simp only[Bool.and_eq_true,Option.isNone_iff_eq_none]at h3;exact⟨h,n,h2,n2,e,below_fresh h1,h4,h13,e2,h3.1,h3.2⟩
  ·cases h3
 ·cases ht
theorem awakeT_with (hp2:PrimsLe p2) (hm:∀n,MoreX (run2 p1 p2 n)) {K:Nat} {H h:Hp} {nx n:Nat} {r:AV} (e:run2 p1 p2 K 158 [] H nx=some (r,h,n)) (qs:List (Nat×Ob)) (hq:Off qs h):Ev p1 p2 158 [] (app_ qs H) nx (r,app_ qs h,n):=
 Ev.at hp2 ((hm K _ _ _ _ _ _ _ e).2 qs hq)
theorem fewT_len {x:Hd} {l:List Arb.Op} {a b:Nat} (h:fewT x l a b=true):x.ps.length<=100/\x.hs.length<=100/\l.length<=120/\a<=100/\b<=100:=by
 unfold fewT fewL Hd.few at h;simp only[Bool.and_eq_true,decide_eq_true_eq]at h;omega
end
end Arx
namespace Arx
open Go Arb
theorem fit_ints {r:List IV} (h:FitL [.sl [.int .i64],.sl [.int .i64],.int .i64,.int .u64] r):∃x:Hd,r=x.enc:=by
 obtain⟨a,_,rfl,ha,h⟩:=h.one;obtain⟨b,_,rfl,hb,h⟩:=h.one;obtain⟨c,_,rfl,hc,h⟩:=h.one;obtain⟨d,_,rfl,hd,h⟩:=h.one;obtain rfl:=h.none;obtain⟨ra,rfl, -,ha'⟩:=fit_sl ha;obtain⟨rb,rfl, -,hb'⟩:=fit_sl hb;obtain⟨n,rfl, -⟩:=fit_int hc;obtain⟨m,rfl, -⟩:=fit_int hd;have key:∀l:List (List IV),(∀r ∈ l,FitL [.int .i64] r)->∃q:List Int,l=q.map num1:=by
  intro l
  induction l with
  |nil=>exact λ_=>⟨[],rfl⟩
  |cons r l ih=>
   intro hl;obtain⟨q,rfl⟩:=ih λr hr=>hl r (List.mem_cons_of_mem _ hr)
   obtain⟨k,rfl, -⟩:=fit_num (hl r (List.mem_cons_self ..));exact⟨k::q,rfl⟩
 obtain⟨p,rfl⟩:=key ra ha';obtain⟨q,rfl⟩:=key rb hb';exact⟨⟨p,q,n,m⟩,rfl⟩
theorem arg_hd {x:AV} (h:ArgIs true shHd x):∃q:Hd,x = .agg (hdC q):=by
 obtain⟨xs,h,rfl⟩:=h;obtain⟨q,rfl⟩:=fit_ints h;exact⟨q,rfl⟩
theorem fit_rows {α:Type} {enc:α->List IV} {ok:α->Prop} {ss:List Sh} (hf:∀r,FitL ss r->∃a,r=enc a/\ok a):∀l:List (List IV),(∀r ∈ l,FitL ss r)->∃q:List α,l=q.map enc/\∀a ∈ q,ok a
 |[],_=>⟨[],rfl,λa h=>by cases h⟩
 |r::l,h=>by
  obtain⟨a,rfl,ha⟩:=hf r (h r (List.mem_cons_self ..));obtain⟨q,rfl,hq⟩:=fit_rows hf l λr hr=>h r (List.mem_cons_of_mem _ hr)
  refine⟨a::q,rfl,λb hb=>?_⟩;rcases List.mem_cons.1 hb with rfl | hb
  ·exact ha
  ·exact hq b hb
theorem arg_rows {α:Type} {enc:α->List IV} {ok:α->Prop} {ss:List Sh} (hf:∀r,FitL ss r->∃a,r=enc a/\ok a) {x:AV} (h:ArgIs false [.sl ss] x):∃q:List α,x = .iv (.sl ss.length (q.map enc))/\q.length<=maxLen/\∀a ∈ q,ok a:=by
 obtain⟨xs,h,y,rfl,rfl⟩:=h;obtain⟨z,_,e,hz,h⟩:=h.one;obtain rfl:=h.none;simp only[List.cons.injEq,and_true]at e;subst e;obtain⟨rows,rfl,hl,hr⟩:=fit_sl hz;obtain⟨q,rfl,hq⟩:=fit_rows hf rows hr;exact⟨q,rfl,by rw[List.length_map]at hl;exact hl,hq⟩
end Arx
namespace Arb
open Go
theorem emptyS_iff {x:S}:emptyS x=true↔x.a=false/\x.i=[]/\x.c=false/\x.s=[]:=by
 simp[emptyS]
theorem anyB_iff {f:S->Bool} {b:B}:anyB f b=false↔∀i,i<4->f (b.get i)=false:=by
 constructor
 ·intro h i hi;simp only[anyB,Bool.or_eq_false_iff]at h
  match i,hi with
  |0,_=>exact h.1
  |1,_=>exact h.2.1
  |2,_=>exact h.2.2.1
  |3,_=>exact h.2.2.2
 ·exact anyB_false
theorem or_nonempty {x y:S} (hx:x.fine) (h:emptyS x=false) (hin:∀n,inR (orS x y).i n↔inR x.i n\/inR y.i n):emptyS (orS x y)=false:=by
 refine Bool.eq_false_iff.2 λhe=>?_
 obtain⟨e1,e2,e3,e4⟩:=emptyS_iff.1 he;have e1:(x.a||y.a)=false:=e1;have e3:(x.c||y.c)=false:=e3;rw[Bool.or_eq_false_iff]at e1 e3;refine Bool.eq_false_iff.1 h (emptyS_iff.2 ⟨e1.1,?_,e3.1,?_⟩)
 ·cases hxi:x.i with
  |nil=>rfl
  |cons p r=>
   have hp:=hx.i.1 p (by rw[hxi];simp);have:=(hin p.1).2 (.inl ⟨p,by rw[hxi];simp,Int.le_refl _,hp⟩);rw[e2]at this;exact(inR_nil this).elim
 ·cases hxs:x.s with
  |nil=>rfl
  |cons t r=>
   have h1:=or_str x y t;have h2:hasStr x t=true:=by unfold hasStr;rw[e3.1,hasT_iff.2 (by rw[hxs];simp)];rfl
   rw[h2,Bool.true_or]at h1;unfold hasStr at h1;rw[e4,show(orS x y).c=false from(Bool.or_eq_false_iff.2 e3),show hasT [] t=false from rfl]at h1;exact absurd h1 (by decide)
end Arb
namespace Arb
open Go
attribute [local simp] evalRgn Option.map_some evalOps step wants osem Mrun_bindZ M.mapL M.run M.ok M.fresh M.write M.look M.lift putD Arb.set ev Arb.get keepFr bin intBin strBin mk params cellsM load obRead fadr fld isl iarr xarr idx len valid slc bound store splice nilc un eqs eq0 evalFeet footOf M.foot orderOk apartAll apart1 clash meets callM fcallM callee fz1 fzC fz flat flat1 flat0 flatI Option.bind_some putAll M.bind
section
variable {prog:Nat->Option IFn}
end
section
variable {prog:Nat->Option IFn}
theorem Ans.ofx {f:Nat} {fn:IFn} (hf:prog f=some fn) (hcl:fn.cl=none) {args:List AV} (hn:args.length=fn.np) (P:AV->Prop) (h:Wp prog fn.body ⟨params args 0,[],1000⟩ (λe s=>∃y,P y/\FinS fn.res y e s)):∃y,P y/\Ans prog f args y:=by
 obtain⟨K,ex,s',h,y,hy,q⟩:=h;exact⟨y,hy,Ans.of hf hcl hn ⟨K,ex,s',h,q⟩⟩
theorem strB_size (l:List Int):(strB l).size=l.length:=by simp[strB,ByteArray.size]
end
def digs (u:Nat):List Int:=if u<10 then[48+(u:Int)] else digs (u / 10)++[48+((u % 10:Nat):Int)]
termination_by u
decreasing_by omega
theorem digs_lt {u:Nat} (h:u<10):digs u=[48+(u:Int)]:=by rw[digs,if_pos h]
theorem digs_ge {u:Nat} (h:¬u<10):digs u=digs (u / 10)++[48+((u % 10:Nat):Int)]:=by rw[digs,if_neg h]
def valD (b:List UInt8):Nat:=b.foldl (λa c=>a*10+(c.toNat - 48)) 0
theorem strB_append (a b:List Int):strB a++strB b=strB (a++b):=by
 apply ByteArray.ext;simp[strB,ByteArray.data_append]
theorem val_one (k:Nat) (h:k<10):(UInt8.ofNat (48+(k:Int)).toNat).toNat - 48=k:=by
 have:(48+(k:Int)).toNat=48+k:=by omega
 rw[this,UInt8.toNat_ofNat'];omega
theorem digs_val:∀u:Nat,valD (strB (digs u)).data.toList=u:=by
 intro u
 induction u using Nat.strongRecOn with
 |_ u ih=>
  by_cases h:u<10
  ·rw[digs_lt h];simp only[strB,List.map_cons,List.map_nil,valD,List.foldl_cons,List.foldl_nil,Nat.zero_mul,Nat.zero_add];exact val_one u h
  ·have hi:=ih (u / 10) (by omega);rw[digs_ge h];simp only[strB,valD,List.map_append,List.map_cons,List.map_nil,List.foldl_append,List.foldl_cons,List.foldl_nil]at hi ⊢;rw[hi,val_one (u % 10) (by omega)];omega
theorem digs_inj {u v:Nat} (h:strB (digs u)=strB (digs v)):u=v:=by
 rw[<-digs_val u,<-digs_val v,h]
theorem digs_len:∀(k u:Nat),u<10 ^ (k+1)->(digs u).length<=k+1
 |0,u,h=>by rw[digs_lt (by omega)];simp
 |k+1,u,h=>by
  by_cases h':u<10
  ·rw[digs_lt h'];simp
  ·have:=digs_len k (u / 10) (by rw[Nat.div_lt_iff_lt_mul (by omega)];rw[Nat.pow_succ]at h;exact h);rw[digs_ge h'];simp;omega
theorem pigeon {α:Type} [DecidableEq α] {f:Nat->α} (hf:∀i j,f i=f j->i=j):∀(n:Nat) (L:List α),(∀i,i<n->f i ∈ L)->n<=L.length
 |0,_,_=>Nat.zero_le _
 |n+1,L,h=>by
  have hm:=h n (Nat.lt_succ_self n);have:=pigeon hf n (L.erase (f n)) λi hi=>(List.mem_erase_of_ne (λe=>by have:=hf _ _ e;omega)).2 (h i (by omega))
  rw[List.length_erase_of_mem hm]at this;have:=List.length_pos_of_mem hm;omega
section
variable {prog:Nat->Option IFn}
set_option maxHeartbeats 2000000 in
theorem x_digits (h:prog 114=some F114):∀u:Nat,u<=100000->Ans prog 114 [.iv (.int .u64 u)] (.iv (.str (strB (digs u)))):=by
 intro u
 induction u using Nat.strongRecOn with
 |_ u ih=>
  intro hu;refine Ans.of h rfl rfl (WpsgZ ?_);refine ab (WpsgZ ?_);refine WpcondZ rfl ?_;cases hd:decide ((u:Int)<10)with
  |true=>
   have hd:=of_decide_eq_true hd;have w1:IntKind.wrap .u64 (48+(u:Int))=48+(u:Int):=by rw[IntKind.wrap_u64];omega
   have w2:IntKind.wrap .u8 (48+(u:Int))=48+(u:Int):=by simp[IntKind.wrap,IntKind.bits,IntKind.signed];omega
   refine Wps0Z (by simp[setAll,elems,bytesOf,w1,w2];rfl) ?_;refine WpretZ ?_;rw[digs_lt (by omega)];rfl
  |false=>
   have hd:=of_decide_eq_false hd;obtain⟨K,hK⟩:=ih (u / 10) (by omega) (by omega);have hw2:((u / 10:Nat):Int)=(u:Int) / 10:=by omega
   have hw3:((u % 10:Nat):Int)=(u:Int) % 10:=by omega
   have hw:IntKind.wrap .u64 ((u:Int) / 10)=(u:Int) / 10:=by rw[IntKind.wrap_u64];omega
   have hw4:IntKind.wrap .u64 ((u:Int) % 10)=(u:Int) % 10:=by rw[IntKind.wrap_u64];omega
   have w1:IntKind.wrap .u64 (48+(u:Int) % 10)=48+(u:Int) % 10:=by rw[IntKind.wrap_u64];omega
   have w2:IntKind.wrap .u8 (48+(u:Int) % 10)=48+(u:Int) % 10:=by simp[IntKind.wrap,IntKind.bits,IntKind.signed];omega
   have htm:(u:Int).tmod 10=(u:Int) % 10:=Int.tmod_eq_emod_of_nonneg (by omega);refine WpskipZ (ab ?_);have hsl:(digs (u / 10)).length<=10:=by have:=digs_len 9 (u / 10) (by omega);omega
   have hsz:∀x:Int,(strB (digs (u / 10))).size+(strB [x]).size<=4611686018427387904:=λx=>by rw[strB_size,strB_size,List.length_singleton];omega
   refine WprgnZ (K:=K) (λn hn=>by
    have e1:=hK n hn;rw[hw2]at e1;generalize evalF prog n=g at e1;simp[setAll,elems,bytesOf,hw,hw4,htm,w1,w2,e1,hsz];rfl) ?_
   refine WpretZ ?_;rw[digs_ge (by omega),<-strB_append,hw3];rfl
theorem x_decimal (h114:prog 114=some F114) (h:prog 113=some F113) (u:Nat) (hu:u<=100000):Ans prog 113 [.nI u] (.iv (.str (strB (digs u)))):=by
 obtain⟨K,hK⟩:=x_digits h114 u hu;have hw:IntKind.wrap .u64 (u:Int)=u:=by rw[IntKind.wrap_u64];omega
 have hno:¬(u:Int)<0:=by omega
 refine Ans.of h rfl rfl (WpsgZ ?_);refine ab (Wps0Z (by simp[hno];rfl) ?_);refine WpcondZ rfl (WpskipZ (WpskZ (K:=K) (λn hn=>by
  have e1:=hK n hn;generalize evalF prog n=g at e1;simp[hw,e1];rfl) ?_))
 exact WpretZ rfl
def tilde (n:Nat):ByteArray:=⟨#[126]⟩++strB (digs n)
theorem tilde_eq (n:Nat):tilde n=strB (126::digs n):=by
 have:(⟨#[126]⟩:ByteArray)=strB [126]:=rfl;rw[tilde,this,strB_append];rfl
theorem tilde_inj {i j:Nat} (h:tilde i=tilde j):i=j:=by
 apply digs_inj;rw[tilde_eq,tilde_eq]at h;have:=congrArg ByteArray.data h;apply ByteArray.ext;simp only[strB]at this ⊢;simpa using this
theorem tilde_size {n:Nat} (h:n<100000):(tilde n).size<=8:=by
 rw[tilde_eq,strB_size];have:=digs_len 4 n (by omega);simp;omega
def totS (l:List S):Nat:=(l.flatMap S.s).length
set_option maxHeartbeats 2000000 in
theorem x_fresh (h49:prog 49=some F49) (h114:prog 114=some F114) (h113:prog 113=some F113) (h:prog 111=some F111) (l:List S) (hl:l.length<=maxLen) (hL:∀x ∈ l,x.s.length<=maxLen) (hT:totS l<100000) :
  ∃y,(∃t:ByteArray,y = .iv (.str t)/\t.size<=8/\∀x ∈ l,hasT x.s t=false)/\Ans prog 111 [sets l,.iv (.str ⟨#[126]⟩)] y:=by
 have hu:(tilde 0).size<=8:=tilde_size (by omega);generalize hs:(⟨#[126]⟩:ByteArray)=s;have hss:s.size=1:=by rw[<-hs];rfl
 refine Ans.ofx h rfl rfl _ (WpsgZ ?_);refine ab (WpsgZ ?_);refine WpblockZ ?_;refine WprangeZ 100000 (λi=>⟨[(0,sets l),(1,.iv (.str s)),(5,.nI i)],[],1128⟩) (λi=>∀j,j<i->(l.any λx=>hasT x.s (tilde j))=true) rfl (λj h=>absurd h (Nat.not_lt_zero _)) ?_ ?_
 ·intro i hi hg;have hi':(i:Int)<100000:=by omega
  have hwi:IntKind.wrap .i64 ((i:Int)+1)=(i:Int)+1:=IntWalk.i64_in _ (by omega);obtain⟨K,hK⟩:=x_decimal h114 h113 i (by omega);have hdl:(digs i).length<=10:=by have:=digs_len 9 i (by omega);omega
  have hsz:s.size+(strB (digs i)).size<=4611686018427387904:=by rw[strB_size];omega
  have htl:s++strB (digs i)=tilde i:=by rw[<-hs];rfl
  refine ab (Wps0Z (by simp[hi'];rfl) ?_);refine WpcondZ rfl (WpskipZ (ab (WpblockZ (WpskZ (K:=K) (λn hn=>by
   have e1:=hK n hn;generalize evalF prog n=g at e1;simp[hsz,e1,htl];rfl) ?_))))
  refine WpsgZ ?_;refine ab (WpsgZ ?_);refine WpblockZ ?_;have htz:(tilde i).size<=8:=tilde_size hi;generalize ht:tilde i=t at htz;refine WprangeZ l.length (λj=>⟨[(0,sets l),(1,.iv (.str s)),(5,.nI i),(6,.iv (.str t)),(7,.bI ((l.take j).any λx=>hasT x.s t)),(8,.nI j)],[],1704⟩) (λ_=>True) (by simp[keepFr,get]) trivial ?_ ?_
  ·intro j hj _;obtain⟨x,hx⟩:∃x,l[j]?=some x:=⟨_,List.getElem?_eq_getElem hj⟩;obtain⟨K2,hK2⟩:=p_hasT h49 x.s t (hL x (List.mem_of_getElem? hx));rw[take_succ_any hx];generalize((l.take j).any λx=>hasT x.s t)=fo;refine ab (Wps0Z (by simp[sets,hj];rfl) ?_);refine WpcondZ rfl (WpskipZ (ab (WpblockZ ?_)));refine WprgnZ (K:=K2) (s':=⟨[(0,sets l),(1,.iv (.str s)),(5,.nI i),(6,.iv (.str t)),(7,.bI (fo||hasT x.s t)),(8,.nI j)],[],2664⟩) (λn hn=>by
    have e1:=hK2 n hn;generalize evalF prog n=g at e1;cases fo<;>simp[sets,hx,S.enc,e1]) ?_
   simp only[Ex.then,Ex.inBlock];refine WprgZ ?_;exact⟨by simp[again,keepFr,get,nrm,sets,wrap_succ hj hl],trivial⟩
  ·intro _;refine ab (Wps0Z (by simp[sets];rfl) ?_);refine WpcondZ rfl (WpexitZ ?_);simp only[Ex.then,Ex.inBlock,if_true];refine WpsgZ ?_;refine WpcondZ rfl ?_;cases hf:l.any λx=>hasT x.s t with
   |false=>
    refine WpsgZ ?_;exact WpretZ ⟨_,⟨t,rfl,htz,λx hx=>by simpa using List.any_eq_false.1 hf x hx⟩,rfl⟩
   |true=>
    refine WpskipZ ?_;simp only[Ex.then,Ex.inBlock];refine WprgZ ?_;refine⟨by simp[again,keepFr,get,nrm,sets,hwi],λj hj=>?_⟩;by_cases hji:j=i
    ·subst hji;rw[ht];exact hf
    ·exact hg j (by omega)
 ·intro hg;exfalso;have:=pigeon (λi j=>tilde_inj) 100000 (l.flatMap S.s) λi hi=>by
   obtain⟨x,hx,hxt⟩:=List.any_eq_true.1 (hg i hi);exact List.mem_flatMap.2 ⟨x,hx,hasT_iff.1 hxt⟩
  unfold totS at hT;omega
end
def vI (n:Int):V:=⟨1,n,⟨#[]⟩⟩
def vS (t:ByteArray):V:=⟨2,0,t⟩
section
variable {prog:Nat->Option IFn}
end
def ptR (r:Int×Int):List V:=[vI r.1,vI r.2]++((if -9223372036854775808<r.1 then[vI (IntKind.wrap .i64 (r.1 - 1))] else[])++(if r.2<9223372036854775807 then[vI (IntKind.wrap .i64 (r.2+1))] else[]))
def ptS (x:S):List V:=x.i.flatMap ptR++x.s.map vS
def pt0:List V:=[⟨0,0,⟨#[]⟩⟩,vI (-9223372036854775808),vI 9223372036854775807,vI 0]
def points (l:List S) (t:ByteArray):List V:=pt0++l.flatMap ptS++[vS t]
theorem ptR_len (r:Int×Int):(ptR r).length<=4:=by unfold ptR;split<;>split<;>simp
theorem flat_len {α β:Type} {f:α->List β} {c:Nat} (h:∀x,(f x).length<=c):∀l:List α,(l.flatMap f).length<=c*l.length
 |[]=>by simp
 |x::l=>by have:=flat_len h l;have:=h x;rw[List.flatMap_cons,List.length_append,List.length_cons,Nat.mul_add];omega
theorem take_succ_flat {α β:Type} {f:α->List β} {l:List α} {i:Nat} {x:α} (h:l[i]?=some x):(l.take (i+1)).flatMap f=(l.take i).flatMap f++f x:=by
 rw[List.take_add_one,h];simp
theorem ptS_len {x:S} {c:Nat} (h:x.i.length<=c/\x.s.length<=c):(ptS x).length<=5*c:=by
 have:=flat_len ptR_len x.i;unfold ptS;rw[List.length_append,List.length_map];omega
theorem takeS_len {c:Nat}:∀(i:Nat) (l:List S),(∀x ∈ l,x.i.length<=c/\x.s.length<=c)->((l.take i).flatMap ptS).length<=5*c*i
 |0,_,_=>by simp
 |i+1,[],_=>by simp
 |i+1,x::l,h=>by
  have:=takeS_len i l λy hy=>h y (List.mem_cons_of_mem _ hy)
  have:=ptS_len (h x (List.mem_cons_self ..));rw[List.take_succ_cons,List.flatMap_cons,List.length_append,Nat.mul_add];omega
section
variable {prog:Nat->Option IFn}
set_option maxHeartbeats 8000000 in
theorem x_points (h49:prog 49=some F49) (h114:prog 114=some F114) (h113:prog 113=some F113) (h111:prog 111=some F111) (h:prog 110=some F110) (l:List S) (hl:l.length<=2) (hL:∀x ∈ l,x.i.length<=2000/\x.s.length<=2000) :
  ∃y,(∃t:ByteArray,y = .iv (.sl 3 ((points l t).map V.enc))/\(points l t).length<=100000/\t.size<=8/\∀x ∈ l,hasT x.s t=false)/\Ans prog 110 [sets l] y:=by
 have hT:totS l<100000:=by
  have:∀l:List S,(∀x ∈ l,x.i.length<=2000/\x.s.length<=2000)->(l.flatMap S.s).length<=2000*l.length:=by
   intro l
   induction l with
   |nil=>intro _;simp
   |cons x l ih=>
    intro h;have:=ih λy hy=>h y (List.mem_cons_of_mem _ hy)
    have:=(h x (List.mem_cons_self ..)).2;rw[List.flatMap_cons,List.length_append,List.length_cons];omega
  have:=this l hL;unfold totS;omega
 obtain⟨_,⟨ft,rfl,hft1,hft2⟩,KF,hKF⟩:=x_fresh h49 h114 h113 h111 l (by unfold maxLen;omega) (λx hx=>by have:=(hL x hx).2;unfold maxLen;omega) hT;refine Ans.ofx h rfl rfl _ (WpsgZ ?_);refine Wps0Z (by simp[setAll];rfl) ?_;refine WpsgZ ?_;refine ab (WpsgZ ?_);refine WpblockZ ?_;refine WploopZ (λm s1=>∃(i:Nat) (qs:List V),i+m=l.length/\qs=pt0++(l.take i).flatMap ptS/\s1=⟨[(0,sets l),(3,.own 1320 0 qs.length 0),(4,.iv (.str ⟨#[126]⟩)),(5,.nI i)],[(1000,.buf 0 3 []),(1320,.buf 0 3 (qs.map V.enc))],1576⟩) (m:=l.length) ⟨0,pt0,by omega,by simp,rfl⟩ ?_;rintro m s1 ⟨i,qs,hm,hqe,rfl⟩;have hq:qs.length<=4+10000*i:=by
  have:=takeS_len i l hL;have h4:pt0.length=4:=rfl;rw[hqe,List.length_append];omega
 have hwi:IntKind.wrap .i64 ((i:Int)+1)=(i:Int)+1:=IntWalk.i64_in _ (by omega);cases m with
 |zero=>
  have hno:¬(i:Int)<l.length:=by omega
  have hr1:qs.length+1<=1073741824:=by omega
  refine ab (Wps0Z (s':=⟨[(0,sets l),(3,.own 1320 0 qs.length 0),(4,.iv (.str ⟨#[126]⟩)),(5,.nI i),(17,.bI false)],[(1000,.buf 0 3 []),(1320,.buf 0 3 (qs.map V.enc))],1832⟩) (by simp[sets];omega) ?_);refine WpcondZ rfl (WpexitZ ?_);simp only[Ex.then,Ex.inBlock,if_true];have htk:∀a,List.take qs.length (qs.map V.enc)++[a]=qs.map V.enc++[a]:=λa=>by rw[take_map_len]
  refine WpskZ (K:=KF) (λn hn=>by
   have e1:=hKF n hn;simp only[sets]at e1;generalize evalF prog n=g at e1;simp[sets,setAll,app,elems,roomy,hr1,take_map_len,e1];rfl) ?_
  have hil:i=l.length:=by omega
  rw[hil,List.take_length]at hqe;refine WpretZ ⟨_,⟨ft,rfl,by rw[points,<-hqe];simp;omega,hft1,hft2⟩,?_⟩;rw[points,<-hqe];have ht1:List.take (qs.length+1) (qs.map V.enc++[[.int .i64 2,.int .i64 0,.str ft]])=qs.map V.enc++[[.int .i64 2,.int .i64 0,.str ft]]:=List.take_of_length_le (by simp);simp[FinS,F110,resAll,resM,outA,ev,get,M.look,M.bind,M.run,Mrun_bindZ,M.ok,shut,fzA,fz1,fzC,fz,M.write,M.lift,vS,V.enc]
  first | exact ht1 | exact⟨ht1⟩|skip
 |succ m=>
  have hi:i<l.length:=by omega
  have hi':(i:Int)<l.length:=by omega
  obtain⟨x,hx⟩:∃x,l[i]?=some x:=⟨_,List.getElem?_eq_getElem hi⟩;obtain⟨hxi,hxs⟩:=hL x (List.mem_of_getElem? hx);refine ab (Wps0Z (s':=⟨[(0,sets l),(3,.own 1320 0 qs.length 0),(4,.iv (.str ⟨#[126]⟩)),(5,.nI i),(17,.bI true)],[(1000,.buf 0 3 []),(1320,.buf 0 3 (qs.map V.enc))],1832⟩) (by simp[sets,hi]) ?_);refine WpcondZ rfl (WpskipZ (ab (WpblockZ (ab (WpsgZ ?_)))));refine WpblockZ ?_;have hq0:=hq;generalize hq9:qs=q0 at hq0 hqe hq;refine WploopZ (λm s1=>∃(k:Nat) (qs:List V),k+m=x.i.length/\qs=q0++(x.i.take k).flatMap ptR/\s1=⟨[(0,sets l),(3,.own 1320 0 qs.length 0),(4,.iv (.str ⟨#[126]⟩)),(5,.nI i),(6,.nI k)],[(1000,.buf 0 3 []),(1320,.buf 0 3 (qs.map V.enc))],1896⟩) (m:=x.i.length) ⟨0,q0,by omega,by simp,by simp[keepFr,get]⟩ ?_
  clear hq hq9;rintro m2 s2 ⟨k,qs,hk,hqk,rfl⟩;have hq:qs.length<=4+10000*i+4*k:=by
   have:=flat_len ptR_len (x.i.take k);have:(x.i.take k).length<=k:=List.length_take_le _ _;rw[hqk,List.length_append];omega
  have hwk:IntKind.wrap .i64 ((k:Int)+1)=(k:Int)+1:=IntWalk.i64_in _ (by omega);cases m2 with
  |zero=>
   have hno:¬(k:Int)<x.i.length:=by omega
   refine ab (Wps0Z (s':=⟨[(0,sets l),(3,.own 1320 0 qs.length 0),(4,.iv (.str ⟨#[126]⟩)),(5,.nI i),(6,.nI k),(27,.bI false)],[(1000,.buf 0 3 []),(1320,.buf 0 3 (qs.map V.enc))],2408⟩) (by simp[sets,hx,S.enc];omega) ?_);refine WpcondZ rfl (WpexitZ ?_);simp only[Ex.then,Ex.inBlock,if_true];refine WpsgZ ?_;refine WpblockZ ?_;have hkx:k=x.i.length:=by omega
   rw[hkx,List.take_length]at hqk;have hq1:qs.length<=4+10000*i+8000:=by omega
   generalize hq9:qs=q1 at hqk hq hq1;refine WploopZ (λm s1=>∃(k:Nat) (qs:List V),k+m=x.s.length/\qs=q1++(x.s.take k).map vS/\s1=⟨[(0,sets l),(3,.own 1320 0 qs.length 0),(4,.iv (.str ⟨#[126]⟩)),(5,.nI i),(8,.nI k)],[(1000,.buf 0 3 []),(1320,.buf 0 3 (qs.map V.enc))],2472⟩) (m:=x.s.length) ⟨0,q1,by omega,by simp,by simp[keepFr,get]⟩ ?_;clear hq hk hwk hno hkx hq9;rintro m3 s3 ⟨k,qs,hk,hqm,rfl⟩;have hq:qs.length<=4+10000*i+8000+k:=by
    have:(x.s.take k).length<=k:=List.length_take_le _ _;rw[hqm,List.length_append,List.length_map];omega
   have hwk:IntKind.wrap .i64 ((k:Int)+1)=(k:Int)+1:=IntWalk.i64_in _ (by omega);cases m3 with
   |zero=>
    have hno:¬(k:Int)<x.s.length:=by omega
    refine ab (Wps0Z (s':=⟨[(0,sets l),(3,.own 1320 0 qs.length 0),(4,.iv (.str ⟨#[126]⟩)),(5,.nI i),(8,.nI k),(74,.bI false)],[(1000,.buf 0 3 []),(1320,.buf 0 3 (qs.map V.enc))],2984⟩) (by simp[sets,hx,S.enc];omega) ?_);refine WpcondZ rfl (WpexitZ ?_);simp only[Ex.then,Ex.inBlock,if_true];refine WprgZ ?_;have hks:k=x.s.length:=by omega
    rw[hks,List.take_length,hqk,hqe,List.append_assoc,List.append_assoc,<-ptS,<-take_succ_flat hx]at hqm;exact⟨m,by omega,i+1,qs,by omega,hqm,by simp[again,keepFr,get,nrm,nrmO,sets,hwi]⟩
   |succ m3=>
    have hk1:k<x.s.length:=by omega
    have hk2:(k:Int)<x.s.length:=by omega
    have hr1:qs.length+1<=1073741824:=by omega
    obtain⟨t,ht⟩:∃t,x.s[k]?=some t:=⟨_,List.getElem?_eq_getElem hk1⟩;refine ab (Wps0Z (by simp[sets,hx,S.enc,hk1];rfl) ?_);refine WpcondZ rfl (WpskipZ (ab (WpblockZ ?_)));refine Wpr0Z (by simp[sets,hx,S.enc,ht,st1,setAll,app,elems,roomy,hr1,take_map_len];rfl) ?_;simp only[Ex.then,Ex.inBlock];refine WprgZ ?_;exact⟨m3,by omega,k+1,qs++[vS t],by omega,by rw[hqm,List.take_add_one,ht];simp,by simp[again,keepFr,get,nrm,nrmO,sets,hwk,V.enc,vS]⟩
  |succ m2=>
   rename_i m;have hk1:k<x.i.length:=by omega
   obtain⟨r,hr⟩:∃r,x.i[k]?=some r:=⟨_,List.getElem?_eq_getElem hk1⟩;have hr1:qs.length+1<=1073741824:=by omega
   have hr2:qs.length+2<=1073741824:=by omega
   have hr3:qs.length+3<=1073741824:=by omega
   have hr4:qs.length+4<=1073741824:=by omega
   have ht2:∀a b,List.take (qs.length+2) (qs.map V.enc++[a,b])=qs.map V.enc++[a,b]:=λa b=>List.take_of_length_le (by simp)
   have ht3:∀a b c,List.take (qs.length+3) (qs.map V.enc++[a,b,c])=qs.map V.enc++[a,b,c]:=λa b c=>List.take_of_length_le (by simp)
   refine ab (Wps0Z (by simp[sets,hx,S.enc,hk1];rfl) ?_);refine WpcondZ rfl (WpskipZ (ab (WpblockZ (Wps0Z (by simp[sets,hx,S.enc,hr,rng];rfl) ?_))));refine Wps0Z (by simp[setAll,app,elems,roomy,take_map_len,hr2];rfl) ?_;refine ab (WpsgZ ?_);refine WpcondZ rfl ?_;cases h1:decide (-9223372036854775808<r.1)with
   |true=>
    refine Wpr0Z (by simp[setAll,app,elems,roomy,hr3,ht2];rfl) ?_;simp only[Ex.then];refine WpsgZ ?_;refine WpcondZ rfl ?_;cases h2:decide (r.2<9223372036854775807)with
    |true=>
     refine Wpr0Z (by simp[setAll,app,elems,roomy,hr4,ht3];rfl) ?_;simp only[Ex.then,Ex.inBlock];refine WprgZ ?_;exact⟨m2,by omega,k+1,qs++[vI r.1,vI r.2,vI (IntKind.wrap .i64 (r.1 - 1)),vI (IntKind.wrap .i64 (r.2+1))],by omega,by rw[hqk,take_succ_flat hr,ptR];simp at h1 h2;simp[h1,h2];try omega,by simp[again,keepFr,get,nrm,nrmO,sets,hwk,V.enc,vI];try omega⟩
    |false=>
     refine WpskipZ ?_;simp only[Ex.then,Ex.inBlock];refine WprgZ ?_;exact⟨m2,by omega,k+1,qs++[vI r.1,vI r.2,vI (IntKind.wrap .i64 (r.1 - 1))],by omega,by rw[hqk,take_succ_flat hr,ptR];simp at h1 h2;simp[h1,h2];try omega,by simp[again,keepFr,get,nrm,nrmO,sets,hwk,V.enc,vI];try omega⟩
   |false=>
    refine WpskipZ ?_;simp only[Ex.then];refine WpsgZ ?_;refine WpcondZ rfl ?_;cases h2:decide (r.2<9223372036854775807)with
    |true=>
     refine Wpr0Z (by simp[setAll,app,elems,roomy,hr3,ht2];rfl) ?_;simp only[Ex.then,Ex.inBlock];refine WprgZ ?_;exact⟨m2,by omega,k+1,qs++[vI r.1,vI r.2,vI (IntKind.wrap .i64 (r.2+1))],by omega,by rw[hqk,take_succ_flat hr,ptR];simp at h1 h2;simp[h1,h2];try omega,by simp[again,keepFr,get,nrm,nrmO,sets,hwk,V.enc,vI];try omega⟩
    |false=>
     refine WpskipZ ?_;simp only[Ex.then,Ex.inBlock];refine WprgZ ?_;exact⟨m2,by omega,k+1,qs++[vI r.1,vI r.2],by omega,by rw[hqk,take_succ_flat hr,ptR];simp at h1 h2;simp[h1,h2];try omega,by simp[again,keepFr,get,nrm,nrmO,sets,hwk,V.enc,vI];try omega⟩
end
structure In6 (prog:Nat->Option IFn):Prop extends Right6 prog,Has3 prog where
 h104:prog 104=some F104
 h109:prog 109=some F109
 h110:prog 110=some F110
 h111:prog 111=some F111
 h113:prog 113=some F113
 h114:prog 114=some F114
section
variable {prog:Nat->Option IFn}
def B.small (b:B):Prop:=∀i,i<4->(b.get i).i.length<=6/\(b.get i).s.length<=6
end
theorem in_has {x y:S} (hx:x.fine) (hy:y.fine) (kx:in64s x.i) (ky:in64s y.i) (h:inS x y=true) {v:V} (hv:hasV x v=true):hasV y v=true:=by
 have e:orS x y=y:=sameS_iff.1 h;have:=or_hasV x y v (or_fine hx hy kx ky).2.2;rw[e,hv,Bool.true_or]at this;exact this
theorem hasV_int (x:S) (n:Int):hasV x (vI n)=hasI x.i n:=rfl
theorem hasV_str (x:S) {t:ByteArray} (h:t.size<=8):hasV x (vS t)=hasStr x t:=by
 simp[hasV,rightV,vS,hasStr,h]
theorem normal_gap:∀{l:List (Int×Int)},normal l->∀{q:Int×Int},q ∈ l->¬inR l (q.2+1)
 |[],_,_,h=>by cases h
 |p::l,hn,q,hq=>by
  have ht:=List.pairwise_cons.1 hn.2;rw[inR_cons];rintro(h | h)
  ·rcases List.mem_cons.1 hq with rfl | hq
   ·omega
   ·have:=ht.1 q hq;have:=hn.1 q (List.mem_cons_of_mem _ hq);omega
  ·rcases List.mem_cons.1 hq with rfl | hq
   ·have:=normal_above hn h;omega
   ·exact normal_gap (normal_tail hn) hq h
theorem points_in {x y:S} (hx:x.fine) (hy:y.fine) (kx:in64s x.i) (ky:in64s y.i) {t:ByteArray} (ht:t.size<=8) (tx:hasT x.s t=false) (ty:hasT y.s t=false)
  (h:∀v ∈ points [x,y] t,hasV x v=true->hasV y v=true):inS x y=true:=by
 have hpt:∀v,(v ∈ pt0\/v ∈ ptS x\/v ∈ ptS y\/v=vS t)->hasV x v=true->hasV y v=true:=λv hv=>h v (by
  simp only[points,List.mem_append,List.mem_flatMap,List.mem_cons,List.not_mem_nil,or_false];rcases hv with h | h | h | h
  ·exact .inl (.inl h)
  ·exact .inl (.inr ⟨x,.inl rfl,h⟩)
  ·exact .inl (.inr ⟨y,.inr rfl,h⟩)
  ·exact .inr h)
 have ha:x.a=true->y.a=true:=hpt ⟨0,0,⟨#[]⟩⟩ (.inl (by simp[pt0]));have hc:x.c=true->y.c=true:=by
  have:=hpt (vS t) (.inr (.inr (.inr rfl)));rw[hasV_str x ht,hasV_str y ht,hasStr,hasStr,tx,ty]at this;simpa using this
 have hs:∀u,hasStr x u=true->hasStr y u=true:=by
  intro u;by_cases m:u ∈ x.s\/u ∈ y.s
  ·have sz:u.size<=8:=m.elim (hx.len u) (hy.len u);have:=hpt (vS u) (m.elim (λm=>.inr (.inl (List.mem_append_right _ (List.mem_map_of_mem m)))) λm=>.inr (.inr (.inl (List.mem_append_right _ (List.mem_map_of_mem m)))))
   rwa [hasV_str x sz,hasV_str y sz]at this
  ·have mx:hasT x.s u=false:=Bool.eq_false_iff.2 λe=>m (.inl (hasT_iff.1 e))
   have my:hasT y.s u=false:=Bool.eq_false_iff.2 λe=>m (.inr (hasT_iff.1 e))
   rw[hasStr,hasStr,mx,my];simpa using hc
 have hi:∀n,inR x.i n->inR y.i n:=by
  intro n ⟨r,hr,h1,h2⟩;have hr64:=kx r hr;have e1:inR y.i r.1:=by
   have:=hpt (vI r.1) (.inr (.inl (List.mem_append_left _ (List.mem_flatMap.2 ⟨r,hr,by simp[ptR]⟩))));rw[hasV_int,hasV_int,hasI_iff,hasI_iff]at this;exact this ⟨r,hr,Int.le_refl _,by omega⟩
  obtain⟨q,hq,h3,h4⟩:=e1;by_cases hn:n<=q.2
  ·exact⟨q,hq,by omega,hn⟩
  ·exfalso;have hlt:q.2<9223372036854775807:=by unfold in64 at hr64;omega
   have hq64:=ky q hq;have hw:IntKind.wrap .i64 (q.2+1)=q.2+1:=IntWalk.i64_in _ (by unfold in64 at hq64;omega);have:=hpt (vI (IntKind.wrap .i64 (q.2+1))) (.inr (.inr (.inl (List.mem_append_left _ (List.mem_flatMap.2 ⟨q,hq,by simp[ptR,hlt]⟩)))));rw[hasV_int,hasV_int,hasI_iff,hasI_iff,hw]at this;exact normal_gap hy.i hq (this ⟨r,hr,by omega,by omega⟩)
 have ca:(x.a||y.a)=y.a:=by cases e:x.a with
  |false=>rfl
  |true=>rw[ha e];rfl
 have cc:(x.c||y.c)=y.c:=by cases e:x.c with
  |false=>rfl
  |true=>rw[hc e];rfl
 have ho:=or_fine hx hy kx ky;have ci:(orS x y).i=y.i:=normal_one ho.1.i hy.i λn=>by rw[ho.2.2 n];exact⟨λh=>h.elim (hi n) id,.inr⟩
 have cs:orT x y=y.s:=rise_one (orT_rise hx.s hy.s) hy.s λu=>by
  have h1:=or_str x y u;have h2:(hasStr x u||hasStr y u)=hasStr y u:=by cases e:hasStr x u with
   |false=>rfl
   |true=>rw[hs u e];rfl
  rw[h2]at h1;unfold hasStr at h1;rw[show(orS x y).s=orT x y from rfl,show(orS x y).c=(x.c||y.c) from rfl,cc]at h1;rw[<-hasT_iff,<-hasT_iff];have h3:hasT (orT x y) u=hasT y.s u:=by
   revert h1;cases hasT (orT x y) u<;>cases hasT y.s u<;>cases y.c<;>simp
  rw[h3]
 refine sameS_iff.2 ?_
 show S.mk _ _ _ _=y
 rw[ca,cc,cs]
 show S.mk y.a (orS x y).i y.c y.s=y
 rw[ci]
section
variable {prog:Nat->Option IFn}
set_option maxHeartbeats 4000000 in
theorem x_inS (I:In6 prog) (x y:S) (fx:x.fine) (fy:y.fine) (hx:x.lim 2000 2000) (hy:y.lim 2000 2000):Ans prog 109 [x.av,y.av] (.bI (inS x y)):=by
 obtain⟨_,⟨t,rfl,hps,ht8,htn⟩,KP,hKP⟩:=x_points I.h49 I.h114 I.h113 I.h111 I.h110 [x,y] (by simp) (λz hz=>by
  simp at hz;rcases hz with rfl | rfl
  ·exact⟨hx.i,hx.s⟩
  ·exact⟨hy.i,hy.s⟩)
 have hlaw:=points_in fx fy hx.k hy.k ht8 (htn x (by simp)) (htn y (by simp));generalize points [x,y] t=ps at hps hKP hlaw;have hps':ps.length<=maxLen:=by unfold maxLen;omega
 have hxi:=hx.i;have hxs:=hx.s;have hyi:=hy.i;have hys:=hy.s;refine Ans.of I.h109 rfl rfl (Wps0Z (by simp[S.av];rfl) ?_);refine WpskZ (K:=KP) (s':=⟨_,[(1000,.cells [.bI x.a,.iv (.sl 2 (x.i.map rng)),.bI x.c,.iv (.sl 1 (x.s.map st1))]),(1064,.cells [.bI y.a,.iv (.sl 2 (y.i.map rng)),.bI y.c,.iv (.sl 1 (y.s.map st1))]),(1320,.imm 0 4 [x.enc,y.enc])],1512⟩) (λn hn=>by
  have e1:=hKP n hn;simp only[sets,List.map_cons,List.map_nil,S.enc]at e1;generalize evalF prog n=g at e1;simp[setAll,S.enc,e1];rfl) ?_
 refine ab (WpsgZ ?_);refine WpblockZ ?_;refine WprangeZ ps.length (λi=>⟨[(2,.ref 1000 0 0 0),(3,.ref 1064 0 0 0),(5,.iv (.sl 3 (ps.map V.enc))),(6,.nI i)],[(1000,.cells [.bI x.a,.iv (.sl 2 (x.i.map rng)),.bI x.c,.iv (.sl 1 (x.s.map st1))]),(1064,.cells [.bI y.a,.iv (.sl 2 (y.i.map rng)),.bI y.c,.iv (.sl 1 (y.s.map st1))]),(1320,.imm 0 4 [x.enc,y.enc])],1576⟩) (λi=>∀(j:Nat) v,j<i->ps[j]?=some v->(hasV x v&&!hasV y v)=false) (by simp[keepFr,get]) (λj _ h=>absurd h (Nat.not_lt_zero _)) ?_ ?_
 ·intro i hi hg;obtain⟨v,hv⟩:∃v,ps[i]?=some v:=⟨_,List.getElem?_eq_getElem hi⟩;obtain⟨K1,hK1⟩:=p_hasV I.toHas3 x v (by unfold maxLen;omega) (by unfold maxLen;omega);obtain⟨K2,hK2⟩:=p_hasV I.toHas3 y v (by unfold maxLen;omega) (by unfold maxLen;omega);refine ab (Wps0Z (by simp[hi];rfl) ?_);refine WpcondZ rfl (WpskipZ (ab (WpblockZ (ab ?_))));refine WprgnZ (K:=max K1 K2) (s':=⟨[(2,.ref 1000 0 0 0),(3,.ref 1064 0 0 0),(5,.iv (.sl 3 (ps.map V.enc))),(6,.nI i),(31,.bI (hasV x v&&!hasV y v))],[(1000,.cells [.bI x.a,.iv (.sl 2 (x.i.map rng)),.bI x.c,.iv (.sl 1 (x.s.map st1))]),(1064,.cells [.bI y.a,.iv (.sl 2 (y.i.map rng)),.bI y.c,.iv (.sl 1 (y.s.map st1))]),(1320,.imm 0 4 [x.enc,y.enc])],2792⟩) (λn hn=>rgn_quiet' rfl (by
   have e1:=hK1 n (by omega);have e2:=hK2 n (by omega);simp only[S.av,V.av]at e1 e2;generalize evalF prog n=g at e1 e2;cases h1:hasV x v<;>rw[h1]at e1<;>simp[hv,V.enc,e1,e2])) ?_
  refine WpcondZ rfl ?_;cases hc:hasV x v&&!hasV y v with
  |true=>
   refine WpsgZ ?_;have:inS x y=false:=by
    cases hin:inS x y with
    |false=>rfl
    |true=>
     rw[Bool.and_eq_true]at hc;rw[in_has fx fy hx.k hy.k hin hc.1]at hc;exact absurd hc.2 (by simp)
   rw[this];exact WpretZ rfl
  |false=>
   refine WpskipZ ?_;refine WprgZ ?_;refine⟨by simp[again,keepFr,get,nrm_iv,nrm_ref_cells,nrmO,nrm,wrap_succ hi hps'],λj w hj hw=>?_⟩;by_cases hji:j=i
   ·subst hji;rw[hv]at hw;cases hw;exact hc
   ·exact hg j w (by omega) hw
 ·intro hg;refine ab (WpsgZ ?_);refine WpcondZ rfl (WpexitZ ?_);simp only[Ex.then,Ex.inBlock,if_true];refine WpsgZ ?_;have:inS x y=true:=hlaw λv hv hx=>by
   obtain⟨j,hj,he⟩:=List.getElem_of_mem hv;have:=hg j v hj (by rw[List.getElem?_eq_getElem hj,he]);rw[hx,Bool.true_and]at this;simpa using this
  rw[this];exact WpretZ rfl
end
section
variable {prog:Nat->Option IFn}
end
def B.fit (b:B):Prop:=∀i,i<4->(b.get i).fine/\(b.get i).lim 1000 400
theorem S.fit_ok {x:S} (h:x.fine/\x.lim 1000 400):x.ok:=⟨by have:=h.2.i;unfold maxLen;omega,by have:=h.2.s;unfold maxLen;omega,h.2.k,λt ht=>by have:=h.1.len t ht;unfold maxLen;omega⟩
theorem B.fit.ok {b:B} (h:b.fit):b.ok:=⟨S.fit_ok (h 0 (by omega)),S.fit_ok (h 1 (by omega)),S.fit_ok (h 2 (by omega)),S.fit_ok (h 3 (by omega))⟩
section
variable {prog:Nat->Option IFn}
set_option maxHeartbeats 4000000 in
theorem x_inB (I:In6 prog) (x y:B) (fx:x.fit) (fy:y.fit):Ans prog 104 [x.av,y.av] (.bI (inB x y)):=by
 obtain⟨K1,hK1⟩:=p_emptyB4 I.h108 I.h103 x fx.ok;refine Ans.of I.h104 rfl rfl (Wps0Z (by simp[-fzC, -fz,B.av,B.cs_nilc];rfl) ?_);refine ab (WpskZ (K:=K1) (λn hn=>by
  have e1:=hK1 n hn;simp only[B.av]at e1;generalize evalF prog n=g at e1;simp[-fzC, -fz,B.cs_16,B.cs_len,B.cs_fzC,e1];rfl) ?_)
 refine WpcondZ rfl ?_;cases he:anyB emptyS x with
 |true=>
  refine WpsgZ ?_;have:inB x y=true:=by unfold inB;rw[he];rfl
  rw[this];exact WpretZ rfl
 |false=>
  refine WpskipZ (ab (WpsgZ ?_));refine WpblockZ ?_;refine WprangeZ 4 (λi=>⟨[(2,.ref 1000 0 0 0),(3,.ref 1064 0 0 0),(5,.nI i)],[(1000,.cells x.cs),(1064,.cells y.cs)],1384⟩) (λi=>∀j,j<i->inS (x.get j) (y.get j)=true) rfl (λj h=>absurd h (Nat.not_lt_zero _)) ?_ ?_
  ·intro i hi hg;have hi':(i:Int)<4:=by omega
   have hm:min 4 (16 - i*4)=4:=by omega
   obtain⟨K2,hK2⟩:=x_inS I (x.get i) (y.get i) (fx i hi).1 (fy i hi).1 ((fx i hi).2.mono (by omega) (by omega)) ((fy i hi).2.mono (by omega) (by omega));generalize hv:inS (x.get i) (y.get i)=v at hK2;refine ab (Wps0Z (by simp[hi'];rfl) ?_);refine WpcondZ rfl (WpskipZ (ab (WpblockZ (ab ?_))));refine WprgnZ (K:=K2) (s':=⟨[(2,.ref 1000 0 0 0),(3,.ref 1064 0 0 0),(5,.nI i),(19,.bI (!v))],[(1000,.cells x.cs),(1064,.cells y.cs)],2024⟩) (λn hn=>rgn_quiet' rfl (by
    have e1:=hK2 n hn;simp only[S.av]at e1;generalize evalF prog n=g at e1;simp[hi',B.cs_at x hi,B.cs_at y hi,e1])) ?_
   refine WpcondZ rfl ?_;cases v with
   |false=>
    refine WpsgZ ?_;rw[inB_false he hi hv];exact WpretZ rfl
   |true=>
    refine WpskipZ ?_;refine WprgZ ?_;refine⟨by simp[again,keepFr,get,nrm_iv,nrm_ref_cells,nrmO,B.cs_nrm,wrap_lt4 hi],λj hj=>?_⟩;by_cases hji:j=i
    ·rw[hji];exact hv
    ·exact hg j (by omega)
  ·intro hg;refine ab (WpsgZ ?_);refine WpcondZ rfl (WpexitZ ?_);simp only[Ex.then,Ex.inBlock,if_true];refine WpsgZ ?_;rw[inB_true hg];exact WpretZ rfl
set_option maxHeartbeats 8000000 in
theorem x_tidy (I:In6 prog) (f:List B) (hl:f.length<=100000) (hf:∀b ∈ f,b.fit):Ans prog 99 [filt f] (filt (tidyF f)):=by
 refine Ans.of I.h99 rfl rfl (WpsgZ ?_);refine WpsgZ ?_;refine ab (WpsgZ ?_);refine WpblockZ ?_;refine WploopZ (λm s1=>∃(i:Nat) (o:List B),i+m=f.length/\o=tidyTo f i/\s1=⟨[(0,filt f),(3,.own 1064 0 o.length 0),(4,.nI i)],[(1000,.buf 0 16 []),(1064,.buf 0 16 (o.map B.enc))],1192⟩) (m:=f.length) ⟨0,[],by omega,rfl,rfl⟩ ?_;rintro m s1 ⟨i,o,hm,hoe,rfl⟩;have ho:o.length<=i:=by rw[hoe];exact tidyTo_len f i
 have hwi:IntKind.wrap .i64 ((i:Int)+1)=(i:Int)+1:=IntWalk.i64_in _ (by omega);cases m with
 |zero=>
  have hno:¬(i:Int)<f.length:=by omega
  refine ab (Wps0Z (s':=⟨[(0,filt f),(3,.own 1064 0 o.length 0),(4,.nI i),(10,.bI false)],[(1000,.buf 0 16 []),(1064,.buf 0 16 (o.map B.enc))],1448⟩) (by simp[filt];omega) ?_);refine WpcondZ rfl (WpexitZ ?_);simp only[Ex.then,Ex.inBlock,if_true];refine WpsgZ ?_;have hif:i=f.length:=by omega
  rw[hif]at hoe;refine WpretZ ?_;rw[show tidyF f=o from hoe.symm];simp[FinS,filt,F99,resAll,resM,outA,ev,get,M.look,M.bind,M.run,Mrun_bindZ,M.ok,shut,fzA,fz1,fzC,fz,M.write,M.lift,take_map_len]
 |succ m=>
  have hi:i<f.length:=by omega
  obtain⟨z,hz⟩:∃z,f[i]?=some z:=⟨_,List.getElem?_eq_getElem hi⟩;have fz:=hf z (List.mem_of_getElem? hz);have hnext:=tidyTo_succ hz;rw[<-hoe]at hnext;obtain⟨K1,hK1⟩:=p_emptyB4 I.h108 I.h103 z fz.ok;refine ab (Wps0Z (by simp[filt,hi];rfl) ?_);refine WpcondZ rfl (WpskipZ (ab (WpblockZ (WpskZ (K:=K1) (s':=⟨[(0,filt f),(3,.own 1064 0 o.length 0),(4,.nI i),(5,.bI (!anyB emptyS z))],[(1000,.buf 0 16 []),(1064,.buf 0 16 (o.map B.enc))],1896⟩) (λn hn=>by
   have e1:=hK1 n hn;simp only[B.av]at e1;generalize evalF prog n=g at e1;simp[-fzC, -fz,filt,hz,B.enc_len,B.enc_take,B.enc_cs,B.cs_fzC,e1]) ?_))))
  refine ab (WpsgZ ?_);refine WpblockZ ?_;refine WploopZ (λm s1=>∃(k:Nat) (kp:Bool),k+m=f.length/\kp=(!anyB emptyS z&&!needl f z i k)/\s1=⟨[(0,filt f),(3,.own 1064 0 o.length 0),(4,.nI i),(5,.bI kp),(6,.nI k)],[(1000,.buf 0 16 []),(1064,.buf 0 16 (o.map B.enc))],1960⟩) (m:=f.length) ⟨0,!anyB emptyS z,by omega,by simp[needl],by simp[keepFr,get]⟩ ?_;rintro m2 s2 ⟨k,kp,hk,hkp,rfl⟩;have hwk:IntKind.wrap .i64 ((k:Int)+1)=(k:Int)+1:=IntWalk.i64_in _ (by omega);cases m2 with
  |zero=>
   have hno:¬(k:Int)<f.length:=by omega
   refine ab (Wps0Z (s':=⟨[(0,filt f),(3,.own 1064 0 o.length 0),(4,.nI i),(5,.bI kp),(6,.nI k),(22,.bI false)],[(1000,.buf 0 16 []),(1064,.buf 0 16 (o.map B.enc))],2216⟩) (by simp[filt];omega) ?_);refine WpcondZ rfl (WpexitZ ?_);simp only[Ex.then,Ex.inBlock,if_true];refine WpsgZ ?_;refine WpcondZ rfl ?_;have hkf:k=f.length:=by omega
   rw[hkf]at hkp;have hcond:(anyB emptyS z||needl f z i f.length)=!kp:=by rw[hkp];simp
   rw[hcond]at hnext;cases kp with
   |false=>
    refine WpskipZ ?_;simp only[Ex.then,Ex.inBlock];refine WprgZ ?_;exact⟨m,by omega,i+1,o,by omega,by simpa using hnext.symm,by simp[again,keepFr,get,nrm,nrmO,filt,hwi]⟩
   |true=>
    have hr1:o.length+1<=1073741824:=by omega
    refine Wpr0Z (by simp[-fzC, -fz,filt,hz,B.enc_len,B.enc_take,B.enc_cs,B.cs_fz,B.cs_len,setAll,app,elems,roomy,hr1,take_map_len];rfl) ?_;simp only[Ex.then,Ex.inBlock];refine WprgZ ?_;exact⟨m,by omega,i+1,o++[z],by omega,by simpa using hnext.symm,by simp[again,keepFr,get,nrm,nrmO,filt,hwi]⟩
  |succ m2=>
   have hk1:k<f.length:=by omega
   obtain⟨w,hw⟩:∃w,f[k]?=some w:=⟨_,List.getElem?_eq_getElem hk1⟩;have fw:=hf w (List.mem_of_getElem? hw);have hnn:=needl_succ (b:=z) (i:=i) hw;unfold hidesB at hnn;obtain⟨K2,hK2⟩:=x_inB I z w fz fw;obtain⟨K3,hK3⟩:=x_inB I w z fw fz;generalize inB z w=v1 at hK2 hnn;generalize inB w z=v2 at hK3 hnn;have hnk:((k:Int) != (i:Int))=(k != i):=by
    by_cases h:k=i
    ·subst h;simp
    ·have h1:(k:Int)≠i:=by omega
     rw[bne_iff_ne.2 h1,bne_iff_ne.2 h]
   refine ab (Wps0Z (by simp[filt,hk1];rfl) ?_);refine WpcondZ rfl (WpskipZ (ab (WpblockZ (ab ?_))));refine WprgnZ (K:=max K2 K3) (s':=⟨[(0,filt f),(3,.own 1064 0 o.length 0),(4,.nI i),(5,.bI kp),(6,.nI k),(58,.bI ((((k:Int) != i)&&kp)&&v1&&(decide (k<i)||!v2)))],[(1000,.buf 0 16 []),(1064,.buf 0 16 (o.map B.enc))],4392⟩) (λn hn=>rgn_quiet' rfl (by
    have e1:=hK2 n (by omega);have e2:=hK3 n (by omega);simp only[B.av]at e1 e2;generalize evalF prog n=g at e1 e2;cases h1:((k:Int) != i)with
    |false=>simp[-fzC, -fz,filt,h1]
    |true=>
     cases kp with
     |false=>simp[-fzC, -fz,filt,h1]
     |true=>
      cases v1 with
      |false=>simp[-fzC, -fz,filt,hz,hw,B.enc_len,B.enc_take,B.enc_cs,B.cs_fzC,e1,h1]
      |true=>cases h2:decide (k<i)<;>simp[-fzC, -fz,filt,hz,hw,B.enc_len,B.enc_take,B.enc_cs,B.cs_fzC,e1,e2,h1,h2])) ?_
   have hkn:(!anyB emptyS z&&!needl f z i (k+1))=(kp&&!((((k:Int) != i)&&kp)&&v1&&(decide (k<i)||!v2))):=by
    rw[hnn,hkp,hnk];cases anyB emptyS z<;>cases needl f z i k<;>cases(k != i)<;>cases v1<;>cases v2<;>cases decide (k<i)<;>rfl
   generalize((((k:Int) != i)&&kp)&&v1&&(decide (k<i)||!v2))=cv at hkn;refine WpcondZ rfl ?_;cases cv with
   |true=>
    refine Wpr0Z (by simp;rfl) ?_;simp only[Ex.then,Ex.inBlock];refine WprgZ ?_;exact⟨m2,by omega,k+1,false,by omega,by rw[hkn];simp,by simp[again,keepFr,get,nrm,nrmO,filt,hwk]⟩
   |false=>
    refine WpskipZ ?_;simp only[Ex.then,Ex.inBlock];refine WprgZ ?_;exact⟨m2,by omega,k+1,kp,by omega,by rw[hkn];simp,by simp[again,keepFr,get,nrm,nrmO,filt,hwk]⟩
set_option maxHeartbeats 4000000 in
theorem x_rightF (I:In6 prog) (f:List B) (hl:f.length<=100000) (hf:∀b ∈ f,b.fit):Ans prog 98 [filt f] (.bI (rightF f)):=by
 have hlm:f.length<=maxLen:=by unfold maxLen;omega
 refine Ans.of I.h98 rfl rfl (WpsgZ ?_);refine ab (WpsgZ ?_);refine WpblockZ ?_;refine WprangeZ f.length (λi=>⟨[(0,filt f),(3,.nI i)],[],1128⟩) (λi=>(f.take i).all rsB=true) rfl (by simp) ?_ ?_
 ·intro i hi hg;obtain⟨z,hz⟩:∃z,f[i]?=some z:=⟨_,List.getElem?_eq_getElem hi⟩;have oz:=(hf z (List.mem_of_getElem? hz)).ok;obtain⟨K1,hK1⟩:=p_rightB4 I.h105 I.h100 z oz;obtain⟨K2,hK2⟩:=p_smallB4 I.h106 I.h101 z oz;refine ab (Wps0Z (by simp[filt,hi];rfl) ?_);refine WpcondZ rfl (WpskipZ (ab (WpblockZ (WpskZ (K:=max K1 K2) (s':=⟨[(0,filt f),(3,.nI i),(23,.bI (!(allB rightS z&&allB smallS z)))],[],2280⟩) (λn hn=>by
   have e1:=hK1 n (by omega);have e2:=hK2 n (by omega);simp only[B.av]at e1 e2;generalize evalF prog n=g at e1 e2;cases h1:allB rightS z<;>rw[h1]at e1<;>simp[-fzC, -fz,filt,hz,B.enc_len,B.enc_take,B.enc_cs,B.cs_fzC,e1,e2]) ?_))))
  refine WpcondZ rfl ?_;cases hr:allB rightS z&&allB smallS z with
  |false=>
   refine WpsgZ ?_;have:rightF f=false:=by
    unfold rightF;rw[all_false hz (show rsB z=false from hr)];simp
   rw[this];exact WpretZ rfl
  |true=>
   refine WpskipZ ?_;refine WprgZ ?_;refine⟨by simp[again,keepFr,get,nrm,filt,wrap_succ hi hlm],?_⟩;rw[take_succ_all hz,hg,Bool.true_and];exact hr
 ·intro hg;refine ab (Wps0Z (by simp[filt];rfl) ?_);refine WpcondZ rfl (WpexitZ ?_);simp only[Ex.then,Ex.inBlock,if_true];refine ab ?_;rw[List.take_length]at hg;have hrf:rightF f=(decide (f.length<=4)&&(tidyF f).length==f.length):=by unfold rightF;rw[hg,Bool.true_and]
  rw[hrf];by_cases h4:f.length<=4
  ·have h4':(f.length:Int)<=4:=by omega
   obtain⟨K3,hK3⟩:=x_tidy I f hl hf;have hbq:(((tidyF f).length:Int)==(f.length:Int))=((tidyF f).length==f.length):=by
    by_cases h:(tidyF f).length=f.length
    ·rw[h];simp
    ·have h1:((tidyF f).length:Int)≠f.length:=by omega
     rw[beq_eq_false_iff_ne.2 h1,beq_eq_false_iff_ne.2 h]
   refine WprgnZ (K:=K3) (λn hn=>by
    have e1:=hK3 n hn;simp only[filt]at e1;generalize evalF prog n=g at e1;simp[h4',e1,hbq];rfl) ?_
   rw[decide_eq_true h4];exact WpretZ rfl
  ·have h4':¬(f.length:Int)<=4:=by omega
   refine Wpr0Z (s':=⟨[(2,.bI false)],[],2152⟩) (by simp[h4'];try omega) ?_;rw[decide_eq_false h4];exact WpretZ rfl
end
end Arb
namespace Arb
open Go
theorem in64_of {l:List (Int×Int)} (h:in64s l) {n:Int} (hn:inR l n):in64 n:=by
 obtain⟨p,hp,h1,h2⟩:=hn;have:=h p hp;unfold in64 at this ⊢;omega
theorem gapsF_low:∀(l:List (Int×Int)) (a:Int),in64s l->(∀p ∈ l,a<=p.1)->normal l->∀q ∈ gapsF a l,a<=q.1
 |[],a,_,_,_,q,hq=>by rw[gapsF,List.mem_singleton]at hq;rw[hq];exact Int.le_refl _
 |r::l,a,h64,hlo,hn,q,hq=>by
  rw[gapsF,List.mem_append]at hq;have hr:=hlo r (List.mem_cons_self ..);have hrr:=hn.1 r (List.mem_cons_self ..);have hr64:=h64 r (List.mem_cons_self ..);rcases hq with hq | hq
  ·split at hq
   ·rw[List.mem_singleton]at hq;rw[hq];exact Int.le_refl _
   ·cases hq
  ·split at hq
   ·cases hq
   ·rename_i hne;have hw:IntKind.wrap .i64 (r.2+1)=r.2+1:=IntWalk.i64_in _ (by unfold in64 at hr64;omega);rw[hw]at hq;have:=gapsF_low l (r.2+1) (λp hp=>h64 p (List.mem_cons_of_mem _ hp)) (λp hp=>by have:=(List.pairwise_cons.1 hn.2).1 p hp;omega) (normal_tail hn) q hq;omega
theorem gapsF_all:∀(l:List (Int×Int)) (a:Int),in64 a->in64s l->(∀p ∈ l,a<=p.1)->normal l->normal (gapsF a l)/\∀n,inR (gapsF a l) n↔(a<=n/\n<=9223372036854775807)/\¬inR l n
 |[],a,ha,_,_,_=>by
  rw[gapsF];refine⟨⟨λp hp=>?_,List.pairwise_singleton _ _⟩,λn=>?_⟩
  ·rw[List.mem_singleton]at hp;rw[hp];exact ha.2
  ·rw[inR_cons];simp[inR_nil]
 |r::l,a,ha,h64,hlo,hn=>by
  have hr:=hlo r (List.mem_cons_self ..);have hrr:=hn.1 r (List.mem_cons_self ..);have hr64:=h64 r (List.mem_cons_self ..);have ht:=List.pairwise_cons.1 hn.2;have hw1:a<r.1->IntKind.wrap .i64 (r.1 - 1)=r.1 - 1:=λh=>IntWalk.i64_in _ (by unfold in64 at hr64 ha;omega)
  have hab:∀n,inR l n->r.2+1<n:=λn h=>normal_above hn h
  rw[gapsF];by_cases hm:r.2=9223372036854775807
  ·rw[if_pos hm,List.append_nil];have hno:∀n,n<=9223372036854775807->¬inR l n:=λn h1 h=>by have:=hab n h;omega
   by_cases har:a<r.1
   ·rw[if_pos har,hw1 har];refine⟨⟨λp hp=>?_,List.pairwise_singleton _ _⟩,λn=>?_⟩
    ·rw[List.mem_singleton]at hp;rw[hp];show a<=r.1 - 1;omega
    ·rw[inR_cons,inR_cons];simp only[inR_nil,or_false,not_or];constructor
     ·rintro⟨h1,h2⟩;exact⟨⟨h1,by omega⟩,by omega,hno n (by omega)⟩
     ·rintro⟨⟨h1,h2⟩,h3, -⟩;omega
   ·rw[if_neg har];refine⟨⟨λp hp=>(by cases hp),List.Pairwise.nil⟩,λn=>?_⟩;rw[inR_cons];simp only[inR_nil,false_iff,not_or];rintro⟨⟨h1,h2⟩,h3, -⟩;omega
  ·have hw:IntKind.wrap .i64 (r.2+1)=r.2+1:=IntWalk.i64_in _ (by unfold in64 at hr64;omega);rw[if_neg hm,hw];have hlo':∀p ∈ l,r.2+1<=p.1:=λp hp=>by have:=ht.1 p hp;omega
   have h64':in64s l:=λp hp=>h64 p (List.mem_cons_of_mem _ hp)
   obtain⟨ih1,ih2⟩:=gapsF_all l (r.2+1) (by unfold in64 at hr64 ⊢;omega) h64' hlo' (normal_tail hn);have low:=gapsF_low l (r.2+1) h64' hlo' (normal_tail hn);by_cases har:a<r.1
   ·rw[if_pos har,hw1 har];refine⟨⟨λp hp=>?_,?_⟩,λn=>?_⟩
    ·rcases List.mem_append.1 hp with hp | hp
     ·rw[List.mem_singleton]at hp;rw[hp];show a<=r.1 - 1;omega
     ·exact ih1.1 p hp
    ·rw[List.singleton_append];exact List.pairwise_cons.2 ⟨λq hq=>by have:=low q hq;show r.1 - 1+1<q.1;omega,ih1.2⟩
    ·rw[inR_append,ih2 n,inR_cons,inR_cons];simp only[inR_nil,or_false,not_or,not_and];constructor
     ·rintro(h | h)
      ·refine⟨by unfold in64 at hr64;omega,by omega,λhi=>?_⟩;have:=hab n hi;omega
      ·exact⟨by omega,by omega,h.2⟩
     ·rintro⟨h1,h2,h3⟩;by_cases hn1:n<r.1
      ·exact .inl (by omega)
      ·exact .inr ⟨by omega,h3⟩
   ·rw[if_neg har,List.nil_append];refine⟨ih1,λn=>?_⟩;rw[ih2 n,inR_cons];simp only[not_or,not_and];constructor
    ·rintro⟨h1,h3⟩;exact⟨by omega,by omega,h3⟩
    ·rintro⟨h1,h2,h3⟩;exact⟨by omega,h3⟩
theorem normR_id {l:List (Int×Int)} (h:normal l) (h64:in64s l):normR l=l:=normal_one (normR_all h64).1 h (normR_all h64).2.2
def notD (x:S):S:=⟨!x.a,gapsF minI x.i,!x.c,x.s⟩
theorem notD_eq {x:S} (h:x.fine) (k:in64s x.i):notD x=notS x:=by unfold notD notS;rw[normR_id h.i k]
theorem notS_fine {x:S} (h:x.fine) (k:in64s x.i):(notS x).fine/\∀n,inR (notS x).i n↔in64 n/\¬inR x.i n:=by
 have hg:=gapsF_all x.i minI min64 k (λp hp=>(k p hp).1.1) h.i;refine⟨⟨?_,h.s,h.len⟩,λn=>?_⟩
 ·show normal (gapsF minI (normR x.i));rw[normR_id h.i k];exact hg.1
 ·show inR (gapsF minI (normR x.i)) n↔_;rw[normR_id h.i k,hg.2 n];rfl
theorem notS_str (x:S) (t:ByteArray):hasStr (notS x) t=!hasStr x t:=by
 show(hasT x.s t != !x.c)=!(hasT x.s t != x.c)
 cases hasT x.s t<;>cases x.c<;>rfl
theorem not64 {x:S} (k:in64s x.i):in64s (notS x).i:=gapsF_64 _ _ min64 (normR_all k).2.1
def mxZ (a b:Int):Int:=if b > a then b else a
def mnZ (a b:Int):Int:=if b<a then b else a
def capR (r q:Int×Int):List (Int×Int):=if mxZ r.1 q.1<=mnZ r.2 q.2 then[(mxZ r.1 q.1,mnZ r.2 q.2)] else[]
def caps (a b:List (Int×Int)):List (Int×Int):=a.flatMap λr=>b.flatMap (capR r)
theorem capR_mem {r q p:Int×Int}:p ∈ capR r q↔mxZ r.1 q.1<=mnZ r.2 q.2/\p=(mxZ r.1 q.1,mnZ r.2 q.2):=by
 unfold capR;split<;>simp[*]
theorem caps_in (a b:List (Int×Int)) (n:Int):inR (caps a b) n↔inR a n/\inR b n:=by
 constructor
 ·rintro⟨p,hp,h1,h2⟩;obtain⟨r,hr,hp⟩:=List.mem_flatMap.1 hp;obtain⟨q,hq,hp⟩:=List.mem_flatMap.1 hp;obtain⟨h3,rfl⟩:=capR_mem.1 hp;simp only[mxZ,mnZ]at h1 h2;refine⟨⟨r,hr,?_,?_⟩,⟨q,hq,?_,?_⟩⟩<;>(split at h1<;>split at h2<;>omega)
 ·rintro⟨⟨r,hr,h1,h2⟩,⟨q,hq,h3,h4⟩⟩;refine⟨(mxZ r.1 q.1,mnZ r.2 q.2),List.mem_flatMap.2 ⟨r,hr,List.mem_flatMap.2 ⟨q,hq,capR_mem.2 ⟨?_,rfl⟩⟩⟩,?_,?_⟩
  ·simp only[mxZ,mnZ];split<;>split<;>omega
  ·simp only[mxZ];split<;>omega
  ·simp only[mnZ];split<;>omega
theorem caps_normal {a b:List (Int×Int)} (ha:normal a) (hb:normal b):normal (caps a b):=by
 refine⟨λp hp=>?_,?_⟩
 ·obtain⟨r,hr,hp⟩:=List.mem_flatMap.1 hp;obtain⟨q,hq,hp⟩:=List.mem_flatMap.1 hp;obtain⟨h3,rfl⟩:=capR_mem.1 hp;exact h3
 ·unfold caps;rw[List.pairwise_flatMap];refine⟨λr hr=>?_,ha.2.imp λ{r r'} hrr p hp p' hp'=>?_⟩
  ·rw[List.pairwise_flatMap];refine⟨λq hq=>by unfold capR;split<;>simp,hb.2.imp λ{q q'} hqq p hp p' hp'=>?_⟩;obtain⟨h3,rfl⟩:=capR_mem.1 hp;obtain⟨h4,rfl⟩:=capR_mem.1 hp';simp only[mxZ,mnZ]at *;split at h3<;>split at h4<;>(repeat' split)<;>omega
  ·obtain⟨q,hq,hp⟩:=List.mem_flatMap.1 hp;obtain⟨q',hq',hp'⟩:=List.mem_flatMap.1 hp';obtain⟨h3,rfl⟩:=capR_mem.1 hp;obtain⟨h4,rfl⟩:=capR_mem.1 hp';simp only[mxZ,mnZ]at *
   (repeat' split)<;>omega
def mergeT:List ByteArray->List ByteArray->List ByteArray
 |[],b=>b
 |a::l,[]=>a::l
 |a::l,b::m=>if sless a b then a::mergeT l (b::m) else if sless b a then b::mergeT (a::l) m else a::mergeT l m
termination_by l m=>l.length+m.length
theorem mergeT_nil (a:List ByteArray):mergeT a []=a:=by cases a<;>simp[mergeT]
theorem mergeT_mem (s:ByteArray):∀(n:Nat) (a b:List ByteArray),a.length+b.length<=n->(s ∈ mergeT a b↔s ∈ a\/s ∈ b):=by
 intro n
 induction n with
 |zero=>intro a b h;cases a<;>cases b<;>simp_all [mergeT]
 |succ n ih=>
  intro a b h;cases a with
  |nil=>simp[mergeT]
  |cons x l=>
   cases b with
   |nil=>simp[mergeT]
   |cons y m=>
    simp only[List.length_cons]at h;rw[mergeT];split
    ·rw[List.mem_cons,ih l (y::m) (by simp;omega),List.mem_cons,List.mem_cons];exact or_assoc.symm
    ·split
     ·rw[List.mem_cons,ih (x::l) m (by simp;omega),List.mem_cons,List.mem_cons];constructor
      ·rintro(h | h | h)
       ·exact .inr (.inl h)
       ·exact .inl h
       ·exact .inr (.inr h)
      ·rintro(h | h | h)
       ·exact .inr (.inl h)
       ·exact .inl h
       ·exact .inr (.inr h)
     ·rename_i h1 h2;have:=sless_tri h1 h2;subst this;rw[List.mem_cons,ih l m (by omega),List.mem_cons,List.mem_cons];constructor
      ·rintro(h | h | h)
       ·exact .inl (.inl h)
       ·exact .inl (.inr h)
       ·exact .inr (.inr h)
      ·rintro((h | h) | (h | h))
       ·exact .inl h
       ·exact .inr (.inl h)
       ·exact .inl h
       ·exact .inr (.inr h)
theorem mergeT_rise:∀(n:Nat) (a b:List ByteArray),a.length+b.length<=n->rise a->rise b->rise (mergeT a b):=by
 intro n
 induction n with
 |zero=>intro a b h _ _;cases a<;>cases b<;>simp_all [mergeT,rise]
 |succ n ih=>
  intro a b h ra rb;cases a with
  |nil=>simpa[mergeT]using rb
  |cons x l=>
   cases b with
   |nil=>simpa[mergeT]using ra
   |cons y m=>
    simp only[List.length_cons]at h;have ra':=List.pairwise_cons.1 ra;have rb':=List.pairwise_cons.1 rb;rw[mergeT];split
    ·rename_i h1;refine List.pairwise_cons.2 ⟨λs hs=>?_,ih l (y::m) (by simp;omega) ra'.2 rb⟩;rcases(mergeT_mem s _ l (y::m) (Nat.le_refl _)).1 hs with hs | hs
     ·exact ra'.1 s hs
     ·rcases List.mem_cons.1 hs with rfl | hs
      ·exact h1
      ·exact sless_trans h1 (rb'.1 s hs)
    ·split
     ·rename_i h1 h2;refine List.pairwise_cons.2 ⟨λs hs=>?_,ih (x::l) m (by simp;omega) ra rb'.2⟩;rcases(mergeT_mem s _ (x::l) m (Nat.le_refl _)).1 hs with hs | hs
      ·rcases List.mem_cons.1 hs with rfl | hs
       ·exact h2
       ·exact sless_trans h2 (ra'.1 s hs)
      ·exact rb'.1 s hs
     ·rename_i h1 h2;have:=sless_tri h1 h2;subst this;refine List.pairwise_cons.2 ⟨λs hs=>?_,ih l m (by omega) ra'.2 rb'.2⟩;rcases(mergeT_mem s _ l m (Nat.le_refl _)).1 hs with hs | hs
      ·exact ra'.1 s hs
      ·exact rb'.1 s hs
theorem mergeT_len:∀(n:Nat) (a b:List ByteArray),a.length+b.length<=n->(mergeT a b).length<=a.length+b.length:=by
 intro n
 induction n with
 |zero=>intro a b h;cases a<;>cases b<;>simp_all [mergeT]
 |succ n ih=>
  intro a b h;cases a with
  |nil=>simp[mergeT]
  |cons x l=>
   cases b with
   |nil=>simp[mergeT]
   |cons y m=>
    simp only[List.length_cons]at h;rw[mergeT];split
    ·have:=ih l (y::m) (by simp;omega);simp at this ⊢;omega
    ·split
     ·have:=ih (x::l) m (by simp;omega);simp at this ⊢;omega
     ·have:=ih l m (by omega);simp at this ⊢;omega
def capT (x y:S) (t:ByteArray):Bool:=((hasT x.s t != x.c)&&(hasT y.s t != y.c)) != (x.c&&y.c)
def andD (x y:S):S:=⟨x.a&&y.a,caps x.i y.i,x.c&&y.c,(mergeT x.s y.s).filter (capT x y)⟩
theorem and_all {x y:S} (hx:x.fine) (hy:y.fine) (kx:in64s x.i) (ky:in64s y.i):andD x y=andS x y/\(andS x y).fine/\in64s (andS x y).i:=by
 obtain⟨fx,ix⟩:=notS_fine hx kx;obtain⟨fy,iy⟩:=notS_fine hy ky;have k1:=not64 kx;have k2:=not64 ky;obtain⟨fo,ko,io⟩:=or_fine fx fy k1 k2;obtain⟨fa,ia⟩:=notS_fine fo ko;have hc:(andS x y).c=(x.c&&y.c):=by show(!(!x.c||!y.c))=_;cases x.c<;>cases y.c<;>rfl
 have hst:∀t,hasStr (andS x y) t=(hasStr x t&&hasStr y t):=λt=>by
  show hasStr (notS (orS (notS x) (notS y))) t=_
  rw[notS_str,or_str,notS_str,notS_str];cases hasStr x t<;>cases hasStr y t<;>rfl
 refine⟨?_,fa,not64 ko⟩;have e1:(x.a&&y.a)=(andS x y).a:=by show _=(!(!x.a||!y.a));cases x.a<;>cases y.a<;>rfl
 have e2:caps x.i y.i=(andS x y).i:=normal_one (caps_normal hx.i hy.i) fa.i λn=>by
  rw[caps_in];refine Iff.trans ?_ (ia n).symm;rw[io n,ix n,iy n];constructor
  ·rintro⟨h1,h2⟩;exact⟨in64_of kx h1,λh=>h.elim (λh=>h.2 h1) λh=>h.2 h2⟩
  ·rintro⟨h1,h2⟩;exact⟨Classical.byContradiction λh=>h2 (.inl ⟨h1,h⟩),Classical.byContradiction λh=>h2 (.inr ⟨h1,h⟩)⟩
 have e3:(mergeT x.s y.s).filter (capT x y)=(andS x y).s:=rise_one (List.Pairwise.filter _ (mergeT_rise _ _ _ (Nat.le_refl _) hx.s hy.s)) fa.s λt=>by
  have h:=hst t;rw[List.mem_filter,mergeT_mem t _ _ _ (Nat.le_refl _),<-hasT_iff,<-hasT_iff,<-hasT_iff (l:=(andS x y).s)];unfold hasStr at h;unfold capT;rw[hc]at h;revert h;cases hasT x.s t<;>cases hasT y.s t<;>cases x.c<;>cases y.c<;>cases hasT (andS x y).s t<;>simp
 unfold andD;rw[e1,e2,e3,<-hc]
end Arb

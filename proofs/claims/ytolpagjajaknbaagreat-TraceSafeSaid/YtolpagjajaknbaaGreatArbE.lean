/-
  A part of the proof: two abstract machines for the code, and what the program does on them. No condition.
-/
import Derived.Test.YtolpagjajaknbaaGreatArbD
set_option linter.all false
namespace ay
open Go ao
attribute [local simp] aS Option.map_some a7 step cw fJ bp az M.aG M.run M.ok M.fresh M.write M.look M.lift bT ev aP dV an dT dq ar bin fX cU db mk params bh load bB di ep dQ dn dB idx len valid eu ea bound store bl un callee Option.bind_some M.bind cz
def cr (H:Hp) (nx:Nat):Prop:=∀k,4*nx<=k->get H k=none
structure Ext (H:Hp) (nx:Nat) (H':Hp) (aW:Nat):Prop where
 le:nx<=aW
 fresh:cr H' aW
 bu:∀k,k<4*nx->get H' k=get H k
theorem Ext.refl {H:Hp} {nx aW:Nat} (h:cr H nx) (hn:nx<=aW):Ext H nx H aW:=⟨hn,λk hk=>h k (by omega),λ_ _=>rfl⟩
theorem Ext.trans {H H' Yr:Hp} {n n' Ms:Nat} (a:Ext H n H' n') (b:Ext H' n' Yr Ms):Ext H n Yr Ms:=⟨Nat.le_trans a.le b.le,b.fresh,λk hk=>(b.bu k (by have:=a.le;omega)).trans (a.bu k hk)⟩
def PY (H:Hp) (v:AV) (x:Xp):Prop:=v = .iv (.ptr x.enc)\/∃id,v = .ref id 0 0 0/\get H id=some (.cells (x.enc.map .iv))
def xh:S:=⟨false,[],false,[]⟩
def jo (a:Int) (s:S):Bool:=a==0&&kb s xh
def iF:Xp->Bool
 |.mk k a s sub=>if k=1 then decide (0<=a)&&(decide (a<4)&&(decide (sub.length=0)&&(dp s&&fF s))) else if k=2\/k=3 then jo a s else if k=4 then jo a s&&decide (sub.length=1) else false
mutual
def iG:Xp->Bool
 |.mk k a s sub=>pL sub&&iF (.mk k a s sub)
def pL:List Xp->Bool
 |[]=>true
 |x::l=>iG x&&pL l
end
section
variable {p1:Nat->Option ao.aA} {p2:Nat->Option aA}
set_option maxHeartbeats 1000000 in
theorem W9 (bF:bW p2) (FI:p1 17=some ao.La) (AK:p1 32=some ao.DH) (AM:p1 33=some ao.DI) (FJ:p1 58=some ao.Lf) (AN:p1 24=some ao.GX) (h:p2 192=some E7) {x:Xp} (hx:x.ok) (v:AV) (H:Hp) (nx:Nat) (hv:PY H v x) :
  ∃aW,nx<=aW/\Ev p1 p2 192 [v] H nx (.bI (iF x),H,aW):=by
 obtain @⟨k,a,s,sub,hk,ha,hs,hl, -⟩:=hx;generalize hX:Xp.mk k a s sub=X at hv;have da:iF X=if k=1 then decide (0<=a)&&(decide (a<4)&&(decide (sub.length=0)&&(dp s&&fF s))) else if k=2\/k=3 then jo a s else if k=4 then jo a s&&decide (sub.length=1) else false:=by rw[<-hX];rfl
 obtain⟨K1,ct⟩:=ao.Hy AK AM FI s xh hs.li hs.ls;obtain⟨K2,cZ⟩:=ao.Fl FJ s hs.li hs.ls;obtain⟨K3,fP⟩:=ao.Fk AN s;have key:Wp p1 p2 E7.body ⟨params [v] 0,H,nx⟩ (λe st=>∃r:AV×Hp×Nat,(r.1 = .bI (iF X)/\nx<=r.2.2/\r.2.1=H)/\Fin E7.res r e st):=by
  refine aj ?_;refine cq (K:=K1) (s':=⟨[(0,v),(3,.bI (jo a s))],H,nx+15⟩) (λn hn=>by
   have e1:=ct n hn;change(one p1 n 17 _ []).bind shut=_ at e1;simp only[S.av,xh,List.map_nil]at e1;unfold jo;subst hX;cases HR:a==0 with
   |false=>
    rcases hv with rfl | ⟨id,rfl,h3⟩
    ·simp[Xp.enc,Xp.cJ,HR]
    ·simp[h3,Xp.enc,Xp.cJ,HR]
   |true=>
    rcases hv with rfl | ⟨id,rfl,h3⟩
    ·simp[dF,bZ,fz,flat,ew,eI,eZ,kX,ks,Xp.enc,Xp.cJ,HR,e1,xh]
    ·simp[dF,bZ,fz,flat,ew,eI,eZ,kX,ks,h3,Xp.enc,Xp.cJ,HR,e1,xh]) ?_
  refine af (au (s':=⟨[(0,v),(3,.bI (jo a s)),(20,.nI k)],H,nx+19⟩) (by
   subst hX;rcases hv with rfl | ⟨id,rfl,h3⟩
   ·simp[Xp.enc,Xp.cJ]
   ·simp[h3,Xp.enc,Xp.cJ]) ?_)
  refine aq (au (s':=⟨[(0,v),(3,.bI (jo a s)),(20,.nI k),(21,.bI (decide (k=1)))],H,nx+21⟩) (by
   have:(k==1)=decide (k=1):=by by_cases h:k=1<;>simp[h]
   simp[this]) ?_)
  refine ag rfl ?_;by_cases k1:k=1
  ·rw[decide_eq_true k1];rw[if_pos k1]at da;simp only[if_true];refine cq (K:=max K2 K3) (s':=⟨[(2,.bI (iF X))],H,nx+56⟩) (λn hn=>by
    have e2:=cZ n (by omega);have e3:=fP n (by omega);change(one p1 n 58 _ []).bind shut=_ at e2;change(one p1 n 24 _ []).bind shut=_ at e3;simp only[S.av]at e2 e3;rw[da];have sa:(((sub.length:Nat):Int)==0)=decide (sub.length=0):=by
     by_cases h:sub.length=0
     ·rw[h];rfl
     ·rw[decide_eq_false h];exact beq_eq_false_iff_ne.2 (by omega)
    clear da;generalize decide (sub.length=0)=bz at sa;subst hX;cases c1:decide (0<=a)with
    |false=>
     rcases hv with rfl | ⟨id,rfl,h3⟩
     ·simp[Xp.enc,Xp.cJ,c1]
     ·simp[h3,Xp.enc,Xp.cJ,c1]
    |true=>
     cases c2:decide (a<4)with
     |false=>
      rcases hv with rfl | ⟨id,rfl,h3⟩
      ·simp[Xp.enc,Xp.cJ,c1,c2]
      ·simp[h3,Xp.enc,Xp.cJ,c1,c2]
     |true=>
      cases bz with
      |false=>
       rcases hv with rfl | ⟨id,rfl,h3⟩
       ·simp[Xp.enc,Xp.cJ,c1,c2,sa]
       ·simp[h3,Xp.enc,Xp.cJ,c1,c2,sa]
      |true=>
       cases c4:dp s with
       |false=>
        rw[c4]at e2;rcases hv with rfl | ⟨id,rfl,h3⟩
        ·simp[dF,bZ,fz,flat,ew,eI,eZ,kX,ks,Xp.enc,Xp.cJ,c1,c2,sa,e2]
        ·simp[dF,bZ,fz,flat,ew,eI,eZ,kX,ks,h3,Xp.enc,Xp.cJ,c1,c2,sa,e2]
       |true=>
        rw[c4]at e2;rcases hv with rfl | ⟨id,rfl,h3⟩
        ·simp[dF,bZ,fz,flat,ew,eI,eZ,kX,ks,Xp.enc,Xp.cJ,c1,c2,sa,e2,e3]
        ·simp[dF,bZ,fz,flat,ew,eI,eZ,kX,ks,h3,Xp.enc,Xp.cJ,c1,c2,sa,e2,e3]) ?_
   exact ax ⟨(_,_,_),⟨rfl,show nx<=nx+56 by omega,rfl⟩,rfl,rfl⟩
  ·rw[decide_eq_false k1];rw[if_neg k1]at da;simp only[Bool.false_eq_true,if_false];refine af (au (by
    have:(k==2)=decide (k=2):=by by_cases h:k=2<;>simp[h]
    simp[this];rfl) ?_)
   have P2:Wp p1 p2 (.cond (.t 57) .skip (.ff false [⟨some 59,.bin .eql 0 (.t 20) (.c (.nI (3))),none,[]⟩,⟨some 57,.eM (.t 59),none,[]⟩] [0,3,20,57]))
     ⟨[(0,v),(3,.bI (jo a s)),(20,.nI k),(57,.bI (decide (k=2)))],H,nx+23⟩
     (λe st=>e = .norm/\∃n2,nx<=n2/\st=⟨[(0,v),(3,.bI (jo a s)),(20,.nI k),(57,.bI (decide (k=2\/k=3)))],H,n2⟩):=by
    refine ag rfl ?_;by_cases k2:k=2
    ·rw[decide_eq_true k2];exact ak ⟨rfl,nx+23,by omega,by simp[k2]⟩
    ·rw[decide_eq_false k2];refine aD (by
      have:(k==3)=decide (k=3):=by by_cases h:k=3<;>simp[h]
      simp[this];rfl) ?_
     exact⟨rfl,nx+25,by omega,by simp[k2]⟩
   refine Wp.mono P2 ?_;rintro e st ⟨rfl,n2,r9,rfl⟩;simp only[Ex.then];refine ag rfl ?_;by_cases HS:k=2\/k=3
   ·rw[decide_eq_true HS];rw[if_pos HS]at da;simp only[if_true];refine aj ?_;refine ax ?_;rw[da];exact⟨(_,_,_),⟨rfl,show nx<=n2+2 by omega,rfl⟩,rfl,rfl⟩
   ·rw[decide_eq_false HS];rw[if_neg HS]at da;simp only[Bool.false_eq_true,if_false];refine au (by
     have:(k==4)=decide (k=4):=by by_cases h:k=4<;>simp[h]
     simp[this];rfl) ?_
    refine ag rfl ?_;by_cases k4:k=4
    ·rw[decide_eq_true k4];rw[if_pos k4]at da;simp only[if_true];refine au (s':=⟨[(2,.bI (jo a s&&decide (sub.length=1)))],H,n2+12⟩) (by
      have sa:(((sub.length:Nat):Int)==1)=decide (sub.length=1):=by
       by_cases h:sub.length=1
       ·rw[h];rfl
       ·rw[decide_eq_false h];exact beq_eq_false_iff_ne.2 (by omega)
      generalize decide (sub.length=1)=bz at sa;subst hX;cases c1:jo a s with
      |false=>
       rcases hv with rfl | ⟨id,rfl,h3⟩
       ·simp[Xp.enc,Xp.cJ]
       ·simp[h3,Xp.enc,Xp.cJ]
      |true=>
       rcases hv with rfl | ⟨id,rfl,h3⟩
       ·simp[Xp.enc,Xp.cJ,sa]
       ·simp[h3,Xp.enc,Xp.cJ,sa]) ?_
     refine ax ?_;rw[da];exact⟨(_,_,_),⟨rfl,show nx<=n2+12 by omega,rfl⟩,rfl,rfl⟩
    ·rw[decide_eq_false k4];rw[if_neg k4]at da;simp only[Bool.false_eq_true,if_false];refine ak ?_;simp only[Ex.then,Ex.inBlock];refine aj ?_;refine ax ?_;rw[da];exact⟨(_,_,_),⟨rfl,show nx<=n2+2+1 by omega,rfl⟩,rfl,rfl⟩
 obtain⟨⟨y,H',aW⟩,⟨rfl,h1,rfl⟩,h4⟩:=Ev.jn bF h rfl rfl _ key;exact⟨aW,h1,h4⟩
end
theorem xj:∀l:List Xp,pL l=l.all iG
 |[]=>by unfold pL;rfl
 |x::l=>by unfold pL;rw[List.all_cons,xj l]
def pM (x:Xp):Int×Int:=if(fu 8 x 0).2.2 then((fu 8 x 0).1,(fu 8 x 0).2.1) else(0,0)
def mA (x:Xp):Bool:=decide (0<(pM x).1)&&iG x
structure J1 (p1:Nat->Option ao.aA) (p2:Nat->Option aA):Prop where
 FI:p1 17=some ao.La
 AK:p1 32=some ao.DH
 AM:p1 33=some ao.DI
 FJ:p1 58=some ao.Lf
 AN:p1 24=some ao.GX
 Uw:p2 192=some E7
 Ux:p2 191=some E6
 Uy:p2 190=some BY
 Uz:p2 189=some JG
 UA:p2 186=some JF
section
variable {p1:Nat->Option ao.aA} {p2:Nat->Option aA}
set_option maxHeartbeats 1000000 in
theorem Xa (bF:bW p2) (L:J1 p1 p2) {x:Xp} (hx:x.ok):∀(v:AV) (H:Hp) (nx:Nat),PY H v x->∃aW,nx<=aW/\Ev p1 p2 189 [v] H nx (.bI (iG x),H,aW):=by
 have hx0:=hx
 induction hx with
 |@mk k a s sub hk ha hs hl eK ih=>
  intro v H nx hv;have h1:∀n,∃aW,n<=aW/\Ev p1 p2 192 [v] H n (.bI (iF (Xp.mk k a s sub)),H,aW):=λn=>W9 bF L.FI L.AK L.AM L.FJ L.AN L.Uw hx0 v H n hv
  generalize hX:Xp.mk k a s sub=X at hv h1;have dt:iG X=(pL sub&&iF X):=by rw[<-hX];conv=>lhs;unfold iG
  have key:Wp p1 p2 JG.body ⟨params [v] 0,H,nx⟩ (λe st=>∃r:AV×Hp×Nat,(r.1 = .bI (iG X)/\nx<=r.2.2/\r.2.1=H)/\Fin JG.res r e st):=by
   refine aj ?_;refine af (au (s':=⟨[(0,v),(8,.nI sub.length),(9,.nI 0)],H,nx+7⟩) (by
    subst hX;rcases hv with rfl | ⟨id,rfl,h3⟩
    ·simp[Xp.enc,Xp.cJ]
    ·simp[h3,Xp.enc,Xp.cJ]) ?_)
   refine aq ?_;refine b7 (λm s1=>∃(i n2:Nat),i+m=sub.length/\pL (sub.drop i)=pL sub/\nx<=n2/\s1=⟨[(0,v),(8,.nI sub.length),(9,.nI i)],H,n2⟩) (m:=sub.length) ⟨0,nx+7,by omega,rfl,by omega,rfl⟩ ?_;rintro m s1 ⟨i,n2,oC,hd,r9,rfl⟩;refine af ?_;by_cases hi:i<sub.length
   ·have hx:sub[i]?=some sub[i]:=List.getElem?_eq_getElem hi;have CX:sub.drop i=sub[i]::sub.drop (i+1):=List.drop_eq_getElem_cons hi;have kz:IntKind.i64.wrap ((i:Int)+1)=(i:Int)+1:=bw hi hl;obtain⟨n3,HO,K,hK⟩:=ih sub[i] (List.getElem_mem _) (eK _ (List.getElem_mem _)) (.iv (.ptr (sub[i]).enc)) H (n2+3+8) (.inl rfl);rw[CX]at hd
    conv at hd=>lhs;unfold pL
    generalize iG sub[i]=b at hd hK;refine aD (by simp[hi];rfl) ?_;refine af (ag (t:=true) rfl (ak (af (aq (au (by simp;rfl) ?_)))));refine cq (K:=K) (s':=⟨[(0,v),(8,.nI sub.length),(9,.nI i),(19,.bI !b)],H,n3⟩) (λn hn=>by
     have hc:=hK n hn;subst hX;rcases hv with rfl | ⟨id,rfl,h3⟩
     ·simp[Xp.enc,Xp.cJ,hx,hc]
     ·simp[h3,Xp.enc,Xp.cJ,hx,hc]) ?_
    refine ag rfl ?_;cases b with
    |false=>
     refine aj ?_;refine ax ?_;rw[dt,<-hd];exact⟨(_,_,_),⟨rfl,show nx<=n3+1 by omega,rfl⟩,rfl,rfl⟩
    |true=>
     refine ak ?_;simp only[Ex.then,Ex.inBlock];refine aD (by simp[kz];rfl) ?_;refine⟨m - 1,by omega,i+1,n3+2,by omega,by simpa using hd,by omega,by simp[aP,an]⟩
   ·have CX:sub.drop i=[]:=List.drop_eq_nil_of_le (by omega);rw[CX]at hd
    conv at hd=>lhs;unfold pL
    refine aD (by simp[hi];rfl) ?_;refine af (ag (t:=false) rfl (aO ?_));simp only[Ex.then,Ex.inBlock,if_true];refine af ?_;obtain⟨n3,HO,K,hK⟩:=h1 (n2+1+3);refine aI (K:=K) (λn hn=>by
     have hc:=hK n hn;simp[hc];rfl) ?_
    refine ax ?_;rw[dt,<-hd];exact⟨(_,_,_),⟨rfl,show nx<=n3 by omega,rfl⟩,rfl,rfl⟩
  obtain⟨⟨y,H',aW⟩,⟨rfl,q1,rfl⟩,h4⟩:=Ev.jn bF L.Uz rfl rfl _ key;exact⟨aW,q1,h4⟩
theorem Xb (bF:bW p2) (L:J1 p1 p2) {x:Xp} (hx:x.ok) (H:Hp) (nx:Nat) (hf:cr H nx):∃H' aW,Ext H nx H' aW/\Ev p1 p2 190 [.agg (x.enc.map .iv)] H nx (.bD [.iv (.int .i64 (pM x).1),.iv (.int .i64 (pM x).2)],H',aW):=by
 have f0:=hf (4*nx) (by omega);have f1:=hf (4*(nx+1)) (by omega);have g0:get (ay.set (ay.set H (4*nx) (Ob.cells (x.enc.map .iv))) (4*(nx+1)) (Ob.cells [.nI 0])) (4*nx)=some (.cells (x.enc.map .iv)):=by rw[aF _ _ (by omega),ar]
 obtain⟨H',n',fD,FQ,hold,K,hK⟩:=W4 (p1:=p1) bF L.Ux hx 8 0 (.ref (4*nx) 0 0 0) (ay.set (ay.set H (4*nx) (.cells (x.enc.map .iv))) (4*(nx+1)) (.cells [.nI 0])) (nx+3+6) (4*(nx+1))
  (by omega) (by omega) (by omega) (.inr ⟨4*nx,rfl,g0,by omega⟩) (ar _ _ _)
 have FU:∀(o:Ob) (n2:Nat),n'<=n2->Ext H nx (ay.set H' (4*(nx+1)) o) n2:=λo n2 h2=>⟨by omega,λk hk=>by
  rw[aF _ _ (by omega),hold k (by omega),aF _ _ (by omega),aF _ _ (by omega)];exact hf k (by omega),λk hk=>by
  rw[aF _ _ (by omega),hold k (by omega),aF _ _ (by omega),aF _ _ (by omega)]⟩
 have key:Wp p1 p2 BY.body ⟨params [.agg (x.enc.map .iv)] 0,H,nx⟩ (λe st=>∃r:AV×Hp×Nat,(r.1 = .bD [.iv (.int .i64 (pM x).1),.iv (.int .i64 (pM x).2)]/\Ext H nx r.2.1 r.2.2)/\Fin BY.res r e st):=by
  refine cq (K:=0) (λn _=>by
   have f2:get (ay.set H (4*nx) (Ob.cells (x.enc.map AV.iv))) (4*(nx+1))=none:=by rw[aF _ _ (by omega)];exact f1
   simp[f0,f2];rfl) ?_
  refine af ?_;unfold pM;generalize hr:fu 8 x 0=r at hK FQ;obtain⟨q,d,ok⟩:=r;refine aI (K:=K) (λn hn=>by
   have hc:=hK n hn;simp only[show((8:Nat):Int)=8 from rfl]at hc;simp[hc];rfl) ?_
  refine af (aj ?_);refine ag rfl ?_;cases ok with
  |false=>
   refine au (by simp[FQ];rfl) ?_;refine ax ⟨(_,_,_),⟨rfl,FU (.cells [.nI 0]) (n'+2+2) (by omega)⟩,?_,rfl⟩;simp[BY,ck,dJ,load,bB,mk,ev,aP,dV,M.look,M.bind,M.run,az,M.ok,M.lift,M.aG,ar]
  |true=>
   refine ak ?_;simp only[Ex.then];refine au (by simp[FQ];rfl) ?_;refine ax ⟨(_,_,_),⟨rfl,FU (.cells [.nI q]) (n'+2+4) (by omega)⟩,?_,rfl⟩;simp[BY,ck,dJ,load,bB,mk,ev,aP,dV,M.look,M.bind,M.run,az,M.ok,M.lift,M.aG,ar]
 obtain⟨⟨y,H',aW⟩,⟨rfl,h1⟩,h4⟩:=Ev.jn bF L.Uy rfl rfl _ key;exact⟨H',aW,h1,h4⟩
theorem Xc (bF:bW p2) (L:J1 p1 p2) {x:Xp} (hx:x.ok) (H:Hp) (nx:Nat) (hf:cr H nx):∃H' aW,Ext H nx H' aW/\Ev p1 p2 186 [.agg (x.enc.map .iv)] H nx (.bI (mA x),H',aW):=by
 have f0:=hf (4*nx) (by omega);have xk:cr (ay.set H (4*nx) (.cells (x.enc.map .iv))) (nx+2):=λk hk=>by rw[aF _ _ (by omega)];exact hf k (by omega)
 obtain⟨H',n',hE,K,hK⟩:=Xb (p1:=p1) bF L hx (ay.set H (4*nx) (.cells (x.enc.map .iv))) (nx+2+7) (λk hk=>xk k (by omega));have hg:get H' (4*nx)=some (.cells (x.enc.map .iv)):=by rw[hE.bu _ (by omega)];exact ar _ _ _
 obtain⟨n3,HO,K2,cZ⟩:=Xa (p1:=p1) bF L hx (.ref (4*nx) 0 0 0) H' (n'+6) (.inr ⟨4*nx,rfl,hg⟩);have FU:∀n2,n'<=n2->Ext H nx H' n2:=λn2 h2=>⟨by have:=hE.le;omega,λk hk=>hE.fresh k (by omega),λk hk=>by rw[hE.bu _ (by omega)];exact aF _ _ (by omega)⟩
 have key:Wp p1 p2 JF.body ⟨params [.agg (x.enc.map .iv)] 0,H,nx⟩ (λe st=>∃r:AV×Hp×Nat,(r.1 = .bI (mA x)/\Ext H nx r.2.1 r.2.2)/\Fin JF.res r e st):=by
  have hlen:(x.enc.map AV.iv).length=7:=by rw[List.length_map];exact x.kR
  have mB:(x.enc.map AV.iv).take 7=x.enc.map AV.iv:=List.take_of_length_le (by omega);refine au (by simp[f0];rfl) ?_;refine af ?_;unfold mA;generalize pM x=r at hK;obtain⟨q,d⟩:=r;generalize fI:x.enc.map AV.iv=cs at hlen mB hK;refine aI (K:=K) (λn hn=>by
   have hc:=hK n hn;simp[hlen,mB,hc];rfl) ?_
  refine af ?_;cases hq:decide (0<q)with
  |false=>
   refine aD (by simp[hq];rfl) ?_;exact ax ⟨(_,_,_),⟨rfl,FU (n'+6) (by omega)⟩,rfl,rfl⟩
  |true=>
   refine aI (K:=K2) (λn hn=>by
    have hc:=cZ n hn;simp[hq,hc];rfl) ?_
   exact ax ⟨(_,_,_),⟨rfl,FU n3 (by omega)⟩,rfl,rfl⟩
 obtain⟨⟨y,H',aW⟩,⟨rfl,h1⟩,h4⟩:=Ev.jn bF L.UA rfl rfl _ key;exact⟨H',aW,h1,h4⟩
end
end ay
namespace ao
open Go
theorem nB {l:List (Int×Int)} {n:Int}:po l n=true↔fK l n:=by
 simp[po,fK]
theorem Rh (x y:S) (v:V) (h:∀n,fK (kQ x y).i n↔fK x.i n\/fK y.i n):gK (kQ x y) v=(gK x v||gK y v):=by
 unfold gK;split
 ·rfl
 ·split
  ·rfl
  ·split
   ·rw[Bool.eq_iff_iff,Bool.or_eq_true,nB,nB,nB];exact h _
   ·exact A0 x y v.s
def E.ok (e:E):Prop:=∀i,i<4->dE (e.get i).n

end ao
namespace ao
open Go
attribute [local simp] aS Option.map_some a7 step cw bp az M.aG M.run M.ok M.fresh M.write M.look M.lift bT ao.set ev ao.get an bin cU db mk params bh load bB di ep dQ dn dB idx len valid eu bound store bl fV un eqs ly bn bH M.bN dw cL dC c9 meets dF dR callee bZ cE fz flat ew eI eZ Option.bind_some cz M.bind
section
variable {prog:Nat->Option aA}
end
section
variable {prog:Nat->Option aA}
end
def tq (l:List (Int×Int)):Nat->Bool
 |0=>match l[0]? with
  |some r=>decide (r.2<r.1)
  |none=>false
 |j+1=>match l[j+1]?,l[j]? with
  |some r,some p=>decide (r.2<r.1)||(decide (r.1<=p.2)||decide (r.1<=IntKind.wrap .i64 (p.2+1)))
  |_,_=>false
theorem Ri {l:List (Int×Int)} (h:dA l):∀i,tq l i=jr l i
 |0=>rfl
 |j+1=>by
  cases hr:l[j+1]? with
  |none=>simp only[tq,jr,hr]
  |some r=>
   cases hp:l[j]? with
   |none=>simp only[tq,jr,hr,hp]
   |some p=>
    have h1:=h p (List.mem_of_getElem? hp);have h2:=h r (List.mem_of_getElem? hr);unfold dE at h1 h2;simp only[tq,jr,hr,hp];cases hd:decide (r.1<=p.2)with
    |true=>simp
    |false=>
     have hd:=of_decide_eq_false hd;rw[IntWalk.i64_in (p.2+1) (by omega),IntWalk.i64_in (r.1 - 1) (by omega)];rw[show(decide (r.1<=p.2+1))=(r.1 - 1==p.2) by rw[Bool.eq_iff_iff];simp;omega]
section
variable {prog:Nat->Option aA}
theorem CY (h:prog 106=some By) (x:S):a8 prog 106 [x.av] (.bI (fF x)):=by
 refine a8.of h rfl rfl (au (by simp[S.av];rfl) ?_);refine au (s':=⟨[(2,.bI (fF x))],[(1000,.cells [.bI x.a,.iv (.sl 2 (x.i.map bM)),.bI x.c,.iv (.sl 1 (x.s.map st1))])],1832⟩) (by
  have e1:decide ((x.i.length:Int)<=6)=decide (x.i.length<=6):=decide_eq_decide.2 (by omega);have e2:decide ((x.s.length:Int)<=6)=decide (x.s.length<=6):=decide_eq_decide.2 (by omega);unfold fF;cases h1:decide (x.i.length<=6)<;>simp[e1,e2,h1]) ?_
 exact ax rfl
theorem Mt (h:prog 108=some IQ) (x:S):a8 prog 108 [x.av] (.bI (cS x)):=by
 refine a8.of h rfl rfl (au (by simp[S.av];rfl) ?_);refine au (s':=⟨[(2,.bI (cS x))],[(1000,.cells [.bI x.a,.iv (.sl 2 (x.i.map bM)),.bI x.c,.iv (.sl 1 (x.s.map st1))])],2472⟩) (by
  have e1:((x.i.length:Int)==0)=(x.i.length==0):=by rw[Bool.eq_iff_iff];simp
  have e2:((x.s.length:Int)==0)=(x.s.length==0):=by rw[Bool.eq_iff_iff];simp
  cases b0:x.a<;>cases b1:x.i.length==0<;>cases b2:x.c<;>simp[cS,e1,e2,b0,b1,b2]) ?_
 exact ax rfl
theorem yG {x:S} {i:Nat} (hi:i<x.i.length) (h:jr x.i i=true):dp x=false:=by
 unfold dp;rw[Bool.and_eq_false_iff];left;rw[List.all_eq_false];exact⟨i,List.mem_range.2 hi,by simp[h]⟩
theorem GM {x:S} {i:Nat} (hi:i<x.s.length) (h:lq x.s i=true):dp x=false:=by
 unfold dp;rw[Bool.and_eq_false_iff];right;rw[List.all_eq_false];exact⟨i,List.mem_range.2 hi,by simp[h]⟩
theorem GN {x:S} (h1:∀i,i<x.i.length->jr x.i i=false) (h2:∀i,i<x.s.length->lq x.s i=false):dp x=true:=by
 unfold dp;simp only[Bool.and_eq_true,List.all_eq_true,List.mem_range,Bool.not_eq_true'];exact⟨h1,h2⟩
set_option maxHeartbeats 4000000 in
theorem CZ (h:prog 105=some Bx) (x:S) (hx:x.ok):a8 prog 105 [x.av] (.bI (dp x)):=by
 have hb:∀i,tq x.i i=jr x.i i:=Ri hx.ri;have li:=hx.li;have ls:=hx.ls;unfold maxLen at li ls;refine a8.of h rfl rfl (au (by simp[S.av];rfl) ?_);refine af (aj ?_);refine aq ?_;refine bQ x.i.length (λi=>⟨[(1,.ref 1000 0 0 0),(3,.nI i)],[(1000,.cells [.bI x.a,.iv (.sl 2 (x.i.map bM)),.bI x.c,.iv (.sl 1 (x.s.map st1))])],1192⟩) (λi=>∀j,j<i->jr x.i j=false) rfl (λj hj=>absurd hj (Nat.not_lt_zero _)) ?_ ?_
 ·intro i hi hg;have cK:(i:Int)<x.i.length:=by omega
  obtain⟨r,hr⟩:∃r,x.i[i]?=some r:=⟨_,List.getElem?_eq_getElem hi⟩;refine af (au (by simp[hi];rfl) ?_);refine ag rfl (ak (af (aq (au (by simp[hr,bM];rfl) ?_))));refine af (aj ?_);refine ag rfl ?_;cases hd:decide (r.2<r.1)with
  |true=>
   refine aj ?_;refine ax ?_;have Z1:jr x.i i=true:=by
    rw[<-hb];cases i with
    |zero=>simp[tq,hr,of_decide_eq_true hd]
    |succ j=>
     obtain⟨p,hp⟩:∃p,x.i[j]?=some p:=⟨_,List.getElem?_eq_getElem (by omega)⟩;simp[tq,hr,hp,of_decide_eq_true hd]
   rw[yG hi Z1];rfl
  |false=>
   refine ak (af ?_);refine aI (K:=0) (s':=⟨[(1,.ref 1000 0 0 0),(3,.nI i),(49,.bI (tq x.i i))],[(1000,.cells [.bI x.a,.iv (.sl 2 (x.i.map bM)),.bI x.c,.iv (.sl 1 (x.s.map st1))]),(1832,.cells [.nI r.1,.nI r.2])],4008⟩) (λn _=>cM rfl (by
    cases i with
    |zero=>simp[tq,hr,hd]
    |succ j=>
     obtain⟨p,hp⟩:∃p,x.i[j]?=some p:=⟨_,List.getElem?_eq_getElem (by omega)⟩;have dG:x.i[j]'(by omega)=p:=(List.getElem?_eq_some_iff.1 hp).2;have jy:(0:Int)<(j:Int)+1:=by omega
     have EK:(0:Int)<=(j:Int)+1:=by omega
     have iX:IntKind.wrap .i64 ((j:Int))=(j:Int):=IntWalk.i64_in _ (by omega);have sQ:j<x.i.length:=by omega
     cases h1:decide (r.1<=p.2)<;>simp[tq,hr,hd,dG,jy,iX,sQ,bM,h1])) ?_
   refine ag rfl ?_;rw[hb];cases sE:jr x.i i with
   |true=>
    refine aj ?_;refine ax ?_;rw[yG hi sE];rfl
   |false=>
    refine ak ?_;refine bK ?_;refine⟨by simp[again,an,get,bG,nrm,bw hi hx.li],λj hj=>?_⟩;by_cases qP:j=i
    ·rw[qP];exact sE
    ·exact hg j (by omega)
 ·intro hg;refine af (aj ?_);refine ag rfl (aO ?_);simp only[Ex.then,Ex.inBlock,if_true];refine af (aj ?_);refine aq ?_;refine bQ x.s.length (λi=>⟨[(1,.ref 1000 0 0 0),(5,.nI i)],[(1000,.cells [.bI x.a,.iv (.sl 2 (x.i.map bM)),.bI x.c,.iv (.sl 1 (x.s.map st1))])],1576⟩) (λi=>∀j,j<i->lq x.s j=false) rfl (λj hj=>absurd hj (Nat.not_lt_zero _)) ?_ ?_
  ·intro i hi UB;have cK:(i:Int)<x.s.length:=by omega
   obtain⟨r,hr⟩:∃r,x.s[i]?=some r:=⟨_,List.getElem?_eq_getElem hi⟩;have jY:x.s[i]'(by omega)=r:=(List.getElem?_eq_some_iff.1 hr).2;have he:decide ((8:Int)<r.size)=decide (8<r.size):=decide_eq_decide.2 (by omega);refine af (au (by simp[hi];rfl) ?_);refine ag rfl (ak (af (aq (af ?_))));refine aI (K:=0) (s':=⟨[(1,.ref 1000 0 0 0),(5,.nI i),(81,.bI (lq x.s i))],[(1000,.cells [.bI x.a,.iv (.sl 2 (x.i.map bM)),.bI x.c,.iv (.sl 1 (x.s.map st1))])],3496⟩) (λn _=>cM rfl (by
    cases i with
    |zero=>cases h1:decide (8<r.size)<;>simp[lq,hr,he,h1,st1]
    |succ j=>
     obtain⟨p,hp⟩:∃p,x.s[j]?=some p:=⟨_,List.getElem?_eq_getElem (by omega)⟩;have dG:x.s[j]'(by omega)=p:=(List.getElem?_eq_some_iff.1 hp).2;have jy:(0:Int)<(j:Int)+1:=by omega
     have EK:(0:Int)<=(j:Int)+1:=by omega
     have iX:IntKind.wrap .i64 ((j:Int))=(j:Int):=IntWalk.i64_in _ (by omega);have sQ:j<x.s.length:=by omega
     cases h1:decide (8<r.size)<;>simp[lq,jY,he,h1,dG,EK,jy,iX,sQ,hi,st1])) ?_
   refine ag rfl ?_;cases sE:lq x.s i with
   |true=>
    refine aj ?_;refine ax ?_;rw[GM hi sE];rfl
   |false=>
    refine ak ?_;refine bK ?_;refine⟨by simp[again,an,get,bG,nrm,bw hi hx.ls],λj hj=>?_⟩;by_cases qP:j=i
    ·rw[qP];exact sE
    ·exact UB j (by omega)
  ·intro UB;refine af (aj ?_);refine ag rfl (aO ?_);simp only[Ex.then,Ex.inBlock,if_true];refine aj ?_;refine ax ?_;rw[GN hg UB];rfl
set_option maxHeartbeats 1000000 in
theorem Mu (u7:prog 105=some Bx) (h:prog 100=some Na) (b:B) (hb:b.ok):a8 prog 100 [b.av] (.bI (jC dp b)):=by
 refine a8.of h rfl rfl (au (by simp[-cE, -fz,B.av,B.cI];rfl) ?_);refine af (aj ?_);refine aq ?_;refine bQ 4 (λi=>⟨[(1,.ref 1000 0 0 0),(3,.nI i)],[(1000,.cells b.cs)],1192⟩) (λi=>∀j,j<i->dp (b.get j)=true) rfl (λj hj=>absurd hj (Nat.not_lt_zero _)) ?_ ?_
 ·intro i hi hg;have cK:(i:Int)<4:=by omega
  have hm:min 4 (16 - i*4)=4:=by omega
  refine af (au (by simp[cK];rfl) ?_);refine ag rfl (ak (af (aq (af ?_))));obtain⟨K,hK⟩:=CZ u7 (b.get i) (hb.at hi);refine aI (K:=K) (λn hn=>by
   have e1:=hK n hn;simp only[S.av]at e1;generalize aZ prog n=g at e1;simp[cK,B.iY b hi,e1];rfl) ?_
  refine ag rfl ?_;cases hr:dp (b.get i)with
  |false=>
   refine aj ?_;refine ax ?_;rw[rh hi hr];rfl
  |true=>
   refine ak ?_;refine bK ?_;refine⟨by simp[again,an,get,cC,eP,bG,B.cT,gS hi],λj hj=>?_⟩;by_cases qP:j=i
   ·rw[qP];exact hr
   ·exact hg j (by omega)
 ·intro hg;refine af (aj ?_);refine ag rfl (aO ?_);simp only[Ex.then,Ex.inBlock,if_true];refine aj ?_;refine ax ?_;rw[sN hg];rfl
set_option maxHeartbeats 1000000 in
theorem Mv (u9:prog 106=some By) (h:prog 101=some Nb) (b:B) (_hb:b.ok):a8 prog 101 [b.av] (.bI (jC fF b)):=by
 refine a8.of h rfl rfl (au (by simp[-cE, -fz,B.av,B.cI];rfl) ?_);refine af (aj ?_);refine aq ?_;refine bQ 4 (λi=>⟨[(1,.ref 1000 0 0 0),(3,.nI i)],[(1000,.cells b.cs)],1192⟩) (λi=>∀j,j<i->fF (b.get j)=true) rfl (λj hj=>absurd hj (Nat.not_lt_zero _)) ?_ ?_
 ·intro i hi hg;have cK:(i:Int)<4:=by omega
  have hm:min 4 (16 - i*4)=4:=by omega
  refine af (au (by simp[cK];rfl) ?_);refine ag rfl (ak (af (aq (af ?_))));obtain⟨K,hK⟩:=CY u9 (b.get i);refine aI (K:=K) (λn hn=>by
   have e1:=hK n hn;simp only[S.av]at e1;generalize aZ prog n=g at e1;simp[cK,B.iY b hi,e1];rfl) ?_
  refine ag rfl ?_;cases hr:fF (b.get i)with
  |false=>
   refine aj ?_;refine ax ?_;rw[rh hi hr];rfl
  |true=>
   refine ak ?_;refine bK ?_;refine⟨by simp[again,an,get,cC,eP,bG,B.cT,gS hi],λj hj=>?_⟩;by_cases qP:j=i
   ·rw[qP];exact hr
   ·exact hg j (by omega)
 ·intro hg;refine af (aj ?_);refine ag rfl (aO ?_);simp only[Ex.then,Ex.inBlock,if_true];refine aj ?_;refine ax ?_;rw[sN hg];rfl
set_option maxHeartbeats 1000000 in
theorem C0 (FV:prog 108=some IQ) (h:prog 103=some Nc) (b:B) (_hb:b.ok):a8 prog 103 [b.av] (.bI (eW cS b)):=by
 refine a8.of h rfl rfl (au (by simp[-cE, -fz,B.av,B.cI];rfl) ?_);refine af (aj ?_);refine aq ?_;refine bQ 4 (λi=>⟨[(1,.ref 1000 0 0 0),(3,.nI i)],[(1000,.cells b.cs)],1192⟩) (λi=>∀j,j<i->cS (b.get j)=false) rfl (λj hj=>absurd hj (Nat.not_lt_zero _)) ?_ ?_
 ·intro i hi hg;have cK:(i:Int)<4:=by omega
  refine af (au (by simp[cK];rfl) ?_);refine ag rfl (ak (af (aq (af ?_))));obtain⟨K,hK⟩:=Mt FV (b.get i);refine aI (K:=K) (λn hn=>by
   have e1:=hK n hn;simp only[S.av]at e1;generalize aZ prog n=g at e1;simp[cK,B.iY b hi,e1];rfl) ?_
  refine ag rfl ?_;cases hr:cS (b.get i)with
  |true=>
   refine aj ?_;refine ax ?_;rw[CG hi hr];rfl
  |false=>
   refine ak ?_;refine bK ?_;refine⟨by simp[again,an,get,cC,eP,bG,B.cT,gS hi],λj hj=>?_⟩;by_cases qP:j=i
   ·rw[qP];exact hr
   ·exact hg j (by omega)
 ·intro hg;refine af (aj ?_);refine ag rfl (aO ?_);simp only[Ex.then,Ex.inBlock,if_true];refine aj ?_;refine ax ?_;rw[uS hg];rfl
end
structure UC (prog:Nat->Option aA):Prop where
 Ys:prog 98=some X1
 Yt:prog 99=some R6
 UD:prog 100=some Na
 UE:prog 101=some Nb
 Ol:prog 103=some Nc
 u7:prog 105=some Bx
 u9:prog 106=some By
 FV:prog 108=some IQ
section
variable {prog:Nat->Option aA}
end
end ao
namespace ay
open Go ao
def sb (b:B):List AV:=b.enc.map AV.iv
theorem Mw (w:Bool) (b:B):M.aG (fz w 7) (sb b) = .ret b.enc:=by simp[sb,B.enc,S.enc,M.aG,fz,M.bind]
theorem ub (w:Bool):∀l:List B,M.aG (M.aG (fz w 7)) (l.map sb) = .ret (l.map B.enc)
 |[]=>rfl
 |b::l=>by rw[List.map_cons,M.aG,Mw,M.bind,ub w l];rfl
def LB (H:Hp) (n:Nat) (y:AV) (l:List B):Prop:=
 (y = .iv (.aV 16)/\l=[])\/y = .iv (.sl 16 (l.map B.enc))\/∃id,id<4*n/\y = .own id 0 l.length 0/\(get H id=some (.buf 0 16 (l.map sb))\/get H id=some (.cm 0 16 (l.map B.enc)))
theorem LB.mono {H H':Hp} {n n':Nat} {y:AV} {l:List B} (h:LB H n y l) (hn:n<=n') (ho:∀k,k<4*n->get H' k=get H k):LB H' n' y l:=by
 rcases h with h | h | ⟨id,h1,h2,h3⟩
 ·exact .inl h
 ·exact .inr (.inl h)
 ·exact .inr (.inr ⟨id,by omega,h2,by rw[ho id h1];exact h3⟩)
theorem LB.ext {H H':Hp} {n n':Nat} {y:AV} {l:List B} (h:LB H n y l) (e:Ext H n H' n'):LB H' n' y l:=h.mono e.le e.bu
theorem LB.len {H:Hp} {n:Nat} {y:AV} {l:List B} (h:LB H n y l):(ay.len false y).run H=some (.nI l.length,H):=by
 rcases h with⟨rfl,rfl⟩|rfl | ⟨id,h1,rfl,h3 | h3⟩
 ·rfl
 ·simp[ay.len,M.run]
 ·simp[ay.len,M.run,M.look,az,h3,M.ok,M.bind]
 ·simp[ay.len,M.run,M.look,az,h3,M.ok,M.bind]
theorem LB.elems {H:Hp} {n:Nat} {y:AV} {l:List B} (h:LB H n y l):(ay.kO 16 y).run H=some (l.map sb,H):=by
 have h0:(l.map B.enc).map (λr=>r.map AV.iv)=l.map sb:=by rw[List.map_map];rfl
 rcases h with⟨rfl,rfl⟩|rfl | ⟨id,h1,rfl,h3 | h3⟩
 ·rfl
 ·simp only[ay.kO,ay.elems,az,M.ok];simp[M.run,h0,sb]
 ·simp[ay.kO,ay.elems,M.run,M.look,az,h3,M.ok,M.bind,List.take_of_length_le]
 ·simp[ay.kO,ay.elems,M.run,M.look,az,h3,M.ok,M.bind,List.take_of_length_le,sb]
theorem LB.HT {H:Hp} {n:Nat} {y:AV} {l:List B} (h:LB H n y l):(bZ false y).run H=some (.iv (.sl 16 (l.map B.enc)),H):=by
 rcases h with⟨rfl,rfl⟩|rfl | ⟨id,h1,rfl,h3 | h3⟩
 ·rfl
 ·rfl
 ·have hh:((l.map sb).drop 0).take l.length=l.map sb:=by simp[List.take_of_length_le]
  unfold bZ fz;simp[M.run,M.look,az,h3,M.ok,M.bind,hh,ub,List.take_of_length_le]
 ·unfold bZ fz;simp[M.run,M.look,az,h3,M.ok,M.bind,List.take_of_length_le]
theorem LB.bZ {H:Hp} {n:Nat} {y:AV} {l:List B} (h:LB H n y l):∃H',(ay.bZ true y).run H=some (.iv (.sl 16 (l.map B.enc)),H')/\(∀k,4*n<=k->get H' k=get H k)/\(∀(m:Nat) (y':AV) (l':List B),LB H m y' l'->LB H' m y' l')/\
  (∀k,y≠.own k 0 l.length 0->get H' k=get H k):=by
 rcases h with⟨rfl,rfl⟩|rfl | ⟨id,h1,rfl,h3 | h3⟩
 ·exact⟨H,rfl,λ_ _=>rfl,λ_ _ _ h=>h,λ_ _=>rfl⟩
 ·exact⟨H,rfl,λ_ _=>rfl,λ_ _ _ h=>h,λ_ _=>rfl⟩
 ·refine⟨ay.set H id (.cm 0 16 (l.map B.enc)),?_,λk hk=>aF _ _ (by omega),λm y' l' h=>?_,λk hk=>aF _ _ λe=>hk (by rw[e])⟩
  ·unfold ay.bZ ay.fz;simp[M.run,M.look,az,h3,M.ok,M.bind,ub,M.write,List.take_of_length_le]
  ·rcases h with h | h | ⟨ed,q1,q2,q3⟩
   ·exact .inl h
   ·exact .inr (.inl h)
   ·refine .inr (.inr ⟨ed,q1,q2,?_⟩);by_cases he:id=ed
    ·subst he;right;rw[ar];rcases q3 with q3 | q3
     ·rw[h3]at q3;simp only[Option.some.injEq,Ob.buf.injEq,true_and]at q3;have:l.map B.enc=l'.map B.enc:=by
       have h1:=ub false l;have h2:=ub false l';rw[q3]at h1;rw[h1]at h2;exact M.ret.inj h2
      rw[this]
     ·rw[h3]at q3;simp at q3
    ·rw[aF _ _ he];exact q3
 ·refine⟨H,?_,λ_ _=>rfl,λ_ _ _ h=>h,λ_ _=>rfl⟩;unfold ay.bZ ay.fz;simp[M.run,M.look,az,h3,M.ok,M.bind,List.take_of_length_le]
end ay
namespace ay
open Go ao
attribute [local simp] aS Option.map_some a7 step cw fJ bp az M.aG M.run M.ok M.fresh M.write M.look M.lift bT ev aP dV an dT dq ar bin fX cU db mk params bh load bB di ep dQ dn dB idx len valid eu ea bound store bl un callee Option.bind_some M.bind cz
def zB:List AV:=[.iv (.bool false),.iv (.aV 2),.iv (.bool false),.iv (.aV 1),.iv (.bool false),.iv (.aV 2),.iv (.bool false),.iv (.aV 1),.iv (.bool false),.iv (.aV 2),.iv (.bool false),.iv (.aV 1),.iv (.bool false),.iv (.aV 2),.iv (.bool false),.iv (.aV 1)]
section
variable {p1:Nat->Option ao.aA} {p2:Nat->Option aA}
theorem Rj (bF:bW p2) (h:p2 188=some Fb) (H:Hp) (nx:Nat):∃aW,nx<=aW/\Ev p1 p2 188 [.iv (.aV 16),.nI 0] H nx (.iv (.aV 16),H,aW):=by
 refine⟨nx+15,by omega,Ev.of bF h rfl rfl (af ?_)⟩;refine bK ?_;refine af (aj ?_);refine ag (t:=false) rfl (ak ?_);simp only[Ex.then];refine af (au (by simp[pd,show IntKind.i64.wrap 0=0 from by decide];rfl) ?_);refine aj ?_;refine ag (t:=false) rfl (ak ?_);simp only[Ex.then];refine aj ?_;exact ax ⟨rfl,rfl⟩
theorem Rk (bF:bW p2) (h:p2 188=some Fb) (H:Hp) (nx:Nat) (hf:cr H nx) (m:Nat) (h0:0<m) (hm:m<=1000) :
  ∃aW id,nx+18<aW/\id=4*(nx+18)/\Ev p1 p2 188 [.iv (.aV 16),.nI m] H nx (.own id 0 0 0,ay.set H id (.buf 0 16 (List.replicate m zB)),aW):=by
 have EK:¬(m:Int)<0:=by omega
 have jy:(0:Int)<m:=by omega
 have iX:¬(m:Int)=0:=by omega
 have sQ:m≠0:=by omega
 have hw:IntKind.i64.wrap (m:Int)=m:=IntWalk.i64_in _ (by omega);have hr:roomy m=true:=by simp only[roomy,Nat.ble_eq];omega
 have eJ:get H (4*(nx+18))=none:=hf _ (by omega);refine⟨nx+25,4*(nx+18),by omega,rfl,Ev.of bF h rfl rfl (af ?_)⟩;refine bK ?_;refine af (au (by simp[EK];rfl) ?_);refine ag (t:=false) rfl (ak ?_);simp only[Ex.then];refine af (au (by simp[pd,show IntKind.i64.wrap 0=0 from by decide,hw];rfl) ?_);refine au (by simp[h0];rfl) ?_;refine ag (t:=true) rfl ?_;simp only[if_true];refine aD (by
  simp[pd,qt,hr,sQ,eJ,zB];rfl) ?_
 simp only[Ex.then];refine aj ?_;exact ax ⟨rfl,rfl⟩
def lV (l1 l2:List B) (i:Nat):Nat:=if i=0 then 0 else if i=1 then l1.length else l1.length+l2.length
def oH (l1 l2:List B) (i:Nat):List (List AV):=
 if i=0 then List.replicate (l1.length+l2.length) zB else if i=1 then l1.map sb++List.replicate l2.length zB else(l1++l2).map sb
theorem J2 (l1 l2:List B) (i:Nat):(oH l1 l2 i).length=l1.length+l2.length:=by unfold oH;split<;>(try split)<;>simp
set_option maxHeartbeats 1000000 in
theorem Xd (bF:bW p2) (FW:p2 188=some Fb) (h:p2 187=some Fa) (H:Hp) (nx vN:Nat) (y1 y2:AV) (l1 l2:List B) (UF:vN<4*nx) (hr:get H vN=some (.buf 0 1 [[y1],[y2]])) (hf:cr H nx)
  (A7:LB H nx y1 l1) (Yu:LB H nx y2 l2) (hl:l1.length+l2.length<=1000):∃H' aW y,Ext H nx H' aW/\LB H' aW y (l1++l2)/\(∀k o n w,y = .own k o n w->4*nx<=k)/\Ev p1 p2 187 [.own vN 0 2 0] H nx (y,H',aW):=by
 have key:Wp p1 p2 Fa.body ⟨params [.own vN 0 2 0] 0,H,nx⟩ (λe st=>∃r:AV×Hp×Nat,(Ext H nx r.2.1 r.2.2/\LB r.2.1 r.2.2 r.1 (l1++l2)/\∀k o n w,r.1 = .own k o n w->4*nx<=k)/\Fin Fa.res r e st):=by
  refine aj ?_;refine aj ?_;refine af (au (by simp[hr];rfl) ?_);refine aq ?_;refine b7 (λm s1=>∃(i n2:Nat),i+m=2/\nx<=n2/\s1=⟨[(0,.own vN 0 2 0),(3,.nI (lV l1 l2 i)),(9,.own vN 0 2 0),(10,.nI 2),(11,.nI i)],H,n2⟩) (m:=2) ⟨0,nx+5,rfl,by omega,by simp[aP,an,lV]⟩ ?_;rintro m s1 ⟨i,n2,oC,r9,rfl⟩;refine af ?_;by_cases hi:i<2
  ·have cK:(i:Int)<2:=by omega
   obtain⟨rows,oi,hr⟩:∃rows,rows=[[y1],[y2]]/\get H vN=some (.buf 0 1 rows):=⟨_,rfl,hr⟩;obtain⟨y,l,hy,vG,ht⟩:∃y l,rows[i]?=some [y]/\LB H nx y l/\lV l1 l2 (i+1)=lV l1 l2 i+l.length:=by
    subst oi
    match i,hi with
    |0,_=>exact⟨y1,l1,rfl,A7,by simp[lV]⟩
    |1,_=>exact⟨y2,l2,rfl,Yu,by simp[lV]⟩
   have tF:lV l1 l2 i+l.length<=1000:=by rw[<-ht];unfold lV;split<;>(try split)<;>omega
   have hlen:=vG.len;have hwt:IntKind.i64.wrap ((lV l1 l2 i:Int)+(l.length:Int))=((lV l1 l2 (i+1):Nat):Int):=by rw[IntWalk.i64_in _ (by omega),ht];omega
   have Z2:¬((lV l1 l2 (i+1):Nat):Int)<0:=by omega
   have kz:IntKind.i64.wrap ((i:Int)+1)=((i+1:Nat):Int):=by rw[IntWalk.i64_in _ (by omega)];omega
   refine aD (by simp[cK];rfl) ?_;refine af (ag (t:=true) rfl (ak (af (aq (au (by simp[hr,cK,hy];rfl) ?_)))));refine au (by simp[-len,hlen,hwt];rfl) ?_;refine au (by simp[Z2];rfl) ?_;refine ag (t:=false) rfl (ak ?_);simp only[Ex.then,Ex.inBlock];refine aD (by simp[kz];rfl) ?_;exact⟨m - 1,by omega,i+1,n2+9+2+2,by omega,by omega,by simp[aP,an]⟩
  ·obtain rfl:i=2:=by omega
   refine bK ?_;refine af (ag (t:=false) rfl (aO ?_));simp only[Ex.then,Ex.inBlock,if_true];refine af ?_;have Mx:lV l1 l2 2=l1.length+l2.length:=rfl;obtain⟨n3,y3,H3,b8,oI,oS⟩:∃(n3:Nat) (y3:AV) (H3:Hp),Ext H nx H3 n3/\((l1.length+l2.length=0/\y3 = .iv (.aV 16))\/∃id,id<4*n3/\4*nx<=id/\y3 = .own id 0 0 0/\get H3 id=some (.buf 0 16 (oH l1 l2 0)))/\
     Ev p1 p2 188 [.iv (.aV 16),.nI (lV l1 l2 2:Nat)] H (n2+1+3) (y3,H3,n3):=by
    rw[Mx];by_cases h0:l1.length+l2.length=0
    ·obtain⟨n3,HO,oS⟩:=Rj (p1:=p1) bF FW H (n2+1+3);rw[h0];exact⟨n3,_,H,.refl hf (by omega),.inl ⟨rfl,rfl⟩,oS⟩
    ·obtain⟨n3,id,HO,cV,oS⟩:=Rk (p1:=p1) bF FW H (n2+1+3) (λk hk=>hf k (by omega)) (l1.length+l2.length) (by omega) hl;exact⟨n3,_,_,⟨by omega,λk hk=>by rw[aF _ _ (by omega)];exact hf k (by omega),λk hk=>aF _ _ (by omega)⟩,.inr ⟨id,by omega,by omega,rfl,ar _ _ _⟩,oS⟩
   obtain⟨K,hK⟩:=oS;refine aI (K:=K) (λn hn=>by
    have hc:=hK n hn;simp[hc];rfl) ?_
   have A8:get H3 vN=some (.buf 0 1 [[y1],[y2]]):=by rw[b8.bu _ UF];exact hr
   refine af (au (by simp[A8];rfl) ?_);refine aq ?_;refine b7 (λm s1=>∃(i n4:Nat) (y4:AV) (H4:Hp),i+m=2/\n3<=n4/\Ext H nx H4 n3/\((l1.length+l2.length=0/\y4 = .iv (.aV 16))\/∃id,id<4*n3/\4*nx<=id/\y4 = .own id 0 (lV l1 l2 i) 0/\get H4 id=some (.buf 0 16 (oH l1 l2 i)))/\
    s1=⟨[(6,y4),(25,.own vN 0 2 0),(26,.nI 2),(27,.nI i)],H4,n4⟩) (m:=2) ⟨0,n3+3,y3,H3,rfl,by omega,b8,oI,by simp[aP,an]⟩ ?_
   rintro m s1 ⟨i,n4,y4,H4,oC,UG,ei,My,rfl⟩;have Mz:get H4 vN=some (.buf 0 1 [[y1],[y2]]):=by rw[ei.bu _ UF];exact hr
   refine af ?_;by_cases hi:i<2
   ·have cK:(i:Int)<2:=by omega
    have PO:=A7.ext ei;have FX:=Yu.ext ei;obtain⟨rows,oi,Mz⟩:∃rows,rows=[[y1],[y2]]/\get H4 vN=some (.buf 0 1 rows):=⟨_,rfl,Mz⟩;obtain⟨y,l,hy,vG,ht,Cm⟩:∃y l,rows[i]?=some [y]/\LB H4 n3 y l/\lV l1 l2 (i+1)=lV l1 l2 i+l.length/\ao.bl (oH l1 l2 i) (lV l1 l2 i) (l.map sb)=oH l1 l2 (i+1):=by
     subst oi
     match i,hi with
     |0,_=>exact⟨y1,l1,rfl,PO,by simp[lV],by simp[ao.bl,oH,lV]⟩
     |1,_=>exact⟨y2,l2,rfl,FX,by simp[lV],by simp[ao.bl,oH,lV]⟩
    have MA:=vG.elems;have hle:lV l1 l2 i+l.length<=l1.length+l2.length:=by rw[<-ht];unfold lV;split<;>(try split)<;>omega
    have kz:IntKind.i64.wrap ((i:Int)+1)=((i+1:Nat):Int):=by rw[IntWalk.i64_in _ (by omega)];omega
    refine aD (by simp[cK];rfl) ?_;refine af (ag (t:=true) rfl (ak (af (aq (au (by simp[Mz,cK,hy];rfl) ?_)))));rcases My with⟨h0,rfl⟩|⟨id,cV,J3,rfl,J4⟩
    ·have qI:l=[]:=List.eq_nil_of_length_eq_zero (by omega);subst qI;refine aD (by simp[app,MA];rfl) ?_;simp only[Ex.then,Ex.inBlock];refine aD (by simp[kz];rfl) ?_;exact⟨m - 1,by omega,i+1,n4+8+2,_,H4,by omega,by omega,ei,.inl ⟨h0,rfl⟩,by simp[aP,an]⟩
    ·have HK:=J2 l1 l2 i;refine aD (s':=⟨[(6,.own id 0 (lV l1 l2 (i+1)) 0),(25,.own vN 0 2 0),(26,.nI 2),(27,.nI i)],ay.set H4 id (.buf 0 16 (oH l1 l2 (i+1))),n4+8⟩) (by
      rw[<-Cm,ht];simp[-bl,app,MA,J4,HK,hle]) ?_
     simp only[Ex.then,Ex.inBlock];refine aD (by simp[kz];rfl) ?_;refine⟨m - 1,by omega,i+1,n4+8+2,_,_,by omega,by omega,⟨ei.le,λk hk=>by rw[aF _ _ (by omega)];exact ei.fresh k hk,λk hk=>by rw[aF _ _ (by omega)];exact ei.bu k hk⟩,
      .inr ⟨id,cV,J3,rfl,ar _ _ _⟩,by simp[aP,an]⟩
   ·obtain rfl:i=2:=by omega
    refine bK ?_;refine af (ag (t:=false) rfl (aO ?_));simp only[Ex.then,Ex.inBlock,if_true];refine aj ?_;refine ax ⟨(y4,H4,n4+1+2),⟨⟨by have:=ei.le;show nx<=n4+1+2;omega,λk hk=>ei.fresh k (by simp only at hk;omega),ei.bu⟩,?_,?_⟩,rfl,rfl⟩
    case refine_2=>
     rintro k o n w hw;rcases My with⟨h0,rfl⟩|⟨id,cV,J3,rfl,J4⟩
     ·cases hw
     ·cases hw;exact J3
    rcases My with⟨h0,rfl⟩|⟨id,cV,J3,rfl,J4⟩
    ·have e1:l1=[]:=List.eq_nil_of_length_eq_zero (by omega);have e2:l2=[]:=List.eq_nil_of_length_eq_zero (by omega);subst e1 e2;exact .inl ⟨rfl,rfl⟩
    ·refine .inr (.inr ⟨id,by show id<4*(n4+1+2);omega,?_,.inl J4⟩);rw[Mx,List.length_append]
 obtain⟨⟨y,H',aW⟩,⟨h1,h2,h3⟩,h4⟩:=Ev.jn bF h rfl rfl _ key;exact⟨H',aW,y,h1,h2,h3,h4⟩
end
end ay
namespace ay
open Go ao
mutual
def hC:Xp->Nat
 |.mk _ _ _ sub=>1+ec sub
def ec:List Xp->Nat
 |[]=>0
 |x::l=>hC x+ec l
end
def ij (both:Bool) (l m:List B):List B:=if both then eB (gI l m) else eB (l++m)
mutual
def bX:Bool->Xp->List B×Int
 |neg,.mk k a s sub=>if k=1 then(eB [bL.put a.toNat (if neg then eF s else s)],0) else if k=4 then qj (!neg) sub else fh neg (decide (k=2) != neg) sub (if decide (k=2) != neg then[bL] else[])
def qj:Bool->List Xp->List B×Int
 |_,[]=>([],0)
 |neg,x::_=>bX neg x
def fh:Bool->Bool->List Xp->List B->List B×Int
 |_,_,[],l=>(l,0)
 |neg,both,x::r,l=>if(bX neg x).2≠0 then([],(bX neg x).2) else if 16<(ij both l (bX neg x).1).length then([],4) else fh neg both r (ij both l (bX neg x).1)
end
theorem vb:qx.lim 1 0:=⟨by simp[qx],by simp[qx],λp hp=>by simp[qx]at hp;subst hp;unfold dE;omega⟩
theorem sS:bL.lim 1 0:=by
 intro i hi
 match i,hi with
 |0,_=>exact vb
 |1,_=>exact vb
 |2,_=>exact vb
 |3,_=>exact vb
theorem Rl {b:B} {s:S} {n m:Nat} (hb:b.lim n m) (hs:s.lim n m) (i:Nat):(b.put i s).lim n m:=by
 intro j hj;unfold B.put;have h0:=hb 0 (by omega);have h1:=hb 1 (by omega);have h2:=hb 2 (by omega);have h3:=hb 3 (by omega);split<;>(match j,hj with
  |0,_=>first | exact hs | exact h0
  |1,_=>first | exact hs | exact h1
  |2,_=>first | exact hs | exact h2
  |3,_=>first | exact hs | exact h3)
theorem lu {b:B} {n m n' m':Nat} (h:b.lim n m) (hn:n<=n') (hm:m<=m'):b.lim n' m':=λi hi=>(h i hi).mono hn hm
theorem Qe {s:S} (h:s.ok) (hs:fF s=true):s.lim 6 6:=by
 simp only[fF,Bool.and_eq_true,decide_eq_true_eq]at hs;exact⟨hs.1,hs.2,h.ri⟩
theorem nS {l:List B} {b:B} (h:b ∈ eB l):b ∈ l:=A3 h
theorem xl (l:List B):(eB l).length<=l.length:=rl l _
theorem xm {a b:List B} {c:B} (h:c ∈ gI a b):∃x ∈ a,∃y ∈ b,c=dW x y:=by
 unfold gI jT at h;rw[List.mem_flatMap]at h;obtain⟨x,hx,h⟩:=h;rw[List.mem_filter,List.mem_map]at h;obtain⟨⟨y,hy,rfl⟩, -⟩:=h;exact⟨x,hx,y,hy,rfl⟩
theorem xn {both:Bool} {l m:List B} {n k n' k':Nat} (hl:∀b ∈ l,b.lim n k) (hm:∀b ∈ m,b.lim n' k'):∀b ∈ ij both l m,b.lim (n+n'+3) (k+k'):=by
 intro b hb;unfold ij at hb;split at hb
 ·obtain⟨x,hx,y,hy,rfl⟩:=xm (nS hb);exact u3 (hl x hx) (hm y hy)
 ·rcases List.mem_append.1 (nS hb)with h | h
  ·exact lu (hl b h) (by omega) (by omega)
  ·exact lu (hm b h) (by omega) (by omega)
theorem rF {k a:Int} {s:S} {sub:List Xp} (h:iG (.mk k a s sub)=true):(∀x ∈ sub,iG x=true)/\iF (.mk k a s sub)=true:=by
 unfold iG at h;rw[Bool.and_eq_true,xj,List.all_eq_true]at h;exact h
theorem sc {a:Int} {s:S} {sub:List Xp} (h:iF (.mk 1 a s sub)=true):0<=a/\a<4/\fF s=true:=by
 unfold iF at h;simp only[if_true,Bool.and_eq_true,decide_eq_true_eq]at h;exact⟨h.1,h.2.1,h.2.2.2.2⟩
theorem xZ {a:Int} {s:S} {sub:List Xp} (h:iF (.mk 4 a s sub)=true):∃x,sub=[x]:=by
 unfold iF at h;simp at h
 match sub,h.2 with
 |[x],_=>exact⟨x,rfl⟩
theorem nh {s:S} (h:s.ok) (hs:fF s=true) (neg:Bool) (i:Nat):(bL.put i (if neg then eF s else s)).lim 7 6:=by
 refine Rl (lu sS (by omega) (by omega)) ?_ i;cases neg
 ·exact(Qe h hs).mono (by omega) (by omega)
 ·exact pq (Qe h hs)
theorem qk {x:Xp} (hx:x.ok):∀neg,iG x=true->(∀b ∈ (bX neg x).1,b.lim (10*hC x - 3) (6*hC x))/\(bX neg x).1.length<=16:=by
 induction hx with
 |@mk k a s sub hk ha hs hl eK ih=>
  intro neg dt;obtain⟨lv,da⟩:=rF dt;have hc:hC (.mk k a s sub)=1+ec sub:=by conv=>lhs;unfold hC
  rw[hc]
  conv=>lhs;unfold bX
  conv=>rhs;unfold bX
  by_cases k1:k=1
  ·subst k1;simp only[if_true];obtain⟨-, -,sw⟩:=sc da;refine⟨λb hb=>?_,Nat.le_trans (xl _) (by simp)⟩;have:=nS hb;simp only[List.mem_singleton]at this;subst this;exact lu (nh hs sw neg a.toNat) (by omega) (by omega)
  ·simp only[if_neg k1];by_cases k4:k=4
   ·subst k4;simp only[if_true];obtain⟨x,rfl⟩:=xZ da;have:=ih x (by simp) (!neg) (lv x (by simp))
    conv=>lhs;unfold qj
    conv=>rhs;unfold qj
    have fe:ec [x]=hC x:=by unfold ec;unfold ec;rfl
    rw[fe];exact⟨λb hb=>lu (this.1 b hb) (by omega) (by omega),this.2⟩
   ·simp only[if_neg k4];generalize(decide (k=2) != neg)=both;have key:∀(r:List Xp) (l:List B) (c:Nat),(∀x ∈ r,x ∈ sub)->(∀b ∈ l,b.lim (1+10*c) (6*c))->l.length<=16->
      (∀b ∈ (fh neg both r l).1,b.lim (1+10*(c+ec r)) (6*(c+ec r)))/\(fh neg both r l).1.length<=16:=by
     intro r
     induction r with
     |nil=>
      intro l c _ h1 h2;unfold fh ec;exact⟨h1,h2⟩
     |cons x r UH=>
      intro l c hr h1 h2;obtain⟨q1,q2⟩:=ih x (hr x (by simp)) neg (lv x (hr x (by simp)));have hcr:ec (x::r)=hC x+ec r:=by conv=>lhs;unfold ec
      have uJ:1<=hC x:=by cases x;unfold hC;omega
      rw[hcr];unfold fh;split
      ·exact⟨λb hb=>by simp at hb,by simp⟩
      ·split
       ·exact⟨λb hb=>by simp at hb,by simp⟩
       ·rename_i hlen;have hn:=xn (both:=both) h1 q1;have:=UH (ij both l (bX neg x).1) (c+hC x) (λy hy=>hr y (by simp[hy])) (λb hb=>lu (hn b hb) (by omega) (by omega)) (by omega);rw[Nat.add_assoc]at this;exact this
    have hk:=key sub (if both then[bL] else[]) 0 (λx hx=>hx) (λb hb=>by
     split at hb
     ·simp only[List.mem_singleton]at hb;subst hb;exact lu sS (by omega) (by omega)
     ·simp at hb) (by split<;>simp)
    rw[Nat.zero_add]at hk;exact⟨λb hb=>lu (hk.1 b hb) (by omega) (by omega),hk.2⟩
structure ve (p1:Nat->Option ao.aA) (p2:Nat->Option aA):Prop extends J1 p1 p2 where
 L9:xd p1
 JX:p1 115=some ao.DO
 UI:p1 121=some ao.IU
 Yv:p1 26=some ao.Pu
 P9:p1 19=some ao.Lb
 hA:a8 p1 42 [] bL.av
 UJ:p2 185=some th
 UK:p2 187=some Fa
 FW:p2 188=some Fb
def PZ (H:Hp) (n:Nat) (v:AV) (x:Xp):Prop:=v = .iv (.ptr x.enc)\/∃id,id<4*n/\v = .ref id 0 0 0/\get H id=some (.cells (x.enc.map .iv))
theorem PZ.ext {H H':Hp} {n n':Nat} {v:AV} {x:Xp} (h:PZ H n v x) (e:Ext H n H' n'):PZ H' n' v x:=by
 rcases h with h | ⟨id,h1,h2,h3⟩
 ·exact .inl h
 ·exact .inr ⟨id,by have:=e.le;omega,h2,by rw[e.bu id h1];exact h3⟩
theorem MB (w:Bool) (b:B):M.aG (fz w 7) (b.enc.map AV.iv) = .ret b.enc:=Mw w b
theorem zF:∀l:List IV,ln (l.map ao.AV.iv)=some l
 |[]=>rfl
 |x::l=>by simp[ln,zF l]
section
variable {p1:Nat->Option ao.aA} {p2:Nat->Option aA}
theorem call47 (L:ve p1 p2) {l:List B} (hl:l.length<=10000) (hL:∀b ∈ l,b.lim 1000 400):∃K,∀n,K<=n->∀(H H':Hp) (y:AV),(bZ true y).run H=some (.iv (.sl 16 (l.map B.enc)),H')->
  (dR (one p1 n) (.iv (.fn 47 [])) [y]).run H=some (.iv (.sl 16 ((eB l).map B.enc)),H'):=by
 obtain⟨K,hK⟩:=Mn L.L9 l hl hL;refine⟨K,λn hn H H' y hy=>?_⟩;have e:(one p1 n 47 [aT l] []).bind shut=some (aT (eB l)):=hK n hn;simp only[aT]at e;simp[dR,callee,az,M.lift,M.run,M.aG,hy,e,kX,ks]
theorem call121 (L:ve p1 p2) {a b:List B} (la:a.length<=1000) (lb:b.length<=1000) (ha:∀x ∈ a,x.lim 1000 400) (hb:∀x ∈ b,x.lim 1000 400):∃K,∀n,K<=n->∀(H H1 H2:Hp) (y z:AV),(bZ true y).run H=some (.iv (.sl 16 (a.map B.enc)),H1)->
  (bZ true z).run H1=some (.iv (.sl 16 (b.map B.enc)),H2)->(dR (one p1 n) (.iv (.fn 121 [])) [y,z]).run H=some (.iv (.sl 16 ((gI a b).map B.enc)),H2):=by
 obtain⟨K,hK⟩:=Mo L.L9 L.JX L.UI a b la lb ha hb;refine⟨K,λn hn H H1 H2 y z hy hz=>?_⟩;have e:(one p1 n 121 [aT a,aT b] []).bind shut=some (aT (gI a b)):=hK n hn;simp only[aT]at e;simp[dR,callee,az,M.lift,M.run,M.aG,hy,hz,e,kX,ks]
theorem call129 (L:ve p1 p2) {s:S} (h:s.lim 1000 400):∃K,∀n,K<=n->∀(H:Hp),(dR (one p1 n) (.iv (.fn 129 [])) [.agg (s.enc.map AV.iv)]).run H=some (.agg ((eF s).enc.map AV.iv),H)/\((dR (one p1 n) (.iv (.fn 129 [])) [.agg (s.enc.map AV.iv)]).bN H).2=[]:=by
 obtain⟨K,hK⟩:=Dy L.L9.toJV s (by have:=h.i;omega) (by have:=h.s;omega) h.k;refine⟨K,λn hn H=>?_⟩;have e:(one p1 n 129 [s.av] []).bind shut=some (eF s).av:=hK n hn;simp only[S.av]at e;constructor
 ·simp[dR,callee,az,M.lift,M.run,M.aG,bZ,fz,S.enc,M.bind,e,kX,ks,ln]
 ·simp[dR,callee,az,M.lift,M.run,M.aG,bZ,fz,S.enc,M.bind,e,kX,ks,ln,M.bN]
theorem call26 (L:ve p1 p2) (s:S) {i:Nat} (hi:i<4):∃K,∀n,K<=n->∀(H:Hp),(dR (one p1 n) (.iv (.fn 26 [])) [.nI i,.agg (s.enc.map AV.iv)]).run H=some (.agg ((bL.put i s).enc.map AV.iv),H):=by
 obtain⟨K,hK⟩:=Uf L.hA L.P9 L.Yv s hi;refine⟨K,λn hn H=>?_⟩;have e:(one p1 n 26 [.nI i,s.av] []).bind shut=some (.agg ((bL.put i s).enc.map ao.AV.iv)):=hK n hn;simp only[S.av]at e;simp[dR,callee,az,M.lift,M.run,M.aG,bZ,fz,S.enc,M.bind,e,kX,ks,zF]
end
end ay
namespace ay
open Go ao
attribute [local simp] aS Option.map_some a7 step cw fJ bp az M.aG M.run M.ok M.fresh M.write M.look M.lift bT ev aP dV an dT dq ar bin fX cU db mk params bh load bB di ep dQ dn dB idx len valid eu ea bound store bl un callee Option.bind_some M.bind cz
section
variable {p1:Nat->Option ao.aA} {p2:Nat->Option aA}
theorem xo (b:B):(b.enc.map AV.iv).length=16:=rfl
def Om:List aJ:=match th.body with
 |.seq _ (.seq _ (.seq (.seq _ (.block _ (.seq _ (.cond _ (.seq (.ff _ ops _) _) _)))) _))=>ops
 |_=>[]
def Oo:List aJ:=match th.body with
 |.seq _ (.seq _ (.seq (.seq _ (.block _ (.seq _ (.cond _ _ (.seq _ (.cond _ (.seq (.ff _ ops _) _) _)))))) _))=>ops
 |_=>[]
set_option maxHeartbeats 1000000 in
theorem Xe (L:ve p1 p2) {k a:Int} {s:S} {sub:List Xp} (hs:s.ok) (h:iG (.mk 1 a s sub)=true) (v:AV) (H:Hp) (nx:Nat) (hv:PZ H nx v (.mk k a s sub)) (hf:get H (4*(nx+10))=none) (fr:Fr) (eJ:fr=[(0,v),(1,.bI true),(6,.iv (.aV 16)),(7,.bI (decide (k=2) != true)),(57,.bI true)]) :
  ∃K,∀n,K<=n->aS (one p1 n) (fH p1 p2 n) true Om [4,5] ⟨fr,H,nx⟩=some ⟨[(4,.iv (.sl 16 ((eB [bL.put a.toNat (eF s)]).map B.enc))),(5,.nI 0)],
   ay.set (ay.set H (4*(nx+10)) (.buf 0 16 [(bL.put a.toNat (eF s)).enc.map AV.iv])) (4*(nx+10)) (.cm 0 16 [(bL.put a.toNat (eF s)).enc]),nx+14⟩:=by
 obtain⟨HR,ha4,sw⟩:=sc (rF h).2;obtain⟨i,rfl⟩:∃i:Nat,a=(i:Int):=⟨a.toNat,by omega⟩;have hi:i<4:=by omega
 have vE:(bL.put i (eF s)).lim 1000 400:=lu (nh hs sw true i) (by omega) (by omega);simp only[Int.toNat_natCast];obtain⟨K1,ct⟩:=call129 L ((Qe hs sw).mono (n':=1000) (m':=400) (by omega) (by omega));obtain⟨K2,cZ⟩:=call26 L (eF s) hi;obtain⟨K3,fP⟩:=call47 L (l:=[bL.put i (eF s)]) (by simp) (λb hb=>by simp only[List.mem_singleton]at hb;subst hb;exact vE);refine⟨max K1 (max K2 K3),λn hn=>?_⟩;have e1:=λH=>(ct n (by omega) H).1
 have d1:=λH=>(ct n (by omega) H).2
 have e2:=cZ n (by omega);have e3:=fP n (by omega);generalize eF s=t at *;generalize bL.put i t=b at *;generalize one p1 n=c1 at *;subst eJ;simp only[S.enc,List.map_cons,List.map_nil]at e1 e2 d1;have Qf:(bZ true (.own (4*(nx+10)) 0 1 0)).run (ay.set H (4*(nx+10)) (.buf 0 16 [b.enc.map AV.iv]))=some (.iv (.sl 16 [b.enc]),ay.set (ay.set H (4*(nx+10)) (.buf 0 16 [b.enc.map AV.iv])) (4*(nx+10)) (.cm 0 16 [b.enc])):=by
  unfold bZ fz;simp[M.run,M.look,az,ar,M.ok,M.bind,M.aG,MB,M.write]
 have MC:=e3 _ _ _ Qf;have hlen:=xo b;generalize b.enc.map AV.iv=cs at *;rcases hv with rfl | ⟨id,cV,rfl,h3⟩
 ·simp[Om,th,bn,Xp.enc,e1,e2,MC,hf,Nat.add_assoc,hlen,bO,bH];unfold dw;rw[Bool.or_eq_true];right;simp[cL,dC,c9,meets,M.bN,d1]
 ·simp[Om,th,bn,Xp.enc,e1,e2,MC,hf,h3,Nat.add_assoc,hlen,bO,bH];unfold dw;rw[Bool.or_eq_true];right;simp[cL,dC,c9,meets,M.bN,M.bind,M.ok,M.lift,mk,bB,Xp.enc,d1,h3]
set_option maxHeartbeats 1000000 in
theorem Xf (L:ve p1 p2) {k a:Int} {s:S} {sub:List Xp} (hs:s.ok) (h:iG (.mk 1 a s sub)=true) (v:AV) (H:Hp) (nx:Nat) (hv:PZ H nx v (.mk k a s sub)) (hf:get H (4*(nx+9))=none) (fr:Fr) (eJ:fr=[(0,v),(1,.bI false),(6,.iv (.aV 16)),(7,.bI (decide (k=2) != false)),(78,.bI true)]) :
  ∃K,∀n,K<=n->aS (one p1 n) (fH p1 p2 n) true Oo [4,5] ⟨fr,H,nx⟩=some ⟨[(4,.iv (.sl 16 ((eB [bL.put a.toNat s]).map B.enc))),(5,.nI 0)],
   ay.set (ay.set H (4*(nx+9)) (.buf 0 16 [(bL.put a.toNat s).enc.map AV.iv])) (4*(nx+9)) (.cm 0 16 [(bL.put a.toNat s).enc]),nx+13⟩:=by
 obtain⟨HR,ha4,sw⟩:=sc (rF h).2;obtain⟨i,rfl⟩:∃i:Nat,a=(i:Int):=⟨a.toNat,by omega⟩;have hi:i<4:=by omega
 have vE:(bL.put i s).lim 1000 400:=lu (nh hs sw false i) (by omega) (by omega);simp only[Int.toNat_natCast];obtain⟨K2,cZ⟩:=call26 L s hi;obtain⟨K3,fP⟩:=call47 L (l:=[bL.put i s]) (by simp) (λb hb=>by simp only[List.mem_singleton]at hb;subst hb;exact vE);refine⟨max K2 K3,λn hn=>?_⟩;have e2:=cZ n (by omega);have e3:=fP n (by omega);generalize bL.put i s=b at *;generalize one p1 n=c1 at *;subst eJ;simp only[S.enc,List.map_cons,List.map_nil]at e2;have Qf:(bZ true (.own (4*(nx+9)) 0 1 0)).run (ay.set H (4*(nx+9)) (.buf 0 16 [b.enc.map AV.iv]))=some (.iv (.sl 16 [b.enc]),ay.set (ay.set H (4*(nx+9)) (.buf 0 16 [b.enc.map AV.iv])) (4*(nx+9)) (.cm 0 16 [b.enc])):=by
  unfold bZ fz;simp[M.run,M.look,az,ar,M.ok,M.bind,M.aG,MB,M.write]
 have MC:=e3 _ _ _ Qf;have hlen:=xo b;generalize b.enc.map AV.iv=cs at *;rcases hv with rfl | ⟨id,cV,rfl,h3⟩
 ·simp[Oo,th,bn,Xp.enc,e2,MC,hf,Nat.add_assoc,hlen,bO,bH];unfold dw;rw[Bool.or_eq_true];right;simp[cL,dC,c9,meets,M.bN]
 ·simp[Oo,th,bn,Xp.enc,e2,MC,hf,h3,Nat.add_assoc,hlen,bO,bH];unfold dw;rw[Bool.or_eq_true];right;simp[cL,dC,c9,meets,M.bN,M.bind,M.ok,M.lift,mk,bB,Xp.enc,h3]
end
section
variable {p1:Nat->Option ao.aA} {p2:Nat->Option aA}
theorem LB.nil (H:Hp) (n:Nat):LB H n (.iv (.aV 16)) []:=.inl ⟨rfl,rfl⟩
theorem LB.sl (H:Hp) (n:Nat) (l:List B):LB H n (.iv (.sl 16 (l.map B.enc))) l:=.inr (.inl rfl)
theorem LB.cell {H:Hp} {n:Nat} {y:AV} {l:List B} (h:LB H n y l):bh y = .ret [y]:=by
 rcases h with⟨rfl, -⟩|rfl | ⟨id, -,rfl, -⟩<;>rfl
theorem Ext.set {H H':Hp} {n n' id:Nat} (h:Ext H n H' n') (h1:4*n<=id) (h2:id<4*n') (o:Ob):Ext H n (ay.set H' id o) n':=
 ⟨h.le,λk hk=>by rw[aF _ _ (by omega)];exact h.fresh k hk,λk hk=>by rw[aF _ _ (by omega)];exact h.bu k hk⟩
theorem Ext.up {H H':Hp} {n n' Ms:Nat} (h:Ext H n H' n') (hn:n'<=Ms):Ext H n H' Ms:=⟨Nat.le_trans h.le hn,λk hk=>h.fresh k (by omega),h.bu⟩
theorem Rm (bF:bW p2) (L:ve p1 p2) (both neg:Bool) {l m:List B} (hl:l.length<=16) (hm:m.length<=16) {q1 k1 q2 k2:Nat} (hL:∀b ∈ l,b.lim q1 k1) (hM:∀b ∈ m,b.lim q2 k2) (hq:q1+q2+3<=1000) (hk:k1+k2<=400) (v:AV) (a b c:AV) (y z:AV) (H:Hp) (nx n0:Nat) (mO:n0<=nx) (hf:cr H nx) (H0:Hp)
  (hE:Ext H0 n0 H nx) (hy:LB H nx y l) (hz:LB H nx z m) (Jc:∀k,(y = .own k 0 l.length 0\/z = .own k 0 m.length 0)->4*n0<=k) {Q:Ex->St->Prop}
  (hQ:∀(H':Hp) (aW:Nat),Ext H0 n0 H' aW->Q .norm ⟨[(0,v),(1,a),(6,.iv (.sl 16 ((ij both l m).map B.enc))),(7,.bI both),(25,b),(26,c)],H',aW⟩) :
  Wp p1 p2 (.seq (.ff false [⟨some 43,.eM (.t 7),none,[]⟩] [0,1,6,7,9,25,26,43])
  (.cond (.t 43) (.ff false [⟨some 44,.eM (.t 6),none,[]⟩,
  ⟨some 45,.eM (.t 9),none,[]⟩,
  ⟨some 46,.call 3 (.c (.iv (.fn 121 []))) [.t 44,.t 45],none,[]⟩,
  ⟨some 47,.call 3 (.c (.iv (.fn 47 []))) [.t 46],none,[]⟩,
  ⟨some 6,.eM (.t 47),none,[]⟩] [0,1,6,7,25,26])
  (.ff false [⟨some 48,.eM (.t 6),none,[]⟩,
  ⟨some 49,.eM (.t 9),none,[]⟩,
  ⟨some 50,.qF 1 [.iv (.aV 16)] 2 [(0,.t 48),(1,.t 49)],none,[]⟩,
  ⟨some 51,.nf (.c (.iv (.fn 187 []))) [.t 50],none,[]⟩,
  ⟨some 52,.call 3 (.c (.iv (.fn 47 []))) [.t 51],none,[]⟩,
  ⟨some 6,.eM (.t 52),none,[]⟩] [0,1,6,7,25,26])))
   ⟨[(0,v),(1,a),(6,y),(7,.bI both),(9,z),(25,b),(26,c)],H,nx⟩ Q:=by
 refine aj ?_;refine ag rfl ?_;have Yw:∀b ∈ l,b.lim 1000 400:=λb hb=>lu (hL b hb) (by omega) (by omega)
 have Yx:∀b ∈ m,b.lim 1000 400:=λb hb=>lu (hM b hb) (by omega) (by omega)
 cases both with
 |true=>
  simp only[if_true];obtain⟨K1,ct⟩:=call121 L (a:=l) (b:=m) (by omega) (by omega) Yw Yx;obtain⟨K2,cZ⟩:=call47 L (l:=gI l m) (Nat.le_trans (xf _ _) (Nat.le_trans (Nat.mul_le_mul hl hm) (by omega))) (λb hb=>by
   obtain⟨x,hx,y,hy,rfl⟩:=xm hb;exact lu (u3 (hL x hx) (hM y hy)) (by omega) (by omega))
  obtain⟨H1,f1,UL,Yy,UM⟩:=hy.bZ;obtain⟨H2,f2,f2a,f2b,f2c⟩:=(Yy _ _ _ hz).bZ;have dH:Ext H0 n0 H2 (nx+1+5):=by
   refine⟨by omega,λk hk=>?_,λk hk=>?_⟩
   ·rw[f2a k (by omega),UL k (by omega)];exact hf k (by omega)
   ·rw[f2c k (λe=>by have:=Jc k (.inr e);omega),UM k (λe=>by have:=Jc k (.inl e);omega)];exact hE.bu k hk
  refine aI (K:=max K1 K2) (s':=⟨[(0,v),(1,a),(6,.iv (.sl 16 ((ij true l m).map B.enc))),(7,.bI true),(25,b),(26,c)],H2,nx+1+5⟩) (λn hn=>by
   have e1:=ct n (by omega) H H1 H2 y z f1 f2;have e2:=cZ n (by omega) H2 H2 (.iv (.sl 16 ((gI l m).map B.enc))) rfl;have h3:ij true l m=eB (gI l m):=rfl;rw[h3];generalize eB (gI l m)=t at *;generalize gI l m=u at *;simp[e1,e2]) ?_
  exact hQ _ _ dH
 |false=>
  simp only[Bool.false_eq_true,if_false];obtain⟨K2,cZ⟩:=call47 L (l:=l++m) (by rw[List.length_append];omega) (λb hb=>(List.mem_append.1 hb).elim (Yw b) (Yx b));have eJ:get H (4*(nx+1+2))=none:=hf _ (by omega);obtain⟨H3,n3,w,b8,hw,hwo,K3,fP⟩:=Xd (p1:=p1) bF L.FW L.UK (ay.set H (4*(nx+1+2)) (.buf 0 1 [[y],[z]])) (nx+1+6) (4*(nx+1+2)) y z l m (by omega) (ar _ _ _) (λk hk=>by rw[aF _ _ (by omega)];exact hf k (by omega))
   (hy.mono (by omega) λk hk=>aF _ _ (by omega)) (hz.mono (by omega) λk hk=>aF _ _ (by omega)) (by omega)
  obtain⟨H4,f1,UL,Yy,UM⟩:=hw.bZ;have ei:Ext H0 n0 H4 n3:=by
   refine⟨by have:=b8.le;omega,λk hk=>?_,λk hk=>?_⟩
   ·rw[UL k (by omega)];exact b8.fresh k hk
   ·rw[UM k (λe=>by have:=hwo _ _ _ _ e;omega),b8.bu k (by omega),aF _ _ (by omega)];exact hE.bu k hk
  refine aI (K:=max K2 K3) (s':=⟨[(0,v),(1,a),(6,.iv (.sl 16 ((ij false l m).map B.enc))),(7,.bI false),(25,b),(26,c)],H4,n3⟩) (λn hn=>by
   have e1:=fP n (by omega);have e2:=cZ n (by omega) H3 H4 w f1;have h3:ij false l m=eB (l++m):=rfl;rw[h3];generalize eB (l++m)=t at *;simp only[Nat.add_assoc,Nat.reduceAdd]at e1 eJ;have c1:=hy.cell;have c2:=hz.cell;simp[-bh,c1,c2,eJ,bO,Nat.add_assoc,e1,e2]) ?_
  exact hQ _ _ ei
theorem GO (neg:Bool) (a:Int) (s:S) (sub:List Xp):bX neg (.mk 1 a s sub)=(eB [bL.put a.toNat (if neg then eF s else s)],0):=by
 conv=>lhs;unfold bX
 rw[if_pos rfl]
theorem x4 (x:Xp):1<=hC x:=by cases x;unfold hC;omega
theorem iU (z:Xp) (l:List Xp):ec (z::l)=hC z+ec l:=by conv=>lhs;unfold ec
theorem vf:ec []=0:=by unfold ec;rfl
theorem xp {sub:List Xp} {i:Nat} {x:Xp} (h:sub[i]?=some x):ec (sub.take (i+1))=ec (sub.take i)+hC x:=by
 have key:∀(l:List Xp) (y:Xp),ec (l++[y])=ec l+hC y:=by
  intro l y
  induction l with
  |nil=>rw[List.nil_append,iU,vf];omega
  |cons z l ih=>rw[List.cons_append,iU,iU,ih];omega
 rw[List.take_add_one,h];exact key _ _
theorem C1 (sub:List Xp) (i:Nat):ec sub=ec (sub.take i)+ec (sub.drop i):=by
 induction sub generalizing i with
 |nil=>simp[vf]
 |cons z l ih=>
  cases i with
  |zero=>simp[vf]
  |succ i=>rw[List.take_succ_cons,List.drop_succ_cons,iU,iU,ih i];omega
set_option maxHeartbeats 2000000 in
theorem Xg (bF:bW p2) (L:ve p1 p2) {x:Xp} (hx:x.ok):∀(neg:Bool) (v:AV) (H:Hp) (nx:Nat),iG x=true->hC x<=40->PZ H nx v x->cr H nx->
  ∃H' aW y,Ext H nx H' aW/\LB H' aW y (bX neg x).1/\(∀k o n w,y = .own k o n w->4*nx<=k)/\Ev p1 p2 185 [v,.bI neg] H nx (.bD [y,.iv (.int .i64 (bX neg x).2)],H',aW):=by
 induction hx with
 |@mk k a s sub hk ha hs hl eK ih=>
  intro neg v H nx dt zx hv hf;obtain⟨lv,da⟩:=rF dt;have UN:hC (.mk k a s sub)=1+ec sub:=by conv=>lhs;unfold hC
  rw[UN]at zx;have key:Wp p1 p2 th.body ⟨params [v,.bI neg] 0,H,nx⟩ (λe st=>∃r:AV×Hp×Nat,(∃y,r.1 = .bD [y,.iv (.int .i64 (bX neg (.mk k a s sub)).2)]/\Ext H nx r.2.1 r.2.2/\LB r.2.1 r.2.2 y (bX neg (.mk k a s sub)).1/\(∀k o n w,y = .own k o n w->4*nx<=k))/\Fin th.res r e st):=by
   refine aj ?_;refine aj ?_;refine af (af ?_);have xq:∀n:Int,(k==n)=decide (k=n):=λn=>by by_cases h:k=n<;>simp[h]
   refine aD (s':=⟨[(0,v),(1,.bI neg),(6,.iv (.aV 16)),(7,.bI (decide (k=2) != neg))],H,nx+11⟩) (by
    rcases hv with rfl | ⟨id,cV,rfl,h3⟩
    ·simp[Xp.enc,xq];cases decide (k=2)<;>cases neg<;>rfl
    ·simp[h3,Xp.enc,xq];cases decide (k=2)<;>cases neg<;>rfl) ?_
   refine aq (au (s':=⟨[(0,v),(1,.bI neg),(6,.iv (.aV 16)),(7,.bI (decide (k=2) != neg)),(57,.bI (decide (k=1)&&neg))],H,nx+20⟩) (by
    rcases hv with rfl | ⟨id,cV,rfl,h3⟩
    ·cases hb:decide (k=1)<;>simp[Xp.enc,xq,hb]
    ·cases hb:decide (k=1)<;>simp[h3,Xp.enc,xq,hb]) ?_)
   refine ag rfl ?_;by_cases k1:k=1
   ·subst k1;rw[GO];cases neg with
    |true=>
     simp only[decide_true,Bool.and_self,if_true];refine af ?_;have EL:PZ H (nx+20) v (.mk 1 a s sub):=hv.ext (.refl hf (by omega));obtain⟨K,hK⟩:=Xe L hs dt v H (nx+20) EL (hf _ (by omega)) _ rfl;refine aI (K:=K) (λn hn=>hK n hn) ?_;refine ax ⟨(_,_,_),⟨_,rfl,?_,LB.sl _ _ _,λk o n w h=>by cases h⟩,rfl,rfl⟩;exact((Ext.refl hf (show nx<=nx+20+14 by omega)).set (by omega) (by omega) _).set (by omega) (by omega) _
    |false=>
     simp only[decide_true,Bool.and_false,Bool.false_eq_true,if_false];refine au (s':=⟨[(0,v),(1,.bI false),(6,.iv (.aV 16)),(7,.bI (decide ((1:Int)=2) != false)),(78,.bI true)],H,nx+26⟩) (by
      rcases hv with rfl | ⟨id,cV,rfl,h3⟩
      ·simp[Xp.enc]
      ·simp[h3,Xp.enc]) ?_
     refine ag (t:=true) rfl ?_;simp only[if_true];refine af ?_;have EL:PZ H (nx+26) v (.mk 1 a s sub):=hv.ext (.refl hf (by omega));obtain⟨K,hK⟩:=Xf L hs dt v H (nx+26) EL (hf _ (by omega)) _ rfl;refine aI (K:=K) (λn hn=>hK n hn) ?_;refine ax ⟨(_,_,_),⟨_,rfl,?_,LB.sl _ _ _,λk o n w h=>by cases h⟩,rfl,rfl⟩;exact((Ext.refl hf (show nx<=nx+26+13 by omega)).set (by omega) (by omega) _).set (by omega) (by omega) _
   ·have hX:bX neg (.mk k a s sub)=if k=4 then qj (!neg) sub else fh neg (decide (k=2) != neg) sub (if decide (k=2) != neg then[bL] else[]):=by
     conv=>lhs;unfold bX
     rw[if_neg k1]
    rw[decide_eq_false k1];simp only[Bool.false_and,Bool.false_eq_true,if_false];refine au (s':=⟨[(0,v),(1,.bI neg),(6,.iv (.aV 16)),(7,.bI (decide (k=2) != neg)),(78,.bI false)],H,nx+26⟩) (by
     have:=decide_eq_false k1;rcases hv with rfl | ⟨id,cV,rfl,h3⟩
     ·simp[Xp.enc,xq,this]
     ·simp[h3,Xp.enc,xq,this]) ?_
    refine ag (t:=false) rfl ?_;simp only[Bool.false_eq_true,if_false];refine au (s':=⟨[(0,v),(1,.bI neg),(6,.iv (.aV 16)),(7,.bI (decide (k=2) != neg)),(95,.bI (decide (k=4)))],H,nx+32⟩) (by
     rcases hv with rfl | ⟨id,cV,rfl,h3⟩
     ·simp[Xp.enc,xq]
     ·simp[h3,Xp.enc,xq]) ?_
    refine ag rfl ?_;by_cases k4:k=4
    ·subst k4;rw[if_pos rfl]at hX;obtain⟨x0,rfl⟩:=xZ da;have hX2:bX neg (.mk 4 a s [x0])=bX (!neg) x0:=by rw[hX];unfold qj;rfl
     rw[hX2];simp only[decide_true,if_true];refine af ?_;have Sx:ec [x0]=hC x0:=by unfold ec;unfold ec;rfl
     obtain⟨H',n',y,hE,hy,xr,K,hK⟩:=ih x0 (by simp) (!neg) (.iv (.ptr x0.enc)) H (nx+32+12) (lv x0 (by simp)) (by omega) (.inl rfl) (λk hk=>hf k (by omega));generalize bX (!neg) x0=r at *;refine aI (K:=K) (s':=⟨[(4,y),(5,.nI r.2)],H',n'⟩) (λn hn=>by
      have hc:=hK n hn;rcases hv with rfl | ⟨id,cV,rfl,h3⟩
      ·simp[Xp.enc,Xp.cJ,hc]
      ·simp[h3,Xp.enc,Xp.cJ,hc]) ?_
     refine ax ⟨(_,_,_),⟨y,rfl,⟨by have:=hE.le;show nx<=n';omega,hE.fresh,λk hk=>hE.bu k (by omega)⟩,hy,λk o n w h=>by have:=xr k o n w h;omega⟩,rfl,rfl⟩
    ·rw[if_neg k4]at hX;rw[hX,decide_eq_false k4];simp only[Bool.false_eq_true,if_false];clear hX;generalize(decide (k=2) != neg)=both at *;refine af (aj ?_);generalize qI:(if both then[bL] else[])=l0;have Z3:Wp p1 p2 (.cond (.t 18) (.ff false [⟨some 19,.call 3 (.c (.iv (.fn 42 []))) [],none,[]⟩,
       ⟨some 20,.qF 16 [.bI false,.iv (.aV 2),.bI false,.iv (.aV 1),.bI false,.iv (.aV 2),.bI false,.iv (.aV 1),.bI false,.iv (.aV 2),.bI false,.iv (.aV 1),.bI false,.iv (.aV 2),.bI false,.iv (.aV 1)] 1 [(0,.t 19)],none,[]⟩,
       ⟨some 6,.eM (.t 20),none,[]⟩] [0,1,6,7]) .skip) ⟨[(0,v),(1,.bI neg),(6,.iv (.aV 16)),(7,.bI both),(18,.bI both)],H,nx+33⟩
       (λe st=>e = .norm/\∃(H0:Hp) (n0:Nat) (y0:AV),Ext H nx H0 n0/\LB H0 n0 y0 l0/\(∀k o n w,y0 = .own k o n w->4*nx<=k)/\∃z,(z=[]\/z=[(18,.bI false)])/\st=⟨[(0,v),(1,.bI neg),(6,y0),(7,.bI both)]++z,H0,n0⟩):=by
      refine ag rfl ?_;cases both with
      |false=>
       subst qI;exact ak ⟨rfl,H,nx+33,_,.refl hf (by omega),LB.nil _ _,(λk o n w h=>by cases h),[(18,.bI false)],.inr rfl,rfl⟩
      |true=>
       subst qI;simp only[if_true];obtain⟨K,hK⟩:=L.hA;have eJ:get H (4*(nx+34))=none:=hf _ (by omega);refine aI (K:=K) (s':=⟨_,ay.set H (4*(nx+34)) (.buf 0 16 [sb bL]),nx+36⟩) (λn hn=>by
        have e:(one p1 n 42 [] []).bind shut=some (.agg (bL.enc.map ao.AV.iv)):=hK n hn;have hlen:=xo bL;have hc:(dR (one p1 n) (.iv (.fn 42 [])) []).run H=some (.agg (bL.enc.map AV.iv),H):=by
         simp[dR,callee,az,M.lift,M.run,M.aG,e,kX,ks,zF]
        unfold sb;generalize bL.enc.map AV.iv=cs at *;simp[hc,eJ,hlen,bO,Nat.add_assoc];rfl) ?_
       exact⟨rfl,_,nx+36,_,(Ext.refl hf (show nx<=nx+36 by omega)).set (by omega) (by omega) _,.inr (.inr ⟨4*(nx+34),by omega,rfl,.inl (ar _ _ _)⟩),(λk o n w h=>by cases h;omega),[],.inl rfl,rfl⟩
     refine Wp.mono Z3 ?_;rintro e st ⟨rfl,H0,n0,y0,Yz,hy0,Z4,z,hz,rfl⟩;simp only[Ex.then];have LX:=hv.ext Yz;refine au (s':=⟨[(0,v),(1,.bI neg),(6,y0),(7,.bI both),(25,.nI sub.length),(26,.nI 0)],H0,n0+6⟩) (by
      rcases hz with rfl | rfl
      ·rcases LX with rfl | ⟨id,cV,rfl,h3⟩
       ·simp[Xp.enc,Xp.cJ]
       ·simp[h3,Xp.enc,Xp.cJ]
      ·rcases LX with rfl | ⟨id,cV,rfl,h3⟩
       ·simp[Xp.enc,Xp.cJ]
       ·simp[h3,Xp.enc,Xp.cJ]) ?_
     refine aq ?_;have Xh:∀b ∈ l0,b.lim (1+10*0) (6*0):=λb hb=>by
      rw[<-qI]at hb;split at hb
      ·simp only[List.mem_singleton]at hb;subst hb;exact lu sS (by omega) (by omega)
      ·simp at hb
     have Xi:l0.length<=16:=by rw[<-qI];split<;>simp
     refine b7 (λm s1=>∃(i n2:Nat) (y:AV) (H2:Hp) (l:List B),i+m=sub.length/\fh neg both (sub.drop i) l=fh neg both sub l0/\Ext H nx H2 n2/\LB H2 n2 y l/\(∀k o n w,y = .own k o n w->4*nx<=k)/\l.length<=16/\
      (∀b ∈ l,b.lim (1+10*ec (sub.take i)) (6*ec (sub.take i)))/\s1=⟨[(0,v),(1,.bI neg),(6,y),(7,.bI both),(25,.nI sub.length),(26,.nI i)],H2,n2⟩) (m:=sub.length)
      ⟨0,n0+6,y0,H0,l0,by omega,rfl,Yz.up (by omega),hy0.mono (by omega) λ_ _=>rfl,Z4,Xi,by simpa[vf]using Xh,by simp[aP,an]⟩ ?_
     rintro m s1 ⟨i,n2,y,H2,l,oC,hG,dH,hy,xr,hlen,UO,rfl⟩;refine af ?_;by_cases hi:i<sub.length
     ·have hx:sub[i]?=some sub[i]:=List.getElem?_eq_getElem hi;have CX:sub.drop i=sub[i]::sub.drop (i+1):=List.drop_eq_getElem_cons hi;have kz:IntKind.i64.wrap ((i:Int)+1)=(i:Int)+1:=bw hi hl;have hct:=xp hx;have hcd:=C1 sub (i+1);have EL:=hv.ext dH;obtain⟨q1,q2⟩:=qk (eK _ (List.getElem_mem hi)) neg (lv _ (List.getElem_mem hi));obtain⟨H3,n3,y3,b8,oI,Z5,K,hK⟩:=ih sub[i] (List.getElem_mem _) neg (.iv (.ptr (sub[i]).enc)) H2 (n2+3+13) (lv _ (List.getElem_mem _)) (by omega) (.inl rfl) (λk hk=>dH.fresh k (by omega));rw[CX]at hG
      conv at hG=>lhs;unfold fh
      have abx:1<=hC sub[i]:=x4 _;generalize hC sub[i]=cn at *;generalize bX neg sub[i]=r at *;obtain⟨m2,e⟩:=r;simp only at hG oI hK q1 q2;refine aD (by simp[hi];rfl) ?_;refine af (ag (t:=true) rfl (ak (af (aq (au (by simp;rfl) ?_)))));refine cq (K:=K) (s':=⟨[(0,v),(1,.bI neg),(6,y),(7,.bI both),(9,y3),(10,.nI e),(25,.nI sub.length),(26,.nI i)],H3,n3⟩) (λn hn=>by
       have hc:=hK n hn;rcases EL with rfl | ⟨id,cV,rfl,h3⟩
       ·simp[Xp.enc,Xp.cJ,hx,hc]
       ·simp[h3,Xp.enc,Xp.cJ,hx,hc]) ?_
      have qy:Ext H nx H3 n3:=dH.trans ⟨by have:=b8.le;omega,b8.fresh,λk hk=>b8.bu k (by omega)⟩;refine af (aj ?_);refine ag rfl ?_;by_cases he:e=0
      ·subst he;simp only[ne_eq,not_true_eq_false,if_false]at hG;refine ak ?_;simp only[Ex.then];refine af ?_;have tW:LB H3 (n3+2) y l:=hy.mono (by have:=b8.le;omega) λk hk=>b8.bu k (by omega)
       refine Rm bF L both neg hlen q2 UO q1 (by omega) (by omega) v (.bI neg) (.nI sub.length) (.nI i) y y3 H3 (n3+2) nx (by have:=qy.le;omega) (λk hk=>qy.fresh k (by omega)) H (qy.up (by omega)) tW (oI.mono (by omega) λ_ _=>rfl)
        (λk hk=>by
         rcases hk with hk | hk
         ·exact xr _ _ _ _ hk
         ·have:=Z5 _ _ _ _ hk;have:=dH.le;omega) ?_
       intro H4 n4 ei;simp only[Ex.then];have hnl:=xn (both:=both) UO q1;generalize ij both l m2=l4 at *;refine au (by
        have:decide ((16:Int)<(l4.length:Int))=decide (16<l4.length):=decide_eq_decide.2 (by omega);simp[this];rfl) ?_
       refine ag rfl ?_;by_cases vL:16<l4.length
       ·rw[if_pos vL]at hG;rw[decide_eq_true vL];simp only[if_true];refine aj ?_;refine ax ?_;rw[<-hG];exact⟨(_,_,_),⟨_,rfl,ei.up (show n4<=n4+3+2 by omega),LB.nil _ _,λk o n w h=>by cases h⟩,rfl,rfl⟩
       ·rw[if_neg vL]at hG;rw[decide_eq_false vL];simp only[Bool.false_eq_true,if_false];refine ak ?_;simp only[Ex.then,Ex.inBlock];refine aD (by simp[kz];rfl) ?_;refine⟨m - 1,by omega,i+1,n4+3+2,_,H4,l4,by omega,hG,ei.up (by omega),LB.sl _ _ _,(λk o n w h=>by cases h),by omega,λb hb=>lu (hnl b hb) (by omega) (by omega),by simp[aP,an]⟩
      ·have cA:(e==0)=false:=beq_eq_false_iff_ne.2 he;simp only[ne_eq,he,not_false_eq_true,if_true]at hG;rw[show(e != 0)=true from bne_iff_ne.2 he];simp only[if_true];refine aj ?_;refine ax ?_;rw[<-hG];exact⟨(_,_,_),⟨_,rfl,qy.up (show n3<=n3+2+3 by omega),LB.nil _ _,λk o n w h=>by cases h⟩,rfl,rfl⟩
     ·have CX:sub.drop i=[]:=List.drop_eq_nil_of_le (by omega);rw[CX]at hG
      conv at hG=>lhs;unfold fh
      refine aD (by simp[hi];rfl) ?_;refine af (ag (t:=false) rfl (aO ?_));simp only[Ex.then,Ex.inBlock,if_true];refine aj ?_;refine ax ?_;rw[<-hG];exact⟨(_,_,_),⟨y,rfl,dH.up (show n2<=n2+1+3 by omega),hy.mono (by show n2<=n2+1+3;omega) λ_ _=>rfl,xr⟩,rfl,rfl⟩
  obtain⟨⟨y,H',aW⟩,⟨y',rfl,h1,h2,h3⟩,h4⟩:=Ev.jn bF L.UJ rfl rfl _ key;exact⟨H',aW,y',h1,h2,h3,h4⟩
end
mutual
theorem vg:∀(x:Xp) (left:Nat) (p:Int),(fu left x p).2.2=true->(fu left x p).1=p+hC x
 |.mk k a s sub,left,p,h=>by
  unfold fu at h ⊢;unfold hC;split at h
  ·simp at h
  ·rename_i hs;rw[if_neg hs];have:=C2 sub (left - 1) (p+1) 0 h;rw[this];omega
theorem C2:∀(l:List Xp) (left:Nat) (p d:Int),(ig left l p d).2.2=true->(ig left l p d).1=p+ec l
 |[],left,p,d,h=>by unfold ig ec;simp
 |x::l,left,p,d,h=>by
  unfold ig at h ⊢;split at h
  ·rename_i cg;rw[if_pos cg];have h1:=vg x left p cg;have h2:=C2 l left _ _ h;rw[iU,h2,h1];omega
  ·simp at h
end
theorem xt {x:Xp} (h:mA x=true):hC x<=40/\iG x=true:=by
 unfold mA at h;rw[Bool.and_eq_true,decide_eq_true_eq]at h;refine⟨?_,h.2⟩;have h1:=h.1;unfold pM at h1;split at h1
 ·rename_i cg;have a:=vg x 8 0 cg;have b:=(B7 x 8 0 (by omega) (by omega)).2.2.2.2 cg;omega
 ·simp at h1
def lW (x:Xp):List B×Int:=if mA x then(if(bX false x).2=0/\fg (bX false x).1=true then((bX false x).1,0) else([],4)) else([],2)
section
variable {p1:Nat->Option ao.aA} {p2:Nat->Option aA}
structure Oq (p1:Nat->Option ao.aA) (p2:Nat->Option aA):Prop extends ve p1 p2 where
 h46:p1 46=some ao.Py
 Qa:p1 45=some ao.Px
 YA:p1 30=some ao.RY
 UP:p2 184=some JE
set_option maxHeartbeats 1000000 in
theorem Xj (bF:bW p2) (L:Oq p1 p2) {x:Xp} (hx:x.ok) (H:Hp) (nx:Nat) (hf:cr H nx):∃H' aW y,Ext H nx H' aW/\LB H' aW y (lW x).1/\(∀k o n w,y = .own k o n w->4*nx<=k)/\
  Ev p1 p2 184 [.agg (x.enc.map .iv)] H nx (.bD [y,.iv (.int .i64 (lW x).2)],H',aW):=by
 have f0:=hf (4*nx) (by omega);have hlen:(x.enc.map AV.iv).length=7:=by rw[List.length_map];exact x.kR
 have mB:(x.enc.map AV.iv).take 7=x.enc.map AV.iv:=List.take_of_length_le (by omega);have dy:Ext H nx (ay.set H (4*nx) (.cells (x.enc.map .iv))) (nx+3):=(Ext.refl hf (by omega)).set (by omega) (by omega) _;obtain⟨H1,n1,dH,K1,ct⟩:=Xc (p1:=p1) bF L.toJ1 hx (ay.set H (4*nx) (.cells (x.enc.map .iv))) (nx+3+3) (λk hk=>dy.fresh k (by omega));have qz:Ext H nx H1 n1:=dy.trans ⟨by have:=dH.le;omega,dH.fresh,λk hk=>dH.bu k (by omega)⟩;have hg:get H1 (4*nx)=some (.cells (x.enc.map .iv)):=by rw[dH.bu _ (by omega)];exact ar _ _ _
 have key:Wp p1 p2 JE.body ⟨params [.agg (x.enc.map .iv)] 0,H,nx⟩ (λe st=>∃r:AV×Hp×Nat,(∃y,r.1 = .bD [y,.iv (.int .i64 (lW x).2)]/\Ext H nx r.2.1 r.2.2/\LB r.2.1 r.2.2 y (lW x).1/\(∀k o n w,y = .own k o n w->4*nx<=k))/\Fin JE.res r e st):=by
  refine au (s':=⟨[(1,.ref (4*nx) 0 0 0)],ay.set H (4*nx) (.cells (x.enc.map .iv)),nx+3⟩) (by simp[f0]) ?_;refine af (af ?_);unfold lW;generalize fI:x.enc.map AV.iv=cs at *;cases hr:mA x with
  |false=>
   rw[hr]at ct;refine aI (K:=K1) (s':=⟨[(1,.ref (4*nx) 0 0 0),(8,.bI true)],H1,n1⟩) (λn hn=>by
    have hc:=ct n hn;simp[hlen,mB,hc]) ?_
   refine ag (t:=true) rfl ?_;simp only[if_true];refine aj ?_;exact ax ⟨(_,_,_),⟨_,rfl,qz.up (show n1<=n1+2 by omega),LB.nil _ _,λk o n w h=>by cases h⟩,rfl,rfl⟩
  |true=>
   rw[hr]at ct;obtain⟨YB,dt⟩:=xt hr;obtain⟨b1,b2⟩:=qk hx false dt;obtain⟨H2,n2,y,b8,hy,xr,K2,cZ⟩:=Xg (p1:=p1) bF L.tove hx false (.ref (4*nx) 0 0 0) H1 (n1+6) dt YB (.inr ⟨4*nx,by have:=qz.le;have:=dH.le;omega,rfl,by rw[fI];exact hg⟩) (λk hk=>qz.fresh k (by omega));have jP:Ext H nx H2 n2:=qz.trans ⟨by have:=b8.le;omega,b8.fresh,λk hk=>b8.bu k (by omega)⟩;refine aI (K:=K1) (s':=⟨[(1,.ref (4*nx) 0 0 0),(8,.bI false)],H1,n1⟩) (λn hn=>by
    have hc:=ct n hn;simp[hlen,mB,hc]) ?_
   refine ag (t:=false) rfl (ak ?_);simp only[Ex.then];refine af ?_;generalize hG:bX false x=r at *;obtain⟨l,e⟩:=r;simp only at b1 b2 hy cZ;refine aI (K:=K2) (s':=⟨[(4,y),(5,.nI e)],H2,n2⟩) (λn hn=>by
    have hc:=cZ n hn;simp[hc]) ?_
   obtain⟨K3,fP⟩:=Od L.L9 L.AN L.h46 L.FJ L.Qa L.YA l (by omega) (λb hb=>lu (b1 b hb) (by omega) (by omega));refine af (cq (K:=K3) (s':=⟨[(4,y),(19,.bI (!(decide (e=0)&&fg l)))],H2,n2+7⟩) (λn hn=>by
    have hc:(one p1 n 30 [aT l] []).bind shut=some (.bI (fg l)):=fP n hn;simp only[aT]at hc;have hz:=hy.HT;have iN:(dF (one p1 n) (.iv (.fn 30 [])) [y]).run H2=some (.bI (fg l),H2):=by
     simp[dF,callee,az,M.lift,M.run,M.aG,hz,hc,M.ok,flat,ew,eI,eZ,kX,ks]
    have hb:(e==0)=decide (e=0):=by by_cases h:e=0<;>simp[h]
    have qe:(e != 0)=!decide (e=0):=by rw[<-hb];rfl
    generalize fg l=q at *;cases h0:decide (e=0)<;>simp[iN,hb,qe,h0]) ?_)
   refine ag rfl ?_;simp only[if_true];by_cases cg:e=0/\fg l=true
   ·rw[if_pos cg];have:(!(decide (e=0)&&fg l))=false:=by rw[decide_eq_true cg.1,cg.2];rfl
    rw[this];simp only[Bool.false_eq_true,if_false];refine ak ?_;simp only[Ex.then];refine aj ?_;exact ax ⟨(_,_,_),⟨y,rfl,jP.up (show n2<=n2+7+3 by omega),hy.mono (show n2<=n2+7+3 by omega) λ_ _=>rfl,λk o n w h=>by have:=xr k o n w h;have:=qz.le;omega⟩,rfl,rfl⟩
   ·rw[if_neg cg];have:(!(decide (e=0)&&fg l))=true:=by
     by_cases h0:e=0
     ·have:fg l=false:=Bool.eq_false_iff.2 λh=>cg ⟨h0,h⟩
      rw[this];simp
     ·rw[decide_eq_false h0];rfl
    rw[this];simp only[if_true];refine aj ?_;exact ax ⟨(_,_,_),⟨_,rfl,jP.up (show n2<=n2+7+2 by omega),LB.nil _ _,λk o n w h=>by cases h⟩,rfl,rfl⟩
 obtain⟨⟨y,H',aW⟩,⟨y',rfl,h1,h2,h3⟩,h4⟩:=Ev.jn bF L.UP rfl rfl _ key;exact⟨H',aW,y',h1,h2,h3,h4⟩
end
def gk (n:Int):List AV:=[.iv (.int .i64 n)]
def IX (H:Hp) (n:Nat) (y:AV) (l:List Int):Prop:=∃id v,id<4*n/\id % 4=0/\y = .own id 0 l.length v/\get H id=some (.buf v 1 (l.map gk))
theorem IX.mono {H H':Hp} {n n':Nat} {y:AV} {l:List Int} (h:IX H n y l) (hn:n<=n') (ho:∀k,k<4*n->get H' k=get H k):IX H' n' y l:=by
 obtain⟨id,v,h1,h2,h3,h4⟩:=h;exact⟨id,v,by omega,h2,h3,by rw[ho id h1];exact h4⟩
def cj (x:Hd):List AV:=x.enc.map AV.iv
theorem gT (x:Hd):cj x=[.iv (.sl 1 (x.ps.map fQ)),.iv (.sl 1 (x.hs.map fQ)),.nI x.b,.iv (.int .u64 x.g)]:=rfl
section
variable {p1:Nat->Option ao.aA} {p2:Nat->Option aA}
end
section
variable {p1:Nat->Option ao.aA} {p2:Nat->Option aA}
end
theorem Wp.scope {p1:Nat->Option ao.aA} {p2:Nat->Option aA} {b:IC} {s:St} {Q:Ex->St->Prop} (h:Wp p1 p2 b s Q):Wp p1 p2 (.scope b) s Q:=by
 obtain⟨K,ex,s',h,q⟩:=h;exact⟨K,ex,s',λn hn=>by simp only[bd];exact h n hn,q⟩
def IB (H:Hp) (n:Nat) (y:AV) (l:List Int):Prop:=∃id v es,id<4*n/\y = .own id 0 l.length v/\get H id=some (.buf v 1 es)/\es.take l.length=l.map gk
structure UQ (p1:Nat->Option ao.aA) (p2:Nat->Option aA):Prop where
 T:Uo p1
 aby:p2 136=some Tp
 abz:p2 180=some Tx
 abA:p2 179=some To
 abB:p2 178=some Tn
 abC:p2 175=some Tm
 abD:p2 182=some Tg
 abE:p2 181=some Tf
section
variable {p1:Nat->Option ao.aA} {p2:Nat->Option aA}
theorem iH (x:Hd):(cj x).take 4=cj x:=rfl
theorem jE (x:Hd):(cj x).length=4:=rfl
theorem FY (w:Bool) (x:Hd):M.aG (fz w 8) (cj x) = .ret x.enc:=by simp[cj,Hd.enc,M.aG,fz,M.bind]
end
def QE (e:Nat) (H:Hp) (n:Nat) (y:AV) (rows:List (List AV)):Prop:=(y = .iv (.aV e)/\rows=[])\/∃id v,id<4*n/\id % 4=0/\y = .own id 0 rows.length v/\get H id=some (.buf v e rows)
theorem QE.nil (e:Nat) (H:Hp) (n:Nat):QE e H n (.iv (.aV e)) []:=.inl ⟨rfl,rfl⟩
theorem QE.mono {e:Nat} {H H':Hp} {n n':Nat} {y:AV} {rows:List (List AV)} (h:QE e H n y rows) (hn:n<=n') (ho:∀k,k<4*n->get H' k=get H k):QE e H' n' y rows:=by
 rcases h with h | ⟨id,v,h1,h2,h3,h4⟩
 ·exact .inl h
 ·exact .inr ⟨id,v,by omega,h2,h3,by rw[ho id h1];exact h4⟩
theorem QE.len {e:Nat} {H:Hp} {n:Nat} {y:AV} {rows:List (List AV)} (h:QE e H n y rows):(ay.len false y).run H=some (.nI rows.length,H):=by
 rcases h with⟨rfl,rfl⟩|⟨id,v,h1,h2,rfl,h4⟩
 ·rfl
 ·simp[ay.len,M.run,M.look,az,h4,M.ok,M.bind]
theorem QE.push {e:Nat} {H:Hp} {n:Nat} {y:AV} {rows:List (List AV)} (h:QE e H n y rows) (r:List AV) {g slot:Nat} (hg:get H g=some (.buf 0 e [r])) (YC:4*n<=g) (hs:n<=slot) (tz:get H (4*slot)=none) (hr:rows.length+1<=1073741824) :
  ∃y' H',(app e slot false y (.own g 0 1 0)).run H=some (y',H')/\(∀m,slot<m->QE e H' m y' (rows++[r]))/\(∀k,(∀o n w,y≠.own k o n w)->k≠4*slot->get H' k=get H k)/\(∀k o n w,y' = .own k o n w->k=4*slot\/∃o n w,y = .own k o n w):=by
 have fp:(kO e (.own g 0 1 0)).run H=some ([r],H):=by simp[kO,elems,az,M.look,M.run,hg,M.ok,M.bind]
 rcases h with⟨rfl,rfl⟩|⟨id,v,h1,h2,rfl,h4⟩
 ·refine⟨.own (4*slot) 0 1 0,ay.set H (4*slot) (.buf 0 e [r]),?_,λm hm=>.inr ⟨4*slot,0,by omega,by omega,rfl,ar _ _ _⟩,λk _ hk=>aF _ _ (Ne.symm hk),λk o n w h=>by cases h;exact .inl rfl⟩;have h1:roomy 1=true:=by decide
  simp[app,az,fp,M.ok,M.fresh,M.write,M.run,tz,M.bind,h1]
 ·have iM:roomy (rows.length+1)=true:=by simp only[roomy,Nat.ble_eq];exact hr
  refine⟨.own id 0 (rows.length+1) (v+1),ay.set H id (.buf (v+1) e (rows++[r])),?_,λm hm=>.inr ⟨id,v+1,by omega,h2,by simp,ar _ _ _⟩,λk hk _=>aF _ _ λe=>hk 0 rows.length v (by rw[e]),λk o n w h=>by cases h;exact .inr ⟨_,_,_,rfl⟩⟩;have tY:¬rows.length+1<=rows.length:=by omega
  simp[app,az,fp,M.look,M.run,h4,M.ok,M.bind,iM,h2,M.write,tY]
def RB (H:Hp) (n:Nat) (y:AV) (l:List Int):Prop:=(y = .iv (.aV 1)/\l=[])\/IB H n y l
theorem RB.len {H:Hp} {n:Nat} {y:AV} {l:List Int} (h:RB H n y l):(ay.len false y).run H=some (.nI l.length,H):=by
 rcases h with⟨rfl,rfl⟩|⟨id,v,es,h1,rfl,h3,h4⟩
 ·rfl
 ·simp[ay.len,M.run,M.look,az,h3,M.ok,M.bind]
section
variable {p1:Nat->Option ao.aA} {p2:Nat->Option aA}
def QI (H:Hp) (n:Nat) (y:AV) (l:List Int):Prop:=QE 1 H n y (l.map gk)
theorem QI.HT {H:Hp} {n:Nat} {y:AV} {l:List Int} (h:QI H n y l):(bZ false y).run H=some (.iv (.sl 1 (l.map fQ)),H):=by
 have hm:∀w,∀l:List Int,M.aG (M.aG (fz w 7)) (l.map gk) = .ret (l.map fQ):=by
  intro w l
  induction l with
  |nil=>rfl
  |cons a l ih=>
   rw[List.map_cons,M.aG,ih];rfl
 rcases h with⟨rfl,h0⟩|⟨id,v,h1,h2,rfl,h4⟩
 ·have:l=[]:=List.map_eq_nil_iff.1 h0;subst this;rfl
 ·unfold bZ fz;simp[M.run,M.look,az,h4,M.ok,M.bind,hm,List.take_of_length_le]
end
section
variable {p1:Nat->Option ao.aA} {p2:Nat->Option aA}
end
end ay
namespace ay
open Go ao
def aK {α:Type}:M α->Prop
 |.ret _=>True
 |.fail=>True
 |.get _ k=>∀o,aK (k o)
 |.put _ _ _=>False
theorem aK.bN {α:Type}:∀(m:M α) (h:Hp),aK m->(m.bN h).2=[]
 |.ret _,_,_=>rfl
 |.fail,_,_=>rfl
 |.get id k,h,hm=>by simp only[M.bN];exact aK.bN (k _) h (hm _)
theorem aK.bind {α β:Type}:∀{m:M α} {f:α->M β},aK m->(∀a,aK (f a))->aK (m.bind f)
 |.ret a,f,_,hf=>hf a
 |.fail,_,_,_=>trivial
 |.get id k,f,hm,hf=>λo=>aK.bind (hm o) hf
theorem aK.ok (b:Bool):aK (M.ok b):=by unfold M.ok;split<;>trivial
theorem aK.lift {α:Type} (o:Option α):aK (M.lift o):=by cases o<;>trivial
theorem aK.look (id:Nat):aK (M.look id):=λo=>by cases o<;>trivial
theorem aK.aG {α β:Type} {f:α->M β} (hf:∀x,aK (f x)):∀l:List α,aK (M.aG f l)
 |[]=>trivial
 |x::r=>aK.bind (hf x) λy=>aK.bind (aK.aG hf r) λys=>trivial
theorem aK.EV (agg:Bool) (l:List AV):aK (ay.mk agg l):=by unfold mk;split;trivial;split<;>trivial
theorem aK.tg (a:AV):aK (ay.idx a):=by unfold idx;split<;>trivial
theorem aK.mZ (y:Nat) (o:Option AV):aK (ay.bound y o):=by
 unfold bound;split
 ·trivial
 ·exact aK.bind (aK.ok _) λ_=>trivial
 ·trivial
theorem aK.ym:∀(n:Nat) (a:AV),aK (fz false n a)
 |0,_=>trivial
 |n+1,a=>by
  unfold fz;split
  ·trivial
  ·trivial
  ·refine aK.bind (aK.look _) λo=>?_
   split
   ·refine aK.bind (aK.ok _) λ_=>?_
    rw[if_neg (by simp)];exact aK.bind (aK.aG (aK.aG (aK.ym n)) _) λ_=>trivial
   ·exact aK.bind (aK.ok _) λ_=>trivial
   ·trivial
  ·refine aK.bind (aK.look _) λo=>?_
   split
   ·refine aK.bind (aK.ok _) λ_=>?_
    rw[if_neg (by simp)];exact aK.bind (aK.lift _) λ_=>aK.bind (aK.aG (aK.ym n) _) λ_=>trivial
   ·exact aK.bind (aK.ok _) λ_=>aK.bind (aK.lift _) λ_=>trivial
   ·refine aK.bind (aK.ok _) λ_=>aK.bind (aK.aG (aK.ym n) _) λ_=>?_
    rw[if_neg (by simp)];trivial
   ·exact aK.bind (aK.ok _) λ_=>trivial
   ·trivial
  ·exact aK.bind (aK.aG (aK.ym n) _) λ_=>trivial
  ·trivial
theorem aK.Js (a:AV):aK (bZ false a):=by
 unfold bZ;split
 ·exact aK.bind (aK.aG (aK.ym 8) _) λ_=>trivial
 ·exact aK.bind (aK.ym 8 _) λ_=>trivial
def cls:jt->Nat
 |.eM _ | .pick _ _ _ | .un _ _ | .tt _ _ | .ext _ _ | .sk _ _ _=>0
 |.build _ _ | .mx _ _ | .mn _ _ | .sj _ _ _ _=>0
 |.bin _ q _ _=>if q=0\/q=1 then 0 else 1
 |.load _ _ _ | .di _ _ | .dQ _ _ _ | .len _ _ | .oY _ | .eu _ _ _ _ | .jb _ _ _ _ _ _=>1
 |.call 0 _ _=>1
 |.alloc _ _ | .qF _ _ _ _=>2
 |_=>3
def dz {α:Type} (m:M α):Prop:=∀h,m.bN h=([],[])
theorem dz.ret {α:Type} (a:α):dz (M.ret a):=λ_=>rfl
theorem dz.fail {α:Type}:dz (M.fail:M α):=λ_=>rfl
theorem dz.lift {α:Type} (o:Option α):dz (M.lift o):=by cases o;exact dz.fail;exact dz.ret _
theorem dz.ok (b:Bool):dz (M.ok b):=by unfold M.ok;split;exact dz.ret _;exact dz.fail
theorem dz.bind {α β:Type} {m:M α} {f:α->M β} (hm:dz m) (hf:∀a,dz (f a)):dz (m.bind f):=by
 cases m with
 |ret a=>exact hf a
 |fail=>exact dz.fail
 |get id k=>intro h;have:=hm h;simp[M.bN]at this
 |put id o k=>intro h;have:=hm h;simp[M.bN]at this
theorem dz.aG {α β:Type} {f:α->M β} (hf:∀x,dz (f x)):∀l:List α,dz (M.aG f l)
 |[]=>dz.ret _
 |x::r=>dz.bind (hf x) λy=>dz.bind (dz.aG hf r) λys=>dz.ret _
theorem dz.cells (a:AV):dz (bh a):=by unfold bh;split<;>first | exact dz.ret _ | exact dz.fail
theorem dz.tg (a:AV):dz (ay.idx a):=by unfold idx;split<;>first | exact dz.ret _ | exact dz.fail
variable (c1:dK)
theorem Z6 {slot:Nat} {ρ:bf->AV} {op:jt} (h:cls op=0):dz (bp c1 slot ρ op):=by
 cases op<;>first | (simp[cls]at h;done) | skip
 case eM=>exact dz.ret _
 case pick=>simp only[bp];split<;>first | exact dz.ret _ | exact dz.fail
 case build=>exact dz.bind (dz.aG (λp=>dz.bind (dz.cells _) λ_=>dz.bind (dz.ok _) λ_=>dz.ret _) _) λ_=>dz.ret _
 case bin op q x y=>
  have hq:q=0\/q=1:=by
   simp only[cls]at h;by_cases hq:q=0\/q=1
   ·exact hq
   ·rw[if_neg hq]at h;cases h
  simp only[bp];rcases hq with rfl | rfl<;>exact dz.bind (dz.lift _) λ_=>dz.ret _
 case un=>exact dz.bind (dz.lift _) λ_=>dz.ret _
 case tt=>exact dz.bind (dz.tg _) λ_=>dz.ret _
 case ext=>simp only[bp];split<;>first | exact dz.lift _ | exact dz.fail
 case sk=>exact dz.ret _
 case mx=>simp only[bp];split<;>first | exact dz.bind (dz.lift _) λ_=>dz.ret _ | exact dz.fail
 case mn=>simp only[bp];split<;>first | exact dz.bind (dz.lift _) λ_=>dz.ret _ | exact dz.fail
 case sj=>simp only[bp];split<;>first | exact dz.bind (dz.lift _) λ_=>dz.ret _ | exact dz.fail
 case call mode f args=>cases mode<;>simp[cls]at h
theorem Z7 {slot:Nat} {ρ:bf->AV} {op:jt} (h:cls op=1):aK (bp c1 slot ρ op):=by
 cases op<;>first | (simp[cls]at h;done) | skip
 case bin op q x y=>
  simp only[bp,fX];split
  ·exact aK.bind (aK.look _) λ_=>aK.bind (aK.ok _) λ_=>by split<;>trivial
  ·exact aK.bind (aK.look _) λ_=>aK.bind (aK.ok _) λ_=>by split<;>trivial
  ·exact aK.bind (aK.look _) λ_=>aK.bind (aK.ok _) λ_=>by split<;>trivial
  ·exact aK.bind (aK.lift _) λ_=>trivial
 case load=>
  simp only[bp,ay.load];split
  ·exact aK.bind (aK.look _) λ_=>aK.bind (aK.lift _) λ_=>aK.bind (aK.ok _) λ_=>aK.EV _ _
  ·exact aK.bind (aK.ok _) λ_=>aK.EV _ _
  ·trivial
 case di=>
  simp only[bp,ay.di];split
  ·exact aK.bind (aK.look _) λ_=>aK.bind (aK.ok _) λ_=>trivial
  ·exact aK.bind (aK.ok _) λ_=>trivial
  ·trivial
 case dQ=>
  simp only[bp,ay.dQ];refine aK.bind (aK.tg _) λn=>aK.bind (aK.ok _) λ_=>?_
  split
  ·refine aK.bind (aK.ok _) λ_=>aK.bind (aK.look _) λo=>?_
   split<;>first | exact aK.bind (aK.ok _) λ_=>trivial | trivial
  ·exact aK.bind (aK.ok _) λ_=>aK.bind (aK.lift _) λ_=>trivial
  ·trivial
 case len=>
  simp only[bp,ay.len];split
  ·refine aK.bind (aK.look _) λo=>?_
   split<;>first | exact aK.bind (aK.ok _) λ_=>trivial | trivial
  ·trivial
  ·trivial
  ·trivial
  ·trivial
 case oY=>
  simp only[bp];split
  ·exact aK.bind (aK.look _) λ_=>aK.bind (aK.ok _) λ_=>trivial
  ·trivial
  ·trivial
  ·trivial
  ·trivial
 case eu=>
  simp only[bp,ay.eu];split
  ·exact aK.bind (aK.look _) λ_=>aK.bind (aK.lift _) λ_=>aK.bind (aK.mZ _ _) λ_=>aK.bind (aK.mZ _ _) λ_=>trivial
  ·exact aK.bind (aK.ok _) λ_=>aK.bind (aK.mZ _ _) λ_=>aK.bind (aK.mZ _ _) λ_=>trivial
  ·exact aK.bind (aK.mZ _ _) λ_=>aK.bind (aK.mZ _ _) λ_=>trivial
  ·trivial
 case call mode f args=>
  have hm:mode=0:=by cases mode with
   |zero=>rfl
   |succ m=>simp[cls]at h
  subst hm;exact aK.bind (aK.lift _) λq=>aK.bind (aK.aG aK.Js _) λ_=>aK.bind (aK.lift _) λ_=>aK.bind (aK.ok _) λ_=>aK.lift _
 case jb=>
  simp only[bp,ay.jb];refine aK.bind (aK.ok _) λ_=>aK.bind ?_ λx=>aK.bind (aK.lift _) λp=>?_
  ·unfold gg;split
   ·refine aK.bind (aK.look _) λo=>?_
    split<;>trivial
   ·trivial
  ·split
   ·trivial
   ·exact aK.bind (aK.EV _ _) λ_=>trivial
theorem A9 {α:Type} {id:Nat} {o:Ob} {a:α} (h:Hp) {r:α} {h':Hp} (e:((M.fresh id).bind λ_=>(M.write id o).bind λ_=>.ret a).run h=some (r,h')) :
  ∀n ∈ (((M.fresh id).bind λ_=>(M.write id o).bind λ_=>.ret a).bN h).2,ay.get h n=none:=by
 intro n hn;simp only[M.fresh,M.write,M.bind,M.run]at e;cases hg:ay.get h id with
 |some x=>rw[hg]at e;simp[M.bind,M.run]at e
 |none=>
  simp only[M.fresh,M.write,M.bind,M.bN,hg,List.nil_append,List.mem_singleton]at hn;subst hn;exact hg
theorem Z8 {slot:Nat} {ρ:bf->AV} {op:jt} (h:cls op=2) {hp:Hp} {r:AV} {h':Hp} (e:(bp c1 slot ρ op).run hp=some (r,h')):∀n ∈ ((bp c1 slot ρ op).bN hp).2,ay.get hp n=none:=by
 cases op<;>first | (simp[cls]at h;done) | skip
 case alloc tag z=>
  simp only[bp]at e ⊢;unfold M.ok at e ⊢;split at e
  ·rename_i ht;rw[if_pos ht];exact A9 hp e
  ·simp[M.bind,M.run]at e
 case qF e0 z n ps=>
  simp only[bp]at e ⊢;generalize hm:M.aG (λp:Nat×bf=>(bh (ρ p.2)).bind λxs=>(M.ok (xs.length==e0&&Nat.blt p.1 n)).bind λ_=>.ret (p.1,xs)) ps=m at *;have UR:dz m:=by rw[<-hm];exact dz.aG (λp=>dz.bind (dz.cells _) λ_=>dz.bind (dz.ok _) λ_=>dz.ret _) _
  unfold M.ok at e ⊢;split at e
  ·rename_i ht;rw[if_pos ht];simp only[M.bind]at e ⊢;cases m with
   |ret l=>exact A9 hp e
   |fail=>simp[M.bind,M.run]at e
   |get id k=>have:=UR hp;simp[M.bN]at this
   |put id o k=>have:=UR hp;simp[M.bN]at this
  ·simp[M.bind,M.run]at e
 case bin op q x y=>simp only[cls]at h;split at h<;>cases h
 case call mode f args=>cases mode<;>simp[cls]at h
def J5 (al:Bool) (x y:jt):Bool:=cls x==0||cls y==0||(Nat.ble (cls x) 1&&Nat.ble (cls y) 1)||(al&&Nat.ble (cls x) 1&&cls y==2)
def Qg (al:Bool) (x:jt) (i:Nat):List aJ->Bool
 |[]=>true
 |y::r=>(y.lO.contains i||J5 al x y.op)&&Qg al x i r
def J6 (al:Bool):Nat->List aJ->Bool
 |_,[]=>true
 |i,x::r=>Qg al x.op i r&&J6 al (i+1) r
def vh (ops:List aJ):Bool:=ops.all λo=>(fJ o.op).isNone
def YD (ops:List aJ):Bool:=J6 (vh ops) 0 ops
def Kn (al:Bool) (op:jt) (f:cB) (h:Hp):Prop:=(cls op=0->f = .m ([],[]))/\(cls op=1->∃l,f = .m (l,[])/\(al=true->∀n ∈ l,On h n))
theorem Rn {op:jt} {p:bf×List bf} (h:fJ op=some p):cls op=3:=by cases op<;>first | (simp[fJ]at h;done) | rfl
variable {c1} {cx:fb}
theorem HU {al:Bool} {slot:Nat} {o:aJ} {s t:St} (e:step c1 cx slot o s=some t) (ha:al=true->(fJ o.op).isNone=true):Kn al o.op (bH c1 slot o s t.hp) t.hp/\
  (cls o.op=2->∃l w,bH c1 slot o s t.hp = .m (l,w)/\∀n ∈ w,ay.get s.hp n=none)/\(al=true->∀n,On s.hp n->On t.hp n):=by
 unfold step at e;unfold bH Kn;cases hw:cw s.fr o.gd with
 |none=>rw[hw]at e;cases e
 |some b=>
  rw[hw]at e;cases b with
  |false=>
   simp only[Option.some.injEq]at e;subst e;exact⟨⟨λ_=>rfl,λ_=>⟨[],rfl,λ_ n hn=>by simp at hn⟩⟩,λ_=>⟨[],[],rfl,λn hn=>by simp at hn⟩,λ_ n h=>h⟩
  |true=>
   simp only[]at e ⊢;cases hs:fJ o.op with
   |some fa=>
    have hc:=Rn hs;rw[hc];refine⟨⟨λh=>?_,λh=>?_⟩,λh=>?_,λh=>?_⟩
    ·cases h
    ·cases h
    ·cases h
    ·have:=ha h;rw[hs]at this;simp at this
   |none=>
    rw[hs]at e;simp only[]at e ⊢;cases hr:(bp c1 slot (ev s.fr) o.op).run s.hp with
    |none=>rw[hr]at e;cases e
    |some q=>
     rw[hr]at e;obtain⟨v,h⟩:=q;simp only[Option.some.injEq]at e;subst e;refine⟨⟨λh0=>by rw[Z6 c1 h0],λh1=>⟨_,?_,λ_ n hn=>Hq c1 slot _ o.op _ _ _ hr n hn⟩⟩,λh2=>⟨_,_,rfl,Z8 c1 h2 hr⟩,λ_ n hn=>M.stay _ _ _ _ n hr hn⟩;have:=aK.bN _ s.hp (Z7 c1 (slot:=slot) (ρ:=ev s.fr) h1);rw[<-this]
theorem Ro {ops:List aJ}:∀{slot:Nat} {s s1:St},a7 c1 cx ops slot s=some s1->∃fs,bn c1 cx ops slot s=some (s1,fs):=by
 induction ops with
 |nil=>intro slot s s1 e;simp only[a7,Option.some.injEq]at e;subst e;exact⟨[],rfl⟩
 |cons o r ih=>
  intro slot s s1 e;simp only[a7]at e;cases h1:step c1 cx slot o s with
  |none=>rw[h1]at e;cases e
  |some t=>
   rw[h1]at e;obtain⟨fs,h⟩:=ih e;exact⟨bH c1 slot o s t.hp::fs,by simp only[bn,h1,h]⟩
theorem Rp {al:Bool} {x y:jt} {fx fy:cB} {h:Hp} (hx:Kn al x fx h) (hy:Kn al y fy h\/True) (h0:cls y=0->fy = .m ([],[])) (h1:cls y=1->∃l,fy = .m (l,[])) (h2:cls y=2->∃l w,fy = .m (l,w)/\∀n ∈ w,ay.get h n=none) (hs:J5 al x y=true):c9 fx fy=false:=by
 unfold J5 at hs;simp only[Bool.or_eq_true,Bool.and_eq_true,beq_iff_eq,Nat.ble_eq]at hs;have hq:∀l l',c9 (.m (l,[])) (.m (l',[]))=false:=λl l'=>by simp[c9,meets]
 have hn:∀f,c9 (.m ([],[])) f=false:=λf=>by
  cases f with
  |m y=>simp[c9,meets]
  |c h0 h1=>simp[c9]
 have fD:∀f,c9 f (.m ([],[]))=false:=λf=>by
  cases f with
  |m y=>simp[c9,meets]
  |c h0 h1=>simp[c9]
 have YE:cls x<=1->∃l,fx = .m (l,[])/\(al=true->∀n ∈ l,On h n):=λhle=>by
  rcases(show cls x=0\/cls x=1 by omega)with q | q
  ·exact⟨[],hx.1 q,λ_ n hn=>by simp at hn⟩
  ·exact hx.2 q
 rcases hs with((hs | hs) | hs) | hs
 ·rw[hx.1 hs];exact hn _
 ·rw[h0 hs];exact fD _
 ·obtain⟨l,rfl, -⟩:=YE hs.1;rcases(show cls y=0\/cls y=1 by omega)with q | q
  ·rw[h0 q];exact fD _
  ·obtain⟨l',rfl⟩:=h1 q;exact hq _ _
 ·obtain⟨⟨ha,hle⟩,hc⟩:=hs;obtain⟨l,rfl,hon⟩:=YE hle;obtain⟨l',w,rfl,hw⟩:=h2 hc;have:∀n ∈ w,l.contains n=false:=λn hn=>by
   rw[Bool.eq_false_iff];intro hc;have:=hon ha n (by simpa using hc);unfold On at this;rw[hw n hn]at this;simp at this
  simp only[c9,meets,List.any_nil,List.append_nil,Bool.false_or];rw[Bool.eq_false_iff];intro hc;obtain⟨n,hn,hc⟩:=List.any_eq_true.1 hc;rw[this n hn]at hc;cases hc
theorem Kn.mono {al:Bool} {op:jt} {f:cB} {h h':Hp} (k:Kn al op f h) (hs:al=true->∀n,On h n->On h' n):Kn al op f h':=
 ⟨k.1,λh1=>by obtain⟨l,e,q⟩:=k.2 h1;exact⟨l,e,λha n hn=>hs ha n (q ha n hn)⟩⟩
theorem HV {al:Bool} {x:jt} {fx:cB} {i:Nat}:∀{ops:List aJ} {slot:Nat} {s s1:St} {fs:List cB},bn c1 cx ops slot s=some (s1,fs)->(al=true->vh ops=true)->Kn al x fx s.hp->Qg al x i ops=true->dC fx i fs (ops.map (·.lO))=true
 |[],slot,s,s1,fs,e,_,_,_=>by simp only[bn,Option.some.injEq,Prod.mk.injEq]at e;rw[<-e.2];rfl
 |y::r,slot,s,s1,fs,e,ha,hk,hs=>by
  simp only[bn]at e;cases h1:step c1 cx slot y s with
  |none=>rw[h1]at e;cases e
  |some t=>
   rw[h1]at e;simp only[]at e;cases h2:bn c1 cx r (slot+1) t with
   |none=>rw[h2]at e;cases e
   |some p=>
    rw[h2]at e;simp only[Option.some.injEq,Prod.mk.injEq]at e;obtain⟨-,rfl⟩:=e;simp only[Qg,Bool.and_eq_true,Bool.or_eq_true]at hs;have qb:al=true->(fJ y.op).isNone=true/\vh r=true:=λh=>by have:=ha h;simpa[vh]using this
    obtain⟨k1,k2,k3⟩:=HU h1 λh=>(qb h).1
    simp only[List.map_cons,dC,Bool.and_eq_true,Bool.or_eq_true,Bool.not_eq_true'];refine⟨?_,HV (s1:=p.1) (fs:=p.2) h2 (λh=>(qb h).2) (hk.mono k3) hs.2⟩;rcases hs.1 with q | q
    ·exact .inr q
    ·exact .inl (Rp hk (.inr trivial) k1.1 (λh=>by obtain⟨l,e, -⟩:=k1.2 h;exact⟨l,e⟩) k2 q)
theorem Qh {al:Bool}:∀{ops:List aJ} {slot i:Nat} {s s1:St} {fs:List cB},bn c1 cx ops slot s=some (s1,fs)->(al=true->vh ops=true)->J6 al i ops=true->cL fs i (ops.map (·.lO))=true
 |[],slot,i,s,s1,fs,e,_,_=>by simp only[bn,Option.some.injEq,Prod.mk.injEq]at e;rw[<-e.2];rfl
 |x::r,slot,i,s,s1,fs,e,ha,hs=>by
  simp only[bn]at e;cases h1:step c1 cx slot x s with
  |none=>rw[h1]at e;cases e
  |some t=>
   rw[h1]at e;simp only[]at e;cases h2:bn c1 cx r (slot+1) t with
   |none=>rw[h2]at e;cases e
   |some p=>
    rw[h2]at e;simp only[Option.some.injEq,Prod.mk.injEq]at e;obtain⟨-,rfl⟩:=e;simp only[J6,Bool.and_eq_true]at hs;have qb:al=true->(fJ x.op).isNone=true/\vh r=true:=λh=>by have:=ha h;simpa[vh]using this
    obtain⟨k1, -, -⟩:=HU h1 λh=>(qb h).1
    simp only[List.map_cons,cL,Bool.and_eq_true];exact⟨HV (s1:=p.1) (fs:=p.2) h2 (λh=>(qb h).2) k1 hs.1,Qh (s1:=p.1) (fs:=p.2) h2 (λh=>(qb h).2) hs.2⟩
theorem Xk {ops:List aJ} {aX:List Nat} {s s':St} (hs:YD ops=true) (h:aS c1 cx false ops aX s=some s'):aS c1 cx true ops aX s=some s':=by
 unfold aS at h ⊢;simp only[Bool.false_eq_true,if_false,if_true]at h ⊢;cases he:a7 c1 cx ops s.nx { s with nx:=s.nx+ops.length } with
 |none=>rw[he]at h;cases h
 |some t=>
  rw[he]at h;obtain⟨fs,hf⟩:=Ro he;have ho:dw ops fs=true:=by unfold dw;rw[Qh hf (λh=>h) hs,Bool.or_true]
  rw[hf];simp only[ho,if_true];exact h
theorem Wp.drawn {p1:Nat->Option ao.aA} {p2:Nat->Option aA} {ops:List aJ} {aX:List Nat} {s:St} {Q:Ex->St->Prop} (hs:YD ops=true) (h:Wp p1 p2 (.ff false ops aX) s Q):Wp p1 p2 (.ff true ops aX) s Q:=by
 obtain⟨K,ex,s',h,q⟩:=h;refine⟨K,ex,s',λn hn=>?_,q⟩;have h1:=h n hn;simp only[bd]at h1 ⊢;cases he:aS (one p1 n) (fH p1 p2 n) false ops aX s with
 |none=>rw[he]at h1;cases h1
 |some t=>rw[he]at h1;rw[Xk hs he];exact h1
def eH (n:Int):AV:=.iv (.int .i64 n)
structure Act where
 c:Int
 u:Int
 b:List B
 f:Int
 t:Int
structure Pb where
 c:Int
 e:E
 s:Int
structure Lg where
 aQ:List Act
 cQ:List Pb
 aR:List Int
def Act.fits (a:Act):Prop:=a.b.length<=1000/\∀b ∈ a.b,b.lim 1000 400
def AR (H:Hp) (n:Nat) (r:List AV) (a:Act):Prop:=∃y,r=[eH a.c,eH a.u,y,eH a.f,eH a.t]/\LB H n y a.b
def AL (H:Hp) (n:Nat) (rs:List (List AV)) (l:List Act):Prop:=rs.length=l.length/\∀(i:Nat) (r:List AV) (a:Act),rs[i]?=some r->l[i]?=some a->AR H n r a
def gU (i:Nat) (p:Pb):List AV:=[eH ((i:Int)+1),eH p.c]++(p.e.enc.map AV.iv++[eH p.s])
def PL (rs:List (List AV)) (l:List Pb):Prop:=rs.length=l.length/\∀(i:Nat) (p:Pb),l[i]?=some p->rs[i]?=some (gU i p)
theorem AL.nil (H:Hp) (n:Nat):AL H n [] []:=⟨rfl,λi r a h=>by simp at h⟩
theorem AL.get {H:Hp} {n:Nat} {rs:List (List AV)} {l:List Act} (h:AL H n rs l) {i:Nat} {a:Act} (ha:l[i]?=some a):∃r,rs[i]?=some r/\AR H n r a:=by
 have hi:i<l.length:=(List.getElem?_eq_some_iff.1 ha).1;have:i<rs.length:=by rw[h.1];exact hi
 exact⟨_,List.getElem?_eq_getElem this,h.2 i _ a (List.getElem?_eq_getElem this) ha⟩
theorem AL.mono {H H':Hp} {n n':Nat} {rs:List (List AV)} {l:List Act} (h:AL H n rs l) (hb:∀y b,LB H n y b->LB H' n' y b):AL H' n' rs l:=
 ⟨h.1,λi r a h1 h2=>by obtain⟨y,e,q⟩:=h.2 i r a h1 h2;exact⟨y,e,hb _ _ q⟩⟩
theorem AL.push {H:Hp} {n:Nat} {rs:List (List AV)} {l:List Act} (h:AL H n rs l) {r:List AV} {a:Act} (hr:AR H n r a):AL H n (rs++[r]) (l++[a]):=by
 refine⟨by simp[h.1],λi r' a' h1 h2=>?_⟩;by_cases hi:i<rs.length
 ·rw[List.getElem?_append_left hi]at h1;rw[List.getElem?_append_left (by rw[<-h.1];exact hi)]at h2;exact h.2 i r' a' h1 h2
 ·rw[List.getElem?_append_right (by omega)]at h1;rw[List.getElem?_append_right (by rw[<-h.1];omega)]at h2;rw[<-h.1]at h2;cases hj:i - rs.length with
  |zero=>
   rw[hj]at h1 h2;simp only[List.getElem?_cons_zero,Option.some.injEq]at h1 h2;rw[<-h1,<-h2];exact hr
  |succ j=>rw[hj]at h1;simp at h1
theorem AL.set {H:Hp} {n:Nat} {rs:List (List AV)} {l:List Act} (h:AL H n rs l) {i:Nat} {r:List AV} {a:Act} (hr:AR H n r a):AL H n (rs.set i r) (l.set i a):=by
 refine⟨by simp[h.1],λj r' a' h1 h2=>?_⟩;by_cases Hx:i=j
 ·subst Hx;have hi:i<rs.length:=by have:=(List.getElem?_eq_some_iff.1 h1).1;simpa using this
  rw[List.getElem?_set_self hi]at h1;rw[List.getElem?_set_self (by rw[<-h.1];exact hi)]at h2;simp only[Option.some.injEq]at h1 h2;rw[<-h1,<-h2];exact hr
 ·rw[List.getElem?_set_ne Hx]at h1 h2;exact h.2 j r' a' h1 h2
theorem PL.nil:PL [] []:=⟨rfl,λi p h=>by simp at h⟩
theorem PL.push {rs:List (List AV)} {l:List Pb} (h:PL rs l) (p:Pb):PL (rs++[gU l.length p]) (l++[p]):=by
 refine⟨by simp[h.1],λi q hq=>?_⟩;by_cases hi:i<l.length
 ·rw[List.getElem?_append_left hi]at hq;rw[List.getElem?_append_left (by rw[h.1];exact hi)];exact h.2 i q hq
 ·rw[List.getElem?_append_right (by omega)]at hq;rw[List.getElem?_append_right (by rw[h.1];omega),h.1];cases hj:i - l.length with
  |zero=>
   rw[hj]at hq;simp only[List.getElem?_cons_zero,Option.some.injEq]at hq;have:i=l.length:=by omega
   subst this;subst hq;simp
  |succ j=>rw[hj]at hq;simp at hq
structure iV (lo:Nat) (H:Hp) (n aN:Nat) (pre:List AV) (g:Lg) (ya yp yd:AV) (ra rp:List (List AV)):Prop where
 li:4*lo<=aN/\aN<4*n
 at_:get H aN=some (.cells (pre++[ya,yp,yd]))
 a:QE 5 H n ya ra
 al:AL H n ra g.aQ
 p:QE 15 H n yp rp
 pl:PL rp g.cQ
 d:QI H n yd g.aR
 la:∀k o m w,ya = .own k o m w->4*lo<=k
 lp:∀k o m w,yp = .own k o m w->4*lo<=k
 ld:∀k o m w,yd = .own k o m w->4*lo<=k
 fits:∀a ∈ g.aQ,a.fits
abbrev LG (lo:Nat) (H:Hp) (n aN:Nat) (h:Hd) (g:Lg) (ya yp yd:AV) (ra rp:List (List AV)):Prop:=iV lo H n aN (cj h) g ya yp yd ra rp
theorem iV.ext {lo:Nat} {H H':Hp} {n n' aN:Nat} {pre:List AV} {g:Lg} {ya yp yd:AV} {ra rp:List (List AV)} (L:iV lo H n aN pre g ya yp yd ra rp) (e:Ext H n H' n'):iV lo H' n' aN pre g ya yp yd ra rp:=
 ⟨⟨L.li.1,by have:=L.li.2;have:=e.le;omega⟩,by rw[e.bu _ L.li.2];exact L.at_,L.a.mono e.le e.bu,L.al.mono λ_ _ q=>q.ext e,L.p.mono e.le e.bu,L.pl,QE.mono L.d e.le e.bu,L.la,L.lp,L.ld,L.fits⟩
theorem nT (x:IV):bh (.iv x) = .ret [.iv x]:=rfl
theorem oJ (cs:List AV):bh (.agg cs) = .ret cs:=rfl
theorem QE.cell {e:Nat} {H:Hp} {n:Nat} {y:AV} {rows:List (List AV)} (h:QE e H n y rows):bh y = .ret [y]:=by
 rcases h with⟨rfl, -⟩|⟨id,v, -, -,rfl, -⟩<;>rfl
theorem QE.at_ {e:Nat} {H:Hp} {n:Nat} {y:AV} {rows:List (List AV)} (h:QE e H n y rows) {i:Nat} {r:List AV} (hr:rows[i]?=some r):∃id v,id<4*n/\id % 4=0/\y = .own id 0 rows.length v/\get H id=some (.buf v e rows):=by
 rcases h with⟨rfl,rfl⟩|h
 ·simp at hr
 ·exact h
theorem QE.xu {e:Nat} {H:Hp} {n:Nat} {y:AV} {rows:List (List AV)} (h:QE e H n y rows) {k:Nat} {ob:Ob} (hk:get H k=some ob) (cA:∀v es,ob≠.buf v e es):∀o n w,y≠.own k o n w:=by
 intro o n w e;rcases h with⟨rfl, -⟩|⟨id,v, -, -,rfl,h4⟩
 ·cases e
 ·cases e;rw[hk]at h4;cases h4;exact cA _ _ rfl
theorem QE.Ba {e:Nat} {H:Hp} {n:Nat} {y:AV} {rows:List (List AV)} (h:QE e H n y rows) (hf:cr H n) (r:List AV) {g slot:Nat} {H1:Hp} (hg:get H1 g=some (.buf 0 e [r])) (tI:∀k,k≠g->get H1 k=get H k) (YC:4*n<=g) (hs:n<=slot) (hgs:g<4*slot) (hr:rows.length+1<=1073741824) :
  ∃y' H',(app e slot false y (.own g 0 1 0)).run H1=some (y',H')/\cr H' (slot+1)/\QE e H' (slot+1) y' (rows++[r])/\(∀k,k<4*n->(∀o n w,y≠.own k o n w)->get H' k=get H k)/\(∀k o n w,y' = .own k o n w->k=4*slot\/∃o n w,y = .own k o n w):=by
 have tz:get H1 (4*slot)=none:=by rw[tI _ (by omega)];exact hf _ (by omega)
 have A7:QE e H1 n y rows:=h.mono (Nat.le_refl _) λk hk=>tI k (by omega)
 obtain⟨y',H',h1,h2,h3,h4⟩:=A7.push r hg YC hs tz hr;have xr:∀k o n' w,y = .own k o n' w->k<4*n:=λk o n' w e=>by
  rcases h with⟨rfl, -⟩|⟨id,v,i1, -,rfl, -⟩
  ·cases e
  ·cases e;exact i1
 refine⟨y',H',h1,λk hk=>?_,h2 _ (by omega),λk hk cA=>?_,h4⟩
 ·rw[h3 k (λo n' w e=>by have:=xr _ _ _ _ e;omega) (by omega),tI _ (by omega)];exact hf k (by omega)
 ·rw[h3 k cA (by omega),tI _ (by omega)]
theorem x5 {e:Nat} {H H':Hp} {n n' m:Nat} {y:AV} {rows:List (List AV)} (h:QE e H n y rows) (hn:n<=n') {z:AV} (ho:∀k,k<4*n->(∀o n w,z≠.own k o n w)->get H' k=get H k) {e2:Nat} {rz:List (List AV)} (hz:QE e2 H m z rz) (cA:e≠e2):QE e H' n' y rows:=by
 rcases h with h | ⟨id,v,i1,i2,i3,i4⟩
 ·exact .inl h
 ·exact .inr ⟨id,v,by omega,i2,i3,by rw[ho id i1 (hz.xu i4 λv' es h=>by cases h;exact cA rfl)];exact i4⟩
theorem FZ {H H':Hp} {n n' m:Nat} {y:AV} {l:List B} (h:LB H n y l) (hn:n<=n') {z:AV} (ho:∀k,k<4*n->(∀o n w,z≠.own k o n w)->get H' k=get H k) {e2:Nat} {rz:List (List AV)} (hz:QE e2 H m z rz) (cA:16≠e2):LB H' n' y l:=by
 rcases h with h | h | ⟨id,h1,h2,h3⟩
 ·exact .inl h
 ·exact .inr (.inl h)
 ·refine .inr (.inr ⟨id,by omega,h2,?_⟩);rcases h3 with h3 | h3
  ·left;rw[ho id h1 (hz.xu h3 λv' es h=>by cases h;exact cA rfl)];exact h3
  ·right;rw[ho id h1 (hz.xu h3 λv' es h=>by cases h)];exact h3
theorem QE.pt {e:Nat} {H:Hp} {n:Nat} {y:AV} {rows:List (List AV)} (h:QE e H n y rows) {k:Nat} {cs:List AV} (hk:get H k=some (.cells cs)) (ob:Ob):QE e (ay.set H k ob) n y rows:=by
 rcases h with h | ⟨id,v,i1,i2,i3,i4⟩
 ·exact .inl h
 ·exact .inr ⟨id,v,i1,i2,i3,by rw[aF _ _ (λe=>by subst e;rw[hk]at i4;cases i4)];exact i4⟩
theorem LB.pt {H:Hp} {n:Nat} {y:AV} {l:List B} (h:LB H n y l) {k:Nat} {cs:List AV} (hk:get H k=some (.cells cs)) (ob:Ob):LB (ay.set H k ob) n y l:=by
 rcases h with h | h | ⟨id,h1,h2,h3⟩
 ·exact .inl h
 ·exact .inr (.inl h)
 ·refine .inr (.inr ⟨id,h1,h2,?_⟩);rw[aF _ _ (λe=>by subst e;rw[hk]at h3;rcases h3 with h3 | h3<;>cases h3)];exact h3
theorem iV.Qi {lo:Nat} {H:Hp} {n aN:Nat} {pre:List AV} {g:Lg} {ya yp yd:AV} {ra rp:List (List AV)} (L:iV lo H n aN pre g ya yp yd ra rp) (hf:cr H n) {a:Act} {r:List AV} (hr:AR H n r a) (ha:a.fits) {gid slot n':Nat} (h1:4*n<=gid) (h2:n<=slot) (h3:gid<4*slot) (hn:slot<n') (hlen:ra.length<=1000000) :
  ∃y' H4,(app 5 slot false ya (.own gid 0 1 0)).run (ay.set H gid (.buf 0 5 [r]))=some (y',H4)/\get H4 aN=some (.cells (pre++[ya,yp,yd]))/\cr (ay.set H4 aN (.cells (pre++[y',yp,yd]))) n'/\
   iV lo (ay.set H4 aN (.cells (pre++[y',yp,yd]))) n' aN pre { g with aQ:=g.aQ++[a] } y' yp yd (ra++[r]) rp/\(∀k,k<4*lo->get (ay.set H4 aN (.cells (pre++[y',yp,yd]))) k=get H k):=by
 obtain⟨y',H4,p1,p2,p3,p4,p5⟩:=QE.Ba (e:=5) L.a hf r (g:=gid) (slot:=slot) (ar _ _ _) (λk hk=>aF _ _ (Ne.symm hk)) h1 h2 h3 (by first | omega | (rw[List.length_map];omega));have ql:get H4 aN=some (.cells (pre++[ya,yp,yd])):=by rw[p4 aN L.li.2 (QE.xu (e:=5) L.a L.at_ λv es h=>by cases h)];exact L.at_
 have ho:∀k,k<4*lo->get H4 k=get H k:=λk hk=>p4 k (by have:=L.li;omega) λo m w e=>by have:=L.la k o m w e;omega
 refine⟨y',H4,p1,ql,λk hk=>?_,?_,λk hk=>?_⟩
 ·rw[aF _ _ (by have:=L.li;omega)];exact p2 k (by omega)
 ·have Bb:∀y b,LB H n y b->LB (ay.set H4 aN (.cells (pre++[y',yp,yd]))) n' y b:=λy b q=>(FZ q (show n<=n' by omega) p4 L.a (by decide)).pt ql _
  exact⟨⟨L.li.1,by have:=L.li;omega⟩,ar _ _ _,(QE.pt (e:=5) (p3.mono (show slot+1<=n' by omega) λ_ _=>rfl) ql _),((L.al.mono Bb).push (by obtain⟨y,e,q⟩:=hr;exact⟨y,e,Bb _ _ q⟩)),(QE.pt (x5 (e:=15) L.p (show n<=n' by omega) p4 L.a (by decide)) ql _),L.pl,(QE.pt (x5 (e:=1) L.d (show n<=n' by omega) p4 L.a (by decide)) ql _),(λk o m w e=>by rcases p5 k o m w e with q | ⟨o,m,w,q⟩;(have:=L.li;omega);exact L.la k o m w q),L.lp,L.ld,(λb hb=>by rcases List.mem_append.1 hb with q | q;exact L.fits b q;rw[List.mem_singleton.1 q];exact ha)⟩
 ·rw[aF _ _ (by have:=L.li;omega)];exact ho k hk
theorem iV.Qj {lo:Nat} {H:Hp} {n aN:Nat} {pre:List AV} {g:Lg} {ya yp yd:AV} {ra rp:List (List AV)} (L:iV lo H n aN pre g ya yp yd ra rp) (hf:cr H n) (p:Pb) {gid slot n':Nat} (h1:4*n<=gid) (h2:n<=slot) (h3:gid<4*slot) (hn:slot<n') (hlen:rp.length<=1000000) :
  ∃y' H4,(app 15 slot false yp (.own gid 0 1 0)).run (ay.set H gid (.buf 0 15 [(gU g.cQ.length p)]))=some (y',H4)/\get H4 aN=some (.cells (pre++[ya,yp,yd]))/\cr (ay.set H4 aN (.cells (pre++[ya,y',yd]))) n'/\
   iV lo (ay.set H4 aN (.cells (pre++[ya,y',yd]))) n' aN pre { g with cQ:=g.cQ++[p] } ya y' yd ra (rp++[gU g.cQ.length p])/\(∀k,k<4*lo->get (ay.set H4 aN (.cells (pre++[ya,y',yd]))) k=get H k):=by
 obtain⟨y',H4,p1,p2,p3,p4,p5⟩:=QE.Ba (e:=15) L.p hf (gU g.cQ.length p) (g:=gid) (slot:=slot) (ar _ _ _) (λk hk=>aF _ _ (Ne.symm hk)) h1 h2 h3 (by first | omega | (rw[List.length_map];omega));have ql:get H4 aN=some (.cells (pre++[ya,yp,yd])):=by rw[p4 aN L.li.2 (QE.xu (e:=15) L.p L.at_ λv es h=>by cases h)];exact L.at_
 have ho:∀k,k<4*lo->get H4 k=get H k:=λk hk=>p4 k (by have:=L.li;omega) λo m w e=>by have:=L.lp k o m w e;omega
 refine⟨y',H4,p1,ql,λk hk=>?_,?_,λk hk=>?_⟩
 ·rw[aF _ _ (by have:=L.li;omega)];exact p2 k (by omega)
 ·have Bb:∀y b,LB H n y b->LB (ay.set H4 aN (.cells (pre++[ya,y',yd]))) n' y b:=λy b q=>(FZ q (show n<=n' by omega) p4 L.p (by decide)).pt ql _
  exact⟨⟨L.li.1,by have:=L.li;omega⟩,ar _ _ _,(QE.pt (x5 (e:=5) L.a (show n<=n' by omega) p4 L.p (by decide)) ql _),(L.al.mono Bb),(QE.pt (e:=15) (p3.mono (show slot+1<=n' by omega) λ_ _=>rfl) ql _),(L.pl.push p),(QE.pt (x5 (e:=1) L.d (show n<=n' by omega) p4 L.p (by decide)) ql _),L.la,(λk o m w e=>by rcases p5 k o m w e with q | ⟨o,m,w,q⟩;(have:=L.li;omega);exact L.lp k o m w q),L.ld,L.fits⟩
 ·rw[aF _ _ (by have:=L.li;omega)];exact ho k hk
theorem iV.Qk {lo:Nat} {H:Hp} {n aN:Nat} {pre:List AV} {g:Lg} {ya yp yd:AV} {ra rp:List (List AV)} (L:iV lo H n aN pre g ya yp yd ra rp) (hf:cr H n) (t:Int) {gid slot n':Nat} (h1:4*n<=gid) (h2:n<=slot) (h3:gid<4*slot) (hn:slot<n') (hlen:g.aR.length<=1000000) :
  ∃y' H4,(app 1 slot false yd (.own gid 0 1 0)).run (ay.set H gid (.buf 0 1 [(gk t)]))=some (y',H4)/\get H4 aN=some (.cells (pre++[ya,yp,yd]))/\cr (ay.set H4 aN (.cells (pre++[ya,yp,y']))) n'/\
   iV lo (ay.set H4 aN (.cells (pre++[ya,yp,y']))) n' aN pre { g with aR:=g.aR++[t] } ya yp y' ra rp/\(∀k,k<4*lo->get (ay.set H4 aN (.cells (pre++[ya,yp,y']))) k=get H k):=by
 obtain⟨y',H4,p1,p2,p3,p4,p5⟩:=QE.Ba (e:=1) L.d hf (gk t) (g:=gid) (slot:=slot) (ar _ _ _) (λk hk=>aF _ _ (Ne.symm hk)) h1 h2 h3 (by first | omega | (rw[List.length_map];omega));have ql:get H4 aN=some (.cells (pre++[ya,yp,yd])):=by rw[p4 aN L.li.2 (QE.xu (e:=1) L.d L.at_ λv es h=>by cases h)];exact L.at_
 have ho:∀k,k<4*lo->get H4 k=get H k:=λk hk=>p4 k (by have:=L.li;omega) λo m w e=>by have:=L.ld k o m w e;omega
 refine⟨y',H4,p1,ql,λk hk=>?_,?_,λk hk=>?_⟩
 ·rw[aF _ _ (by have:=L.li;omega)];exact p2 k (by omega)
 ·have Bb:∀y b,LB H n y b->LB (ay.set H4 aN (.cells (pre++[ya,yp,y']))) n' y b:=λy b q=>(FZ q (show n<=n' by omega) p4 L.d (by decide)).pt ql _
  exact⟨⟨L.li.1,by have:=L.li;omega⟩,ar _ _ _,(QE.pt (x5 (e:=5) L.a (show n<=n' by omega) p4 L.d (by decide)) ql _),(L.al.mono Bb),(QE.pt (x5 (e:=15) L.p (show n<=n' by omega) p4 L.d (by decide)) ql _),L.pl,(by show QE 1 _ _ _ ((g.aR++[t]).map gk);rw[List.map_append];exact QE.pt (p3.mono (show slot+1<=n' by omega) λ_ _=>rfl) ql _),L.la,L.lp,(λk o m w e=>by rcases p5 k o m w e with q | ⟨o,m,w,q⟩;(have:=L.li;omega);exact L.ld k o m w q),L.fits⟩
 ·rw[aF _ _ (by have:=L.li;omega)];exact ho k hk
variable {c1:dK} {cx:fb}
end ay
namespace ay
open Go ao
attribute [local simp] aS Option.map_some a7 step cw fJ bp az M.aG M.run M.ok M.fresh M.write M.look M.lift bT ev aP dV an dT dq ar bin fX cU db mk params bh load bB di ep dQ dn dB idx len valid eu ea bound store bl un callee Option.bind_some M.bind cz
def gb (c:Int) (l:List Act):Nat:=(l.filter λa=>a.c==c&&a.t==0).length
def nU (c:Int) (l:List Act):Nat:=(l.filter λa=>a.c==c).length
def se (g:Lg) (o:ao.Op) (now:Int):Lg:=if(lW o.x).2=0/\gb o.c g.aQ<6 then { g with aQ:=g.aQ++[⟨o.c,(nU o.c g.aQ:Int)+1,(lW o.x).1,now,0⟩] } else g
theorem F0 {x:Xp} (hx:x.ok):(lW x).1.length<=1000/\∀b ∈ (lW x).1,b.lim 1000 400:=by
 unfold lW;split
 ·rename_i hr;obtain⟨YB,dt⟩:=xt hr;obtain⟨b1,b2⟩:=qk hx false dt;split
  ·exact⟨by show(bX false x).1.length<=1000;omega,λb hb=>lu (b1 b hb) (by omega) (by omega)⟩
  ·exact⟨by simp,λb hb=>by simp at hb⟩
 ·exact⟨by simp,λb hb=>by simp at hb⟩
theorem C3 (c:Int) (l:List Act):gb c l<=l.length:=List.length_filter_le _ _
theorem Bc (c:Int) (l:List Act):nU c l<=l.length:=List.length_filter_le _ _
theorem yH {c:Int} {l:List Act} {i:Nat} {a:Act} (h:l[i]?=some a):gb c (l.take (i+1))=gb c (l.take i)+if(a.c==c&&a.t==0)=true then 1 else 0:=by
 unfold gb;rw[List.take_add_one,h,List.filter_append,List.length_append];cases hb:(a.c==c&&a.t==0)<;>simp[hb]
theorem F1 {c:Int} {l:List Act} {i:Nat} {a:Act} (h:l[i]?=some a):nU c (l.take (i+1))=nU c (l.take i)+if(a.c==c)=true then 1 else 0:=by
 unfold nU;rw[List.take_add_one,h,List.filter_append,List.length_append];cases hb:(a.c==c)<;>simp[hb]
structure jF (p1:Nat->Option ao.aA) (p2:Nat->Option aA):Prop where
 O:Oq p1 p2
 W:UQ p1 p2
 h:B6 p1
 Z9:p2 183=some Jz
 aac:p2 177=some E9
 aad:p2 176=some Jy
 aae:p2 174=some Te
 aaf:p2 196=some JB
 aag:p2 142=some Ts
 aah:p2 149=some Tv
 aai:p2 195=some JA
 aaj:p2 154=some uQ
 abF:p2 155=some Tl
 aak:p2 199=some Ti
 aal:p2 200=some Th
 aam:p2 143=some Tt
 US:p2 150=some Tw
 aan:p2 139=some Tq
 aao:p2 146=some Tu
 aap:p2 197=some Tk
 aaq:p2 198=some Jx
 aar:p2 153=some E8
 aas:p2 159=some Tj
section
variable {p1:Nat->Option ao.aA} {p2:Nat->Option aA}
theorem rm (o:ao.Op):o.enc.length=24/\o.enc.take 1=[.int .i64 o.k]/\(o.enc.drop 1).take 1=[.int .i64 o.c]/\o.enc.tail.take 1=[.int .i64 o.c]/\(o.enc.drop 2).take 1=[.int .i64 o.u]/\(o.enc.drop 5).take 7=o.x.enc/\(o.enc.drop 12).take 12=o.e.enc:=by
 obtain⟨_,_,_,_,_,x,e⟩:=o;cases x;exact⟨rfl,rfl,rfl,rfl,rfl,rfl,rfl⟩
set_option maxHeartbeats 4000000 in
theorem Xl (bF:bW p2) (L:jF p1 p2) (x:Hd) (o:ao.Op) (ho:o.ok) (now lo aN:Nat) (g:Lg) (H:Hp) (nx:Nat) (hf:cr H nx) {ya yp yd:AV} {ra rp:List (List AV)} (G:LG lo H nx aN x g ya yp yd ra rp) (hl:g.aQ.length<=1000) :
  ∃H' aW jJ jK jL iA jM,nx<=aW/\cr H' aW/\LG lo H' aW aN x (se g o now) jJ jK jL iA jM/\(∀k,k<4*lo->get H' k=get H k)/\Ev p1 p2 183 [.ref aN 0 0 0,.iv (.ptr o.enc),.nI now] H nx (.bD [],H',aW):=by
 obtain⟨o0,o1,o2,o3, -,o5, -⟩:=rm o;obtain⟨H1,n1,yb,dy,kY,km,K1,ct⟩:=Xj (p1:=p1) bF L.O ho.x H (nx+10) (λk hk=>hf k (by omega));have MD:=F0 ho.x;have rT:(o.x.enc).length=7:=o.x.kR;unfold se;generalize lW o.x=r at *;obtain⟨bs,er⟩:=r;simp only[]at kY ct MD;generalize o.enc=oe at *;generalize o.x.enc=xe at *;generalize X4:o.c=c at *;have qB:Ext H nx H1 n1:=⟨by have:=dy.le;omega,dy.fresh,λk hk=>dy.bu k (by omega)⟩;have G1:=G.ext qB;have key:Wp p1 p2 Jz.body ⟨params [.ref aN 0 0 0,.iv (.ptr oe),.nI now] 0,H,nx⟩ (λe st=>∃r:AV×Hp×Nat,(r.1 = .bD []/\∃jJ jK jL iA jM,nx<=r.2.2/\cr r.2.1 r.2.2/\LG lo r.2.1 r.2.2 aN x (if er=0/\gb c g.aQ<6 then { g with aQ:=g.aQ++[⟨c,(nU c g.aQ:Int)+1,bs,now,0⟩] } else g) jJ jK jL iA jM/\(∀k,k<4*lo->get r.2.1 k=get H k))/\Fin Jz.res r e st):=by
  refine cq (K:=K1) (λn hn=>by
   have hc:=ct n hn;simp[o0,o5,rT,hc];rfl) ?_
  refine aj ?_;refine af (af ?_);have iT:=G1.a.len;have dc:=G1.at_;have jf:ra.length=g.aQ.length:=G1.al.1;rw[jf]at iT;refine aD (by
   simp[-len,dc,gT,iT];rfl) ?_
  refine aq ?_;refine b7 (λm s1=>∃(i n2:Nat) (H2:Hp),i+m=g.aQ.length/\Ext H1 n1 H2 n2/\
   s1=⟨[(0,.ref aN 0 0 0),(1,.iv (.ptr oe)),(2,.nI now),(6,yb),(7,.nI er),(8,.nI (gb c (g.aQ.take i))),(9,.nI (nU c (g.aQ.take i))),(23,ya),(24,.nI g.aQ.length),(25,.nI i)],H2,n2⟩) (m:=g.aQ.length)
   ⟨0,n1+8,H1,by omega,Ext.refl dy.fresh (by omega),by simp[aP,an,gb,nU]⟩ ?_
  rintro m s1 ⟨i,n2,H2,oC,dH,rfl⟩;refine af ?_;by_cases hi:i<g.aQ.length
  ·obtain⟨a,ha⟩:∃a,g.aQ[i]?=some a:=⟨_,List.getElem?_eq_getElem hi⟩;have dX:IntKind.i64.wrap ((i:Int)+1)=(i:Int)+1:=IntWalk.i64_in _ (by omega);have G2:=G1.ext dH;obtain⟨row,aH,gx,rfl,kH⟩:=G2.al.get ha;obtain⟨hU,va,i1, -,iJ,i4⟩:=G2.a.at_ aH;rw[jf]at iJ;subst iJ;have gD:=yH (c:=c) ha;have oU:=F1 (c:=c) ha;have aat:gb c (g.aQ.take i)<=1000:=by have:=C3 c (g.aQ.take i);rw[List.length_take]at this;omega
   have aau:nU c (g.aQ.take i)<=1000:=by have:=Bc c (g.aQ.take i);rw[List.length_take]at this;omega
   generalize gb c (g.aQ.take i)=A at *;generalize nU c (g.aQ.take i)=N at *;have ME:IntKind.i64.wrap ((A:Int)+1)=(A:Int)+1:=IntWalk.i64_in _ (by omega);have MF:IntKind.i64.wrap ((N:Int)+1)=(N:Int)+1:=IntWalk.i64_in _ (by omega);simp only[eH]at aH;have eJ:get H2 (4*(n2+1+2))=none:=dH.fresh _ (by omega);have b8:Ext H1 n1 (ay.set (ay.set H2 (4*(n2+1+2)) (.cells [.nI 0,.nI 0,.iv (.aV 16),.nI 0,.nI 0])) (4*(n2+1+2)) (.cells [.nI a.c,.nI a.u,gx,.nI a.f,.nI a.t])) (n2+1+4):=
    ((dH.up (show n2<=n2+1+4 by omega)).set (by have:=dH.le;omega) (by omega) _).set (by have:=dH.le;omega) (by omega) _
   generalize uc:(ay.set (ay.set H2 (4*(n2+1+2)) (Ob.cells [.nI 0,.nI 0,.iv (.aV 16),.nI 0,.nI 0])) (4*(n2+1+2)) (Ob.cells [.nI a.c,.nI a.u,gx,.nI a.f,.nI a.t]))=H3 at b8;have ud:get H3 (4*(n2+1+2))=some (.cells [.nI a.c,.nI a.u,gx,.nI a.f,.nI a.t]):=by rw[<-uc];exact ar _ _ _
   refine aD (by simp[hi];rfl) ?_;refine af (ag (t:=true) rfl (ak (af (aq (au (s':=⟨_,H3,n2+1+4⟩) (by
    rw[<-uc];simp[i4,hi,aH,eJ];rfl) ?_)))))
   refine af (Wp.drawn rfl ?_);refine aD (by
    simp[ud,o0,o3];rfl) ?_
   refine ag rfl ?_;cases tG:a.c==c with
   |false=>
    rw[tG]at gD oU;simp only[Bool.false_and,Bool.false_eq_true,if_false,Nat.add_zero]at gD oU ⊢;refine ak ?_;simp only[Ex.then,Ex.inBlock];refine aD (by simp[dX];rfl) ?_;exact⟨m - 1,by omega,i+1,_,H3,by omega,b8.up (show n2+1+4<=n2+1+4+7+2 by omega),by simp[aP,an,gD,oU]⟩
   |true=>
    rw[tG]at gD oU;simp only[Bool.true_and,if_true]at gD oU ⊢;refine au (by simp[MF];rfl) ?_;refine au (by
     simp[ud];rfl) ?_
    refine ag rfl ?_;cases UT:a.t==0 with
    |false=>
     rw[UT]at gD;simp only[Bool.false_eq_true,if_false,Nat.add_zero]at gD ⊢;refine ak ?_;simp only[Ex.then,Ex.inBlock];refine aD (by simp[dX];rfl) ?_;exact⟨m - 1,by omega,i+1,_,H3,by omega,b8.up (show n2+1+4<=n2+1+4+7+3+3+2 by omega),by simp[aP,an,gD,oU]⟩
    |true=>
     rw[UT]at gD;simp only[if_true]at gD ⊢;refine aD (by simp[ME];rfl) ?_;simp only[Ex.then,Ex.inBlock];refine aD (by simp[dX];rfl) ?_;exact⟨m - 1,by omega,i+1,_,H3,by omega,b8.up (show n2+1+4<=n2+1+4+7+3+3+3+2 by omega),by simp[aP,an,gD,oU]⟩
  ·obtain rfl:i=g.aQ.length:=by omega
   refine bK ?_;refine af (ag (t:=false) rfl (aO ?_));simp only[Ex.then,Ex.inBlock,if_true];have G2:=G1.ext dH;have hN9:=Bc c g.aQ;generalize nU c g.aQ=N at *;generalize gb c g.aQ=A at *;refine au (s':=⟨[(0,.ref aN 0 0 0),(1,.iv (.ptr oe)),(2,.nI now),(6,yb),(9,.nI N),(49,.bI (decide (er=0)&&decide (A<6)))],H2,n2+1+6⟩) (by
    have h1:(er==0)=decide (er=0):=by by_cases h:er=0<;>simp[h]
    have h2:decide ((A:Int)<6)=decide (A<6):=decide_eq_decide.2 (by omega);cases h0:decide (er=0)<;>simp[h1,h2,h0]) ?_
   refine ag rfl ?_;by_cases hc:er=0/\A<6
   ·rw[if_pos hc];have:(decide (er=0)&&decide (A<6))=true:=by simp[hc]
    rw[this];simp only[if_true];have MF:IntKind.i64.wrap ((N:Int)+1)=(N:Int)+1:=IntWalk.i64_in _ (by omega);have G3:=G2.ext (Ext.refl dH.fresh (show n2<=n2+1+6 by omega));have YF:cr H2 (n2+1+6):=λk hk=>dH.fresh k (by omega)
    have ei:=qB.trans (dH.up (show n2<=n2+1+6 by omega));obtain⟨y',H4,q1,q2,q3,q4,q5⟩:=G3.Qi YF (a:=⟨c,(N:Int)+1,bs,now,0⟩) (r:=[.nI c,.nI ((N:Int)+1),yb,.nI now,.nI 0]) ⟨yb,rfl,kY.mono (show n1<=n2+1+6 by have:=dH.le;omega) dH.bu⟩ MD (gid:=4*(n2+1+6+14)) (slot:=n2+1+6+15) (n':=n2+1+6+19) (by omega) (by omega) (by omega) (by omega) (by omega);have nC:=G2.at_;have kA:get H2 (4*(n2+1+6+14))=none:=YF _ (by omega);have uf:get (ay.set H2 (4*(n2+1+6+14)) (.buf 0 5 [[.nI c,.nI ((N:Int)+1),yb,.nI now,.nI 0]])) aN=get H2 aN:=aF _ _ (by have:=G2.li;omega);have mH:bh yb = .ret [yb]:=kY.cell
    have mC:bh y' = .ret [y']:=q4.a.cell;rw[gT]at q2 q3 q4 q5 nC;simp only[List.cons_append,List.nil_append]at q2 q3 q4 q5 nC;refine Wp.drawn rfl ?_;refine aD (s':=⟨[],_,n2+1+6+19⟩) (by
     simp only[Nat.add_assoc]at q1 q2 kA uf;simp[-bh,nT,oJ,nC,o0,o3,MF,kA,mH,mC,bO,cz,Nat.add_assoc,q1,q2];rfl) ?_
    exact⟨(_,_,_),⟨rfl,y',yp,yd,_,rp,by have:=ei.le;show nx<=n2+1+6+19;omega,q3,q4,λk hk=>by rw[q5 k hk];exact ei.bu k (by have:=G.li;omega)⟩,rfl,rfl⟩
   ·rw[if_neg hc];have:(decide (er=0)&&decide (A<6))=false:=by
     rw[Bool.eq_false_iff];intro h;exact hc (by simpa using h)
    rw[this];simp only[Bool.false_eq_true,if_false];refine ak ?_;have ei:=qB.trans (dH.up (show n2<=n2+1+6 by omega));exact⟨(_,_,_),⟨rfl,ya,yp,yd,ra,rp,ei.le,ei.fresh,G.ext ei,λk hk=>ei.bu k (by have:=G.li;omega)⟩,rfl,rfl⟩
 obtain⟨⟨y,H',aW⟩,⟨rfl,jJ,jK,jL,iA,jM,h1,h2,h3,h4⟩,h5⟩:=Ev.jn bF L.Z9 rfl rfl _ key;exact⟨H',aW,jJ,jK,jL,iA,jM,h1,h2,h3,h4,h5⟩
end
end ay
namespace ay
open Go ao
def oK (c u:Int) (a:Act):Bool:=a.c==c&&(a.u==u&&a.t==0)
def vi (c u now:Int) (l:List Act):List Act:=if 0<=eG (oK c u) l 0 then l.modify (eG (oK c u) l 0).toNat (λa=>{ a with t:=now }) else l
theorem Ot (c u now:Int) (l:List Act):(vi c u now l).length=l.length:=by unfold vi;split<;>simp
def mR (h:Hd) (c:Int):Bool:=decide (c<0)||decide ((h.hs.length:Int)<=c)
def gJ (h:Hd) (g:Lg) (i:Nat) (o:ao.Op):Lg:=
 let g1:Lg:=if o.k=5 then { g with aR:=g.aR++[(i:Int)+1] } else g
 if mR h o.c=true then g1
 else if o.k=1 then se g1 o ((i:Int)+1)
 else if o.k=2 then { g1 with aQ:=vi o.c o.u ((i:Int)+1) g1.aQ }
 else if o.k=3 then(if eX o.e=true then { g1 with cQ:=g1.cQ++[⟨o.c,o.e,(i:Int)+1⟩] } else g1)
 else g1
def fG (h:Hd) (l:List ao.Op):Nat->Lg
 |0=>⟨[],[],[]⟩
 |t+1=>match l[t]? with
  |some o=>gJ h (fG h l t) t o
  |none=>fG h l t
def eO (h:Hd) (l:List ao.Op):Lg:=if eS h=0 then fG h l l.length else⟨[],[],[]⟩
theorem Ou (g:Lg) (o:ao.Op) (now:Int):(se g o now).aQ.length<=g.aQ.length+1/\(se g o now).cQ=g.cQ/\(se g o now).aR=g.aR:=by
 unfold se;split<;>simp
theorem MG (h:Hd) (g:Lg) (i:Nat) (o:ao.Op):(gJ h g i o).aQ.length<=g.aQ.length+1/\(gJ h g i o).cQ.length<=g.cQ.length+1/\(gJ h g i o).aR.length<=g.aR.length+1:=by
 unfold gJ;simp only[];have h1:(if o.k=5 then { g with aR:=g.aR++[(i:Int)+1] } else g).aQ.length=g.aQ.length:=by split<;>rfl
 have h2:(if o.k=5 then { g with aR:=g.aR++[(i:Int)+1] } else g).cQ.length=g.cQ.length:=by split<;>rfl
 have h3:(if o.k=5 then { g with aR:=g.aR++[(i:Int)+1] } else g).aR.length<=g.aR.length+1:=by split<;>simp
 generalize(if o.k=5 then { g with aR:=g.aR++[(i:Int)+1] } else g)=g1 at *;have hs:=Ou g1 o ((i:Int)+1);split
 ·omega
 ·split
  ·rw[hs.2.1,hs.2.2];omega
  ·split
   ·simp only[Ot];omega
   ·split
    ·split
     ·simp only[List.length_append,List.length_cons,List.length_nil];omega
     ·omega
    ·omega
theorem oL (h:Hd) (l:List ao.Op):∀t,(fG h l t).aQ.length<=t/\(fG h l t).cQ.length<=t/\(fG h l t).aR.length<=t
 |0=>by simp[fG]
 |t+1=>by
  have ih:=oL h l t;unfold fG;split
  ·rename_i o _;have:=MG h (fG h l t) t o;omega
  ·omega
theorem QE.J7 {e:Nat} {H:Hp} {n:Nat} {y:AV} {rows:List (List AV)} (h:QE e H n y rows) {k v e':Nat} {es:List (List AV)} (hk:get H k=some (.buf v e' es)) (cA:e≠e') (ob:Ob):QE e (ay.set H k ob) n y rows:=by
 rcases h with h | ⟨id,v,i1,i2,i3,i4⟩
 ·exact .inl h
 ·exact .inr ⟨id,v,i1,i2,i3,by rw[aF _ _ (λe=>by subst e;rw[hk]at i4;cases i4;exact cA rfl)];exact i4⟩
theorem LB.J7 {H:Hp} {n:Nat} {y:AV} {l:List B} (h:LB H n y l) {k v e':Nat} {es:List (List AV)} (hk:get H k=some (.buf v e' es)) (cA:16≠e') (ob:Ob):LB (ay.set H k ob) n y l:=by
 rcases h with h | h | ⟨id,h1,h2,h3⟩
 ·exact .inl h
 ·exact .inr (.inl h)
 ·refine .inr (.inr ⟨id,h1,h2,?_⟩);rw[aF _ _ (λe=>by
   subst e;rw[hk]at h3;rcases h3 with h3 | h3
   ·cases h3;exact cA rfl
   ·cases h3)]
  exact h3
theorem iV.UU {lo:Nat} {H:Hp} {n aN:Nat} {pre:List AV} {g:Lg} {yp yd:AV} {ra rp:List (List AV)} {hU va:Nat} (L:iV lo H n aN pre g (.own hU 0 ra.length va) yp yd ra rp) (cV:get H hU=some (.buf va 5 ra)) (bC:hU<4*n) (hm:hU % 4=0) {i:Nat} {a:Act} {r:List AV} (hr:AR H n r a) (ha:a.fits) :
  iV lo (ay.set H hU (.buf va 5 (ra.set i r))) n aN pre { g with aQ:=g.aQ.set i a } (.own hU 0 ra.length va) yp yd (ra.set i r) rp:=by
 have Bb:∀y b,LB H n y b->LB (ay.set H hU (.buf va 5 (ra.set i r))) n y b:=λy b q=>q.J7 cV (by decide) _
 refine⟨L.li,?_,?_,(L.al.mono Bb).set (by obtain⟨y,e,q⟩:=hr;exact⟨y,e,Bb _ _ q⟩),L.p.J7 cV (by decide) _,L.pl,QE.J7 L.d cV (by decide) _,L.la,L.lp,L.ld,λb hb=>?_⟩
 ·rw[aF _ _ (λe=>by rw[e]at cV;have:=L.at_;rw[cV]at this;cases this)];exact L.at_
 ·exact .inr ⟨hU,va,bC,hm,by simp,ar _ _ _⟩
 ·rcases List.mem_or_eq_of_mem_set hb with q | q
  ·exact L.fits b q
  ·rw[q];exact ha
section
variable {p1:Nat->Option ao.aA} {p2:Nat->Option aA}
theorem MH (L:jF p1 p2) (x:Hd) (hp:x.ps.length<=100) (hh:x.hs.length<=100):∃K,∀m,K<=m->∀(H:Hp),(dF (one p1 m) (.iv (.fn 131 [])) [.agg (cj x)]).run H=some (.nI (eS x),H):=by
 obtain⟨K1,ct⟩:=Ra L.W.T.ZZ x (by unfold maxLen;omega) (by unfold maxLen;omega);refine⟨K1,λm hm H=>?_⟩;have e1:(one p1 m 131 [.agg (x.enc.map ao.AV.iv)] []).bind shut=some (.nI (eS x)):=ct m (by omega);have hz:∀w,bZ w (.agg (cj x)) = .ret (.agg (x.enc.map ao.AV.iv)):=λw=>by
  unfold bZ;simp only[];rw[FY];rfl
 simp[dF,callee,az,M.lift,M.run,M.aG,hz,e1,kX,ks,M.ok,flat,ew,eI,eZ,M.bind]
theorem MI (L:jF p1 p2) (e:E):∃K,∀m,K<=m->∀(H:Hp),(dF (one p1 m) (.iv (.fn 137 [])) [.agg (e.enc.map AV.iv)]).run H=some (.bI (eX e),H):=by
 obtain⟨K1,ct⟩:=HL L.h.zC L.h.Uj e;refine⟨K1,λm hm H=>?_⟩;have e1:(one p1 m 137 [.agg (e.enc.map ao.AV.iv)] []).bind shut=some (.bI (eX e)):=ct m (by omega);have hz:bZ false (.agg (e.enc.map AV.iv)) = .ret (.agg (e.enc.map ao.AV.iv)):=by
  unfold bZ;simp only[];rw[ua false 7 e.enc e.fk];rfl
 simp[dF,callee,az,M.lift,M.run,M.aG,hz,e1,kX,ks,M.ok,flat,ew,eI,eZ,M.bind]
end
end ay
namespace ay
open Go ao
attribute [local simp] aS Option.map_some a7 step cw fJ bp az M.aG M.run M.ok M.fresh M.write M.look M.lift bT ev aP dV an dT dq ar bin fX cU db mk params bh load bB di ep dQ dn dB idx len valid eu ea bound store bl un callee Option.bind_some M.bind cz
def J8:IC:=match E9.body with
 |.seq _ (.scope (.seq _ (.seq _ (.seq _ (.seq (.seq _ (.block _ (.loop _ (.seq _ (.seq _ (.seq (.block _ (.seq _ (.seq _ c))) _)))))) _)))))=>c
 |_=>.skip
def UW:IC:=match J8 with
 |.seq _ (.seq _ (.seq _ (.block _ (.seq _ (.cond _ _ (.seq _ (.cond _ e _)))))))=>e
 |_=>.skip
structure UX (fr:Fr) (cH box:AV) (aN:Nat) (N i:Int):Prop where
 g1:get fr 1=some cH
 g2:get fr 2=some box
 g5:get fr 5=some (.ref aN 0 0 0)
 g19:get fr 19=some (.iv (.int .i64 N))
 g20:get fr 20=some (.iv (.int .i64 i))
section
variable {p1:Nat->Option ao.aA} {p2:Nat->Option aA}
set_option maxHeartbeats 4000000 in
theorem Ov (cH box:AV) (N i:Int) (x:Hd) (o:ao.Op) (now lo aN:Nat) (g:Lg) (H:Hp) (nx:Nat) (hf:cr H nx) {ya yp yd:AV} {ra rp:List (List AV)} (G:LG lo H nx aN x g ya yp yd ra rp) (hl:g.aQ.length<=1000) :
  Wp p1 p2 UW ⟨[(1,cH),(2,box),(5,.ref aN 0 0 0),(7,.iv (.ptr o.enc)),(8,.nI now),(19,.nI N),(20,.nI i),(61,.nI o.k),(68,.bI true)],H,nx⟩
   (λe st=>(e = .norm\/e = .exit 1)/\∃jJ jK jL iA jM,UX st.fr cH box aN N i/\nx<=st.nx/\cr st.hp st.nx/\LG lo st.hp st.nx aN x { g with aQ:=vi o.c o.u now g.aQ } jJ jK jL iA jM/\(∀k,k<4*lo->get st.hp k=get H k)):=by
 obtain⟨o0,o1,o2,o3,o4, -, -⟩:=rm o;unfold vi;generalize o.enc=oe at *;generalize o.c=c at *;generalize o.u=u at *;have iT:=G.a.len;have dc:=G.at_;have jf:ra.length=g.aQ.length:=G.al.1;rw[jf]at iT;refine au (s':=⟨[(1,cH),(2,box),(5,.ref aN 0 0 0),(7,.iv (.ptr oe)),(8,.nI now),(19,.nI N),(20,.nI i),(74,.nI g.aQ.length),(75,.nI 0)],H,nx+6⟩) (by
  simp[-len,dc,gT,iT]) ?_
 refine aq ?_;refine b7 (λm s1=>∃(j n2:Nat),j+m=g.aQ.length/\nx<=n2/\eG (oK c u) (g.aQ.drop j) j=eG (oK c u) g.aQ 0/\
  s1=⟨[(1,cH),(2,box),(5,.ref aN 0 0 0),(7,.iv (.ptr oe)),(8,.nI now),(19,.nI N),(20,.nI i),(74,.nI g.aQ.length),(75,.nI j)],H,n2⟩) (m:=g.aQ.length)
  ⟨0,nx+6,by omega,by omega,rfl,by simp[aP,an]⟩ ?_
 rintro m s1 ⟨j,n2,CV,r9,hY,rfl⟩;refine af ?_;by_cases hj:j<g.aQ.length
 ·obtain⟨a,ha⟩:∃a,g.aQ[j]?=some a:=⟨_,List.getElem?_eq_getElem hj⟩;have dX:IntKind.i64.wrap ((j:Int)+1)=(j:Int)+1:=IntWalk.i64_in _ (by omega);rw[qh ha]at hY;obtain⟨row,aH,gx,rfl,kH⟩:=G.al.get ha;obtain⟨hU,va,i1,i2,iJ,i4⟩:=G.a.at_ aH;have G0:=G;rw[iJ]at G0;rw[jf]at iJ;have hgE:{ g with aQ:=g.aQ.set j { a with t:=now } }=({ aQ:=g.aQ.set j { a with t:=now },cQ:=g.cQ,aR:=g.aR }:Lg):=rfl;simp only[eH]at aH;refine aD (by simp[hj];rfl) ?_;refine af (ag (t:=true) rfl (ak (af (aq (aj ?_)))));refine af ?_;rw[iJ,gT]at dc
  refine aD (s':=⟨[(1,cH),(2,box),(5,.ref aN 0 0 0),(7,.iv (.ptr oe)),(8,.nI now),(10,.ref hU va j 0),(19,.nI N),(20,.nI i),(74,.nI g.aQ.length),(75,.nI j)],H,n2+1+2+7⟩) (by
   simp[dc,i4,hj]) ?_
  refine af (Wp.drawn rfl ?_);refine aD (s':=⟨[(1,cH),(2,box),(5,.ref aN 0 0 0),(7,.iv (.ptr oe)),(8,.nI now),(10,.ref hU va j 0),(19,.nI N),(20,.nI i),(74,.nI g.aQ.length),(75,.nI j),(110,.bI (oK c u a))],H,n2+1+2+7+27⟩) (by
   unfold oK;cases h1:a.c==c<;>cases h2:a.u==u<;>simp[i4,aH,o0,o2,o3,o4,h1,h2]) ?_
  refine ag rfl ?_;cases hm:oK c u a with
  |true=>
   rw[hm]at hY;simp only[if_true]at hY ⊢;have Cm:bl [AV.iv (IV.int IntKind.i64 a.c),AV.iv (IV.int IntKind.i64 a.u),gx,AV.iv (IV.int IntKind.i64 a.f),AV.iv (IV.int IntKind.i64 a.t)] 4 [.nI now]=[AV.iv (IV.int IntKind.i64 a.c),AV.iv (IV.int IntKind.i64 a.u),gx,AV.iv (IV.int IntKind.i64 a.f),AV.iv (IV.int IntKind.i64 now)]:=rfl;refine au (s':=⟨[(1,cH),(2,box),(5,.ref aN 0 0 0),(19,.nI N),(20,.nI i)],ay.set H hU (.buf va 5 (ra.set j [AV.iv (IV.int IntKind.i64 a.c),AV.iv (IV.int IntKind.i64 a.u),gx,AV.iv (IV.int IntKind.i64 a.f),AV.iv (IV.int IntKind.i64 now)])),n2+1+2+7+27+5⟩) (by
    simp[i4,aH]) ?_
   refine aO ?_;simp only[Ex.then,Ex.inBlock,if_true,if_false,reduceIte,show ¬(1=4) by decide,show ¬(1=3) by decide];have G1:=G0.ext (Ext.refl hf (show nx<=n2+1+2+7+27+5 by omega));have vO:a.fits:=G.fits a (List.mem_of_getElem? ha);have G2:=G1.UU i4 (by omega) i2 (i:=j) (a:={ a with t:=now }) (r:=[AV.iv (IV.int IntKind.i64 a.c),AV.iv (IV.int IntKind.i64 a.u),gx,AV.iv (IV.int IntKind.i64 a.f),AV.iv (IV.int IntKind.i64 now)]) ⟨gx,rfl,kH.mono (by omega) λ_ _=>rfl⟩ vO;rw[<-hY];have ux:g.aQ.modify (j:Int).toNat (λa=>{ a with t:=now })=g.aQ.set j { a with t:=now }:=by
    rw[Int.toNat_natCast];apply List.ext_getElem?;intro k;rw[List.getElem?_modify];by_cases hk:j=k
    ·subst hk;rw[List.getElem?_set_self hj,ha];simp
    ·rw[List.getElem?_set_ne hk];simp[hk]
   rw[if_pos (show(0:Int)<=(j:Int) by omega),ux];have oF:4*lo<=hU:=G0.la _ _ _ _ rfl;have aav:hU<4*nx:=by rcases G0.a with⟨h, -⟩|⟨ed,v',q1, -,q3, -⟩;(cases h);(cases q3;exact q1)
   exact⟨by simp,_,_,_,_,_,⟨rfl,rfl,rfl,rfl,rfl⟩,by show nx<=n2+1+2+7+27+5;omega,λk hk=>by
    show get (ay.set H hU _) k=none
    rw[aF _ _ (by have:4*(n2+1+2+7+27+5)<=k:=hk;omega)];exact hf k (by have:4*(n2+1+2+7+27+5)<=k:=hk;omega),G2,λk hk=>aF _ _ (by omega)⟩
  |false=>
   rw[hm]at hY;simp only[Bool.false_eq_true,if_false]at hY ⊢;refine ak ?_;simp only[Ex.then,Ex.inBlock];refine aD (by simp[dX];rfl) ?_;exact⟨m - 1,by omega,j+1,_,by omega,by show nx<=n2+1+2+7+27+2;omega,hY,by simp[aP,an]⟩
 ·obtain rfl:j=g.aQ.length:=by omega
  refine bK ?_;refine af (ag (t:=false) rfl (aO ?_));simp only[Ex.then,Ex.inBlock,if_true];rw[List.drop_length]at hY;have:¬0<=eG (oK c u) g.aQ 0:=by rw[<-hY];simp[eG]
  rw[if_neg this];have hE:=Ext.refl hf (show nx<=n2+1 by omega);exact⟨by simp,_,_,_,_,_,⟨rfl,rfl,rfl,rfl,rfl⟩,by show nx<=n2+1;omega,hE.fresh,G.ext hE,by simp⟩
end
structure FR7 (fr:Fr) (cH box:AV) (aN:Nat) (N i:Int) (oe:List IV) (now:Nat):Prop extends UX fr cH box aN N i where
 g7:get fr 7=some (.iv (.ptr oe))
 g8:get fr 8=some (.iv (.int .i64 now))
def UY:IC:=match J8 with
 |.seq c _=>c
 |_=>.skip
section
variable {p1:Nat->Option ao.aA} {p2:Nat->Option aA}
set_option maxHeartbeats 4000000 in
theorem J9 (cH box:AV) (N i:Int) (x:Hd) (o:ao.Op) (now lo aN:Nat) (g:Lg) (H:Hp) (nx:Nat) (hf:cr H nx) {ya yp yd:AV} {ra rp:List (List AV)} (G:LG lo H nx aN x g ya yp yd ra rp) (hl:g.aR.length<=1000) :
  Wp p1 p2 UY ⟨[(1,cH),(2,box),(5,.ref aN 0 0 0),(7,.iv (.ptr o.enc)),(8,.nI now),(19,.nI N),(20,.nI i)],H,nx⟩
   (λe st=>e = .norm/\∃jJ jK jL iA jM,FR7 st.fr cH box aN N i o.enc now/\nx<=st.nx/\cr st.hp st.nx/\LG lo st.hp st.nx aN x (if o.k=5 then { g with aR:=g.aR++[(now:Int)] } else g) jJ jK jL iA jM/\(∀k,k<4*lo->get st.hp k=get H k)):=by
 obtain⟨o0,o1,o2,o3,o4, -, -⟩:=rm o;generalize o.enc=oe at *;generalize o.k=k at *;refine au (by
  have:(k==5)=decide (k=5):=by by_cases h:k=5<;>simp[h]
  simp[o0,o1,this];rfl) ?_
 refine ag rfl ?_;by_cases hk:k=5
 ·rw[decide_eq_true hk,if_pos hk];simp only[if_true];have G1:=G.ext (Ext.refl hf (show nx<=nx+5 by omega));obtain⟨y',H4,q1,q2,q3,q4,q5⟩:=G1.Qk (λk hk=>hf k (by omega)) (now:Int) (gid:=4*(nx+5+6)) (slot:=nx+5+7) (n':=nx+5+11) (by omega) (by omega) (by omega) (by omega) (by omega);have nC:=G.at_;have kA:get H (4*(nx+5+6))=none:=hf _ (by omega);have uf:get (ay.set H (4*(nx+5+6)) (.buf 0 1 [gk now])) aN=get H aN:=aF _ _ (by have:=G.li;omega);have mC:bh y' = .ret [y']:=QE.cell (e:=1) q4.d;rw[gT]at q2 q3 q4 q5 nC;simp only[List.cons_append,List.nil_append]at q2 q3 q4 q5 nC
  simp only[gk]at q1 uf;refine aD (s':=⟨[(1,cH),(2,box),(5,.ref aN 0 0 0),(7,.iv (.ptr oe)),(8,.nI now),(19,.nI N),(20,.nI i)],_,nx+5+11⟩) (by
   simp only[Nat.add_assoc]at q1 q2 kA uf;simp[-bh,nT,nC,kA,mC,bO,cz,Nat.add_assoc,q1,q2];rfl) ?_
  exact⟨rfl,ya,yp,y',ra,rp,⟨⟨rfl,rfl,rfl,rfl,rfl⟩,rfl,rfl⟩,by show nx<=nx+5+11;omega,q3,q4,q5⟩
 ·rw[decide_eq_false hk,if_neg hk];simp only[Bool.false_eq_true,if_false];refine ak ?_;have hE:=Ext.refl hf (show nx<=nx+5 by omega);exact⟨rfl,_,_,_,_,_,⟨⟨rfl,rfl,rfl,rfl,rfl⟩,rfl,rfl⟩,by show nx<=nx+5;omega,hE.fresh,G.ext hE,λ_ _=>rfl⟩
set_option maxHeartbeats 8000000 in
theorem Rq (bF:bW p2) (L:jF p1 p2) (cH:AV) (N i:Nat) (x:Hd) (o:ao.Op) (ho:o.ok) (lo aN kZ:Nat) (g:Lg) (H:Hp) (nx:Nat) (hf:cr H nx) {ya yp yd:AV} {ra rp:List (List AV)} (G:LG lo H nx aN x g ya yp yd ra rp) (iT:g.aQ.length<=1000) (xv:g.cQ.length<=1000) (Bd:g.aR.length<=1000)
  (hb:get H kZ=some (.cells (cj x))) (vE:kZ<4*lo) :
  Wp p1 p2 J8 ⟨[(1,cH),(2,.ref kZ 0 0 0),(5,.ref aN 0 0 0),(7,.iv (.ptr o.enc)),(8,.nI (i+1:Nat)),(19,.nI N),(20,.nI i)],H,nx⟩
   (λe st=>(e = .norm\/e = .exit 1)/\∃jJ jK jL iA jM,UX st.fr cH (.ref kZ 0 0 0) aN N i/\nx<=st.nx/\cr st.hp st.nx/\LG lo st.hp st.nx aN x (gJ x g i o) jJ jK jL iA jM/\(∀k,k<4*lo->get st.hp k=get H k)):=by
 refine af (Wp.mono (J9 cH (.ref kZ 0 0 0) N i x o (i+1) lo aN g H nx hf G Bd) ?_);rintro e ⟨fr,H1,n1⟩ ⟨rfl,ya1,yp1,yd1,ra1,rp1,F,P5,xk,G1,jV⟩;simp only[Ex.then];unfold gJ;simp only[]at *;have ni:((i+1:Nat):Int)=(i:Int)+1:=by omega
 rw[ni]at G1;have UZ:(if o.k=5 then { g with aR:=g.aR++[(i:Int)+1] } else g).aQ.length<=1000:=by split<;>exact iT
 have abG:(if o.k=5 then { g with aR:=g.aR++[(i:Int)+1] } else g).cQ.length<=1000:=by split<;>exact xv
 generalize(if o.k=5 then { g with aR:=g.aR++[(i:Int)+1] } else g)=g1 at *;obtain⟨o0,o1,o2,o3,o4,o5,o6⟩:=rm o;have nO:get H1 kZ=some (.cells (cj x)):=by rw[jV _ vE];exact hb
 obtain⟨⟨f1,f2,f5,f19,f20⟩,f7,f8⟩:=F;refine af (af (Wp.drawn rfl ?_));refine aD (s':=⟨[(1,cH),(2,.ref kZ 0 0 0),(5,.ref aN 0 0 0),(7,.iv (.ptr o.enc)),(8,.nI (i+1:Nat)),(19,.nI N),(20,.nI i),(57,.bI (mR x o.c))],H1,n1+15⟩) (by
  unfold mR;rw[gT]at nO;generalize o.enc=oe at *;generalize o.c=c at *;cases h1:decide (c<0)<;>simp[bU,f1,f2,f5,f7,f8,f19,f20,o0,o3,nO,h1]) ?_
 refine ag rfl ?_;cases Je:mR x o.c with
 |true=>
  simp only[if_true];refine aO ?_;have hE:=Ext.refl xk (show n1<=n1+15 by omega);exact⟨.inr rfl,_,_,_,_,_,⟨rfl,rfl,rfl,rfl,rfl⟩,by show nx<=n1+15;omega,hE.fresh,G1.ext hE,jV⟩
 |false=>
  simp only[Bool.false_eq_true,if_false];refine ak ?_;simp only[Ex.then];refine af ?_;have hox:=ho.x;generalize F2:o.enc=oe at *;refine aD (by
   simp[o0,o1];rfl) ?_
  refine aq (au (by
   have:(o.k==1)=decide (o.k=1):=by by_cases h:o.k=1<;>simp[h]
   simp[this];rfl) ?_)
  refine ag rfl ?_;by_cases k1:o.k=1
  ·rw[decide_eq_true k1,if_pos k1];simp only[if_true];have hE:=Ext.refl xk (show n1<=n1+15+4+2+4 by omega);obtain⟨H2,n2,jJ,jK,jL,iA,jM,b1,b2,b3,b4,K,hK⟩:=Xl (p1:=p1) bF L x o ho (i+1) lo aN g1 H1 (n1+15+4+2+4) hE.fresh (G1.ext hE) UZ;rw[F2]at hK;rw[ni]at b3;refine aI (K:=K) (λn hn=>by
    have c:=hK n hn;simp at c ⊢;simp[c];rfl) ?_
   exact⟨.inl rfl,_,_,_,_,_,⟨rfl,rfl,rfl,rfl,rfl⟩,by show nx<=n2;omega,b2,b3,λk hk=>(b4 k hk).trans (jV k hk)⟩
  ·rw[decide_eq_false k1,if_neg k1];simp only[Bool.false_eq_true,if_false];refine au (by
    have:(o.k==2)=decide (o.k=2):=by by_cases h:o.k=2<;>simp[h]
    simp[this];rfl) ?_
   refine ag rfl ?_;by_cases k2:o.k=2
   ·rw[decide_eq_true k2,if_pos k2];simp only[if_true];have hE:=Ext.refl xk (show n1<=n1+15+4+2+2 by omega);have q:=Ov (p1:=p1) (p2:=p2) cH (.ref kZ 0 0 0) N i x o (i+1) lo aN g1 H1 (n1+15+4+2+2) hE.fresh (G1.ext hE) UZ;rw[k2,F2,ni]at q;rw[k2];refine Wp.mono q ?_;rintro e ⟨vF,H2,n2⟩ ⟨he,jJ,jK,jL,iA,jM,b0,b1,b2,b3,b4⟩;simp only[]at b1 b2 b3 b4;rcases he with rfl | rfl
    ·exact⟨.inl rfl,_,_,_,_,_,b0,by show nx<=n2;omega,b2,b3,λk hk=>(b4 k hk).trans (jV k hk)⟩
    ·simp only[Ex.inBlock,show ¬(1=2) by decide,if_false];exact⟨.inr trivial,_,_,_,_,_,b0,by show nx<=n2;omega,b2,b3,λk hk=>(b4 k hk).trans (jV k hk)⟩
   ·rw[decide_eq_false k2,if_neg k2];simp only[Bool.false_eq_true,if_false];refine au (by
     have:(o.k==3)=decide (o.k=3):=by by_cases h:o.k=3<;>simp[h]
     simp[this];rfl) ?_
    refine ag rfl ?_;by_cases k3:o.k=3
    ·rw[decide_eq_true k3,if_pos k3];simp only[if_true];obtain⟨K,hK⟩:=MI (p1:=p1) L o.e;have fp:(o.e.enc).length=12:=rfl;refine cq (K:=K) (s':=⟨[(1,cH),(2,.ref kZ 0 0 0),(5,.ref aN 0 0 0),(7,.iv (.ptr oe)),(8,.nI (i+1:Nat)),(19,.nI N),(20,.nI i),(122,.bI (eX o.e))],H1,n1+15+4+2+2+2+5⟩) (λn hn=>by
      have c:=hK n hn H1;generalize eX o.e=re at *;generalize o.e.enc=ee at *;simp[o0,o6,fp,c]) ?_
     refine ag rfl ?_;cases hre:eX o.e with
     |true=>
      simp only[if_true];refine Wp.drawn rfl ?_;have HP:IntKind.i64.wrap ((g1.cQ.length:Int)+1)=(g1.cQ.length:Int)+1:=IntWalk.i64_in _ (by omega);have hE:=Ext.refl xk (show n1<=n1+15+4+2+2+2+5 by omega);have ma:rp1.length=g1.cQ.length:=G1.pl.1;obtain⟨y',H4,q1,q2,q3,q4,q5⟩:=(G1.ext hE).Qj hE.fresh ⟨o.c,o.e,(i:Int)+1⟩ (gid:=4*(n1+15+4+2+2+2+5+22)) (slot:=n1+15+4+2+2+2+5+23) (n':=n1+15+4+2+2+2+5+27) (by omega) (by omega) (by omega) (by omega) (by omega);have nC:=G1.at_;have Be:=G1.p.len;rw[ma]at Be;have kA:get H1 (4*(n1+15+4+2+2+2+5+22))=none:=xk _ (by omega);have uf:∀ob,get (ay.set H1 (4*(n1+15+4+2+2+2+5+22)) ob) aN=get H1 aN:=λob=>aF _ _ (by have:=G1.li;omega)
      have mC:bh y' = .ret [y']:=q4.p.cell;rw[gT]at q2 q3 q4 q5 nC;simp only[List.cons_append,List.nil_append]at q2 q3 q4 q5 nC;refine aD (s':=⟨[(1,cH),(2,.ref kZ 0 0 0),(5,.ref aN 0 0 0),(19,.nI N),(20,.nI i)],_,n1+15+4+2+2+2+5+27⟩) (by
       simp only[Nat.add_assoc]at q1 q2 kA uf;simp only[gU,eH,E.enc,V.enc,List.map_cons,List.map_nil,List.cons_append,List.nil_append]at q1;simp only[E.enc,V.enc,List.cons_append,List.nil_append]at o6;simp[-bh, -len,nT,oJ,nC,o0,o3,o6,Be,HP,kA,mC,bO,cz,Nat.add_assoc,q1,q2];rfl) ?_
      exact⟨.inl rfl,_,_,_,_,_,⟨rfl,rfl,rfl,rfl,rfl⟩,by show nx<=n1+15+4+2+2+2+5+27;omega,q3,q4,λk hk=>(q5 k hk).trans (jV k hk)⟩
     |false=>
      simp only[Bool.false_eq_true,if_false];refine ak ?_;have hE:=Ext.refl xk (show n1<=n1+15+4+2+2+2+5 by omega);exact⟨.inl rfl,_,_,_,_,_,⟨rfl,rfl,rfl,rfl,rfl⟩,by show nx<=n1+15+4+2+2+2+5;omega,hE.fresh,G1.ext hE,jV⟩
    ·rw[decide_eq_false k3,if_neg k3];simp only[Bool.false_eq_true,if_false];refine ak ?_;have hE:=Ext.refl xk (show n1<=n1+15+4+2+2+2 by omega);exact⟨.inl rfl,_,_,_,_,_,⟨rfl,rfl,rfl,rfl,rfl⟩,by show nx<=n1+15+4+2+2+2;omega,hE.fresh,G1.ext hE,jV⟩
end
theorem yI {h:Hd} {l:List ao.Op} {t:Nat} {o:ao.Op} (ho:l[t]?=some o):fG h l (t+1)=gJ h (fG h l t) t o:=by
 rw[fG,ho]
section
variable {p1:Nat->Option ao.aA} {p2:Nat->Option aA}
set_option maxHeartbeats 4000000 in
theorem Ql (bF:bW p2) (L:jF p1 p2) (x:Hd) (hp:x.ps.length<=100) (hh:x.hs.length<=100) (l:List ao.Op) (hl:l.length<=1000) (cg:∀o ∈ l,o.ok) (H:Hp) (nx:Nat) (hf:cr H nx) :
  ∃H' aW aN ya yp yd ra rp,Ext H nx H' aW/\LG (nx+1) H' aW aN x (eO x l) ya yp yd ra rp/\Ev p1 p2 177 [.agg (cj x),.iv (.sl 24 (l.map ao.Op.enc))] H nx (.ref aN 0 0 0,H',aW):=by
 have eJ:get H (4*nx)=none:=hf _ (by omega);have vj:get H (4*(nx+4))=none:=hf _ (by omega);have dy:Ext H nx (ay.set H (4*nx) (.cells (cj x))) (nx+2):=(Ext.refl hf (by omega)).set (by omega) (by omega) _;have Ka:get (ay.set H (4*nx) (.cells (cj x))) (4*(nx+4))=none:=by rw[aF _ _ (by omega)];exact vj
 have dH:Ext H nx (ay.set (ay.set H (4*nx) (.cells (cj x))) (4*(nx+4)) (.cells (cj x++[.iv (.aV 5),.iv (.aV 15),.iv (.aV 1)]))) (nx+6):=(dy.up (show nx+2<=nx+6 by omega)).set (by omega) (by omega) _;have hG:get (ay.set (ay.set H (4*nx) (.cells (cj x))) (4*(nx+4)) (.cells (cj x++[.iv (.aV 5),.iv (.aV 15),.iv (.aV 1)]))) (4*nx)=some (.cells (cj x)):=by rw[aF _ _ (by omega)];exact ar _ _ _
 have MJ:get (ay.set (ay.set H (4*nx) (.cells (cj x))) (4*(nx+4)) (.cells (cj x++[.iv (.aV 5),.iv (.aV 15),.iv (.aV 1)]))) (4*(nx+4))=some (.cells (cj x++[.iv (.aV 5),.iv (.aV 15),.iv (.aV 1)])):=ar _ _ _;have abH:ay.set (ay.set H (4*nx) (.cells (cj x))) (4*(nx+4)) (.cells (cj x++[.iv (.aV 5),.iv (.aV 15),.iv (.aV 1)]))=ay.set (ay.set H (4*nx) (.cells (cj x))) (4*(nx+4)) (.cells (cj x++[.iv (.aV 5),.iv (.aV 15),.iv (.aV 1)])):=rfl;generalize oW:ay.set (ay.set H (4*nx) (.cells (cj x))) (4*(nx+4)) (.cells (cj x++[.iv (.aV 5),.iv (.aV 15),.iv (.aV 1)]))=H1 at dH hG MJ
 have G1:LG (nx+1) H1 (nx+6) (4*(nx+4)) x ⟨[],[],[]⟩ (.iv (.aV 5)) (.iv (.aV 15)) (.iv (.aV 1)) [] []:=
  ⟨⟨by omega,by omega⟩,MJ,QE.nil _ _ _,AL.nil _ _,QE.nil _ _ _,PL.nil,QE.nil _ _ _,(λk o m w h=>by cases h),(λk o m w h=>by cases h),(λk o m w h=>by cases h),λa ha=>by cases ha⟩
 obtain⟨K1,ct⟩:=MH (p1:=p1) L x hp hh;have key:Wp p1 p2 E9.body ⟨params [.agg (cj x),.iv (.sl 24 (l.map ao.Op.enc))] 0,H,nx⟩ (λe st=>∃r:AV×Hp×Nat,(∃aN ya yp yd ra rp,r.1 = .ref aN 0 0 0/\Ext H nx r.2.1 r.2.2/\LG (nx+1) r.2.1 r.2.2 aN x (eO x l) ya yp yd ra rp)/\Fin E9.res r e st):=by
  refine au (by simp[eJ];rfl) ?_;refine Wp.scope (au (s':=⟨_,H1,nx+6⟩) (by
   rw[<-oW];rw[gT]at Ka ⊢;simp[Ka,cz,Nat.add_assoc];rfl) ?_)
  refine af (af ?_);unfold eO;refine aI (K:=K1) (s':=⟨[(1,.iv (.sl 24 (l.map ao.Op.enc))),(2,.ref (4*nx) 0 0 0),(5,.ref (4*(nx+4)) 0 0 0),(16,.bI (!decide (eS x=0)))],H1,nx+9⟩) (λn hn=>by
   have c:=ct n hn H1;have hb:(eS x != 0)=!decide (eS x=0):=by by_cases h:eS x=0<;>simp[h]
   generalize eS x=q at *;simp[hG,iH,jE,c,hb]) ?_
  refine ag rfl ?_;by_cases hc:eS x=0
  ·rw[decide_eq_true hc,if_pos hc];simp only[Bool.not_true,Bool.false_eq_true,if_false];refine ak ?_;simp only[Ex.then];refine af (ak ?_);simp only[Ex.then];refine af (au (by simp;rfl) ?_);refine aq ?_;refine b7 (λm s1=>∃(i n2:Nat) (H2:Hp) (ya yp yd:AV) (ra rp:List (List AV)),i+m=l.length/\nx+6<=n2/\cr H2 n2/\LG (nx+1) H2 n2 (4*(nx+4)) x (fG x l i) ya yp yd ra rp/\(∀k,k<4*(nx+1)->get H2 k=get H1 k)/\
    s1=⟨[(1,.iv (.sl 24 (l.map ao.Op.enc))),(2,.ref (4*nx) 0 0 0),(5,.ref (4*(nx+4)) 0 0 0),(19,.nI l.length),(20,.nI i)],H2,n2⟩) (m:=l.length)
    ⟨0,nx+12,H1,_,_,_,_,_,by omega,by omega,λk hk=>dH.fresh k (by omega),G1.ext (Ext.refl dH.fresh (by omega)),λ_ _=>rfl,by simp[aP,an]⟩ ?_
   rintro m s1 ⟨i,n2,H2,ya,yp,yd,ra,rp,oC,r9,HW,G2,sT,rfl⟩;refine af ?_;by_cases hi:i<l.length
   ·obtain⟨o,ho⟩:∃o,l[i]?=some o:=⟨_,List.getElem?_eq_getElem hi⟩;have aH:(l.map ao.Op.enc)[i]?=some o.enc:=by rw[List.getElem?_map,ho];rfl
    have dX:IntKind.i64.wrap ((i:Int)+1)=(i:Int)+1:=IntWalk.i64_in _ (by omega);have hlen:=oL x l i;have b9:=yI (h:=x) ho;generalize U0:l.map ao.Op.enc=cH at *;refine aD (by simp[hi];rfl) ?_;refine af (ag (t:=true) rfl (ak (af (aq (aj ?_)))));refine au (by
     simp[aH,dX];rfl) ?_
    have b8:=Ext.refl HW (show n2<=n2+1+2+7 by omega);have qK:=Rq bF L (.iv (.sl 24 cH)) l.length i x o (cg o (List.mem_of_getElem? ho)) (nx+1) (4*(nx+4)) (4*nx) (fG x l i) H2 (n2+1+2+7) b8.fresh (G2.ext b8) (by omega) (by omega) (by omega) (by rw[sT _ (by omega)];exact hG) (by omega);refine Wp.mono qK ?_;rintro e ⟨fr,H4,n4⟩ ⟨he,jJ,jK,jL,iA,jM,⟨f1,f2,f5,f19,f20⟩,b1,b2,b3,b4⟩;simp only[]at f1 f2 f5 f19 f20 b1 b2 b3 b4;have Bf:∀Q:Ex->St->Prop,(∀H5 n5,H5=H4->n5=n4+2->Q .norm ⟨[(1,.iv (.sl 24 cH)),(2,.ref (4*nx) 0 0 0),(5,.ref (4*(nx+4)) 0 0 0),(19,.nI l.length),(20,.nI (i+1:Nat))],H5,n5⟩)->
      Wp p1 p2 (.ff false [⟨some 149,.bin .add 0 (.t 20) (.c (.nI (1))),none,[]⟩,⟨some 20,.eM (.t 149),none,[]⟩] [1,2,5,19,20]) ⟨fr,H4,n4⟩ Q:=λQ hQ=>by
     refine aD (by
      simp[bU,f1,f2,f5,f19,f20,dX];rfl) ?_
     exact hQ _ _ rfl rfl
    rcases he with rfl | rfl
    ·simp only[Ex.then,Ex.inBlock];refine Bf _ ?_;rintro H5 n5 rfl rfl;refine⟨m - 1,by omega,i+1,n4+2,H5,jJ,jK,jL,iA,jM,by omega,by omega,λk hk=>b2 k (by omega),?_,λk hk=>(b4 k hk).trans (sT k hk),by simp[aP,an]⟩;rw[b9];exact b3.ext (Ext.refl b2 (by omega))
    ·simp only[Ex.then,Ex.inBlock,if_true];refine Bf _ ?_;rintro H5 n5 rfl rfl;refine⟨m - 1,by omega,i+1,n4+2,H5,jJ,jK,jL,iA,jM,by omega,by omega,λk hk=>b2 k (by omega),?_,λk hk=>(b4 k hk).trans (sT k hk),by simp[aP,an]⟩;rw[b9];exact b3.ext (Ext.refl b2 (by omega))
   ·obtain rfl:i=l.length:=by omega
    refine bK ?_;refine af (ag (t:=false) rfl (aO ?_));simp only[Ex.then,Ex.inBlock,if_true];refine aj ?_;have b8:=Ext.refl HW (show n2<=n2+1+2 by omega);exact ax ⟨(_,H2,n2+1+2),⟨_,ya,yp,yd,ra,rp,rfl,⟨by show nx<=n2+1+2;omega,b8.fresh,λk hk=>by show get H2 k=get H k;rw[sT k (by omega)];exact dH.bu k hk⟩,G2.ext b8⟩,rfl,rfl⟩
  ·rw[decide_eq_false hc,if_neg hc];simp only[Bool.not_false,if_true];refine aj ?_;have b8:=Ext.refl dH.fresh (show nx+6<=nx+9+2 by omega);exact ax ⟨(_,H1,nx+9+2),⟨_,_,_,_,_,_,rfl,dH.trans b8,G1.ext b8⟩,rfl,rfl⟩
 obtain⟨⟨y,H',aW⟩,⟨aN,ya,yp,yd,ra,rp,rfl,h1,h2⟩,h4⟩:=Ev.jn bF L.aac rfl rfl _ key;exact⟨H',aW,aN,ya,yp,yd,ra,rp,h1,h2,h4⟩
end
def fN (g:Lg) (id:Int):Option Pb:=if 1<=id then g.cQ[(id - 1).toNat]? else none
def PP (H:Hp) (n:Nat) (v:AV) (id:Int):Option Pb->Prop
 |none=>v = .iv .dM
 |some p=>∃(iB vp j:Nat) (rows:List (List AV)),v = .ref iB vp j 0/\iB<4*n/\get H iB=some (.buf vp 15 rows)/\rows[j]?=some (gU j p)/\id=(j:Int)+1
theorem PP.ext {H H':Hp} {n n':Nat} {v:AV} {id:Int} {p:Option Pb} (h:PP H n v id p) (e:Ext H n H' n'):PP H' n' v id p:=by
 cases p with
 |none=>exact h
 |some p=>
  obtain⟨iB,vp,j,rows,h1,h2,h3,h4,h5⟩:=h;exact⟨iB,vp,j,rows,h1,by have:=e.le;omega,by rw[e.bu _ h2];exact h3,h4,h5⟩
def ug (a:Act) (s:Int):Bool:=decide (a.f<=s)&&(a.t==0||decide (s<a.t))
def sU (c s:Int) (e:E) (a:Act):Bool:=(a.c==c&&ug a s)&&gi a.b e
def jG (g:Lg) (c s:Int) (e:E):Bool:=g.aQ.any (sU c s e)
def px (a:Act) (y:AV):List AV:=[.iv (.int .i64 a.c),.iv (.int .i64 a.u),y,.iv (.int .i64 a.f),.iv (.int .i64 a.t)]
section
variable {p1:Nat->Option ao.aA} {p2:Nat->Option aA}
theorem Xm (bF:bW p2) (L:jF p1 p2) {lo aN:Nat} {x:Hd} {g:Lg} {H:Hp} {nx:Nat} {ya yp yd:AV} {ra rp:List (List AV)} (G:LG lo H nx aN x g ya yp yd ra rp) (hl:g.cQ.length<=1000) (id:Int) (cV:dE id) :
  ∃v aW,nx<=aW/\aW<=nx+20/\PP H nx v id (fN g id)/\Ev p1 p2 176 [.ref aN 0 0 0,.nI id] H nx (v,H,aW):=by
 have xv:=G.p.len;have dc:=G.at_;have py:rp.length=g.cQ.length:=G.pl.1;rw[py]at xv;rw[gT]at dc;have hq:(decide (id<1)||decide ((g.cQ.length:Int)<id))=(fN g id).isNone:=by
  unfold fN;by_cases h1:1<=id
  ·rw[if_pos h1];by_cases h2:(id - 1).toNat<g.cQ.length
   ·rw[List.getElem?_eq_getElem h2];simp;omega
   ·rw[List.getElem?_eq_none (by omega)];simp;omega
  ·rw[if_neg h1];simp;omega
 have key:Wp p1 p2 Jy.body ⟨params [.ref aN 0 0 0,.nI id] 0,H,nx⟩ (λe st=>∃r:AV×Hp×Nat,(nx<=r.2.2/\r.2.2<=nx+20/\r.2.1=H/\PP H nx r.1 id (fN g id))/\Fin Jy.res r e st):=by
  refine aj ?_;refine af (au (s':=⟨[(0,.ref aN 0 0 0),(1,.nI id),(15,.iv (.bool (fN g id).isNone))],H,nx+1+11⟩) (by
   rw[<-hq];cases h1:decide (id<1)<;>simp[-len,dc,xv,h1]) ?_)
  refine ag rfl ?_;cases U1:fN g id with
  |none=>
   simp only[Option.isNone_none,if_true];refine aj ?_;exact ax ⟨(_,_,_),⟨by show nx<=nx+1+11+1;omega,by show nx+1+11+1<=nx+20;omega,rfl,rfl⟩,rfl,rfl⟩
  |some p=>
   simp only[Option.isNone_some,Bool.false_eq_true,if_false];refine ak ?_;simp only[Ex.then];have B8:=U1;unfold fN at B8;split at B8
   ·rename_i h1;obtain⟨j,hj⟩:∃j:Nat,id=(j:Int)+1:=⟨(id - 1).toNat,by omega⟩;subst hj;rw[show((j:Int)+1 - 1).toNat=j by omega]at B8;have aH:=G.pl.2 j p B8;have l7:j<g.cQ.length:=(List.getElem?_eq_some_iff.1 B8).1;obtain⟨iB,vp,i1, -,hyp,i4⟩:=G.p.at_ aH;rw[py]at hyp;subst hyp;have hw:IntKind.i64.wrap (j:Int)=(j:Int):=IntWalk.i64_in _ (by omega);refine au (s':=⟨[(4,.ref iB vp j 0)],H,nx+1+11+8⟩) (by
     simp[dc,i4,hw,l7]) ?_
    exact ax ⟨(_,_,_),⟨by show nx<=nx+1+11+8;omega,by show nx+1+11+8<=nx+20;omega,rfl,⟨iB,vp,j,rp,rfl,i1,i4,aH,rfl⟩⟩,rfl,rfl⟩
   ·cases B8
 obtain⟨⟨y,H',aW⟩,⟨h1,h2,rfl,h3⟩,h4⟩:=Ev.jn bF L.aad rfl rfl _ key;exact⟨y,aW,h1,h2,h3,h4⟩
theorem Xn (bF:bW p2) (L:jF p1 p2) (a:Act) (y:AV) (kZ:Nat) (s:Int) (H:Hp) (nx:Nat) (hb:get H kZ=some (.cells (px a y))) :
  Ev p1 p2 174 [.ref kZ 0 0 0,.nI s] H nx (.bI (ug a s),H,nx+23):=by
 refine Ev.of bF L.aae rfl rfl ?_;unfold ug;unfold px at hb;refine aj ?_;refine au (s':=⟨[(4,.bI (decide (a.f<=s)&&(a.t==0||decide (s<a.t))))],H,nx+23⟩) (by
  cases h1:decide (a.f<=s)<;>cases h2:a.t==0<;>simp[hb,h1,h2]) ?_
 exact ax ⟨rfl,rfl⟩
theorem HX {bs:List B} (h:∀b ∈ bs,b.lim 1000 400):∀b ∈ bs,b.fits:=λb hb i hi=>by
 have:=h b hb i hi;have h1:=this.i;have h2:=this.s;unfold maxLen;omega
theorem HY (L:jF p1 p2) (bs:List B) (hl:bs.length<=1000) (hb:∀b ∈ bs,b.lim 1000 400) (e:E):∃K,∀m,K<=m->∀(H:Hp) (n:Nat) (y:AV),LB H n y bs->(dF (one p1 m) (.iv (.fn 119 [])) [y,.agg (e.enc.map AV.iv)]).run H=some (.bI (gi bs e),H):=by
 obtain⟨K,hK⟩:=Un L.h bs e (by unfold maxLen;omega) (HX hb);refine⟨K,λm hm H n y hy=>?_⟩;have e1:(one p1 m 119 [.iv (.sl 16 (bs.map B.enc)),.agg (e.enc.map ao.AV.iv)] []).bind shut=some (.bI (gi bs e)):=hK m hm;have hz:=hy.HT;have FX:bZ false (.agg (e.enc.map AV.iv)) = .ret (.agg (e.enc.map ao.AV.iv)):=by
  unfold bZ;simp only[];rw[ua false 7 e.enc e.fk];rfl
 generalize gi bs e=q at *;simp[dF,callee,az,M.lift,M.run,M.aG,hz,FX,e1,kX,ks,M.ok,flat,ew,eI,eZ,M.bind]
set_option maxHeartbeats 1000000 in
theorem Xo (bF:bW p2) (L:jF p1 p2) (a:Act) (ha:a.fits) (y:AV) (c s:Int) (e:E) (ic is ie:Nat) (H:Hp) (nx:Nat) (hf:cr H nx) (hy:LB H nx y a.b) (hc:get H ic=some (.cells [.nI c])) (hs:get H is=some (.cells [.nI s])) (he:get H ie=some (.cells (e.enc.map AV.iv))) :
  ∃H' aW,Ext H nx H' aW/\Ev p1 p2 196 [.agg (px a y),.ref ic 0 0 0,.ref is 0 0 0,.ref ie 0 0 0] H nx (.bI (sU c s e a),H',aW):=by
 have eJ:get H (4*nx)=none:=hf _ (by omega);have dy:Ext H nx (ay.set H (4*nx) (.cells (px a y))) (nx+2):=(Ext.refl hf (by omega)).set (by omega) (by omega) _;have vC:get (ay.set H (4*nx) (Ob.cells (px a y))) (4*nx)=some (.cells (px a y)):=ar _ _ _;have bC:∀{k:Nat} {ob:Ob},get H k=some ob->k<4*nx:=λ{k ob} h=>by
  rcases Nat.lt_or_ge k (4*nx)with h1 | h1
  ·exact h1
  ·rw[hf k h1]at h;cases h
 have nJ:=(dy.bu _ (bC hc)).trans hc;have rN:=(dy.bu _ (bC hs)).trans hs;have Qm:=(dy.bu _ (bC he)).trans he;have A7:=hy.ext dy;generalize oW:ay.set H (4*nx) (Ob.cells (px a y))=H1 at dy vC nJ rN Qm A7;obtain⟨K1,ct⟩:=Xn (p1:=p1) bF L a y (4*nx) s H1 (nx+2+15) vC;obtain⟨K2,cZ⟩:=HY (p1:=p1) L a.b ha.1 ha.2 e;have fp:(e.enc.map AV.iv).length=12:=rfl;have mB:(e.enc.map AV.iv).take 12=e.enc.map AV.iv:=rfl;have key:Wp p1 p2 JB.body ⟨params [.agg (px a y),.ref ic 0 0 0,.ref is 0 0 0,.ref ie 0 0 0] 0,H,nx⟩ (λex st=>∃r:AV×Hp×Nat,(r.1 = .bI (sU c s e a)/\Ext H nx r.2.1 r.2.2)/\Fin JB.res r ex st):=by
  refine au (s':=⟨[(1,.ref ic 0 0 0),(2,.ref is 0 0 0),(3,.ref ie 0 0 0),(4,.ref (4*nx) 0 0 0)],H1,nx+2⟩) (by
   rw[<-oW];simp[eJ]) ?_
  refine af ?_;unfold sU;have HB:=vC;unfold px at HB;generalize ug a s=ac at *;generalize gi a.b e=Eb at *;generalize e.enc.map AV.iv=ee at *;refine aI (K:=max K1 K2) (s':=⟨[(5,.bI ((a.c==c&&ac)&&Eb))],H1,if(a.c==c)=true then nx+2+15+23 else nx+2+15⟩) (λn hn=>by
   have c1:=ct n (by omega);have c2:=cZ n (by omega) H1 _ y A7;cases h1:a.c==c
   ·simp[HB,nJ,rN,Qm,fp,mB,h1]
   ·cases ac
    ·simp[HB,nJ,rN,Qm,fp,mB,h1,c1]
    ·simp[HB,nJ,rN,Qm,fp,mB,h1,c1,c2]) ?_
  exact ax ⟨(_,_,_),⟨rfl,dy.up (by show nx+2<=if(a.c==c)=true then nx+2+15+23 else nx+2+15;split<;>omega)⟩,rfl,rfl⟩
 obtain⟨⟨y,H',aW⟩,⟨rfl,h1⟩,h4⟩:=Ev.jn bF L.aaf rfl rfl _ key;exact⟨H',aW,h1,h4⟩
end
def Ow (e:Nat) (agg:Bool):IC:=
  .seq (.ff false [⟨some 4,.eM (.c (.iv (.int .i64 (0)))),none,[]⟩] [0,1])
  (.seq (.seq (.ff false [⟨some 6,.eM (.t 0),none,[]⟩,
  ⟨some 7,.len false (.t 6),none,[]⟩,
  ⟨some 8,.eM (.c (.iv (.int .i64 (0)))),none,[]⟩] [0,1,7,8])
  (.block 0 (.loop [0,1,7,8] (.seq (.ff false [⟨some 9,.bin .lss 0 (.t 8) (.t 7),none,[]⟩] [0,1,7,8,9])
  (.seq (.cond (.t 9) (.skip)
  (.exit 0))
  (.seq (.block 1 (.seq (.ff false [⟨some 10,.eM (.t 8),none,[]⟩,
  ⟨some 5,.eM (.t 10),none,[]⟩] [0,1,5,7,8])
  (.seq (.ff false [⟨some 11,.eM (.t 1),none,[]⟩,
  ⟨some 12,.eM (.t 0),none,[]⟩,
  ⟨some 13,.eM (.t 5),none,[]⟩,
  ⟨some 14,.dQ e (.t 12) (.t 13),none,[]⟩,
  ⟨some 15,.load agg e (.t 14),none,[]⟩,
  ⟨some 16,.nf (.t 11) [.t 15],none,[]⟩] [0,1,5,7,8,16])
  (.cond (.t 16) (.seq (.ff false [⟨some 17,.eM (.t 5),none,[]⟩,
  ⟨some 4,.eM (.t 17),none,[]⟩] [4])
  (.ret))
  (.skip)))))
  (.ff false [⟨some 18,.bin .add 0 (.t 8) (.c (.iv (.int .i64 (1)))),none,[]⟩,
  ⟨some 8,.eM (.t 18),none,[]⟩] [0,1,7,8])))))))
  (.seq (.ff false [⟨some 4,.eM (.c (.iv (.int .i64 (-1)))),none,[]⟩] [4])
  (.ret)))
def U2 (f:Nat):IC:=
  .seq (.ff false [⟨some 4,.eM (.c (.iv (.bool false))),none,[]⟩] [0,1])
  (.seq (.ff false [⟨some 5,.eM (.t 0),none,[]⟩,
  ⟨some 6,.eM (.t 1),none,[]⟩,
  ⟨some 7,.nf (.c (.iv (.fn f []))) [.t 5,.t 6],none,[]⟩,
  ⟨some 8,.bin .geq 0 (.t 7) (.c (.iv (.int .i64 (0)))),none,[]⟩,
  ⟨some 4,.eM (.t 8),none,[]⟩] [4])
  (.ret))
section
variable {p1:Nat->Option ao.aA} {p2:Nat->Option aA}
def Kb (p1:Nat->Option ao.aA) (p2:Nat->Option aA) {α:Type} (e:Nat) (agg:Bool) (y fv:AV) (l:List α) (f:α->Bool) (H:Hp) (nx:Nat):Prop:=
 (∀H2 n2,Ext H nx H2 n2->(ay.len false y).run H2=some (.iv (.int .i64 l.length),H2))/\
 ∃fid caps,callee fv=some (fid,[],caps)/\∀(j:Nat) (a:α),l[j]?=some a->∀H2 n2,Ext H nx H2 n2->∃ptr v,(ay.dQ e y (.iv (.int .i64 j))).run H2=some (ptr,H2)/\(ay.load agg e ptr).run H2=some (v,H2)/\
  ∃H3 n3,Ext H2 n2 H3 n3/\Ev p1 p2 fid (v::caps) H2 n2 (.iv (.bool (f a)),H3,n3)
set_option maxHeartbeats 1000000 in
theorem Xq {α:Type} (e:Nat) (agg:Bool) (y fv:AV) (l:List α) (hl:l.length<=1000000) (f:α->Bool) (H:Hp) (nx:Nat) (hf:cr H nx) (S:Kb p1 p2 e agg y fv l f H nx) :
  Wp p1 p2 (Ow e agg) ⟨params [y,fv] 0,H,nx⟩ (λex st=>∃r:AV×Hp×Nat,(r.1 = .nI (eG f l 0)/\Ext H nx r.2.1 r.2.2)/\Fin [.t 4] r ex st):=by
 obtain⟨hlen,fid,caps,aaw,aax⟩:=S;refine aj ?_;refine af (af ?_);have qI:=hlen H nx (Ext.refl hf (Nat.le_refl _));refine aD (s':=⟨[(0,y),(1,fv),(7,.nI l.length),(8,.nI 0)],H,nx+4⟩) (by simp[-len,qI]) ?_;refine aq ?_;refine b7 (λm s1=>∃(i n2:Nat) (H2:Hp),i+m=l.length/\eG f (l.drop i) i=eG f l 0/\Ext H nx H2 n2/\s1=⟨[(0,y),(1,fv),(7,.nI l.length),(8,.nI i)],H2,n2⟩) (m:=l.length)
  ⟨0,nx+4,H,by omega,rfl,Ext.refl hf (by omega),by simp[aP,an]⟩ ?_
 rintro m s1 ⟨i,n2,H2,oC,hY,dH,rfl⟩;refine af ?_;by_cases hi:i<l.length
 ·obtain⟨a,ha⟩:∃a,l[i]?=some a:=⟨_,List.getElem?_eq_getElem hi⟩;have dX:IntKind.i64.wrap ((i:Int)+1)=(i:Int)+1:=IntWalk.i64_in _ (by omega);rw[qh ha]at hY;refine aD (by simp[hi];rfl) ?_;refine af (ag (t:=true) rfl (ak (af (aq (aj ?_)))));refine af ?_;obtain⟨ptr,v,h1,h2,H3,n3,b8,K,hK⟩:=aax i a ha H2 (n2+1+2+6) (dH.up (by omega));have ei:Ext H nx H3 n3:=(dH.up (show n2<=n2+1+2+6 by omega)).trans b8;generalize f a=q at *;refine aI (K:=K) (s':=⟨[(0,y),(1,fv),(5,.nI i),(7,.nI l.length),(8,.nI i),(16,.bI q)],H3,n3⟩) (λn hn=>by
   have c:=hK n hn;simp[-dQ, -load, -callee,h1,h2,aaw,c]) ?_
  refine ag rfl ?_;cases q with
  |true=>
   simp only[if_true]at hY ⊢;refine aj ?_;refine ax ?_;exact⟨(_,_,_),⟨by rw[<-hY],ei.up (show n3<=n3+2 by omega)⟩,rfl,rfl⟩
  |false=>
   simp only[Bool.false_eq_true,if_false]at hY ⊢;refine ak ?_;simp only[Ex.then,Ex.inBlock];refine aD (by simp[dX];rfl) ?_;exact⟨m - 1,by omega,i+1,_,H3,by omega,hY,ei.up (show n3<=n3+2 by omega),by simp[aP,an]⟩
 ·obtain rfl:i=l.length:=by omega
  refine bK ?_;refine af (ag (t:=false) rfl (aO ?_));simp only[Ex.then,Ex.inBlock,if_true];refine aj ?_;rw[List.drop_length]at hY;exact ax ⟨(_,_,_),⟨by rw[<-hY];rfl,dH.up (show n2<=n2+1+1 by omega)⟩,rfl,rfl⟩
theorem Qn (bF:bW p2) {k:Nat} {fn:aA} (hk:p2 k=some fn) {α:Type} {e:Nat} {agg:Bool} (iw:fn=⟨2,[.t 4],Ow e agg,none⟩) {y fv:AV} {l:List α} (hl:l.length<=1000000) {f:α->Bool} {H:Hp} {nx:Nat} (hf:cr H nx) (S:Kb p1 p2 e agg y fv l f H nx) :
  ∃H' aW,Ext H nx H' aW/\Ev p1 p2 k [y,fv] H nx (.nI (eG f l 0),H',aW):=by
 subst iw;obtain⟨⟨y,H',aW⟩,⟨rfl,h1⟩,h4⟩:=Ev.jn bF hk rfl rfl _ (Xq e agg y fv l hl f H nx hf S);exact⟨H',aW,h1,h4⟩
theorem Kc (bF:bW p2) {k k':Nat} {fn YG:aA} (hk:p2 k=some fn) (Fo:p2 k'=some YG) {α:Type} {e:Nat} {agg:Bool} (iw:fn=⟨2,[.t 4],Ow e agg,none⟩) (aay:YG=⟨2,[.t 4],U2 k,none⟩) {y fv:AV} {l:List α} (hl:l.length<=1000000) {f:α->Bool} {H:Hp} {nx:Nat} (hf:cr H nx) (S:∀H2 n2,Ext H nx H2 n2->Kb p1 p2 e agg y fv l f H2 n2) :
  ∃H' aW,Ext H nx H' aW/\Ev p1 p2 k' [y,fv] H nx (.bI (l.any f),H',aW):=by
 subst aay;have hE:=Ext.refl hf (show nx<=nx+6 by omega);obtain⟨H1,n1,dy,K,hK⟩:=Qn (p1:=p1) bF hk iw hl (λj hj=>hf j (by omega)) (S H (nx+1+5) hE);have dH:Ext H nx H1 n1:=⟨by have:=dy.le;omega,dy.fresh,λj hj=>dy.bu j (by omega)⟩;have key:Wp p1 p2 (U2 k) ⟨params [y,fv] 0,H,nx⟩ (λex st=>∃r:AV×Hp×Nat,(r.1 = .bI (l.any f)/\Ext H nx r.2.1 r.2.2)/\Fin [.t 4] r ex st):=by
  refine aj ?_;refine af ?_;rw[<-u4 f l 0];generalize eG f l 0=q at *;refine aI (K:=K) (s':=⟨[(4,.bI (decide (0<=q)))],H1,n1⟩) (λn hn=>by
   have c:=hK n hn;simp[c]) ?_
  exact ax ⟨(_,_,_),⟨rfl,dH⟩,rfl,rfl⟩
 obtain⟨⟨y,H',aW⟩,⟨rfl,h1⟩,h4⟩:=Ev.jn bF Fo rfl rfl _ key;exact⟨H',aW,h1,h4⟩
set_option maxHeartbeats 1000000 in
theorem Xr (bF:bW p2) (L:jF p1 p2) {lo aN:Nat} {x:Hd} {g:Lg} {H:Hp} {nx:Nat} {ya yp yd:AV} {ra rp:List (List AV)} (G:LG lo H nx aN x g ya yp yd ra rp) (hl:g.aQ.length<=1000) (hf:cr H nx) (c s:Int) (e:E) :
  ∃H' aW,Ext H nx H' aW/\Ev p1 p2 195 [.ref aN 0 0 0,.nI c,.nI s,.agg (e.enc.map AV.iv)] H nx (.bI (jG g c s e),H',aW):=by
 have f0:get H (4*nx)=none:=hf _ (by omega);have f1:get (ay.set H (4*nx) (.cells [.nI c])) (4*(nx+1))=none:=by rw[aF _ _ (by omega)];exact hf _ (by omega)
 have f2:get (ay.set (ay.set H (4*nx) (.cells [.nI c])) (4*(nx+1)) (.cells [.nI s])) (4*(nx+2))=none:=by rw[aF _ _ (by omega),aF _ _ (by omega)];exact hf _ (by omega)
 have dy:Ext H nx (ay.set (ay.set (ay.set H (4*nx) (.cells [.nI c])) (4*(nx+1)) (.cells [.nI s])) (4*(nx+2)) (.cells (e.enc.map AV.iv))) (nx+4):=
  (((Ext.refl hf (show nx<=nx+4 by omega)).set (by omega) (by omega) _).set (by omega) (by omega) _).set (by omega) (by omega) _
 have g0:get (ay.set (ay.set (ay.set H (4*nx) (.cells [.nI c])) (4*(nx+1)) (.cells [.nI s])) (4*(nx+2)) (.cells (e.enc.map AV.iv))) (4*nx)=some (.cells [.nI c]):=by
  rw[aF _ _ (by omega),aF _ _ (by omega)];exact ar _ _ _
 have g1:get (ay.set (ay.set (ay.set H (4*nx) (.cells [.nI c])) (4*(nx+1)) (.cells [.nI s])) (4*(nx+2)) (.cells (e.enc.map AV.iv))) (4*(nx+1))=some (.cells [.nI s]):=by
  rw[aF _ _ (by omega)];exact ar _ _ _
 have g2:get (ay.set (ay.set (ay.set H (4*nx) (.cells [.nI c])) (4*(nx+1)) (.cells [.nI s])) (4*(nx+2)) (.cells (e.enc.map AV.iv))) (4*(nx+2))=some (.cells (e.enc.map AV.iv)):=ar _ _ _;generalize oW:(ay.set (ay.set (ay.set H (4*nx) (Ob.cells [.nI c])) (4*(nx+1)) (Ob.cells [.nI s])) (4*(nx+2)) (Ob.cells (e.enc.map AV.iv)))=H1 at dy g0 g1 g2;have G1:=G.ext dy;have jf:=G1.al.1;obtain⟨H2,n2,dH,K,hK⟩:=Kc (p1:=p1) (p2:=p2) (y:=ya) (fv:=.dg 196 [] [.ref (4*nx) 0 0 0,.ref (4*(nx+1)) 0 0 0,.ref (4*(nx+2)) 0 0 0]) (l:=g.aQ) (f:=sU c s e) (e:=5) (agg:=true) bF L.aah L.aag rfl rfl (by omega) (H:=H1) (nx:=nx+4+7) (λj hj=>dy.fresh j (by omega)) (by
  intro H3 n3 b8;have jP:Ext H1 (nx+4) H3 n3:=(Ext.refl dy.fresh (show nx+4<=nx+4+7 by omega)).trans b8;refine⟨λH4 n4 ei=>?_,196,_,rfl,λj a ha H4 n4 ei=>?_⟩
  ·have:=(G1.ext (jP.trans ei)).a.len;rw[jf]at this;exact this
  ·have B9:=jP.trans ei;have G4:=G1.ext B9;obtain⟨row,aH,gx,rfl,kH⟩:=G4.al.get ha;obtain⟨hU,va,i1, -,iJ,i4⟩:=G4.a.at_ aH;have l7:j<ra.length:=(List.getElem?_eq_some_iff.1 aH).1;obtain⟨H5,n5,kT,oS⟩:=Xo (p1:=p1) bF L a (G4.fits a (List.mem_of_getElem? ha)) gx c s e (4*nx) (4*(nx+1)) (4*(nx+2)) H4 n4 ei.fresh kH (by rw[B9.bu _ (by omega)];exact g0) (by rw[B9.bu _ (by omega)];exact g1) (by rw[B9.bu _ (by omega)];exact g2);refine⟨.ref hU va j 0,.agg (px a gx),?_,?_,H5,n5,kT,oS⟩
   ·rw[iJ];generalize ra.length=R at *;simp[ay.dQ,idx,az,M.ok,M.bind,M.look,M.run,i4,l7]
   ·simp only[eH]at aH;generalize ra=iA at *;clear l7;simp[ay.load,az,M.look,M.run,M.lift,i4,bB,aH,M.ok,ay.mk,M.bind,px])
 have b8:Ext H nx H2 n2:=(dy.up (show nx+4<=nx+4+7 by omega)).trans dH;have key:Wp p1 p2 JA.body ⟨params [.ref aN 0 0 0,.nI c,.nI s,.agg (e.enc.map AV.iv)] 0,H,nx⟩ (λex st=>∃r:AV×Hp×Nat,(r.1 = .bI (jG g c s e)/\Ext H nx r.2.1 r.2.2)/\Fin JA.res r ex st):=by
  have dc:=G1.at_;rw[gT]at dc;refine af ?_;unfold jG;generalize e.enc.map AV.iv=ee at *;refine aD (s':=⟨[(0,.ref aN 0 0 0),(5,.ref (4*nx) 0 0 0),(6,.ref (4*(nx+1)) 0 0 0),(7,.ref (4*(nx+2)) 0 0 0)],H1,nx+4⟩) (by
   rw[<-oW];simp[f0,f1,f2]) ?_
  refine af ?_;generalize(g.aQ.any (sU c s e))=q at *;refine aI (K:=K) (s':=⟨[(8,.bI q)],H2,n2⟩) (λn hn=>by
   have c:=hK n hn;simp[dc,c]) ?_
  exact ax ⟨(_,_,_),⟨rfl,b8⟩,rfl,rfl⟩
 obtain⟨⟨y,H',aW⟩,⟨rfl,h1⟩,h4⟩:=Ev.jn bF L.aai rfl rfl _ key;exact⟨H',aW,h1,h4⟩
end
end ay
namespace ay
open Go ao
def sf {β:Type} (k:List Int):List (List Int×β)->Nat->Option (Nat×β)
 |[],_=>none
 |q::r,i=>if k==q.1 then some (i,q.2) else sf k r (i+1)
def kn {β:Type} (enc:β->AV) (m:List (List Int×β)):List (AV×AV):=m.map λq=>(.agg (q.1.map eH),enc q.2)
def oM {β:Type} (m:List (List Int×β)) (k:List Int) (v:β):List (List Int×β):=match sf k m 0 with
 |some r=>m.set r.1 (k,v)
 |none=>m++[(k,v)]
def kI {β:Type} (m:List (List Int×β)) (k:List Int) (z:β):β:=match sf k m 0 with
 |some r=>r.2
 |none=>z
def KL {β:Type} (n:Nat) (m:List (List Int×β)):Prop:=∀q ∈ m,q.1.length=n
theorem KL.nil {β:Type} (n:Nat):KL n ([]:List (List Int×β)):=λq h=>by cases h
theorem KL.put {β:Type} {n:Nat} {m:List (List Int×β)} (h:KL n m) {k:List Int} (hk:k.length=n) (v:β):KL n (oM m k v):=by
 unfold oM;split
 ·intro q hq;rcases List.mem_or_eq_of_mem_set hq with e | e
  ·exact h q e
  ·rw[e];exact hk
 ·intro q hq;rcases List.mem_append.1 hq with e | e
  ·exact h q e
  ·rw[List.mem_singleton.1 e];exact hk
theorem HZ:∀(n:Nat) (a b:List Int),a.length=n->b.length=n->eqs (List.replicate n 0) (a.map eH) (b.map eH)=some (a==b)
 |0,a,b,ha,hb=>by
  have:a=[]:=List.length_eq_zero_iff.1 ha;have:b=[]:=List.length_eq_zero_iff.1 hb;subst a;subst b;rfl
 |n+1,[],b,ha,hb=>by simp at ha
 |n+1,x::a,[],ha,hb=>by simp at hb
 |n+1,x::a,y::b,ha,hb=>by
  have ih:=HZ n a b (by simpa using ha) (by simpa using hb);rw[List.replicate_succ,List.map_cons,List.map_cons];change((eqs (List.replicate n 0) (a.map eH) (b.map eH)).bind λc=>some (x==y&&c))=_;rw[ih];rfl
theorem xw {β:Type} (enc:β->AV) {n:Nat} (hn:n≠1) {k:List Int} (hk:k.length=n):∀(m:List (List Int×β)) (i:Nat),KL n m->iK (List.replicate n 0) (.agg (k.map eH)) (kn enc m) i=some ((sf k m i).map λr=>(r.1,enc r.2))
 |[],i,_=>rfl
 |q::r,i,h=>by
  have ih:=xw enc hn hk r (i+1) λq hq=>h q (List.mem_cons_of_mem _ hq)
  have hq:=HZ n k q.1 hk (h q (List.mem_cons_self ..));simp only[kn,List.map_cons,iK,vQ,List.length_replicate,if_neg hn,hq,sf]at ih ⊢;cases hb:k==q.1 with
  |true=>simp
  |false=>simpa using ih
theorem F3 {β:Type} (enc:β->AV) {n:Nat} (hn:n≠1) {k:List Int} (hk:k.length=n) {m:List (List Int×β)} (hm:KL n m) {H:Hp} {mid:Nat} (hg:get H mid=some (.map (kn enc m))) (z:β) :
  (jb false false (List.replicate n 0) [enc z] (.ref mid 0 0 0) (.agg (k.map eH))).run H=some (enc (kI m k z),H):=by
 have h1:=xw enc hn hk m 0 hm;unfold kI;cases hf:sf k m 0 with
 |none=>
  rw[hf]at h1;simp[jb,k6,hk,hn,M.ok,az,M.run,gg,M.look,hg,M.bind,h1,M.lift,mk]
 |some r=>
  rw[hf]at h1;simp[jb,k6,hk,hn,M.ok,az,M.run,gg,M.look,hg,M.bind,h1,M.lift]
theorem Ox {β:Type} (enc:β->AV) {n:Nat} (hn:n≠1) {k:List Int} (hk:k.length=n) {m:List (List Int×β)} (hm:KL n m) {H:Hp} {mid:Nat} (h4:mid % 4=0) (hg:get H mid=some (.map (kn enc m))) (v:β) :
  (kh (List.replicate n 0) (.ref mid 0 0 0) (.agg (k.map eH)) (enc v)).run H=some (.bD [],ay.set H mid (.map (kn enc (oM m k v)))):=by
 have h1:=xw enc hn hk m 0 hm;unfold oM;cases hf:sf k m 0 with
 |none=>
  rw[hf]at h1;have e:kn enc (m++[(k,v)])=kn enc m++[(.agg (k.map eH),enc v)]:=by simp[kn]
  simp[kh,k6,hk,hn,M.ok,az,M.run,gg,M.look,hg,M.bind,h1,M.lift,h4,M.write,e]
 |some r=>
  rw[hf]at h1;have e:kn enc (m.set r.1 (k,v))=(kn enc m).set r.1 (.agg (k.map eH),enc v):=by simp[kn,List.map_set]
  simp[kh,k6,hk,hn,M.ok,az,M.run,gg,M.look,hg,M.bind,h1,M.lift,h4,M.write,e]
theorem QE.aaz {e:Nat} {H:Hp} {n:Nat} {y:AV} {rows:List (List AV)} (h:QE e H n y rows) {k:Nat} {o0:Ob} (hk:get H k=some o0) (cA:∀v es,o0≠.buf v e es) (ob:Ob):QE e (ay.set H k ob) n y rows:=by
 rcases h with h | ⟨id,v,i1,i2,i3,i4⟩
 ·exact .inl h
 ·exact .inr ⟨id,v,i1,i2,i3,by rw[aF _ _ (λe=>by subst e;rw[hk]at i4;cases i4;exact cA _ _ rfl)];exact i4⟩
end ay
namespace ay
open Go ao
attribute [local simp] aS Option.map_some a7 step cw fJ bp az M.aG M.run M.ok M.fresh M.write M.look M.lift bT ev aP dV an dT dq ar bin fX cU db mk params bh load bB di ep dQ dn dB idx len valid eu ea bound store bl un callee Option.bind_some M.bind cz
structure Dv where
 c:Int
 p:Int
 s:Int
def Dv.enc (d:Dv):List IV:=[.int .i64 d.c,.int .i64 d.p,.int .i64 d.s]
abbrev SM:=List (List Int×Int)
def H9 (m:SM) (k:List Int) (p:Int):Int:=if kI m k 0<p then p else kI m k 0
def vl (g:Lg) (N:Nat) (m:SM) (x:Dv) (p:Pb):Bool:=decide (x.p<=kI m [x.c,p.c] 0)||(decide (x.s<p.s)||(decide ((N:Int)<x.s)||!jG g x.c x.s p.e))
def pN (g:Lg) (N t:Nat) (x:Dv) (q:SM×List Int):SM×List Int:=match fN g x.p with
 |none=>(q.1,q.2++[(t:Int)])
 |some p=>(oM q.1 [x.c,p.c] (H9 q.1 [x.c,p.c] x.p),if vl g N q.1 x p=true then q.2++[(t:Int)] else q.2)
def fS (g:Lg) (N:Nat) (d:List Dv):Nat->SM×List Int
 |0=>([],[])
 |t+1=>match d[t]? with
  |some x=>pN g N t x (fS g N d t)
  |none=>fS g N d t
def sV (g:Lg) (N:Nat) (d:List Dv):List Int:=(fS g N d d.length).2
theorem GP {g:Lg} {N:Nat} {d:List Dv} {t:Nat} {x:Dv} (h:d[t]?=some x):fS g N d (t+1)=pN g N t x (fS g N d t):=by rw[fS,h]
theorem Oy {g:Lg} {N t:Nat} {x:Dv} {q:SM×List Int} (h:KL 2 q.1):KL 2 (pN g N t x q).1:=by
 unfold pN;split
 ·exact h
 ·exact h.put rfl _
theorem xx (g:Lg) (N:Nat) (d:List Dv):∀t,KL 2 (fS g N d t).1
 |0=>KL.nil 2
 |t+1=>by
  unfold fS;split
  ·exact Oy (xx g N d t)
  ·exact xx g N d t
theorem vn (g:Lg) (N:Nat) (d:List Dv):∀t,(fS g N d t).2.length<=t
 |0=>by simp[fS]
 |t+1=>by
  have ih:=vn g N d t;unfold fS;split
  ·unfold pN;split
   ·simp only[List.length_append,List.length_cons,List.length_nil];omega
   ·simp only[];split
    ·simp only[List.length_append,List.length_cons,List.length_nil];omega
    ·omega
  ·omega
theorem QI.rn {H:Hp} {n lo:Nat} {y:AV} {l:List Int} (h:QI H n y l) (hf:cr H n) (t:Int) {gid slot n':Nat} (h1:4*n<=gid) (h2:n<=slot) (h3:gid<4*slot) (hn:slot<n') (hlen:l.length<=1000000) (oF:∀k o m w,y = .own k o m w->4*lo<=k) (sa:lo<=n) :
  ∃y' H4,(app 1 slot false y (.own gid 0 1 0)).run (ay.set H gid (.buf 0 1 [gk t]))=some (y',H4)/\cr H4 n'/\QI H4 n' y' (l++[t])/\(∀k o m w,y' = .own k o m w->4*lo<=k)/\(∀k,k<4*lo->get H4 k=get H k)/\
   (∀k ob,get H k=some ob->(∀v es,ob≠.buf v 1 es)->get H4 k=some ob):=by
 obtain⟨y',H4,p1,p2,p3,p4,p5⟩:=QE.Ba (e:=1) h hf (gk t) (g:=gid) (slot:=slot) (ar _ _ _) (λk hk=>aF _ _ (Ne.symm hk)) h1 h2 h3 (by rw[List.length_map];omega);refine⟨y',H4,p1,λk hk=>p2 k (by omega),?_,λk o m w e=>?_,λk hk=>p4 k (by omega) λo m w e=>by have:=oF k o m w e;omega,λk ob hk cA=>?_⟩
 ·show QE 1 _ _ _ ((l++[t]).map gk)
  rw[List.map_append];exact p3.mono (by omega) λ_ _=>rfl
 ·rcases p5 k o m w e with q | ⟨o,m,w,q⟩
  ·omega
  ·exact oF k o m w q
 ·have yw:k<4*n:=by
   rcases Nat.lt_or_ge k (4*n)with q | q
   ·exact q
   ·rw[hf k q]at hk;cases hk
  rw[p4 k yw (QE.xu (e:=1) h hk cA)];exact hk
section
variable {p1:Nat->Option ao.aA} {p2:Nat->Option aA}
theorem Oz {H:Hp} {n:Nat} {v:AV} {id:Int} {p:Option Pb} (h:PP H n v id p):(fX .eql 2 v (.iv .dM)).run H=some (.bI p.isNone,H):=by
 cases p with
 |none=>rw[show v = .iv .dM from h];rfl
 |some p=>
  obtain⟨iB,vp,j,rows,rfl,h2,h3,h4,h5⟩:=h;simp[fX,M.look,az,M.run,h3,valid,M.ok,M.bind]
def pz:IC:=match uQ.body with
 |.seq _ (.seq _ (.seq _ (.seq (.seq _ (.block _ (.loop _ (.seq _ (.seq _ (.seq (.block _ c) _)))))) _)))=>c
 |_=>.skip
theorem uh (j:Nat) (p:Pb):((gU j p).drop 1).take 1=[.nI p.c]/\(gU j p).tail.take 1=[.nI p.c]/\((gU j p).drop 14).take 1=[.nI p.s]/\((gU j p).drop 2).take 12=p.e.enc.map AV.iv:=⟨rfl,rfl,rfl,rfl⟩
set_option maxHeartbeats 8000000 in
theorem OA (bF:bW p2) (L:jF p1 p2) {lo aN:Nat} {x:Hd} {g:Lg} {H1:Hp} {n1:Nat} {ya yp yd:AV} {ra rp:List (List AV)} (G:LG lo H1 n1 aN x g ya yp yd ra rp) (iT:g.aQ.length<=1000) (xv:g.cQ.length<=1000)
  (cH:List (List IV)) (rows:List (List IV)) (t:Nat) (ht:t<=1000) (dv:Dv) (eV:dE dv.p) (aH:rows[t]?=some dv.enc) (q:SM×List Int) (hq:KL 2 q.1) (Md:q.2.length<=t)
  (H2:Hp) (n2:Nat) (hE:Ext H1 n1 H2 n2) (yb:AV) (kY:QI H2 n2 yb q.2) (km:∀k o m w,yb = .own k o m w->4*n1<=k) (hm:get H2 (4*n1)=some (.map (kn eH q.1))) (ui:AV) :
  Wp p1 p2 pz ⟨[(1,.iv (.sl 24 cH)),(6,yb),(7,.ref aN 0 0 0),(8,.ref (4*n1) 0 0 0),(17,.iv (.sl 3 rows)),(18,ui),(19,.nI t),(20,.bI true)],H2,n2⟩
   (λe st=>(e = .norm\/e = .exit 1)/\∃kB,st.fr=[(1,.iv (.sl 24 cH)),(6,kB),(7,.ref aN 0 0 0),(8,.ref (4*n1) 0 0 0),(17,.iv (.sl 3 rows)),(18,ui),(19,.nI t)]/\Ext H1 n1 st.hp st.nx/\QI st.hp st.nx kB (pN g cH.length t dv q).2/\(∀k o m w,kB = .own k o m w->4*n1<=k)/\get st.hp (4*n1)=some (.map (kn eH (pN g cH.length t dv q).1))):=by
 have OB:=hE.le;have aaA:4*n1<4*n2:=by
  rcases Nat.lt_or_ge (4*n1) (4*n2)with h | h
  ·exact h
  ·rw[hE.fresh _ h]at hm;cases hm
 have eJ:get H2 (4*(n2+3))=none:=hE.fresh _ (by omega);have b8:Ext H2 n2 (ay.set (ay.set H2 (4*(n2+3)) (.cells [.nI 0,.nI 0,.nI 0])) (4*(n2+3)) (.cells [.nI dv.c,.nI dv.p,.nI dv.s])) (n2+6):=
  ((Ext.refl hE.fresh (show n2<=n2+6 by omega)).set (by omega) (by omega) _).set (by omega) (by omega) _
 have oN:get (ay.set (ay.set H2 (4*(n2+3)) (Ob.cells [.nI 0,.nI 0,.nI 0])) (4*(n2+3)) (Ob.cells [.nI dv.c,.nI dv.p,.nI dv.s])) (4*(n2+3))=some (.cells [.nI dv.c,.nI dv.p,.nI dv.s]):=ar _ _ _;generalize uc:(ay.set (ay.set H2 (4*(n2+3)) (Ob.cells [.nI 0,.nI 0,.nI 0])) (4*(n2+3)) (Ob.cells [.nI dv.c,.nI dv.p,.nI dv.s]))=H3 at b8 oN;have sQ:get H3 (4*n1)=some (.map (kn eH q.1)):=by rw[b8.bu _ aaA];exact hm
 have zG:QI H3 (n2+6) yb q.2:=QE.mono kY (by omega) b8.bu;have jP:=hE.trans b8;obtain⟨pv,n4,UG,abI,A4,K1,ct⟩:=Xm (p1:=p1) bF L (G.ext (jP.up (show n2+6<=n2+6+5 by omega))) xv dv.p eV;have aaB:dv.enc=[.int .i64 dv.c,.int .i64 dv.p,.int .i64 dv.s]:=rfl;rw[aaB]at aH;refine au (s':=⟨[(1,.iv (.sl 24 cH)),(6,yb),(7,.ref aN 0 0 0),(8,.ref (4*n1) 0 0 0),(9,.nI t),(10,.ref (4*(n2+3)) 0 0 0),(17,.iv (.sl 3 rows)),(18,ui),(19,.nI t)],H3,n2+6⟩) (by
  rw[<-uc];simp[eJ,aH]) ?_
 refine cq (K:=K1) (s':=⟨[(1,.iv (.sl 24 cH)),(6,yb),(7,.ref aN 0 0 0),(8,.ref (4*n1) 0 0 0),(9,.nI t),(10,.ref (4*(n2+3)) 0 0 0),(11,pv),(17,.iv (.sl 3 rows)),(18,ui),(19,.nI t)],H3,n4⟩) (λn hn=>by
  have c:=ct n hn;simp[oN,c]) ?_
 refine af (af ?_);have hbp:=Oz A4;refine aD (s':=⟨[(1,.iv (.sl 24 cH)),(6,yb),(7,.ref aN 0 0 0),(8,.ref (4*n1) 0 0 0),(9,.nI t),(10,.ref (4*(n2+3)) 0 0 0),(11,pv),(17,.iv (.sl 3 rows)),(18,ui),(19,.nI t),(29,.iv (.bool (fN g dv.p).isNone))],H3,n4+2⟩) (by
  generalize(fN g dv.p).isNone=b at *;simp[-fX,hbp]) ?_
 refine ag rfl ?_;unfold pN;have Kd:cr H3 (n4+2):=λk hk=>b8.fresh k (by omega)
 have B9:Ext H1 n1 H3 (n4+2):=jP.up (by omega);have Ke:QI H3 (n4+2) yb q.2:=zG.mono (by omega) λ_ _=>rfl
 cases U1:fN g dv.p with
 |none=>
  simp only[Option.isNone_none,if_true];have kA:get H3 (4*(n4+2+2))=none:=Kd _ (by omega);obtain⟨y',H5,r1,r2,r3,r4,r5,r6⟩:=Ke.rn Kd (t:Int) (lo:=n1) (gid:=4*(n4+2+2)) (slot:=n4+2+3) (n':=n4+2+5) (by omega) (by omega) (by omega) (by omega) (by omega) km (by omega);refine au (s':=⟨[(1,.iv (.sl 24 cH)),(6,y'),(7,.ref aN 0 0 0),(8,.ref (4*n1) 0 0 0),(17,.iv (.sl 3 rows)),(18,ui),(19,.nI t)],H5,n4+2+5⟩) (by
   simp only[gk,Nat.add_assoc]at r1 kA;simp[kA,r1,bO,Nat.add_assoc]) ?_
  refine aO ?_;exact⟨.inr rfl,y',rfl,⟨by show n1<=n4+2+5;omega,r2,λk hk=>(r5 k hk).trans (jP.bu k hk)⟩,r3,r4,r6 _ _ sQ λv es h=>by cases h⟩
 |some p=>
  simp only[Option.isNone_some,Bool.false_eq_true,if_false];refine ak ?_;simp only[Ex.then];rw[U1]at A4;obtain⟨iB,vp,j,Xs,rfl,i1,i3,i4,i5⟩:=A4;obtain⟨a1,MK,xy,a2⟩:=uh j p;have fp:(p.e.enc.map AV.iv).length=12:=rfl;have hfk:get H3 (4*(n4+2+8))=none:=Kd _ (by omega);have kT:Ext H1 n1 (ay.set (ay.set H3 (4*(n4+2+8)) (.cells [.nI 0,.nI 0])) (4*(n4+2+8)) (.cells [.nI dv.c,.nI p.c])) (n4+2+10):=
   ((B9.up (show n4+2<=n4+2+10 by omega)).set (by omega) (by omega) _).set (by omega) (by omega) _
  have mS:Ext H3 (n4+2) (ay.set (ay.set H3 (4*(n4+2+8)) (.cells [.nI 0,.nI 0])) (4*(n4+2+8)) (.cells [.nI dv.c,.nI p.c])) (n4+2+10):=
   ((Ext.refl Kd (show n4+2<=n4+2+10 by omega)).set (by omega) (by omega) _).set (by omega) (by omega) _
  have uj:get (ay.set (ay.set H3 (4*(n4+2+8)) (Ob.cells [.nI 0,.nI 0])) (4*(n4+2+8)) (Ob.cells [.nI dv.c,.nI p.c])) (4*(n4+2+8))=some (.cells [.nI dv.c,.nI p.c]):=ar _ _ _;generalize U3:(ay.set (ay.set H3 (4*(n4+2+8)) (Ob.cells [.nI 0,.nI 0])) (4*(n4+2+8)) (Ob.cells [.nI dv.c,.nI p.c]))=H5 at kT mS uj;refine af (Wp.drawn rfl ?_);refine aD (s':=⟨[(1,.iv (.sl 24 cH)),(6,yb),(7,.ref aN 0 0 0),(8,.ref (4*n1) 0 0 0),(9,.nI t),(10,.ref (4*(n2+3)) 0 0 0),(11,.ref iB vp j 0),(12,.ref (4*(n4+2+8)) 0 0 0),(17,.iv (.sl 3 rows)),(18,ui),(19,.nI t)],H5,n4+2+10⟩) (by
   rw[<-U3];generalize gU j p=pr at *;simp[oN,i3,i4,a1,MK,hfk,cz]) ?_
  have HF:get H5 iB=some (.buf vp 15 Xs):=by rw[mS.bu _ (by omega)];exact i3
  have F4:get H5 (4*(n2+3))=some (.cells [.nI dv.c,.nI dv.p,.nI dv.s]):=by rw[mS.bu _ (by omega)];exact oN
  have PH:get H5 (4*n1)=some (.map (kn eH q.1)):=by rw[mS.bu _ (by omega)];exact sQ
  have Ca:QI H5 (n4+2+10) yb q.2:=QE.mono Ke (by omega) mS.bu;have ez:=F3 eH (n:=2) (by decide) (k:=[dv.c,p.c]) rfl hq PH 0;simp only[List.map_cons,List.map_nil,eH]at ez;change(jb false false [0,0] _ _ _).run _=_ at ez;obtain⟨H6,n6,oO,K2,cZ⟩:=Xr (p1:=p1) bF L (G.ext (kT.up (show n4+2+10<=n4+2+10+36 by omega))) iT (λk hk=>kT.fresh k (by omega)) dv.c dv.s p.e;obtain⟨H7,n7,qm,zH⟩:∃H7 n7,Ext H5 (n4+2+10) H7 n7/\∀n,K2<=n->∀(ops:List aJ),ops=(match pz with | .seq _ (.seq _ (.seq _ (.seq _ (.seq (.seq (.ff _ o _) _) _))))=>o | _=>[])->aS (one p1 n) (fH p1 p2 n) false ops [1,6,7,8,9,10,12,17,18,19,77]
    ⟨[(1,.iv (.sl 24 cH)),(6,yb),(7,.ref aN 0 0 0),(8,.ref (4*n1) 0 0 0),(9,.nI t),(10,.ref (4*(n2+3)) 0 0 0),(11,.ref iB vp j 0),(12,.ref (4*(n4+2+8)) 0 0 0),(17,.iv (.sl 3 rows)),(18,ui),(19,.nI t)],H5,n4+2+10⟩ =
    some ⟨[(1,.iv (.sl 24 cH)),(6,yb),(7,.ref aN 0 0 0),(8,.ref (4*n1) 0 0 0),(9,.nI t),(10,.ref (4*(n2+3)) 0 0 0),(12,.ref (4*(n4+2+8)) 0 0 0),(17,.iv (.sl 3 rows)),(18,ui),(19,.nI t),(77,.bI (vl g cH.length q.1 dv p))],H7,n7⟩:=by
   unfold vl;generalize kI q.1 [dv.c,p.c] 0=last at *;generalize jG g dv.c dv.s p.e=w at *;generalize gU j p=pr at *;generalize p.e.enc.map AV.iv=ee at *;by_cases h0:dv.p<=last
   ·refine⟨H5,n4+2+10+36,Ext.refl kT.fresh (by omega),λn hn ops ho=>?_⟩;subst ho;simp[pz,uQ,F4,uj,ez,HF,i4,xy,a2,fp,h0]
   ·by_cases h1:dv.s<p.s
    ·refine⟨H5,n4+2+10+36,Ext.refl kT.fresh (by omega),λn hn ops ho=>?_⟩;subst ho;simp[pz,uQ,F4,uj,ez,HF,i4,xy,a2,fp,h0,h1]
    ·by_cases h2:(cH.length:Int)<dv.s
     ·refine⟨H5,n4+2+10+36,Ext.refl kT.fresh (by omega),λn hn ops ho=>?_⟩;subst ho;simp[pz,uQ,F4,uj,ez,HF,i4,xy,a2,fp,h0,h1,h2]
     ·refine⟨H6,n6,(Ext.refl kT.fresh (show n4+2+10<=n4+2+10+36 by omega)).trans oO,λn hn ops ho=>?_⟩;subst ho;have c:=cZ n hn;simp[pz,uQ,F4,uj,ez,HF,i4,xy,a2,fp,h0,h1,h2,c]
  refine af (af (Wp.drawn rfl ?_));refine aI (K:=K2) (λn hn=>zH n hn _ rfl) ?_;refine ag rfl ?_;have F5:=kT.trans qm;have U4:get H7 (4*(n4+2+8))=some (.cells [.nI dv.c,.nI p.c]):=by rw[qm.bu _ (by omega)];exact uj
  have U5:get H7 (4*(n2+3))=some (.cells [.nI dv.c,.nI dv.p,.nI dv.s]):=by rw[qm.bu _ (by omega)];exact F4
  have YH:get H7 (4*n1)=some (.map (kn eH q.1)):=by rw[qm.bu _ (by omega)];exact PH
  have F6:QI H7 n7 yb q.2:=QE.mono Ca qm.le qm.bu;have aaC:=qm.le;have Qo:∀(H8:Hp) (n8:Nat) (y8:AV) (z:Fr) (l8:List Int),Ext H1 n1 H8 n8->QI H8 n8 y8 l8->(∀k o m w,y8 = .own k o m w->4*n1<=k)->get H8 (4*(n4+2+8))=some (.cells [.nI dv.c,.nI p.c])->get H8 (4*(n2+3))=some (.cells [.nI dv.c,.nI dv.p,.nI dv.s])->
    get H8 (4*n1)=some (.map (kn eH q.1))->4*n1<4*n8->∀fr:Fr,get fr 1=some (.iv (.sl 24 cH))->get fr 6=some y8->get fr 7=some (.ref aN 0 0 0)->get fr 8=some (.ref (4*n1) 0 0 0)->get fr 10=some (.ref (4*(n2+3)) 0 0 0)->get fr 12=some (.ref (4*(n4+2+8)) 0 0 0)->get fr 17=some (.iv (.sl 3 rows))->get fr 18=some ui->get fr 19=some (.nI t)->
    Wp p1 p2 (match pz with | .seq _ (.seq _ (.seq _ (.seq _ (.seq _ c))))=>c | _=>.skip) ⟨fr,H8,n8⟩ (λe st=>(e = .norm\/e = .exit 1)/\∃kB,st.fr=[(1,.iv (.sl 24 cH)),(6,kB),(7,.ref aN 0 0 0),(8,.ref (4*n1) 0 0 0),(17,.iv (.sl 3 rows)),(18,ui),(19,.nI t)]/\Ext H1 n1 st.hp st.nx/\QI st.hp st.nx kB l8/\(∀k o m w,kB = .own k o m w->4*n1<=k)/\get st.hp (4*n1)=some (.map (kn eH (oM q.1 [dv.c,p.c] (H9 q.1 [dv.c,p.c] dv.p))))):=by
   intro H8 n8 y8 z l8 hE8 hy8 aaD hk8 hd8 U6 abJ fr f1 f6 f7 f8 f10 f12 f17 f18 f19;have Kf:=F3 eH (n:=2) (by decide) (k:=[dv.c,p.c]) rfl hq U6 0;have DC:=Ox eH (n:=2) (by decide) (k:=[dv.c,p.c]) rfl hq (by omega) U6 (H9 q.1 [dv.c,p.c] dv.p);simp only[List.map_cons,List.map_nil,eH]at Kf DC;change(jb false false [0,0] _ _ _).run _=_ at Kf;change(kh [0,0] _ _ _).run _=_ at DC;refine Wp.drawn rfl ?_;refine aD (s':=⟨[(1,.iv (.sl 24 cH)),(6,y8),(7,.ref aN 0 0 0),(8,.ref (4*n1) 0 0 0),(17,.iv (.sl 3 rows)),(18,ui),(19,.nI t)],ay.set H8 (4*n1) (.map (kn eH (oM q.1 [dv.c,p.c] (H9 q.1 [dv.c,p.c] dv.p)))),n8+9⟩) (by
    unfold H9 at DC ⊢;generalize kI q.1 [dv.c,p.c] 0=last at *;simp[bU,f1,f6,f7,f8,f10,f12,f17,f18,f19,hk8,hd8,Kf,qH,DC]) ?_
   refine⟨.inl rfl,y8,rfl,?_,?_,aaD,ar _ _ _⟩
   ·exact(hE8.up (show n8<=n8+9 by omega)).set (by omega) (by omega) _
   ·exact(QE.aaz (hy8.mono (show n8<=n8+9 by omega) λ_ _=>rfl) U6 (λv es h=>by cases h) _)
  cases hsb:vl g cH.length q.1 dv p with
  |false=>
   simp only[Bool.false_eq_true,if_false];refine ak ?_;simp only[Ex.then];exact Qo H7 n7 yb [] q.2 F5 F6 km U4 U5 YH (by omega) _ rfl rfl rfl rfl rfl rfl rfl rfl rfl
  |true=>
   simp only[if_true];have U7:cr H7 n7:=qm.fresh;have kA:get H7 (4*(n7+2))=none:=U7 _ (by omega);obtain⟨y',H8,r1,r2,r3,r4,r5,r6⟩:=F6.rn U7 (t:Int) (lo:=n1) (gid:=4*(n7+2)) (slot:=n7+3) (n':=n7+5) (by omega) (by omega) (by omega) (by omega) (by omega) km (by omega);refine aD (s':=⟨[(1,.iv (.sl 24 cH)),(6,y'),(7,.ref aN 0 0 0),(8,.ref (4*n1) 0 0 0),(10,.ref (4*(n2+3)) 0 0 0),(12,.ref (4*(n4+2+8)) 0 0 0),(17,.iv (.sl 3 rows)),(18,ui),(19,.nI t)],H8,n7+5⟩) (by
    simp only[gk]at r1;simp[kA,r1,bO]) ?_
   simp only[Ex.then];exact Qo H8 (n7+5) y' [] _ ⟨by omega,r2,λk hk=>(r5 k hk).trans (F5.bu k hk)⟩ r3 r4 (r6 _ _ U4 λv es h=>by cases h) (r6 _ _ U5 λv es h=>by cases h) (r6 _ _ YH λv es h=>by cases h) (by omega) _ rfl rfl rfl rfl rfl rfl rfl rfl rfl
end
theorem QI.nil (H:Hp) (n:Nat):QI H n (.iv (.aV 1)) []:=QE.nil 1 H n
section
variable {p1:Nat->Option ao.aA} {p2:Nat->Option aA}
set_option maxHeartbeats 4000000 in
theorem Xt (bF:bW p2) (L:jF p1 p2) (x:Hd) (hp:x.ps.length<=100) (hh:x.hs.length<=100) (l:List ao.Op) (hl:l.length<=1000) (cg:∀o ∈ l,o.ok) (d:List Dv) (hd:d.length<=1000) (Lm:∀v ∈ d,dE v.p) (H:Hp) (nx:Nat) (hf:cr H nx) :
  ∃H' aW y,Ext H nx H' aW/\QI H' aW y (sV (eO x l) l.length d)/\Ev p1 p2 154 [.agg (cj x),.iv (.sl 24 (l.map ao.Op.enc)),.iv (.sl 3 (d.map Dv.enc))] H nx (y,H',aW):=by
 have eJ:get H (4*nx)=none:=hf _ (by omega);have dy:Ext H nx (ay.set H (4*nx) (.cells (cj x))) (nx+2):=(Ext.refl hf (by omega)).set (by omega) (by omega) _;have hb:get (ay.set H (4*nx) (Ob.cells (cj x))) (4*nx)=some (.cells (cj x)):=ar _ _ _;generalize C4:ay.set H (4*nx) (Ob.cells (cj x))=H0 at dy hb;obtain⟨H1,n1,aN,ya,yp,yd,ra,rp,dH,G,K1,ct⟩:=Ql (p1:=p1) bF L x hp hh l hl cg H0 (nx+2+4) (λk hk=>dy.fresh k (by omega));have qB:Ext H nx H1 n1:=(dy.up (show nx+2<=nx+2+4 by omega)).trans dH;have hlen:=oL x l l.length;have Ia:(eO x l).aQ.length<=1000/\(eO x l).cQ.length<=1000:=by
  unfold eO;split
  ·omega
  ·simp
 generalize eO x l=g at *;have Qp:get H1 (4*n1)=none:=dH.fresh _ (by omega);have key:Wp p1 p2 uQ.body ⟨params [.agg (cj x),.iv (.sl 24 (l.map ao.Op.enc)),.iv (.sl 3 (d.map Dv.enc))] 0,H,nx⟩ (λe st=>∃r:AV×Hp×Nat,(Ext H nx r.2.1 r.2.2/\QI r.2.1 r.2.2 r.1 (sV g l.length d))/\Fin uQ.res r e st):=by
  have n9:(l.map ao.Op.enc).length=l.length:=by simp
  have uk:(d.map Dv.enc).length=d.length:=by simp
  have oi:∀{t:Nat} {v:Dv},d[t]?=some v->(d.map Dv.enc)[t]?=some v.enc:=λh=>by rw[List.getElem?_map,h];rfl
  generalize l.map ao.Op.enc=cH at *;generalize d.map Dv.enc=rows at *;refine au (s':=⟨[(1,.iv (.sl 24 cH)),(2,.iv (.sl 3 rows)),(3,.ref (4*nx) 0 0 0),(6,.iv (.aV 1))],H0,nx+2⟩) (by
   rw[<-C4];simp[eJ]) ?_
  refine cq (K:=K1) (s':=⟨[(1,.iv (.sl 24 cH)),(2,.iv (.sl 3 rows)),(6,.iv (.aV 1)),(7,.ref aN 0 0 0)],H1,n1⟩) (λn hn=>by
   have c:=ct n hn;simp[hb,iH,jE,c]) ?_
  refine au (s':=⟨[(1,.iv (.sl 24 cH)),(2,.iv (.sl 3 rows)),(6,.iv (.aV 1)),(7,.ref aN 0 0 0),(8,.ref (4*n1) 0 0 0)],ay.set H1 (4*n1) (.map []),n1+2⟩) (by
   simp[Qp]) ?_
  refine af (au (s':=⟨[(1,.iv (.sl 24 cH)),(6,.iv (.aV 1)),(7,.ref aN 0 0 0),(8,.ref (4*n1) 0 0 0),(17,.iv (.sl 3 rows)),(18,.nI d.length),(19,.nI 0)],ay.set H1 (4*n1) (.map []),n1+5⟩) (by
   simp[uk]) ?_)
  refine aq ?_;refine b7 (λm s1=>∃(t n2:Nat) (H2:Hp) (yb:AV),t+m=d.length/\Ext H1 n1 H2 n2/\QI H2 n2 yb (fS g l.length d t).2/\(∀k o m w,yb = .own k o m w->4*n1<=k)/\get H2 (4*n1)=some (.map (kn eH (fS g l.length d t).1))/\
   s1=⟨[(1,.iv (.sl 24 cH)),(6,yb),(7,.ref aN 0 0 0),(8,.ref (4*n1) 0 0 0),(17,.iv (.sl 3 rows)),(18,.nI d.length),(19,.nI t)],H2,n2⟩) (m:=d.length)
   ⟨0,n1+5,_,.iv (.aV 1),by omega,(Ext.refl dH.fresh (show n1<=n1+5 by omega)).set (by omega) (by omega) _,QI.nil _ _,(λk o m w h=>by cases h),ar _ _ _,by simp[aP,an,fS,kn]⟩ ?_
  rintro m s1 ⟨t,n2,H2,yb,ML,b8,kY,km,hm,rfl⟩;refine af ?_;by_cases ht:t<d.length
  ·obtain⟨v,hv⟩:∃v,d[t]?=some v:=⟨_,List.getElem?_eq_getElem ht⟩;have dX:IntKind.i64.wrap ((t:Int)+1)=(t:Int)+1:=IntWalk.i64_in _ (by omega);have OC:=GP (g:=g) (N:=l.length) hv;have da:=OA (p1:=p1) bF L G Ia.1 Ia.2 cH rows t (by omega) v (Lm v (List.mem_of_getElem? hv)) (oi hv) (fS g l.length d t) (xx g l.length d t) (vn g l.length d t) H2 (n2+1) (b8.up (by omega)) yb (QE.mono kY (by omega) λ_ _=>rfl) km hm (.nI d.length);rw[n9,<-OC]at da;refine aD (by simp[ht];rfl) ?_;refine af (ag (t:=true) rfl (ak (af (aq ?_))))
   refine Wp.mono da ?_;rintro e ⟨fr,H4,n4⟩ ⟨he,kB,rfl,b1,b2,b3,b4⟩;simp only[]at b1 b2 b3 b4;rcases he with rfl | rfl
   ·simp only[Ex.then,Ex.inBlock];refine aD (by simp[dX];rfl) ?_;exact⟨m - 1,by omega,t+1,n4+2,H4,kB,by omega,b1.up (by omega),QE.mono b2 (by omega) λ_ _=>rfl,b3,b4,by simp[aP,an]⟩
   ·simp only[Ex.then,Ex.inBlock,if_true];refine aD (by simp[dX];rfl) ?_;exact⟨m - 1,by omega,t+1,n4+2,H4,kB,by omega,b1.up (by omega),QE.mono b2 (by omega) λ_ _=>rfl,b3,b4,by simp[aP,an]⟩
  ·obtain rfl:t=d.length:=by omega
   refine bK ?_;refine af (ag (t:=false) rfl (aO ?_));simp only[Ex.then,Ex.inBlock,if_true];refine aj ?_;exact ax ⟨(yb,H2,n2+1+2),⟨qB.trans (b8.up (show n2<=n2+1+2 by omega)),QE.mono kY (show n2<=n2+1+2 by omega) λ_ _=>rfl⟩,rfl,rfl⟩
 obtain⟨⟨y,H',aW⟩,⟨h1,h2⟩,h4⟩:=Ev.jn bF L.aaj rfl rfl _ key;exact⟨H',aW,y,h1,h2,h4⟩
end
structure Cr where
 f:Int
 t:Int
 p:Int
 s:Int
def Cr.enc (d:Cr):List IV:=[.int .i64 d.f,.int .i64 d.t,.int .i64 d.p,.int .i64 d.s]
section
variable {p1:Nat->Option ao.aA} {p2:Nat->Option aA}
end
theorem sW (h:Hd) (l:List ao.Op):(eO h l).aQ.length<=l.length/\(eO h l).cQ.length<=l.length/\(eO h l).aR.length<=l.length:=by
 unfold eO;split
 ·exact oL h l _
 ·simp
section
variable {p1:Nat->Option ao.aA} {p2:Nat->Option aA}
end
def x6 (c bt:Int) (e:E) (a:Act):Bool:=(a.c==c&&(a.t==0||decide (bt<=a.t)))&&gi a.b e
def sX (g:Lg) (c bt:Int) (i:Nat) (e:E) (a:Act):Bool:=x6 c bt e a&&(g.aR.take i).any λt=>decide (a.f<t)
def ja (g:Lg) (c:Int) (p:Pb):Int:=if 0<=eG (λt=>decide (p.s<t)) g.aR 0 then
  (if(g.aQ.any (sX g c ((g.aR[(eG (λt=>decide (p.s<t)) g.aR 0).toNat]?).getD 0) (eG (λt=>decide (p.s<t)) g.aR 0).toNat p.e))=true then(g.aR[(eG (λt=>decide (p.s<t)) g.aR 0).toNat]?).getD 0 else 0) else 0
theorem Ib {α:Type} (f:α->Bool):∀(l:List α) (k:Nat),eG f l k = -1\/∃i:Nat,eG f l k=((k+i:Nat):Int)/\i<l.length
 |[],k=>.inl rfl
 |a::l,k=>by
  unfold eG;split
  ·exact .inr ⟨0,by simp,by simp⟩
  ·rcases Ib f l (k+1)with h | ⟨i,h1,h2⟩
   ·exact .inl h
   ·exact .inr ⟨i+1,by rw[h1];congr 1;omega,by simp;omega⟩
section
variable {p1:Nat->Option ao.aA} {p2:Nat->Option aA}
theorem Xu (bF:bW p2) (L:jF p1 p2) (t:Int) (p:Pb) (bx iB vp j:Nat) (rows:List (List AV)) (H:Hp) (nx:Nat) (hb:get H bx=some (.cells [.ref iB vp j 0])) (hi:get H iB=some (.buf vp 15 rows)) (hr:rows[j]?=some (gU j p)) :
  Ev p1 p2 200 [.nI t,.ref bx 0 0 0] H nx (.bI (decide (p.s<t)),H,nx+8):=by
 obtain⟨a1,MK,xy,a2⟩:=uh j p;generalize gU j p=pr at *;refine Ev.of bF L.aal rfl rfl ?_;refine aj ?_;refine au (by simp[hb,hi,hr,xy];rfl) ?_;exact ax ⟨rfl,rfl⟩
theorem Xv (bF:bW p2) (L:jF p1 p2) (t:Int) (a:Act) (y:AV) (bx hU va j:Nat) (rows:List (List AV)) (H:Hp) (nx:Nat) (hb:get H bx=some (.cells [.ref hU va j 0])) (hi:get H hU=some (.buf va 5 rows)) (hr:rows[j]?=some (px a y)) :
  Ev p1 p2 199 [.nI t,.ref bx 0 0 0] H nx (.bI (decide (a.f<t)),H,nx+8):=by
 unfold px at hr;refine Ev.of bF L.aak rfl rfl ?_;refine aj ?_;refine au (by simp[hb,hi,hr];rfl) ?_;exact ax ⟨rfl,rfl⟩
theorem F7 {l:List Int} {H:Hp} {nx id v k:Nat} (hg:get H id=some (.buf v 1 (l.map gk))) (cV:id<4*nx) (hk:k<=l.length) {fid:Nat} {caps:List AV} {f:Int->Bool}
  (hf:∀(t:Int) H2 n2,Ext H nx H2 n2->∃H3 n3,Ext H2 n2 H3 n3/\Ev p1 p2 fid (.nI t::caps) H2 n2 (.bI (f t),H3,n3)) :
  Kb p1 p2 1 false (.own id 0 k v) (.dg fid [] caps) (l.take k) f H nx:=by
 have bC:(l.take k).length=k:=by rw[List.length_take];omega
 refine⟨λH2 n2 hE=>?_,fid,caps,rfl,λj a ha H2 n2 hE=>?_⟩
 ·have:=(hE.bu _ cV).trans hg;rw[bC];simp[ay.len,M.run,M.look,az,this,M.ok,M.bind]
 ·have Ee:=(hE.bu _ cV).trans hg;have l7:j<k:=by have:=(List.getElem?_eq_some_iff.1 ha).1;omega
  rw[List.getElem?_take,if_pos l7]at ha;have aH:(l.map gk)[j]?=some (gk a):=by rw[List.getElem?_map,ha];rfl
  simp only[gk]at aH Ee;obtain⟨H3,n3,h1,h2⟩:=hf a H2 n2 hE;refine⟨.ref id v j 0,.nI a,?_,?_,H3,n3,h1,h2⟩
  ·simp[ay.dQ,idx,az,M.ok,M.bind,M.look,M.run,Ee,l7]
  ·generalize List.map (λn=>[AV.iv (IV.int IntKind.i64 n)]) l=es at *;simp[ay.load,az,M.look,M.run,M.lift,Ee,bB,aH,M.ok,ay.mk,M.bind]
set_option maxHeartbeats 8000000 in
theorem Xw (bF:bW p2) (L:jF p1 p2) {lo aN:Nat} {x:Hd} {g:Lg} {H:Hp} {nx:Nat} {ya yp yd:AV} {ra rp:List (List AV)} (G:LG lo H nx aN x g ya yp yd ra rp) (iT:g.aQ.length<=1000) (Bd:g.aR.length<=1000) (hf:cr H nx) (c:Int)
  (p:Pb) (iB vp j:Nat) (rows:List (List AV)) (aaE:iB<4*nx) (hi:get H iB=some (.buf vp 15 rows)) (hr:rows[j]?=some (gU j p)) :
  ∃H' aW,Ext H nx H' aW/\Ev p1 p2 198 [.ref aN 0 0 0,.nI c,.ref iB vp j 0] H nx (.nI (ja g c p),H',aW):=by
 have f0:get H (4*nx)=none:=hf _ (by omega);have dy:Ext H nx (ay.set H (4*nx) (.cells [.ref iB vp j 0])) (nx+2):=(Ext.refl hf (by omega)).set (by omega) (by omega) _;have g0:get (ay.set H (4*nx) (Ob.cells [.ref iB vp j 0])) (4*nx)=some (.cells [.ref iB vp j 0]):=ar _ _ _;generalize oW:ay.set H (4*nx) (Ob.cells [.ref iB vp j 0])=H1 at dy g0;have G1:=G.ext dy;have rY:get H1 iB=some (.buf vp 15 rows):=by rw[dy.bu _ aaE];exact hi
 have uk:(g.aR.map gk).length=g.aR.length:=by simp
 obtain⟨H2,n2,dH,K1,ct⟩:∃H' aW,Ext H1 (nx+2+7) H' aW/\Ev p1 p2 150 [yd,.dg 200 [] [.ref (4*nx) 0 0 0]] H1 (nx+2+7) (.nI (eG (λt=>decide (p.s<t)) g.aR 0),H',aW):=by
  have xk:cr H1 (nx+2+7):=λk hk=>dy.fresh k (by omega)
  refine Qn (p1:=p1) bF L.US rfl (by omega) xk ?_;rcases G1.d with⟨hy,hn⟩|⟨id,v,q1,q2,hy,q4⟩
  ·have:g.aR=[]:=List.map_eq_nil_iff.1 hn;rw[this,hy];exact⟨λ_ _ _=>rfl,200,_,rfl,λj a h=>by simp at h⟩
  ·rw[hy,uk];have:=F7 (p1:=p1) (p2:=p2) (l:=g.aR) (H:=H1) (nx:=nx+2+7) (k:=g.aR.length) q4 (by omega) (Nat.le_refl _) (fid:=200) (caps:=[.ref (4*nx) 0 0 0]) (f:=λt=>decide (p.s<t)) (λt H3 n3 b8=>⟨H3,_,Ext.refl b8.fresh (show n3<=n3+8 by omega),Xu bF L t p (4*nx) iB vp j rows H3 n3 (by rw[b8.bu _ (by omega)];exact g0) (by rw[b8.bu _ (by omega)];exact rY) hr⟩);rw[List.take_length]at this;exact this
 have Kg:Ext H nx H2 n2:=(dy.up (show nx+2<=nx+2+7 by omega)).trans dH;have G2:=G.ext Kg;have Kh:=dH.le;have g02:get H2 (4*nx)=some (.cells [.ref iB vp j 0]):=by rw[dH.bu _ (by omega)];exact g0
 have Fu:get H2 iB=some (.buf vp 15 rows):=by rw[dH.bu _ (by omega)];exact rY
 obtain⟨a1,MK,xy,a2⟩:=uh j p;have fp:(p.e.enc.map AV.iv).length=12:=rfl;have key:Wp p1 p2 Jx.body ⟨params [.ref aN 0 0 0,.nI c,.ref iB vp j 0] 0,H,nx⟩ (λe st=>∃r:AV×Hp×Nat,(r.1 = .nI (ja g c p)/\Ext H nx r.2.1 r.2.2)/\Fin Jx.res r e st):=by
  refine au (s':=⟨_,H1,nx+2⟩) (by
   rw[<-oW];simp[f0];rfl) ?_
  refine af ?_;have U8:=G1.at_;have nC:=G2.at_;rw[gT]at U8 nC;unfold ja;have rS:=Ib (λt=>decide (p.s<t)) g.aR 0;generalize hY:eG (λt=>decide (p.s<t)) g.aR 0=ix at *;refine aI (K:=K1) (λn hn=>by
   have c:=ct n hn;simp[U8,c];rfl) ?_
  refine af (au (by simp;rfl) ?_);refine ag rfl ?_;rcases rS with rS | ⟨i,rS,gZ⟩
  ·have h1:decide (ix<0)=true:=decide_eq_true (by omega);rw[h1,if_neg (show ¬(0:Int)<=ix by omega)];simp only[if_true];refine aj ?_;exact ax ⟨(_,_,_),⟨rfl,Kg.up (show n2<=n2+2+1 by omega)⟩,rfl,rfl⟩
  ·rw[Nat.zero_add]at rS;subst rS;have h1:decide ((i:Int)<0)=false:=decide_eq_false (by omega);rw[h1,if_pos (show(0:Int)<=(i:Int) by omega)];simp only[Bool.false_eq_true,if_false,Int.toNat_natCast];refine ak ?_;simp only[Ex.then];obtain⟨bt,F9⟩:∃bt,g.aR[i]?=some bt:=⟨_,List.getElem?_eq_getElem gZ⟩;have Bg:(g.aR.map gk)[i]?=some [.nI bt]:=by rw[List.getElem?_map,F9];rfl
   rw[F9];simp only[Option.getD_some];obtain⟨Qq,vd,q1, -,C5,q4⟩:=G2.d.at_ Bg;rw[uk]at C5;have aaF:=C5;subst aaF;refine au (s':=⟨[(0,.ref aN 0 0 0),(1,.nI c),(5,.ref (4*nx) 0 0 0),(7,.nI i),(8,.nI bt)],H2,n2+2+8⟩) (by
    generalize g.aR.map gk=es at *;simp[nC,q4,gZ,Bg]) ?_
   refine af (af ?_);have jf:=G2.al.1;have hlen:=G2.a.len;rw[jf]at hlen;refine aD (by
    simp[-len,nC,hlen];rfl) ?_
   refine aq ?_;refine b7 (λm s1=>∃(k n3:Nat) (H3:Hp),k+m=g.aQ.length/\Ext H2 n2 H3 n3/\(g.aQ.drop k).any (sX g c bt i p.e)=g.aQ.any (sX g c bt i p.e)/\
    s1=⟨[(0,.ref aN 0 0 0),(1,.nI c),(5,.ref (4*nx) 0 0 0),(7,.nI i),(8,.nI bt),(31,.nI g.aQ.length),(32,.nI k)],H3,n3⟩) (m:=g.aQ.length)
    ⟨0,n2+2+8+6,H2,by omega,Ext.refl dH.fresh (by omega),rfl,by simp[aP,an]⟩ ?_
   rintro m s1 ⟨k,n3,H3,C6,b8,lL,rfl⟩;refine af ?_;have OD:=b8.le;by_cases hk:k<g.aQ.length
   ·obtain⟨a,ha⟩:∃a,g.aQ[k]?=some a:=⟨_,List.getElem?_eq_getElem hk⟩;have dX:IntKind.i64.wrap ((k:Int)+1)=(k:Int)+1:=IntWalk.i64_in _ (by omega);rw[drop_cons ha,List.any_cons]at lL;have G3:=G2.ext b8;have qC:=G3.at_;rw[gT]at qC;obtain⟨row,aH,gx,rfl,kH⟩:=G3.al.get ha;obtain⟨hU,va,i1, -,iJ,i4⟩:=G3.a.at_ aH;rw[jf]at iJ;subst iJ;simp only[eH]at aH;have vO:=G3.fits a (List.mem_of_getElem? ha);obtain⟨K2,cZ⟩:=HY (p1:=p1) L a.b vO.1 vO.2 p.e;have YI:get H3 (4*(n3+1+2+6))=none:=b8.fresh _ (by omega);have ei:Ext H3 n3 (ay.set (ay.set H3 (4*(n3+1+2+6)) (.cells [.iv .dM])) (4*(n3+1+2+6)) (.cells [.ref hU va k 0])) (n3+1+2+8):=
     ((Ext.refl b8.fresh (show n3<=n3+1+2+8 by omega)).set (by omega) (by omega) _).set (by omega) (by omega) _
    have g4:get (ay.set (ay.set H3 (4*(n3+1+2+6)) (Ob.cells [.iv .dM])) (4*(n3+1+2+6)) (Ob.cells [.ref hU va k 0])) (4*(n3+1+2+6))=some (.cells [.ref hU va k 0]):=ar _ _ _;generalize U9:(ay.set (ay.set H3 (4*(n3+1+2+6)) (Ob.cells [.iv .dM])) (4*(n3+1+2+6)) (Ob.cells [.ref hU va k 0]))=H4 at ei g4;have xA:=b8.trans ei;have i44:get H4 hU=some (.buf va 5 ra):=by rw[ei.bu _ (by omega)];exact i4
    have YJ:get H4 (4*nx)=some (.cells [.ref iB vp j 0]):=by rw[xA.bu _ (by omega)];exact g02
    have mo:get H4 iB=some (.buf vp 15 rows):=by rw[xA.bu _ (by omega)];exact Fu
    have YK:get H4 Qq=some (.buf vd 1 (g.aR.map gk)):=by rw[xA.bu _ q1];exact q4
    have My:LB H4 (n3+1+2+8) gx a.b:=kH.ext ei;have qD:=(G2.ext xA).at_;rw[gT]at qD;refine aD (by simp[hk];rfl) ?_;refine af (ag (t:=true) rfl (ak (af (aq (aj ?_)))));refine au (s':=⟨_,H4,n3+1+2+8⟩) (by
     rw[<-U9];simp only[Nat.add_assoc]at YI;simp[qC,i4,hk,YI,Nat.add_assoc];rfl) ?_
    refine af (Wp.drawn rfl ?_);refine aI (K:=K2) (s':=⟨[(0,.ref aN 0 0 0),(1,.nI c),(5,.ref (4*nx) 0 0 0),(7,.nI i),(8,.nI bt),(10,.ref (4*(n3+1+2+6)) 0 0 0),(11,.bI (x6 c bt p.e a)),(31,.nI g.aQ.length),(32,.nI k)],H4,n3+1+2+8+34⟩) (λn hn=>by
     have cc:=cZ n hn H4 _ gx My;unfold x6;generalize gi a.b p.e=q at *;generalize gU j p=pr at *;generalize p.e.enc.map AV.iv=ee at *;cases h1:a.c==c
     ·simp[g4,i44,aH,h1]
     ·cases h2:a.t==0
      ·by_cases h3:bt<=a.t
       ·simp[g4,i44,aH,YJ,mo,hr,a2,fp,h1,h2,h3,cc]
       ·simp[g4,i44,aH,h1,h2,h3]
      ·simp[g4,i44,aH,YJ,mo,hr,a2,fp,h1,h2,cc]) ?_
    refine af ?_;obtain⟨H5,n5,kT,K3,fP⟩:∃H' aW,Ext H4 (n3+1+2+8+34+11) H' aW/\Ev p1 p2 143 [.own Qq 0 i vd,.dg 199 [] [.ref (4*(n3+1+2+6)) 0 0 0]] H4 (n3+1+2+8+34+11) (.bI ((g.aR.take i).any λt=>decide (a.f<t)),H',aW):=by
     refine Kc (p1:=p1) bF L.US L.aam rfl rfl (by rw[List.length_take];omega) (λq hq=>ei.fresh q (by omega)) λH6 n6 oO=>?_
     refine F7 (l:=g.aR) (by rw[oO.bu _ (by omega)];exact YK) (by have:=oO.le;omega) (by omega) λt H7 n7 qm=>⟨H7,_,Ext.refl qm.fresh (show n7<=n7+8 by omega),Xv bF L t a gx (4*(n3+1+2+6)) hU va k ra H7 n7 ?_ ?_ aH⟩
     ·rw[qm.bu _ (by have:=oO.le;omega),oO.bu _ (by omega)];exact g4
     ·rw[qm.bu _ (by have:=oO.le;omega),oO.bu _ (by omega)];exact i44
    have aaG:Ext H4 (n3+1+2+8) H5 n5:=(Ext.refl ei.fresh (by omega)).trans kT;have hma:sX g c bt i p.e a=(x6 c bt p.e a&&(g.aR.take i).any λt=>decide (a.f<t)):=rfl;rw[hma]at lL;generalize x6 c bt p.e a=kp at *;generalize((g.aR.take i).any λt=>decide (a.f<t))=dr at *;obtain⟨H6,n6,oO,zH⟩:∃H6 n6,Ext H4 (n3+1+2+8) H6 n6/\∀n,K3<=n->∀ops:List aJ,ops=[⟨some 74,.eM (.t 11),none,[]⟩,⟨some 75,.eM (.t 74),none,[]⟩,⟨some 76,.eM (.t 0),some (75,true),[]⟩,⟨some 77,.oY (.t 76),some (75,true),[]⟩,⟨some 78,.di 6 (.t 77),some (75,true),[]⟩,⟨some 79,.load false 1 (.t 78),some (75,true),[]⟩,⟨some 80,.eM (.t 7),some (75,true),[]⟩,⟨some 81,.eu 1 (.t 79) none (some (.t 80)),some (75,true),[]⟩,⟨some 82,.sk 199 [] [.t 10],some (75,true),[]⟩,⟨some 83,.nf (.c (.iv (.fn 143 []))) [.t 81,.t 82],some (75,true),[]⟩,⟨some 84,.pick (.t 75) (.t 83) (.c (.bI false)),none,[]⟩]->
      aS (one p1 n) (fH p1 p2 n) false ops [0,1,5,7,8,31,32,84] ⟨[(0,.ref aN 0 0 0),(1,.nI c),(5,.ref (4*nx) 0 0 0),(7,.nI i),(8,.nI bt),(10,.ref (4*(n3+1+2+6)) 0 0 0),(11,.bI kp),(31,.nI g.aQ.length),(32,.nI k)],H4,n3+1+2+8+34⟩ =
      some ⟨[(0,.ref aN 0 0 0),(1,.nI c),(5,.ref (4*nx) 0 0 0),(7,.nI i),(8,.nI bt),(31,.nI g.aQ.length),(32,.nI k),(84,.bI (kp&&dr))],H6,n6⟩:=by
     cases kp with
     |false=>
      refine⟨H4,n3+1+2+8+34+11,Ext.refl ei.fresh (by omega),λn hn ops ho=>?_⟩;subst ho;simp
     |true=>
      refine⟨H5,n5,aaG,λn hn ops ho=>?_⟩;subst ho;have cc:=fP n hn;have aaH:i<=g.aR.length:=by omega
      simp only[Nat.add_assoc]at cc;generalize X3:g.aR.map gk=es at *;simp[qD,YK,uk,aaH,cc,Nat.add_assoc]
    refine aI (K:=K3) (λn hn=>zH n hn _ rfl) ?_;refine ag rfl ?_;have Va:=xA.trans oO;cases YL:kp&&dr with
    |true=>
     rw[YL,Bool.true_or]at lL;rw[<-lL];simp only[if_true];refine aj ?_;exact ax ⟨(_,_,_),⟨rfl,Kg.trans (Va.up (show n6<=n6+2 by omega))⟩,rfl,rfl⟩
    |false=>
     rw[YL,Bool.false_or]at lL;simp only[Bool.false_eq_true,if_false];refine ak ?_;simp only[Ex.then,Ex.inBlock];refine aD (by simp[dX];rfl) ?_;exact⟨m - 1,by omega,k+1,_,H6,by omega,Va.up (show n6<=n6+2 by omega),lL,by simp[aP,an]⟩
   ·obtain rfl:k=g.aQ.length:=by omega
    refine bK ?_;refine af (ag (t:=false) rfl (aO ?_));simp only[Ex.then,Ex.inBlock,if_true];rw[List.drop_length,List.any_nil]at lL;rw[<-lL];refine aj ?_;exact ax ⟨(_,_,_),⟨by simp,Kg.trans (b8.up (show n3<=n3+1+1 by omega))⟩,rfl,rfl⟩
 obtain⟨⟨y,H',aW⟩,⟨rfl,h1⟩,h4⟩:=Ev.jn bF L.aaq rfl rfl _ key;exact⟨H',aW,h1,h4⟩
end
def nD (c:Int) (i:Int) (bt:Int) (d:Dv):Bool:=d.c==c&&(d.p==i+1&&decide (d.s<=bt))
def vo (g:Lg) (d:List Dv) (c i:Int) (p:Pb):Bool:=decide (0<ja g c p)&&!d.any (nD c i (ja g c p))
def um (g:Lg) (d:List Dv) (c:Int) (t:Nat):List (Int×Int):=match g.cQ[t]? with
 |some p=>if vo g d c t p=true then[(c,(t:Int)+1)] else[]
 |none=>[]
def gG (g:Lg) (d:List Dv) (c:Int):Nat->List (Int×Int)
 |0=>[]
 |t+1=>gG g d c t++um g d c t
def fT (g:Lg) (d:List Dv):Nat->List (Int×Int)
 |0=>[]
 |k+1=>fT g d k++gG g d k g.cQ.length
def ik (p:Int×Int):List AV:=[.iv (.int .i64 p.1),.iv (.int .i64 p.2)]
theorem GQ (g:Lg) (d:List Dv) (c:Int) (t:Nat):(um g d c t).length<=1:=by
 unfold um;split
 ·split<;>simp
 ·simp
theorem pO (g:Lg) (d:List Dv) (c:Int):∀t,(gG g d c t).length<=t
 |0=>by simp[gG]
 |t+1=>by
  unfold gG;have:=pO g d c t;have:=GQ g d c t;rw[List.length_append];omega
theorem rq (g:Lg) (d:List Dv):∀k,(fT g d k).length<=k*g.cQ.length
 |0=>by simp[fT]
 |k+1=>by
  unfold fT;have:=rq g d k;have:=pO g d k g.cQ.length;rw[List.length_append,Nat.succ_mul];omega
theorem QE.rn {e:Nat} {H:Hp} {n lo:Nat} {y:AV} {l:List (List AV)} (h:QE e H n y l) (hf:cr H n) (r:List AV) {gid slot n':Nat} (h1:4*n<=gid) (h2:n<=slot) (h3:gid<4*slot) (hn:slot<n') (hlen:l.length<=1000000) (oF:∀k o m w,y = .own k o m w->4*lo<=k) (sa:lo<=n) :
  ∃y' H4,(app e slot false y (.own gid 0 1 0)).run (ay.set H gid (.buf 0 e [r]))=some (y',H4)/\cr H4 n'/\QE e H4 n' y' (l++[r])/\(∀k o m w,y' = .own k o m w->4*lo<=k)/\(∀k,k<4*lo->get H4 k=get H k)/\
   (∀k ob,get H k=some ob->(∀v es,ob≠.buf v e es)->get H4 k=some ob):=by
 obtain⟨y',H4,p1,p2,p3,p4,p5⟩:=QE.Ba (e:=e) h hf r (g:=gid) (slot:=slot) (ar _ _ _) (λk hk=>aF _ _ (Ne.symm hk)) h1 h2 h3 (by omega);refine⟨y',H4,p1,λk hk=>p2 k (by omega),p3.mono (by omega) λ_ _=>rfl,λk o m w e=>?_,λk hk=>p4 k (by omega) λo m w e=>by have:=oF k o m w e;omega,λk ob hk cA=>?_⟩
 ·rcases p5 k o m w e with q | ⟨o,m,w,q⟩
  ·omega
  ·exact oF k o m w q
 ·have yw:k<4*n:=by
   rcases Nat.lt_or_ge k (4*n)with q | q
   ·exact q
   ·rw[hf k q]at hk;cases hk
  rw[p4 k yw (QE.xu (e:=e) h hk cA)];exact hk
section
variable {p1:Nat->Option ao.aA} {p2:Nat->Option aA}
theorem Xx (bF:bW p2) (L:jF p1 p2) (d:Dv) (c bt:Int) (i:Nat) (hi:i<=1000000) (bc bi bb:Nat) (H:Hp) (nx:Nat) (hf:cr H nx) (hc:get H bc=some (.cells [.nI c])) (pW:get H bi=some (.cells [.nI i])) (hb:get H bb=some (.cells [.nI bt])) :
  ∃H' aW,Ext H nx H' aW/\Ev p1 p2 197 [.agg (d.enc.map AV.iv),.ref bc 0 0 0,.ref bi 0 0 0,.ref bb 0 0 0] H nx (.bI (nD c i bt d),H',aW):=by
 have eJ:get H (4*nx)=none:=hf _ (by omega);have bC:∀{k:Nat} {ob:Ob},get H k=some ob->4*nx≠k:=λ{k ob} h e=>by rw[<-e,eJ]at h;cases h
 have dy:Ext H nx (ay.set H (4*nx) (.cells (d.enc.map AV.iv))) (nx+2):=(Ext.refl hf (by omega)).set (by omega) (by omega) _;have nJ:get (ay.set H (4*nx) (.cells (d.enc.map AV.iv))) bc=_:=(aF _ _ (bC hc)).trans hc;have rY:get (ay.set H (4*nx) (.cells (d.enc.map AV.iv))) bi=_:=(aF _ _ (bC pW)).trans pW;have nO:get (ay.set H (4*nx) (.cells (d.enc.map AV.iv))) bb=_:=(aF _ _ (bC hb)).trans hb;have hw:IntKind.i64.wrap ((i:Int)+1)=(i:Int)+1:=IntWalk.i64_in _ (by omega);refine⟨_,nx+2+18,dy.up (by omega),Ev.of bF L.aap rfl rfl ?_⟩;have vC:get (ay.set H (4*nx) (Ob.cells (d.enc.map AV.iv))) (4*nx)=some (.cells (d.enc.map AV.iv)):=ar _ _ _
 have aaI:d.enc.map AV.iv=[.nI d.c,.nI d.p,.nI d.s]:=rfl;generalize oW:ay.set H (4*nx) (Ob.cells (d.enc.map AV.iv))=H1 at *;refine au (s':=⟨[(1,.ref bc 0 0 0),(2,.ref bi 0 0 0),(3,.ref bb 0 0 0),(4,.ref (4*nx) 0 0 0)],H1,nx+2⟩) (by
  rw[<-oW];simp[eJ]) ?_
 refine af ?_;rw[aaI]at vC;refine aD (s':=⟨[(5,.bI (nD c i bt d))],H1,nx+2+18⟩) (by
  unfold nD;cases h1:d.c==c
  ·simp[vC,nJ,rY,nO,h1]
  ·cases h2:d.p==(i:Int)+1
   ·simp[vC,nJ,rY,nO,h1,h2,hw]
   ·simp[vC,nJ,rY,nO,h1,h2,hw]) ?_
 exact ax ⟨rfl,rfl⟩
def DR (H:Hp) (n:Nat) (y:AV) (d:List Dv):Prop:=y = .iv (.sl 3 (d.map Dv.enc))\/QE 3 H n y (d.map λv=>v.enc.map AV.iv)
theorem DR.mono {H H':Hp} {n n':Nat} {y:AV} {d:List Dv} (h:DR H n y d) (hE:Ext H n H' n'):DR H' n' y d:=h.imp id λq=>q.mono hE.le hE.bu
theorem Xy (bF:bW p2) (L:jF p1 p2) (d:List Dv) (hd:d.length<=1000) (c bt:Int) (i:Nat) (hi:i<=1000000) (bc bi bb:Nat) (H:Hp) (nx:Nat) (hf:cr H nx) (hc:get H bc=some (.cells [.nI c])) (pW:get H bi=some (.cells [.nI i])) (hb:get H bb=some (.cells [.nI bt])) (y:AV) (hy:DR H nx y d) :
  ∃H' aW,Ext H nx H' aW/\Ev p1 p2 139 [y,.dg 197 [] [.ref bc 0 0 0,.ref bi 0 0 0,.ref bb 0 0 0]] H nx (.bI (d.any (nD c i bt)),H',aW):=by
 have bC:∀{k:Nat} {ob:Ob},get H k=some ob->k<4*nx:=λ{k ob} h=>by
  rcases Nat.lt_or_ge k (4*nx)with h1 | h1
  ·exact h1
  ·rw[hf k h1]at h;cases h
 refine Kc (p1:=p1) (e:=3) (agg:=true) bF L.aao L.aan rfl rfl (by omega) hf λH2 n2 dH=>⟨λH3 n3 b8=>?_,197,_,rfl,λj a ha H3 n3 b8=>?_⟩
 ·have oI:=hy.mono (dH.trans b8);rcases oI with rfl | q
  ·simp[ay.len,M.run]
  ·have:=q.len;rw[List.length_map]at this;exact this
 have hE:=dH.trans b8;obtain⟨H4,n4,ei,oS⟩:=Xx (p1:=p1) bF L a c bt i hi bc bi bb H3 n3 b8.fresh (by rw[hE.bu _ (bC hc)];exact hc) (by rw[hE.bu _ (bC pW)];exact pW) (by rw[hE.bu _ (bC hb)];exact hb);have oI:=hy.mono hE;rcases oI with rfl | q
 ·have aH:(d.map Dv.enc)[j]?=some a.enc:=by rw[List.getElem?_map,ha];rfl
  refine⟨.iv (.ptr a.enc),.agg (a.enc.map AV.iv),?_,?_,H4,n4,ei,oS⟩
  ·generalize d.map Dv.enc=rows at *;simp[ay.dQ,idx,az,M.ok,M.bind,M.run,M.lift,aH]
  ·simp[ay.load,Dv.enc,az,M.ok,M.run,M.bind,ay.mk]
 ·have aH:(d.map λv=>v.enc.map AV.iv)[j]?=some (a.enc.map AV.iv):=by rw[List.getElem?_map,ha];rfl
  obtain⟨id,v,i1, -,YM,i4⟩:=q.at_ aH;have l7:j<(d.map λv=>v.enc.map AV.iv).length:=(List.getElem?_eq_some_iff.1 aH).1;refine⟨.ref id v j 0,.agg (a.enc.map AV.iv),?_,?_,H4,n4,ei,oS⟩
  ·rw[YM];clear aH;generalize(d.map λv=>v.enc.map AV.iv).length=R at *;simp[ay.dQ,idx,az,M.ok,M.bind,M.look,M.run,i4,l7]
  ·clear l7 YM;generalize(d.map λv=>v.enc.map AV.iv)=rows at *;simp only[Dv.enc,List.map_cons,List.map_nil]at aH ⊢;simp[ay.load,az,M.look,M.run,M.lift,i4,bB,aH,M.ok,ay.mk,M.bind]
end
structure FRM (fr:Fr) (rv yb:AV) (aN cb:Nat) (N k W t:Int):Prop where
 g2:get fr 2=some rv
 g6:get fr 6=some yb
 g7:get fr 7=some (.ref aN 0 0 0)
 g8:get fr 8=some (.ref cb 0 0 0)
 g17:get fr 17=some (.iv (.int .i64 N))
 g18:get fr 18=some (.iv (.int .i64 k))
 g25:get fr 25=some (.iv (.int .i64 W))
 g26:get fr 26=some (.iv (.int .i64 t))
def Rr:IC:=match E8.body with
 |.seq _ (.seq _ (.seq (.seq _ (.block _ (.loop _ (.seq _ (.seq _ (.seq (.block _ (.seq _ (.seq (.seq _ (.block _ (.loop _ (.seq _ (.seq _ (.seq (.block _ c) _)))))) _))) _)))))) _))=>c
 |.seq _ (.seq _ (.seq (.seq _ (.block _ (.loop _ (.seq _ (.seq _ (.seq (.block _ (.seq _ (.seq _ (.block _ (.loop _ (.seq _ (.seq _ (.seq (.block _ c) _)))))))) _)))))) _))=>c
 |_=>.skip
section
variable {p1:Nat->Option ao.aA} {p2:Nat->Option aA}
set_option maxHeartbeats 8000000 in
theorem OE (bF:bW p2) (L:jF p1 p2) {lo aN:Nat} {x:Hd} {g:Lg} {H1:Hp} {n1:Nat} {ya yp yd:AV} {ra rp:List (List AV)} (G:LG lo H1 n1 aN x g ya yp yd ra rp) (iT:g.aQ.length<=1000) (xv:g.cQ.length<=1000) (Bd:g.aR.length<=1000)
  (d:List Dv) (hd:d.length<=1000) (c:Int) (t:Nat) (p:Pb) (oX:g.cQ[t]?=some p) (l:List (Int×Int)) (pU:l.length<=1000000)
  (H2:Hp) (n2:Nat) (hE:Ext H1 n1 H2 n2) (yb:AV) (kY:QE 2 H2 n2 yb (l.map ik)) (km:∀k o m w,yb = .own k o m w->4*n1<=k) (cb:Nat) (Vb:get H2 cb=some (.cells [.nI c])) (N k W:Int) (yr:AV) (tE:DR H1 n1 yr d) :
  Wp p1 p2 Rr ⟨[(2,yr),(6,yb),(7,.ref aN 0 0 0),(8,.ref cb 0 0 0),(17,.nI N),(18,.nI k),(25,.nI W),(26,.nI t),(27,.bI true)],H2,n2⟩
   (λe st=>e = .norm/\∃kB,FRM st.fr yr kB aN cb N k W t/\Ext H1 n1 st.hp st.nx/\QE 2 st.hp st.nx kB ((l++(if vo g d c t p=true then[(c,(t:Int)+1)] else[])).map ik)/\(∀k o m w,kB = .own k o m w->4*n1<=k)/\get st.hp cb=some (.cells [.nI c])):=by
 have OB:=hE.le;have tF:t<g.cQ.length:=(List.getElem?_eq_some_iff.1 oX).1;have Xz:cb<4*n2:=by
  rcases Nat.lt_or_ge cb (4*n2)with h | h
  ·exact h
  ·rw[hE.fresh _ h]at Vb;cases Vb
 have dX:IntKind.i64.wrap ((t:Int)+1)=(t:Int)+1:=IntWalk.i64_in _ (by omega);have eJ:get H2 (4*(n2+1))=none:=hE.fresh _ (by omega);have b8:Ext H2 n2 (ay.set (ay.set H2 (4*(n2+1)) (.cells [.nI 0])) (4*(n2+1)) (.cells [.nI t])) (n2+3):=
  ((Ext.refl hE.fresh (show n2<=n2+3 by omega)).set (by omega) (by omega) _).set (by omega) (by omega) _
 have oN:get (ay.set (ay.set H2 (4*(n2+1)) (Ob.cells [.nI 0])) (4*(n2+1)) (Ob.cells [.nI t])) (4*(n2+1))=some (.cells [.nI t]):=ar _ _ _;generalize uc:(ay.set (ay.set H2 (4*(n2+1)) (Ob.cells [.nI 0])) (4*(n2+1)) (Ob.cells [.nI t]))=H3 at b8 oN;have jP:=hE.trans b8;have G3:=G.ext jP;have OF:get H3 cb=some (.cells [.nI c]):=by rw[b8.bu _ Xz];exact Vb
 have zG:QE 2 H3 (n2+3) yb (l.map ik):=kY.mono (by omega) b8.bu;have aH:=G3.pl.2 t p oX;obtain⟨iB,vp,i1, -,hyp,i4⟩:=G3.p.at_ aH;have py:=G3.pl.1;rw[py]at hyp;obtain⟨H4,n4,ei,K1,ct⟩:=Xw (p1:=p1) bF L (G3.ext (Ext.refl b8.fresh (show n2+3<=n2+3+11 by omega))) iT Bd (λk hk=>b8.fresh k (by omega)) c p iB vp t rp (by omega) i4 aH;have abK:=ei.le;have aaJ:get H3 (4*(n2+3+9))=none:=b8.fresh _ (by omega);have YN:get H4 (4*(n2+3+9))=none:=by rw[ei.bu _ (by omega)];exact aaJ
 have aaK:Ext H3 (n2+3) H4 n4:=(Ext.refl b8.fresh (show n2+3<=n2+3+11 by omega)).trans ei;have mS:Ext H3 (n2+3) (ay.set (ay.set H4 (4*(n2+3+9)) (.cells [.nI 0])) (4*(n2+3+9)) (.cells [.nI (ja g c p)])) n4:=(aaK.set (by omega) (by omega) _).set (by omega) (by omega) _;have uj:get (ay.set (ay.set H4 (4*(n2+3+9)) (Ob.cells [.nI 0])) (4*(n2+3+9)) (Ob.cells [.nI (ja g c p)])) (4*(n2+3+9))=some (.cells [.nI (ja g c p)]):=ar _ _ _;generalize U3:ay.set (ay.set H4 (4*(n2+3+9)) (Ob.cells [.nI 0])) (4*(n2+3+9)) (Ob.cells [.nI (ja g c p)])=H5 at mS uj;have Ki:=jP.trans mS
 have Vc:get H5 cb=some (.cells [.nI c]):=by rw[mS.bu _ (by omega)];exact OF
 have Vd:get H5 (4*(n2+1))=some (.cells [.nI t]):=by rw[mS.bu _ (by omega)];exact oN
 have Ca:QE 2 H5 n4 yb (l.map ik):=zG.mono (by omega) mS.bu;have qC:=G3.at_;rw[gT,hyp]at qC;have abi:=G3.li;refine au (s':=⟨_,H3,n2+3⟩) (by
  rw[<-uc];simp[eJ];rfl) ?_
 refine af ?_;have e1:¬cb=4*(n2+3+9):=by omega
 have e2:¬aN=4*(n2+3+9):=by intro e;have:=G.li;omega
 have e3:¬iB=4*(n2+3+9):=by omega
 have e4:¬4*(n2+1)=4*(n2+3+9):=by omega
 refine aI (K:=K1) (s':=⟨[(2,yr),(6,yb),(7,.ref aN 0 0 0),(8,.ref cb 0 0 0),(9,.ref (4*(n2+1)) 0 0 0),(10,.ref (4*(n2+3+9)) 0 0 0),(17,.nI N),(18,.nI k),(25,.nI W),(26,.nI t)],H5,n4⟩) (λn hn=>by
  have cc:=ct n hn;rw[<-U3];generalize ja g c p=mu at *;generalize Ve:n2+3+9=aid at *;simp[bn,bH,OF,oN,qC,i4,tF,cc,YN,Ve];exact(by unfold dw;rw[Bool.or_eq_true];right;simp[cL,dC,c9,meets,M.bN,M.bind,M.ok,M.lift,mk,bB,OF,oN,qC,i4,tF,cc,YN,Ve,e1,e2,e3,e4,Ne.symm e1,Ne.symm e2,Ne.symm e3,Ne.symm e4])) ?_
 refine au (by simp;rfl) ?_;refine af ?_;obtain⟨H6,n6,oO,K2,cZ⟩:=Xy (p1:=p1) bF L d hd c (ja g c p) t (by omega) cb (4*(n2+1)) (4*(n2+3+9)) H5 (n4+2+8) (λq hq=>mS.fresh q (by omega)) Vc Vd uj yr (tE.mono (Ki.trans (Ext.refl mS.fresh (show n4<=n4+2+8 by omega))));have Vf:vo g d c t p=(decide (0<ja g c p)&&!d.any (nD c t (ja g c p))):=rfl;rw[Vf];generalize ja g c p=mu at *;generalize d.any (nD c t mu)=C7 at *;obtain⟨H7,n7,qm,zH⟩:∃H7 n7,Ext H5 (n4+2) H7 n7/\∀n,K2<=n->∀ops:List aJ,ops=[⟨some 39,.load false 1 (.t 10),none,[]⟩,⟨some 40,.bin .gtr 0 (.t 39) (.c (.nI (0))),none,[]⟩,⟨some 41,.eM (.t 40),none,[]⟩,⟨some 42,.eM (.t 2),some (41,true),[]⟩,⟨some 43,.eM (.t 11),some (41,true),[]⟩,⟨some 44,.nf (.c (.iv (.fn 139 []))) [.t 42,.t 43],some (41,true),[]⟩,⟨some 45,.un .not (.t 44),some (41,true),[]⟩,⟨some 46,.pick (.t 41) (.t 45) (.c (.bI false)),none,[]⟩]->
   aS (one p1 n) (fH p1 p2 n) false ops [2,6,7,8,9,17,18,25,26,46] ⟨[(2,yr),(6,yb),(7,.ref aN 0 0 0),(8,.ref cb 0 0 0),(9,.ref (4*(n2+1)) 0 0 0),(10,.ref (4*(n2+3+9)) 0 0 0),(11,.dg 197 [] [.ref cb 0 0 0,.ref (4*(n2+1)) 0 0 0,.ref (4*(n2+3+9)) 0 0 0]),(17,.nI N),(18,.nI k),(25,.nI W),(26,.nI t)],H5,n4+2⟩ =
   some ⟨[(2,yr),(6,yb),(7,.ref aN 0 0 0),(8,.ref cb 0 0 0),(9,.ref (4*(n2+1)) 0 0 0),(17,.nI N),(18,.nI k),(25,.nI W),(26,.nI t),(46,.bI (decide (0<mu)&&!C7))],H7,n7⟩:=by
  by_cases YO:0<mu
  ·refine⟨H6,n6,(Ext.refl (λq hq=>mS.fresh q (by omega)) (show n4+2<=n4+2+8 by omega)).trans oO,λn hn ops ho=>?_⟩;subst ho;have cc:=cZ n hn;simp only[Nat.add_assoc]at cc uj;simp[uj,YO,cc,Nat.add_assoc]
  ·refine⟨H5,n4+2+8,Ext.refl (λq hq=>mS.fresh q (by omega)) (by omega),λn hn ops ho=>?_⟩;subst ho;simp only[Nat.add_assoc]at uj;simp[uj,YO,Nat.add_assoc]
 refine aI (K:=K2) (λn hn=>zH n hn _ rfl) ?_;refine ag rfl ?_;have aaC:=qm.le;have Ga:Ext H5 n4 H7 n7:=(Ext.refl mS.fresh (show n4<=n4+2 by omega)).trans qm;have F5:=Ki.trans Ga;have aaL:cb<4*n4:=by omega
 have OG:get H7 cb=some (.cells [.nI c]):=by rw[Ga.bu _ aaL];exact Vc
 have aaM:get H7 (4*(n2+1))=some (.cells [.nI t]):=by rw[Ga.bu _ (by omega)];exact Vd
 have F6:QE 2 H7 n7 yb (l.map ik):=Ca.mono Ga.le Ga.bu;cases hb:decide (0<mu)&&!C7 with
 |false=>
  simp only[Bool.false_eq_true,if_false];refine ak ?_;exact⟨rfl,yb,⟨rfl,rfl,rfl,rfl,rfl,rfl,rfl,rfl⟩,F5,by rw[List.append_nil];exact F6,km,OG⟩
 |true=>
  simp only[if_true];have kA:get H7 (4*(n7+5))=none:=qm.fresh _ (by omega);obtain⟨y',H8,r1,r2,r3,r4,r5,r6⟩:=F6.rn qm.fresh [.nI c,.nI ((t:Int)+1)] (lo:=n1) (gid:=4*(n7+5)) (slot:=n7+6) (n':=n7+8) (by omega) (by omega) (by omega) (by omega) (by rw[List.length_map];omega) km (by omega);refine aD (by
   simp[OG,aaM,dX,kA,r1,bO,cz];rfl) ?_
  refine⟨rfl,y',⟨rfl,rfl,rfl,rfl,rfl,rfl,rfl,rfl⟩,⟨by show n1<=n7+8;omega,r2,λq hq=>(r5 q hq).trans (F5.bu q hq)⟩,?_,r4,r6 _ _ OG λv es h=>by cases h⟩;rw[List.map_append];exact r3
end
section
variable {p1:Nat->Option ao.aA} {p2:Nat->Option aA}
set_option maxHeartbeats 4000000 in
theorem Vg (bF:bW p2) (L:jF p1 p2) (x:Hd) (hp:x.ps.length<=100) (hh:x.hs.length<=100) (l:List ao.Op) (hl:l.length<=1000) (cg:∀o ∈ l,o.ok) (d:List Dv) (hd:d.length<=1000) (H:Hp) (nx:Nat) (hf:cr H nx) (yr:AV) (tE:DR H nx yr d) :
  ∃H' aW y,Ext H nx H' aW/\QE 2 H' aW y ((fT (eO x l) d x.hs.length).map ik)/\Ev p1 p2 153 [.agg (cj x),.iv (.sl 24 (l.map ao.Op.enc)),yr] H nx (y,H',aW):=by
 have eJ:get H (4*nx)=none:=hf _ (by omega);have dy:Ext H nx (ay.set H (4*nx) (.cells (cj x))) (nx+2):=(Ext.refl hf (by omega)).set (by omega) (by omega) _;have hb:get (ay.set H (4*nx) (Ob.cells (cj x))) (4*nx)=some (.cells (cj x)):=ar _ _ _;generalize C4:ay.set H (4*nx) (Ob.cells (cj x))=H0 at dy hb;obtain⟨H1,n1,aN,ya,yp,yd,ra,rp,dH,G,K1,ct⟩:=Ql (p1:=p1) bF L x hp hh l hl cg H0 (nx+2+4) (λk hk=>dy.fresh k (by omega));have qB:Ext H nx H1 n1:=(dy.up (show nx+2<=nx+2+4 by omega)).trans dH;have Ia:=sW x l;generalize eO x l=g at *;have Kh:=dH.le;have nO:get H1 (4*nx)=some (.cells (cj x)):=by rw[dH.bu _ (by omega)];exact hb
 have py:=G.pl.1;have key:Wp p1 p2 E8.body ⟨params [.agg (cj x),.iv (.sl 24 (l.map ao.Op.enc)),yr] 0,H,nx⟩ (λe st=>∃r:AV×Hp×Nat,(Ext H nx r.2.1 r.2.2/\QE 2 r.2.1 r.2.2 r.1 ((fT g d x.hs.length).map ik))/\Fin E8.res r e st):=by
  generalize l.map ao.Op.enc=cH at *;refine au (s':=⟨[(1,.iv (.sl 24 cH)),(2,yr),(3,.ref (4*nx) 0 0 0),(6,.iv (.aV 2))],H0,nx+2⟩) (by
   rw[<-C4];simp[eJ]) ?_
  refine cq (K:=K1) (λn hn=>by
   have c:=ct n hn;simp[hb,iH,jE,c];rfl) ?_
  refine af (af ?_);have Bg:=nO;rw[gT]at Bg;refine aD (by
   simp[Bg];rfl) ?_
  refine aq ?_;refine b7 (λm s1=>∃(k n2:Nat) (H2:Hp) (yb:AV),k+m=x.hs.length/\Ext H1 n1 H2 n2/\QE 2 H2 n2 yb ((fT g d k).map ik)/\(∀q o m w,yb = .own q o m w->4*n1<=q)/\
   s1=⟨[(2,yr),(6,yb),(7,.ref aN 0 0 0),(17,.nI x.hs.length),(18,.nI k)],H2,n2⟩) (m:=x.hs.length)
   ⟨0,n1+4,H1,.iv (.aV 2),by omega,Ext.refl dH.fresh (by omega),QE.nil _ _ _,(λq o m w h=>by cases h),by simp[aP,an]⟩ ?_
  rintro m s1 ⟨k,n2,H2,yb,C6,b8,kY,km,rfl⟩;refine af ?_;by_cases hk:k<x.hs.length
  ·have dX:IntKind.i64.wrap ((k:Int)+1)=(k:Int)+1:=IntWalk.i64_in _ (by omega);have OD:=b8.le;have hmt:=rq g d k;have hmul:k*g.cQ.length<=100*1000:=Nat.mul_le_mul (by omega) (by omega);have hfc:get H2 (4*(n2+1+1))=none:=b8.fresh _ (by omega);have ei:Ext H1 n1 (ay.set (ay.set H2 (4*(n2+1+1)) (.cells [.nI 0])) (4*(n2+1+1)) (.cells [.nI k])) (n2+1+3):=
    ((b8.up (show n2<=n2+1+3 by omega)).set (by omega) (by omega) _).set (by omega) (by omega) _
   have xA:Ext H2 n2 (ay.set (ay.set H2 (4*(n2+1+1)) (.cells [.nI 0])) (4*(n2+1+1)) (.cells [.nI k])) (n2+1+3):=
    ((Ext.refl b8.fresh (show n2<=n2+1+3 by omega)).set (by omega) (by omega) _).set (by omega) (by omega) _
   have g4:get (ay.set (ay.set H2 (4*(n2+1+1)) (Ob.cells [.nI 0])) (4*(n2+1+1)) (Ob.cells [.nI k])) (4*(n2+1+1))=some (.cells [.nI k]):=ar _ _ _;generalize U9:ay.set (ay.set H2 (4*(n2+1+1)) (Ob.cells [.nI 0])) (4*(n2+1+1)) (Ob.cells [.nI k])=H4 at ei xA g4;have Ke:QE 2 H4 (n2+1+3) yb ((fT g d k).map ik):=kY.mono (by omega) xA.bu;have qD:=(G.ext ei).at_;have tr:=(G.ext ei).p.len;rw[gT]at qD;rw[py]at tr;refine aD (by simp[hk];rfl) ?_;refine af (ag (t:=true) rfl (ak (af (aq (au (s':=⟨_,H4,n2+1+3⟩) (by
    rw[<-U9];simp[hfc];rfl) ?_)))))
   refine au (by
    simp[-len,qD,tr];rfl) ?_
   refine aq ?_;refine b7 (λm1 s1=>∃(t n3:Nat) (H3:Hp) (y3:AV),t+m1=g.cQ.length/\Ext H1 n1 H3 n3/\QE 2 H3 n3 y3 ((fT g d k++gG g d k t).map ik)/\(∀q o m w,y3 = .own q o m w->4*n1<=q)/\get H3 (4*(n2+1+1))=some (.cells [.nI k])/\
    s1=⟨[(2,yr),(6,y3),(7,.ref aN 0 0 0),(8,.ref (4*(n2+1+1)) 0 0 0),(17,.nI x.hs.length),(18,.nI k),(25,.nI g.cQ.length),(26,.nI t)],H3,n3⟩) (m:=g.cQ.length)
    ⟨0,n2+1+3+6,H4,yb,by omega,ei.up (by omega),by rw[gG,List.append_nil];exact Ke.mono (by omega) λ_ _=>rfl,km,g4,by simp[aP,an]⟩ ?_
   rintro m1 s1 ⟨t,n3,H3,y3,ML,kT,oI,Gb,g3,rfl⟩;refine af ?_;by_cases ht:t<g.cQ.length
   ·obtain⟨p,oX⟩:∃p,g.cQ[t]?=some p:=⟨_,List.getElem?_eq_getElem ht⟩;have tX:IntKind.i64.wrap ((t:Int)+1)=(t:Int)+1:=IntWalk.i64_in _ (by omega);have hmr:=pO g d k t;have da:=OE (p1:=p1) bF L G (by omega) (by omega) (by omega) d hd k t p oX (fT g d k++gG g d k t) (by rw[List.length_append];omega) H3 (n3+1) (kT.up (by omega)) y3 (oI.mono (by omega) λ_ _=>rfl) Gb (4*(n2+1+1)) g3 x.hs.length k g.cQ.length yr (tE.mono qB);have b9:fT g d k++gG g d k (t+1)=(fT g d k++gG g d k t)++(if vo g d k t p=true then[((k:Int),(t:Int)+1)] else[]):=by
     rw[gG,um,oX,List.append_assoc]
    rw[<-b9]at da;refine aD (by simp[ht];rfl) ?_;refine af (ag (t:=true) rfl (ak (af (aq ?_))));refine Wp.mono da ?_;rintro e ⟨fr,H6,n6⟩ ⟨rfl,y6,⟨f2,f6,f7,f8,f17,f18,f25,f26⟩,b1,b2,b3,b4⟩;simp only[]at f2 f6 f7 f8 f17 f18 f25 f26 b1 b2 b3 b4;simp only[Ex.then,Ex.inBlock];refine aD (by
     simp[bU,f2,f6,f7,f8,f17,f18,f25,f26,tX];rfl) ?_
    exact⟨m1 - 1,by omega,t+1,n6+2,H6,y6,by omega,b1.up (by omega),b2.mono (by omega) λ_ _=>rfl,b3,b4,by simp[aP,an]⟩
   ·obtain rfl:t=g.cQ.length:=by omega
    refine bK ?_;refine af (ag (t:=false) rfl (aO ?_));simp only[Ex.then,Ex.inBlock,if_true];refine aD (by simp[dX];rfl) ?_;exact⟨m - 1,by omega,k+1,_,H3,y3,by omega,kT.up (show n3<=n3+1+2 by omega),by rw[fT];exact oI.mono (show n3<=n3+1+2 by omega) λ_ _=>rfl,Gb,by simp[aP,an]⟩
  ·obtain rfl:k=x.hs.length:=by omega
   refine bK ?_;refine af (ag (t:=false) rfl (aO ?_));simp only[Ex.then,Ex.inBlock,if_true];refine aj ?_;exact ax ⟨(yb,H2,n2+1+2),⟨qB.trans (b8.up (show n2<=n2+1+2 by omega)),kY.mono (show n2<=n2+1+2 by omega) λ_ _=>rfl⟩,rfl,rfl⟩
 obtain⟨⟨y,H',aW⟩,⟨h1,h2⟩,h4⟩:=Ev.jn bF L.aar rfl rfl _ key;exact⟨H',aW,y,h1,h2,h4⟩
theorem XA (bF:bW p2) (L:jF p1 p2) (x:Hd) (hp:x.ps.length<=100) (hh:x.hs.length<=100) (l:List ao.Op) (hl:l.length<=1000) (cg:∀o ∈ l,o.ok) (d:List Dv) (hd:d.length<=1000) (H:Hp) (nx:Nat) (hf:cr H nx) :
  ∃H' aW y,Ext H nx H' aW/\QE 2 H' aW y ((fT (eO x l) d x.hs.length).map ik)/\Ev p1 p2 153 [.agg (cj x),.iv (.sl 24 (l.map ao.Op.enc)),.iv (.sl 3 (d.map Dv.enc))] H nx (y,H',aW):=Vg bF L x hp hh l hl cg d hd H nx hf _ (.inl rfl)
end
def Gc (h:Hd) (l:List ao.Op) (a b:Nat):Bool:=tm h l&&(decide (a<=100)&&decide (b<=100))
section
variable {p1:Nat->Option ao.aA} {p2:Nat->Option aA}
theorem OH (OI:p1 171=some ao.I3) (a b:List Int) (ha:a.length<=1000):∃K,∀m,K<=m->∀(H:Hp) (n n':Nat) (y z:AV),QI H n y a->QI H n' z b->(dF (one p1 m) (.iv (.fn 171 [])) [y,z]).run H=some (.bI (a==b),H):=by
 obtain⟨K,hK⟩:=Up (prog:=p1) OI a b (by unfold maxLen;omega);refine⟨K,λm hm H n n' y z hy hz=>?_⟩;have e1:(one p1 m 171 [.iv (.sl 1 (a.map fQ)),.iv (.sl 1 (b.map fQ))] []).bind shut=some (.bI (a==b)):=hK m hm;have q1:=hy.HT;have q2:=hz.HT;generalize(a==b)=q at *;simp[dF,callee,az,M.lift,M.run,M.aG,q1,q2,e1,kX,ks,M.ok,flat,ew,eI,eZ,M.bind]
structure Vh (p1:Nat->Option ao.aA):Prop where
 Fx:p1 27=some ao.GY
 qv:p1 169=some ao.vU
 qw:p1 170=some ao.vV
 FF:p1 204=some ao.DT
 N8:p1 203=some ao.IY
 N9:p1 202=some ao.I4
 aaN:p1 201=some ao.Nl
 OI:p1 171=some ao.I3
theorem Vi (bF:bW p2) (L:jF p1 p2) (W:Vh p1) (x:Hd) (l:List ao.Op) (hl:l.length<=maxLen) (cg:∀o ∈ l,o.ok) (yd yc:AV) (a b:Nat) (iJ:∀H,(ay.len false yd).run H=some (.nI a,H)) (kY:∀H,(ay.len false yc).run H=some (.nI b,H)) (H:Hp) (nx:Nat) (eJ:get H (4*nx)=none) :
  Ev p1 p2 159 [.agg (cj x),.iv (.sl 24 (l.map ao.Op.enc)),yd,yc] H nx (.bI (Gc x l a b),ay.set H (4*nx) (.cells (cj x)),nx+16):=by
 obtain⟨K,hK⟩:=Q7 W.Fx W.qv W.qw W.FF W.N8 W.N9 W.aaN x l hl λo ho=>(cg o ho).x
 refine Ev.of bF L.aas rfl rfl ?_;have hg:get (ay.set H (4*nx) (Ob.cells (cj x))) (4*nx)=some (.cells (cj x)):=ar _ _ _;generalize oW:ay.set H (4*nx) (Ob.cells (cj x))=H1 at hg;have iN:∀m,K<=m->(dF (one p1 m) (.iv (.fn 201 [])) [.agg (cj x),.iv (.sl 24 (l.map ao.Op.enc))]).run H1=some (.bI (tm x l),H1):=λm hm=>by
  have e1:(one p1 m 201 [.agg (x.enc.map ao.AV.iv),.iv (.sl 24 (l.map ao.Op.enc))] []).bind shut=some (.bI (tm x l)):=hK m hm;have hz:bZ false (.agg (cj x)) = .ret (.agg (x.enc.map ao.AV.iv)):=by
   unfold bZ;simp only[];rw[FY];rfl
  have FX:bZ false (.iv (.sl 24 (l.map ao.Op.enc))) = .ret (.iv (.sl 24 (l.map ao.Op.enc))):=rfl;generalize tm x l=q at *;simp[dF,callee,az,M.lift,M.run,M.aG,hz,FX,e1,kX,ks,M.ok,flat,ew,eI,eZ,M.bind]
 unfold Gc;generalize tm x l=q at *;generalize l.map ao.Op.enc=cH at *;refine au (s':=⟨[(1,.iv (.sl 24 cH)),(2,yd),(3,yc),(4,.ref (4*nx) 0 0 0)],H1,nx+2⟩) (by
  rw[<-oW];simp[eJ]) ?_
 refine cq (K:=K) (s':=⟨[(8,.bI (q&&(decide (a<=100)&&decide (b<=100))))],H1,nx+16⟩) (λn hn=>by
  have c:=iN n hn;have h1:decide ((a:Int)<=100)=decide (a<=100):=decide_eq_decide.2 (by omega);have h2:decide ((b:Int)<=100)=decide (b<=100):=decide_eq_decide.2 (by omega);cases q
  ·simp[-len,hg,iH,jE,c]
  ·cases h3:decide (a<=100)<;>simp[-len,iJ,kY,hg,iH,jE,c,h1,h2,h3]) ?_
 exact ax ⟨rfl,rfl⟩
end
end ay
namespace ay
open Go ao
def below:Tr Ob->Nat->Nat->Nat->Bool
 |.nil,_,_,_=>true
 |.node v l r,a,c,b=>(v.isNone||decide (c<b))&&(below l (2*a) (a+c) b&&below r (2*a) (2*a+c) b)
theorem vq:∀(t:Tr Ob) (a c b:Nat),below t a c b=true->∀k,b<=a*k+c->t.look k=none
 |.nil,a,c,b,_,k,_=>Tr.look_nil k
 |.node v l r,a,c,b,h,k,hk=>by
  simp only[below,Bool.and_eq_true,Bool.or_eq_true,decide_eq_true_eq,Option.isNone_iff_eq_none]at h;obtain⟨h1,h2,h3⟩:=h;cases k with
  |zero=>
   rcases h1 with h1 | h1
   ·exact h1
   ·simp at hk;omega
  |succ k=>
   have hd:=Nat.div_add_mod k 2;rw[Tr.look];split
   ·rename_i he;refine vq l _ _ b h2 _ ?_;have:a*(k+1)=2*a*(k / 2)+a:=by
     have:k=2*(k / 2):=by omega
     rw[Nat.mul_add,Nat.mul_one]
     conv=>lhs;rw[this]
     rw[<-Nat.mul_assoc,Nat.mul_comm a 2]
    omega
   ·rename_i he;refine vq r _ _ b h3 _ ?_;have:a*(k+1)=2*a*(k / 2)+2*a:=by
     have:k=2*(k / 2)+1:=by omega
     rw[Nat.mul_add,Nat.mul_one]
     conv=>lhs;rw[this]
     rw[Nat.mul_add,<-Nat.mul_assoc,Nat.mul_comm a 2,Nat.mul_one];omega
    omega
theorem GR {t:Hp} {n:Nat} (h:below t 1 0 (4*n)=true):cr t n:=λk hk=>vq t 1 0 (4*n) h k (by omega)
section
end
end ay
namespace ay
open Go ao
attribute [local simp] aS Option.map_some a7 step cw fJ bp az M.aG M.run M.ok M.fresh M.write M.look M.lift bT ev aP dV an dT dq ar bin fX cU db mk params bh load bB di ep dQ dn dB idx len valid eu ea bound store bl un callee Option.bind_some M.bind cz
section
variable {p1:Nat->Option ao.aA} {p2:Nat->Option aA}
def Bh (s:Nat) (p1:Nat->Option ao.aA) (p2:Nat->Option aA) (K:Nat):Bool:=
 match fH p1 p2 K 158 [] .nil s with
 |some (.iv (.bool true),h,n)=>below h 1 0 (4*n)&&(get h 4).isNone&&Nat.ble s n&&(match fH p1 p2 K 158 [] h (n+18)with
  |some (.iv (.bool true),h2,_)=>(get h2 4).isNone&&(get h2 (4*n)).isNone
  |_=>false)
 |_=>false
theorem GS {s K:Nat} (ht:Bh s p1 p2 K=true):∃h n h2 n2,fH p1 p2 K 158 [] .nil s=some (.bI true,h,n)/\cr h n/\get h 4=none/\s<=n/\fH p1 p2 K 158 [] h (n+18)=some (.bI true,h2,n2)/\get h2 4=none/\get h2 (4*n)=none:=by
 unfold Bh at ht;split at ht
 ·rename_i h n e;simp only[Bool.and_eq_true,Option.isNone_iff_eq_none,Nat.ble_eq]at ht;obtain⟨⟨⟨h1,h4⟩,YQ⟩,h3⟩:=ht;split at h3
  ·rename_i h2 n2 e2;simp only[Bool.and_eq_true,Option.isNone_iff_eq_none]at h3;exact⟨h,n,h2,n2,e,GR h1,h4,YQ,e2,h3.1,h3.2⟩
  ·cases h3
 ·cases ht
theorem yJ (bF:bW p2) (hm:∀n,ka (fH p1 p2 n)) {K:Nat} {H h:Hp} {nx n:Nat} {r:AV} (e:fH p1 p2 K 158 [] H nx=some (r,h,n)) (qs:List (Nat×Ob)) (hq:lC qs h):Ev p1 p2 158 [] (dL qs H) nx (r,dL qs h,n):=
 Ev.at bF ((hm K _ _ _ _ _ _ _ e).2 qs hq)
theorem OJ {x:Hd} {l:List ao.Op} {a b:Nat} (h:Gc x l a b=true):x.ps.length<=100/\x.hs.length<=100/\l.length<=120/\a<=100/\b<=100:=by
 unfold Gc tm Hd.oB at h;simp only[Bool.and_eq_true,decide_eq_true_eq]at h;omega
end
end ay
namespace ay
open Go ao
theorem OK {r:List IV} (h:df [.sl [.int .i64],.sl [.int .i64],.int .i64,.int .u64] r):∃x:Hd,r=x.enc:=by
 obtain⟨a,_,rfl,ha,h⟩:=h.one;obtain⟨b,_,rfl,hb,h⟩:=h.one;obtain⟨c,_,rfl,hc,h⟩:=h.one;obtain⟨d,_,rfl,hd,h⟩:=h.one;obtain rfl:=h.none;obtain⟨ra,rfl, -,qb⟩:=xg ha;obtain⟨rb,rfl, -,lY⟩:=xg hb;obtain⟨n,rfl, -⟩:=gF hc;obtain⟨m,rfl, -⟩:=gF hd;have key:∀l:List (List IV),(∀r ∈ l,df [.int .i64] r)->∃q:List Int,l=q.map fQ:=by
  intro l
  induction l with
  |nil=>exact λ_=>⟨[],rfl⟩
  |cons r l ih=>
   intro hl;obtain⟨q,rfl⟩:=ih λr hr=>hl r (List.mem_cons_of_mem _ hr)
   obtain⟨k,rfl, -⟩:=Rg (hl r (List.mem_cons_self ..));exact⟨k::q,rfl⟩
 obtain⟨p,rfl⟩:=key ra qb;obtain⟨q,rfl⟩:=key rb lY;exact⟨⟨p,q,n,m⟩,rfl⟩
theorem Vj {x:AV} (h:xV true Oj x):∃q:Hd,x = .agg (cj q):=by
 obtain⟨xs,h,rfl⟩:=h;obtain⟨q,rfl⟩:=OK h;exact⟨q,rfl⟩
theorem Gd {α:Type} {enc:α->List IV} {ok:α->Prop} {ss:List Sh} (hf:∀r,df ss r->∃a,r=enc a/\ok a):∀l:List (List IV),(∀r ∈ l,df ss r)->∃q:List α,l=q.map enc/\∀a ∈ q,ok a
 |[],_=>⟨[],rfl,λa h=>by cases h⟩
 |r::l,h=>by
  obtain⟨a,rfl,ha⟩:=hf r (h r (List.mem_cons_self ..));obtain⟨q,rfl,hq⟩:=Gd hf l λr hr=>h r (List.mem_cons_of_mem _ hr)
  refine⟨a::q,rfl,λb hb=>?_⟩;rcases List.mem_cons.1 hb with rfl | hb
  ·exact ha
  ·exact hq b hb
theorem Ge {α:Type} {enc:α->List IV} {ok:α->Prop} {ss:List Sh} (hf:∀r,df ss r->∃a,r=enc a/\ok a) {x:AV} (h:xV false [.sl ss] x):∃q:List α,x = .iv (.sl ss.length (q.map enc))/\q.length<=maxLen/\∀a ∈ q,ok a:=by
 obtain⟨xs,h,y,rfl,rfl⟩:=h;obtain⟨z,_,e,hz,h⟩:=h.one;obtain rfl:=h.none;simp only[List.cons.injEq,and_true]at e;subst e;obtain⟨rows,rfl,hl,hr⟩:=xg hz;obtain⟨q,rfl,hq⟩:=Gd hf rows hr;exact⟨q,rfl,by rw[List.length_map]at hl;exact hl,hq⟩
theorem Vk {r:List IV} (h:df [.int .i64,.int .i64,.int .i64] r):∃v:Dv,r=v.enc/\dE v.p:=by
 obtain⟨a,_,rfl,ha,h⟩:=h.one;obtain⟨b,_,rfl,hb,h⟩:=h.one;obtain⟨c,_,rfl,hc,h⟩:=h.one;obtain rfl:=h.none;obtain⟨a,rfl, -⟩:=gF ha;obtain⟨b,rfl,lY⟩:=gF hb;obtain⟨c,rfl, -⟩:=gF hc;exact⟨⟨a,b,c⟩,rfl,pn lY⟩
end ay
namespace ao
open Go
theorem Bi {x:S}:cS x=true↔x.a=false/\x.i=[]/\x.c=false/\x.s=[]:=by
 simp[cS]
theorem Gf {f:S->Bool} {b:B}:eW f b=false↔∀i,i<4->f (b.get i)=false:=by
 constructor
 ·intro h i hi;simp only[eW,Bool.or_eq_false_iff]at h
  match i,hi with
  |0,_=>exact h.1
  |1,_=>exact h.2.1
  |2,_=>exact h.2.2.1
  |3,_=>exact h.2.2.2
 ·exact uS
theorem GU {x y:S} (hx:x.eo) (h:cS x=false) (eV:∀n,fK (kQ x y).i n↔fK x.i n\/fK y.i n):cS (kQ x y)=false:=by
 refine Bool.eq_false_iff.2 λhe=>?_
 obtain⟨e1,e2,e3,e4⟩:=Bi.1 he;have e1:(x.a||y.a)=false:=e1;have e3:(x.c||y.c)=false:=e3;rw[Bool.or_eq_false_iff]at e1 e3;refine Bool.eq_false_iff.1 h (Bi.2 ⟨e1.1,?_,e3.1,?_⟩)
 ·cases j8:x.i with
  |nil=>rfl
  |cons p r=>
   have hp:=hx.i.1 p (by rw[j8];simp);have:=(eV p.1).2 (.inl ⟨p,by rw[j8];simp,Int.le_refl _,hp⟩);rw[e2]at this;exact(lH this).elim
 ·cases Cq:x.s with
  |nil=>rfl
  |cons t r=>
   have h1:=A0 x y t;have h2:eA x t=true:=by unfold eA;rw[e3.1,gf.2 (by rw[Cq];simp)];rfl
   rw[h2,Bool.true_or]at h1;unfold eA at h1;rw[e4,show(kQ x y).c=false from(Bool.or_eq_false_iff.2 e3),show dN [] t=false from rfl]at h1;exact absurd h1 (by decide)
end ao
namespace ao
open Go
attribute [local simp] aS Option.map_some a7 step cw bp az M.aG M.run M.ok M.fresh M.write M.look M.lift bT ao.set ev ao.get an bin cU db mk params bh load bB di ep dQ dn dB idx len valid eu bound store bl fV un eqs ly bn bH M.bN dw cL dC c9 meets dF dR callee bZ cE fz flat ew eI eZ Option.bind_some cz M.bind
section
variable {prog:Nat->Option aA}
end
section
variable {prog:Nat->Option aA}
theorem a8.jn {f:Nat} {fn:aA} (hf:prog f=some fn) (fe:fn.cl=none) {args:List AV} (hn:args.length=fn.np) (P:AV->Prop) (h:Wp prog fn.body ⟨params args 0,[],1000⟩ (λe s=>∃y,P y/\dI fn.res y e s)):∃y,P y/\a8 prog f args y:=by
 obtain⟨K,ex,s',h,y,hy,q⟩:=h;exact⟨y,hy,a8.of hf fe hn ⟨K,ex,s',h,q⟩⟩
theorem sY (l:List Int):(iP l).size=l.length:=by simp[iP,ByteArray.size]
end
def lx (u:Nat):List Int:=if u<10 then[48+(u:Int)] else lx (u / 10)++[48+((u % 10:Nat):Int)]
termination_by u
decreasing_by omega
theorem x7 {u:Nat} (h:u<10):lx u=[48+(u:Int)]:=by rw[lx,if_pos h]
theorem Cb {u:Nat} (h:¬u<10):lx u=lx (u / 10)++[48+((u % 10:Nat):Int)]:=by rw[lx,if_neg h]
def OL (b:List UInt8):Nat:=b.foldl (λa c=>a*10+(c.toNat - 48)) 0
theorem yK (a b:List Int):iP a++iP b=iP (a++b):=by
 apply ByteArray.ext;simp[iP,ByteArray.data_append]
theorem val_one (k:Nat) (h:k<10):(UInt8.ofNat (48+(k:Int)).toNat).toNat - 48=k:=by
 have:(48+(k:Int)).toNat=48+k:=by omega
 rw[this,UInt8.toNat_ofNat'];omega
theorem Gg:∀u:Nat,OL (iP (lx u)).data.toList=u:=by
 intro u
 induction u using Nat.strongRecOn with
 |_ u ih=>
  by_cases h:u<10
  ·rw[x7 h];simp only[iP,List.map_cons,List.map_nil,OL,List.foldl_cons,List.foldl_nil,Nat.zero_mul,Nat.zero_add];exact val_one u h
  ·have hi:=ih (u / 10) (by omega);rw[Cb h];simp only[iP,OL,List.map_append,List.map_cons,List.map_nil,List.foldl_append,List.foldl_cons,List.foldl_nil]at hi ⊢;rw[hi,val_one (u % 10) (by omega)];omega
theorem OM {u v:Nat} (h:iP (lx u)=iP (lx v)):u=v:=by
 rw[<-Gg u,<-Gg v,h]
theorem vr:∀(k u:Nat),u<10 ^ (k+1)->(lx u).length<=k+1
 |0,u,h=>by rw[x7 (by omega)];simp
 |k+1,u,h=>by
  by_cases h':u<10
  ·rw[x7 h'];simp
  ·have:=vr k (u / 10) (by rw[Nat.div_lt_iff_lt_mul (by omega)];rw[Nat.pow_succ]at h;exact h);rw[Cb h'];simp;omega
theorem MM {α:Type} [DecidableEq α] {f:Nat->α} (hf:∀i j,f i=f j->i=j):∀(n:Nat) (L:List α),(∀i,i<n->f i ∈ L)->n<=L.length
 |0,_,_=>Nat.zero_le _
 |n+1,L,h=>by
  have hm:=h n (Nat.lt_succ_self n);have:=MM hf n (L.erase (f n)) λi hi=>(List.mem_erase_of_ne (λe=>by have:=hf _ _ e;omega)).2 (h i (by omega))
  rw[List.length_erase_of_mem hm]at this;have:=List.length_pos_of_mem hm;omega
section
variable {prog:Nat->Option aA}
set_option maxHeartbeats 2000000 in
theorem ON (h:prog 114=some Bz):∀u:Nat,u<=100000->a8 prog 114 [.iv (.int .u64 u)] (.iv (.str (iP (lx u)))):=by
 intro u
 induction u using Nat.strongRecOn with
 |_ u ih=>
  intro hu;refine a8.of h rfl rfl (aj ?_);refine af (aj ?_);refine ag rfl ?_;cases hd:decide ((u:Int)<10)with
  |true=>
   have hd:=of_decide_eq_true hd;have w1:IntKind.wrap .u64 (48+(u:Int))=48+(u:Int):=by rw[IntKind.wrap_u64];omega
   have w2:IntKind.wrap .u8 (48+(u:Int))=48+(u:Int):=by simp[IntKind.wrap,IntKind.bits,IntKind.signed];omega
   refine au (by simp[bO,elems,bytesOf,w1,w2];rfl) ?_;refine ax ?_;rw[x7 (by omega)];rfl
  |false=>
   have hd:=of_decide_eq_false hd;obtain⟨K,hK⟩:=ih (u / 10) (by omega) (by omega);have tX:((u / 10:Nat):Int)=(u:Int) / 10:=by omega
   have T2:((u % 10:Nat):Int)=(u:Int) % 10:=by omega
   have hw:IntKind.wrap .u64 ((u:Int) / 10)=(u:Int) / 10:=by rw[IntKind.wrap_u64];omega
   have hw4:IntKind.wrap .u64 ((u:Int) % 10)=(u:Int) % 10:=by rw[IntKind.wrap_u64];omega
   have w1:IntKind.wrap .u64 (48+(u:Int) % 10)=48+(u:Int) % 10:=by rw[IntKind.wrap_u64];omega
   have w2:IntKind.wrap .u8 (48+(u:Int) % 10)=48+(u:Int) % 10:=by simp[IntKind.wrap,IntKind.bits,IntKind.signed];omega
   have ML:(u:Int).tmod 10=(u:Int) % 10:=Int.tmod_eq_emod_of_nonneg (by omega);refine ak (af ?_);have n9:(lx (u / 10)).length<=10:=by have:=vr 9 (u / 10) (by omega);omega
   have dZ:∀x:Int,(iP (lx (u / 10))).size+(iP [x]).size<=4611686018427387904:=λx=>by rw[sY,sY,List.length_singleton];omega
   refine aI (K:=K) (λn hn=>by
    have e1:=hK n hn;rw[tX]at e1;generalize aZ prog n=g at e1;simp[bO,elems,bytesOf,hw,hw4,ML,w1,w2,e1,dZ];rfl) ?_
   refine ax ?_;rw[Cb (by omega),<-yK,T2];rfl
theorem MN (xB:prog 114=some Bz) (h:prog 113=some DN) (u:Nat) (hu:u<=100000):a8 prog 113 [.nI u] (.iv (.str (iP (lx u)))):=by
 obtain⟨K,hK⟩:=ON xB u hu;have hw:IntKind.wrap .u64 (u:Int)=u:=by rw[IntKind.wrap_u64];omega
 have tY:¬(u:Int)<0:=by omega
 refine a8.of h rfl rfl (aj ?_);refine af (au (by simp[tY];rfl) ?_);refine ag rfl (ak (cq (K:=K) (λn hn=>by
  have e1:=hK n hn;generalize aZ prog n=g at e1;simp[hw,e1];rfl) ?_))
 exact ax rfl
def pP (n:Nat):ByteArray:=⟨#[126]⟩++iP (lx n)
theorem zI (n:Nat):pP n=iP (126::lx n):=by
 have:(⟨#[126]⟩:ByteArray)=iP [126]:=rfl;rw[pP,this,yK];rfl
theorem MO {i j:Nat} (h:pP i=pP j):i=j:=by
 apply OM;rw[zI,zI]at h;have:=congrArg ByteArray.data h;apply ByteArray.ext;simp only[iP]at this ⊢;simpa using this
theorem Bj {n:Nat} (h:n<100000):(pP n).size<=8:=by
 rw[zI,sY];have:=vr 4 n (by omega);simp;omega
def Kj (l:List S):Nat:=(l.flatMap S.s).length
set_option maxHeartbeats 2000000 in
theorem Rs (tZ:prog 49=some DK) (xB:prog 114=some Bz) (Cc:prog 113=some DN) (h:prog 111=some IT) (l:List S) (hl:l.length<=maxLen) (hL:∀x ∈ l,x.s.length<=maxLen) (hT:Kj l<100000) :
  ∃y,(∃t:ByteArray,y = .iv (.str t)/\t.size<=8/\∀x ∈ l,dN x.s t=false)/\a8 prog 111 [dk l,.iv (.str ⟨#[126]⟩)] y:=by
 have hu:(pP 0).size<=8:=Bj (by omega);generalize hs:(⟨#[126]⟩:ByteArray)=s;have hss:s.size=1:=by rw[<-hs];rfl
 refine a8.jn h rfl rfl _ (aj ?_);refine af (aj ?_);refine aq ?_;refine bQ 100000 (λi=>⟨[(0,dk l),(1,.iv (.str s)),(5,.nI i)],[],1128⟩) (λi=>∀j,j<i->(l.any λx=>dN x.s (pP j))=true) rfl (λj h=>absurd h (Nat.not_lt_zero _)) ?_ ?_
 ·intro i hi hg;have cK:(i:Int)<100000:=by omega
  have kz:IntKind.wrap .i64 ((i:Int)+1)=(i:Int)+1:=IntWalk.i64_in _ (by omega);obtain⟨K,hK⟩:=MN xB Cc i (by omega);have uk:(lx i).length<=10:=by have:=vr 9 i (by omega);omega
  have dZ:s.size+(iP (lx i)).size<=4611686018427387904:=by rw[sY];omega
  have tF:s++iP (lx i)=pP i:=by rw[<-hs];rfl
  refine af (au (by simp[cK];rfl) ?_);refine ag rfl (ak (af (aq (cq (K:=K) (λn hn=>by
   have e1:=hK n hn;generalize aZ prog n=g at e1;simp[dZ,e1,tF];rfl) ?_))))
  refine aj ?_;refine af (aj ?_);refine aq ?_;have YR:(pP i).size<=8:=Bj hi;generalize ht:pP i=t at YR;refine bQ l.length (λj=>⟨[(0,dk l),(1,.iv (.str s)),(5,.nI i),(6,.iv (.str t)),(7,.bI ((l.take j).any λx=>dN x.s t)),(8,.nI j)],[],1704⟩) (λ_=>True) (by simp[an,get]) trivial ?_ ?_
  ·intro j hj _;obtain⟨x,hx⟩:∃x,l[j]?=some x:=⟨_,List.getElem?_eq_getElem hj⟩;obtain⟨K2,cZ⟩:=A2 tZ x.s t (hL x (List.mem_of_getElem? hx));rw[gp hx];generalize((l.take j).any λx=>dN x.s t)=fo;refine af (au (by simp[dk,hj];rfl) ?_);refine ag rfl (ak (af (aq ?_)));refine aI (K:=K2) (s':=⟨[(0,dk l),(1,.iv (.str s)),(5,.nI i),(6,.iv (.str t)),(7,.bI (fo||dN x.s t)),(8,.nI j)],[],2664⟩) (λn hn=>by
    have e1:=cZ n hn;generalize aZ prog n=g at e1;cases fo<;>simp[dk,hx,S.enc,e1]) ?_
   simp only[Ex.then,Ex.inBlock];refine bK ?_;exact⟨by simp[again,an,get,nrm,dk,bw hj hl],trivial⟩
  ·intro _;refine af (au (by simp[dk];rfl) ?_);refine ag rfl (aO ?_);simp only[Ex.then,Ex.inBlock,if_true];refine aj ?_;refine ag rfl ?_;cases hf:l.any λx=>dN x.s t with
   |false=>
    refine aj ?_;exact ax ⟨_,⟨t,rfl,YR,λx hx=>by simpa using List.any_eq_false.1 hf x hx⟩,rfl⟩
   |true=>
    refine ak ?_;simp only[Ex.then,Ex.inBlock];refine bK ?_;refine⟨by simp[again,an,get,nrm,dk,kz],λj hj=>?_⟩;by_cases qP:j=i
    ·subst qP;rw[ht];exact hf
    ·exact hg j (by omega)
 ·intro hg;exfalso;have:=MM (λi j=>MO) 100000 (l.flatMap S.s) λi hi=>by
   obtain⟨x,hx,hxt⟩:=List.any_eq_true.1 (hg i hi);exact List.mem_flatMap.2 ⟨x,hx,gf.1 hxt⟩
  unfold Kj at hT;omega
end
def vI (n:Int):V:=⟨1,n,⟨#[]⟩⟩
def vS (t:ByteArray):V:=⟨2,0,t⟩
section
variable {prog:Nat->Option aA}
end
end ao

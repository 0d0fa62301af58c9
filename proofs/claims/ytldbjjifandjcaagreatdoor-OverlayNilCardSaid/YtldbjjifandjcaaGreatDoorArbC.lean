/-
  A part of the proof: two abstract machines for the code, and what the program does on them. No condition.
-/
import Derived.Test.YtldbjjifandjcaaGreatDoorArbB
set_option linter.all false
namespace aB
open Go Go.RowKit ao
section
variable {ν:Nat->Nat} {P:Program} {k:Cx} {g:Gh}
def RO (ν:Nat->Nat) (g:Gh):Option Value->Option AV->Prop
 |none,none=>True
 |some v,some x=>RA ν g v x
 |_,_=>False
theorem ib {y:Nat} {o:Option AV} {n:Option Nat} {h h':Hp} (e:(bound y o).run h=some (n,h')) {c:Option Value} (hc:RO ν g c o) :
  h'=h/\(o=none/\n=none/\c=none\/∃(kk:IntKind) (m:Nat),c=some (.int kk m)/\m<=y/\n=some m):=by
 unfold bound at e;split at e
 ·obtain⟨rfl,rfl⟩:=af e;cases c with
  |none=>exact⟨rfl,.inl ⟨rfl,rfl,rfl⟩⟩
  |some v=>exact hc.elim
 ·rename_i kk m;obtain⟨hm,e2⟩:=M.aj e;obtain⟨rfl,rfl⟩:=af e2;have dv:0<=m/\m<=y:=by simpa using hm
  cases c with
  |none=>exact hc.elim
  |some v=>
   obtain rfl:=RA.int hc;exact⟨rfl,.inr ⟨kk,m.toNat,by rw[Int.toNat_of_nonneg dv.1],by omega,rfl⟩⟩
 ·exact(ae e).elim
theorem cU {n y cap:Nat} (hy:n<=y) (eH:y<=cap) {lo hi:Option AV} {cl ch:Option Value} {l h:Option Nat} {g0 g1 g2:Hp} (dI:Bool)
  (eh:(bound y hi).run g0=some (h,g1)) (el:(bound (h.getD n) lo).run g1=some (l,g2)) (hh:RO ν g ch hi) (hl:RO ν g cl lo) (w:World) :
  g2=g0/\l.getD 0<=h.getD n/\h.getD n<=y/\(Instr.sliceBounds dI n cap cl ch none).run P w = .ok (l.getD 0,h.getD n,cap) w:=by
 obtain⟨rfl,h1⟩:=ib eh hh;obtain⟨rfl,h2⟩:=ib el hl;refine⟨rfl,?_⟩;rcases h1 with⟨-,rfl,rfl⟩|⟨k1,m1,rfl,fT,rfl⟩
 ·rcases h2 with⟨-,rfl,rfl⟩|⟨k2,m2,rfl,fU,rfl⟩
  ·simp[Instr.sliceBounds,hy]
  ·simp only[Option.getD_none]at fU;have:(Instr.sliceBound (.int k2 m2) n .sliceB).run P w = .ok m2 w:=by simp[Instr.sliceBound,asIntOf,fU]
   simp[Instr.sliceBounds,this,fU,hy]
 ·have hs:∀c,(Instr.sliceBound (.int k1 m1) cap c).run P w = .ok m1 w:=λc=>by
   have:m1<=cap:=by omega
   simp[Instr.sliceBound,asIntOf,this]
  rcases h2 with⟨-,rfl,rfl⟩|⟨k2,m2,rfl,fU,rfl⟩
  ·simp[Instr.sliceBounds,hs,fT]
  ·simp only[Option.getD_some]at fU;have:(Instr.sliceBound (.int k2 m2) m1 .sliceB).run P w = .ok m2 w:=by simp[Instr.sliceBound,asIntOf,fU]
   simp[Instr.sliceBounds,hs,this,fU,fT]
theorem aE.row {id o n ai e L:Nat} {ob:Ob} (hg:get g.h id=some ob) (hl:lQ ob ai e=some L) {v:Value} (h:aE g v id o n ai) :
  cD g.w (g.φ id) e L o n v/\∀v' o' n',cD g.w (g.φ id) e L o' n' v'->aE g v' id o' n' ai:=by
 unfold aE at h;rw[hg]at h;cases ob with
 |buf v' e' es=>
  simp only[lQ]at hl;split at hl
  ·rename_i hh;cases hl;obtain⟨rfl,rfl⟩:=hh;exact⟨h.2 rfl,λv2 o' n' hs=>by unfold aE;rw[hg];exact⟨Nat.le_refl _,λ_=>hs⟩⟩
  ·cases hl
 |aZ v' e' es=>
  simp only[lQ]at hl;split at hl
  ·rename_i hh;cases hl;obtain⟨rfl,rfl⟩:=hh;exact⟨h.2 rfl,λv2 o' n' hs=>by unfold aE;rw[hg];exact⟨Nat.le_refl _,λ_=>hs⟩⟩
  ·cases hl
 |cells cs=>
  simp only[lQ]at hl;split at hl
  ·rename_i hh;cases hl;obtain⟨rfl,rfl⟩:=hh;exact⟨h.2,λv2 o' n' hs=>by unfold aE;rw[hg];exact⟨rfl,hs⟩⟩
  ·cases hl
 |c7 cs=>
  simp only[lQ]at hl;split at hl
  ·rename_i hh;cases hl;obtain⟨rfl,rfl⟩:=hh;exact⟨h.2,λv2 o' n' hs=>by unfold aE;rw[hg];exact⟨rfl,hs⟩⟩
  ·cases hl
 |map _=>exact h.elim
theorem dA {t el:TypeId} {i:TypeInfo} (hu:P.underlying t=some (.slice el)) (hi:P.info? el=some i) {a:Option Addr} {n cap l h:Nat} {cl ch:Option Value} {w:World}
  (hb:(Instr.sliceBounds true n cap cl ch none).run P w = .ok (l,h,cap) w) :
  (Instr.sliceAt t (.slice a n cap) cl ch none).run P w = .ok (.slice (if cap=l then a else a.map (·.add (l*i.size))) (h - l) (cap - l)) w:=by
 have:(Instr.slice t (.slice a n cap) cl ch none).run P w = .ok (.slice (if cap=l then a else a.map (·.add (l*i.size))) (h - l) (cap - l)) w:=by
  simp[Instr.slice,run_underlying hu,hb,run_sizeOf hi]
 simp[Instr.sliceAt,run_underlying hu,this]
theorem tS (r:Rel ν k g) {t:TypeId} {e:Nat} (ht:sliceB P t e=true) {v:Value} {cl ch:Option Value} {x y:AV} {lo hi:Option AV} {h':Hp} (hv:RA ν g v x) (hl:RO ν g cl lo) (hh:RO ν g ch hi)
  (e':(hU e x lo hi).run g.h=some (y,h')):bf ν k g h' y ((Instr.sliceAt t v cl ch none).run P g.w):=by
 obtain⟨el,i,hu,bY,rfl⟩:=dz ht;cases hv with
 |undef=>exact(ae e').elim
 |cG=>exact(ae e').elim
 |agg=>exact(ae e').elim
 |aR=>exact(ae e').elim
 |ref=>exact(ae e').elim
 |bp=>exact(ae e').elim
 |iv hr=>
  cases hr with
  |aq a aD=>
   obtain⟨hb,h2,e3,e4⟩:=ag e';obtain⟨lb,h3,e5,e6⟩:=ag e4;obtain⟨rfl,h4,h5,h6⟩:=cU (ν:=ν) (g:=g) (P:=P) (n:=0) (y:=0) (cap:=0) (Nat.le_refl _) (Nat.le_refl _) true e3 e5 hh hl g.w;obtain⟨rfl,rfl⟩:=af e6;have hz:hb.getD 0=0:=by omega
   have qX:lb.getD 0=0:=by omega
   refine .same r (dA hu bY h6) (.iv ?_);simp only[hz,qX,Nat.sub_zero,if_true];exact .aq _ _
  |dU a cap aD=>
   obtain⟨-,e2⟩:=M.aj e';obtain⟨hb,h2,e3,e4⟩:=ag e2;obtain⟨lb,h3,e5,e6⟩:=ag e4;obtain⟨rfl,h4,h5,h6⟩:=cU (ν:=ν) (g:=g) (P:=P) (n:=0) (y:=0) (cap:=cap) (Nat.le_refl _) (Nat.zero_le _) true e3 e5 hh hl g.w;obtain⟨rfl,rfl⟩:=af e6;simp only[List.length_nil]at *;have hz:hb.getD 0=0:=by omega
   have qX:lb.getD 0=0:=by omega
   refine .same r (dA hu bY h6) (.iv ?_);simp only[hz,qX,List.take_nil,List.drop_nil,Nat.sub_zero];exact .dU _ _ _
  |sl b off n cap aD es f hI hn eH lq hc hr=>
   obtain⟨he,e2⟩:=M.aj e';obtain⟨hb,h2,e3,e4⟩:=ag e2;obtain⟨lb,h3,e5,e6⟩:=ag e4;subst hn;obtain⟨rfl,h4,h5,h6⟩:=cU (ν:=ν) (g:=g) (P:=P) (Nat.le_refl _) eH true e3 e5 hh hl g.w;obtain⟨rfl,rfl⟩:=af e6;have cr:aD=i.size:=by simpa using he
   subst cr;refine .same r (dA hu bY h6) (.iv ?_);generalize lb.getD 0=l at *;generalize hb.getD es.length=h at *;by_cases B2:l=h
   ·subst B2;have:(es.take l).drop l=[]:=by simp
    rw[this,Nat.sub_self];exact .dU _ _ _
   ·have bF:¬cap=l:=by omega
    rw[if_neg bF];simp only[Option.map_some,Addr.add_lit];have eI:∀(j:Nat) (c:List IV),((es.take h).drop l)[j]?=some c->es[l+j]?=some c:=by
     intro j c hj;rw[List.getElem?_drop,List.getElem?_take]at hj;split at hj
     ·exact hj
     ·cases hj
    refine .sl b _ _ _ i.size _ (λa b=>f (l+a) b) hI (by simp;omega) (by omega) (λc bJ=>lq c (List.mem_of_mem_take (List.mem_of_mem_drop bJ))) (λa j c x h1 h2=>?_) λa j c x h1 h2=>hr _ _ _ _ (eI a c h1) h2
    have:=hc _ _ _ _ (eI a c h1) h2
    rwa [Nat.add_mul,<-Nat.add_assoc]at this
  |_=>exact(ae e').elim
 |@own _ id o m ai j4 ho=>
  obtain⟨ob,hg,e8⟩:=M.aM e';obtain⟨L,hL,dg⟩:=M.lift_bind e8;obtain⟨hb,h2,e3,e4⟩:=ag dg;obtain⟨lb,h3,e5,e6⟩:=ag e4;obtain⟨hs,AZ⟩:=ho.row hg hL;have cK:=hs.fits;cases ah:g.φ id with
  |none=>
   rw[ah]at hs;obtain⟨⟨a,rfl⟩,rfl,rfl,rfl⟩:=hs;obtain⟨rfl,h4,h5,h6⟩:=cU (ν:=ν) (g:=g) (P:=P) (n:=0) (y:=0) (cap:=0) (Nat.le_refl _) (Nat.le_refl _) true e3 e5 hh hl g.w;obtain⟨rfl,rfl⟩:=af e6;refine .same r (dA hu bY h6) (.own rfl (AZ _ _ _ ?_));rw[ah];have h1:hb.getD 0=0:=by omega
   have h2:lb.getD 0=0:=by omega
   exact⟨⟨a,by simp[h1,h2]⟩,by omega,by omega,rfl⟩
  |some b=>
   rw[ah]at hs;obtain⟨x,cap,rfl,q2,qL,q3,q4,q5⟩:=hs;obtain⟨rfl,h4,h5,h6⟩:=cU (ν:=ν) (g:=g) (P:=P) (n:=m) (y:=L - o) (cap:=cap) (by omega) (by omega) true e3 e5 hh hl g.w;obtain⟨rfl,rfl⟩:=af e6;refine .same r (dA hu bY h6) (.own rfl (AZ _ _ _ ?_));rw[ah];generalize lb.getD 0=l at *;generalize hb.getD m=h at *;by_cases dw:cap=l
   ·rw[if_pos dw];refine⟨x,cap - l,rfl,by omega,by omega,by omega,?_,λhx c hc=>?_⟩
    ·rcases q4 with q4 | q4
     ·by_cases qY:l=0
      ·left;subst qY;simpa using q4
      ·right;omega
     ·right;omega
    ·by_cases ot:x=o*i.size
     ·exact q5 ot c (Nat.lt_of_lt_of_le hc (Nat.mul_le_mul_right _ (by omega)))
     ·have:=q4.resolve_left ot;have qY:l=0:=by omega
      subst qY;exact absurd (by simpa using hx) ot
   ·rw[if_neg dw];refine⟨x+l*i.size,cap - l,by simp[Addr.add_lit],by omega,by omega,by omega,?_,λhx c hc=>?_⟩
    ·rcases q4 with q4 | q4
     ·left;rw[q4,Nat.add_mul]
     ·right;omega
    ·have ot:x=o*i.size:=by rw[Nat.add_mul]at hx;omega
     exact q5 ot c (Nat.lt_of_lt_of_le hc (Nat.mul_le_mul_right _ (by omega)))
def xf (P:Program) (t:TypeId) (n:Nat):Bool:=
 match P.underlying t with
 |some (.array m e)=>m==n&&jj P e 1
 |some (.pointer a)=>(match P.underlying a with
  |some (.array m e)=>m==n&&jj P e 1
  |_=>false)
 |_=>false
theorem yT {t n:Nat} (h:xf P t n=true):∃el i,P.info? el=some i/\i.size=1/\∀{b l h:Nat} {cl ch:Option Value} {w:World},(Instr.sliceBounds false n n cl ch none).run P w = .ok (l,h,n) w->
  (Instr.sliceAt t (.pointer (some ⟨b,0,none⟩)) cl ch none).run P w = .ok (.slice (some (if n=l then⟨b,0,none⟩ else⟨b,l*i.size,none⟩)) (h - l) (n - l)) w:=by
 unfold xf at h;split at h
 ·rename_i m el hu;simp only[Bool.and_eq_true,beq_iff_eq]at h;obtain⟨rfl,bB⟩:=h;obtain⟨i,hi,yU⟩:=ft bB;refine⟨el,i,hi,yU,λhb=>?_⟩;simp[Instr.sliceAt,run_underlying hu,hb,run_sizeOf hi,Instr.sureAddr,Addr.add_lit]
 ·rename_i a hu;split at h
  ·rename_i m el ha;simp only[Bool.and_eq_true,beq_iff_eq]at h;obtain⟨rfl,bB⟩:=h;obtain⟨i,hi,yU⟩:=ft bB;refine⟨el,i,hi,yU,λhb=>?_⟩;simp[Instr.sliceAt,Instr.slice,run_underlying hu,run_underlying ha,asAddr,hb,run_sizeOf hi,Addr.add_lit]
  ·cases h
 ·cases h
theorem CS (r:Rel ν k g) {t:TypeId} {n:Nat} (ht:xf P t n=true) {v:Value} {cl ch:Option Value} {x y:AV} {lo hi:Option AV} {h':Hp} (hv:RA ν g v x) (hl:RO ν g cl lo) (hh:RO ν g ch hi)
  (e':(oY n x lo hi).run g.h=some (y,h')):bf ν k g h' y ((Instr.sliceAt t v cl ch none).run P g.w):=by
 obtain⟨el,i,bY,yU,aY⟩:=yT ht;unfold oY at e';split at e'
 case h_2=>exact(ae e').elim
 rename_i id;obtain⟨ob,hg,e2⟩:=M.aM e';cases ob with
 |buf _ _ _=>exact(ae e2).elim
 |aZ _ _ _=>exact(ae e2).elim
 |c7 _=>exact(ae e2).elim
 |map _=>exact(ae e2).elim
 |cells cs=>
  obtain⟨hlen,e4⟩:=M.aj e2;have KE:cs.length=n:=by simpa using hlen
  obtain⟨hb,h3,e5,e6⟩:=ag e4;obtain⟨lb,h4,e7,e8⟩:=ag e6;cases hv with
  |ref _ hr=>
   unfold aG at hr;rw[hg]at hr;obtain⟨-, -,b,ah,rfl⟩:=hr;obtain⟨rfl,q4,q5,q6⟩:=cU (ν:=ν) (g:=g) (P:=P) (n:=n) (y:=n) (cap:=n) (Nat.le_refl _) (Nat.le_refl _) false e5 e7 hh hl g.w;obtain⟨rfl,rfl⟩:=af e8;refine .same r (aY q6) (.own rfl ?_);unfold aE;rw[hg];refine⟨rfl,?_⟩;rw[ah];generalize lb.getD 0=l at *;generalize hb.getD n=h at *;obtain⟨b',aN,_,_,hc⟩:=r.ob id _ hg;rw[ah]at aN;cases aN;have df:∀c,c<n->(g.w.cell? ⟨b,c,none⟩).isSome=true:=λc KO=>by
    obtain⟨u,dD,_⟩:=hc c _ (List.getElem?_eq_getElem (by omega));rw[dD];rfl
   by_cases FI:n=l
   ·rw[if_pos FI];refine⟨0,n - l,rfl,by omega,by omega,by omega,?_,λhx c bJ=>df c (by simp at bJ;omega)⟩;by_cases h0:l=0
    ·left;simp[h0]
    ·right;omega
   ·rw[if_neg FI];exact⟨l*i.size,n - l,rfl,by omega,by omega,by omega,.inl (by rw[yU]),λhx c bJ=>df c (by simp at bJ;omega)⟩
theorem sj (r:Rel ν k g) {t:TypeId} (ht:P.underlying t=some .string) {v:Value} {cl ch:Option Value} {x y:AV} {lo hi:Option AV} {h':Hp} (hv:RA ν g v x) (hl:RO ν g cl lo) (hh:RO ν g ch hi)
  (e:(fR x lo hi).run g.h=some (y,h')):bf ν k g h' y ((Instr.sliceAt t v cl ch none).run P g.w):=by
 unfold fR at e;split at e
 ·rename_i s;obtain rfl:=hv.str;obtain⟨hb,h2,e3,e4⟩:=ag e;obtain⟨lb,h3,e5,e6⟩:=ag e4;obtain⟨rfl,h4,h5,h6⟩:=cU (ν:=ν) (g:=g) (P:=P) (n:=s.size) (y:=s.size) (cap:=s.size) (Nat.le_refl _) (Nat.le_refl _) false e3 e5 hh hl g.w;obtain⟨rfl,rfl⟩:=af e6;refine .same r (v:=.string (s.extract (lb.getD 0) (hb.getD s.size))) ?_ mkStr;simp[Instr.sliceAt,Instr.slice,run_underlying ht,h6]
 ·exact(ae e).elim
theorem tT (r:Rel ν k g) {t:TypeId} {e:Nat} (ht:sliceB P t e=true) {v:Value} {cl:Option Value} {k1 k2:IntKind} (dw:cl=none\/∃k3,cl=some (.int k3 0)) {x y:AV} {h':Hp} (hv:RA ν g v x)
  (e':(lh e x).run g.h=some (y,h')):bf ν k g h' y ((Instr.sliceAt t v cl (some (.int k1 0)) (some (.int k2 0))).run P g.w):=by
 obtain⟨el,i,hu,hi,rfl⟩:=dz ht;have key:∀a n cap,bf ν k g g.h (.iv (.aq i.size)) ((Instr.sliceAt t (.slice a n cap) cl (some (.int k1 0)) (some (.int k2 0))).run P g.w):=by
  intro a n cap;obtain⟨a',h⟩:=vQ (k1:=k1) (k2:=k2) hu hi (a:=a) (n:=n) (cap:=cap) dw g.w;exact .same r h (.iv (.aq _ _))
 cases hv with
 |undef=>exact(ae e').elim
 |cG=>exact(ae e').elim
 |agg=>exact(ae e').elim
 |aR=>exact(ae e').elim
 |ref=>exact(ae e').elim
 |bp=>exact(ae e').elim
 |iv hr=>
  cases hr with
  |aq a aD=>obtain⟨rfl,rfl⟩:=af e';exact key _ _ _
  |dU a cap aD=>obtain⟨rfl,rfl⟩:=af e';exact key _ _ _
  |sl b off n cap aD es f hI hn eH lq hc hr=>obtain⟨rfl,rfl⟩:=af e';exact key _ _ _
  |_=>exact(ae e').elim
 |@own _ id o m ai j4 ho=>
  obtain⟨ob,hg,e2⟩:=M.aM e';obtain⟨L,hL,e4⟩:=M.lift_bind e2;obtain⟨rfl,rfl⟩:=af e4;obtain⟨hs, -⟩:=ho.row hg hL;cases ah:g.φ id with
  |none=>rw[ah]at hs;obtain⟨⟨a,rfl⟩,_⟩:=hs;exact key _ _ _
  |some b=>rw[ah]at hs;obtain⟨x,cap,rfl,_⟩:=hs;exact key _ _ _
theorem tU (r:Rel ν k g) {t ty:TypeId} {str:Bool} (ht:sk P t str=true) {v:Value} {x y:AV} {h':Hp} (hv:RA ν g v x) (e:(len str x).run g.h=some (y,h')) :
  bf ν k g h' y ((Builtin.len_ #[t] ty #[v]).run P g.w):=by
 unfold sk at ht;split at ht
 ·rename_i el hu;have:str=false:=by simpa using ht
  subst this;have key:∀(a:Option Addr) (n cap:Nat),bf ν k g g.h (.iv (.int .i64 n)) ((Builtin.len_ #[t] ty #[.slice a n cap]).run P g.w):=λa n cap=>
   .same r (v:=.int .i64 n) (by simp[Builtin.len_,run_underlying hu,goInt]) mkInt
  cases hv with
  |undef=>exact(ae e).elim
  |cG=>exact(ae e).elim
  |agg=>exact(ae e).elim
  |aR=>exact(ae e).elim
  |ref=>exact(ae e).elim
  |bp=>exact(ae e).elim
  |iv hr=>
   cases hr with
   |aq a aD=>obtain⟨rfl,rfl⟩:=af e;exact key _ _ _
   |dU a cap aD=>obtain⟨rfl,rfl⟩:=af e;exact key _ 0 _
   |sl b off n cap aD es f hI hn eH lq hc hr=>obtain⟨rfl,rfl⟩:=af e;rw[hn];exact key _ _ _
   |_=>exact(ae e).elim
  |@own _ id o m ai j4 ho=>
   obtain⟨ob,hg,e2⟩:=M.aM e;unfold aE at ho;rw[hg]at ho;have fin:∀{aD L:Nat},cD g.w (g.φ id) aD L o m v->bf ν k g g.h (.iv (.int .i64 m)) ((Builtin.len_ #[t] ty #[v]).run P g.w):=by
    intro aD L hs;cases ah:g.φ id with
    |none=>rw[ah]at hs;obtain⟨⟨a,rfl⟩,rfl,_⟩:=hs;exact key _ _ _
    |some b=>rw[ah]at hs;obtain⟨x,cap,rfl,_⟩:=hs;exact key _ _ _
   cases ob with
   |cells cs=>
    obtain⟨cc,e4⟩:=M.aj e2;obtain⟨rfl,rfl⟩:=af e4;exact fin ho.2
   |c7 cs=>
    obtain⟨cc,e4⟩:=M.aj e2;obtain⟨rfl,rfl⟩:=af e4;exact fin ho.2
   |buf v' aD es=>
    obtain⟨cc,e4⟩:=M.aj e2;obtain⟨rfl,rfl⟩:=af e4;exact fin (ho.2 (by simpa using cc))
   |aZ v' aD es=>
    obtain⟨cc,e4⟩:=M.aj e2;obtain⟨rfl,rfl⟩:=af e4;exact fin (ho.2 (by simpa using cc))
   |map _=>exact ho.elim
 ·rename_i hu;have:str=true:=ht;subst this;unfold len at e;split at e
  ·rename_i h;cases h
  ·rename_i h;cases h
  ·rename_i h;cases h
  ·obtain⟨rfl,rfl⟩:=af e;obtain rfl:=hv.str;exact .same r (v:=.int .i64 _) (by simp[Builtin.len_,run_underlying hu,goInt]) mkInt
  ·exact(ae e).elim
 ·cases ht
theorem wW (P:Program) (w:World):∀(xs:List AV) (vs:List Value) (a:Int) (kk:IntKind) (z:Int),mP a xs kk=some z->vs.length=xs.length->(∀(j:Nat) (v:Value) (x:AV),vs[j]?=some v->xs[j]?=some x->RA ν g v x)->
  (vs.foldlM Builtin.min2 (.int kk a)).run P w = .ok (.int kk z) w:=by
 intro xs
 induction xs with
 |nil=>
  intro vs a kk z h hl _;have:vs=[]:=List.eq_nil_of_length_eq_zero hl;subst this;simp[mP]at h;subst h;rfl
 |cons x xs ih=>
  intro vs a kk z h hl hr;cases vs with
  |nil=>simp at hl
  |cons v vs=>
   have h0:=hr 0 v x rfl rfl;unfold mP at h;split at h
   ·rename_i heq;cases heq
   ·rename_i B4 b r heq;cases heq;split at h
    ·rename_i hk;subst hk;obtain rfl:=h0.int;simp only[List.foldlM_cons,Sem.run_bind,Builtin.min2,Sem.run_pure,Result.andThen_ok];exact ih vs _ _ _ h (by simpa using hl) λj v' x' h1 h2=>hr (j+1) v' x' (by simpa using h1) (by simpa using h2)
    ·cases h
   ·cases h
theorem wX (P:Program) (w:World):∀(xs:List AV) (vs:List Value) (a:Int) (kk:IntKind) (z:Int),nW a xs kk=some z->vs.length=xs.length->(∀(j:Nat) (v:Value) (x:AV),vs[j]?=some v->xs[j]?=some x->RA ν g v x)->
  (vs.foldlM Builtin.max2 (.int kk a)).run P w = .ok (.int kk z) w:=by
 intro xs
 induction xs with
 |nil=>
  intro vs a kk z h hl _;have:vs=[]:=List.eq_nil_of_length_eq_zero hl;subst this;simp[nW]at h;subst h;rfl
 |cons x xs ih=>
  intro vs a kk z h hl hr;cases vs with
  |nil=>simp at hl
  |cons v vs=>
   have h0:=hr 0 v x rfl rfl;unfold nW at h;split at h
   ·rename_i heq;cases heq
   ·rename_i B4 b r heq;cases heq;split at h
    ·rename_i hk;subst hk;obtain rfl:=h0.int;simp only[List.foldlM_cons,Sem.run_bind,Builtin.max2,Sem.run_pure,Result.andThen_ok];exact ih vs _ _ _ h (by simpa using hl) λj v' x' h1 h2=>hr (j+1) v' x' (by simpa using h1) (by simpa using h2)
    ·cases h
   ·cases h
theorem fq {x:AV} {l:List AV} {h h':Hp} (e:(bU x).run h=some (l,h')) {v:Value} (hv:RA ν g v x) :
  h'=h/\v.cells.size=l.length/\∀(j:Nat) (c:AV),l[j]?=some c->∃u,v.cells[j]?=some u/\u.oneCell'=true/\RA ν g u c:=by
 have one:∀{z:AV},(M.ret [z]).run h=some (l,h')->RA ν g v z->v.oneCell'=true->h'=h/\v.cells.size=l.length/\∀(j:Nat) (c:AV),l[j]?=some c->∃u,v.cells[j]?=some u/\u.oneCell'=true/\RA ν g u c:=by
  intro z e hz h1;obtain⟨rfl,rfl⟩:=af e;have hc:v.cells=#[v]:=by cases v<;>first | rfl | simp[Value.oneCell']at h1
  refine⟨rfl,by rw[hc];rfl,λj c hj=>?_⟩;cases j with
  |zero=>simp at hj;subst hj;exact⟨v,by rw[hc];rfl,h1,hz⟩
  |succ j=>simp at hj
 cases hv with
 |undef=>exact(ae e).elim
 |cG h=>exact one e (.cG h) (by rw[h];exact zX _)
 |aR=>exact(ae e).elim
 |agg hn h1 hr=>
  obtain⟨rfl,rfl⟩:=af e;refine⟨rfl,hn,λj c hj=>?_⟩;obtain⟨u,hu,hR⟩:=RA.dQ (.agg hn h1 hr) j c hj;exact⟨u,hu,h1 j u hu,hR⟩
 |iv hr=>exact one e (.iv hr) hr.one
 |own h1 h2=>exact one e (.own h1 h2) h1
 |ref h1 h2=>exact one e (.ref h1 h2) h1
 |bp hm hs hn hr=>exact one e (.bp hm hs hn hr) rfl
def RC (ν:Nat->Nat) (g:Gh) (vs:Array Value) (cs:List AV):Prop:=
 vs.size=cs.length/\∀(j:Nat) (c:AV),cs[j]?=some c->∃u,vs[j]?=some u/\u.oneCell'=true/\RA ν g u c
theorem RC.agg {vs:Array Value} {cs:List AV} (h:RC ν g vs cs):RA ν g (.agg vs) (.agg cs):=by
 have key:∀(j:Nat) (v:Value),vs[j]?=some v->∃c,cs[j]?=some c/\v.oneCell'=true/\RA ν g v c:=by
  intro j v hv;have hj:j<vs.size:=(Array.getElem?_eq_some_iff.1 hv).1;have hc:cs[j]?=some (cs[j]'(by have:=h.1;omega)):=List.getElem?_eq_getElem _;obtain⟨u,hu,h1,hR⟩:=h.2 j _ hc;rw[hv]at hu;cases hu;exact⟨_,hc,h1,hR⟩
 exact .agg h.1 (λj v hv=>let⟨_,_,h1,_⟩:=key j v hv;h1) λj v c hv hc=>by
  obtain⟨c',bJ,_,hR⟩:=key j v hv;rw[hc]at bJ;cases bJ;exact hR
theorem RC.cn {vs us:Array Value} {cs l:List AV} {o:Nat} (h:RC ν g vs cs) (hu:RC ν g us l) (cK:o+l.length<=cs.length) :
  RC ν g ((us.toList.zipIdx).foldl (λcs (p:Value×Nat)=>cs.setIfInBounds (o+p.2) p.1) vs) (cn cs o l):=by
 have hs:=jh o us.toList 0 vs (by have:=h.1;have:=hu.1;simp;omega);simp only[Nat.add_zero,Array.length_toList]at hs;refine⟨by rw[hs.1,de _ _ _ cK,h.1],λj c hc=>?_⟩;rw[gA _ _ _ cK]at hc;rw[hs.2 j];have:=hu.1;by_cases hj:o<=j/\j<o+l.length
 ·rw[if_pos hj]at hc;rw[if_pos (by omega)];simpa using hu.2 _ c hc
 ·rw[if_neg hj]at hc;rw[if_neg (by omega)];exact h.2 j c hc
end
section
variable {ν:Nat->Nat} {P:Program} {k:Cx} {g:Gh}
theorem RC.mono {g':Gh} {vs:Array Value} {cs:List AV} (h:RC ν g vs cs) (hm:aV ν g g'):RC ν g' vs cs:=
 ⟨h.1,λj c hc=>let⟨u,h1,h2,h3⟩:=h.2 j c hc;⟨u,h1,h2,hm _ _ h3⟩⟩
theorem kG (r:Rel ν k g) {slot:Nat} {t:TypeId} {vs:Array Value} {cs:List AV} (hv:RC ν g vs cs) (gO:km ν (g.w.alloc (.cells vs t)) slot g.w.heap.size) {h':Hp} {y:AV}
  (e:((M.fresh slot).bind λ_=>(M.write slot (.cells cs)).bind λ_=>M.ret (.ref slot 0 0 0)).run g.h=some (y,h')) :
  bf ν k g h' y (.ok (.pointer (some ⟨g.w.heap.size,0,none⟩)) (g.w.alloc (.cells vs t))):=by
 obtain⟨_,h1,e1,e2⟩:=ag e;obtain⟨hf,rfl⟩:=M.ct e1;obtain⟨_,h3,e5,e6⟩:=ag e2;obtain rfl:=aI e5;obtain⟨rfl,rfl⟩:=af e6;have hn:=r.new (s:=slot) (ob:=.cells cs) (p:=some g.w.heap.size) (w':=g.w.alloc (.cells vs t)) hf (by simp) rfl rfl rfl (λb hb=>alloc_old _ _ _ hb)
  (λb h=>by cases h;exact Nat.le_refl _) (λb h=>by cases h;exact gO) λhm=>by
   refine⟨g.w.heap.size,aw _ _ _,λhi=>?_,⟨by simp,λo=>World.frozen?_alloc_new _ _ _ _⟩,λj c hc=>?_⟩
   ·exact Nat.lt_irrefl _ (r.small _ hi)
   ·obtain⟨u,h1,h2,h3⟩:=hv.2 j c hc;exact⟨u,by rw[World.cell?_alloc_new];exact h1,h2,hm _ _ h3⟩
 refine⟨_,_,rfl,rfl,hn.1,hn.2,.ref rfl ?_⟩;unfold aG;simp only[an,aw];exact⟨trivial,trivial,_,rfl,rfl⟩
theorem hG (w:World) (vs:Array Value) (t:TypeId):(w.alloc (.cells vs t)).shape? w.heap.size=some (t,vs.size):=by
 unfold World.shape?;rw[heap_alloc_new]
theorem tV (r:Rel ν k g) {slot tag:Nat} {t:TypeId} (uP:(tag==0||tag==1&&t==ν pG)=true) {v:Value} {x y:AV} (hv:RA ν g v x) {h':Hp}
  (e:((bU x).bind λxs=>(M.ok (tag==0||tag==1&&xs.length==2)).bind λ_=>(M.fresh (4*slot+tag)).bind λ_=>(M.write (4*slot+tag) (.cells xs)).bind λ_=>M.ret (.ref (4*slot+tag) 0 0 0)).run g.h=some (y,h')) :
  bf ν k g h' y ((Instr.box t v).run P g.w):=by
 obtain⟨xs,h1,e1,e2⟩:=ag e;obtain⟨rfl,hs,hc⟩:=fq e1 hv;obtain⟨bx,e4⟩:=M.aj e2;have gO:km ν (g.w.alloc (.cells v.cells t)) (4*slot+tag) g.w.heap.size:=by
  simp only[Bool.or_eq_true,Bool.and_eq_true,beq_iff_eq]at uP bx;by_cases h0:tag=0
  ·subst h0;exact .zero (by omega)
  ·obtain⟨rfl,rfl⟩:=uP.resolve_left h0;have h2:=(bx.resolve_left h0).2;exact⟨λ_=>by rw[hG,hs,h2],by omega,by omega⟩
 have:=kG (t:=t) r ⟨hs,hc⟩ gO e4;simpa[Instr.box,newVar,newRow]using this
def sK:Value->AV->Bool
 |v,.iv x=>sm v x
 |.nilFunc,.cG 0=>true
 |.nilIface,.cG 1=>true
 |.map none,.cG 2=>true
 |_,_=>false
theorem kn {v:Value} {x:AV} (h:sK v x=true) (g:Gh):v.oneCell'=true/\RA ν g v x:=by
 unfold sK at h;split at h
 ·have hR:RI ν g.I g.w v _:=j8 h _ _;exact⟨hR.one,.iv hR⟩
 ·exact⟨rfl,.cG rfl⟩
 ·exact⟨rfl,.cG rfl⟩
 ·exact⟨rfl,.cG rfl⟩
 ·cases h
def hP:List Value->List AV->Bool
 |[],[]=>true
 |v::vs,x::xs=>sK v x&&hP vs xs
 |_,_=>false
theorem ix:∀{vs:List Value} {xs:List AV},hP vs xs=true->vs.length=xs.length/\∀(j:Nat) (x:AV),xs[j]?=some x->∃v,vs[j]?=some v/\sK v x=true
 |[],[],_=>⟨rfl,λj x h=>by simp at h⟩
 |v::vs,x::xs,h=>by
  simp only[hP,Bool.and_eq_true]at h;obtain⟨h1,h2⟩:=ix h.2;refine⟨by simp[h1],λj y hj=>?_⟩;cases j with
  |zero=>simp at hj;subst hj;exact⟨v,rfl,h.1⟩
  |succ j=>simpa using h2 j y (by simpa using hj)
 |[],_::_,h=>by simp[hP]at h
 |_::_,[],h=>by simp[hP]at h
theorem qC {vs:Array Value} {xs:List AV} (h:hP vs.toList xs=true):RC ν g vs xs:=by
 obtain⟨h1,h2⟩:=ix h;refine⟨by simpa using h1,λj c hc=>?_⟩;obtain⟨v,hv,gZ⟩:=h2 j c hc;obtain⟨h3,h4⟩:=kn (ν:=ν) gZ g;exact⟨v,by simpa using hv,h3,h4⟩
def la (P:Program) (t:TypeId) (z:List AV):Bool:=
 match P.info? t with
 |some i=>(match i.zero with | some v=>hP v.cells.toList z | none=>false)
 |none=>false
theorem jY {t:TypeId} {z:List AV} (h:la P t z=true):∃i v,P.info? t=some i/\i.zero=some v/\hP v.cells.toList z=true:=by
 unfold la at h;split at h
 ·rename_i i hi;split at h
  ·rename_i v hv;exact⟨i,v,hi,hv,h⟩
  ·cases h
 ·cases h
def zY (ν:Nat->Nat) (t:TypeId) (tag:Nat) (z:List AV):Bool:=tag==0||(tag==1&&t==ν pG&&z.length==2)
theorem ou (r:Rel ν k g) {slot tag:Nat} {t:TypeId} {z:List AV} (ht:la P t z=true) (uP:zY ν t tag z=true) {y:AV} {h':Hp}
  (e:((M.ok (Nat.ble tag 1)).bind λ_=>(M.fresh (4*slot+tag)).bind λ_=>(M.write (4*slot+tag) (.cells z)).bind λ_=>M.ret (.ref (4*slot+tag) 0 0 0)).run g.h=some (y,h')) :
  bf ν k g h' y ((Instr.alloc t true (.tuple #[])).run P g.w):=by
 obtain⟨i,v,hi,hz,hc⟩:=jY ht;obtain⟨-,e2⟩:=M.aj e;have gO:km ν (g.w.alloc (.cells v.cells t)) (4*slot+tag) g.w.heap.size:=by
  simp only[zY,Bool.or_eq_true,Bool.and_eq_true,beq_iff_eq]at uP;rcases uP with rfl | ⟨⟨rfl,rfl⟩,h2⟩
  ·exact .zero (by omega)
  ·have:=(ix hc).1;simp only[Array.length_toList]at this;exact⟨λ_=>by rw[hG,this,h2],by omega,by omega⟩
 have:=kG (t:=t) r (qC hc) gO e2;simpa[Instr.alloc,zeroValue,typeInfo,hi,hz,newVar,newRow]using this
end
section
variable {ν:Nat->Nat} {P:Program} {k:Cx} {g:Gh}
theorem cD.put {w w':World} {b e o n L L':Nat} {v:Value} (h:cD w (some b) e L o n v) (hl:L=L')
  (hc:∀c,(w.cell? ⟨b,c,none⟩).isSome=true->(w'.cell? ⟨b,c,none⟩).isSome=true):cD w' (some b) e L' o n v:=by
 subst hl;obtain⟨x,cap,e1,e2,eL,e3,e4,e5⟩:=h;exact⟨x,cap,e1,e2,eL,e3,e4,λhx c h'=>hc c (e5 hx c h')⟩
theorem nh (w:World) (b:Nat):∀(vs:List Value) (o c:Nat),(w.setCells b o vs).shape? c=w.shape? c:=by
 intro vs
 induction vs generalizing w with
 |nil=>intro o c;rfl
 |cons v vs ih=>
  intro o c;rw[World.setCells,ih];simp only[World.shape?,World.setCell,Array.getElem?_modify];by_cases h:b=c
  ·subst h;cases hb:w.heap[b]? with
   |none=>simp
   |some ob=>cases ob<;>simp
  ·simp[h]
theorem Rel.put (r:Rel ν k g) {id v e b off v':Nat} {es es':List (List AV)} {vs:List Value} (hg:get g.h id=some (.buf v e es)) (ah:g.φ id=some b)
  (ey:∀j,j<vs.length->(g.w.cell? ⟨b,off+j,none⟩).isSome=true) (hv:v'=v/\es.length=es'.length\/v'=v+1)
  (aC:∀g':Gh,g'.w=g.w.setCells b off vs->aV ν g g'->mL ν g' b e es') :
  Rel ν k { g with w:=g.w.setCells b off vs,h:=set g.h id (.buf v' e es') }/\aV ν g { g with w:=g.w.setCells b off vs,h:=set g.h id (.buf v' e es') }:=by
 obtain⟨b8,cE⟩:¬g.I b/\sa g.w b:=by
  obtain⟨b',h1,h2,h3,_⟩:=r.ob id _ hg;rw[ah]at h1;cases h1;exact⟨h2,h3⟩
 have cN:=ji g.w b vs off;have ht:=r.iR (s:=id) (ob:=.buf v' e es') (p:=g.φ id) (w':=g.w.setCells b off vs) (I':=g.I) hg (λb' h=>by rw[ah]at h;cases h;exact b8) (by rw[dJ];exact Nat.le_refl _) cN.1 cN.2.1 cN.2.2
  (λb' _ bF=>iE _ _ _ _ _ λhe=>bF (by rw[he];exact ah)) (λ_ h=>h) (λ_ h=>.inl h) (.inl rfl) (λb' h=>(r.ty id _ b' hg h).same (nh _ _ _ _ _))
  (λu o n ai ho=>by
   unfold aE at ho ⊢;rw[hg]at ho;simp only[an,aw];obtain⟨h1,h2⟩:=ho;rcases hv with⟨rfl,hl⟩|rfl
   ·refine⟨h1,λhe=>?_⟩;have:=h2 he;rw[ah]at this ⊢;exact this.put hl λc hc=>fi _ _ _ _ ey _ hc
   ·exact⟨by omega,λhe=>by omega⟩)
  (λu ai i j hr=>by
   unfold aG at hr ⊢;rw[hg]at hr;simp only[an,aw];obtain⟨h1,h2⟩:=hr;rcases hv with⟨rfl,hl⟩|rfl
   ·exact⟨h1,h2⟩
   ·exact⟨by omega,λhe=>by omega⟩)
  (λ_ hm=>⟨b,(aw _ _ _).trans ah,b8,⟨by rw[dJ];exact cE.1,λo=>by rw[World.frozen?_setCells];exact cE.2 o⟩,aC _ rfl hm⟩)
 rw[jX]at ht;exact ht
theorem mL.len {b e:Nat} {es:List (List AV)} (h:mL ν g b e es) {i j:Nat} {c:List AV} {x:AV} (h1:es[i]?=some c) (h2:c[j]?=some x):j<e:=by
 have:=ay h2
 rwa [h.1 c (List.mem_of_getElem? h1)]at this
theorem Bp {g':Gh} {b e i j:Nat} {es:List (List AV)} {c l:List AV} {vs:List Value} (aC:mL ν g b e es) (hc:es[i]?=some c) (cK:j+l.length<=e) (hl:vs.length=l.length)
  (hv:∀(m:Nat) (x:AV),l[m]?=some x->∃u,vs[m]?=some u/\u.oneCell'=true/\RA ν g u x) (hex:∀m,m<vs.length->(g.w.cell? ⟨b,i*e+j+m,none⟩).isSome=true)
  (hw:g'.w=g.w.setCells b (i*e+j) vs) (hm:aV ν g g'):mL ν g' b e (es.set i (cn c j l)):=by
 have AS:c.length=e:=aC.1 c (List.mem_of_getElem? hc);have hi:=ay hc;refine⟨λc' bJ=>?_,λi2 j2 c' x' h1 h2=>?_⟩
 ·rcases List.mem_or_eq_of_mem_set bJ with h | h
  ·exact aC.1 c' h
  ·rw[h,de _ _ _ (by omega)];exact AS
 ·rw[hw,cR _ _ _ _ hex];rw[List.getElem?_set]at h1;by_cases tW:i=i2
  ·subst tW;rw[if_pos rfl,if_pos hi]at h1;cases h1;rw[gA _ _ _ (by omega)]at h2;by_cases dV:j<=j2/\j2<j+l.length
   ·rw[if_pos dV]at h2;rw[if_pos (by omega)];obtain⟨u,hu,h3,h4⟩:=hv _ x' h2;exact⟨u,by rw[show i*e+j2 - (i*e+j)=j2 - j by omega];exact hu,h3,hm _ _ h4⟩
   ·rw[if_neg dV]at h2;rw[if_neg (by omega)];obtain⟨u,h3,h4,h5⟩:=aC.2 i j2 c x' hc h2;exact⟨u,h3,h4,hm _ _ h5⟩
  ·rw[if_neg tW]at h1;have AQ:=aC.len h1 h2;have cW:¬(i*e+j<=i2*e+j2/\i2*e+j2<i*e+j+vs.length):=by
    intro⟨ha,hb⟩;rcases Nat.lt_or_gt_of_ne tW with aT | aT
    ·have:i*e+e<=i2*e:=by rw[<-Nat.succ_mul];exact Nat.mul_le_mul_right _ aT
     omega
    ·have:i2*e+e<=i*e:=by rw[<-Nat.succ_mul];exact Nat.mul_le_mul_right _ aT
     omega
   rw[if_neg cW];obtain⟨u,h3,h4,h5⟩:=aC.2 i2 j2 c' x' h1 h2;exact⟨u,h3,h4,hm _ _ h5⟩
theorem uQ (r:Rel ν k g) {sz:Nat} {va vx:Value} {a x y:AV} (cc:RA ν g va a) (ov:RA ν g vx x) {h':Hp}
  (e':(store sz a x).run g.h=some (y,h')) :
  ∃b off g',va = .pointer (some ⟨b,off,none⟩)/\y = .aR []/\g'.w=g.w.setCells b off vx.cells.toList/\vx.cells.size=sz/\(∀o,g.w.frozen? ⟨b,o,none⟩=false)/\(∀m,m<sz->(g.w.cell? ⟨b,off+m,none⟩).isSome=true)/\
   g'.h=h'/\Rel ν k g'/\aV ν g g'/\∀u ∈ vx.cells.toList,u.oneCell'=true:=by
 obtain⟨xs,h1,e1,e2⟩:=ag e';obtain⟨rfl,hs,hc⟩:=fq e1 ov;obtain⟨hl,e4⟩:=M.aj e2;have jL:xs.length=sz:=by simpa using hl
 have ef:∀u ∈ vx.cells.toList,u.oneCell'=true:=by
  intro u hu;obtain⟨j,hj,rfl⟩:=List.getElem_of_mem hu;simp only[Array.length_toList]at hj;obtain⟨u',h1,h2,_⟩:=hc j _ (List.getElem?_eq_getElem (by omega));rw[Array.getElem?_eq_getElem hj]at h1;cases h1;simpa using h2
 split at e4
 case h_2=>exact(ae e4).elim
 rename_i id ai i' j;cases cc with
 |ref kF hr=>
  obtain⟨ob,hg,e6⟩:=M.aM e4;unfold aG at hr;rw[hg]at hr;cases ob with
  |aZ _ _ _=>exact(ae e6).elim
  |c7 _=>exact(ae e6).elim
  |map _=>exact(ae e6).elim
  |cells cs=>
   obtain⟨rfl,rfl,b,ah,rfl⟩:=hr;obtain⟨cK,e8⟩:=M.aj e6;have qZ:j+sz<=cs.length:=by simpa using cK
   obtain⟨_,h6,ow,lr⟩:=ag e8;obtain rfl:=aI ow;obtain⟨rfl,rfl⟩:=af lr;obtain⟨b',aN,b8,cE,ox⟩:=r.ob id _ hg;rw[ah]at aN;cases aN;have hex:∀m,m<vx.cells.toList.length->(g.w.cell? ⟨b,j+m,none⟩).isSome=true:=by
    intro m hm;simp only[Array.length_toList]at hm;obtain⟨u,hu,_⟩:=ox (j+m) _ (List.getElem?_eq_getElem (by omega));rw[hu];rfl
   have cN:=ji g.w b vx.cells.toList j;have ht:=r.iR (s:=id) (ob:=.cells (cn cs j xs)) (p:=g.φ id) (w':=g.w.setCells b j vx.cells.toList) (I':=g.I) hg (λb' h=>by rw[ah]at h;cases h;exact b8)
    (by rw[dJ];exact Nat.le_refl _) cN.1 cN.2.1 cN.2.2
    (λb' _ bF=>iE _ _ _ _ _ λhe=>bF (by rw[he];exact ah)) (λ_ h=>h) (λ_ h=>.inl h) (.inl rfl) (λb' h=>(r.ty id _ b' hg h).same (nh _ _ _ _ _))
    (λu o n ai ho=>by
     unfold aE at ho ⊢;rw[hg]at ho;simp only[an,aw];refine⟨ho.1,?_⟩;have:=ho.2;rw[ah]at this ⊢;exact this.put (by rw[de _ _ _ (by omega)]) λc hc=>fi _ _ _ _ hex _ hc)
    (λu ai m n hr=>by
     unfold aG at hr ⊢;rw[hg]at hr;simp only[an,aw];exact hr)
    (λ_ hm=>by
     refine⟨b,(aw _ _ _).trans ah,b8,⟨by rw[dJ];exact cE.1,λo=>by rw[World.frozen?_setCells];exact cE.2 o⟩,λm c dv=>?_⟩;rw[gA _ _ _ (by omega)]at dv;simp only[];rw[cR _ _ _ _ hex];simp only[Array.length_toList,hs,jL];by_cases dV:j<=m/\m<j+sz
     ·rw[if_pos (by omega)]at dv;rw[if_pos dV];obtain⟨u,h1,h2,h3⟩:=hc _ c dv;exact⟨u,by simpa using h1,h2,hm _ _ h3⟩
     ·rw[if_neg (by omega)]at dv;rw[if_neg dV];obtain⟨u,h1,h2,h3⟩:=ox m c dv;exact⟨u,h1,h2,hm _ _ h3⟩)
   rw[jX]at ht;exact⟨b,j,_,rfl,rfl,rfl,by omega,cE.2,by simpa[hs,jL]using hex,rfl,ht.1,ht.2,ef⟩
  |buf v e es=>
   obtain⟨bx,lr⟩:=M.aj e6;simp only[Bool.and_eq_true,beq_iff_eq,Nat.ble_eq]at bx;obtain⟨hv,cK⟩:=bx;obtain⟨c,kW,q8⟩:=M.lift_bind lr;obtain⟨_,h8,B6,B7⟩:=ag q8;obtain rfl:=aI B6;obtain⟨rfl,rfl⟩:=af B7;obtain⟨b,ah,rfl⟩:=hr.2 hv;obtain⟨b',h1,b8,cE,aC⟩:=r.ob id _ hg;rw[ah]at h1;cases h1;have AS:c.length=e:=aC.1 c (List.mem_of_getElem? kW);have hex:∀m,m<vx.cells.toList.length->(g.w.cell? ⟨b,i'*e+j+m,none⟩).isSome=true:=by
    intro m hm;simp only[Array.length_toList]at hm;obtain⟨u,hu,_⟩:=aC.2 i' (j+m) c _ kW (List.getElem?_eq_getElem (by omega));rw[Nat.add_assoc,hu];rfl
   have eJ:=r.put (id:=id) (v:=v) (e:=e) (b:=b) (off:=i'*e+j) (v':=v) (es:=es) (es':=es.set i' (cn c j xs)) (vs:=vx.cells.toList) hg ah hex (.inl ⟨rfl,by simp⟩)
    (λg' hw hm=>Bp aC kW (by omega) (by simp;omega) (λm x h=>by obtain⟨u,h1,h2,h3⟩:=hc m x h;exact⟨u,by simpa using h1,h2,h3⟩) hex hw hm)
   exact⟨b,i'*e+j,_,rfl,rfl,rfl,by omega,cE.2,by simpa[hs,jL]using hex,rfl,eJ.1,eJ.2,ef⟩
theorem qk (r:Rel ν k g) {t:TypeId} {sz:Nat} (ht:jj P t sz=true) {va vx:Value} {a x y:AV} (cc:RA ν g va a) (ov:RA ν g vx x) {h':Hp}
  (e':(store sz a x).run g.h=some (y,h')) :
  ∃g',(Instr.storeAt t va vx).run P g.w = .ok () g'.w/\y = .aR []/\g'.h=h'/\Rel ν k g'/\aV ν g g':=by
 obtain⟨i,hi,rfl⟩:=ft ht;obtain⟨b,off,g',rfl,h1,h2,h3,h4,h5,h6,h7,h8,h9⟩:=uQ r cc ov e';exact⟨g',by rw[h2];exact mD hi h3 (by simpa using h5) h4 h9,h1,h6,h7,h8⟩
end
section
variable {ν:Nat->Nat} {P:Program} {k:Cx} {g:Gh}
def j9 (ν:Nat->Nat) (g:Gh) (vs:Array Value) (e:Nat) (es:List (List AV)):Prop:=
 vs.size=es.length*e/\(∀c ∈ es,c.length=e)/\∀(i j:Nat) (c:List AV) (x:AV),es[i]?=some c->c[j]?=some x->∃u,vs[i*e+j]?=some u/\u.oneCell'=true/\RA ν g u x
theorem j9.step {vs us:Array Value} {e i0:Nat} {es:List (List AV)} {l:List AV} (h:j9 ν g vs e es) (hi:i0<es.length) (hu:us.size=e) (hl:l.length=e)
  (hr:∀(m:Nat) (x:AV),l[m]?=some x->∃u,us[m]?=some u/\u.oneCell'=true/\RA ν g u x) :
  j9 ν g ((us.toList.zipIdx).foldl (λcs (p:Value×Nat)=>cs.setIfInBounds (i0*e+p.2) p.1) vs) e (es.set i0 l):=by
 have cK:i0*e+e<=vs.size:=by rw[h.1,<-Nat.succ_mul];exact Nat.mul_le_mul_right _ hi
 have hs:=jh (i0*e) us.toList 0 vs (by simp;omega);simp only[Nat.add_zero,Array.length_toList,hu]at hs;refine⟨by rw[hs.1,h.1];simp,λc hc=>?_,λi j c x h1 h2=>?_⟩
 ·rcases List.mem_or_eq_of_mem_set hc with h' | h'
  ·exact h.2.1 c h'
  ·rw[h',hl]
 ·rw[hs.2,List.getElem?_set]at *;by_cases oy:i0=i
  ·subst oy;rw[if_pos rfl,if_pos hi]at h1;cases h1;have hj:=ay h2;rw[if_pos (by omega),show i0*e+j - i0*e=j by omega];simpa using hr j x h2
  ·rw[if_neg oy]at h1;have hj:j<e:=by have:=ay h2;rw[h.2.1 c (List.mem_of_getElem? h1)]at this;exact this
   have cW:¬(i0*e<=i*e+j/\i*e+j<i0*e+e):=by
    intro⟨ha,hb⟩;rcases Nat.lt_or_gt_of_ne oy with aT | aT
    ·have:i0*e+e<=i*e:=by rw[<-Nat.succ_mul];exact Nat.mul_le_mul_right _ aT
     omega
    ·have:i*e+e<=i0*e:=by rw[<-Nat.succ_mul];exact Nat.mul_le_mul_right _ aT
     omega
   rw[if_neg cW];exact h.2.2 i j c x h1 h2
theorem yV {e n:Nat}:∀(ps:List (Nat×AV)) (h h':Hp) (out:List (Nat×List AV)),
  (M.aJ (λp:Nat×AV=>(bU p.2).bind λxs=>(M.ok (xs.length==e&&Nat.blt p.1 n)).bind λ_=>M.ret (p.1,xs)) ps).run h=some (out,h')->
  ∀vs:List (Nat×Value),vs.length=ps.length->(∀(j:Nat) (q:Nat×Value) (p:Nat×AV),vs[j]?=some q->ps[j]?=some p->q.1=p.1/\RA ν g q.2 p.2)->
  h'=h/\out.length=vs.length/\∀(j:Nat) (p:Nat×List AV) (q:Nat×Value),out[j]?=some p->vs[j]?=some q->
   q.1=p.1/\p.1<n/\q.2.cells.size=e/\p.2.length=e/\∀(m:Nat) (x:AV),p.2[m]?=some x->∃u,q.2.cells[m]?=some u/\u.oneCell'=true/\RA ν g u x:=by
 intro ps
 induction ps with
 |nil=>
  intro h h' out e' vs hl _;obtain⟨rfl,rfl⟩:=b7 e';have:vs=[]:=List.eq_nil_of_length_eq_zero hl;subst this;exact⟨rfl,rfl,λj p q h=>by simp at h⟩
 |cons p ps ih=>
  intro h h' out e' vs hl hv;obtain⟨y,h1,zs,e1,e2,rfl⟩:=bR e';cases vs with
  |nil=>simp at hl
  |cons q vs=>
   obtain⟨hq,B8⟩:=hv 0 q p rfl rfl;obtain⟨xs,h2,e3,e4⟩:=ag e1;obtain⟨rfl,hs,hc⟩:=fq e3 B8;obtain⟨bx,e6⟩:=M.aj e4;simp only[Bool.and_eq_true,beq_iff_eq,Nat.blt_eq]at bx;obtain⟨rfl,rfl⟩:=af e6;obtain⟨rfl,mS,s5⟩:=ih _ h' zs e2 vs (by simpa using hl) λj q' p' h1 h2=>hv (j+1) q' p' (by simpa using h1) (by simpa using h2)
   refine⟨rfl,by simp[mS],λj p' q' h1 h2=>?_⟩;cases j with
   |zero=>
    simp at h1 h2;subst h1 h2;exact⟨hq,bx.2,by omega,bx.1,hc⟩
   |succ j=>exact s5 j p' q' (by simpa using h1) (by simpa using h2)
theorem ql {e:Nat}:∀(out:List (Nat×List AV)) (vs:List (Nat×Value)) (cells:Array Value) (es:List (List AV)),out.length=vs.length->j9 ν g cells e es->
  (∀(j:Nat) (p:Nat×List AV) (q:Nat×Value),out[j]?=some p->vs[j]?=some q->
   q.1=p.1/\p.1<es.length/\q.2.cells.size=e/\p.2.length=e/\∀(m:Nat) (x:AV),p.2[m]?=some x->∃u,q.2.cells[m]?=some u/\u.oneCell'=true/\RA ν g u x)->
  ∃eR,Instr.fill (λi=>some (i*e,e)) cells vs=some eR/\j9 ν g eR e (dK es out):=by
 intro out
 induction out with
 |nil=>
  intro vs cells es hl aC _;have:vs=[]:=List.eq_nil_of_length_eq_zero hl.symm;subst this;exact⟨cells,rfl,aC⟩
 |cons p out ih=>
  intro vs cells es hl aC hh;cases vs with
  |nil=>simp at hl
  |cons q vs=>
   obtain⟨h1,h2,h3,h4,h5⟩:=hh 0 p q rfl rfl;have pz:=aC.step (i0:=p.1) (us:=q.2.cells) (l:=p.2) h2 h3 h4 h5;obtain⟨c',bJ,gp⟩:=ih vs _ (es.set p.1 p.2) (by simpa using hl) pz λj p' q' a b=>by
    obtain⟨x1,x2,x3⟩:=hh (j+1) p' q' (by simpa using a) (by simpa using b);exact⟨x1,by simpa using x2,x3⟩
   refine⟨c',?_,gp⟩;rw[<-bJ];have cK:¬(cells.size<q.1*e+e):=by
    have:p.1*e+e<=es.length*e:=by rw[<-Nat.succ_mul];exact Nat.mul_le_mul_right _ h2
    rw[aC.1,h1];omega
   obtain⟨i,v⟩:=q;simp only at h1 h3 cK;subst h1;simp only[Instr.fill,h3];rw[if_neg (by simp;omega)];congr 1;rw[<-Array.foldl_toList,Array.toList_zipIdx]
def zZ (P:Program) (t:TypeId) (len e:Nat) (z:List AV):Bool:=
 match P.underlying t with
 |some (.slice el)=>jj P el e&&la P el z&&Nat.ble (len*e) 16777216&&z.length==e&&Nat.blt 0 e
 |_=>false
theorem me {zs:Array Value} {z:List AV} (hz:hP zs.toList z=true) (n:Nat) :
  j9 ν g ((Array.range (n*zs.size)).map (zs[· % zs.size]!)) zs.size (List.replicate n z):=by
 obtain⟨h1,h2⟩:=ix hz;refine⟨by simp,λc hc=>by rw[List.eq_of_mem_replicate hc];simpa using h1.symm,λi j c x hi hj=>?_⟩;have bY:=ay hi;simp only[List.length_replicate]at bY;rw[List.getElem?_replicate,if_pos bY]at hi;cases hi;have AT:=ay hj;obtain⟨v,hv,hc⟩:=h2 j x hj;have tX:j<zs.size:=by simp at h1;omega
 have aT:i*zs.size+j<n*zs.size:=by
  have:i*zs.size+zs.size<=n*zs.size:=by rw[<-Nat.succ_mul];exact Nat.mul_le_mul_right _ bY
  omega
 obtain⟨k1,k2⟩:=kn (ν:=ν) hc g;refine⟨v,?_,k1,k2⟩;have qm:(i*zs.size+j) % zs.size=j:=by rw[Nat.add_comm,Nat.add_mul_mod_self_right,Nat.mod_eq_of_lt tX]
 simp only[Array.getElem?_map,Array.getElem?_range,if_pos aT,Option.map_some,qm];rw[getElem!_pos zs j tX];have:zs[j]?=some v:=by simpa using hv
 rw[Array.getElem?_eq_getElem tX]at this;exact this
theorem mr (r:Rel ν k g) {slot e n cap:Nat} {el:TypeId} {es:List (List AV)} {cells:Array Value} {w0:World} (hw:w0=g.w\/w0=g.w.drew) (hf:get g.h slot=none) (gO:slot % 4=0\/slot % 4=2/\el=ν lT) (hn:es.length=n) (hl:∀c ∈ es,c.length=e) (eH:n<=cap)
  (bB:cells.size=cap*e) (aC:∀(i j:Nat) (c:List AV) (x:AV),es[i]?=some c->c[j]?=some x->∃u,cells[i*e+j]?=some u/\u.oneCell'=true/\RA ν g u x) :
  bf ν k g (set g.h slot (.buf 0 e es)) (.own slot 0 n 0) (.ok (.slice (some ⟨g.w.heap.size,0,none⟩) n cap) (w0.alloc (.cells cells el))):=by
 have tf:w0.heap=g.w.heap:=by rcases hw with rfl | rfl<;>rfl
 have z6:(w0.alloc (.cells cells el)).os=g.w.os/\(w0.alloc (.cells cells el)).tape=g.w.tape/\(w0.alloc (.cells cells el)).output=g.w.output:=by rcases hw with rfl | rfl<;>exact⟨rfl,rfl,rfl⟩
 have cZ:=r.new (s:=slot) (ob:=.buf 0 e es) (p:=some g.w.heap.size) (w':=w0.alloc (.cells cells el)) hf (by simp[tf]) z6.1 z6.2.1 z6.2.2 (λb hb=>by rw[alloc_old w0 _ _ (by rw[tf];exact hb),tf])
  (λb h=>by cases h;exact Nat.le_refl _) (λb h=>by
   cases h;rcases gO with h | ⟨h,rfl⟩
   ·exact .zero h
   ·exact⟨by omega,λ_=>⟨cells.size,by rw[<-tf];exact hG _ _ _⟩,by omega⟩) λhm=>by
   refine⟨g.w.heap.size,aw _ _ _,λbY=>Nat.lt_irrefl _ (r.small _ bY),⟨by simp[tf],λo=>by rw[<-tf];exact World.frozen?_alloc_new _ _ _ _⟩,hl,λa b c x h1 h2=>?_⟩;obtain⟨u,dD,h3,hR⟩:=aC a b c x h1 h2;exact⟨u,by simp only[];rw[<-tf,World.cell?_alloc_new];exact dD,h3,hm _ _ hR⟩
 refine⟨_,_,rfl,rfl,cZ.1,cZ.2,.own rfl ?_⟩;unfold aE;simp only[an,aw];refine⟨Nat.le_refl _,λ_=>⟨0,cap,rfl,by omega,by omega,eH,.inl (by simp),λ_ c hc=>?_⟩⟩;rw[<-tf,World.cell?_alloc_new,Array.getElem?_eq_getElem (by rw[bB];simpa using hc)];rfl
theorem tY (r:Rel ν k g) {slot:Nat} {t:TypeId} {n e:Nat} {z:List AV} (ht:zZ P t n e z=true) {ps:List (Nat×AV)} {vs:List (Nat×Value)} (hl:vs.length=ps.length)
  (hv:∀(j:Nat) (q:Nat×Value) (p:Nat×AV),vs[j]?=some q->ps[j]?=some p->q.1=p.1/\RA ν g q.2 p.2) {y:AV} {h':Hp}
  (e':((M.ok (z.length==e)).bind λ_=>
   (M.aJ (λp:Nat×AV=>(bU p.2).bind λxs=>(M.ok (xs.length==e&&Nat.blt p.1 n)).bind λ_=>M.ret (p.1,xs)) ps).bind λl=>
   (M.fresh (4*slot)).bind λ_=>(M.write (4*slot) (.buf 0 e (dK (List.replicate n z) l))).bind λ_=>M.ret (.own (4*slot) 0 n 0)).run g.h=some (y,h')) :
  bf ν k g h' y ((Instr.buildSlice t n vs.toArray).run P g.w):=by
 unfold zZ at ht;split at ht
 case h_2=>cases ht
 rename_i el hu;simp only[Bool.and_eq_true,beq_iff_eq,Nat.ble_eq,Nat.blt_eq]at ht;obtain⟨⟨⟨⟨bB,hz⟩,Gt⟩,s6⟩,dL⟩:=ht;obtain⟨i,hi,q9⟩:=ft bB;obtain⟨i',v,bY,oz,gZ⟩:=jY hz;rw[hi]at bY;cases bY;subst q9;have eS:v.cells.size=i.size:=by have:=(ix gZ).1;simp at this;omega
 obtain⟨-,e2⟩:=M.aj e';obtain⟨out,h2,e3,e4⟩:=ag e2;obtain⟨rfl,iO,sn⟩:=yV ps _ _ out e3 vs hl hv;obtain⟨_,h3,e5,e6⟩:=ag e4;obtain⟨hf,rfl⟩:=M.ct e5;obtain⟨_,h4,e7,e8⟩:=ag e6;obtain rfl:=aI e7;obtain⟨rfl,rfl⟩:=af e8;have ra:=me (ν:=ν) (g:=g) gZ n;rw[eS]at ra;obtain⟨cells,fu,aC⟩:=ql out vs _ _ iO ra λj p q a b=>by
  obtain⟨x1,x2,x3⟩:=sn j p q a b;exact⟨x1,by simpa using x2,x3⟩
 have hlen:(dK (List.replicate n z) out).length=n:=by
  have:∀(o:List (Nat×List AV)) (l:List (List AV)),(dK l o).length=l.length:=by
   intro o
   induction o with
   |nil=>intro l;rfl
   |cons a o ih=>intro l;simp[dK,ih]
  rw[this];simp
 have aY:(Instr.buildSlice t n vs.toArray).run P g.w = .ok (.slice (some ⟨g.w.heap.size,0,none⟩) n n) (g.w.alloc (.cells cells el)):=by
  have B9:¬(2 ^ 24<n*i.size):=by omega
  by_cases gP:n=0
  ·subst gP;simp only[Nat.zero_mul,Array.range_zero',List.map_toArray]at fu;simp only[Instr.buildSlice,Sem.run_bind,run_underlying hu,Result.andThen_ok,run_sizeOf hi];simp at fu;simp[fu,newRow,Array.range_zero']
  ·simp only[Instr.buildSlice,Sem.run_bind,run_underlying hu,Result.andThen_ok,run_sizeOf hi];have Ca:¬n*i.size=0:=Nat.mul_ne_zero gP (by omega);simp[B9,Ca,zeroValue,typeInfo,hi,oz,eS,fu,newRow]
 rw[aY];exact mr r (.inl rfl) hf (.inl (by omega)) hlen aC.2.1 (Nat.le_refl _) (by rw[aC.1,hlen]) aC.2.2
theorem CT (r:Rel ν k g) {t:TypeId} {e:Nat} (ht:sliceB P t e=true):bf ν k g g.h (.iv (.aq e)) ((Instr.buildSlice t 0 #[]).run P g.w):=by
 obtain⟨el,i,hu,hi,rfl⟩:=dz ht;have aY:(Instr.buildSlice t 0 #[]).run P g.w = .ok (.slice (some ⟨g.w.heap.size,0,none⟩) 0 0) (g.w.alloc (.cells #[] el)):=by
  simp only[Instr.buildSlice,Sem.run_bind,run_underlying hu,Result.andThen_ok,run_sizeOf hi];simp[newRow,Array.range_zero',Instr.fill]
 obtain⟨r',m⟩:=r.world (w':=g.w.alloc (.cells #[] el)) (I':=g.I) (λ_ h=>h) (λ_ h=>.inl h) (by simp) rfl rfl rfl λb hb=>alloc_old _ _ _ hb
 exact⟨{ g with I:=g.I,w:=g.w.alloc (.cells #[] el) },_,aY,rfl,r',m,.iv (.aq _ _)⟩
end
section
variable {ν:Nat->Nat} {P:Program} {k:Cx} {g:Gh}
def xg (ν:Nat->Nat) (P:Program) (g:Gh) (v:Value) (e:Nat) (ys:List (List AV)) (news:List Value):Prop:=
 (∀w:World,(∀b off u,g.w.cell? ⟨b,off,none⟩=some u->w.cell? ⟨b,off,none⟩=some u)->(Builtin.lenOf v).run P w = .ok ys.length w/\(Builtin.firstCells e ys.length v).run P w = .ok news.toArray w)/\
 news.length=ys.length*e/\(∀c ∈ ys,c.length=e)/\
 ∀(i j:Nat) (c:List AV) (x:AV),ys[i]?=some c->c[j]?=some x->∃u,news[i*e+j]?=some u/\u.oneCell'=true/\RA ν g u x
def ka (ν:Nat->Nat) (g:Gh) (v:Value) (e:Nat) (ys:List (List AV)) (news:List Value):Prop:=
 (∃a c,v = .slice a ys.length c/\(ys.length=0\/∃b off,a=some ⟨b,off,none⟩/\∀(p:Nat) (u:Value),news[p]?=some u->g.w.cell? ⟨b,off+p,none⟩=some u))/\
 news.length=ys.length*e/\(∀c ∈ ys,c.length=e)/\
 ∀(i j:Nat) (c:List AV) (x:AV),ys[i]?=some c->c[j]?=some x->∃u,news[i*e+j]?=some u/\u.oneCell'=true/\RA ν g u x
theorem ka.EM {v:Value} {e:Nat} {ys:List (List AV)} {news:List Value} (h:ka ν g v e ys news):xg ν P g v e ys news:=by
 obtain⟨⟨a,c,rfl,ha⟩,hn,hr⟩:=h;refine⟨λw hw=>⟨by simp[Builtin.lenOf],?_⟩,hn,hr⟩;rcases ha with h0 | ⟨b,off,rfl,hc⟩
 ·have:news=[]:=List.eq_nil_of_length_eq_zero (by rw[hn,h0];simp);subst this;cases a with
  |none=>simp[Builtin.firstCells]
  |some a=>simp[Builtin.firstCells,h0,loadCells,loadCellsFrom]
 ·exact run_firstCells_some w e ys.length _ _ _ news hn λj u hu=>by rw[Addr.add_lit];exact hw _ _ _ (hc j u hu)
theorem kb {b off e m cap:Nat} {ys:List (List AV)} (hm:m=ys.length) (hl:∀c ∈ ys,c.length=e)
  (hc:∀(i j:Nat) (c:List AV) (x:AV),ys[i]?=some c->c[j]?=some x->∃u,g.w.cell? ⟨b,off+i*e+j,none⟩=some u/\u.oneCell'=true/\RA ν g u x) :
  ∃news,ka ν g (.slice (some ⟨b,off,none⟩) m cap) e ys news:=by
 subst hm;obtain⟨F,hF⟩:=qS (cs:=ys) (P:=λi (f:Nat->Value) c=>∀(j:Nat) (x:AV),c[j]?=some x->g.w.cell? ⟨b,off+i*e+j,none⟩=some (f j)/\(f j).oneCell'=true/\RA ν g (f j) x)
  λi c kW=>pick λj x hx=>hc i j c x kW hx
 obtain⟨news,hn,rb⟩:=oA (e:=e) (m:=ys.length) (f:=F);refine⟨news,⟨_,cap,rfl,.inr ⟨b,off,rfl,λp u hu=>?_⟩⟩,hn,hl,λi j c x h1 h2=>?_⟩
 ·have hp:=ay hu;rw[hn]at hp;obtain⟨i,j,hi,hj,rfl⟩:=k8 hp;rw[rb i j hi hj]at hu;cases hu;have hle:=hl _ (List.getElem_mem hi);rw[<-Nat.add_assoc];exact(hF i _ (List.getElem?_eq_getElem hi) j _ (List.getElem?_eq_getElem (by omega))).1
 ·have hi:=ay h1;have hj:j<e:=by have:=ay h2;rwa [hl c (List.mem_of_getElem? h1)]at this
  exact⟨_,rb i j hi hj,(hF i c h1 j x h2).2⟩
theorem gB {v:Value} {e:Nat} {a:Option Addr} {c:Nat} (hv:v = .slice a 0 c):ka ν g v e [] []:=
 ⟨⟨a,c,hv,.inl rfl⟩,by simp,λc h=>by simp at h,λi j c x h=>by simp at h⟩
theorem kc (r:Rel ν k g) {e:Nat} {x:AV} {ys:List (List AV)} {h':Hp} (e':(elems e x).run g.h=some (ys,h')) {v:Value} (hv:RA ν g v x):h'=g.h/\∃news,ka ν g v e ys news:=by
 cases hv with
 |undef=>exact(ae e').elim
 |cG=>exact(ae e').elim
 |agg=>exact(ae e').elim
 |aR=>exact(ae e').elim
 |ref=>exact(ae e').elim
 |bp=>exact(ae e').elim
 |iv hr=>
  cases hr with
  |aq a _=>obtain⟨rfl,rfl⟩:=af e';exact⟨rfl,_,gB rfl⟩
  |dU a cap _=>
   obtain⟨-,e2⟩:=M.aj e';obtain⟨rfl,rfl⟩:=af e2;exact⟨rfl,_,gB rfl⟩
  |sl b off n cap aD es f hI hn eH lq hc hr=>
   obtain⟨he,e2⟩:=M.aj e';obtain⟨rfl,rfl⟩:=af e2;have cr:aD=e:=by simpa using he
   subst cr;refine⟨rfl,kb (by simpa using hn) (λc bJ=>?_) (λi j c x h1 h2=>?_)⟩
   ·simp only[List.mem_map]at bJ;obtain⟨c',bJ,rfl⟩:=bJ;simpa using lq c' bJ
   ·simp only[List.getElem?_map,Option.map_eq_some_iff]at h1;obtain⟨c',h1,rfl⟩:=h1;simp only[List.getElem?_map,Option.map_eq_some_iff]at h2;obtain⟨x',h2,rfl⟩:=h2;exact⟨_,hc i j c' x' h1 h2,(hr i j c' x' h1 h2).one,.iv (hr i j c' x' h1 h2)⟩
  |_=>exact(ae e').elim
 |@own _ id o m ai j4 ho=>
  obtain⟨ob,hg,e2⟩:=M.aM e';have fin:∀{L:Nat} {ys:List (List AV)},ys.length=m->(∀c ∈ ys,c.length=e)->
    (∀b,g.φ id=some b->∀(i j:Nat) (c:List AV) (x:AV),ys[i]?=some c->c[j]?=some x->∃u,g.w.cell? ⟨b,(o+i)*e+j,none⟩=some u/\u.oneCell'=true/\RA ν g u x)->
    cD g.w (g.φ id) e L o m v->∃news,ka ν g v e ys news:=by
   intro L ys FJ mT Ji hs;by_cases hm:m=0
   ·subst hm;have:ys=[]:=List.eq_nil_of_length_eq_zero FJ;subst this;cases ah:g.φ id with
    |none=>rw[ah]at hs;obtain⟨⟨a,rfl⟩,_⟩:=hs;exact⟨[],gB rfl⟩
    |some b=>rw[ah]at hs;obtain⟨x,cap,rfl,_⟩:=hs;exact⟨[],gB rfl⟩
   ·cases ah:g.φ id with
    |none=>rw[ah]at hs;obtain⟨_,h0,_⟩:=hs;exact absurd h0 hm
    |some b=>
     rw[ah]at hs;obtain⟨x,cap,rfl,h2,_,h3,h4,_⟩:=hs;have hx:x=o*e:=h4.resolve_right λh=>hm h.1
     subst hx;exact kb FJ.symm mT λi j c y h1 h2=>by
      obtain⟨u,hu,hR⟩:=Ji b ah i j c y h1 h2;exact⟨u,by rwa [Nat.add_mul]at hu,hR⟩
  unfold aE at ho;rw[hg]at ho;cases ob with
  |map _=>exact ho.elim
  |buf v' aD es=>
   obtain⟨cw,dg⟩:=M.aj e2;obtain⟨rfl,rfl⟩:=af dg;simp only[Bool.and_eq_true,beq_iff_eq]at cw;obtain⟨rfl,rfl⟩:=cw;have hs:=ho.2 rfl;have hf:=hs.fits;obtain⟨b',h1,_,_,aC⟩:=r.ob id _ hg;exact⟨rfl,fin (by simp;omega) (λc hc=>aC.1 c (List.mem_of_mem_drop (List.mem_of_mem_take hc))) (λb hb i j c x h2 h3=>by
    rw[hb]at h1;cases h1;exact aC.2 _ j c x (jC h2).2 h3) hs⟩
  |aZ v' aD es=>
   obtain⟨cw,dg⟩:=M.aj e2;obtain⟨rfl,rfl⟩:=af dg;simp only[Bool.and_eq_true,beq_iff_eq]at cw;obtain⟨rfl,rfl⟩:=cw;have hs:=ho.2 rfl;have hf:=hs.fits;obtain⟨b',h1,_,aC⟩:=r.ob id _ hg;refine⟨rfl,fin (by simp;omega) (λc hc=>?_) (λb hb i j c x h2 h3=>?_) hs⟩
   ·simp only[List.mem_map]at hc;obtain⟨c',bJ,rfl⟩:=hc;simpa using aC.1 c' (List.mem_of_mem_drop (List.mem_of_mem_take bJ))
   ·rw[hb]at h1;cases h1;simp only[List.getElem?_map,Option.map_eq_some_iff]at h2;obtain⟨c',h2,rfl⟩:=h2;simp only[List.getElem?_map,Option.map_eq_some_iff]at h3;obtain⟨x',h3,rfl⟩:=h3;obtain⟨u,hu,hR⟩:=aC.2 _ j c' x' (jC h2).2 h3;exact⟨u,hu,hR.one,.iv hR⟩
  |cells cs=>
   obtain⟨cw,dg⟩:=M.aj e2;obtain⟨rfl,rfl⟩:=af dg;simp only[Bool.and_eq_true,beq_iff_eq]at cw;obtain⟨-,rfl⟩:=cw;have hf:=ho.2.fits;obtain⟨b',h1,_,_,aC⟩:=r.ob id _ hg;refine⟨rfl,fin (by simp;omega) (λc hc=>?_) (λb hb i j c x h2 h3=>?_) ho.2⟩
   ·simp only[List.mem_map]at hc;obtain⟨c',bJ,rfl⟩:=hc;rfl
   ·rw[hb]at h1;cases h1;simp only[List.getElem?_map,Option.map_eq_some_iff]at h2;obtain⟨c',h2,rfl⟩:=h2;cases j with
    |succ j=>simp at h3
    |zero=>
     simp at h3;subst h3;have:=aC _ _ (jC h2).2;simpa using this
  |c7 cs=>
   obtain⟨cw,dg⟩:=M.aj e2;obtain⟨rfl,rfl⟩:=af dg;simp only[Bool.and_eq_true,beq_iff_eq]at cw;obtain⟨-,rfl⟩:=cw;have hf:=ho.2.fits;obtain⟨b',h1,_,aC⟩:=r.ob id _ hg;refine⟨rfl,fin (by simp;omega) (λc hc=>?_) (λb hb i j c x h2 h3=>?_) ho.2⟩
   ·simp only[List.mem_map]at hc;obtain⟨c',bJ,rfl⟩:=hc;rfl
   ·rw[hb]at h1;cases h1;simp only[List.getElem?_map,Option.map_eq_some_iff]at h2;obtain⟨c',h2,rfl⟩:=h2;cases j with
    |succ j=>simp at h3
    |zero=>
     simp at h3;subst h3;obtain⟨u,hu,hR⟩:=aC _ _ (jC h2).2;exact⟨u,by simpa using hu,hR.one,.iv hR⟩
theorem yW (r:Rel ν k g) {e:Nat} {x:AV} {ys:List (List AV)} {h':Hp} (e':(lR e x).run g.h=some (ys,h')) {v:Value} (hv:RA ν g v x):h'=g.h/\∃news,xg ν P g v e ys news:=by
 unfold lR at e';split at e'
 ·rename_i s;obtain⟨he,e2⟩:=M.aj e';obtain⟨rfl,rfl⟩:=af e2;have cr:e=1:=by simpa using he
  subst cr;obtain rfl:=hv.str;refine⟨rfl,s.data.toList.map λb=>.int .u8 b.toNat,λw _=>⟨by simp[Builtin.lenOf,jB],?_⟩,by simp[jB],λc hc=>?_,λi j c x h1 h2=>?_⟩
  ·have hx:s.extract 0 (jB s).length=s:=by
    have:(jB s).length=s.size:=by simp[jB]
    rw[this];apply ByteArray.ext;simp
   simp only[Builtin.firstCells,hx];simp[Array.ext_iff]
  ·simp only[jB,List.mem_map]at hc;obtain⟨b,_,rfl⟩:=hc;rfl
  ·simp only[jB,List.getElem?_map,Option.map_eq_some_iff]at h1;obtain⟨b,hb,rfl⟩:=h1;cases j with
   |succ j=>simp at h2
   |zero=>
    simp at h2;subst h2;exact⟨.int .u8 b.toNat,by simp[hb],rfl,.iv (.int _ _)⟩
 ·obtain⟨h1,news,h2⟩:=kc r e' hv;exact⟨h1,news,h2.EM⟩
theorem fw {t u ty:TypeId} {e:Nat} (ht:oB P t u e=true) {base:Option Addr} {n cap:Nat} {olds:List Value} (iO:olds.length=n*e)
  (ho:n=0\/∃b x,base=some ⟨b,x,none⟩/\∀(p:Nat) (u:Value),olds[p]?=some u->g.w.cell? ⟨b,x+p,none⟩=some u) {y:Value} {ys:List (List AV)} {news:List Value} (hy:xg ν P g y e ys news)
  (dF:cap<n+ys.length->n+ys.length<=1073741824) :
  (n+ys.length<=cap/\∀R,(match base with | some a=>(storeCells (a.add (n*e)) news).run P g.w | none=>.ok () g.w) = .ok () R->
    (Builtin.append_ #[t,u] ty #[.slice base n cap,y]).run P g.w = .ok (.slice base (n+ys.length) cap) R)\/
  (cap<n+ys.length/\∃(el dn:Nat) (arr:Array Value),P.underlying t=some (.slice el)/\n+ys.length<=dn/\arr.size=dn*e/\(∀(p:Nat) (x:Value),(olds++news)[p]?=some x->arr[p]?=some x)/\
    (Builtin.append_ #[t,u] ty #[.slice base n cap,y]).run P g.w = .ok (.slice (some ⟨g.w.heap.size,0,none⟩) (n+ys.length) dn) (g.w.drew.alloc (.cells arr el))):=by
 obtain⟨el,d,i,z,hu,hd,I0,hi,rfl,hb,hz,kH,dL⟩:=s7 ht;obtain⟨f1,f2⟩:=hy.1 g.w λ_ _ _ h=>h
 by_cases hc:n+ys.length<=cap
 ·refine .inl ⟨hc,λR hR=>?_⟩;cases base with
  |none=>
   simp only[Result.ok.injEq,true_and]at hR;subst hR;simp[Builtin.append_,run_underlying hu,run_underlying hd,run_sizeOf hi,f1,f2,hc]
  |some a=>
   simp only[]at hR;simp[Builtin.append_,run_underlying hu,run_underlying hd,run_sizeOf hi,f1,f2,hc,hR]
 ·have dF:=dF (by omega);refine .inr ⟨by omega,el,grownCap g.w (n+ys.length) cap el,olds.toArray++news.toArray++Builtin.zeroCells z.cells (grownCap g.w (n+ys.length) cap el - (n+ys.length)),hu,grownCap_ge _ _ _ _,?_,?_,?_⟩
  ·have:=grownCap_ge g.w (n+ys.length) cap el;simp only[Array.size_append,List.size_toArray];rw[size_zeroCells,kH,iO,hy.2.1,<-Nat.add_mul,<-Nat.add_mul];congr 1;omega
  ·intro p x hx;have hp:=ay hx;rw[Array.getElem?_append_left (by simpa using hp)];simpa using hx
  ·obtain⟨-,Cb⟩:=hy.1 g.w.drew λ_ _ _ h=>h
   have hold:(Builtin.firstCells i.size n (.slice base n cap)).run P g.w.drew = .ok olds.toArray g.w.drew:=by
    rcases ho with h0 | ⟨b,x,rfl,df⟩
    ·have:olds=[]:=List.eq_nil_of_length_eq_zero (by rw[iO,h0];simp);subst this;cases base with
     |none=>simp[Builtin.firstCells]
     |some a=>simp[Builtin.firstCells,h0,loadCells,loadCellsFrom]
    ·exact run_firstCells_some g.w.drew i.size n _ _ _ olds iO λj x hx=>by rw[Addr.add_lit];exact df j x hx
   have eH:=lv (need:=n+ys.length) (cap:=cap) (bytes:=i.bytes) (by omega) dF hb;have tZ:¬(281474976710656<Builtin.nextslicecap (n+ys.length) cap*i.bytes):=by omega
   have Cc:¬((9223372036854775807:Int)<(n:Int)+ys.length):=by omega
   simp[Builtin.append_,run_underlying hu,run_underlying hd,run_sizeOf hi,f1,hc,Cc,typeInfo,hi,tZ,Question.forced,hold,Cb,zeroValue,hz,newRow,grownCap];congr 2;apply Array.ext';simp
theorem ua (r:Rel ν k g) {slot:Nat} {t u ty:TypeId} {e:Nat} (ht:oB P t u e=true) {byte:Bool} (A0:byte=true->P.underlying t=some (.slice (ν lT))) {v yv:Value} {x y z:AV} (hv:RA ν g v x) (yi:RA ν g yv y) {h':Hp}
  (e':(app e slot byte x y).run g.h=some (z,h')):bf ν k g h' z ((Builtin.append_ #[t,u] ty #[v,yv]).run P g.w):=by
 obtain⟨ys,h1,e1,e2⟩:=ag e';obtain⟨rfl,news,hy⟩:=yW (P:=P) r e1 yi;have oC:=hy.2.1;have mT:=hy.2.2.1;have re:=hy.2.2.2;have A1:∀u ∈ news,u.oneCell'=true:=by
  intro u hu;obtain⟨p,hp⟩:=List.getElem?_of_mem hu;have aT:=ay hp;rw[oC]at aT;obtain⟨i,j,hi,hj,rfl⟩:=k8 aT;have hle:=mT _ (List.getElem_mem hi);obtain⟨u',dD,h1,_⟩:=re i j _ _ (List.getElem?_eq_getElem hi) (List.getElem?_eq_getElem (by omega));rw[hp]at dD;cases dD;exact h1
 cases hv with
 |undef=>exact(ae e2).elim
 |cG=>exact(ae e2).elim
 |agg=>exact(ae e2).elim
 |aR=>exact(ae e2).elim
 |ref=>exact(ae e2).elim
 |bp=>exact(ae e2).elim
 |iv hr=>
  cases hr with
  |aq a _=>
   simp only[]at e2;split at e2
   ·rename_i h0;have h0:ys=[]:=by simpa using h0
    subst h0;obtain⟨rfl,rfl⟩:=af e2;have gP:news=[]:=List.eq_nil_of_length_eq_zero (by simpa using oC);subst gP;rcases fw (ty:=ty) (base:=a) (n:=0) (cap:=0) (olds:=[]) ht (by simp) (.inl rfl) hy (by simp)with⟨hc,aY⟩|⟨hc,_⟩
    ·exact .same r (aY g.w (by cases a<;>simp[storeCells])) (.iv (.aq _ _))
    ·simp at hc
   ·rename_i h0;obtain⟨dF,e4⟩:=M.aj e2;obtain⟨_,h3,e5,e6⟩:=ag e4;obtain⟨hf,rfl⟩:=M.ct e5;obtain⟨_,h4,e7,e8⟩:=ag e6;obtain rfl:=aI e7;obtain⟨rfl,rfl⟩:=af e8;have fW:0+ys.length<=1073741824:=by simpa[roomy]using dF
    rcases fw (ty:=ty) (base:=a) (n:=0) (cap:=0) (olds:=[]) ht (by simp) (.inl rfl) hy (λ_=>fW)with⟨hc,_⟩|⟨hc,el,dn,arr,gQ,h1,h2,h3,aY⟩
    ·exact absurd (List.eq_nil_of_length_eq_zero (show ys.length=0 by omega)) (by simpa using h0)
    ·simp only[Nat.zero_add,List.nil_append]at *;rw[aY];exact mr r (.inr rfl) hf (by
      cases byte with
      |false=>left;simp
      |true=>
       right;have:=A0 rfl;rw[gQ]at this;refine⟨by simp,?_⟩;cases this;rfl) rfl mT h1 h2 λi j c x hi hj=>by
      obtain⟨u,hu,h4,h5⟩:=re i j c x hi hj;exact⟨u,h3 _ _ hu,h4,h5⟩
  |_=>exact(ae e2).elim
 |@own _ id o n ai j4 ho=>
  obtain⟨ob,hg,e4⟩:=M.aM e2;unfold aE at ho;rw[hg]at ho;cases ob with
  |cells _=>exact(ae e4).elim
  |c7 _=>exact(ae e4).elim
  |aZ _ _ _=>exact(ae e4).elim
  |map _=>exact(ae e4).elim
  |buf v' aD es=>
   obtain⟨bx,e6⟩:=M.aj e4;simp only[Bool.and_eq_true,beq_iff_eq]at bx;obtain⟨rfl,rfl⟩:=bx;have hs:=ho.2 rfl;obtain⟨b,ah,b8,cE,aC⟩:=r.ob id _ hg;rw[ah]at hs;obtain⟨x,cap,rfl,q2,qL,q3,q4,q5⟩:=hs;obtain⟨V,hV⟩:=nM aC;obtain⟨olds,iO,holds⟩:=oA (e:=aD) (m:=n) (f:=λi j=>V (o+i) j);have ey:n=0\/∃b' x',some (⟨b,x,none⟩:Addr)=some ⟨b',x',none⟩/\∀(p:Nat) (u:Value),olds[p]?=some u->g.w.cell? ⟨b',x'+p,none⟩=some u:=by
    by_cases hn:n=0
    ·exact .inl hn
    ·have hx:x=o*aD:=q4.resolve_right λh=>hn h.1
     refine .inr ⟨b,x,rfl,λp u hp=>?_⟩;have aT:=ay hp;rw[iO]at aT;obtain⟨i,j,hi,hj,rfl⟩:=k8 aT;rw[holds i j hi hj]at hp;cases hp;have kW:es[o+i]?=some es[o+i]:=List.getElem?_eq_getElem (by omega);have hle:=aC.1 _ (List.getElem_mem (show o+i<es.length by omega));have:=(hV (o+i) j _ _ kW (List.getElem?_eq_getElem (by omega))).1;rw[hx,<-Nat.add_assoc,<-Nat.add_mul];exact this
   split at e6
   ·
    rename_i cK;obtain⟨_,h4,e7,e8⟩:=ag e6;obtain rfl:=aI e7;obtain⟨rfl,rfl⟩:=af e8;rcases fw (ty:=ty) (base:=some ⟨b,x,none⟩) (n:=n) (cap:=cap) (olds:=olds) ht iO ey hy (λh=>by omega)with⟨hc,aY⟩|⟨hc,_⟩
    ·by_cases hk:ys.length=0
     ·have h0:ys=[]:=List.eq_nil_of_length_eq_zero hk;subst h0;have gP:news=[]:=List.eq_nil_of_length_eq_zero (by simpa using oC);subst gP;have k9:=aY g.w (by simp[storeCells]);have ym:cn es (o+n) []=es:=by simp[cn]
      rw[ym];have eJ:=r.put (id:=id) (v:=v') (e:=aD) (b:=b) (off:=0) (v':=v') (es:=es) (es':=es) (vs:=[]) hg ah (λj hj=>by simp at hj) (.inl ⟨rfl,rfl⟩) (λg' hw hm=>aC.mono hm λoff v hc=>by rw[hw];exact hc);refine⟨{ g with w:=g.w.setCells b 0 [],h:=set g.h id (.buf v' aD es) },_,k9,rfl,eJ.1,eJ.2,.own rfl ?_⟩;unfold aE;simp only[an,ah];exact⟨Nat.le_refl _,λ_=>⟨x,cap,rfl,q2,qL,q3,q4,q5⟩⟩
     ·have hx:x=o*aD:=q4.resolve_right λh=>by have:=h.2.2;omega
      subst hx;have q5:=q5 rfl;have hex:∀j,j<news.length->(g.w.cell? ⟨b,(o+n)*aD+j,none⟩).isSome=true:=λj hj=>q5 _ (by
       have:(o+n)*aD+ys.length*aD<=(o+cap)*aD:=by rw[<-Nat.add_mul];exact Nat.mul_le_mul_right _ (by omega)
       omega)
      have fp:=run_storeCells_cells (P:=P) b ((o+n)*aD) news 0 g.w (by simpa using hex) (λ_ _=>cE.2 _) A1;have k9:=aY (g.w.setCells b ((o+n)*aD) news) (by simp only[Addr.add_lit,<-Nat.add_mul];simpa using fp);have eJ:=r.put (id:=id) (v:=v') (e:=aD) (b:=b) (off:=(o+n)*aD) (v':=v') (es:=es) (es':=cn es (o+n) ys) (vs:=news) hg ah hex (.inl ⟨rfl,(de _ _ _ cK).symm⟩) (λg' hw hm=>by
       refine⟨λc hc=>?_,λi j c x hi hj=>?_⟩
       ·simp only[cn,List.mem_append]at hc;rcases hc with(h | h) | h
        ·exact aC.1 c (List.mem_of_mem_take h)
        ·exact mT c h
        ·exact aC.1 c (List.mem_of_mem_drop h)
       ·rw[hw,cR _ _ _ _ hex];rw[gA _ _ _ cK]at hi;split at hi
        ·rename_i dV;obtain⟨w,rF,h5,hR⟩:=re (i - (o+n)) j c x hi hj;have aT:=ay rF;have:(o+n)*aD+(i - (o+n))*aD=i*aD:=by rw[<-Nat.add_mul];congr 1;omega
         rw[if_pos (by omega),show i*aD+j - (o+n)*aD=(i - (o+n))*aD+j by omega];exact⟨w,rF,h5,hm _ _ hR⟩
        ·rename_i dV;have mU:=aC.len hi hj;have cW:¬((o+n)*aD<=i*aD+j/\i*aD+j<(o+n)*aD+news.length):=by
          intro⟨ha,hb⟩;rw[oC]at hb;rcases Nat.lt_or_ge i (o+n)with aT | pP
          ·have:i*aD+aD<=(o+n)*aD:=by rw[<-Nat.succ_mul];exact Nat.mul_le_mul_right _ aT
           omega
          ·have:(o+n)*aD+ys.length*aD<=i*aD:=by rw[<-Nat.add_mul];exact Nat.mul_le_mul_right _ (by omega)
           omega
         rw[if_neg cW];obtain⟨w,rF,h5,hR⟩:=aC.2 i j c x hi hj;exact⟨w,rF,h5,hm _ _ hR⟩)
      refine⟨_,_,k9,rfl,eJ.1,eJ.2,.own rfl ?_⟩;unfold aE;simp only[an,ah];rw[de _ _ _ cK];exact⟨Nat.le_refl _,λ_=>⟨_,cap,rfl,by omega,by omega,by omega,.inl rfl,λ_ c hc=>fi _ _ _ _ hex _ (q5 c hc)⟩⟩
    ·omega
   ·
    rename_i cK;obtain⟨bx,e8⟩:=M.aj e6;obtain⟨_,h5,e9,dg⟩:=ag e8;obtain rfl:=aI e9;obtain⟨rfl,rfl⟩:=af dg;simp only[Bool.and_eq_true,beq_iff_eq,Bool.or_eq_true]at bx;obtain⟨⟨rfl,dF⟩,EN⟩:=bx;have fW:n+ys.length<=1073741824:=by simpa[roomy]using dF
    have hx:x=0:=by
     rcases q4 with h | h
     ·simpa using h
     ·exact absurd rfl h.2.1
    subst hx;have q5:=q5 (by simp);have rf:(es.take n).length=n:=by simp;omega
    rcases fw (ty:=ty) (base:=some ⟨b,0,none⟩) (n:=n) (cap:=cap) (olds:=olds) ht iO ey hy (λ_=>fW)with⟨hc,aY⟩|⟨hc,el,dn,arr,gQ,h1,h2,h3,aY⟩
    ·
     have hex:∀j,j<news.length->(g.w.cell? ⟨b,n*aD+j,none⟩).isSome=true:=λj hj=>q5 _ (by
      have:n*aD+ys.length*aD<=cap*aD:=by rw[<-Nat.add_mul];exact Nat.mul_le_mul_right _ hc
      rw[Nat.zero_add];omega)
     have fp:=run_storeCells_cells (P:=P) b (n*aD) news 0 g.w (by simpa using hex) (λ_ _=>cE.2 _) A1;have k9:=aY (g.w.setCells b (n*aD) news) (by simpa[Addr.add_lit]using fp);have eJ:=r.put (id:=id) (v:=v') (e:=aD) (b:=b) (off:=n*aD) (v':=v'+1) (es:=es) (es':=es.take n++ys) (vs:=news) hg ah hex (.inr rfl) (λg' hw hm=>by
      refine⟨λc hc=>?_,λi j c x hi hj=>?_⟩
      ·rcases List.mem_append.1 hc with h | h
       ·exact aC.1 c (List.mem_of_mem_take h)
       ·exact mT c h
      ·rw[hw,cR _ _ _ _ hex];rw[List.getElem?_append]at hi;simp only[rf]at hi;split at hi
       ·rename_i dV;rw[List.getElem?_take,if_pos dV]at hi;have mU:=aC.len hi hj;have:i*aD+aD<=n*aD:=by rw[<-Nat.succ_mul];exact Nat.mul_le_mul_right _ dV
        rw[if_neg (by omega)];obtain⟨w,hw,h5,hR⟩:=aC.2 i j c x hi hj;exact⟨w,hw,h5,hm _ _ hR⟩
       ·rename_i dV;obtain⟨w,hw,h5,hR⟩:=re (i - n) j c x hi hj;have aT:=ay hw;have:n*aD+(i - n)*aD=i*aD:=by rw[<-Nat.add_mul];congr 1;omega
        rw[if_pos (by omega),show i*aD+j - n*aD=(i - n)*aD+j by omega];exact⟨w,hw,h5,hm _ _ hR⟩)
     refine⟨_,_,k9,rfl,eJ.1,eJ.2,.own rfl ?_⟩;unfold aE;simp only[an,ah];refine⟨Nat.le_refl _,λ_=>⟨0,cap,rfl,by simp;omega,by simp;omega,hc,.inl (by simp),λ_ c hc=>fi _ _ _ _ hex _ (q5 c hc)⟩⟩
    ·
     have ht:=r.iR (s:=id) (ob:=.buf (v'+1) aD (es.take n++ys)) (p:=some g.w.heap.size) (w':=g.w.drew.alloc (.cells arr el)) (I':=g.I) hg (λb' h=>by rw[ah]at h;cases h;exact b8) (by simp) rfl rfl rfl
      (λb hb _=>alloc_old g.w.drew _ _ hb) (λ_ h=>h) (λ_ h=>.inl h) (.inr ⟨_,rfl,Nat.le_refl _⟩)
      (λb h=>by
       cases h;rcases EN with h | ⟨h,hb⟩
       ·exact .zero h
       ·have:=A0 hb;rw[gQ]at this;cases this;exact⟨by omega,λ_=>⟨_,hG g.w.drew _ _⟩,by omega⟩)
      (λw o n ai h=>by
       unfold aE at h ⊢;rw[hg]at h;simp only[an,aw];have:=h.1;exact⟨by omega,λhe=>by omega⟩)
      (λw ai i j h=>by
       unfold aG at h ⊢;rw[hg]at h;simp only[an,aw];have:=h.1;exact⟨by omega,λhe=>by omega⟩)
      (λ_ hm=>by
       refine⟨g.w.heap.size,aw _ _ _,λbY=>Nat.lt_irrefl _ (r.small _ bY),⟨by simp,λo=>World.frozen?_alloc_new g.w.drew _ _ _⟩,λc hc=>?_,λi j c x hi hj=>?_⟩
       ·rcases List.mem_append.1 hc with h | h
        ·exact aC.1 c (List.mem_of_mem_take h)
        ·exact mT c h
       ·have key:∃u,(olds++news)[i*aD+j]?=some u/\u.oneCell'=true/\RA ν g u x:=by
         rw[List.getElem?_append]at hi;simp only[rf]at hi;split at hi
         ·rename_i dV;rw[List.getElem?_take,if_pos dV]at hi;have mU:=aC.len hi hj;have:i*aD+aD<=n*aD:=by rw[<-Nat.succ_mul];exact Nat.mul_le_mul_right _ dV
          refine⟨V i j,?_,(hV i j c x hi hj).2⟩;rw[List.getElem?_append_left (by omega),holds i j dV mU,Nat.zero_add]
         ·rename_i dV;obtain⟨w,hw,h5,hR⟩:=re (i - n) j c x hi hj;have:n*aD+(i - n)*aD=i*aD:=by rw[<-Nat.add_mul];congr 1;omega
          refine⟨w,?_,h5,hR⟩;rw[List.getElem?_append_right (by omega),iO,show i*aD+j - n*aD=(i - n)*aD+j by omega];exact hw
        obtain⟨u,hu,h5,hR⟩:=key;exact⟨u,by simp only[];rw[show(g.w.drew.alloc (.cells arr el)).cell? ⟨g.w.heap.size,i*aD+j,none⟩=arr[i*aD+j]? from World.cell?_alloc_new g.w.drew _ _ _];exact h3 _ _ hu,h5,hm _ _ hR⟩)
     refine⟨_,_,aY,rfl,ht.1,ht.2,.own rfl ?_⟩;unfold aE;simp only[an,aw];refine⟨Nat.le_refl _,λ_=>⟨0,dn,rfl,by simp;omega,by simp;omega,h1,.inl (by simp),λ_ c hc=>?_⟩⟩;rw[show(g.w.drew.alloc (.cells arr el)).cell? ⟨g.w.heap.size,c,none⟩=arr[c]? from World.cell?_alloc_new g.w.drew _ _ _,Array.getElem?_eq_getElem (by rw[h2];simpa using hc)];rfl
end
section
variable {ν:Nat->Nat} {P:Program} {k:Cx} {g:Gh}
def z7 (P:Program) (t:TypeId) (e:Nat) (z:List AV):Bool:=
 match P.underlying t with
 |some (.slice el)=>jj P el e&&la P el z
 |_=>false
theorem ub (r:Rel ν k g) {t ty:TypeId} {e:Nat} {z:List AV} (ht:z7 P t e z=true) {v:Value} {x y:AV} (hv:RA ν g v x) {h':Hp} (e':(kV e z x).run g.h=some (y,h')) :
  bf ν k g h' y ((Builtin.clear_ #[t] ty #[v]).run P g.w):=by
 unfold z7 at ht;split at ht
 case h_2=>cases ht
 rename_i el hu;simp only[Bool.and_eq_true]at ht;obtain⟨bB,hz⟩:=ht;obtain⟨i,hi,rfl⟩:=ft bB;obtain⟨i',zv,bY,oz,gZ⟩:=jY hz;rw[hi]at bY;cases bY;have yj:∀g:Gh,RA ν g (.tuple #[]) (.aR []):=λg=>.aR rfl λj v c h=>by simp at h
 cases hv with
 |undef=>exact(ae e').elim
 |cG=>exact(ae e').elim
 |agg=>exact(ae e').elim
 |aR=>exact(ae e').elim
 |ref=>exact(ae e').elim
 |bp=>exact(ae e').elim
 |iv hr=>
  cases hr with
  |aq a _=>
   obtain⟨rfl,rfl⟩:=af e';exact .same r (v:=.tuple #[]) (by cases a<;>simp[Builtin.clear_,run_underlying hu]) (yj g)
  |_=>exact(ae e').elim
 |@own _ id o n ai j4 ho=>
  obtain⟨ob,hg,e4⟩:=M.aM e';unfold aE at ho;rw[hg]at ho;cases ob with
  |cells _=>exact(ae e4).elim
  |c7 _=>exact(ae e4).elim
  |aZ _ _ _=>exact(ae e4).elim
  |map _=>exact(ae e4).elim
  |buf v' aD es=>
   obtain⟨bx,e6⟩:=M.aj e4;simp only[Bool.and_eq_true,beq_iff_eq]at bx;obtain⟨⟨rfl,rfl⟩,s6⟩:=bx;obtain⟨_,h4,e7,e8⟩:=ag e6;obtain rfl:=aI e7;obtain⟨rfl,rfl⟩:=af e8;have hs:=ho.2 rfl;have kH:zv.cells.size=i.size:=by have:=(ix gZ).1;simp at this;omega
   obtain⟨b,ah,b8,cE,aC⟩:=r.ob id _ hg;rw[ah]at hs;obtain⟨x,cap,rfl,q2,qL,q3,q4,q5⟩:=hs;generalize eS:(Builtin.zeroCells zv.cells n).toList=vs;have uc:vs.length=n*i.size:=by rw[<-eS];simp[size_zeroCells,kH]
   obtain⟨Jj,fV⟩:=ix gZ;have ij:∀(p:Nat),p<zv.cells.size->∃y,z[p]?=some y/\sK zv.cells[p]! y=true:=by
    intro p hp;have FK:p<z.length:=by simp at Jj;omega
    obtain⟨w,hw,hc⟩:=fV p _ (List.getElem?_eq_getElem FK);refine⟨_,List.getElem?_eq_getElem FK,?_⟩;have:w=zv.cells[p]!:=by
     have h':zv.cells[p]?=some w:=by simpa using hw
     rw[Array.getElem?_eq_getElem hp]at h';rw[getElem!_pos zv.cells p hp];exact(Option.some.inj h').symm
    rw[<-this];exact hc
   have ef:∀u ∈ vs,u.oneCell'=true:=by
    intro u dD;rw[<-eS]at dD;simp only[Builtin.zeroCells,Array.toList_map,List.mem_map]at dD;obtain⟨p,hp,rfl⟩:=dD;simp only[Array.toList_range,List.mem_range]at hp;have aT:p % zv.cells.size<zv.cells.size:=Nat.mod_lt _ (by
     rcases Nat.eq_zero_or_pos zv.cells.size with h0 | h0
     ·rw[h0]at hp;simp at hp
     ·exact h0)
    obtain⟨y, -,hc⟩:=ij _ aT;exact(kn (ν:=ν) hc g).1
   have hex:∀j,j<vs.length->(g.w.cell? ⟨b,o*i.size+j,none⟩).isSome=true:=by
    intro j hj;have gP:n≠0:=λh=>by rw[uc,h]at hj;simp at hj
    have hx:x=o*i.size:=q4.resolve_right λh=>gP h.1
    refine q5 hx _ ?_;have:n*i.size<=cap*i.size:=Nat.mul_le_mul_right _ q3;rw[Nat.add_mul];omega
   have aY:(Builtin.clear_ #[t] ty #[.slice (some ⟨b,x,none⟩) n cap]).run P g.w = .ok (.tuple #[]) (g.w.setCells b (o*i.size) vs):=by
    by_cases gP:n=0
    ·subst gP;have:vs=[]:=List.eq_nil_of_length_eq_zero (by simpa using uc);subst this;simp[Builtin.clear_,run_underlying hu,World.setCells]
    ·have hx:x=o*i.size:=q4.resolve_right λh=>gP h.1
     subst hx;have fp:=run_storeCells_cells (P:=P) b (o*i.size) vs 0 g.w (by simpa using hex) (λ_ _=>cE.2 _) ef;simp only[Nat.add_zero]at fp;have tN:∀m,n=m+1->(Builtin.clear_ #[t] ty #[.slice (some ⟨b,o*i.size,none⟩) n cap]).run P g.w = .ok (.tuple #[]) (g.w.setCells b (o*i.size) vs):=by
      intro m hm;subst hm;simp[Builtin.clear_,run_underlying hu,zeroValue,typeInfo,hi,oz,eS,fp]
     exact tN (n - 1) (by omega)
   have eJ:=r.put (id:=id) (v:=v') (e:=i.size) (b:=b) (off:=o*i.size) (v':=v') (es:=es) (es':=es.take o++List.replicate n z++es.drop (o+n)) (vs:=vs) hg ah hex (.inl ⟨rfl,by simp;omega⟩) (λg' hw hm=>by
    have Cd:(es.take o).length=o:=by simp;omega
    refine⟨λc hc=>?_,λa j c y ha hj=>?_⟩
    ·simp only[List.mem_append]at hc;rcases hc with(h | h) | h
     ·exact aC.1 c (List.mem_of_mem_take h)
     ·rw[List.eq_of_mem_replicate h];exact s6
     ·exact aC.1 c (List.mem_of_mem_drop h)
    ·rw[hw,cR _ _ _ _ hex,uc];rw[List.getElem?_append,List.getElem?_append]at ha;simp only[List.length_append,List.length_replicate,Cd]at ha;have ud:∀{p q:Nat},p<q->p*i.size+i.size<=q*i.size:=λh=>by rw[<-Nat.succ_mul];exact Nat.mul_le_mul_right _ h
     split at ha
     ·rename_i h1;split at ha
      ·rename_i h2;rw[List.getElem?_take,if_pos h2]at ha;have mU:=aC.len ha hj;have:=ud h2;rw[if_neg (by omega)];obtain⟨w,hw,h5,hR⟩:=aC.2 a j c y ha hj;exact⟨w,hw,h5,hm _ _ hR⟩
      ·rename_i h2;rw[List.getElem?_replicate,if_pos (by omega)]at ha;cases ha;have mU:j<i.size:=by have:=ay hj;omega
       have e1:o*i.size+(a - o)*i.size=a*i.size:=by rw[<-Nat.add_mul];congr 1;omega
       have e2:(a - o)*i.size+i.size<=n*i.size:=ud (by omega);rw[if_pos (by omega),show a*i.size+j - o*i.size=(a - o)*i.size+j by omega];obtain⟨y',FL,hc⟩:=ij j (by omega);rw[hj]at FL;cases FL;obtain⟨k1,k2⟩:=kn (ν:=ν) hc g';refine⟨zv.cells[j]!,?_,k1,k2⟩;rw[<-eS];have hp:(a - o)*i.size+j<n*i.size:=by omega
       have qm:((a - o)*i.size+j) % i.size=j:=by rw[Nat.add_comm,Nat.add_mul_mod_self_right,Nat.mod_eq_of_lt mU]
       simp only[Builtin.zeroCells,Array.getElem?_toList,Array.getElem?_map,Array.getElem?_range,if_pos hp,Option.map_some,kH,qm]
     ·rename_i h1;rw[List.getElem?_drop,show o+n+(a - (o+n))=a by omega]at ha;have mU:=aC.len ha hj;have:o*i.size+n*i.size<=a*i.size:=by rw[<-Nat.add_mul];exact Nat.mul_le_mul_right _ (by omega)
      rw[if_neg (by omega)];obtain⟨w,hw,h5,hR⟩:=aC.2 a j c y ha hj;exact⟨w,hw,h5,hm _ _ hR⟩)
   exact⟨_,_,aY,rfl,eJ.1,eJ.2,yj _⟩
theorem Bq (r:Rel ν k g) {t ty:TypeId} {e:Nat} (ht:sliceB P t e=true) {v:Value} {x y:AV} {h':Hp} (hv:RA ν g v x) (e':(nK x).run g.h=some (y,h')):bf ν k g h' y ((Builtin.cap_ #[t] ty #[v]).run P g.w):=by
 obtain⟨el,i,hu,hi,rfl⟩:=dz ht;unfold nK at e';split at e'
 ·obtain⟨rfl,rfl⟩:=af e';cases hv with
  |iv hr=>
   cases hr with
   |aq a _=>exact .same r (v:=.int .i64 0) (by simp[Builtin.cap_,run_underlying hu,goInt]) mkInt
 ·exact(ae e').elim
theorem uR (z:Array Value) (n i j:Nat) (v:Value) (hi:i<n) (hj:z[j]?=some v):(Builtin.zeroCells z n)[i*z.size+j]?=some v:=by
 have AT:j<z.size:=(Array.getElem?_eq_some_iff.1 hj).1;have aT:i*z.size+j<n*z.size:=by
  have:(i+1)*z.size<=n*z.size:=Nat.mul_le_mul_right _ hi;rw[Nat.add_mul,Nat.one_mul]at this;omega
 unfold Builtin.zeroCells;rw[Array.getElem?_map,Array.getElem?_eq_getElem (by simpa using aT)];simp only[Array.getElem_range,Option.map_some];have:(i*z.size+j) % z.size=j:=by rw[Nat.add_comm,Nat.add_mul_mod_self_right,Nat.mod_eq_of_lt AT]
 rw[this];simp[AT,(Array.getElem?_eq_some_iff.1 hj).2]
def pH (P:Program) (t:TypeId) (e:Nat) (z:List AV):Bool:=
 match P.underlying t with
 |some (.slice el)=>Nat.blt 0 e&&(match P.info? el with
  |some i=>i.size==e&&Nat.ble i.bytes 4096&&(match i.zero with | some z=>z.cells.size==e | none=>false)
  |none=>false)&&la P el z
 |_=>false
theorem rG {t:TypeId} {e:Nat} {z:List AV} (h:pH P t e z=true):∃el i z0,P.underlying t=some (.slice el)/\P.info? el=some i/\i.size=e/\i.bytes<=4096/\i.zero=some z0/\z0.cells.size=e/\0<e/\hP z0.cells.toList z=true:=by
 unfold pH at h;split at h
 case h_2=>cases h
 rename_i el hu;simp only[Bool.and_eq_true,Nat.blt_eq]at h;obtain⟨⟨dL,h3⟩,hz⟩:=h;split at h3
 case h_2=>cases h3
 rename_i i hi;simp only[Bool.and_eq_true,beq_iff_eq,Nat.ble_eq]at h3;obtain⟨⟨h4,hb⟩,h6⟩:=h3;split at h6
 case h_2=>cases h6
 rename_i z0 mg;obtain⟨i',z1,bY,FM,yX⟩:=jY hz;rw[hi]at bY;cases bY;rw[mg]at FM;cases FM;exact⟨el,i,z0,hu,hi,h4,hb,mg,by simpa using h6,dL,yX⟩
theorem wrap_small {m:Int} (h0:0<=m) (h1:m.toNat<=1073741824):IntKind.i64.wrap m=m:=by
 have:m<=1073741824:=by omega
 unfold IntKind.wrap;simp[IntKind.bits,IntKind.signed];omega
theorem Br (r:Rel ν k g) {slot:Nat} {t u ty:TypeId} {e:Nat} {z:List AV} {kd:IntKind} (ht:pH P t e z=true) (hd:P.underlying u=some (.int kd)) {v yv:Value} {x n y:AV} (hv:RA ν g v x) (yi:RA ν g yv n) {h':Hp}
  (e':(mJ e slot z x n).run g.h=some (y,h')):bf ν k g h' y ((Builtin.append_ #[t,u] ty #[v,yv]).run P g.w):=by
 obtain⟨el,i,z0,hu,hi,rfl,hb,mg,kH,dL,yX⟩:=rG ht;unfold mJ at e';split at e'
 case h_2=>exact(ae e').elim
 rename_i ee;obtain⟨m,h1,e1,e2⟩:=ag e';obtain⟨rfl,kk,rfl⟩:=dC e1;obtain⟨bx,e4⟩:=M.aj e2;simp only[Bool.and_eq_true,decide_eq_true_eq,beq_iff_eq]at bx;obtain⟨⟨h0,dF⟩,s6⟩:=bx;have fW:m.toNat<=1073741824:=by simpa[roomy]using dF
 obtain rfl:=yi.int;have hw:=wrap_small h0 fW;obtain⟨a,rfl⟩:∃a,v = .slice a 0 0:=by
  cases hv with
  |iv hr=>cases hr with | aq a _=>exact⟨a,rfl⟩
 have tZ:¬(281474976710656<m*(i.bytes:Int)):=by
  have h1:m*(i.bytes:Int)<=1073741824*4096:=Int.mul_le_mul (by omega) (by omega) (by omega) (by omega);omega
 split at e4
 ·rename_i yY;subst yY;obtain⟨rfl,rfl⟩:=af e4;refine .same r (v:=.slice a 0 0) ?_ (.iv (.aq _ _));cases a<;>simp[Builtin.append_,run_underlying hu,run_underlying hd,run_sizeOf hi,asInt,asIntOf,typeInfo,hi,hw,storeCells]
 ·rename_i yY;obtain⟨_,h4,e5,e6⟩:=ag e4;obtain⟨hf,rfl⟩:=M.ct e5;obtain⟨_,h5,e7,e8⟩:=ag e6;obtain rfl:=aI e7;obtain⟨rfl,rfl⟩:=af e8;have nN:0<m.toNat:=by omega
  have eH:=lv (need:=m.toNat) (cap:=0) (bytes:=i.bytes) nN fW hb;have GC:¬(281474976710656<Builtin.nextslicecap m.toNat 0*i.bytes):=by omega
  have bF:¬(m.toNat*i.size=0):=by
   intro h;rcases Nat.mul_eq_zero.1 h with h | h<;>omega
  have Jk:m.toNat<=grownCap g.w m.toNat 0 el:=grownCap_ge _ _ _ _;have hold:(Builtin.firstCells i.size 0 (.slice a 0 0)).run P g.w.drew = .ok #[] g.w.drew:=by
   cases a<;>simp[Builtin.firstCells,loadCells,loadCellsFrom]
  have aY:(Builtin.append_ #[t,u] ty #[.slice a 0 0,.int kk m]).run P g.w = .ok (.slice (some ⟨g.w.heap.size,0,none⟩) m.toNat (grownCap g.w m.toNat 0 el))
    (g.w.drew.alloc (.cells ((#[]:Array Value)++Builtin.zeroCells z0.cells m.toNat++Builtin.zeroCells z0.cells (grownCap g.w m.toNat 0 el - m.toNat)) el)):=by
   have fT:¬m<0:=by omega
   have GD:¬m<=0:=by omega
   have Jl:¬((9223372036854775807:Int)<max m 0):=by omega
   simp[Builtin.append_,run_underlying hu,run_underlying hd,run_sizeOf hi,asInt,asIntOf,typeInfo,hi,hw,fT,GD,tZ,Jl,GC,Question.forced,hold,bF,zeroValue,mg,newRow,grownCap]
  rw[aY];refine mr r (.inr rfl) hf (.inl (by omega)) (by simp) (λc hc=>by rw[List.eq_of_mem_replicate hc];exact s6) Jk ?_ λa b c x ha fM=>?_
  ·simp only[Array.size_append,List.size_toArray,List.length_nil,size_zeroCells,kH];rw[Nat.zero_add,<-Nat.add_mul];congr 1;omega
  ·rw[List.getElem?_replicate]at ha;split at ha
   ·rename_i yZ;cases ha;obtain⟨-,fV⟩:=ix yX;obtain⟨v,CU,Jm⟩:=fV b x fM;have CU:z0.cells[b]?=some v:=by simpa using CU
    obtain⟨k1,k2⟩:=kn (ν:=ν) Jm g;have ij:=uR z0.cells m.toNat a b v yZ CU;rw[kH]at ij;refine⟨v,?_,k1,k2⟩;rw[Array.empty_append,Array.getElem?_append_left]
    ·exact ij
    ·exact(Array.getElem?_eq_some_iff.1 ij).1
   ·cases ha
theorem CV (r:Rel ν k g) {slot:Nat} {t:TypeId} {e:Nat} {z:List AV} (ht:pH P t e z=true) {nv:Value} {n y:AV} (hn:RA ν g nv n) {h':Hp}
  (e':(te e slot z n).run g.h=some (y,h')):bf ν k g h' y ((Instr.makeSlice t nv nv).run P g.w):=by
 obtain⟨el,i,z0,hu,hi,rfl,hb,mg,kH,dL,yX⟩:=rG ht;obtain⟨m,h1,e1,e2⟩:=ag e';obtain⟨rfl,kk,rfl⟩:=dC e1;obtain⟨bx,e4⟩:=M.aj e2;simp only[Bool.and_eq_true,decide_eq_true_eq,beq_iff_eq]at bx;obtain⟨⟨h0,dF⟩,s6⟩:=bx;have fW:m.toNat<=1073741824:=by simpa[roomy]using dF
 obtain rfl:=hn.int;have hw:=wrap_small h0 fW;have tZ:¬(281474976710656<(i.bytes:Int)*m):=by
  have h1:(i.bytes:Int)*m<=4096*1073741824:=Int.mul_le_mul (by omega) (by omega) (by omega) (by omega);omega
 obtain⟨_,h4,e5,e6⟩:=ag e4;obtain⟨hf,rfl⟩:=M.ct e5;obtain⟨_,h5,e7,e8⟩:=ag e6;obtain rfl:=aI e7;obtain⟨rfl,rfl⟩:=af e8;have fT:¬m<0:=by omega
 have aC:=me (ν:=ν) (g:=g) yX m.toNat;rw[kH]at aC;have aY:(Instr.makeSlice t (.int kk m) (.int kk m)).run P g.w = .ok (.slice (some ⟨g.w.heap.size,0,none⟩) m.toNat m.toNat)
   (g.w.alloc (.cells ((Array.range (m.toNat*i.size)).map (z0.cells[· % i.size]!)) el)):=by
  by_cases yY:m.toNat*i.size=0
  ·have KP:m.toNat=0:=by rcases Nat.mul_eq_zero.1 yY with h | h<;>omega
   have GF:m=0:=by omega
   subst GF;simp[Instr.makeSlice,run_underlying hu,asInt,asIntOf,typeInfo,hi,hw,run_sizeOf hi,newRow,Array.range_zero']
  ·simp[Instr.makeSlice,run_underlying hu,asInt,asIntOf,typeInfo,hi,hw,fT,tZ,run_sizeOf hi,yY,zeroValue,mg,newRow,kH]
 rw[aY];exact mr r (.inl rfl) hf (.inl (by omega)) (by simp) aC.2.1 (Nat.le_refl _) (by simp) aC.2.2
end
section
variable {ν:Nat->Nat} {P:Program} {k:Cx} {g:Gh}
theorem gC {t:TypeId} {qs:List Nat} (h:jM P t qs=true):(∃n e,P.underlying t=some (.array n e)/\qs.length=n/\qs.length≠1/\fO P e 1 false=true/\∀q ∈ qs,du q (P.underlying e)=true)\/∃q,qs=[q]/\du q (P.underlying t)=true:=by
 unfold jM at h;split at h
 ·rename_i n e hu;simp only[Bool.and_eq_true,beq_iff_eq,bne_iff_ne,ne_eq,List.all_eq_true]at h;exact .inl ⟨n,e,hu,h.1.1.1,h.1.1.2,h.1.2,h.2⟩
 ·split at h
  ·rename_i q;exact .inr ⟨q,rfl,h⟩
  ·cases h
theorem qo {e:TypeId} (he:fO P e 1 false=true) {xs ys:Array Value} (d:Nat) (w:World):∀(qs:List Nat) (i:Nat) (cs ds:List AV) (b:Bool),(∀q ∈ qs,du q (P.underlying e)=true)->eqs qs cs ds=some b->
  (∀(j:Nat) (c:AV),cs[j]?=some c->∃v,xs[i+j]?=some v/\RA ν g v c)->(∀(j:Nat) (c:AV),ds[j]?=some c->∃v,ys[i+j]?=some v/\RA ν g v c)->
  (Op.eqItems (d+1) e 1 xs ys (List.range' i qs.length)).run P w = .ok b w:=by
 intro qs
 induction qs with
 |nil=>
  intro i cs ds b _ h2 _ _;cases cs<;>cases ds<;>simp[eqs]at h2;subst h2;simp[Op.eqItems]
 |cons q qs ih=>
  intro i cs ds b h1 h2 hx hy;cases cs with
  |nil=>simp[eqs]at h2
  |cons c cs=>
   cases ds with
   |nil=>simp[eqs]at h2
   |cons d' ds=>
    simp only[eqs,Option.bind_eq_some_iff]at h2;obtain⟨b1,e1,b2,e2,e3⟩:=h2;cases e3;obtain⟨v,hv,yf⟩:=hx 0 c rfl;obtain⟨u,hu,s4⟩:=hy 0 d' rfl;obtain⟨dd,ii,h3,h4,h5,h6,_⟩:=c8 he;have jw:(part e xs (i*1)).run P w = .ok v w:=by simp[part,cJ h3,h5,show xs[i]?=some v from hv]
    have bD:(part e ys (i*1)).run P w = .ok u w:=by simp[part,cJ h3,h5,show ys[i]?=some u from hu]
    have dL:=lp (P:=P) e1 (h1 q (by simp)) yf s4 d w;have hr:=ih (i+1) cs ds b2 (λq hq=>h1 q (by simp[hq])) e2 (λj c hc=>by have:=hx (j+1) c (by simpa using hc);rwa [show i+1+j=i+(j+1) by omega]) (λj c hc=>by
     have:=hy (j+1) c (by simpa using hc);rwa [show i+1+j=i+(j+1) by omega])
    simp only[List.length_cons,List.range'_succ,Op.eqItems,Sem.run_bind,jw,bD,dL,Result.andThen_ok,Sem.run_ite];cases b1
    ·simp
    ·simp[hr]
theorem iV {e:TypeId} (he:fO P e 1 false=true):P.cellsOf e=1/\∃i,P.info? e=some i/\i.size=1:=by
 obtain⟨dd,ii,h3,h4,h5,h6,_⟩:=c8 he;exact⟨by simp[Program.cellsOf,h4,h6],ii,h4,h6⟩
theorem oD {t:TypeId} {qs:List Nat} (h:jM P t qs=true) {x y:AV} {b:Bool} (e:kC qs x y=some b) {v u:Value} (hv:RA ν g v x) (hu:RA ν g u y) (w:World):(Op.equal t v u).run P w = .ok b w:=by
 unfold kC at e;split at e
 ·split at e
  ·cases e
  rename_i cs ds h1;rcases gC h with⟨n,el,gn,rfl,_,he,hq⟩|⟨q,rfl,_⟩
  ·obtain⟨xs,rfl⟩:=hv.dP;obtain⟨ys,rfl⟩:=hu.dP;obtain⟨hc,i,hi,_⟩:=iV he
   show(Op.equalIn (9999+1) t (.agg xs) (.agg ys)).run P w=_
   rw[run_equalIn_array w 9999 xs ys gn hi,hc,List.range_eq_range'];exact qo he 9998 w qs 0 cs ds b hq e (λj c hc=>by simpa using hv.dQ j c hc) (λj c hc=>by simpa using hu.dQ j c hc)
  ·simp at h1
 ·split at e
  case isFalse=>cases e
  rename_i x y h1;rcases gC h with⟨n,el,gn,rfl,bF,_⟩|⟨q,rfl,hq⟩
  ·exact absurd h1 bF
  ·simp only[eqs,Option.bind_eq_some_iff]at e;obtain⟨b1,e1,b2,e2,e3⟩:=e;cases e2;cases e3;have:=lp (P:=P) e1 hq hv hu 9999 w;simpa[Op.equal,Op.maxDepth]using this
 ·cases e
def iF (es:List MapEntry) (i:Nat):Option (Nat×AV)->Option (Nat×Value)->Prop
 |none,r=>r=none
 |some p,r=>∃e,i<=p.1/\es[p.1 - i]?=some e/\r=some (p.1,e.val)
theorem iF.up {es:List MapEntry} {e:MapEntry} {i:Nat} {a:Option (Nat×AV)} {r:Option (Nat×Value)} (h:iF es (i+1) a r):iF (e::es) i a r:=by
 cases a with
 |none=>exact h
 |some p=>
  obtain⟨e',h1,h2,h3⟩:=h;refine⟨e',by omega,?_,h3⟩;rw[show p.1 - i=(p.1 - (i+1))+1 by omega];simpa using h2
theorem jq {qs:List Nat} {kk:AV}:∀{aL:List (AV×AV)} {i:Nat} {p:Nat×AV},cM qs kk aL i=some (some p)->∃y,i<=p.1/\aL[p.1 - i]?=some (y,p.2)/\kC qs kk y=some true
 |[],i,p,h=>by simp[cM]at h
 |kv::aL,i,p,h=>by
  unfold cM at h;split at h
  ·rename_i hk;cases h;exact⟨kv.1,Nat.le_refl _,by simp,hk⟩
  ·obtain⟨y,h1,h2,h3⟩:=jq h;refine⟨y,by omega,?_,h3⟩;rw[show p.1 - i=(p.1 - (i+1))+1 by omega];simpa using h2
  ·cases h
def gD (ν:Nat->Nat) (g:Gh) (es:List MapEntry) (aL:List (AV×AV)):Prop:=es.length=aL.length/\∀(j:Nat) (e:MapEntry) (p:AV×AV),es[j]?=some e->aL[j]?=some p->RA ν g e.key p.1
theorem gD.cons {e:MapEntry} {es:List MapEntry} {p:AV×AV} {aL:List (AV×AV)} (h:gD ν g (e::es) (p::aL)):RA ν g e.key p.1/\gD ν g es aL:=
 ⟨h.2 0 e p rfl rfl,by have:=h.1;simpa using this,λj e p h1 h2=>h.2 (j+1) e p (by simpa using h1) (by simpa using h2)⟩
theorem kR {t:TypeId} {qs:List Nat} (h:jM P t qs=true) {x:AV} {v:Value} (hv:RA ν g v x) (w:World):∀(es:List MapEntry) (aL:List (AV×AV)) (i:Nat) (a:Option (Nat×AV)),gD ν g es aL->cM qs x aL i=some a->
  ∃r,(Instr.findAsking t v es i).run P w = .ok r w/\iF es i a r:=by
 intro es
 induction es with
 |nil=>
  intro aL i a hR hf;obtain rfl:aL=[]:=List.eq_nil_of_length_eq_zero hR.1.symm;simp[cM]at hf;subst hf;exact⟨none,by simp[Instr.findAsking],rfl⟩
 |cons e es ih=>
  intro aL i a hR hf;cases aL with
  |nil=>have:=hR.1;simp at this
  |cons p aL=>
   obtain⟨h0,kI⟩:=hR.cons;unfold cM at hf;split at hf
   ·rename_i hk;cases hf;have:=oD h hk hv h0 w;exact⟨some (i,e.val),by simp[Instr.findAsking,this],e,Nat.le_refl _,by simp,rfl⟩
   ·rename_i hk;have:=oD h hk hv h0 w;obtain⟨r,h1,h2⟩:=ih aL (i+1) a kI hf;exact⟨r,by simp[Instr.findAsking,this,h1],h2.up⟩
   ·cases hf
theorem uf {q:Nat} {d:TypeDesc} (hq:du q (some d)=true) {x y:AV} {b:Bool} (e:jv q x y=some b) {v u:Value} (hv:RA ν g v x) (hu:RA ν g u y):Instr.sameNow d v u=some b:=by
 unfold jv at e;split at e
 ·obtain rfl:=hv.int;obtain rfl:=hu.int;obtain⟨kk,h1⟩:=nw hq;cases h1;simp only[Option.ite_none_right_eq_some,Option.some.injEq]at e;obtain⟨hk,rfl⟩:=e;simp[Instr.sameNow,hk]
 ·cases e;obtain rfl:=hv.bool;obtain rfl:=hu.bool;have:=mb hq;cases this;rfl
 ·cases e;obtain rfl:=hv.str;obtain rfl:=hu.str;have:=ny hq;cases this;rfl
 ·cases e
theorem nz {q:Nat} {d:TypeDesc} (hq:du q (some d)=true) {x:AV} {v:Value} (hv:RA ν g v x):∀(es:List MapEntry) (aL:List (AV×AV)) (i:Nat) (a:Option (Nat×AV)),gD ν g es aL->cM [q] x aL i=some a->
  ∃r,Instr.findNow d v es i=some r/\iF es i a r:=by
 intro es
 induction es with
 |nil=>
  intro aL i a hR hf;obtain rfl:aL=[]:=List.eq_nil_of_length_eq_zero hR.1.symm;simp[cM]at hf;subst hf;exact⟨none,by simp[Instr.findNow],rfl⟩
 |cons e es ih=>
  intro aL i a hR hf;cases aL with
  |nil=>have:=hR.1;simp at this
  |cons p aL=>
   obtain⟨h0,kI⟩:=hR.cons;have key:∀{b:Bool},kC [q] x p.1=some b->Instr.sameNow d v e.key=some b:=by
    intro b hk;unfold kC at hk;split at hk
    ·simp at hk
    ·simp only[List.length_singleton,if_true,eqs,Option.bind_eq_some_iff]at hk;obtain⟨b1,e1,b2,e2,e3⟩:=hk;rename_i hp;cases e2;cases e3;rw[<-hp]at e1;simpa using uf hq e1 hv h0
    ·cases hk
   unfold cM at hf;split at hf
   ·rename_i hk;cases hf;exact⟨some (i,e.val),by simp[Instr.findNow,key hk],e,Nat.le_refl _,by simp,rfl⟩
   ·rename_i hk;obtain⟨r,h1,h2⟩:=ih aL (i+1) a kI hf;exact⟨r,by simp[Instr.findNow,key hk,h1],h2.up⟩
   ·cases hf
theorem ke {t:TypeId} {qs:List Nat} (h:jM P t qs=true) {x:AV} {v:Value} (hv:RA ν g v x) (w:World) {es:List MapEntry} {aL:List (AV×AV)} {a:Option (Nat×AV)} (hR:gD ν g es aL) (hf:cM qs x aL 0=some a) :
  ∃r,(Instr.findKey t v es).run P w = .ok r w/\iF es 0 a r:=by
 rcases gC h with⟨n,el,gn,_⟩|⟨q,rfl,hq⟩
 ·rw[run_findKey_eq w (by rw[gn])];exact kR h hv w es aL 0 a hR hf
 ·cases hd:P.underlying t with
  |none=>rw[hd]at hq;simp[du]at hq
  |some d=>
   rw[hd]at hq;obtain⟨r,h1,h2⟩:=nz hq hv es aL 0 a hR hf;exact⟨r,Go.MapKept.run_findKey hd h1,h2⟩
theorem iW {q:Nat} {e:TypeId} (hq:du q (P.underlying e)=true) (em:Bool) (n:Nat) (v:Value) (w:World):(Instr.checkKey em (n+1) e v).run P w = .ok () w:=by
 cases hd:P.underlying e with
 |none=>rw[hd]at hq;simp[du]at hq
 |some d=>
  rw[hd]at hq;unfold Instr.checkKey;simp only[Sem.run_bind,run_underlying hd,Result.andThen_ok];cases d<;>first | (simp[du]at hq;done) | (cases v<;>rfl)
theorem jr {t:TypeId} {qs:List Nat} (h:jM P t qs=true) {x:AV} (hx:gw qs x=true) {v:Value} (hv:RA ν g v x) (em:Bool) (w:World):(Instr.checkKey em 10000 t v).run P w = .ok () w:=by
 rcases gC h with⟨n,el,gn,hn,bF,he,hq⟩|⟨q,rfl,hq⟩
 ·cases x with
  |agg cs=>
   simp only[gw,Bool.and_eq_true,beq_iff_eq]at hx;obtain⟨xs,rfl⟩:=hv.dP;obtain⟨hc,i,hi,Ce⟩:=iV he
   show(Instr.checkKey em (9999+1) t (.agg xs)).run P w=_
   rw[Instr.checkKey];simp only[Sem.run_bind,run_underlying gn,Result.andThen_ok];simp only[Std.Legacy.Range.forIn_eq_forIn_range',Std.Legacy.Range.size,Nat.sub_zero,Nat.add_one_sub_one,Nat.div_one];have all:∀j ∈ List.range' 0 n,∃c,xs[j]?=some c:=by
    intro j hj;simp only[List.mem_range'_1]at hj;obtain⟨v,dm,_⟩:=hv.dQ j cs[j] (List.getElem?_eq_getElem (by omega));exact⟨v,dm⟩
   cases qs with
   |nil=>simp only[List.length_nil]at hn;subst hn;simp
   |cons q qs=>
   have Cf:∀v,(Instr.checkKey em 9999 el v).run P w = .ok () w:=λv=>iW (hq q (by simp)) em 9998 v w
   clear hn hx hv;generalize List.range' 0 n=is at all
   induction is with
   |nil=>simp
   |cons j is ih=>
    obtain⟨c,Cg⟩:=all j (by simp);obtain⟨dd,ii,h3,h4,h5,h6,_⟩:=c8 he;have hp:(part el xs (j*1)).run P w = .ok c w:=by simp[part,cJ h3,h5,Cg]
    simp only[List.forIn_cons,Sem.run_bind,run_sizeOf hi,Ce,Result.andThen_ok,hp,Cf,Sem.run_pure];exact ih λy hy=>all y (by simp[hy])
  |iv y=>simp only[gw,beq_iff_eq]at hx;exact absurd hx bF
  |_=>simp[gw]at hx
 ·exact iW hq em 9999 v w
end
def CW (P:Program) (t:TypeId) (agg:Bool) (z:List AV):Bool:=match P.underlying t with
 |some (.map _ et)=>(match P.info? et with
  |some i=>(match i.zero with
   |some (.agg cs)=>agg&&hP cs.toList z
   |some (.tuple _)=>false
   |some v=>!agg&&hP [v] z
   |none=>false)
  |none=>false)
 |_=>false
section
variable {ν:Nat->Nat} {P:Program} {k:Cx} {g:Gh}
theorem eK {x:AV} {q:Nat×List (AV×AV)} {h':Hp} (r:Rel ν k g) (e:(dj x).run g.h=some (q,h')) {v:Value} (hv:RA ν g v x) :
  h'=g.h/\∃b es clock,x = .ref q.1 0 0 0/\get g.h q.1=some (.map q.2)/\g.φ q.1=some b/\v = .map (some b)/\¬g.I b/\b<g.w.heap.size/\g.w.heap[b]?=some (.map es clock)/\es.size=q.2.length/\jk es clock/\
   ∀(j:Nat) (e:MapEntry) (p:AV×AV),es[j]?=some e->q.2[j]?=some p->RA ν g e.key p.1/\RA ν g e.val p.2:=by
 unfold dj at e;split at e
 case h_2=>exact(ae e).elim
 rename_i id;obtain⟨ob,hg,e2⟩:=M.aM e;cases ob with
 |cells _=>exact(ae e2).elim
 |buf _ _ _=>exact(ae e2).elim
 |aZ _ _ _=>exact(ae e2).elim
 |c7 _=>exact(ae e2).elim
 |map aL=>
  obtain⟨rfl,rfl⟩:=af e2;refine⟨rfl,?_⟩;cases hv with
  |ref h1 h=>
   unfold aG at h;simp only[hg]at h;obtain⟨-, -, -,b,ah,rfl⟩:=h;obtain⟨b',es,clock,e1,e2,e3,e4,e5,e7,e6⟩:=r.ob id _ hg;rw[ah]at e1;cases e1;exact⟨b,es,clock,rfl,hg,ah,rfl,e2,e3,e4,e5,e7,e6⟩
theorem ug (r:Rel ν k g) {slot:Nat} {t:TypeId} {y:AV} {h':Hp} (e:((M.fresh (4*slot)).bind λ_=>(M.write (4*slot) (.map [])).bind λ_=>M.ret (.ref (4*slot) 0 0 0)).run g.h=some (y,h')):bf ν k g h' y ((Instr.makeMap t none).run P g.w):=by
 obtain⟨_,h1,e1,e2⟩:=ag e;obtain⟨hf,rfl⟩:=M.ct e1;obtain⟨_,h2,e3,e4⟩:=ag e2;obtain rfl:=aI e3;obtain⟨rfl,rfl⟩:=af e4;have nA:(g.w.heap.push (.map #[] 0))[g.w.heap.size]?=some (.map #[] 0):=by simp
 have hold:∀b,b<g.w.heap.size->(g.w.heap.push (.map #[] 0))[b]?=g.w.heap[b]?:=λb h=>by simp[Array.getElem?_push,Nat.ne_of_lt h]
 have hn:=r.new (s:=4*slot) (ob:=.map []) (p:=some g.w.heap.size) (w':={ g.w with heap:=g.w.heap.push (.map #[] 0) }) hf (by simp) rfl rfl rfl hold (λb h=>by cases h;exact Nat.le_refl _) (λb h=>.zero (by omega))
  λ_=>⟨g.w.heap.size,#[],0,aw _ _ _,λhi=>absurd (r.small _ hi) (Nat.lt_irrefl _),by simp,nA,rfl,⟨by simp,λx hx=>by simp at hx⟩,λj e p h=>by simp at h⟩
 refine⟨_,.map (some g.w.heap.size),rfl,rfl,hn.1,hn.2,.ref rfl ?_⟩;unfold aG;simp only[an,aw];exact⟨trivial,trivial,trivial,_,rfl,rfl⟩
theorem nB {es:Array MapEntry} {aL:List (AV×AV)} (h:es.size=aL.length) (hr:∀(j:Nat) (e:MapEntry) (p:AV×AV),es[j]?=some e->aL[j]?=some p->RA ν g e.key p.1/\RA ν g e.val p.2):gD ν g es.toList aL:=
 ⟨by simpa using h,λj e p h1 h2=>(hr j e p (by simpa using h1) h2).1⟩
theorem sq (r:Rel ν k g) {t:TypeId} {ok agg:Bool} {qs:List Nat} {z:List AV} (hq:iS P t qs=true) (hz:CW P t agg z=true) {m kk y:AV} {vm vk:Value} {h':Hp} (hm:RA ν g vm m) (hk:RA ν g vk kk)
  (e:(gT ok agg qs z m kk).run g.h=some (y,h')):bf ν k g h' y ((Instr.lookup t vm vk ok).run P g.w):=by
 obtain⟨bx,e2⟩:=M.aj e;obtain⟨⟨id,aL⟩,h2,e3,e4⟩:=ag e2;obtain⟨rfl,b,es,clock, -,hg,ah,rfl,b8,aT,hb,bB,nO,hr⟩:=eK r e3 hm;obtain⟨a,hf,e6⟩:=M.lift_bind e4;obtain⟨kt,et,hu,kJ⟩:=jy hq;obtain⟨rr,dW,kK⟩:=ke kJ hk g.w (nB bB hr) hf;have fJ:=jr kJ bx hk es.isEmpty g.w;have cf:=MapKept.run_getObj_map (P:=P) hb;cases a with
 |some p=>
  obtain⟨e0, -,dL,rfl⟩:=kK;obtain⟨yk, -,hp, -⟩:=jq hf;simp only[Nat.sub_zero]at dL hp;have fX:=(hr p.1 e0 _ (by simpa using dL) hp).2;cases ok with
  |true=>
   simp only[if_true]at e6;obtain⟨rfl,rfl⟩:=af e6;refine .same r (v:=.tuple #[e0.val,.bool true]) (by simp[Instr.lookup,run_underlying hu,cf,fJ,dW]) ?_;refine .aR rfl λj v c h1 h2=>?_
   match j with
   |0=>simp at h1 h2;subst h1 h2;exact fX
   |1=>simp at h1 h2;subst h1 h2;exact bK
   |j+2=>simp at h1
  |false=>
   simp only[Bool.false_eq_true,if_false]at e6;obtain⟨rfl,rfl⟩:=af e6;exact .same r (v:=e0.val) (by simp[Instr.lookup,run_underlying hu,cf,fJ,dW]) fX
 |none=>
  have fg:rr=none:=kK;subst fg;obtain⟨zv,h4,e7,e8⟩:=ag e6;have key:∃v0,(zeroValue et).run P g.w = .ok v0 g.w/\h4=g.h/\RA ν g v0 zv:=by
   unfold CW at hz;rw[hu]at hz;simp only at hz;cases hi:P.info? et with
   |none=>rw[hi]at hz;cases hz
   |some i=>
    rw[hi]at hz;simp only at hz;cases mg:i.zero with
    |none=>rw[mg]at hz;cases hz
    |some v0=>
     rw[mg]at hz;have aY:(zeroValue et).run P g.w = .ok v0 g.w:=by simp[zeroValue,typeInfo,hi,mg]
     have one:∀{v:Value},hP [v] z=true->agg=false->(mk agg z).run g.h=some (zv,h4)->h4=g.h/\RA ν g v zv:=by
      intro v hc ha em;subst ha;unfold mk at em;simp only[Bool.false_eq_true,if_false]at em;cases z with
      |nil=>exact(ae em).elim
      |cons z0 zr=>
       cases zr with
       |cons _ _=>exact(ae em).elim
       |nil=>
        obtain⟨rfl,rfl⟩:=af em;simp only[hP,Bool.and_true]at hc;exact⟨rfl,(kn hc g).2⟩
     cases v0 with
     |agg cs=>
      simp only[Bool.and_eq_true]at hz;obtain⟨ha,hc⟩:=hz;subst ha;unfold mk at e7;simp only[if_true]at e7;obtain⟨rfl,rfl⟩:=af e7;exact⟨_,aY,rfl,(qC hc).agg⟩
     |tuple vs=>cases hz
     |_=>
      simp only[Bool.and_eq_true,Bool.not_eq_true']at hz;exact⟨_,aY,one hz.2 hz.1 e7⟩
  obtain⟨v0,aY,rfl,lx⟩:=key;cases ok with
  |true=>
   simp only[if_true]at e8;obtain⟨rfl,rfl⟩:=af e8;refine .same r (v:=.tuple #[v0,.bool false]) (by simp[Instr.lookup,run_underlying hu,cf,fJ,dW,aY]) ?_;refine .aR rfl λj v c h1 h2=>?_
   match j with
   |0=>simp at h1 h2;subst h1 h2;exact lx
   |1=>simp at h1 h2;subst h1 h2;exact bK
   |j+2=>simp at h1
  |false=>
   simp only[Bool.false_eq_true,if_false]at e8;obtain⟨rfl,rfl⟩:=af e8;exact .same r (v:=v0) (by simp[Instr.lookup,run_underlying hu,cf,fJ,dW,aY]) lx
theorem sr (r:Rel ν k g) {t ty:TypeId} (ht:isMap P t=true) {m y:AV} {vm:Value} {h':Hp} (hm:RA ν g vm m) (e:((dj m).bind λx=>M.ret (.iv (.int .i64 x.2.length))).run g.h=some (y,h')) :
  bf ν k g h' y ((Builtin.len_ #[t] ty #[vm]).run P g.w):=by
 obtain⟨⟨id,aL⟩,h2,e3,e4⟩:=ag e;obtain⟨rfl,b,es,clock, -,hg,ah,rfl,b8,aT,hb,bB,nO,hr⟩:=eK r e3 hm;obtain⟨rfl,rfl⟩:=af e4;obtain⟨kt,et,hu⟩:=rh ht;exact .same r (v:=.int .i64 aL.length) (by simp[Builtin.len_,run_underlying hu,MapKept.run_getObj_map (P:=P) hb,goInt,bB]) mkInt
theorem jk.modify {es:Array MapEntry} {clock:Nat} (h:jk es clock) (i:Nat) (f:MapEntry->MapEntry) (hf:∀e,(f e).born=e.born):jk (es.modify i f) clock:=by
 have hb:(es.modify i f).toList.map (·.born)=es.toList.map (·.born):=by
  apply List.ext_getElem?;intro j;simp only[List.getElem?_map,Array.getElem?_toList,Array.getElem?_modify];split
  ·cases es[j]?<;>simp[hf]
  ·rfl
 refine⟨by rw[hb];exact h.1,λx hx=>?_⟩;have:x.born ∈ es.toList.map (·.born):=by rw[<-hb];exact List.mem_map_of_mem hx
 obtain⟨y,hy,Jn⟩:=List.mem_map.1 this;rw[<-Jn];exact h.2 y hy
theorem jk.push {es:Array MapEntry} {clock:Nat} (h:jk es clock) (e:MapEntry) (he:e.born=clock):jk (es.push e) (clock+1):=by
 refine⟨?_,λx hx=>?_⟩
 ·simp only[Array.toList_push,List.map_append,List.map_cons,List.map_nil];refine List.nodup_append.2 ⟨h.1,by simp,λa ha b hb=>?_⟩;obtain⟨y,hy,rfl⟩:=List.mem_map.1 ha;simp at hb;have:=h.2 y hy;omega
 ·simp only[Array.toList_push,List.mem_append,List.mem_singleton]at hx;rcases hx with hx | rfl
  ·exact Nat.lt_succ_of_lt (h.2 x hx)
  ·omega
theorem jk.erase {es:Array MapEntry} {clock:Nat} (h:jk es clock) (i:Nat):jk (es.eraseIdxIfInBounds i) clock:=by
 by_cases hi:i<es.size
 ·have he:es.eraseIdxIfInBounds i=es.eraseIdx i hi:=by simp[Array.eraseIdxIfInBounds,hi]
  rw[he];have hl:(es.eraseIdx i hi).toList=es.toList.eraseIdx i:=by simp
  have eI:(es.toList.eraseIdx i).Sublist es.toList:=List.eraseIdx_sublist ..;refine⟨by rw[hl];exact h.1.sublist (eI.map _),λx hx=>h.2 x (by rw[hl]at hx;exact eI.subset hx)⟩
 ·have he:es.eraseIdxIfInBounds i=es:=by simp[Array.eraseIdxIfInBounds,hi]
  rw[he];exact h
theorem gE (r:Rel ν k g) {id b:Nat} {aL ig:List (AV×AV)} {es':Array MapEntry} {clock':Nat} (hg:get g.h id=some (.map aL)) (ah:g.φ id=some b) (b8:¬g.I b) (aT:b<g.w.heap.size) (bt:id % 4=0) (bB:es'.size=ig.length) (nO:jk es' clock')
  (hr:∀(g':Gh),aV ν g g'->∀(j:Nat) (e:MapEntry) (p:AV×AV),es'[j]?=some e->ig[j]?=some p->RA ν g' e.key p.1/\RA ν g' e.val p.2) :
  ∃g',g'.w={ g.w with heap:=g.w.heap.setIfInBounds b (.map es' clock') }/\g'.h=set g.h id (.map ig)/\Rel ν k g'/\aV ν g g':=by
 have ht:=r.iR (s:=id) (ob:=.map ig) (p:=g.φ id) (w':={ g.w with heap:=g.w.heap.setIfInBounds b (.map es' clock') }) (I':=g.I) hg (λb' h=>by rw[ah]at h;cases h;exact b8) (by simp) rfl rfl rfl
  (λb' _ bF=>by
   have:b≠b':=λe=>bF (by rw[ah,e])
   simp[this])
  (λ_ h=>h) (λ_ h=>.inl h) (.inl rfl) (λ_ _=>.zero bt)
  (λv o n ai ho=>by unfold aE at ho;rw[hg]at ho;exact ho.elim)
  (λv ai i j h=>by
   unfold aG at h ⊢;rw[hg]at h;simp only[an,aw];exact h)
  (λ_ hm=>⟨b,es',clock',(aw _ _ _).trans ah,b8,by simpa using aT,by simp[aT],bB,nO,hr _ hm⟩)
 exact⟨_,rfl,rfl,ht.1,ht.2⟩
theorem ly {q:Nat} {x y:AV} (e:jv q x y=some true) {v u:Value} (hv:RA ν g v x) (hu:RA ν g u y) (n:Nat):Instr.sameBits n u v=true:=by
 unfold jv at e;split at e
 ·obtain rfl:=hv.int;obtain rfl:=hu.int;simp only[Option.ite_none_right_eq_some,Option.some.injEq,beq_iff_eq]at e;obtain⟨rfl,rfl⟩:=e;simp[Instr.sameBits]
 ·obtain rfl:=hv.bool;obtain rfl:=hu.bool;simp only[Option.some.injEq,beq_iff_eq]at e;subst e;simp[Instr.sameBits]
 ·obtain rfl:=hv.str;obtain rfl:=hu.str;simp only[Option.some.injEq]at e;simp only[Instr.sameBits];rw[beq_toListBytes]at e ⊢;exact BEq.symm e
 ·cases e
theorem jN:∀(qs:List Nat) (cs ds:List AV) (xs ys:List Value),eqs qs cs ds=some true->xs.length=cs.length->ys.length=ds.length->(∀(j:Nat) (v:Value) (c:AV),xs[j]?=some v->cs[j]?=some c->RA ν g v c)->
  (∀(j:Nat) (v:Value) (c:AV),ys[j]?=some v->ds[j]?=some c->RA ν g v c)->((ys.zip xs).all fun(x,y)=>Instr.sameBits 9999 x y)=true/\ys.length=xs.length
 |[],[],[],xs,ys,_,hx,hy,_,_=>by
  obtain rfl:=List.eq_nil_of_length_eq_zero hx;obtain rfl:=List.eq_nil_of_length_eq_zero hy;exact⟨rfl,rfl⟩
 |q::qs,c::cs,d::ds,xs,ys,e,hx,hy,h1,h2=>by
  cases xs with
  |nil=>simp at hx
  |cons v xs=>
   cases ys with
   |nil=>simp at hy
   |cons u ys=>
    simp only[eqs,Option.bind_eq_some_iff]at e;obtain⟨b1,e1,b2,e2,e3⟩:=e;simp only[Option.some.injEq,Bool.and_eq_true]at e3;obtain⟨rfl,rfl⟩:=e3;obtain⟨i1,i2⟩:=jN qs cs ds xs ys e2 (by simpa using hx) (by simpa using hy) (λj v c a b=>h1 (j+1) v c (by simpa using a) (by simpa using b)) λj v c a b=>h2 (j+1) v c (by simpa using a) (by simpa using b)
    have hv:=h1 0 v c rfl rfl;have hu:=h2 0 u d rfl rfl;refine⟨?_,by simp[i2]⟩;simp only[List.zip_cons_cons,List.all_cons,Bool.and_eq_true];refine⟨?_,i1⟩;exact ly e1 hv hu 9999
 |[],_::_,_,_,_,e,_,_,_,_=>by simp[eqs]at e
 |[],[],_::_,_,_,e,_,_,_,_=>by simp[eqs]at e
 |_::_,[],_,_,_,e,_,_,_,_=>by simp[eqs]at e
 |_::_,_::_,[],_,_,e,_,_,_,_=>by simp[eqs]at e
theorem qp {qs:List Nat} {x y:AV} (e:kC qs x y=some true) {v u:Value} (hv:RA ν g v x) (hu:RA ν g u y) (w:World):(Instr.keyThatStays u v).run P w = .ok v w:=by
 have hs:Instr.sameBits 10000 u v=true:=by
  unfold kC at e;split at e
  ·split at e
   ·cases e
   rename_i cs ds _;obtain⟨xs,rfl⟩:=hv.dP;obtain⟨ys,rfl⟩:=hu.dP;have n1:xs.size=cs.length:=by cases hv;assumption
   have n2:ys.size=ds.length:=by cases hu;assumption
   have r1:∀(j:Nat) (v:Value) (c:AV),xs[j]?=some v->cs[j]?=some c->RA ν g v c:=by cases hv;assumption
   have r2:∀(j:Nat) (v:Value) (c:AV),ys[j]?=some v->ds[j]?=some c->RA ν g v c:=by cases hu;assumption
   obtain⟨i1,i2⟩:=jN qs cs ds xs.toList ys.toList e (by simpa using n1) (by simpa using n2) (λj v c a b=>r1 j v c (by simpa using a) b) λj v c a b=>r2 j v c (by simpa using a) b
   show Instr.sameBits (9999+1) (.agg ys) (.agg xs)=true
   simp only[Instr.sameBits,Bool.and_eq_true,beq_iff_eq];exact⟨by simpa using i2,i1⟩
  ·split at e
   case isFalse=>cases e
   rename_i h1;obtain⟨q,rfl⟩:=List.length_eq_one_iff.1 h1;simp only[eqs,Option.bind_eq_some_iff]at e;obtain⟨b1,e1,b2,e2,e3⟩:=e;cases e2;simp only[Bool.and_true,Option.some.injEq]at e3;subst e3;exact ly e1 hv hu 10000
  ·cases e
 simp[Instr.keyThatStays,hs]
theorem su (r:Rel ν k g) {t:TypeId} {qs:List Nat} (hq:iS P t qs=true) {m kk x y:AV} {vm vk vx:Value} {h':Hp} (hm:RA ν g vm m) (hk:RA ν g vk kk) (hx:RA ν g vx x) (e:(gU qs m kk x).run g.h=some (y,h')) :
  ∃g',(Instr.mapUpdate t vm vk vx).run P g.w = .ok () g'.w/\y = .aR []/\g'.h=h'/\Rel ν k g'/\aV ν g g':=by
 obtain⟨bx,e2⟩:=M.aj e;obtain⟨⟨id,aL⟩,h2,e3,e4⟩:=ag e2;obtain⟨rfl,b,es,clock, -,hg,ah,rfl,b8,aT,hb,bB,nO,hr⟩:=eK r e3 hm;obtain⟨bt,CX⟩:=M.aj e4;have bt:id % 4=0:=by simpa using bt
 obtain⟨a,hf,e6⟩:=M.lift_bind CX;obtain⟨kt,et,hu,kJ⟩:=jy hq;obtain⟨rr,dW,kK⟩:=ke kJ hk g.w (nB bB hr) hf;have fJ:=jr kJ bx hk false g.w;have cf:=MapKept.run_getObj_map (P:=P) hb;simp only at bB hr hg;cases a with
 |some p=>
  obtain⟨e0, -,dL,rfl⟩:=kK;obtain⟨yk, -,hp,Ci⟩:=jq hf;simp only[Nat.sub_zero]at dL hp;simp only[Array.getElem?_toList]at dL;have fp:=qp (P:=P) Ci hk (hr p.1 e0 _ dL hp).1 g.w;obtain⟨_,h4,e7,e8⟩:=ag e6;obtain rfl:=aI e7;obtain⟨rfl,rfl⟩:=af e8;obtain⟨g',q1,q2,q3,q4⟩:=gE (es':=es.modify p.1 λe=>{ e with key:=vk,val:=vx }) (clock':=clock) (ig:=aL.set p.1 (kk,x)) r hg ah b8 aT bt (by simpa using bB) (nO.modify p.1 _ λ_=>rfl) λg' ei j e q h1 h2=>by
   by_cases hj:p.1=j
   ·subst hj;rw[Array.getElem?_modify,if_pos rfl,dL]at h1;have hl:p.1<aL.length:=ay hp;simp[hl]at h2;cases h1;rw[<-h2];exact⟨ei _ _ hk,ei _ _ hx⟩
   ·rw[Array.getElem?_modify,if_neg hj]at h1;rw[List.getElem?_set_ne hj]at h2;obtain⟨c1,c2⟩:=hr j e q h1 h2;exact⟨ei _ _ c1,ei _ _ c2⟩
  exact⟨g',by simp[Instr.mapUpdate,run_underlying hu,cf,fJ,dW,dL,fp,MapKept.run_setObj_map (P:=P) _ hb,q1],rfl,q2,q3,q4⟩
 |none=>
  have fg:rr=none:=kK;subst fg;obtain⟨_,h4,e7,e8⟩:=ag e6;obtain rfl:=aI e7;obtain⟨rfl,rfl⟩:=af e8;obtain⟨g',q1,q2,q3,q4⟩:=gE (es':=es.push { key:=vk,val:=vx,born:=clock }) (clock':=clock+1) (ig:=aL++[(kk,x)]) r hg ah b8 aT bt (by simpa using bB) (nO.push _ rfl) λg' ei j e q h1 h2=>by
   rw[Array.getElem?_push]at h1;split at h1
   ·rename_i hj;cases h1;rw[hj,bB]at h2;simp at h2;rw[<-h2];exact⟨ei _ _ hk,ei _ _ hx⟩
   ·have hl:j<es.size:=(Array.getElem?_eq_some_iff.1 h1).1;rw[List.getElem?_append_left (by omega)]at h2;obtain⟨c1,c2⟩:=hr j e q h1 h2;exact⟨ei _ _ c1,ei _ _ c2⟩
  exact⟨g',by simp[Instr.mapUpdate,run_underlying hu,cf,fJ,dW,MapKept.run_setObj_map (P:=P) _ hb,q1],rfl,q2,q3,q4⟩
theorem sw (r:Rel ν k g) {t u ty:TypeId} {qs:List Nat} (hq:iS P t qs=true) {m kk y:AV} {vm vk:Value} {h':Hp} (hm:RA ν g vm m) (hk:RA ν g vk kk) (e:(gV qs m kk).run g.h=some (y,h')) :
  bf ν k g h' y ((Builtin.delete_ #[t,u] ty #[vm,vk]).run P g.w):=by
 obtain⟨bx,e2⟩:=M.aj e;obtain⟨⟨id,aL⟩,h2,e3,e4⟩:=ag e2;obtain⟨rfl,b,es,clock, -,hg,ah,rfl,b8,aT,hb,bB,nO,hr⟩:=eK r e3 hm;obtain⟨bt,CX⟩:=M.aj e4;have bt:id % 4=0:=by simpa using bt
 obtain⟨a,hf,e6⟩:=M.lift_bind CX;obtain⟨kt,et,hu,kJ⟩:=jy hq;obtain⟨rr,dW,kK⟩:=ke kJ hk g.w (nB bB hr) hf;have fJ:=jr kJ bx hk es.isEmpty g.w;have cf:=MapKept.run_getObj_map (P:=P) hb;simp only at bB hr hg;cases a with
 |some p=>
  obtain⟨e0, -,dL,rfl⟩:=kK;simp only[Nat.sub_zero]at dL;simp only[Array.getElem?_toList]at dL;have iP:p.1<es.size:=(Array.getElem?_eq_some_iff.1 dL).1;obtain⟨_,h4,e7,e8⟩:=ag e6;obtain rfl:=aI e7;obtain⟨rfl,rfl⟩:=af e8;have cr:es.eraseIdxIfInBounds p.1=es.eraseIdx p.1 iP:=by simp[Array.eraseIdxIfInBounds,iP]
  obtain⟨g',q1,q2,q3,q4⟩:=gE (es':=es.eraseIdxIfInBounds p.1) (clock':=clock) (ig:=aL.eraseIdx p.1) r hg ah b8 aT bt (by rw[cr,Array.size_eraseIdx,List.length_eraseIdx,if_pos (by omega)];omega) (nO.erase _) λg' ei j e q h1 h2=>by
   rw[cr,Array.getElem?_eraseIdx]at h1;rw[List.getElem?_eraseIdx]at h2;split at h1
   ·rename_i hj;rw[if_pos hj]at h2;obtain⟨c1,c2⟩:=hr j e q h1 h2;exact⟨ei _ _ c1,ei _ _ c2⟩
   ·rename_i hj;rw[if_neg hj]at h2;obtain⟨c1,c2⟩:=hr (j+1) e q h1 h2;exact⟨ei _ _ c1,ei _ _ c2⟩
  refine⟨g',.tuple #[],?_,q2,q3,q4,.aR rfl λj v c h=>by simp at h⟩;simp[Builtin.delete_,run_underlying hu,cf,fJ,dW,MapKept.run_setObj_map (P:=P) _ hb,q1]
 |none=>
  have fg:rr=none:=kK;subst fg;obtain⟨_,h4,e7,e8⟩:=ag e6;obtain rfl:=aI e7;obtain⟨rfl,rfl⟩:=af e8;obtain⟨g',q1,q2,q3,q4⟩:=gE (es':=es) (clock':=clock) (ig:=aL) r hg ah b8 aT bt bB nO λg' ei j e q h1 h2=>by
   obtain⟨c1,c2⟩:=hr j e q h1 h2;exact⟨ei _ _ c1,ei _ _ c2⟩
  refine⟨g',.tuple #[],?_,q2,q3,q4,.aR rfl λj v c h=>by simp at h⟩;simp[Builtin.delete_,run_underlying hu,cf,fJ,dW,MapKept.run_setObj_map (P:=P) _ hb,q1]
end
def jZ (P:Program) (t:TypeId):Bool:=match P.underlying t with | some d=>gN d | none=>false
def lV (P:Program) (r:TypeId->List Nat->Bool):List Field->List Nat->Nat->Bool
 |[],qs,_=>qs.isEmpty
 |f::fs,qs,off=>f.name != "_"&&f.offset==off&&Nat.blt 0 (P.cellsOf f.type)&&Nat.ble (P.cellsOf f.type) qs.length&&r f.type (qs.take (P.cellsOf f.type))&&lV P r fs (qs.drop (P.cellsOf f.type)) (off+P.cellsOf f.type)
def lg (r:List Nat->Bool) (c:Nat):Nat->List Nat->Bool
 |0,qs=>qs.isEmpty
 |n+1,qs=>Nat.blt 0 c&&Nat.ble c qs.length&&r (qs.take c)&&lg r c n (qs.drop c)
def p8 (P:Program):Nat->TypeId->List Nat->Bool
 |0,_,_=>false
 |d+1,t,qs=>fO P t qs.length (jZ P t)&&(match P.underlying t with
  |some (.struct fs)=>!P.stoodInHeld t&&lV P (p8 P d) fs.toList qs 0
  |some (.array n e)=>Nat.blt 0 n&&lg (p8 P d e) (P.cellsOf e) n qs
  |dd=>(match qs with | [q]=>du q dd | _=>false))
section
variable {ν:Nat->Nat} {P:Program} {k:Cx} {g:Gh}
theorem o8:∀(m:Nat) (qs:List Nat) (cs ds:List AV) (b:Bool),eqs qs cs ds=some b->m<=qs.length->
  ∃b1 b2,eqs (qs.take m) (cs.take m) (ds.take m)=some b1/\eqs (qs.drop m) (cs.drop m) (ds.drop m)=some b2/\b=(b1&&b2)
 |0,qs,cs,ds,b,h,_=>⟨true,b,by simp[eqs],by simpa using h,by simp⟩
 |m+1,[],cs,ds,b,h,hm=>by simp at hm
 |m+1,q::qs,[],ds,b,h,_=>by simp[eqs]at h
 |m+1,q::qs,c::cs,[],b,h,_=>by simp[eqs]at h
 |m+1,q::qs,c::cs,d::ds,b,h,hm=>by
  simp only[eqs,Option.bind_eq_some_iff]at h;obtain⟨b0,h0,b',h',hb⟩:=h;cases hb;obtain⟨b1,b2,h1,h2,h3⟩:=o8 m qs cs ds b' h' (by simpa using hm);exact⟨b0&&b1,b2,by simp[eqs,h0,h1],by simpa using h2,by rw[h3,Bool.and_assoc]⟩
theorem ni:∀{qs:List Nat} {cs ds:List AV} {b:Bool},eqs qs cs ds=some b->cs.length=qs.length/\ds.length=qs.length
 |[],[],[],b,_=>⟨rfl,rfl⟩
 |[],_::_,_,b,h=>by simp[eqs]at h
 |[],[],_::_,b,h=>by simp[eqs]at h
 |q::qs,[],ds,b,h=>by simp[eqs]at h
 |q::qs,c::cs,[],b,h=>by simp[eqs]at h
 |q::qs,c::cs,d::ds,b,h=>by
  simp only[eqs,Option.bind_eq_some_iff]at h;obtain⟨b0,h0,b',h',hb⟩:=h;obtain⟨h1,h2⟩:=ni h';exact⟨by simp[h1],by simp[h2]⟩
def Is (agg:Bool) (x:AV) (cs:List AV):Prop:=agg=true/\x = .agg cs\/agg=false/\cs=[x]
theorem rH {d:Nat} {t:TypeId} {qs:List Nat} (h:p8 P d t qs=true):fO P t qs.length (jZ P t)=true:=by
 cases d with
 |zero=>cases h
 |succ d=>simp only[p8,Bool.and_eq_true]at h;exact h.1
def uS (ν:Nat->Nat) (P:Program) (g:Gh) (d:Nat):Prop:=
 ∀(t:TypeId) (qs:List Nat),p8 P d t qs=true->∀(cs ds:List AV) (b:Bool),eqs qs cs ds=some b->∀(v u:Value) (x y:AV),Is (jZ P t) x cs->Is (jZ P t) y ds->RA ν g v x->RA ν g u y->
  ∀D,d<=D->∀w:World,(Op.equalIn D t v u).run P w = .ok b w
theorem pI {t:TypeId} {sz off:Nat} (ht:fO P t sz (jZ P t)=true) {vs:Array Value} {cs:List AV} (hv:RA ν g (.agg vs) (.agg cs)) (hl:off+sz<=cs.length) (w:World) :
  ∃v x,(part t vs off).run P w = .ok v w/\RA ν g v x/\Is (jZ P t) x ((cs.drop off).take sz):=by
 have hlen:((cs.drop off).take sz).length=sz:=by simp;omega
 cases ha:jZ P t with
 |true=>
  rw[ha]at ht;obtain⟨v,h1,h2⟩:=j7 ht hv hlen (r:=.agg ((cs.drop off).take sz)) (.inl ⟨rfl,rfl⟩) w;exact⟨v,_,h1,h2,.inl ⟨rfl,rfl⟩⟩
 |false=>
  rw[ha]at ht;obtain⟨_,_,_,_,_,_,h1⟩:=c8 ht;have bB:=h1 rfl;obtain⟨x,hx⟩:∃x,(cs.drop off).take sz=[x]:=by
   match hc:(cs.drop off).take sz,hlen with
   |[x],_=>exact⟨x,rfl⟩
   |[],h=>simp at h;omega
   |_::_::_,h=>simp at h;omega
  obtain⟨v,h1,h2⟩:=j7 ht hv hlen (r:=x) (.inr ⟨rfl,hx⟩) w;exact⟨v,x,h1,h2,.inr ⟨rfl,hx⟩⟩
theorem vE {d:Nat} (ih:uS ν P g d) {D:Nat} (hD:d<=D) {vs us:Array Value} {U bs:List AV} (hv:RA ν g (.agg vs) (.agg U)) (hu:RA ν g (.agg us) (.agg bs)):∀(fs:List Field) (qs:List Nat) (off:Nat) (b:Bool) (w:World),
  lV P (p8 P d) fs qs off=true->eqs qs (U.drop off) (bs.drop off)=some b->(Op.eqFields D vs us fs).run P w = .ok b w:=by
 intro fs
 induction fs with
 |nil=>
  intro qs off b w h e;simp only[lV,List.isEmpty_iff]at h;subst h;obtain⟨h1,h2⟩:=ni e;rw[List.eq_nil_of_length_eq_zero h1,List.eq_nil_of_length_eq_zero h2]at e;simp[eqs]at e;subst e;simp[Op.eqFields]
 |cons f fs Jo=>
  intro qs off b w h e;simp only[lV,Bool.and_eq_true,beq_iff_eq,Nat.ble_eq,Nat.blt_eq]at h;obtain⟨⟨⟨⟨⟨hn,tP⟩,nN⟩,cK⟩,hq⟩,cN⟩:=h;obtain⟨b1,b2,e1,e2,rfl⟩:=o8 (P.cellsOf f.type) qs _ _ b e cK;obtain⟨l1,l2⟩:=ni e;simp only[List.length_drop]at l1 l2;have gO:=rH hq;have bB:(qs.take (P.cellsOf f.type)).length=P.cellsOf f.type:=by simp;omega
  rw[bB]at gO;obtain⟨v1,x1,p1,r1,i1⟩:=pI gO hv (off:=off) (by omega) w;obtain⟨v2,x2,p2,r2,i2⟩:=pI gO hu (off:=off) (by omega) w;have he:=ih f.type _ hq _ _ b1 e1 v1 v2 x1 x2 i1 i2 r1 r2 D hD w;rw[List.drop_drop,List.drop_drop]at e2;have hr:=Jo _ _ b2 w cN e2;have cZ:f.name≠"_":=by simpa using hn
  simp only[Op.eqFields,if_pos cZ,Sem.run_bind,tP,p1,p2,he,Result.andThen_ok,Sem.run_ite];cases b1
  ·simp
  ·simp[hr]
theorem xh {d:Nat} (ih:uS ν P g d) {D:Nat} (hD:d<=D) {e:TypeId} {vs us:Array Value} {U bs:List AV} (hv:RA ν g (.agg vs) (.agg U)) (hu:RA ν g (.agg us) (.agg bs)):∀(n i:Nat) (qs:List Nat) (b:Bool) (w:World),
  lg (p8 P d e) (P.cellsOf e) n qs=true->eqs qs (U.drop (i*P.cellsOf e)) (bs.drop (i*P.cellsOf e))=some b->(Op.eqItems D e (P.cellsOf e) vs us (List.range' i n)).run P w = .ok b w:=by
 intro n
 induction n with
 |zero=>
  intro i qs b w h e';simp only[lg,List.isEmpty_iff]at h;subst h;obtain⟨h1,h2⟩:=ni e';rw[List.eq_nil_of_length_eq_zero h1,List.eq_nil_of_length_eq_zero h2]at e';simp[eqs]at e';subst e';simp[Op.eqItems]
 |succ n Jp=>
  intro i qs b w h e';simp only[lg,Bool.and_eq_true,Nat.ble_eq,Nat.blt_eq]at h;obtain⟨⟨⟨nN,cK⟩,hq⟩,cN⟩:=h;obtain⟨b1,b2,e1,e2,rfl⟩:=o8 (P.cellsOf e) qs _ _ b e' cK;obtain⟨l1,l2⟩:=ni e';simp only[List.length_drop]at l1 l2;have gO:=rH hq;have bB:(qs.take (P.cellsOf e)).length=P.cellsOf e:=by simp;omega
  rw[bB]at gO;obtain⟨v1,x1,p1,r1,i1⟩:=pI gO hv (off:=i*P.cellsOf e) (by omega) w;obtain⟨v2,x2,p2,r2,i2⟩:=pI gO hu (off:=i*P.cellsOf e) (by omega) w;have he:=ih e _ hq _ _ b1 e1 v1 v2 x1 x2 i1 i2 r1 r2 D hD w;rw[List.drop_drop,List.drop_drop,<-Nat.succ_mul]at e2;have hr:=Jp (i+1) _ b2 w cN e2;simp only[List.range'_succ,Op.eqItems,Sem.run_bind,p1,p2,he,Result.andThen_ok,Sem.run_ite];cases b1
  ·simp
  ·simp[hr]
theorem sL (ν:Nat->Nat) (P:Program) (g:Gh):∀d,uS ν P g d
 |0=>λt qs h=>by simp[p8]at h
 |d+1=>by
  intro t qs h cs ds b e v u x y hx hy hv hu D hD w;obtain⟨D,rfl⟩:∃D',D=D'+1:=⟨D - 1,by omega⟩;have hD:d<=D:=by omega
  have gO:=rH h;obtain⟨dd,i,gn,hi,ha,hs,h1⟩:=c8 gO;simp only[p8,Bool.and_eq_true]at h;have h:=h.2;split at h
  ·rename_i fs dD;simp only[Bool.and_eq_true,Bool.not_eq_true']at h;have di:jZ P t=true:=by simp[jZ,dD,gN]
   rcases hx with⟨-,rfl⟩|⟨h0,_⟩
   case inr=>rw[di]at h0;cases h0
   rcases hy with⟨-,rfl⟩|⟨h0,_⟩
   case inr=>rw[di]at h0;cases h0
   obtain⟨vs,rfl⟩:=hv.dP;obtain⟨us,rfl⟩:=hu.dP;have qW:P.fieldsOf t=fs:=by simp[Program.fieldsOf,dD]
   rw[run_equalIn_struct w D t vs us (by rw[qW];exact dD) h.1,qW];exact vE (sL ν P g d) hD hv hu fs.toList qs 0 b w h.2 (by simpa using e)
  ·rename_i n el dD;have di:jZ P t=true:=by simp[jZ,dD,gN]
   rcases hx with⟨-,rfl⟩|⟨h0,_⟩
   case inr=>rw[di]at h0;cases h0
   rcases hy with⟨-,rfl⟩|⟨h0,_⟩
   case inr=>rw[di]at h0;cases h0
   obtain⟨vs,rfl⟩:=hv.dP;obtain⟨us,rfl⟩:=hu.dP;cases n with
   |zero=>simp[Nat.blt]at h
   |succ n=>
    have EO:∃ie,P.info? el=some ie:=by
     simp only[lg,Bool.and_eq_true]at h;obtain⟨_,ie,_,q9,_⟩:=c8 (rH h.2.1.2);exact⟨ie,q9⟩
    obtain⟨ie,q9⟩:=EO;rw[run_equalIn_array w D vs us dD q9,List.range_eq_range'];exact xh (sL ν P g d) hD hv hu (n+1) 0 qs b w (by simp only[Bool.and_eq_true]at h;exact h.2) (by simpa using e)
  ·rename_i Jq Jr;split at h
   ·rename_i q;have di:jZ P t=false:=by
     unfold jZ;rw[gn];cases dd with
     |struct fs=>exact absurd gn (Jq fs)
     |array n el=>exact absurd gn (Jr n el)
     |_=>rfl
    rcases hx with⟨h0,_⟩|⟨-,rfl⟩
    ·rw[di]at h0;cases h0
    rcases hy with⟨h0,_⟩|⟨-,rfl⟩
    ·rw[di]at h0;cases h0
    simp only[eqs,Option.bind_eq_some_iff]at e;obtain⟨b1,e1,b2,e2,e3⟩:=e;cases e2;cases e3;have:=lp (P:=P) e1 h hv hu D w;simpa using this
   ·cases h
def z8 (P:Program) (t:TypeId) (qs:List Nat):Bool:=p8 P 9 t qs&&jZ P t&&!P.eqGuardType P.depth t
theorem CY (r:Rel ν k g) {t:TypeId} {qs:List Nat} (ht:z8 P t qs=true) {a b:Operand} {v u:Value} {cs ds:List AV} {z:Bool} (neg:Bool) (hv:RA ν g v (.agg cs)) (hu:RA ν g u (.agg ds)) (e:eqs qs cs ds=some z) :
  bf ν k g g.h (.iv (.bool (if neg then !z else z))) ((do eqGuard (if neg then .neq else .eql) t a b v u;binOp (if neg then .neq else .eql) t v u:Sem Value).run P g.w):=by
 simp only[z8,Bool.and_eq_true,Bool.not_eq_true']at ht;obtain⟨⟨h1,h2⟩,h3⟩:=ht;obtain⟨xs,rfl⟩:=hv.dP;obtain⟨ys,rfl⟩:=hu.dP;have aY:=sL ν P g 9 t qs h1 cs ds z e _ _ _ _ (.inl ⟨h2,rfl⟩) (.inl ⟨h2,rfl⟩) hv hu 10000 (by omega) g.w;cases neg
 ·refine .same r ?_ bK;simp only[Bool.false_eq_true,if_false,Sem.run_bind,run_eqGuard_agg _ _ _ _ _ _ _ h3,Result.andThen_ok,run_eql_struct,aY]
 ·refine .same r ?_ bK;simp only[if_true,Sem.run_bind,run_eqGuard_agg _ _ _ _ _ _ _ h3,Result.andThen_ok,run_neq_struct,aY]
end
def y0 (P:Program) (nm:String) (f:Nat):Bool:=
 match P.funcs[f]? with
 |some fn=>fn.name==nm&&fn.origin==""&&fn.body.isNone
 |none=>false
def A2:IntKind->String
 |.i32=>"Int32" | .i64=>"Int64" | .u32=>"Uint32" | .u64=>"Uint64" | _=>"?"
def FN:IntKind->Bool
 |.i32 | .i64 | .u32 | .u64=>true
 |_=>false
def kO (P:Program) (xj:String) (k:IntKind) (f:Nat):Bool:=FN k&&y0 P (xj++A2 k) f
theorem bN {fn:Func} {nm:String} (h:fn.name=nm) (h0:fn.origin="") (hl:(Extern.allNextRows.lookup nm).isNone=true) (qY:(Extern.allNextRows.lookup "").isNone=true):Extern.findNext fn=none:=by
 have h1:Extern.allNextRows.lookup nm=none:=by simpa using hl
 have h2:Extern.allNextRows.lookup ""=none:=by simpa using qY
 simp[Extern.findNext,h,h0,h1,h2]
theorem cI {fn:Func} {nm:String} {e:Array Value->Sem Value} (h:fn.name=nm) (Js:(Extern.allGenericRows.lookup nm).isNone=true) (mS:(Extern.allTypedRows.lookup nm).isNone=true)
  (hl:Extern.allRows.lookup nm=some e):Extern.find fn=some e:=by
 have h1:Extern.allGenericRows.lookup nm=none:=by simpa using Js
 have h2:Extern.allTypedRows.lookup nm=none:=by simpa using mS
 simp[Extern.find,h,h1,h2,hl]
section
variable {ν:Nat->Nat} {P:Program} {k:Cx} {g:Gh}
theorem uT {nm:String} {f:Nat} (h:y0 P nm f=true):∃fn,P.funcs[f]?=some fn/\fn.name=nm/\fn.origin=""/\fn.body.isNone=true:=by
 unfold y0 at h;split at h
 ·rename_i fn dp;simp only[Bool.and_eq_true,beq_iff_eq]at h;exact⟨fn,dp,h.1.1,h.1.2,h.2⟩
 ·cases h
theorem dY:(Extern.allNextRows.lookup "").isNone=true:=by kernel_rfl
theorem lW {xj:String} {k:IntKind} {f:Nat} (h:kO P xj k f=true):FN k=true/\∃fn,P.funcs[f]?=some fn/\fn.name=xj++A2 k/\fn.origin=""/\fn.body.isNone=true:=by
 simp only[kO,Bool.and_eq_true]at h;exact⟨h.1,uT h.2⟩
theorem Aa {k:IntKind} {f:Nat} (h:kO P "sync/atomic.Load" k f=true) {a:Addr} {x:Int} {w:World} (hc:w.cell? a=some (.int k x)) :
  (callFunc f #[.pointer (some a)]).run P w = .ok (.value (.int k x)) w:=by
 obtain⟨hk,fn,hf,h1,h0,hb⟩:=lW h;cases k with
 |i32=>exact run_call_load hf (by rw[h1];kernel_rfl) hb (bN h1 h0 (by kernel_rfl) dY) _ (cI h1 (by kernel_rfl) (by kernel_rfl) (by kernel_rfl)) hc
 |i64=>exact run_call_load hf (by rw[h1];kernel_rfl) hb (bN h1 h0 (by kernel_rfl) dY) _ (cI h1 (by kernel_rfl) (by kernel_rfl) (by kernel_rfl)) hc
 |u32=>exact run_call_load hf (by rw[h1];kernel_rfl) hb (bN h1 h0 (by kernel_rfl) dY) _ (cI h1 (by kernel_rfl) (by kernel_rfl) (by kernel_rfl)) hc
 |u64=>exact run_call_load hf (by rw[h1];kernel_rfl) hb (bN h1 h0 (by kernel_rfl) dY) _ (cI h1 (by kernel_rfl) (by kernel_rfl) (by kernel_rfl)) hc
 |_=>cases hk
theorem y3 {k:IntKind} {f:Nat} (h:kO P "sync/atomic.Store" k f=true) {a:Addr} {j:IntKind} {y:Int} {u:Value} {w:World} (hc:w.cell? a=some u) (hz:w.frozen? a=false) :
  (callFunc f #[.pointer (some a),.int j y]).run P w = .ok (.value (.tuple #[])) (w.setCell a (.int j y)):=by
 obtain⟨hk,fn,hf,h1,h0,hb⟩:=lW h;cases k with
 |i32=>exact run_call_store hf (by rw[h1];kernel_rfl) hb (bN h1 h0 (by kernel_rfl) dY) (cI h1 (by kernel_rfl) (by kernel_rfl) (by kernel_rfl)) hc hz
 |i64=>exact run_call_store hf (by rw[h1];kernel_rfl) hb (bN h1 h0 (by kernel_rfl) dY) (cI h1 (by kernel_rfl) (by kernel_rfl) (by kernel_rfl)) hc hz
 |u32=>exact run_call_store hf (by rw[h1];kernel_rfl) hb (bN h1 h0 (by kernel_rfl) dY) (cI h1 (by kernel_rfl) (by kernel_rfl) (by kernel_rfl)) hc hz
 |u64=>exact run_call_store hf (by rw[h1];kernel_rfl) hb (bN h1 h0 (by kernel_rfl) dY) (cI h1 (by kernel_rfl) (by kernel_rfl) (by kernel_rfl)) hc hz
 |_=>cases hk
theorem Bs {k:IntKind} {f:Nat} (h:kO P "sync/atomic.Add" k f=true) {a:Addr} {x y:Int} {w:World} (hc:w.cell? a=some (.int k x)) (hz:w.frozen? a=false) :
  (callFunc f #[.pointer (some a),.int k y]).run P w = .ok (.value (.int k (k.wrap (x+y)))) (w.setCell a (.int k (k.wrap (x+y)))):=by
 obtain⟨hk,fn,hf,h1,h0,hb⟩:=lW h;have hs:∀k,(Op.intArith .add k x y).run P w = .ok (.int k (k.wrap (x+y))) w:=λk=>by simp[Op.intArith]
 cases k with
 |i32=>exact run_call_add hf (by rw[h1];kernel_rfl) hb (bN h1 h0 (by kernel_rfl) dY) _ (cI h1 (by kernel_rfl) (by kernel_rfl) (by kernel_rfl)) hc hz (hs _)
 |i64=>exact run_call_add hf (by rw[h1];kernel_rfl) hb (bN h1 h0 (by kernel_rfl) dY) _ (cI h1 (by kernel_rfl) (by kernel_rfl) (by kernel_rfl)) hc hz (hs _)
 |u32=>exact run_call_add hf (by rw[h1];kernel_rfl) hb (bN h1 h0 (by kernel_rfl) dY) _ (cI h1 (by kernel_rfl) (by kernel_rfl) (by kernel_rfl)) hc hz (hs _)
 |u64=>exact run_call_add hf (by rw[h1];kernel_rfl) hb (bN h1 h0 (by kernel_rfl) dY) _ (cI h1 (by kernel_rfl) (by kernel_rfl) (by kernel_rfl)) hc hz (hs _)
 |_=>cases hk
theorem Bt {k:IntKind} {f:Nat} (h:kO P "sync/atomic.CompareAndSwap" k f=true) {a:Addr} {x y:Int} {w:World} (hc:w.cell? a=some (.int k x)) (hz:w.frozen? a=false) :
  (callFunc f #[.pointer (some a),.int k x,.int k y]).run P w = .ok (.value (.bool true)) (w.setCell a (.int k y)):=by
 obtain⟨hk,fn,hf,h1,h0,hb⟩:=lW h;cases k with
 |i32=>exact run_call_cas_hit hf (by rw[h1];kernel_rfl) hb (bN h1 h0 (by kernel_rfl) dY) _ (cI h1 (by kernel_rfl) (by kernel_rfl) (by kernel_rfl)) hc hz
 |i64=>exact run_call_cas_hit hf (by rw[h1];kernel_rfl) hb (bN h1 h0 (by kernel_rfl) dY) _ (cI h1 (by kernel_rfl) (by kernel_rfl) (by kernel_rfl)) hc hz
 |u32=>exact run_call_cas_hit hf (by rw[h1];kernel_rfl) hb (bN h1 h0 (by kernel_rfl) dY) _ (cI h1 (by kernel_rfl) (by kernel_rfl) (by kernel_rfl)) hc hz
 |u64=>exact run_call_cas_hit hf (by rw[h1];kernel_rfl) hb (bN h1 h0 (by kernel_rfl) dY) _ (cI h1 (by kernel_rfl) (by kernel_rfl) (by kernel_rfl)) hc hz
 |_=>cases hk
theorem Ab {k:IntKind} {f:Nat} (h:kO P "sync/atomic.CompareAndSwap" k f=true) {a:Addr} {x o y:Int} {w:World} (hc:w.cell? a=some (.int k x)) (hz:w.frozen? a=false) (bF:¬x=o) :
  (callFunc f #[.pointer (some a),.int k o,.int k y]).run P w = .ok (.value (.bool false)) w:=by
 obtain⟨hk,fn,hf,h1,h0,hb⟩:=lW h;cases k with
 |i32=>exact run_call_cas_miss hf (by rw[h1];kernel_rfl) hb (bN h1 h0 (by kernel_rfl) dY) _ (cI h1 (by kernel_rfl) (by kernel_rfl) (by kernel_rfl)) hc hz bF
 |i64=>exact run_call_cas_miss hf (by rw[h1];kernel_rfl) hb (bN h1 h0 (by kernel_rfl) dY) _ (cI h1 (by kernel_rfl) (by kernel_rfl) (by kernel_rfl)) hc hz bF
 |u32=>exact run_call_cas_miss hf (by rw[h1];kernel_rfl) hb (bN h1 h0 (by kernel_rfl) dY) _ (cI h1 (by kernel_rfl) (by kernel_rfl) (by kernel_rfl)) hc hz bF
 |u64=>exact run_call_cas_miss hf (by rw[h1];kernel_rfl) hb (bN h1 h0 (by kernel_rfl) dY) _ (cI h1 (by kernel_rfl) (by kernel_rfl) (by kernel_rfl)) hc hz bF
 |_=>cases hk
def sM (ν:Nat->Nat) (P:Program) (k:Cx) (g:Gh) (h':Hp) (r:AV) (f:Nat) (args:Array Value):Prop:=
 ∃g' v,(callFunc f args).run P g.w = .ok (.value v) g'.w/\g'.h=h'/\Rel ν k g'/\aV ν g g'/\RA ν g' v r
theorem qD (r:Rel ν k g) {kk:IntKind} {va:Value} {a:AV} {n:Int} {h':Hp} (cc:RA ν g va a) (e:(jW kk a).run g.h=some (n,h')) :
  h'=g.h/\∃b off,va = .pointer (some ⟨b,off,none⟩)/\g.w.cell? ⟨b,off,none⟩=some (.int kk n):=by
 obtain⟨x,h1,e1,e2⟩:=ag e;split at e2
 case h_2=>exact(ae e2).elim
 rename_i k' n';obtain⟨hk,e4⟩:=M.aj e2;obtain⟨rfl,rfl⟩:=af e4;obtain rfl:=beq_iff_eq.1 hk;cases cc with
 |undef=>exact(ae e1).elim
 |cG=>exact(ae e1).elim
 |agg=>exact(ae e1).elim
 |aR=>exact(ae e1).elim
 |own=>exact(ae e1).elim
 |bp=>exact(ae e1).elim
 |iv hr=>
  cases hr with
  |ptr b off cs f hI hc hr=>
   obtain⟨hl,e2⟩:=M.aj e1;obtain⟨rfl,hm⟩:=iB e2;rcases hm with⟨h,_⟩|⟨_,hm⟩
   ·cases h
   obtain⟨c,rest,rfl⟩:∃c rest,cs=c::rest:=by
    cases cs with
    |nil=>simp at hm
    |cons c rest=>exact⟨c,rest,rfl⟩
   simp at hm;subst hm;refine⟨rfl,b,off,rfl,?_⟩;have h0:=hc 0 _ rfl;have h2:=hr 0 _ rfl;simp only[Nat.add_zero]at h0;rw[h0];generalize f 0=u at h2;cases h2;rfl
  |_=>exact(ae e1).elim
 |ref kF hr=>
  obtain⟨ob,hg,e2⟩:=M.aM e1;obtain⟨l,hl,e4⟩:=M.lift_bind e2;obtain⟨jL,e6⟩:=M.aj e4;obtain⟨rfl,hm⟩:=iB e6;rcases hm with⟨h,_⟩|⟨_,rfl⟩
  ·cases h
  obtain⟨b,off,rfl,hc⟩:=l9 r hg hl hr;obtain⟨v,h1,_,hR⟩:=hc 0 _ rfl;refine⟨rfl,b,off,rfl,?_⟩;rw[Nat.add_zero]at h1;rw[h1,hR.int]
theorem uU {w:World} {b off:Nat} {v:Value} (h:w.cell? ⟨b,off,none⟩=some v):w.setCell ⟨b,off,none⟩ v=w:=by
 unfold World.cell? at h;unfold World.setCell;have:(w.heap.modify b fun
   |.cells c elem frozen=>.cells (if((none:Option Nat).isSome)=true then c else c.setIfInBounds off v) elem frozen
   |o=>o)=w.heap:=by
  refine Array.ext_getElem? λi=>?_
  rw[Array.getElem?_modify];by_cases hi:b=i
  ·subst hi;simp only[if_true];cases hb:w.heap[b]? with
   |none=>rfl
   |some ob=>
    simp only[hb]at h;cases ob with
    |cells c el fr=>
     simp only[Option.isSome_none,Bool.false_eq_true,if_false]at h;simp only[Option.map_some,Option.isSome_none,Bool.false_eq_true,if_false];congr 2;refine Array.ext_getElem? λm=>?_
     rw[Array.getElem?_setIfInBounds];by_cases hm:off=m
     ·subst hm;rw[h];have:=(Array.getElem?_eq_some_iff.1 h).1;simp[this]
     ·simp[hm]
    |_=>rfl
  ·simp[hi]
 exact congrArg (λh=>({ w with heap:=h }:World)) this
theorem rI (r:Rel ν k g) {va:Value} {a x y:AV} {j:IntKind} {n:Int} (cc:RA ν g va a) (hx:x = .iv (.int j n)) {h':Hp} (e:(store 1 a x).run g.h=some (y,h')) :
  ∃b off g' u,va = .pointer (some ⟨b,off,none⟩)/\y = .aR []/\g'.w=g.w.setCell ⟨b,off,none⟩ (.int j n)/\g.w.cell? ⟨b,off,none⟩=some u/\g.w.frozen? ⟨b,off,none⟩=false/\g'.h=h'/\Rel ν k g'/\aV ν g g':=by
 subst hx;obtain⟨b,off,g',h1,h2,h3,_,h5,h6,h7,h8,h9,_⟩:=uQ r cc (mkInt (ν:=ν) (g:=g) (kk:=j) (n:=n)) e;obtain⟨u,hu⟩:=Option.isSome_iff_exists.1 (h6 0 (by omega));exact⟨b,off,g',u,h1,h2,h3.trans rfl,by simpa using hu,h5 _,h7,h8,h9⟩
theorem Ac (r:Rel ν k g) {kk:IntKind} {f:Nat} (hf:kO P "sync/atomic.Load" kk f=true) {va:Value} {a y:AV} {h':Hp} (cc:RA ν g va a)
  (e:((jW kk a).bind λn=>M.ret (.iv (.int kk n))).run g.h=some (y,h')):sM ν P k g h' y f #[va]:=by
 obtain⟨n,h1,e1,e2⟩:=ag e;obtain⟨rfl,rfl⟩:=af e2;obtain⟨rfl,b,off,rfl,hc⟩:=qD r cc e1;exact⟨g,_,Aa hf hc,rfl,r,.refl ν g,mkInt⟩
theorem y4 (r:Rel ν k g) {kk:IntKind} {f:Nat} (hf:kO P "sync/atomic.Store" kk f=true) {va vx:Value} {a x y:AV} {h':Hp} (cc:RA ν g va a) (ov:RA ν g vx x)
  (e:((M.ok (uO x)).bind λ_=>store 1 a x).run g.h=some (y,h')):sM ν P k g h' y f #[va,vx]:=by
 obtain⟨hi,e2⟩:=M.aj e;unfold uO at hi;split at hi
 case h_2=>cases hi
 rename_i j n;obtain rfl:=ov.int;obtain⟨b,off,g',u,rfl,rfl,h3,h4,h5,h6,h7,h8⟩:=rI r cc rfl e2;exact⟨g',_,by rw[h3];exact y3 hf h4 h5,h6,h7,h8,.aR (by simp) λj v c h=>by simp at h⟩
theorem Bu (r:Rel ν k g) {kk:IntKind} {f:Nat} (hf:kO P "sync/atomic.Add" kk f=true) {va vx:Value} {a x y:AV} {h':Hp} (cc:RA ν g va a) (ov:RA ν g vx x)
  (e:(lN kk a x).run g.h=some (y,h')):sM ν P k g h' y f #[va,vx]:=by
 unfold lN at e;split at e
 case h_2=>exact(ae e).elim
 rename_i j m;obtain⟨hk,e2⟩:=M.aj e;obtain rfl:=beq_iff_eq.1 hk;obtain⟨n,h2,e3,e4⟩:=ag e2;obtain⟨rfl,b,off,rfl,hc⟩:=qD r cc e3;obtain⟨_,h3,e5,e6⟩:=ag e4;obtain⟨rfl,rfl⟩:=af e6;obtain rfl:=ov.int;obtain⟨b',CZ,g',u,h0,_,h3,h4,h5,h6,h7,h8⟩:=rI r cc rfl e5;simp only[Value.pointer.injEq,Option.some.injEq,Addr.mk.injEq,and_true]at h0;obtain⟨rfl,rfl⟩:=h0;exact⟨g',_,by rw[h3];exact Bs hf hc h5,h6,h7,h8,mkInt⟩
theorem Bv (r:Rel ν k g) {kk:IntKind} {f:Nat} (hf:kO P "sync/atomic.CompareAndSwap" kk f=true) {va vo vx:Value} {a o x y:AV} {h':Hp} (cc:RA ν g va a) (Jt:RA ν g vo o) (ov:RA ν g vx x)
  (e:(mK kk a o x).run g.h=some (y,h')):sM ν P k g h' y f #[va,vo,vx]:=by
 unfold mK at e;split at e
 case h_2=>exact(ae e).elim
 rename_i j cu j' m;obtain⟨hk,e2⟩:=M.aj e;simp only[Bool.and_eq_true,beq_iff_eq]at hk;obtain⟨rfl,rfl⟩:=hk;obtain⟨n,h2,e3,e4⟩:=ag e2;obtain⟨rfl,b,off,rfl,hc⟩:=qD r cc e3;obtain rfl:=ov.int;obtain rfl:=Jt.int;split at e4
 ·rename_i hn;subst hn;obtain⟨_,h3,e5,e6⟩:=ag e4;obtain⟨rfl,rfl⟩:=af e6;obtain⟨b',CZ,g',u,h0,_,h3,h4,h5,h6,h7,h8⟩:=rI r cc rfl e5;simp only[Value.pointer.injEq,Option.some.injEq,Addr.mk.injEq,and_true]at h0;obtain⟨rfl,rfl⟩:=h0;exact⟨g',_,by rw[h3];exact Bt hf hc h5,h6,h7,h8,bK⟩
 ·rename_i hn;obtain⟨_,h3,e5,e6⟩:=ag e4;obtain⟨rfl,rfl⟩:=af e6;obtain⟨b',CZ,g',u,h0,_,h3,h4,h5,h6,h7,h8⟩:=rI r cc rfl e5;simp only[Value.pointer.injEq,Option.some.injEq,Addr.mk.injEq,and_true]at h0;obtain⟨rfl,rfl⟩:=h0;rw[uU hc]at h3;exact⟨g',_,by rw[h3];exact Ab hf hc h5 hn,h6,h7,h8,bK⟩
end
def Ad (P:Program) (s d:TypeId):Bool:=match P.underlying s,P.underlying d with
 |some (.pointer t),some .unsafePointer=>(match P.info? t with | some i=>i.size != 0 | none=>false)
 |_,_=>false
def Ae (P:Program) (ν:Nat->Nat) (s d:TypeId):Bool:=match P.underlying s,P.underlying d with
 |some .unsafePointer,some (.pointer u)=>u==ν pG&&(P.info? u).isSome&&liesAt P P.depth u (2 / P.cellsOf u) 0 u 1
 |_,_=>false
def xk (P:Program) (ν:Nat->Nat) (pt:TypeId):Bool:=match P.underlying pt with
 |some (.pointer e)=>e==ν lT&&P.cellsOf e==1
 |_=>false
section
variable {ν:Nat->Nat} {P:Program} {k:Cx} {g:Gh}
theorem C0 (r:Rel ν k g) {s d:TypeId} (ht:Ad P s d=true) {v:Value} {x y:AV} {h':Hp} (hv:RA ν g v x) (e:(pX x).run g.h=some (y,h')):bf ν k g h' y ((convert s d v).run P g.w):=by
 unfold pX at e;split at e
 case h_2=>exact(ae e).elim
 rename_i id ai i j;obtain⟨ob,hg,e2⟩:=M.aM e;cases ob with
 |cells cs=>
  obtain⟨bx,e4⟩:=M.aj e2;obtain⟨rfl,rfl⟩:=af e4;simp only[Bool.and_eq_true,beq_iff_eq,Nat.blt_eq]at bx;unfold Ad at ht;split at ht
  case h_2=>cases ht
  rename_i t hs hd;cases hi:P.info? t with
  |none=>rw[hi]at ht;cases ht
  |some ti=>
   rw[hi]at ht;cases hv with
   |ref h1 hr=>
    have gp:=hr;unfold aG at gp;rw[hg]at gp;obtain⟨-, -,b,ah,rfl⟩:=gp;obtain⟨b',aN,_,_,hc⟩:=r.ob id _ hg;rw[ah]at aN;cases aN;obtain⟨u,hu,_⟩:=hc j _ (List.getElem?_eq_getElem bx.2);exact .same r (run_convert_to_unsafe hs hd (by rw[hi];simpa using ht) hu) (.ref h1 hr)
 |buf=>exact(ae e2).elim
 |aZ=>exact(ae e2).elim
 |c7=>exact(ae e2).elim
 |map=>exact(ae e2).elim
theorem C1 (r:Rel ν k g) {s d:TypeId} (ht:Ae P ν s d=true) {v:Value} {x y:AV} {h':Hp} (hv:RA ν g v x) (e:(pY x).run g.h=some (y,h')):bf ν k g h' y ((convert s d v).run P g.w):=by
 unfold pY at e;split at e
 case h_2=>exact(ae e).elim
 rename_i id ai i j;obtain⟨ob,hg,e2⟩:=M.aM e;cases ob with
 |cells cs=>
  obtain⟨bx,e4⟩:=M.aj e2;obtain⟨rfl,rfl⟩:=af e4;simp only[Bool.and_eq_true,beq_iff_eq]at bx;obtain⟨⟨⟨rfl,rfl⟩,rfl⟩,bt⟩:=bx;unfold Ae at ht;split at ht
  case h_2=>cases ht
  rename_i u hs hd;simp only[Bool.and_eq_true,beq_iff_eq]at ht;obtain⟨⟨rfl,hi⟩,hl⟩:=ht;obtain⟨ti,hi⟩:=Option.isSome_iff_exists.1 hi;cases hv with
  |ref h1 hr=>
   have gp:=hr;unfold aG at gp;rw[hg]at gp;obtain⟨-, -,b,ah,rfl⟩:=gp;have tg:=(r.ty id _ b hg ah).1 bt;exact .same r (Lib.run_from_unsafe g.w ⟨b,0,none⟩ hs hd hi tg hl) (.ref h1 hr)
 |buf=>exact(ae e2).elim
 |aZ=>exact(ae e2).elim
 |c7=>exact(ae e2).elim
 |map=>exact(ae e2).elim
theorem C2 (r:Rel ν k g) {ts:Array TypeId} {ty:TypeId} {v:Value} {x y:AV} {h':Hp} (hv:RA ν g v x) (e:(pZ x).run g.h=some (y,h')) :
  bf ν k g h' y ((Builtin.unsafeSliceData_ ts ty #[v]).run P g.w):=by
 unfold pZ at e;split at e
 case h_2=>exact(ae e).elim
 rename_i id o n ai;obtain⟨ob,hg,e2⟩:=M.aM e;cases ob with
 |buf v' e' es=>
  obtain⟨bx,e4⟩:=M.aj e2;obtain⟨rfl,rfl⟩:=af e4;simp only[Bool.and_eq_true,beq_iff_eq,Nat.blt_eq]at bx;obtain⟨⟨⟨rfl,rfl⟩,rfl⟩,hn⟩:=bx;cases hv with
  |own h1 ho=>
   unfold aE at ho;rw[hg]at ho;have hs:=ho.2 rfl;obtain⟨b,ah,b8,cE,aC⟩:=r.ob id _ hg;rw[ah]at hs;obtain⟨x,cap,rfl,h2,h3,h4,h5,h6⟩:=hs;have hx:x=0:=by rcases h5 with h | h<;>omega
   subst hx;refine .same r (Lib.run_unsafeSliceData_row g.w _ _ _ _ _ (by omega)) (.ref h1 ?_);unfold aG;rw[hg];exact⟨Nat.le_refl _,λ_=>⟨b,ah,rfl⟩⟩
 |cells=>exact(ae e2).elim
 |aZ=>exact(ae e2).elim
 |c7=>exact(ae e2).elim
 |map=>exact(ae e2).elim
theorem Af (r:Rel ν k g) {f:Nat} (hf:y0 P "internal/abi.NoEscape" f=true) {v:Value} {x:AV} (hv:RA ν g v x):sM ν P k g g.h x f #[v]:=by
 obtain⟨fn,hf,h1,h0,hb⟩:=uT hf;refine⟨g,v,?_,rfl,r,.refl ν g,hv⟩;rw[run_callFunc_extern hf (by rw[h1];kernel_rfl) hb (bN h1 h0 (by kernel_rfl) dY) (cI h1 (by kernel_rfl) (by kernel_rfl) (by kernel_rfl):Extern.find fn=some Extern.AbiNoEscape.same)];simp[Lib.run_noEscape,Result.andThen]
theorem p9 (w:World) (a:Addr) (n:Nat) (x:Addr):(w.freeze a n).cell? x=w.cell? x:=by
 unfold World.freeze;split
 ·rfl
 ·simp only[World.cell?,Array.getElem?_modify];by_cases h:a.block=x.block
  ·rw[h];cases hb:w.heap[x.block]? with
   |none=>simp
   |some ob=>cases ob<;>simp
  ·simp[h]
theorem uV (w:World) (a:Addr) (n:Nat) (x:Nat):(w.freeze a n).shape? x=w.shape? x:=by
 unfold World.freeze;split
 ·rfl
 ·simp only[World.shape?,Array.getElem?_modify];by_cases h:a.block=x
  ·rw[h];cases hb:w.heap[x]? with
   |none=>simp
   |some ob=>cases ob<;>simp
  ·simp[h]
theorem uW (w:World) (a:Addr) (n x:Nat) (h:a.block≠x):(w.freeze a n).heap[x]?=w.heap[x]?:=by
 unfold World.freeze;split
 ·rfl
 ·simp[Array.getElem?_modify,h]
theorem vF (w:World) (a:Addr) (n:Nat):(w.freeze a n).heap.size=w.heap.size:=by
 unfold World.freeze;split<;>simp
theorem vG (w:World) (a:Addr) (n:Nat):(w.freeze a n).os=w.os/\(w.freeze a n).tape=w.tape/\(w.freeze a n).output=w.output:=by
 unfold World.freeze;split<;>simp
theorem iG:∀{ys:List (List AV)} {b:List Int},bytesOf ys=some b->b.length=ys.length/\∀i,i<ys.length->ys[i]?=some [.iv (.int .u8 (b.getD i 0))]
 |[],b,h=>by simp[bytesOf]at h;subst h;exact⟨rfl,λi hi=>absurd hi (Nat.not_lt_zero _)⟩
 |y::ys,b,h=>by
  unfold bytesOf at h;split at h
  ·rename_i heq;cases heq
  ·rename_i n r heq;cases heq;simp only[Option.map_eq_some_iff]at h;obtain⟨b',hb,rfl⟩:=h;obtain⟨h1,h2⟩:=iG hb;refine⟨by simp[h1],λi hi=>?_⟩;cases i with
   |zero=>rfl
   |succ i=>simpa using h2 i (by simpa using hi)
  ·cases h
theorem Bw (r:Rel ν k g) {pt it ty:TypeId} (ht:xk P ν pt=true) {vp vn:Value} {p n y:AV} {h':Hp} (Ju:RA ν g vp p) (Jv:RA ν g vn n) (e:(lP p n).run g.h=some (y,h')) :
  bf ν k g h' y ((Builtin.unsafeString_ #[pt,it] ty #[vp,vn]).run P g.w):=by
 unfold lP at e;split at e
 case h_2=>exact(ae e).elim
 rename_i id ai i j kk m;obtain⟨ob,hg,e2⟩:=M.aM e;cases ob with
 |buf v' e' es=>
  obtain⟨bx,e4⟩:=M.aj e2;obtain⟨bs,Jw,e6⟩:=M.lift_bind e4;obtain⟨fV,e8⟩:=M.aj e6;obtain⟨_,h5,e9,dg⟩:=ag e8;obtain rfl:=aI e9;obtain⟨rfl,rfl⟩:=af dg;simp only[Bool.and_eq_true,beq_iff_eq,Nat.blt_eq]at bx;obtain⟨⟨⟨⟨⟨⟨⟨⟨rfl,rfl⟩,rfl⟩,rfl⟩,bt⟩,rfl⟩,rfl⟩,nN⟩,dF⟩:=bx;simp only[List.all_eq_true,decide_eq_true_eq]at fV;unfold xk at ht;split at ht
  case h_2=>cases ht
  rename_i et hp;simp only[Bool.and_eq_true,beq_iff_eq]at ht;obtain⟨rfl,pU⟩:=ht;obtain rfl:=Jv.int;obtain⟨s8,uj⟩:=iG Jw;cases Ju with
  |ref KQ hr=>
   unfold aG at hr;rw[hg]at hr;obtain⟨b,ah,rfl⟩:=hr.2 rfl;obtain⟨b',aN,b8,cE,aC⟩:=r.ob id _ hg;rw[ah]at aN;cases aN;obtain⟨cells,tg⟩:=(r.ty id _ b hg ah).2.1 bt;have ij:∀m,m<es.length->g.w.cell? ⟨b,m,none⟩=some (.int .u8 (bs.getD m 0)):=by
    intro m hm;obtain⟨u,hu,_,hR⟩:=aC.2 m 0 _ _ (uj m hm) rfl;rw[hR.int]at hu;simpa using hu
   have hlen:es.length<=cells:=by
    have:=ij (es.length - 1) (by omega);obtain⟨e2,n2,mW,aT,_⟩:=World.shape?_of_cell? this;simp only[]at mW aT;rw[tg]at mW;cases mW;omega
   have bB:es.length<9223372036854775807:=by
    simp only[roomy,Nat.ble_eq]at dF;omega
   have hl:(bs.map λn=>UInt8.ofNat n.toNat).length=es.length:=by simp[s8]
   have aY:=Lib.run_unsafeString_row (P:=P) g.w pt it ty (ν lT) hp pU b cells tg (bs.map λn=>UInt8.ofNat n.toNat) (by intro h;rw[h]at hl;simp at hl;omega) (by omega) (by omega) λj x hx=>by
    simp only[List.getElem?_map,Option.map_eq_some_iff]at hx;obtain⟨z,hz,rfl⟩:=hx;have hj:=ay hz;have qX:bs.getD j 0=z:=by simp[List.getD,hz]
    have hb:=fV z (List.mem_of_getElem? hz);have:=ij j (by omega);rw[qX]at this;have Jx:((UInt8.ofNat z.toNat).toNat:Int)=z:=by
     simp only[UInt8.toNat_ofNat'];omega
    have ha:(⟨b,0,none⟩:Addr).add j=⟨b,j,none⟩:=by
     simp only[Addr.add,Nat.zero_add];split
     ·rename_i h0;rw[h0]
     ·rfl
    rw[ha,this,Jx]
   rw[hl]at aY;have cN:=vG g.w ⟨b,0,none⟩ es.length;have rf:=r.iR (s:=id) (ob:=.aZ v' 1 (vZ bs)) (p:=g.φ id) (w':=g.w.freeze ⟨b,0,none⟩ es.length) (I':=λc=>g.I c\/c=b) hg (λb' h=>by rw[ah]at h;cases h;exact b8)
    (by rw[vF];exact Nat.le_refl _) cN.1 cN.2.1 cN.2.2 (λb' _ bF=>uW _ _ _ _ λhe=>bF (by rw[ah];exact congrArg some he)) (λ_ h=>.inl h)
    (λc h=>h.elim .inl λh=>.inr (by rw[h];exact ah)) (.inl rfl) (λb' h=>(r.ty id _ b' hg h).same (uV _ _ _ _))
    (λu o n ai ho=>by
     unfold aE at ho ⊢;rw[hg]at ho;simp only[an,aw];refine⟨ho.1,λhv=>?_⟩;have:=ho.2 hv;rw[show(vZ bs).length=es.length by simp[vZ,s8]];exact this.same λb' _ c hc=>by rw[p9];exact hc)
    (λu ai i j hr=>by
     unfold aG at hr ⊢;rw[hg]at hr;simp only[an,aw];exact hr)
    (λcp hm=>⟨b,(aw _ _ _).trans ah,.inr rfl,λc hc=>by
      simp only[vZ,List.mem_map]at hc;obtain⟨z,_,rfl⟩:=hc;rfl,λi j c x h1 h2=>by
     simp only[vZ,List.getElem?_map,Option.map_eq_some_iff]at h1;obtain⟨z,hz,rfl⟩:=h1;have hi:=ay hz;have hj:=ay h2;simp only[List.length_cons,List.length_nil,Nat.zero_add]at hj;obtain rfl:j=0:=by omega
     simp at h2;subst h2;have:=ij i (by omega);have qX:bs.getD i 0=z:=by simp[List.getD,hz]
     rw[qX]at this;refine⟨_,?_,.int _ _⟩;simp only[Nat.mul_one,Nat.add_zero];rw[p9];exact this⟩)
   rw[jX]at rf;exact⟨_,_,aY,rfl,rf.1,rf.2,mkStr⟩
 |cells=>exact(ae e2).elim
 |aZ=>exact(ae e2).elim
 |c7=>exact(ae e2).elim
 |map=>exact(ae e2).elim
end
def aF (ν:Nat->Nat):Operand->aH->Bool
 |.tmp t,.t n=>t==n
 |.const v,.c x=>sK v x
 |.func f,.c (.iv (.fn h []))=>f==ν h
 |_,_=>false
def dG (ν:Nat->Nat):List Operand->List aH->Bool
 |[],[]=>true
 |x::xs,y::ys=>aF ν x y&&dG ν xs ys
 |_,_=>false
def js (ν:Nat->Nat):Option Operand->Option aH->Bool
 |none,none=>true
 |some x,some y=>aF ν x y
 |_,_=>false
def fY (ν:Nat->Nat):List (Nat×Operand)->List (Nat×aH)->Bool
 |[],[]=>true
 |x::xs,y::ys=>x.1==y.1&&aF ν x.2 y.2&&fY ν xs ys
 |_,_=>false
def dR (ν:Nat->Nat) (pl:Nat->Option (Nat×Nat)):List (Nat×Operand)->List (Nat×Nat×aH)->Bool
 |[],[]=>true
 |x::xs,y::ys=>pl x.1==some (y.1,y.2.1)&&aF ν x.2 y.2.2&&dR ν pl xs ys
 |_,_=>false
def isInt (P:Program) (t:TypeId):Bool:=match P.underlying t with | some (.int _)=>true | _=>false
theorem xl {P:Program} {t:TypeId} (h:isInt P t=true):∃kd,P.underlying t=some (.int kd):=by
 unfold isInt at h;split at h<;>first | exact⟨_,by assumption⟩|cases h
def rj (P:Program) (ν:Nat->Nat) (op:Op) (io:jF):Bool:=
 match io with
 |.nU y=>(match op with | .move x | .assign x=>aF ν x y | _=>false)
 |.pick c' a' b'=>(match op with | .pick c a b=>aF ν c c'&&aF ν a a'&&aF ν b b' | _=>false)
 |.alloc tag z=>(match op with | .alloc t=>la P t z&&zY ν t tag z | _=>false)
 |.box tag y=>(match op with | .box t x=>(tag==0||tag==1&&t==ν pG)&&aF ν x y | _=>false)
 |.build z qs=>(match op with | .build t ps=>la P t z&&(match placesOf P t with | some pl=>dR ν pl ps.toList qs | none=>false) | _=>false)
 |.nV e z n' qs=>(match op with | .buildSlice t n ps=>n==n'&&zZ P t n e z&&fY ν ps.toList qs | _=>false)
 |.load agg sz a'=>(match op with | .load t a=>fO P t sz agg&&aF ν a a' | _=>false)
 |.store sz a' x'=>(match op with | .store t a x=>jj P t sz&&aF ν a a'&&aF ν x x' | _=>false)
 |.eD off x'=>(match op with | .fieldAddr s x f=>pr P s f off&&aF ν x x' | _=>false)
 |.fk agg off sz x'=>(match op with | .field s x f=>sf P s f agg off sz&&aF ν x x' | _=>false)
 |.eE len e x' i'=>(match op with | .indexAddr t x i=>px P t len e&&aF ν x x'&&aF ν i i' | _=>false)
 |.gX e x' i'=>(match op with | .indexAddr t x i=>sliceB P t e&&aF ν x x'&&aF ν i i' | _=>false)
 |.eF agg len e x' i'=>(match op with | .index t x i=>py P t agg len e&&aF ν x x'&&aF ν i i' | _=>false)
 |.fH x' i'=>(match op with | .index t x i=>isStr P t&&aF ν x x'&&aF ν i i' | _=>false)
 |.bin bo q x' y'=>(match op with | .binOp b t x y _=>b==bo&&qA P t q&&aF ν x x'&&aF ν y y' | _=>false)
 |.oi neg qs x' y'=>(match op with | .binOp b t x y _=>b==(if neg then .neq else .eql)&&z8 P t qs&&aF ν x x'&&aF ν y y' | _=>false)
 |.un uo x'=>(match op with | .unOp u _ x=>u==uo&&aF ν x x' | _=>false)
 |.qO kk x'=>(match op with | .convert s d x=>si P s d kk&&aF ν x x' | _=>false)
 |.tC x'=>(match op with | .convert s d x=>isStr P s&&isStr P d&&aF ν x x' | _=>false)
 |.hU e x' rk bY=>(match op with | .slice t x lo hi none=>sliceB P t e&&aF ν x x'&&js ν lo rk&&js ν hi bY | _=>false)
 |.fR x' rk bY=>(match op with | .slice t x lo hi none=>isStr P t&&aF ν x x'&&js ν lo rk&&js ν hi bY | _=>false)
 |.lh e x'=>(match op with | .slice t x lo (some hi) (some mx)=>sliceB P t e&&aF ν x x'&&(match lo with | none=>true | some l=>pR l)&&pR hi&&pR mx | _=>false)
 |.oY n x' rk bY=>(match op with | .slice t x lo hi none=>xf P t n&&aF ν x x'&&js ν lo rk&&js ν hi bY | _=>false)
 |.kV e z x'=>(match op with | .call { callee:=.builtin .clear,args,argTypes }=>(match args.toList,argTypes.toList with | [x],[t]=>z7 P t e z&&aF ν x x' | _,_=>false) | _=>false)
 |.len str x'=>(match op with | .call { callee:=.builtin .len,args,argTypes }=>(match args.toList,argTypes.toList with | [x],[t]=>sk P t str&&aF ν x x' | _,_=>false) | _=>false)
 |.app e byte x' y'=>(match op with | .call { callee:=.builtin .append,args,argTypes }=>(match args.toList,argTypes.toList with | [x,y],[t,u]=>oB P t u e&&(!byte||(match P.underlying t with | some (.slice el)=>el==ν lT | _=>false))&&aF ν x x'&&aF ν y y' | _,_=>false) | _=>false)
 |.mn x' ys=>(match op with | .call { callee:=.builtin .min,args,.. }=>dG ν args.toList (x'::ys) | _=>false)
 |.mx x' ys=>(match op with | .call { callee:=.builtin .max,args,.. }=>dG ν args.toList (x'::ys) | _=>false)
 |.ext x' i'=>(match op with | .extract x i=>i==i'&&aF ν x x' | _=>false)
 |.mz x'=>(match op with | .nilCheck x=>aF ν x x' | _=>false)
 |.oj f' FO rl=>(match op with | .makeFunc (.func f) first ax=>f==ν f'&&dG ν first.toList FO&&dG ν ax.toList rl | _=>false)
 |.call _ f' kx=>(match op with | .call { callee:=.value f,args,.. }=>aF ν f f'&&dG ν args.toList kx | _=>false)
 |.nJ f' kx=>(match op with | .call { callee:=.value f,args,.. }=>aF ν f f'&&dG ν args.toList kx | _=>false)
 |.sY x'=>(match op with | .convert s d x=>mV P s&&isStr P d&&aF ν x x' | _=>false)
 |.sZ=>(match op with | .makeMap _ none=>true | _=>false)
 |.gT ok agg qs z m' k'=>(match op with | .lookup t m k o=>o==ok&&iS P t qs&&CW P t agg z&&aF ν m m'&&aF ν k k' | _=>false)
 |.gU qs m' k' x'=>(match op with | .mapUpdate t m k x | .insert t m k x=>iS P t qs&&aF ν m m'&&aF ν k k'&&aF ν x x' | _=>false)
 |.gV qs m' k'=>(match op with | .call { callee:=.builtin .delete,args,argTypes }=>(match args.toList,argTypes.toList with | [m,k],[t,_]=>iS P t qs&&aF ν m m'&&aF ν k k' | _,_=>false) | _=>false)
 |.qh m'=>(match op with | .call { callee:=.builtin .len,args,argTypes }=>(match args.toList,argTypes.toList with | [m],[t]=>isMap P t&&aF ν m m' | _,_=>false) | _=>false)
 |.dead=>true
 |.nK x'=>(match op with | .call { callee:=.builtin .cap,args,argTypes }=>(match args.toList,argTypes.toList with | [x],[t]=>(match P.underlying t with | some (.slice el)=>(P.info? el).isSome | _=>false)&&aF ν x x' | _,_=>false) | _=>false)
 |.mJ e z x' y'=>(match op with | .call { callee:=.builtin .append,args,argTypes }=>(match args.toList,argTypes.toList with | [x,y],[t,u]=>pH P t e z&&isInt P u&&aF ν x x'&&aF ν y y' | _,_=>false) | _=>false)
 |.jW kk x'=>(match op with | .call { callee:=.value (.func f),args,.. }=>(match args.toList with | [x]=>kO P "sync/atomic.Load" kk f&&aF ν x x' | _=>false) | _=>false)
 |.rE x' y'=>(match op with | .call { callee:=.value (.func f),args,.. }=>(match args.toList with | [x,y]=>(kO P "sync/atomic.Store" .u32 f||kO P "sync/atomic.Store" .i64 f||kO P "sync/atomic.Store" .i32 f)&&aF ν x x'&&aF ν y y' | _=>false) | _=>false)
 |.lN kk x' y'=>(match op with | .call { callee:=.value (.func f),args,.. }=>(match args.toList with | [x,y]=>kO P "sync/atomic.Add" kk f&&aF ν x x'&&aF ν y y' | _=>false) | _=>false)
 |.mK kk x' o' y'=>(match op with | .call { callee:=.value (.func f),args,.. }=>(match args.toList with | [x,o,y]=>kO P "sync/atomic.CompareAndSwap" kk f&&aF ν x x'&&aF ν o o'&&aF ν y y' | _=>false) | _=>false)
 |.AY e=>(match op with | .buildSlice t n ps=>n==0&&ps.isEmpty&&sliceB P t e | _=>false)
 |.pX x'=>(match op with | .convert s d x=>Ad P s d&&aF ν x x' | _=>false)
 |.tz x'=>(match op with | .call { callee:=.value (.func f),args,.. }=>(match args.toList with | [x]=>y0 P "internal/abi.NoEscape" f&&aF ν x x' | _=>false) | _=>false)
 |.pY x'=>(match op with | .convert s d x=>Ae P ν s d&&aF ν x x' | _=>false)
 |.pZ x'=>(match op with | .call { callee:=.builtin .unsafeSliceData,args,.. }=>(match args.toList with | [x]=>aF ν x x' | _=>false) | _=>false)
 |.lP p' n'=>(match op with | .call { callee:=.builtin .unsafeString,args,argTypes }=>(match args.toList,argTypes.toList with | [p,n],[pt,_]=>xk P ν pt&&aF ν p p'&&aF ν n n' | _,_=>false) | _=>false)
 |.te e z n'=>(match op with | .makeSlice t l c=>pH P t e z&&aF ν l n'&&aF ν c n' | _=>false)
def eU (ν:Nat->Nat) (g:Gh) (tmps:Array Value) (fr:Fr):Prop:=∀(t:Nat) (x:AV),get fr t=some x->∃v,tmps[t]?=some v/\RA ν g v x
theorem eU.mono {ν:Nat->Nat} {g g':Gh} {tmps:Array Value} {fr:Fr} (h:eU ν g tmps fr) (hm:aV ν g g'):eU ν g' tmps fr:=
 λt x ht=>let⟨v,h1,h2⟩:=h t x ht;⟨v,h1,hm _ _ h2⟩
section
variable {ν:Nat->Nat} {P:Program} {k:Cx} {g:Gh}
theorem ak {a:Act} {fr:Fr} (hf:eU ν g a.tmps fr) {x:Operand} {y:aH} (h:aF ν x y=true):RA ν g (a.eval x) (ev fr y):=by
 unfold aF at h;split at h
 ·rename_i t n;have:=beq_iff_eq.1 h;subst this;simp only[ev];cases hg:get fr t with
  |none=>exact .undef _
  |some z=>
   obtain⟨v,hv,hR⟩:=hf t z hg;have:a.eval (.tmp t)=v:=by simp[Act.eval,Array.getD,(Array.getElem?_eq_some_iff.1 hv).1,(Array.getElem?_eq_some_iff.1 hv).2]
   rw[this];exact hR
 ·rename_i v x;exact(kn h g).2
 ·rename_i f h';have:=beq_iff_eq.1 h;subst this;exact .iv (.fn h' #[] [] rfl λj v x h=>by simp at h)
 ·cases h
theorem lz {a:Act} {fr:Fr} (hf:eU ν g a.tmps fr):∀{xs:List Operand} {ys:List aH},dG ν xs ys=true->
  (xs.map a.eval).length=(ys.map (ev fr)).length/\∀(j:Nat) (v:Value) (x:AV),(xs.map a.eval)[j]?=some v->(ys.map (ev fr))[j]?=some x->RA ν g v x
 |[],[],_=>⟨rfl,λj v x h=>by simp at h⟩
 |x::xs,y::ys,h=>by
  simp only[dG,Bool.and_eq_true]at h;obtain⟨h1,h2⟩:=lz hf h.2;refine⟨by simpa using h1,λj v z hv hz=>?_⟩;cases j with
  |zero=>simp at hv hz;subst hv hz;exact ak hf h.1
  |succ j=>exact h2 j v z (by simpa using hv) (by simpa using hz)
 |[],_::_,h=>by simp[dG]at h
 |_::_,[],h=>by simp[dG]at h
theorem eV {a:Act} {fr:Fr} (hf:eU ν g a.tmps fr) {x:Option Operand} {y:Option aH} (h:js ν x y=true):RO ν g (x.map a.eval) (y.map (ev fr)):=by
 cases x<;>cases y<;>simp[js]at h
 ·trivial
 ·exact ak hf h
theorem mE {a:Act} {fr:Fr} (hf:eU ν g a.tmps fr) {pl:Nat->Option (Nat×Nat)}:∀(ps:List (Nat×Operand)) (qs:List (Nat×Nat×aH)) (cells:Array Value) (cs:List AV) (n:Nat) (l:List (Nat×List AV)) (h h':Hp),
  dR ν pl ps qs=true->RC ν g cells cs->cs.length=n->
  (M.aJ (λp:Nat×Nat×aH=>(bU (ev fr p.2.2)).bind λl=>(M.ok (l.length==p.2.1&&Nat.ble (p.1+p.2.1) n)).bind λ_=>M.ret (p.1,l)) qs).run h=some (l,h')->
  h'=h/\∃eR,Instr.fill pl cells (ps.map λp=>(p.1,a.eval p.2))=some eR/\RC ν g eR (fl cs l):=by
 intro ps
 induction ps with
 |nil=>
  intro qs cells cs n l h h' hc hr _ e;cases qs with
  |cons=>simp[dR]at hc
  |nil=>
   obtain⟨rfl,rfl⟩:=b7 e;exact⟨rfl,cells,rfl,hr⟩
 |cons p ps ih=>
  intro qs cells cs n l h h' hc hr hn e;cases qs with
  |nil=>simp[dR]at hc
  |cons q qs=>
   simp only[dR,Bool.and_eq_true,beq_iff_eq]at hc;obtain⟨⟨iP,hq⟩,cN⟩:=hc;obtain⟨y,h1,zs,e1,e2,rfl⟩:=bR e;obtain⟨xs,h2,e3,e4⟩:=ag e1;obtain⟨rfl,hs,ox⟩:=fq e3 (ak hf hq);obtain⟨bx,e6⟩:=M.aj e4;obtain⟨rfl,rfl⟩:=af e6;simp only[Bool.and_eq_true,beq_iff_eq,Nat.ble_eq]at bx;have cK:q.1+xs.length<=cs.length:=by omega
   have ym:=hr.cn (us:=(a.eval p.2).cells) (l:=xs) (o:=q.1) ⟨hs,ox⟩ cK;obtain⟨rfl,c',fu,hR⟩:=ih qs _ _ n zs h1 h' cN ym (by rw[de _ _ _ cK];exact hn) e2;refine⟨rfl,c',?_,hR⟩;rw[<-fu];simp only[List.map_cons,Instr.fill,iP];have qZ:¬(((a.eval p.2).cells.size≠q.2.1||q.1+(a.eval p.2).cells.size > cells.size)=true):=by
    have:=hr.1;simp;omega
   rw[if_neg qZ,<-Array.foldl_toList,Array.toList_zipIdx]
theorem qq (r:Rel ν k g) {a:Act} {fr:Fr} (hf:eU ν g a.tmps fr) {t:TypeId} {z:List AV} {ps:Array (Nat×Operand)} {qs:List (Nat×Nat×aH)} {pl:Nat->Option (Nat×Nat)}
  (hz:la P t z=true) (hp:placesOf P t=some pl) (hc:dR ν pl ps.toList qs=true) {y:AV} {h':Hp}
  (e:((M.aJ (λp:Nat×Nat×aH=>(bU (ev fr p.2.2)).bind λl=>(M.ok (l.length==p.2.1&&Nat.ble (p.1+p.2.1) z.length)).bind λ_=>M.ret (p.1,l)) qs).bind λl=>M.ret (.agg (fl z l))).run g.h=some (y,h')) :
  bf ν k g h' y ((Instr.build t (ps.map fun(i,x)=>(i,a.eval x))).run P g.w):=by
 obtain⟨l,h1,e1,e2⟩:=ag e;obtain⟨rfl,rfl⟩:=af e2;obtain⟨i,v,hi,oz,gZ⟩:=jY hz;have Cj:=qC (ν:=ν) (g:=g) gZ;obtain⟨rfl,eR,fu,hR⟩:=mE hf ps.toList qs v.cells z z.length l _ _ hc Cj rfl e1;refine .same r (run_build g.w t _ eR ?_) hR.agg;rw[uh hp hi oz rfl];simpa using fu
theorem ui (r:Rel ν k g) {s d:TypeId} (hs:mV P s=true) (hd:isStr P d=true) {v:Value} {x y:AV} {h':Hp} (hv:RA ν g v x)
  (e:((elems 1 x).bind λys=>(M.lift (bytesOf ys)).bind λb=>M.ret (.iv (.str (qi b)))).run g.h=some (y,h')):bf ν k g h' y ((convert s d v).run P g.w):=by
 obtain⟨ys,h1,e1,e2⟩:=ag e;obtain⟨rfl,news,⟨a,c,cc,zK⟩,hlen,EI,ij⟩:=kc r e1 hv;obtain⟨b,hb,e4⟩:=M.lift_bind e2;obtain⟨rfl,rfl⟩:=af e4;obtain⟨s8,uj⟩:=iG hb;obtain⟨el,nX,mW⟩:=pS hs;have rm:=dX hd;subst cc;refine .same r (v:=.string (qi b)) ?_ mkStr;rcases zK with h0 | ⟨yn,off,rfl,ey⟩
 ·have:b=[]:=List.eq_nil_of_length_eq_zero (by omega);subst this;rw[h0];cases a with
  |none=>rw[run_convert_bytes_nil g.w s el nX mW 0 c d rm];rfl
  |some a=>
   rw[run_convert_bytes_string g.w s d el _ 0 c nX mW rm,run_bytesToString g.w a 0 c [] (by simp[loadCells,loadCellsFrom])];rfl
 ·refine run_convert_bytes_arg g.w s el nX mW yn off ys.length c b s8 (λi hi=>?_) d rm;obtain⟨u,hu, -,hR⟩:=ij i 0 _ _ (uj i hi) rfl;have:=ey (i*1+0) u hu;rw[Nat.mul_one,Nat.add_zero]at this;rw[this,hR.int]
end
def RL (ν:Nat->Nat) (g:Gh) (vs:List Value) (xs:List AV):Prop:=vs.length=xs.length/\∀(j:Nat) (v:Value) (x:AV),vs[j]?=some v->xs[j]?=some x->RA ν g v x
section
variable {ν:Nat->Nat} {P:Program} {k:Cx} {g:Gh}
theorem RL.nil:RL ν g [] []:=⟨rfl,λj v x h=>by simp at h⟩
theorem RL.cons {v:Value} {x:AV} {vs:List Value} {xs:List AV} (h:RA ν g v x) (hl:RL ν g vs xs):RL ν g (v::vs) (x::xs):=
 ⟨by simp[hl.1],λj v' x' h1 h2=>by
  cases j with
  |zero=>simp at h1 h2;subst h1 h2;exact h
  |succ j=>exact hl.2 j v' x' (by simpa using h1) (by simpa using h2)⟩
theorem RL.tail {v:Value} {x:AV} {vs:List Value} {xs:List AV} (h:RL ν g (v::vs) (x::xs)):RA ν g v x/\RL ν g vs xs:=
 ⟨h.2 0 v x rfl rfl,by have:=h.1;simpa using this,λj v' x' h1 h2=>h.2 (j+1) v' x' (by simpa using h1) (by simpa using h2)⟩
theorem RL.mono {g':Gh} {vs:List Value} {xs:List AV} (h:RL ν g vs xs) (hm:∀v x,RA ν g v x->RA ν g' v x):RL ν g' vs xs:=⟨h.1,λj v x h1 h2=>hm _ _ (h.2 j v x h1 h2)⟩
theorem RL.append {vs us:List Value} {xs ys:List AV} (h:RL ν g vs xs) (h':RL ν g us ys):RL ν g (vs++us) (xs++ys):=
 ⟨by simp[h.1,h'.1],λj v x h1 h2=>by
  rw[List.getElem?_append]at h1 h2;rw[<-h.1]at h2;split at h1
  ·rename_i hj;rw[if_pos hj]at h2;exact h.2 j v x h1 h2
  ·rename_i hj;rw[if_neg hj]at h2;exact h'.2 _ v x h1 h2⟩
theorem lA (r:Rel ν k g) {a:AV} {y:ao.AV} {h':Hp} (e:(ek true a).run g.h=some (y,h')) {v:Value} (hv:RA ν g v a):∃I',cj ν k g h' I'/\jO ν I' g.w v y:=by
 have plain:∀{a:AV},((fz true 8 a).bind λx=>M.ret (ao.AV.iv x)).run g.h=some (y,h')->RA ν g v a->∃I',cj ν k g h' I'/\jO ν I' g.w v y:=by
  intro a e hv;obtain⟨x,h1,e1,e2⟩:=ag e;obtain⟨rfl,rfl⟩:=af e2;obtain⟨I',f,hR⟩:=jl ν 8 k g a x _ e1 r v hv;exact⟨I',f,.iv hR⟩
 cases a with
 |agg cs=>
  obtain⟨xs,h1,e1,e2⟩:=ag e;obtain⟨rfl,rfl⟩:=af e2;obtain⟨vs,rfl⟩:=hv.dP;obtain⟨V,hV⟩:=pick λj c hc=>hv.dQ j c hc
  obtain⟨I',f,hl,hx⟩:=(jl ν 8).list cs k g xs _ e1 r V λj c hc=>(hV j c hc).2
  refine⟨I',f,mh ?_ λj v x h1 h2=>?_⟩
  ·cases hv with
   |agg hn _ _=>omega
  ·have aT:=ay h2;have:=(hV j _ (List.getElem?_eq_getElem (show j<cs.length by omega))).1;rw[h1]at this;cases this;exact hx j x h2
 |undef=>exact plain e hv
 |cG q=>exact plain e hv
 |iv x=>exact plain e hv
 |aR vs=>exact plain e hv
 |own id o n v=>exact plain e hv
 |ref id v i j=>exact plain e hv
 |bp f fs ax=>exact plain e hv
theorem zL (r:Rel ν k g) {a:AV} {y:ao.AV} {h':Hp} (e:(ek false a).run g.h=some (y,h')) {v:Value} (hv:RA ν g v a) :
  h'=g.h/\∀J:Nat->Prop,(∀b,g.I b->J b)->(∀id o b,get g.h id=some o->g.φ id=some b->J b)->jO ν J g.w v y:=by
 have plain:∀{a:AV},((fz false 8 a).bind λx=>M.ret (ao.AV.iv x)).run g.h=some (y,h')->RA ν g v a->
   h'=g.h/\∀J:Nat->Prop,(∀b,g.I b->J b)->(∀id o b,get g.h id=some o->g.φ id=some b->J b)->jO ν J g.w v y:=by
  intro a e hv;obtain⟨x,h1,e1,e2⟩:=ag e;obtain⟨rfl,rfl⟩:=af e2;obtain⟨rfl,hR⟩:=ln ν 8 k g a x _ e1 r v hv;exact⟨rfl,λJ h1 h2=>.iv (hR J h1 h2)⟩
 cases a with
 |agg cs=>
  obtain⟨xs,h1,e1,e2⟩:=ag e;obtain⟨rfl,rfl⟩:=af e2;obtain⟨vs,rfl⟩:=hv.dP;obtain⟨V,hV⟩:=pick λj c hc=>hv.dQ j c hc
  obtain⟨rfl,hl,hx⟩:=(ln ν 8).list k g r cs xs _ e1 V λj c hc=>(hV j c hc).2
  refine⟨rfl,λJ h1 h2=>mh ?_ λj v x h3 h4=>?_⟩
  ·cases hv with
   |agg hn _ _=>omega
  ·have aT:=ay h4;have:=(hV j _ (List.getElem?_eq_getElem (show j<cs.length by omega))).1;rw[h3]at this;cases this;exact hx J h1 h2 j x h4
 |undef=>exact plain e hv
 |cG q=>exact plain e hv
 |iv x=>exact plain e hv
 |aR vs=>exact plain e hv
 |own id o n v=>exact plain e hv
 |ref id v i j=>exact plain e hv
 |bp f fs ax=>exact plain e hv
theorem kL:∀(U:List AV) (k:Cx) (g:Gh) (ys:List ao.AV) (h':Hp),(M.aJ (ek true) U).run g.h=some (ys,h')->Rel ν k g->∀vs:List Value,RL ν g vs U->
  ∃I',cj ν k g h' I'/\ao.RL ν ⟨I',λ_=>none,g.w,[]⟩ vs ys:=by
 intro U
 induction U with
 |nil=>
  intro k g ys h' e r vs hv;obtain⟨rfl,rfl⟩:=b7 e;have:vs=[]:=List.eq_nil_of_length_eq_zero hv.1;subst this;exact⟨g.I,.refl r,ao.RL.nil⟩
 |cons a U ih=>
  intro k g ys h' e r vs hv;cases vs with
  |nil=>have:=hv.1;simp at this
  |cons v vs=>
   obtain⟨y,h1,zs,e1,e2,rfl⟩:=bR e;obtain⟨I1,f1,hR⟩:=lA r e1 hv.tail.1;obtain⟨I2,f2,dx⟩:=ih k _ zs h' e2 f1.rel vs (hv.tail.2.mono f1.mono);exact⟨I2,f1.trans f2,ao.RL.cons (hR.mono λv x h=>h.mono f2.sub λ_ _ _ _ h=>h) dx⟩
theorem oE (r:Rel ν k g):∀(U:List AV) (ys:List ao.AV) (h':Hp),(M.aJ (ek false) U).run g.h=some (ys,h')->∀vs:List Value,RL ν g vs U->
  h'=g.h/\∀J:Nat->Prop,(∀b,g.I b->J b)->(∀id o b,get g.h id=some o->g.φ id=some b->J b)->ao.RL ν ⟨J,λ_=>none,g.w,[]⟩ vs ys:=by
 intro U
 induction U with
 |nil=>
  intro ys h' e vs hv;obtain⟨rfl,rfl⟩:=b7 e;have:vs=[]:=List.eq_nil_of_length_eq_zero hv.1;subst this;exact⟨rfl,λ_ _ _=>ao.RL.nil⟩
 |cons a U ih=>
  intro ys h' e vs hv;cases vs with
  |nil=>have:=hv.1;simp at this
  |cons v vs=>
   obtain⟨y,h1,zs,e1,e2,rfl⟩:=bR e;obtain⟨rfl,hR⟩:=zL r e1 hv.tail.1;obtain⟨rfl,dx⟩:=ih zs h' e2 vs hv.tail.2;exact⟨rfl,λJ h1 h2=>ao.RL.cons (hR J h1 h2) (dx J h1 h2)⟩
theorem uX:∀{cs:List ao.AV} {xs:List IV},jV cs=some xs->cs=xs.map .iv
 |[],xs,h=>by simp[jV]at h;subst h;rfl
 |.iv x::r,xs,h=>by
  simp only[jV,Option.map_eq_some_iff]at h;obtain⟨ys,h1,rfl⟩:=h;rw[uX h1];rfl
 |.undef::_,_,h=>by simp[jV]at h
 |.agg _::_,_,h=>by simp[jV]at h
 |.aR _::_,_,h=>by simp[jV]at h
 |.own _ _ _ _::_,_,h=>by simp[jV]at h
 |.ref _ _ _ _::_,_,h=>by simp[jV]at h
 |.bp _ _::_,_,h=>by simp[jV]at h
theorem uY {I:Nat->Prop} {w:World} {v:Value} {a:ao.AV} {y:AV} (h:jO ν I w v a) (e:vY a=some y) (hR:∀v x,RI ν I w v x->RI ν g.I g.w v x):RA ν g v y:=by
 cases a with
 |iv x=>
  simp[vY]at e;subst e;cases h with
  |iv h=>exact .iv (hR _ _ h)
 |agg cs=>
  simp only[vY,Option.map_eq_some_iff]at e;obtain⟨xs,h1,rfl⟩:=e;obtain rfl:=uX h1;cases h with
  |agg hn h1 hr=>
   refine .agg (by simpa using hn) h1 λj v c hv hc=>?_
   simp only[List.getElem?_map,Option.map_eq_some_iff]at hc;obtain⟨x,hx,rfl⟩:=hc;have:=hr j v (.iv x) hv (by simp[hx]);cases this with
   |iv h=>exact .iv (hR _ _ h)
 |undef=>cases e
 |aR _=>cases e
 |own _ _ _ _=>cases e
 |ref _ _ _ _=>cases e
 |bp _ _=>cases e
theorem y6:∀{U:List ao.AV} {ys:List AV},yR U=some ys->U.length=ys.length/\∀(j:Nat) (a:ao.AV) (y:AV),U[j]?=some a->ys[j]?=some y->vY a=some y
 |[],ys,h=>by simp[yR]at h;subst h;exact⟨rfl,λj a y h=>by simp at h⟩
 |a::U,ys,h=>by
  simp only[yR,Option.bind_eq_some_iff,Option.map_eq_some_iff]at h;obtain⟨y,h1,zs,h2,rfl⟩:=h;obtain⟨q1,q2⟩:=y6 h2;refine⟨by simp[q1],λj a' y' ha hy=>?_⟩;cases j with
  |zero=>simp at ha hy;subst ha hy;exact h1
  |succ j=>exact q2 j a' y' (by simpa using ha) (by simpa using hy)
theorem y7 {I:Nat->Prop} {w:World} {v:Value} {a:ao.AV} {y:AV} (h:jO ν I w v a) (e:yS a=some y) (hR:∀v x,RI ν I w v x->RI ν g.I g.w v x):RA ν g v y:=by
 cases a with
 |aR vs=>
  simp only[yS,Option.map_eq_some_iff]at e;obtain⟨ys,h1,rfl⟩:=e;obtain⟨q1,q2⟩:=y6 h1;cases h with
  |aR hn hr=>
   refine .aR (by omega) λj v c hv hc=>?_
   have hj:j<vs.length:=by have:=ay hc;omega
   exact uY (hr j v _ hv (List.getElem?_eq_getElem hj)) (q2 j _ c (List.getElem?_eq_getElem hj) hc) hR
 |iv x=>exact uY h e hR
 |agg cs=>exact uY h e hR
 |undef=>cases e
 |own _ _ _ _=>cases e
 |ref _ _ _ _=>cases e
 |bp _ _=>cases e
def iX (ν:Nat->Nat) (P:Program) (f:Nat) (args:List AV) (hp:Hp) (r:AV) (bM:Hp):Prop:=
 ∀(k0:Cx) (g0:Gh) (aS:Array Value),g0.h=hp->Rel ν k0 g0->RL ν g0 aS.toList args->
  Calls P (ν f) aS g0.w λe w'=>∃v g',e = .returned v/\g'.w=w'/\g'.h=bM/\Rel ν k0 g'/\aV ν g0 g'/\RA ν g' v r
def bq (ν:Nat->Nat) (P:Program) (call:cA):Prop:=
 ∀f args hp nx r bM dN,call f args hp nx=some (r,bM,dN)->(∃fn,P.funcs[ν f]?=some fn/\fn.body.isSome=true/\(fn.name=="runtime.NumGoroutine")=false)/\iX ν P f args hp r bM
theorem fA {x:AV} {q:Nat×List AV×List AV} (e:callee x=some q) {v:Value} (hv:RA ν g v x):∃first ax,v = .func (.func (ν q.1)) first ax/\RL ν g first.toList q.2.1/\RL ν g ax.toList q.2.2:=by
 unfold callee at e;split at e
 ·cases e;cases hv with
  |iv h=>
   cases h with
   |fn f ax cs hn hr=>
    refine⟨#[],ax,rfl,.nil,by simpa using hn,λj v x h1 h2=>?_⟩;simp only[List.getElem?_map,Option.map_eq_some_iff]at h2;obtain⟨y,hy,rfl⟩:=h2;exact .iv (hr j v y (by simpa using h1) hy)
 ·cases e;cases hv with
  |bp hm hs hn hr=>exact⟨_,_,rfl,⟨by simpa using hm,λj v x h1 h2=>hs j v x (by simpa using h1) h2⟩,by simpa using hn,λj v x h1 h2=>hr j v x (by simpa using h1) h2⟩
 ·cases e
theorem oG {ρ:Operand->Value} {o:Oper} {fo:Operand} {aS:Array Operand} {cz:Array TypeId} (ho:o.op = .call { callee:=.value fo,args:=aS,argTypes:=cz }) {f:Nat} {first ax:Array Value}
  (hf:ρ fo = .func (.func (ν f)) first ax) {fn:Func} (dp:P.funcs[ν f]?=some fn) (hb:fn.body.isSome=true) (hn:(fn.name=="runtime.NumGoroutine")=false) (w:World) :
  (execOp ρ o).run P w = .ok (.enter (ν f) (first++aS.map ρ++ax)) w:=by
 have fM:¬fn.body=none:=λh=>by rw[h]at hb;cases hb
 have cZ:¬fn.name="runtime.NumGoroutine":=by simpa using hn
 simp[execOp,ho,resolve,hf,Deferred.ofValue,invoke,callFunc,dp,fM,cZ]
def fK (ν:Nat->Nat) (P:Program) (k:Cx) (g:Gh) (h':Hp) (y:AV) (fv:Value) (aS:Array Value):Prop:=
 ∃q first ax fn,fv = .func (.func (ν q)) first ax/\P.funcs[ν q]?=some fn/\fn.body.isSome=true/\(fn.name=="runtime.NumGoroutine")=false/\
  Calls P (ν q) (first++aS++ax) g.w λe w'=>∃v g',e = .returned v/\g'.w=w'/\g'.h=h'/\Rel ν k g'/\aV ν g g'/\RA ν g' v y
theorem qE {q:Nat×List AV×List AV} {first ax aS:Array Value} {args:List AV} (h1:RL ν g first.toList q.2.1) (h2:RL ν g ax.toList q.2.2) (ha:RL ν g aS.toList args) :
  RL ν g (first++aS++ax).toList (q.2.1++(args++q.2.2)):=by
 have:=h1.append (ha.append h2);simpa using this
theorem nC (r:Rel ν k g) {J:Nat->Prop} {g':ao.Gh} (r':ao.Rel ν ⟨g.w,J,λ_=>False⟩ g'):Rel ν k { g with w:=g'.w }/\aV ν g { g with w:=g'.w }:=
 r.world (I':=g.I) (λ_ h=>h) (λ_ h=>.inl h) r'.size r'.os r'.tape r'.output λb hb=>r'.cu b hb (.inl λh=>h)
theorem qu {call:bS} (hs:ao.bq ν P call) (r:Rel ν k g) {f y:AV} {args:List AV} {h':Hp} (e:(gv call f args).run g.h=some (y,h')) {fv:Value} {aS:Array Value}
  (hf:RA ν g fv f) (ha:RL ν g aS.toList args):fK ν P k g h' y fv aS:=by
 obtain⟨q,hq,e2⟩:=M.lift_bind e;obtain⟨first,ax,rfl,jQ,eM⟩:=fA hq hf;obtain⟨U,h2,e3,e4⟩:=ag e2;obtain⟨rfl,hJ⟩:=oE r _ _ _ e3 _ (qE jQ eM ha);obtain⟨y',hc,e6⟩:=M.lift_bind e4;obtain⟨yp,e8⟩:=M.aj e6;obtain⟨C3,rfl⟩:=dy e8;obtain⟨⟨rr,hh⟩,g7,nD⟩:=Option.bind_eq_some_iff.1 hc;obtain⟨⟨fn,dp,hb,hn⟩,bx⟩:=hs _ _ _ _ _ g7;have Ck:∀b,(g.I b\/∃id o,get g.h id=some o/\g.φ id=some b)->b<g.w.heap.size:=by
  rintro b (h | ⟨id,o,ho,ah⟩)
  ·exact r.small b h
  ·exact(r.ob id o ho).block ah r.small
 have dx:=hJ (λb=>g.I b\/∃id o,get g.h id=some o/\g.φ id=some b) (λ_ h=>.inl h) λid o b h1 h2=>.inr ⟨id,o,h1,h2⟩
 refine⟨q.1,first,ax,fn,rfl,dp,hb,hn,(bx ⟨g.w,_,λ_=>False⟩ ⟨_,λ_=>none,g.w,[]⟩ _ rfl rfl rfl (ao.lD (g:=⟨λ_=>False,λ_=>none,g.w,[]⟩) Ck) dx).mono ?_⟩;rintro e w' ⟨v,g',rfl,rfl,rfl,r', -,hR⟩;obtain⟨I',pQ, -,kI⟩:=pA r' nD hR;obtain⟨r2,m2⟩:=nC r r';exact⟨v,{ g with w:=g'.w },rfl,rfl,rfl,r2,m2,y7 (I:=g.I) (w:=g'.w) (qt yp kI) C3 λ_ _ h=>h⟩
theorem oH {call:bS} (hs:ao.bq ν P call) (r:Rel ν k g) {f y:AV} {args:List AV} {h':Hp} (e:(gM call f args).run g.h=some (y,h')) {fv:Value} {aS:Array Value}
  (hf:RA ν g fv f) (ha:RL ν g aS.toList args):fK ν P k g h' y fv aS:=by
 obtain⟨q,hq,e2⟩:=M.lift_bind e;obtain⟨first,ax,rfl,jQ,eM⟩:=fA hq hf;obtain⟨U,h2,e3,e4⟩:=ag e2;obtain⟨I1,f1,dx⟩:=kL _ k g U _ e3 r _ (qE jQ eM ha);obtain⟨y',hc,e6⟩:=M.lift_bind e4;obtain⟨C3,rfl⟩:=dy e6;obtain⟨⟨rr,hh⟩,g7,nD⟩:=Option.bind_eq_some_iff.1 hc;obtain⟨⟨fn,dp,hb,hn⟩,bx⟩:=hs _ _ _ _ _ g7;refine⟨q.1,first,ax,fn,rfl,dp,hb,hn,(bx ⟨g.w,_,λ_=>False⟩ ⟨_,λ_=>none,g.w,[]⟩ _ rfl rfl rfl (ao.lD (g:=⟨λ_=>False,λ_=>none,g.w,[]⟩) f1.rel.small) dx).mono ?_⟩;rintro e w' ⟨v,g',rfl,rfl,rfl,r', -,hR⟩;obtain⟨I2,pQ,f2,kI⟩:=pA r' nD hR
 have oI:∀b,I2 b->I1 b\/g.w.heap.size<=b/\b<g'.w.heap.size:=by
  intro b hb;have aT:=f2.rel.small b hb;rcases f2.rel.i1 b hb with h | h | h
  ·exact .inl h
  ·exact h.elim
  ·exact .inr ⟨h,aT⟩
 have hw:=f1.rel.world (w':=g'.w) (I':=I2) (λb h=>f2.sub b (r'.i0 b h)) oI r'.size r'.os r'.tape r'.output λb hb=>r'.cu b hb (.inl λh=>h)
 exact⟨v,⟨I2,g.φ,g'.w,_⟩,rfl,rfl,rfl,hw.1,f1.mono.trans hw.2,y7 kI C3 λv x h=>h⟩
end
theorem M.lu {α β γ:Type} (f:β->M γ) (h:α->β):∀l:List α,M.aJ f (l.map h)=M.aJ (λx=>f (h x)) l
 |[]=>rfl
 |x::r=>by simp only[List.map_cons,M.aJ,M.lu f h r]
section
variable {ν:Nat->Nat} {P:Program} {k:Cx} {g:Gh}
theorem az {o:Oper} {a:Act} {h':Hp} {y:AV} {s:Sem Value} (hx:execOp a.eval o=(do pure (.value (<-s)):Sem Next)) (d:bf ν k g h' y (s.run P g.w)) {next:Act->World->Prop} {Q:Exit->Act->World->Prop}
  (hn:∀g' v,g'.h=h'->Rel ν k g'->aV ν g g'->RA ν g' v y->next (a.put o.dst v) g'.w):o.wp P a g.w next Q:=by
 obtain⟨g',v,hr,hh,r',m,hR⟩:=d;unfold Oper.wp;rw[hx];simp only[Sem.run_bind,hr,Result.andThen_ok,Sem.run_pure];exact hn g' v hh r' m hR
theorem iI {o:Oper} {a:Act} {h':Hp} {y:AV} {fo:Operand} {aS:Array Operand} {cz:Array TypeId} (ho:o.op = .call { callee:=.value fo,args:=aS,argTypes:=cz })
  (d:fK ν P k g h' y (a.eval fo) (aS.map a.eval)) {next:Act->World->Prop} {Q:Exit->Act->World->Prop}
  (hn:∀g' v,g'.h=h'->Rel ν k g'->aV ν g g'->RA ν g' v y->next (a.put o.dst v) g'.w):o.wp P a g.w next Q:=by
 obtain⟨q,first,ax,fn,hf,dp,hb,rq,hc⟩:=d;unfold Oper.wp;rw[oG ho hf dp hb rq];rw[Oper.upon_enter];refine hc.mono ?_;rintro e w' ⟨v,g',rfl,rfl,hh,r',m,hR⟩;exact hn g' v hh r' m hR
theorem nj {o:Oper} {a:Act} {h':Hp} {y:AV} {f:Nat} {aS:Array Operand} {cz:Array TypeId} (ho:o.op = .call { callee:=.value (.func f),args:=aS,argTypes:=cz })
  (d:sM ν P k g h' y f (aS.map a.eval)) {next:Act->World->Prop} {Q:Exit->Act->World->Prop}
  (hn:∀g' v,g'.h=h'->Rel ν k g'->aV ν g g'->RA ν g' v y->next (a.put o.dst v) g'.w):o.wp P a g.w next Q:=by
 obtain⟨g',v,hr,hh,r',m,hR⟩:=d;have hx:(execOp a.eval o).run P g.w = .ok (.value v) g'.w:=by
  have:a.eval (.func f) = .func (.func f) #[] #[]:=rfl;simp[execOp,ho,resolve,this,Deferred.ofValue,invoke,hr]
 unfold Oper.wp;rw[hx];exact hn g' v hh r' m hR
theorem o9 {a:Act} {x:Operand} (h:pR x=true):∃kk,a.eval x = .int kk 0:=by
 unfold pR at h;split at h
 ·rename_i kk n;have:=beq_iff_eq.1 h;subst this;exact⟨kk,rfl⟩
 ·cases h
theorem fZ {a:Act} {fr:Fr} (hf:eU ν g a.tmps fr) {xs:Array Operand} {ys:List aH} (h:dG ν xs.toList ys=true):RL ν g (xs.map a.eval).toList (ys.map (ev fr)):=by
 obtain⟨h1,h2⟩:=lz hf h;exact⟨by simpa using h1,λj v x hv hx=>h2 j v x (by simpa using hv) hx⟩
theorem lE {a:Act} {fr:Fr} (hf:eU ν g a.tmps fr):∀{ps:List (Nat×Operand)} {qs:List (Nat×aH)},fY ν ps qs=true->
  (ps.map λp=>(p.1,a.eval p.2)).length=(qs.map λp=>(p.1,ev fr p.2)).length/\
  ∀(j:Nat) (q:Nat×Value) (p:Nat×AV),(ps.map λp=>(p.1,a.eval p.2))[j]?=some q->(qs.map λp=>(p.1,ev fr p.2))[j]?=some p->q.1=p.1/\RA ν g q.2 p.2
 |[],[],_=>⟨rfl,λj v x h=>by simp at h⟩
 |x::xs,y::ys,h=>by
  simp only[fY,Bool.and_eq_true,beq_iff_eq]at h;obtain⟨h1,h2⟩:=lE hf h.2;refine⟨by simpa using h1,λj v z hv hz=>?_⟩;cases j with
  |zero=>simp at hv hz;subst hv hz;exact⟨h.1.1,ak hf h.1.2⟩
  |succ j=>exact h2 j v z (by simpa using hv) (by simpa using hz)
 |[],_::_,h=>by simp[fY]at h
 |_::_,[],h=>by simp[fY]at h
set_option maxHeartbeats 4000000 in
theorem xa {call:bS} (hs:ao.bq ν P call) {o:Oper} {a:Act} {fr:Fr} {io:jF} {slot:Nat} (hc:rj P ν o.op io=true) (r:Rel ν k g) (hf:eU ν g a.tmps fr) {y:AV} {h':Hp}
  (e:(bk call slot (ev fr) io).run g.h=some (y,h')) {next:Act->World->Prop} {Q:Exit->Act->World->Prop}
  (hn:∀g' v,g'.h=h'->Rel ν k g'->aV ν g g'->RA ν g' v y->next (a.put o.dst v) g'.w):o.wp P a g.w next Q:=by
 unfold rj at hc;split at hc
 case h_1 y'=>
  obtain⟨rfl,rfl⟩:=af e;split at hc
  ·rename_i x ho;exact az (s:=pure (a.eval x)) (by simp[execOp,ho]) (.same r rfl (ak hf hc)) hn
  ·rename_i x ho;exact az (s:=pure (a.eval x)) (by simp[execOp,ho]) (.same r rfl (ak hf hc)) hn
  ·cases hc
 case h_2=>
  split at hc
  case h_2=>cases hc
  rename_i c x z ho;simp only[Bool.and_eq_true]at hc;simp only[bk]at e;split at e
  case h_2=>exact(ae e).elim
  rename_i t ht;obtain⟨rfl,rfl⟩:=af e;have h1:=ak hf hc.1.1;rw[ht]at h1;have hb:=h1.bool;refine az (s:=do pure (if <-asBool (a.eval c) then a.eval x else a.eval z)) (by simp[execOp,ho]) (.same r (v:=if t then a.eval x else a.eval z) (by simp[hb,asBool]) ?_) hn;cases t
  ·exact ak hf hc.2
  ·exact ak hf hc.1.2
 case h_3=>
  split at hc
  case h_2=>cases hc
  rename_i t ho;simp only[Bool.and_eq_true]at hc;exact az (s:=Instr.alloc t true (.tuple #[])) (by simp[execOp,ho]) (ou r hc.1 hc.2 e) hn
 case h_4=>
  split at hc
  case h_2=>cases hc
  rename_i t x ho;rw[Bool.and_eq_true]at hc;exact az (s:=Instr.box t (a.eval x)) (by simp[execOp,ho]) (tV r hc.1 (ak hf hc.2) e) hn
 case h_5=>
  split at hc
  case h_2=>cases hc
  rename_i t ps ho;simp only[Bool.and_eq_true]at hc;obtain⟨hz,hc⟩:=hc;split at hc
  case h_2=>cases hc
  rename_i pl iP;exact az (s:=Instr.build t (ps.map fun(i,x)=>(i,a.eval x))) (by simp[execOp,ho]) (qq r hf hz iP hc e) hn
 case h_6 e0 z n' qs=>
  split at hc
  case h_2=>cases hc
  rename_i t n ps ho;simp only[Bool.and_eq_true,beq_iff_eq]at hc;obtain⟨⟨rfl,hb⟩,hq⟩:=hc;obtain⟨hl,hp⟩:=lE hf hq;refine az (s:=Instr.buildSlice t n (ps.toList.map λp=>(p.1,a.eval p.2)).toArray) (by
   have:(ps.map fun(p:Nat×Operand)=>(p.1,a.eval p.2))=(ps.toList.map λp=>(p.1,a.eval p.2)).toArray:=by apply Array.ext';simp
   simp only[execOp,ho];rw[<-this]) (tY (slot:=slot) r hb hl hp ?_) hn
  rw[M.lu];exact e
 case h_7=>
  split at hc
  case h_2=>cases hc
  rename_i t x ho;simp only[Bool.and_eq_true]at hc;exact az (s:=Instr.loadAt t (a.eval x)) (by simp[execOp,ho]) (sb r hc.1 (ak hf hc.2) e) hn
 case h_8=>
  split at hc
  case h_2=>cases hc
  rename_i t x z ho;simp only[Bool.and_eq_true]at hc;obtain⟨g',aY,rfl,hh,r',m⟩:=qk r hc.1.1 (ak hf hc.1.2) (ak hf hc.2) e;unfold Oper.wp;have hx:(execOp a.eval o).run P g.w = .ok .skip g'.w:=by simp[execOp,ho,aY]
  rw[hx];exact hn g' undef hh r' m (.aR rfl λj v c h=>by simp at h)
 case h_9=>
  split at hc
  case h_2=>cases hc
  rename_i t x f ho;simp only[Bool.and_eq_true]at hc;exact az (s:=Instr.fieldAt t (a.eval x) f) (by simp[execOp,ho]) (sc r hc.1 (ak hf hc.2) e) hn
 case h_10=>
  split at hc
  case h_2=>cases hc
  rename_i t x f ho;simp only[Bool.and_eq_true]at hc;exact az (s:=Instr.field t (a.eval x) f) (by simp[execOp,ho]) (tM r hc.1 (ak hf hc.2) e) hn
 case h_11=>
  split at hc
  case h_2=>cases hc
  rename_i t x z ho;simp only[Bool.and_eq_true]at hc;exact az (s:=Instr.indexAt t (a.eval x) (a.eval z)) (by simp[execOp,ho]) (se r hc.1.1 (ak hf hc.1.2) (ak hf hc.2) e) hn
 case h_12=>
  split at hc
  case h_2=>cases hc
  rename_i t x z ho;simp only[Bool.and_eq_true]at hc;exact az (s:=Instr.indexAt t (a.eval x) (a.eval z)) (by simp[execOp,ho]) (tL r hc.1.1 (ak hf hc.1.2) (ak hf hc.2) e) hn
 case h_13=>
  split at hc
  case h_2=>cases hc
  rename_i t x z ho;simp only[Bool.and_eq_true]at hc;exact az (s:=Instr.index t (a.eval x) (a.eval z)) (by simp[execOp,ho]) (sg r hc.1.1 (ak hf hc.1.2) (ak hf hc.2) e) hn
 case h_14=>
  split at hc
  case h_2=>cases hc
  rename_i t x z ho;simp only[Bool.and_eq_true]at hc;exact az (s:=Instr.index t (a.eval x) (a.eval z)) (by simp[execOp,ho]) (sh r (dX hc.1.1) (ak hf hc.1.2) (ak hf hc.2) e) hn
 case h_15 bo q x' y'=>
  split at hc
  case h_2=>cases hc
  rename_i b t x z yt ho;simp only[Bool.and_eq_true,beq_iff_eq]at hc;obtain⟨⟨⟨rfl,hq⟩,hx⟩,hz⟩:=hc;exact az (s:=do eqGuard b t x z (a.eval x) (a.eval z);binOp b t (a.eval x) (a.eval z)) (by simp[execOp,ho]) (Bo r hq (ak hf hx) (ak hf hz) e) hn
 case h_16 neg qs x' y'=>
  split at hc
  case h_2=>cases hc
  rename_i b t x z yt ho;simp only[Bool.and_eq_true,beq_iff_eq]at hc;obtain⟨⟨⟨rfl,hq⟩,hx⟩,hz⟩:=hc;simp only[bk]at e;split at e
  case h_2=>exact(ae e).elim
  rename_i xs ys CC oC;obtain⟨w',hb,e2⟩:=M.lift_bind e;obtain⟨rfl,rfl⟩:=af e2;have h1:=ak hf hx;have h2:=ak hf hz;rw[CC]at h1;rw[oC]at h2;exact az (s:=do eqGuard (if neg then .neq else .eql) t x z (a.eval x) (a.eval z);binOp (if neg then .neq else .eql) t (a.eval x) (a.eval z)) (by simp[execOp,ho]) (CY r hq neg h1 h2 hb) hn
 case h_17 uo x'=>
  split at hc
  case h_2=>cases hc
  rename_i u t x ho;simp only[Bool.and_eq_true,beq_iff_eq]at hc;obtain⟨rfl,hx⟩:=hc;obtain⟨w',hb,e2⟩:=M.lift_bind e;obtain⟨rfl,rfl⟩:=af e2;exact az (s:=Op.unary u (a.eval x)) (by simp[execOp,ho]) (wV r (ak hf hx) hb) hn
 case h_18=>
  split at hc
  case h_2=>cases hc
  rename_i s d x ho;simp only[Bool.and_eq_true]at hc;obtain⟨n,h1,e1,e2⟩:=ag e;have hh:=(dC e1).1;subst hh;obtain⟨rfl,rfl⟩:=af e2;exact az (s:=convert s d (a.eval x)) (by simp[execOp,ho]) (tQ r hc.1 (ak hf hc.2) e1) hn
 case h_19=>
  split at hc
  case h_2=>cases hc
  rename_i s d x ho;simp only[Bool.and_eq_true]at hc;simp only[bk]at e;split at e
  case h_2=>exact(ae e).elim
  rename_i t ht;obtain⟨rfl,rfl⟩:=af e;have h1:=ak hf hc.2;rw[ht]at h1;exact az (s:=convert s d (a.eval x)) (by simp[execOp,ho]) (tR r (dX hc.1.1) (dX hc.1.2) h1) hn
 case h_20=>
  split at hc
  case h_2=>cases hc
  rename_i t x lo hi ho;simp only[Bool.and_eq_true]at hc;exact az (s:=Instr.sliceAt t (a.eval x) (lo.map a.eval) (hi.map a.eval) none) (by simp[execOp,ho]) (tS r hc.1.1.1 (ak hf hc.1.1.2) (eV hf hc.1.2) (eV hf hc.2) e) hn
 case h_21=>
  split at hc
  case h_2=>cases hc
  rename_i t x lo hi ho;simp only[Bool.and_eq_true]at hc;exact az (s:=Instr.sliceAt t (a.eval x) (lo.map a.eval) (hi.map a.eval) none) (by simp[execOp,ho]) (sj r (dX hc.1.1.1) (ak hf hc.1.1.2) (eV hf hc.1.2) (eV hf hc.2) e) hn
 case h_22=>
  split at hc
  case h_2=>cases hc
  rename_i t x lo hi mx ho;simp only[Bool.and_eq_true]at hc;obtain⟨⟨⟨⟨h1,h2⟩,h3⟩,h4⟩,h5⟩:=hc;obtain⟨k1,CD⟩:=o9 (a:=a) h4;obtain⟨k2,CE⟩:=o9 (a:=a) h5;have CF:lo.map a.eval=none\/∃k3,lo.map a.eval=some (.int k3 0):=by
   cases lo with
   |none=>exact .inl rfl
   |some l=>
    obtain⟨k3,CG⟩:=o9 (a:=a) h3;exact .inr ⟨k3,by simp[CG]⟩
  exact az (s:=Instr.sliceAt t (a.eval x) (lo.map a.eval) (some (.int k1 0)) (some (.int k2 0))) (by simp[execOp,ho,CD,CE]) (tT r h1 CF (ak hf h2) e) hn
 case h_23=>
  split at hc
  case h_2=>cases hc
  rename_i t x lo hi ho;simp only[Bool.and_eq_true]at hc;exact az (s:=Instr.sliceAt t (a.eval x) (lo.map a.eval) (hi.map a.eval) none) (by simp[execOp,ho]) (CS r hc.1.1.1 (ak hf hc.1.1.2) (eV hf hc.1.2) (eV hf hc.2) e) hn
 case h_24=>
  split at hc
  case h_2=>cases hc
  rename_i args cz ho;split at hc
  case h_2=>cases hc
  rename_i x t hx ht;obtain rfl:args=#[x]:=Array.ext' hx;obtain rfl:cz=#[t]:=Array.ext' ht;simp only[Bool.and_eq_true]at hc;exact az (s:=Builtin.clear_ #[t] o.type #[a.eval x]) (by simp[execOp,ho,resolve,invoke,builtin]) (ub r hc.1 (ak hf hc.2) e) hn
 case h_25=>
  split at hc
  case h_2=>cases hc
  rename_i args cz ho;split at hc
  case h_2=>cases hc
  rename_i x t hx ht;obtain rfl:args=#[x]:=Array.ext' hx;obtain rfl:cz=#[t]:=Array.ext' ht;simp only[Bool.and_eq_true]at hc;exact az (s:=Builtin.len_ #[t] o.type #[a.eval x]) (by simp[execOp,ho,resolve,invoke,builtin]) (tU r hc.1 (ak hf hc.2) e) hn
 case h_26=>
  split at hc
  case h_2=>cases hc
  rename_i args cz ho;split at hc
  case h_2=>cases hc
  rename_i x z t u hx ht;obtain rfl:args=#[x,z]:=Array.ext' hx;obtain rfl:cz=#[t,u]:=Array.ext' ht;simp only[Bool.and_eq_true]at hc;exact az (s:=Builtin.append_ #[t,u] o.type #[a.eval x,a.eval z]) (by simp[execOp,ho,resolve,invoke,builtin]) (ua r hc.1.1.1 (λhb=>by
   have:=hc.1.1.2;rw[hb]at this;simp only[Bool.not_true,Bool.false_or]at this;split at this
   ·rw[beq_iff_eq]at this;rw[<-this];assumption
   ·cases this) (ak hf hc.1.2) (ak hf hc.2) e) hn
 case h_27 x' ys=>
  split at hc
  case h_2=>cases hc
  rename_i args cz ho;have hR:=fZ hf hc;simp only[bk]at e;split at e
  case h_2=>exact(ae e).elim
  rename_i kk n hx;obtain⟨z,hz,e2⟩:=M.lift_bind e;obtain⟨rfl,rfl⟩:=af e2;simp only[List.map_cons]at hR;generalize eS:(args.map a.eval).toList=vs at hR;cases vs with
  |nil=>have:=hR.1;simp at this
  |cons v vs=>
   have h0:=hR.tail.1;rw[hx]at h0;obtain rfl:=h0.int;have aY:=wW P g.w (ys.map (ev fr)) vs n kk z hz hR.tail.2.1 hR.tail.2.2;exact az (s:=Builtin.min_ cz o.type (args.map a.eval)) (by simp[execOp,ho,resolve,invoke,builtin]) (.same r (v:=.int kk z) (by simp only[Builtin.min_,eS];exact aY) mkInt) hn
 case h_28 x' ys=>
  split at hc
  case h_2=>cases hc
  rename_i args cz ho;have hR:=fZ hf hc;simp only[bk]at e;split at e
  case h_2=>exact(ae e).elim
  rename_i kk n hx;obtain⟨z,hz,e2⟩:=M.lift_bind e;obtain⟨rfl,rfl⟩:=af e2;simp only[List.map_cons]at hR;generalize eS:(args.map a.eval).toList=vs at hR;cases vs with
  |nil=>have:=hR.1;simp at this
  |cons v vs=>
   have h0:=hR.tail.1;rw[hx]at h0;obtain rfl:=h0.int;have aY:=wX P g.w (ys.map (ev fr)) vs n kk z hz hR.tail.2.1 hR.tail.2.2;exact az (s:=Builtin.max_ cz o.type (args.map a.eval)) (by simp[execOp,ho,resolve,invoke,builtin]) (.same r (v:=.int kk z) (by simp only[Builtin.max_,eS];exact aY) mkInt) hn
 case h_29 x' i'=>
  split at hc
  case h_2=>cases hc
  rename_i x i ho;simp only[Bool.and_eq_true,beq_iff_eq]at hc;obtain⟨rfl,hx⟩:=hc;simp only[bk]at e;split at e
  case h_2=>exact(ae e).elim
  rename_i vs eS;obtain⟨hy,rfl⟩:=dy e;have h1:=ak hf hx;rw[eS]at h1;obtain⟨us,CH,cZ,gp⟩:∃us,a.eval x = .tuple us/\us.size=vs.length/\∀(j:Nat) (v:Value) (c:AV),us[j]?=some v->vs[j]?=some c->RA ν g v c:=by
   generalize a.eval x=vv at h1;cases h1 with | aR h1 h2=>exact⟨_,rfl,h1,h2⟩
  have aT:=ay hy;have hu:us[i]?=some us[i]:=Array.getElem?_eq_getElem (by omega);exact az (s:=Instr.extract (a.eval x) i) (by simp[execOp,ho]) (.same r (v:=us[i]) (by simp[CH,Instr.extract,hu]) (gp i _ _ hu hy)) hn
 case h_30=>
  split at hc
  case h_2=>cases hc
  rename_i x ho;have h1:=ak hf hc;simp only[bk]at e;split at e
  ·rename_i id ai i j hx;rw[hx]at h1;obtain⟨ob,hg,e2⟩:=M.aM e;obtain⟨cc,e4⟩:=M.aj e2;obtain⟨rfl,rfl⟩:=af e4;have hr:aG g (a.eval x) id ai i j:=by
    generalize a.eval x=vv at h1;cases h1 with | ref _ hr=>exact hr
   obtain⟨b,off,hv, -⟩:=hr.move hg cc 0;refine az (s:=pure (a.eval x)) ?_ (.same r rfl h1) hn;simp[execOp,ho,hv]
  ·rename_i cs hx;rw[hx]at h1;obtain⟨rfl,rfl⟩:=af e;obtain⟨b,off,hv⟩:=h1.ptr;refine az (s:=pure (a.eval x)) ?_ (.same r rfl h1) hn;simp[execOp,ho,hv]
  ·rename_i f cs hx;rw[hx]at h1;obtain⟨rfl,rfl⟩:=af e;have hv:∃ax,a.eval x = .func (.func (ν f)) #[] ax:=by
    generalize a.eval x=v at h1;cases h1 with | iv h=>cases h with | fn f ax cs h1 h2=>exact⟨ax,rfl⟩
   obtain⟨ax,hv⟩:=hv;refine az (s:=pure (a.eval x)) ?_ (.same r rfl h1) hn;simp[execOp,ho,hv]
  ·rename_i f fs cs hx;rw[hx]at h1;obtain⟨rfl,rfl⟩:=af e;have hv:∃first ax,a.eval x = .func (.func (ν f)) first ax:=by
    generalize a.eval x=v at h1;cases h1 with | bp h1 h2=>exact⟨_,_,rfl⟩
   obtain⟨first,ax,hv⟩:=hv;refine az (s:=pure (a.eval x)) ?_ (.same r rfl h1) hn;simp[execOp,ho,hv]
  ·exact(ae e).elim
 case h_31 f' FO rl=>
  split at hc
  case h_2=>cases hc
  rename_i f first ax ho
  simp only[Bool.and_eq_true,beq_iff_eq]at hc;obtain⟨⟨rfl,jQ⟩,eM⟩:=hc;obtain⟨rfl,rfl⟩:=af e;have hR:=fZ hf eM;have hS:=fZ hf jQ;refine az (s:=Instr.makeFunc (.func (ν f')) (first.map a.eval) (ax.map a.eval)) (by simp[execOp,ho]) (.same r (v:=.func (.func (ν f')) (first.map a.eval) (ax.map a.eval)) (by simp[Instr.makeFunc]) ?_) hn;exact .bp (by have:=hS.1;simpa using this) (λj v c h1 h2=>hS.2 j v c (by simpa using h1) h2) (by have:=hR.1;simpa using this) λj v c h1 h2=>hR.2 j v c (by simpa using h1) h2
 case h_32 mode f' kx=>
  split at hc
  case h_2=>cases hc
  rename_i fo aS cz ho;simp only[Bool.and_eq_true]at hc;have nY:=ak hf hc.1;have hR:=fZ hf hc.2;simp only[bk]at e;split at e
  ·exact iI ho (qu hs r e nY hR) hn
  ·exact iI ho (oH hs r e nY hR) hn
 case h_33=>
  exact(ae e).elim
 case h_34 x'=>
  split at hc
  case h_2=>cases hc
  rename_i s d x ho;simp only[Bool.and_eq_true]at hc;exact az (s:=convert s d (a.eval x)) (by simp[execOp,ho]) (ui r hc.1.1 hc.1.2 (ak hf hc.2) e) hn
 case h_35=>
  split at hc
  case h_2=>cases hc
  rename_i t ho;exact az (s:=Instr.makeMap t none) (by simp[execOp,ho]) (ug r e) hn
 case h_36 ok agg qs z m' k'=>
  split at hc
  case h_2=>cases hc
  rename_i t m kk o ho;simp only[Bool.and_eq_true,beq_iff_eq]at hc;obtain⟨⟨⟨⟨rfl,h1⟩,h2⟩,h3⟩,h4⟩:=hc;exact az (s:=Instr.lookup t (a.eval m) (a.eval kk) o) (by simp[execOp,ho]) (sq r h1 h2 (ak hf h3) (ak hf h4) e) hn
 case h_37 qs m' k' x'=>
  have key:∀{t:TypeId} {m kk x:Operand},(o.op = .mapUpdate t m kk x\/o.op = .insert t m kk x)->(iS P t qs&&aF ν m m'&&aF ν kk k'&&aF ν x x')=true->o.wp P a g.w next Q:=by
   intro t m kk x ho hc;simp only[Bool.and_eq_true]at hc;obtain⟨g',aY,rfl,hh,r',mm⟩:=su r hc.1.1.1 (ak hf hc.1.1.2) (ak hf hc.1.2) (ak hf hc.2) e;unfold Oper.wp;have hx:(execOp a.eval o).run P g.w = .ok .skip g'.w:=by rcases ho with ho | ho<;>simp[execOp,ho,aY]
   rw[hx];exact hn g' undef hh r' mm (.aR rfl λj v c h=>by simp at h)
  split at hc
  ·rename_i ho;exact key (.inl ho) hc
  ·rename_i ho;exact key (.inr ho) hc
  ·cases hc
 case h_38 qs m' k'=>
  split at hc
  case h_2=>cases hc
  rename_i args cz ho;split at hc
  case h_2=>cases hc
  rename_i x z t u hx ht;obtain rfl:args=#[x,z]:=Array.ext' hx;obtain rfl:cz=#[t,u]:=Array.ext' ht;simp only[Bool.and_eq_true]at hc;exact az (s:=Builtin.delete_ #[t,u] o.type #[a.eval x,a.eval z]) (by simp[execOp,ho,resolve,invoke,builtin]) (sw r hc.1.1 (ak hf hc.1.2) (ak hf hc.2) e) hn
 case h_39 m'=>
  split at hc
  case h_2=>cases hc
  rename_i args cz ho;split at hc
  case h_2=>cases hc
  rename_i x t hx ht;obtain rfl:args=#[x]:=Array.ext' hx;obtain rfl:cz=#[t]:=Array.ext' ht;simp only[Bool.and_eq_true]at hc;exact az (s:=Builtin.len_ #[t] o.type #[a.eval x]) (by simp[execOp,ho,resolve,invoke,builtin]) (sr r hc.1 (ak hf hc.2) e) hn
 case h_40=>
  exact(ae e).elim
 case h_41=>
  split at hc
  case h_2=>cases hc
  rename_i args cz ho;split at hc
  case h_2=>cases hc
  rename_i x t hx ht;obtain rfl:args=#[x]:=Array.ext' hx;obtain rfl:cz=#[t]:=Array.ext' ht;simp only[Bool.and_eq_true]at hc;obtain⟨hc,hq⟩:=hc;split at hc
  case h_2=>cases hc
  rename_i el hu;obtain⟨i,hi⟩:=Option.isSome_iff_exists.1 hc;exact az (s:=Builtin.cap_ #[t] o.type #[a.eval x]) (by simp[execOp,ho,resolve,invoke,builtin]) (Bq (e:=i.size) r (by simp[sliceB,hu,hi]) (ak hf hq) e) hn
 case h_42=>
  split at hc
  case h_2=>cases hc
  rename_i args cz ho;split at hc
  case h_2=>cases hc
  rename_i x z t u hx ht;obtain rfl:args=#[x,z]:=Array.ext' hx;obtain rfl:cz=#[t,u]:=Array.ext' ht;simp only[Bool.and_eq_true]at hc;obtain⟨kd,hd⟩:=xl hc.1.1.2;exact az (s:=Builtin.append_ #[t,u] o.type #[a.eval x,a.eval z]) (by simp[execOp,ho,resolve,invoke,builtin]) (Br r hc.1.1.1 hd (ak hf hc.1.2) (ak hf hc.2) e) hn
 case h_43=>
  split at hc
  case h_2=>cases hc
  rename_i f args cz ho;split at hc
  case h_2=>cases hc
  rename_i x hx;obtain rfl:args=#[x]:=Array.ext' hx;simp only[Bool.and_eq_true]at hc;exact nj ho (by simpa using Ac r hc.1 (ak hf hc.2) e) hn
 case h_44=>
  split at hc
  case h_2=>cases hc
  rename_i f args cz ho;split at hc
  case h_2=>cases hc
  rename_i x z hx;obtain rfl:args=#[x,z]:=Array.ext' hx;simp only[Bool.and_eq_true,Bool.or_eq_true]at hc;rcases hc.1.1 with(h | h) | h
  all_goals exact nj ho (by simpa using y4 r h (ak hf hc.1.2) (ak hf hc.2) e) hn
 case h_45=>
  split at hc
  case h_2=>cases hc
  rename_i f args cz ho;split at hc
  case h_2=>cases hc
  rename_i x z hx;obtain rfl:args=#[x,z]:=Array.ext' hx;simp only[Bool.and_eq_true]at hc;exact nj ho (by simpa using Bu r hc.1.1 (ak hf hc.1.2) (ak hf hc.2) e) hn
 case h_46=>
  split at hc
  case h_2=>cases hc
  rename_i f args cz ho;split at hc
  case h_2=>cases hc
  rename_i x u z hx;obtain rfl:args=#[x,u,z]:=Array.ext' hx;simp only[Bool.and_eq_true]at hc;exact nj ho (by simpa using Bv r hc.1.1.1 (ak hf hc.1.1.2) (ak hf hc.1.2) (ak hf hc.2) e) hn
 case h_47=>
  split at hc
  case h_2=>cases hc
  rename_i t n ps ho;simp only[Bool.and_eq_true,beq_iff_eq,Array.isEmpty_iff]at hc;obtain⟨⟨rfl,rfl⟩,ht⟩:=hc;obtain⟨rfl,rfl⟩:=af e;exact az (s:=Instr.buildSlice t 0 #[]) (by simp[execOp,ho]) (CT r ht) hn
 case h_48=>
  split at hc
  case h_2=>cases hc
  rename_i s d x ho;simp only[Bool.and_eq_true]at hc;exact az (s:=convert s d (a.eval x)) (by simp[execOp,ho]) (C0 r hc.1 (ak hf hc.2) e) hn
 case h_49=>
  split at hc
  case h_2=>cases hc
  rename_i f args cz ho;split at hc
  case h_2=>cases hc
  rename_i x hx;obtain rfl:args=#[x]:=Array.ext' hx;simp only[Bool.and_eq_true]at hc;obtain⟨rfl,rfl⟩:=af e;exact nj ho (by simpa using Af r hc.1 (ak hf hc.2)) hn
 case h_50=>
  split at hc
  case h_2=>cases hc
  rename_i s d x ho;simp only[Bool.and_eq_true]at hc;exact az (s:=convert s d (a.eval x)) (by simp[execOp,ho]) (C1 r hc.1 (ak hf hc.2) e) hn
 case h_51=>
  split at hc
  case h_2=>cases hc
  rename_i args cz ho;split at hc
  case h_2=>cases hc
  rename_i x hx;obtain rfl:args=#[x]:=Array.ext' hx;exact az (s:=Builtin.unsafeSliceData_ cz o.type #[a.eval x]) (by simp[execOp,ho,resolve,invoke,builtin]) (C2 r (ak hf hc) e) hn
 case h_52=>
  split at hc
  case h_2=>cases hc
  rename_i args cz ho;split at hc
  case h_2=>cases hc
  rename_i p n pt it hx ht;obtain rfl:args=#[p,n]:=Array.ext' hx;obtain rfl:cz=#[pt,it]:=Array.ext' ht;simp only[Bool.and_eq_true]at hc;exact az (s:=Builtin.unsafeString_ #[pt,it] o.type #[a.eval p,a.eval n]) (by simp[execOp,ho,resolve,invoke,builtin]) (Bw r hc.1.1 (ak hf hc.1.2) (ak hf hc.2) e) hn
 case h_53=>
  split at hc
  case h_2=>cases hc
  rename_i t l c ho;simp only[Bool.and_eq_true]at hc;have h1:=ak hf hc.1.2;have h2:=ak hf hc.2;have xe:a.eval c=a.eval l:=by
   obtain⟨m,h3,e1,e2⟩:=ag e;obtain⟨-,kk,hz⟩:=dC e1;rw[hz]at h1 h2;rw[h1.int,h2.int]
  exact az (s:=Instr.makeSlice t (a.eval l) (a.eval l)) (by simp[execOp,ho,xe]) (CV r hc.1.1 h1 e) hn
end
end aB
namespace aB
open Go ao
def wE:Nat->AV
 |0=>.iv (.int .i64 0)
 |1=>.iv (.int .i64 1)
 |2=>.iv (.bool false)
 |3=>.iv .bc
 |4=>.iv (.bool true)
 |5=>.iv (.aq 1)
 |6=>.iv (.aq 3)
 |7=>.iv (.int .i64 2)
 |8=>.iv (.int .i64 4)
 |9=>.iv (.int .i64 5)
 |10=>.iv (.aq 18)
 |11=>.iv (.int .i64 7)
 |12=>.iv (.aq 16)
 |13=>.iv (.int .u8 0)
 |14=>.iv (.str ⟨#[]⟩)
 |15=>.iv (.int .i64 (-1))
 |16=>.iv (.int .i64 3)
 |17=>.iv (.int .i64 6)
 |18=>.iv (.int .i64 8)
 |19=>.iv (.int .u64 128)
 |20=>.iv (.int .i64 16)
 |21=>.iv (.int .u64 0)
 |22=>.iv (.int .u8 1)
 |23=>.iv (.int .u8 128)
 |24=>.cG 1
 |25=>.iv (.aq 4)
 |26=>.iv (.int .i64 10)
 |27=>.iv (.int .i64 1099511627776)
 |28=>.iv (.int .i64 9)
 |29=>.iv (.int .u64 18446744073709551615)
 |30=>.iv (.int .u8 2)
 |31=>.cG 0
 |32=>.iv (.fn 250 [])
 |33=>.iv (.fn 396 [])
 |34=>.iv (.int .i64 12)
 |35=>.iv (.int .i64 15)
 |36=>.iv (.int .i64 40)
 |37=>.iv (.int .i64 46)
 |38=>.iv (.int .u64 1099511627776)
 |39=>.iv (.int .u64 144115188075855871)
 |_=>.iv (.int .u8 3)
def bd (t:List (Nat×Nat)):bj aH:=br (cH t) λx=>if x=0 then bV (λk=>.c (wE k)) (cH BV) else bV .t (br (if x<7 then wB x else zA) AG)
def wF:Nat->List AV
 |0=>[.iv (.int .i64 0),.iv (.aq 16),.iv (.int .u64 0)]
 |1=>[.iv (.int .i64 0)]
 |2=>[.iv (.int .i64 0),.iv (.int .i64 0)]
 |3=>[.iv (.bool false),.iv (.aq 3),.iv (.aq 1),.iv (.int .i64 0),.iv (.int .i64 0),.iv (.int .i64 0),.iv (.int .i64 0),.iv (.str ⟨#[]⟩),.iv (.int .i64 0),.iv (.int .i64 0),.iv (.str ⟨#[]⟩),.iv (.int .i64 0),.iv (.int .i64 0),.iv (.str ⟨#[]⟩),.iv (.int .i64 0),.iv (.int .i64 0),.iv (.str ⟨#[]⟩)]
 |4=>[.iv (.int .i64 0),.iv (.aq 16),.iv (.int .u64 0),.iv (.aq 1)]
 |5=>[.iv (.int .i64 0),.iv (.int .i64 0),.iv (.int .i64 0),.iv (.int .i64 0),.iv (.int .i64 0),.iv (.int .i64 0),.iv (.int .i64 0),.iv (.bool false),.iv (.aq 2),.iv (.bool false),.iv (.aq 1),.iv (.aq 7),.iv (.int .i64 0),.iv (.int .i64 0),.iv (.str ⟨#[]⟩),.iv (.int .i64 0),.iv (.int .i64 0),.iv (.str ⟨#[]⟩),.iv (.int .i64 0),.iv (.int .i64 0),.iv (.str ⟨#[]⟩),.iv (.int .i64 0),.iv (.int .i64 0),.iv (.str ⟨#[]⟩)]
 |6=>[.iv (.bool false),.iv (.aq 2),.iv (.bool false),.iv (.aq 1),.iv (.bool false),.iv (.aq 2),.iv (.bool false),.iv (.aq 1),.iv (.bool false),.iv (.aq 2),.iv (.bool false),.iv (.aq 1),.iv (.bool false),.iv (.aq 2),.iv (.bool false),.iv (.aq 1)]
 |7=>[.iv (.bool false)]
 |8=>[.iv (.int .i64 0),.iv (.bool false),.iv (.aq 3),.iv (.aq 1),.iv (.int .i64 0),.iv (.int .i64 0),.iv (.int .i64 0),.iv (.int .i64 0),.iv (.str ⟨#[]⟩),.iv (.int .i64 0),.iv (.int .i64 0),.iv (.str ⟨#[]⟩),.iv (.int .i64 0),.iv (.int .i64 0),.iv (.str ⟨#[]⟩),.iv (.int .i64 0),.iv (.int .i64 0),.iv (.str ⟨#[]⟩)]
 |9=>[.iv .bc]
 |10=>[.iv (.bool false),.iv (.aq 2),.iv (.bool false),.iv (.aq 1)]
 |11=>[.iv (.int .i64 0),.iv (.int .i64 0),.iv (.int .i64 0),.iv (.int .i64 0),.iv (.str ⟨#[]⟩),.iv (.int .i64 0),.iv (.int .i64 0),.iv (.str ⟨#[]⟩),.iv (.int .i64 0),.iv (.int .i64 0),.iv (.str ⟨#[]⟩),.iv (.int .i64 0),.iv (.int .i64 0),.iv (.str ⟨#[]⟩)]
 |12=>[.iv (.int .i64 0),.iv (.int .i64 0),.iv (.int .i64 0),.iv (.int .i64 0)]
 |13=>[.iv (.int .i64 0),.iv (.int .i64 0),.iv (.int .i64 0)]
 |14=>[.iv (.int .i64 0),.iv (.int .i64 0),.iv (.str ⟨#[]⟩),.iv (.int .i64 0),.iv (.int .i64 0),.iv (.str ⟨#[]⟩),.iv (.int .i64 0),.iv (.int .i64 0),.iv (.str ⟨#[]⟩),.iv (.int .i64 0),.iv (.int .i64 0),.iv (.str ⟨#[]⟩)]
 |15=>[.iv (.aq 1),.iv (.aq 1),.iv (.int .i64 0),.iv (.int .u64 0)]
 |16=>[.iv (.aq 1)]
 |17=>[.iv (.aq 3),.iv (.aq 1)]
 |18=>[.iv (.aq 3)]
 |19=>[.iv .bc,.iv (.aq 1)]
 |20=>[.iv (.int .i64 0),.iv (.int .i64 0),.iv (.bool false),.iv (.aq 2),.iv (.bool false),.iv (.aq 1),.iv (.aq 7)]
 |21=>[.iv (.int .i64 0),.iv (.int .i64 0),.iv (.str ⟨#[]⟩)]
 |22=>[.iv (.str ⟨#[]⟩)]
 |23=>[.iv (.int .i64 0),.iv (.aq 3),.cG 2,.iv (.aq 1)]
 |24=>[.iv (.int .i64 0),.cG 2,.iv (.int .i64 0),.iv (.int .i64 0)]
 |25=>[.iv (.int .u64 0),.iv (.aq 1),.iv (.aq 1),.cG 2,.cG 2,.cG 2,.cG 2,.iv (.int .i64 0),.iv (.int .i64 0)]
 |26=>[.iv (.int .u8 0),.iv (.int .u8 0),.iv (.int .u8 0),.iv (.int .u8 0),.iv (.int .u8 0),.iv (.int .u8 0),.iv (.int .u8 0),.iv (.int .u8 0),.iv (.int .u8 0),.iv (.int .u8 0)]
 |27=>[.iv (.int .u8 0)]
 |28=>[.iv (.aq 1),.iv (.aq 1),.iv .bc,.iv (.int .i64 0),.iv (.int .i64 0),.iv (.aq 3),.iv (.aq 4)]
 |29=>[.iv (.aq 16)]
 |30=>[.iv (.aq 2),.cG 2,.iv (.int .i64 0),.iv (.int .i64 0)]
 |31=>[.iv (.str ⟨#[]⟩),.iv (.int .i64 0)]
 |32=>[.iv .bc,.iv (.int .u64 0),.cG 2,.iv (.aq 4),.iv (.int .i64 0)]
 |_=>[.cG 0]
def ns:bj (List AV):=bV wF (cH BW)
def mA:bj (List aH):=br (cq 6 nr) (jH (bd xM))
def wG:Nat->BinOp
 |0=>.add
 |1=>.eql
 |2=>.lss
 |3=>.gtr
 |4=>.neq
 |5=>.geq
 |6=>.sub
 |7=>.leq
 |8=>.mul
 |9=>.shr
 |10=>.or
 |11=>.and
 |12=>.quo
 |13=>.rem
 |_=>.shl
def zB:bj BinOp:=bV wG (cH xN)
def wH:Nat->UnOp
 |0=>.not
 |_=>.xor
def zC:bj UnOp:=bV wH (cH xO)
def wI:Nat->IntKind
 |0=>.u64
 |1=>.i64
 |2=>.u8
 |_=>.u32
def wJ:bj IntKind:=bV wI (cH xP)
def wK:bj (List (Nat×aH)):=br (cq 6 nr) (jH (bZ .mk (cq 13 mQ) (bd aK)))
def wL:bj (List (Nat×Nat×aH)):=br (cq 6 nr) (jH (bZ .mk (cq 13 mQ) (bZ .mk (cq 13 mQ) (bd aK))))
def sN:bj (Option aH):=br (cH BX) λx=>if x=0 then cS none else bV some (bd aK)
def wM:bj aH:=br (cH xQ) λx=>if x=0 then bV (λf=>.c (.iv (.fn f []))) (qR 512) else bd aK
def wN (d:Nat):Nat->bj jF
 |2=>bV .nU (bd (if d=0 then xR else xS))
 |3=>gx .bin zB cT (bd aK) (bd aK)
 |4=>eG .load gY (cq 18 xT) (bd aK)
 |5=>bZ .eD (cq 13 xU) (bd aK)
 |6=>bZ .nJ wM mA
 |7=>bV .mz (bd aK)
 |8=>bZ .len gY (bd aK)
 |9=>bZ .ext (bd aK) cT
 |10=>eG .store cT (bd aK) (bd aK)
 |11=>eG .pick (bd aK) (bd aK) (bd aK)
 |12=>eG .gX cT (bd aK) (bd aK)
 |13=>eG .call cT wM mA
 |14=>bZ .box cT (bd aK)
 |15=>bZ .build ns wL
 |16=>bZ .alloc cT ns
 |17=>bZ .un zC (bd aK)
 |18=>gx .nV cT ns cT wK
 |19=>gx .app cT gY (bd aK) (bd aK)
 |20=>bZ .qO wJ (bd aK)
 |21=>br gY λa=>br gY λb=>gx (.gT a b) tH ns (bd aK) (bd aK)
 |22=>gx .gU tH (bd aK) (bd aK) (bd aK)
 |23=>gx .eE cT cT (bd aK) (bd aK)
 |24=>eG .oj cT mA mA
 |25=>cS .sZ
 |26=>br gY λa=>gx (.eF a) cT cT (bd aK) (bd aK)
 |27=>gx .oi gY tH (bd aK) (bd aK)
 |29=>bZ .mx (bd aK) mA
 |30=>gx .hU cT (bd aK) sN sN
 |31=>eG .gV tH (bd aK) (bd aK)
 |33=>bZ .fH (bd aK) (bd aK)
 |34=>eG .lN wJ (bd aK) (bd aK)
 |35=>eG .kV cT ns (bd aK)
 |36=>bV .sY (bd aK)
 |37=>bV .tz (bd aK)
 |38=>bV .pY (bd aK)
 |39=>gx .oY cT (bd aK) sN sN
 |40=>eG .fR (bd aK) sN sN
 |41=>bV .pX (bd aK)
 |42=>bV .pZ (bd aK)
 |43=>bZ .lP (bd aK) (bd aK)
 |_=>cS default
def wO (p:Nat):List (Nat×Nat):=match p with
 |0=>xV
 |1=>xW
 |2=>xX
 |3=>xY
 |4=>xZ
 |5=>x4
 |_=>x6
def k6 (dr:Bool):Nat->Nat->Nat->Nat->Option (Nat×Bool)->bj (List au)
 |0,_,_,_,_=>cS []
 |f+1,i,w,p,g=>br (cH (wO p)) λk=>if k=0 then cS [] else if k=1 then br AI (k6 dr f i w p) else
  br (cH (if k=10\/k=22\/k=31\/k=35 then tt else if k=2 then x7 else x8)) λd=>br (AJ d) λe=>
  br (λn s=>wN d k n { s with m:=match g with
   |some q=>[q.1]
   |none=>[] }) λo=>br (AM dr i w e d) λa=>bV (λr=>⟨e,o,g,a⟩::r) (k6 dr f (i+1) (w+w) (AN k d) g)
def fP:Nat->bj IC
 |0=>cS .skip
 |f+1=>br (cH ya) λx=>match x with
  |0=>bZ .seq (fP f) (fP f)
  |1=>br tw λ_=>bZ (.gm false) (k6 false 9999 0 1 0 none) pq
  |2=>cS .ret
  |3=>br (bd x9) λc n s=>(λl=>br (fP f) (λa n s=>bV (.cond c a) (fP f) n { s with l:=l }) n { s with l:=l }) (match c with
   |.t v=>s.l.filter (·!= v)
   |_=>s.l)
  |4=>cS .skip
  |5=>bZ .block (cq 9 qP) (fP f)
  |6=>bV .exit (cq 9 qP)
  |7=>bZ .loop (λn s=>pq n { s with d:=[] }) (fP f)
  |8=>br tw λ_=>bZ (.gm true) (k6 true 9999 0 1 0 none) pq
  |9=>bV .scope (fP f)
  |10=>cS .stop
  |_=>cS .skip
def wP:bj dZ:=br (cH yb) λx=>match x with
 |0=>bV .t (cq 9 qQ)
 |_=>eG .cell (cq 9 qQ) gY cT
def wQ:bj al:=br (cq 5 yc) λn=>br (br (cq 4 yd) (jH wP)) λr=>bV (λb=>⟨n,r,b,none⟩) λm s=>fP 9999 m ⟨n,[],List.range n,[],[]⟩
def ar {x:al} (s:String) (_:tu ((wQ (wA 0 s.toList) ⟨0,[],[],[],[]⟩).1=x):=by
 refine(?f:?P->tu ?P) ?p
 case p=>set_option maxRecDepth 1000000 in conv=>lhs;cbv
 exact λ_=>trivial):al:=x
attribute [simp] ar
theorem Tr.put_comm {α:Type} (x y:α):∀(f n:Nat) (f' m:Nat) (t:Tr α),n<f->m<f'->n≠m->Tr.put f n x (Tr.put f' m y t)=Tr.put f' m y (Tr.put f n x t):=by
 intro f
 induction f with
 |zero=>intro n f' m t h;omega
 |succ f ih=>
  intro n f' m t h h' bF;obtain⟨f',rfl⟩:∃k,f'=k+1:=⟨f' - 1,by omega⟩;cases n with
  |zero=>
   cases m with
   |zero=>exact absurd rfl bF
   |succ m=>cases t<;>by_cases h1:m % 2=0<;>simp[Tr.put,h1]
  |succ n=>
   cases m with
   |zero=>cases t<;>by_cases h1:n % 2=0<;>simp[Tr.put,h1]
   |succ m=>
    by_cases h1:n % 2=0<;>by_cases h2:m % 2=0<;>cases t<;>simp only[Tr.put,h1,h2,if_true,if_false]
    all_goals rw[ih _ _ _ _ (by omega) (by omega) (by omega)]
theorem Bx (h:Hp) {n m:Nat} (x y:Ob) (bF:n≠m):set (set h m y) n x=set (set h n x) m y:=Tr.put_comm x y _ _ _ _ h (Nat.lt_succ_self n) (Nat.lt_succ_self m) bF
def bE (ps:List (Nat×Ob)) (h:Hp):Hp:=ps.foldl (λh p=>set h p.1 p.2) h
theorem fj {ps:List (Nat×Ob)} {n:Nat} (hn:∀p ∈ ps,p.1≠n):∀h:Hp,get (bE ps h) n=get h n:=by
 induction ps with
 |nil=>intro h;rfl
 |cons p ps ih=>
  intro h
  show get (bE ps (set h p.1 p.2)) n=_
  rw[ih (λq hq=>hn q (List.mem_cons_of_mem _ hq)),bO _ _ (hn p (List.mem_cons_self ..))]
theorem v7 {ps:List (Nat×Ob)} {n:Nat} (x:Ob) (hn:∀p ∈ ps,p.1≠n):∀h:Hp,bE ps (set h n x)=set (bE ps h) n x:=by
 induction ps with
 |nil=>intro h;rfl
 |cons p ps ih=>
  intro h
  show bE ps (set (set h n x) p.1 p.2)=set (bE ps (set h p.1 p.2)) n x
  rw[Bx _ _ _ (hn p (List.mem_cons_self ..)),ih λq hq=>hn q (List.mem_cons_of_mem _ hq)]
theorem uZ {ps qs:List (Nat×Ob)} (hd:∀p ∈ ps,∀q ∈ qs,p.1≠q.1):∀h:Hp,bE qs (bE ps h)=bE ps (bE qs h):=by
 induction ps with
 |nil=>intro h;rfl
 |cons p ps ih=>
  intro h
  show bE qs (bE ps (set h p.1 p.2))=bE ps (set (bE qs h) p.1 p.2)
  rw[ih λa ha=>hd a (List.mem_cons_of_mem _ ha),v7 _ λq hq=>(hd p (List.mem_cons_self ..) q hq).symm]
theorem M.frame {α:Type}:∀(m:M α) (h h' h1:Hp) (a:α),m.run h=some (a,h1)->(∀n ∈ (m.bz h).1,aB.get h n=aB.get h' n)->
  ∃ps,h1=bE ps h/\m.run h'=some (a,bE ps h')/\m.bz h'=m.bz h/\∀p ∈ ps,p.1 ∈ (m.bz h).2
 |.ret x,h,h',h1,a,e,_=>by
  simp only[M.run,Option.some.injEq,Prod.mk.injEq]at e;obtain⟨rfl,rfl⟩:=e;exact⟨[],rfl,rfl,rfl,λp hp=>by simp at hp⟩
 |.fail,h,h',h1,a,e,_=>by simp[M.run]at e
 |.get id k,h,h',h1,a,e,hr=>by
  simp only[M.run]at e;simp only[M.bz,List.mem_cons]at hr ⊢;have bt:=hr id (.inl rfl);obtain⟨ps,e1,e2,e3,e4⟩:=M.frame (k (aB.get h id)) h h' h1 a e λn hn=>hr n (.inr hn)
  refine⟨ps,e1,?_,?_,e4⟩
  ·simp only[M.run,<-bt];exact e2
  ·simp only[<-bt];rw[e3]
 |.put id o k,h,h',h1,a,e,hr=>by
  simp only[M.run]at e;simp only[M.bz,List.mem_append,List.mem_singleton]at hr ⊢;obtain⟨ps,e1,e2,e3,e4⟩:=M.frame k (aB.set h id o) (aB.set h' id o) h1 a e λn hn=>by simp[aQ,hr n hn]
  refine⟨(id,o)::ps,e1,e2,by rw[e3],λp hp=>?_⟩;rcases List.mem_cons.1 hp with rfl | hp
  ·exact .inr rfl
  ·exact .inl (e4 p hp)
def On (h:Hp) (n:Nat):Prop:=(get h n).isSome=true
theorem On.set {h:Hp} {n m:Nat} {x:Ob} (hn:On h n):On (set h m x) n:=by
 unfold On at *;rw[aQ];split<;>simp_all
theorem On.same {h:Hp} {n:Nat} {x:Ob}:On (aB.set h n x) n:=by
 show(aB.get (aB.set h n x) n).isSome=true
 rw[an];rfl
theorem M.stay {α:Type}:∀(m:M α) (h h':Hp) (a:α) (n:Nat),m.run h=some (a,h')->On h n->On h' n
 |.ret x,h,h',a,n,e,hn=>by
  simp only[M.run,Option.some.injEq,Prod.mk.injEq]at e;rw[<-e.2];exact hn
 |.fail,h,h',a,n,e,_=>by simp[M.run]at e
 |.get id k,h,h',a,n,e,hn=>M.stay (k (aB.get h id)) h h' a n e hn
 |.put id o k,h,h',a,n,e,hn=>M.stay k (aB.set h id o) h' a n e hn.set
def NR {α:Type} (m:M α):Prop:=∀h a h',m.run h=some (a,h')->∀n ∈ (m.bz h).1,On h' n
theorem NR.ret {α:Type} (a:α):NR (M.ret a):=λh b h' _ n hn=>by simp[M.bz]at hn
theorem NR.fail {α:Type}:NR (M.fail:M α):=λh b h' e=>by simp[M.run]at e
theorem M.fC {α β:Type} (f:α->M β):∀(m:M α) (h h1:Hp) (a:α),m.run h=some (a,h1)->((m.bind f).bz h).1=(m.bz h).1++((f a).bz h1).1
 |.ret x,h,h1,a,e=>by
  simp only[M.run,Option.some.injEq,Prod.mk.injEq]at e;obtain⟨rfl,rfl⟩:=e;simp[M.bind,M.bz]
 |.fail,h,h1,a,e=>by simp[M.run]at e
 |.get id k,h,h1,a,e=>by
  simp only[M.run]at e;simp[M.bind,M.bz,M.fC f (k (aB.get h id)) h h1 a e]
 |.put id o k,h,h1,a,e=>by
  simp only[M.run]at e;simp[M.bind,M.bz,M.fC f k (aB.set h id o) h1 a e]
theorem NR.bind {α β:Type} {m:M α} {f:α->M β} (hm:NR m) (hf:∀a,NR (f a)):NR (m.bind f):=by
 intro h b h' e n hn;obtain⟨a,h1,e1,e2⟩:=ag e;rw[M.fC f m h h1 a e1]at hn;rcases List.mem_append.1 hn with hn | hn
 ·exact M.stay _ _ _ _ _ e2 (hm h a h1 e1 n hn)
 ·exact hf a h1 b h' e2 n hn
theorem NR.look (id:Nat):NR (M.look id):=by
 intro h a h' e n hn;simp only[M.look,M.run]at e;simp only[M.look,M.bz]at hn;cases hg:aB.get h id with
 |none=>rw[hg]at e;simp[M.run]at e
 |some o=>
  rw[hg]at e hn;simp only[M.run,Option.some.injEq,Prod.mk.injEq]at e;simp[M.bz]at hn;rw[<-e.2,hn];unfold On;rw[hg];rfl
theorem NR.ok (b:Bool):NR (M.ok b):=by unfold M.ok;split;exact NR.ret _;exact NR.fail
theorem NR.lift {α:Type} (o:Option α):NR (M.lift o):=by cases o;exact NR.fail;exact NR.ret _
theorem NR.write (id:Nat) (o:Ob):NR (M.write id o):=λh a h' e n hn=>by simp[M.write,M.bz]at hn
theorem NR.new {α:Type} {id:Nat} {o:Ob} {f:Unit->M α} (hf:NR (f ())):NR ((M.fresh id).bind λ_=>(M.write id o).bind f):=by
 intro h b h' e n hn;obtain⟨_,h1,e1,e2⟩:=ag e;obtain⟨_,h2,e3,e4⟩:=ag e2;rw[M.fC _ (M.fresh id) h h1 _ e1]at hn;obtain⟨_,rfl⟩:=M.ct e1;rw[M.fC _ (M.write id o) h1 h2 _ e3]at hn;obtain rfl:=aI e3;rcases List.mem_append.1 hn with hn | hn
 ·simp only[M.fresh,M.bz]at hn;have:n=id:=by
   rcases List.mem_cons.1 hn with h | h
   ·exact h
   ·cases hg:aB.get h1 id<;>rw[hg]at h<;>simp[M.bz]at h
  subst this;exact M.stay _ _ _ _ _ e4 On.same
 ·rcases List.mem_append.1 hn with hn | hn
  ·simp[M.write,M.bz]at hn
  ·exact hf _ b h' e4 n hn
attribute [local simp] NR.ret NR.fail NR.ok NR.lift NR.look NR.write
theorem NR.aJ {α β:Type} {f:α->M β} (hf:∀x,NR (f x)):∀l:List α,NR (M.aJ f l)
 |[]=>NR.ret _
 |x::r=>NR.bind (hf x) λ_=>NR.bind (NR.aJ hf r) λ_=>NR.ret _
theorem NR.sO (a:AV):NR (aB.idx a):=by
 unfold aB.idx
 repeat' first | (simp;done) | apply NR.new | refine NR.bind ?_ λ_=>?_ | split
theorem NR.v8 (a:AV):NR (aB.bU a):=by
 unfold aB.bU
 repeat' first | (simp;done) | apply NR.new | refine NR.bind ?_ λ_=>?_ | split
theorem NR.C4 (agg:Bool) (l:List AV):NR (aB.mk agg l):=by
 unfold aB.mk
 repeat' first | (simp;done) | apply NR.new | refine NR.bind ?_ λ_=>?_ | split
theorem NR.u0 (y:Nat) (o:Option AV):NR (aB.bound y o):=by
 unfold aB.bound
 repeat' first | (simp;done) | apply NR.new | refine NR.bind ?_ λ_=>?_ | split
theorem NR.load_ (agg:Bool) (sz:Nat) (a:AV):NR (aB.load agg sz a):=by
 unfold aB.load
 repeat' first | exact NR.C4 _ _ | (simp;done) | apply NR.new | refine NR.bind ?_ λ_=>?_ | split
theorem NR.store_ (sz:Nat) (a x:AV):NR (aB.store sz a x):=by
 unfold aB.store
 repeat' first | exact NR.v8 _ | (simp;done) | apply NR.new | refine NR.bind ?_ λ_=>?_ | split
theorem NR.EP (off:Nat) (x:AV):NR (aB.eD off x):=by
 unfold aB.eD
 repeat' first | (simp;done) | apply NR.new | refine NR.bind ?_ λ_=>?_ | split
theorem NR.C5 (agg:Bool) (off sz:Nat) (x:AV):NR (aB.fk agg off sz x):=by
 unfold aB.fk
 repeat' first | exact NR.C4 _ _ | (simp;done) | apply NR.new | refine NR.bind ?_ λ_=>?_ | split
theorem NR.ER (len e:Nat) (x i:AV):NR (aB.eE len e x i):=by
 unfold aB.eE
 repeat' first | exact NR.sO _ | (simp;done) | apply NR.new | refine NR.bind ?_ λ_=>?_ | split
theorem NR.GG (e:Nat) (x i:AV):NR (aB.gX e x i):=by
 unfold aB.gX
 repeat' first | exact NR.sO _ | (simp;done) | apply NR.new | refine NR.bind ?_ λ_=>?_ | split
theorem NR.ES (agg:Bool) (len e:Nat) (x i:AV):NR (aB.eF agg len e x i):=by
 unfold aB.eF
 repeat' first | exact NR.sO _ | exact NR.C5 _ _ _ _ | (simp;done) | apply NR.new | refine NR.bind ?_ λ_=>?_ | split
theorem NR.ET (x i:AV):NR (aB.fH x i):=by
 unfold aB.fH
 repeat' first | (simp;done) | apply NR.new | refine NR.bind ?_ λ_=>?_ | split
theorem NR.EU (op:BinOp) (q:Nat) (x y:AV):NR (aB.nL op q x y):=by
 unfold aB.nL
 repeat' first | (simp;done) | apply NR.new | refine NR.bind ?_ λ_=>?_ | split
theorem NR.GH (e:Nat) (x:AV) (lo hi:Option AV):NR (aB.hU e x lo hi):=by
 unfold aB.hU
 repeat' first | exact NR.u0 _ _ | (simp;done) | apply NR.new | refine NR.bind ?_ λ_=>?_ | split
theorem NR.EV (x:AV) (lo hi:Option AV):NR (aB.fR x lo hi):=by
 unfold aB.fR
 repeat' first | exact NR.u0 _ _ | (simp;done) | apply NR.new | refine NR.bind ?_ λ_=>?_ | split
theorem NR.GI (e:Nat) (x:AV):NR (aB.lh e x):=by
 unfold aB.lh
 repeat' first | (simp;done) | apply NR.new | refine NR.bind ?_ λ_=>?_ | split
theorem NR.GJ (n:Nat) (x:AV) (lo hi:Option AV):NR (aB.oY n x lo hi):=by
 unfold aB.oY
 repeat' first | exact NR.u0 _ _ | (simp;done) | apply NR.new | refine NR.bind ?_ λ_=>?_ | split
theorem NR.GK (e:Nat) (z:List AV) (x:AV):NR (aB.kV e z x):=by
 unfold aB.kV
 repeat' first | (simp;done) | apply NR.new | refine NR.bind ?_ λ_=>?_ | split
theorem NR.len_ (str:Bool) (x:AV):NR (aB.len str x):=by
 unfold aB.len
 repeat' first | (simp;done) | apply NR.new | refine NR.bind ?_ λ_=>?_ | split
theorem NR.rJ (e:Nat) (x:AV):NR (aB.elems e x):=by
 unfold aB.elems
 repeat' first | (simp;done) | apply NR.new | refine NR.bind ?_ λ_=>?_ | split
theorem NR.By (e:Nat) (x:AV):NR (aB.lR e x):=by
 unfold aB.lR
 repeat' first | exact NR.rJ _ _ | (simp;done) | apply NR.new | refine NR.bind ?_ λ_=>?_ | split
theorem NR.bE (e slot:Nat) (byte:Bool) (x y:AV):NR (aB.app e slot byte x y):=by
 unfold aB.app
 repeat' first | exact NR.By _ _ | (simp;done) | apply NR.new | refine NR.bind ?_ λ_=>?_ | split
theorem NR.EW (x:AV):NR (aB.nK x):=by
 unfold aB.nK
 repeat' first | (simp;done) | apply NR.new | refine NR.bind ?_ λ_=>?_ | split
theorem NR.EX (e slot:Nat) (z:List AV) (x n:AV):NR (aB.mJ e slot z x n):=by
 unfold aB.mJ
 repeat' first | exact NR.sO _ | (simp;done) | apply NR.new | refine NR.bind ?_ λ_=>?_ | split
theorem NR.GL (e slot:Nat) (z:List AV) (n:AV):NR (aB.te e slot z n):=by
 unfold aB.te
 repeat' first | exact NR.sO _ | (simp;done) | apply NR.new | refine NR.bind ?_ λ_=>?_ | split
theorem NR.nP (m:AV):NR (aB.dj m):=by
 unfold aB.dj
 repeat' first | (simp;done) | apply NR.new | refine NR.bind ?_ λ_=>?_ | split
theorem NR.EY (ok agg:Bool) (qs:List Nat) (z:List AV) (m k:AV):NR (aB.gT ok agg qs z m k):=by
 unfold aB.gT
 repeat' first | exact NR.nP _ | exact NR.C4 _ _ | (simp;done) | apply NR.new | refine NR.bind ?_ λ_=>?_ | split
theorem NR.EZ (qs:List Nat) (m k v:AV):NR (aB.gU qs m k v):=by
 unfold aB.gU
 repeat' first | exact NR.nP _ | (simp;done) | apply NR.new | refine NR.bind ?_ λ_=>?_ | split
theorem NR.E0 (qs:List Nat) (m k:AV):NR (aB.gV qs m k):=by
 unfold aB.gV
 repeat' first | exact NR.nP _ | (simp;done) | apply NR.new | refine NR.bind ?_ λ_=>?_ | split
theorem NR.u4 (k:IntKind) (a:AV):NR (aB.jW k a):=by
 unfold aB.jW
 repeat' first | exact NR.load_ _ _ _ | (simp;done) | apply NR.new | refine NR.bind ?_ λ_=>?_ | split
theorem NR.E1 (k:IntKind) (a d:AV):NR (aB.lN k a d):=by
 unfold aB.lN
 repeat' first | exact NR.u4 _ _ | exact NR.store_ _ _ _ | (simp;done) | apply NR.new | refine NR.bind ?_ λ_=>?_ | split
theorem NR.E2 (k:IntKind) (a o y:AV):NR (aB.mK k a o y):=by
 unfold aB.mK
 repeat' first | exact NR.u4 _ _ | exact NR.store_ _ _ _ | (simp;done) | apply NR.new | refine NR.bind ?_ λ_=>?_ | split
theorem NR.GM (x:AV):NR (aB.pX x):=by
 unfold aB.pX
 repeat' first | (simp;done) | apply NR.new | refine NR.bind ?_ λ_=>?_ | split
theorem NR.GN (x:AV):NR (aB.pY x):=by
 unfold aB.pY
 repeat' first | (simp;done) | apply NR.new | refine NR.bind ?_ λ_=>?_ | split
theorem NR.GO (x:AV):NR (aB.pZ x):=by
 unfold aB.pZ
 repeat' first | (simp;done) | apply NR.new | refine NR.bind ?_ λ_=>?_ | split
theorem NR.E3 (p n:AV):NR (aB.lP p n):=by
 unfold aB.lP
 repeat' first | (simp;done) | apply NR.new | refine NR.bind ?_ λ_=>?_ | split
theorem NR.C6 (w:Bool):∀(n:Nat) (a:AV),NR (fz w n a)
 |0,_=>NR.fail
 |n+1,a=>by
  have ih:=NR.C6 w n;unfold fz
  repeat' first | exact NR.aJ (λ_=>NR.aJ ih _) _ | exact NR.aJ ih _ | (simp;done) | apply NR.new | refine NR.bind ?_ λ_=>?_ | split
theorem NR.C7 (w:Bool) (a:AV):NR (ek w a):=by
 unfold ek
 repeat' first | exact NR.aJ (NR.C6 w 8) _ | exact NR.C6 w 8 _ | (simp;done) | apply NR.new | refine NR.bind ?_ λ_=>?_ | split
theorem NR.C8 (call:bS) (f:AV) (args:List AV):NR (gv call f args):=by
 unfold gv
 repeat' first | exact NR.aJ (NR.C7 false) _ | (simp;done) | apply NR.new | refine NR.bind ?_ λ_=>?_ | split
theorem NR.Bz (call:bS) (f:AV) (args:List AV):NR (gM call f args):=by
 unfold gM
 repeat' first | exact NR.aJ (NR.C7 true) _ | (simp;done) | apply NR.new | refine NR.bind ?_ λ_=>?_ | split
theorem BA (call:bS) (slot:Nat) (ρ:aH->AV) (op:jF):NR (bk call slot ρ op):=by
 cases op<;>simp only[bk]
 all_goals repeat' first | exact NR.load_ _ _ _ | exact NR.store_ _ _ _ | exact NR.EP _ _ | exact NR.C5 _ _ _ _ | exact NR.ER _ _ _ _ | exact NR.GG _ _ _ | exact NR.ES _ _ _ _ _ | exact NR.ET _ _ | exact NR.EU _ _ _ _ | exact NR.GH _ _ _ _ | exact NR.EV _ _ _ | exact NR.GI _ _ | exact NR.GJ _ _ _ _ | exact NR.GK _ _ _ | exact NR.len_ _ _ | exact NR.bE _ _ _ _ _ | exact NR.EW _ | exact NR.EX _ _ _ _ _ | exact NR.GL _ _ _ _ | exact NR.EY _ _ _ _ _ _ | exact NR.EZ _ _ _ _ | exact NR.E0 _ _ _ | exact NR.nP _ | exact NR.u4 _ _ | exact NR.E1 _ _ _ | exact NR.E2 _ _ _ _ | exact NR.GM _ | exact NR.GN _ | exact NR.GO _ | exact NR.E3 _ _ | exact NR.C8 _ _ _ | exact NR.Bz _ _ _ | exact NR.sO _ | exact NR.v8 _ | exact NR.rJ _ _ | (refine NR.aJ (λ_=>?_) _) | (simp;done) | apply NR.new | refine NR.bind ?_ λ_=>?_ | split
theorem wa (fr:Fr) (x:dZ):NR (jG fr x):=by
 cases x with
 |t n=>exact NR.ret _
 |cell n agg sz=>exact NR.load_ _ _ _
theorem y8 (fr:Fr) (xs:List dZ):NR (dk fr xs):=by
 unfold dk;split
 ·exact wa _ _
 ·exact NR.bind (NR.aJ (wa fr) _) λ_=>NR.ret _
theorem M.wrote {α:Type}:∀(m:M α) (h h':Hp) (a:α),m.run h=some (a,h')->∀n ∈ (m.bz h).2,On h' n
 |.ret x,h,h',a,e,n,hn=>by simp[M.bz]at hn
 |.fail,h,h',a,e,n,hn=>by simp[M.bz]at hn
 |.get id k,h,h',a,e,n,hn=>M.wrote (k (aB.get h id)) h h' a e n hn
 |.put id o k,h,h',a,e,n,hn=>by
  simp only[M.bz,List.mem_append,List.mem_singleton]at hn;rcases hn with hn | rfl
  ·exact M.wrote k _ h' a e n hn
  ·exact M.stay k _ h' a _ e On.same
theorem C9 {qs:List (Nat×Ob)} {p:Nat×Ob} (hp:p ∈ qs):∀h:Hp,On (bE qs h) p.1:=by
 induction qs with
 |nil=>simp at hp
 |cons q qs ih=>
  intro h;have stay:∀(l:List (Nat×Ob)) (h:Hp) (n:Nat),On h n->On (bE l h) n:=by
   intro l
   induction l with
   |nil=>intro h n hn;exact hn
   |cons a l ih=>intro h n hn;exact ih _ n hn.set
  rcases List.mem_cons.1 hp with rfl | hp
  ·exact stay qs _ _ On.same
  ·exact ih hp _
def gq (qs:List (Nat×Ob)) (h:Hp):Prop:=∀p ∈ qs,get h p.1=none
theorem gq.not {qs:List (Nat×Ob)} {h:Hp} {n:Nat} (hq:gq qs h) (hn:On h n):∀p ∈ qs,p.1≠n:=by
 intro p hp e;have:=hq p hp;unfold On at hn;rw[<-e,this]at hn;cases hn
theorem gq.back {qs:List (Nat×Ob)} {h h':Hp} (hq:gq qs h') (hs:∀n,On h n->On h' n):gq qs h:=by
 intro p hp;cases hg:get h p.1 with
 |none=>rfl
 |some o=>
  have:=hs p.1 (by unfold On;rw[hg];rfl);exact absurd rfl (hq.not this p hp)
theorem M.more {α:Type} {m:M α} (hm:NR m) {h h':Hp} {a:α} (e:m.run h=some (a,h')) {qs:List (Nat×Ob)} (hq:gq qs h') :
  m.run (bE qs h)=some (a,bE qs h')/\m.bz (bE qs h)=m.bz h:=by
 obtain⟨ps,e1,e2,e3,e4⟩:=M.frame m h (bE qs h) h' a e λn hn=>(fj (λp hp=>hq.not (hm h a h' e n hn) p hp) h).symm
 refine⟨?_,e3⟩;rw[e2,e1];rw[uZ λp hp q Jy he=>hq.not (by rw[e1];exact C9 Jy h) p hp he]
theorem sP {l:List Nat} {p q:Nat->Bool} (h:∀n ∈ l,p n=q n):l.all p=l.all q:=by
 induction l with
 |nil=>rfl
 |cons a l ih=>simp only[List.all_cons,h a (List.mem_cons_self ..),ih λn hn=>h n (List.mem_cons_of_mem _ hn)]
def bn.plus (qs:List (Nat×Ob)):bn->bn
 |.m x=>.m x
 |.c h0 h1=>.c (bE qs h0) (bE qs h1)
def bn.on (h:Hp):bn->Prop
 |.m x=>(∀n ∈ x.1,On h n)/\∀n ∈ x.2,On h n
 |.c _ _=>True
theorem bn.on.mono {h h':Hp} {f:bn} (hf:f.on h) (hs:∀n,On h n->On h' n):f.on h':=by
 cases f with
 |m x=>exact⟨λn hn=>hs n (hf.1 n hn),λn hn=>hs n (hf.2 n hn)⟩
 |c=>trivial
theorem xm {qs:List (Nat×Ob)} {h:Hp} (hq:gq qs h) {f g:bn} (hf:f.on h) (hg:g.on h):c9 (f.plus qs) (g.plus qs)=c9 f g:=by
 have ne:∀{n:Nat},On h n->∀x:Hp,get (bE qs x) n=get x n:=λhn x=>fj (hq.not hn) x
 cases f with
 |m x=>
  cases g with
  |m y=>rfl
  |c h0 h1=>
   simp only[bn.plus,c9];congr 2;refine sP λn hn=>?_
   rw[ne (hf.1 n hn),ne (hf.1 n hn)]
 |c h0 h1=>
  cases g with
  |m y=>
   simp only[bn.plus,c9];congr 2
   ·congr 1;refine sP λn hn=>?_
    rw[ne (hg.1 n hn),ne (hg.1 n hn)]
   ·refine sP λn hn=>?_
    rcases List.mem_append.1 hn with hn | hn
    ·rw[ne (hg.1 n hn)]
    ·rw[ne (hg.2 n hn)]
  |c k0 k1=>rfl
def St.plus (qs:List (Nat×Ob)) (s:St):St:={ s with hp:=bE qs s.hp }
def eO (cx:cA):Prop:=∀f args h nx r h' dN,cx f args h nx=some (r,h',dN)->(∀n,On h n->On h' n)/\∀qs,gq qs h'->cx f args (bE qs h) nx=some (r,bE qs h',dN)
section
variable {c1:bS} {cx:cA}
theorem mu (hx:eO cx) {slot:Nat} {o:au} {s s1:St} (e:step c1 cx slot o s=some s1) :
  (∀n,On s.hp n->On s1.hp n)/\(bu c1 slot o s s1.hp).on s1.hp/\∀qs,gq qs s1.hp->step c1 cx slot o (s.plus qs)=some (s1.plus qs)/\bu c1 slot o (s.plus qs) (s1.plus qs).hp=(bu c1 slot o s s1.hp).plus qs:=by
 unfold step at e ⊢;unfold bu;simp only[St.plus];cases hw:bG s.fr o.gd with
 |none=>rw[hw]at e;cases e
 |some b=>
  rw[hw]at e;cases b with
  |false=>
   simp only[Option.some.injEq]at e;subst e;exact⟨λ_ h=>h,⟨λn hn=>by simp at hn,λn hn=>by simp at hn⟩,λqs _=>⟨rfl,rfl⟩⟩
  |true=>
   simp only[]at e ⊢;cases hs:dI o.op with
   |some fa=>
    rw[hs]at e;simp only[]at e ⊢;cases dw:callee (ev s.fr fa.1)with
    |none=>rw[dw]at e;cases e
    |some q=>
     rw[dw]at e;simp only[]at e ⊢;cases hr:cx q.1 (q.2.1++(fa.2.map (ev s.fr)++q.2.2)) s.hp s.nx with
     |none=>rw[hr]at e;cases e
     |some p=>
      obtain⟨v,h1,n1⟩:=p;rw[hr]at e;simp only[Option.some.injEq]at e;subst e;obtain⟨q1,q2⟩:=hx _ _ _ _ _ _ _ hr;refine⟨q1,trivial,λqs hq=>⟨?_,rfl⟩⟩;rw[q2 qs hq]
   |none=>
    rw[hs]at e;simp only[]at e ⊢;cases hr:(bk c1 slot (ev s.fr) o.op).run s.hp with
    |none=>rw[hr]at e;cases e
    |some p=>
     obtain⟨v,h1⟩:=p;rw[hr]at e;simp only[Option.some.injEq]at e;subst e;have hn:=BA c1 slot (ev s.fr) o.op;refine⟨λn h=>M.stay _ _ _ _ n hr h,⟨hn _ _ _ hr,M.wrote _ _ _ _ hr⟩,λqs hq=>?_⟩;obtain⟨q1,q2⟩:=M.more hn hr hq;rw[q1,q2];exact⟨rfl,rfl⟩
theorem pa (hx:eO cx):∀(ops:List au) (slot:Nat) (s s1:St),aX c1 cx ops slot s=some s1->
  (∀n,On s.hp n->On s1.hp n)/\∀qs,gq qs s1.hp->aX c1 cx ops slot (s.plus qs)=some (s1.plus qs)
 |[],slot,s,s1,e=>by
  simp only[aX,Option.some.injEq]at e;subst e;exact⟨λ_ h=>h,λqs _=>rfl⟩
 |o::r,slot,s,s1,e=>by
  simp only[aX]at e ⊢;cases h1:step c1 cx slot o s with
  |none=>rw[h1]at e;cases e
  |some t=>
   rw[h1]at e;obtain⟨a1, -,a2⟩:=mu hx h1;obtain⟨b1,b2⟩:=pa hx r (slot+1) t s1 e;refine⟨λn h=>b1 n (a1 n h),λqs hq=>?_⟩;rw[(a2 qs (hq.back b1)).1];exact b2 qs hq
theorem og (hx:eO cx):∀(ops:List au) (slot:Nat) (s s1:St) (fs:List bn),bC c1 cx ops slot s=some (s1,fs)->
  (∀n,On s.hp n->On s1.hp n)/\(∀f ∈ fs,f.on s1.hp)/\∀qs,gq qs s1.hp->bC c1 cx ops slot (s.plus qs)=some (s1.plus qs,fs.map (bn.plus qs))
 |[],slot,s,s1,fs,e=>by
  simp only[bC,Option.some.injEq,Prod.mk.injEq]at e;obtain⟨rfl,rfl⟩:=e;exact⟨λ_ h=>h,λf hf=>by simp at hf,λqs _=>rfl⟩
 |o::r,slot,s,s1,fs,e=>by
  simp only[bC]at e ⊢;cases h1:step c1 cx slot o s with
  |none=>rw[h1]at e;cases e
  |some t=>
   rw[h1]at e;simp only[]at e;cases h2:bC c1 cx r (slot+1) t with
   |none=>rw[h2]at e;cases e
   |some p=>
    rw[h2]at e;simp only[Option.some.injEq,Prod.mk.injEq]at e;obtain⟨rfl,rfl⟩:=e;obtain⟨a1,a0,a2⟩:=mu hx h1;obtain⟨b1,b0,b2⟩:=og hx r (slot+1) t p.1 p.2 h2;refine⟨λn h=>b1 n (a1 n h),λf hf=>?_,λqs hq=>?_⟩
    ·rcases List.mem_cons.1 hf with rfl | hf
     ·exact a0.mono b1
     ·exact b0 f hf
    ·obtain⟨A3,Da⟩:=a2 qs (hq.back b1);rw[A3];simp only[];rw[b2 qs hq];simp only[List.map_cons];rw[<-Da]
theorem qa {qs:List (Nat×Ob)} {h:Hp} (hq:gq qs h) {x:bn} (hx:x.on h) (i:Nat):∀(fs:List bn) (cs:List (List Nat)),(∀f ∈ fs,f.on h)->ed (x.plus qs) i (fs.map (bn.plus qs)) cs=ed x i fs cs
 |[],cs,_=>by cases cs<;>rfl
 |f::fs,[],_=>rfl
 |f::fs,c::cs,hf=>by
  simp only[List.map_cons,ed];rw[xm hq hx (hf f (List.mem_cons_self ..)),qa hq hx i fs cs λg hg=>hf g (List.mem_cons_of_mem _ hg)]
theorem oh {qs:List (Nat×Ob)} {h:Hp} (hq:gq qs h):∀(fs:List bn) (i:Nat) (cs:List (List Nat)),(∀f ∈ fs,f.on h)->cC (fs.map (bn.plus qs)) i cs=cC fs i cs
 |[],i,cs,_=>by cases cs<;>rfl
 |f::fs,i,[],_=>rfl
 |f::fs,i,c::cs,hf=>by
  simp only[List.map_cons,cC];rw[qa hq (hf f (List.mem_cons_self ..)) i fs cs λg hg=>hf g (List.mem_cons_of_mem _ hg),oh hq fs (i+1) cs λg hg=>hf g (List.mem_cons_of_mem _ hg)]
theorem rK (qs:List (Nat×Ob)):∀fs:List bn,(fs.map (bn.plus qs)).all lS=fs.all lS
 |[]=>rfl
 |f::fs=>by
  simp only[List.map_cons,List.all_cons,rK qs fs];cases f<;>rfl
theorem u5 (hx:eO cx) {draw:Bool} {ops:List au} {keep:List Nat} {s s1:St} (e:aO c1 cx draw ops keep s=some s1) :
  (∀n,On s.hp n->On s1.hp n)/\∀qs,gq qs s1.hp->aO c1 cx draw ops keep (s.plus qs)=some (s1.plus qs):=by
 unfold aO at e ⊢;cases draw with
 |false=>
  simp only[Bool.false_eq_true,if_false]at e ⊢;cases h1:aX c1 cx ops s.nx { s with nx:=s.nx+ops.length } with
  |none=>rw[h1]at e;cases e
  |some t=>
   rw[h1]at e;simp only[Option.some.injEq]at e;subst e;obtain⟨a1,a2⟩:=pa hx _ _ _ _ h1;refine⟨a1,λqs hq=>?_⟩;have:=a2 qs hq;simp only[St.plus]at this ⊢;rw[this]
 |true=>
  simp only[if_true]at e ⊢;cases h1:bC c1 cx ops s.nx { s with nx:=s.nx+ops.length } with
  |none=>rw[h1]at e;cases e
  |some p=>
   rw[h1]at e;simp only[]at e;split at e
   case isFalse=>cases e
   rename_i ho;simp only[Option.some.injEq]at e;subst e;obtain⟨a1,a0,a2⟩:=og hx _ _ _ p.1 p.2 h1;refine⟨a1,λqs hq=>?_⟩;have:=a2 qs hq;simp only[St.plus]at this ⊢;rw[this];simp only[];rw[if_pos];unfold fS at ho ⊢;rw[rK,oh hq p.2 0 _ a0];exact ho
theorem th {f:St->Option (Ex×St)} (hf:∀s r s1,f s=some (r,s1)->(∀n,On s.hp n->On s1.hp n)/\∀qs,gq qs s1.hp->f (s.plus qs)=some (r,s1.plus qs)) (keep:List Nat):∀(m:Nat) (s:St) (r:Ex) (s1:St),iter f keep m s=some (r,s1)->
  (∀n,On s.hp n->On s1.hp n)/\∀qs,gq qs s1.hp->iter f keep m (s.plus qs)=some (r,s1.plus qs)
 |0,s,r,s1,e=>by simp[iter]at e
 |m+1,s,r,s1,e=>by
  simp only[iter]at e ⊢;cases h1:f s with
  |none=>rw[h1]at e;cases e
  |some p=>
   obtain⟨r1,t⟩:=p;rw[h1]at e;obtain⟨a1,a2⟩:=hf s r1 t h1;cases r1 with
   |norm=>
    obtain⟨b1,b2⟩:=th hf keep m _ r s1 e;refine⟨λn h=>b1 n (a1 n h),λqs hq=>?_⟩;rw[a2 qs (hq.back b1)];exact b2 qs hq
   |exit i=>
    simp only[Option.some.injEq,Prod.mk.injEq]at e;obtain⟨rfl,rfl⟩:=e;exact⟨a1,λqs hq=>by rw[a2 qs hq]⟩
   |ret=>
    simp only[Option.some.injEq,Prod.mk.injEq]at e;obtain⟨rfl,rfl⟩:=e;exact⟨a1,λqs hq=>by rw[a2 qs hq]⟩
theorem xn (hx:eO cx) (k:Nat):∀(ic:IC) (s:St) (r:Ex) (s1:St),aA c1 cx k ic s=some (r,s1)->
  (∀n,On s.hp n->On s1.hp n)/\∀qs,gq qs s1.hp->aA c1 cx k ic (s.plus qs)=some (r,s1.plus qs):=by
 intro ic
 induction ic with
 |skip=>
  intro s r s1 e;simp only[aA,Option.some.injEq,Prod.mk.injEq]at e ⊢;obtain⟨rfl,rfl⟩:=e;exact⟨λ_ h=>h,λqs _=>⟨rfl,rfl⟩⟩
 |gm draw ops keep=>
  intro s r s1 e;simp only[aA,Option.map_eq_some_iff,Prod.mk.injEq]at e ⊢;obtain⟨t,e1,rfl,rfl⟩:=e;obtain⟨a1,a2⟩:=u5 hx e1;exact⟨a1,λqs hq=>⟨_,a2 qs hq,rfl,rfl⟩⟩
 |seq a b oN oO=>
  intro s r s1 e;simp only[aA]at e ⊢;cases h1:aA c1 cx k a s with
  |none=>rw[h1]at e;cases e
  |some p=>
   obtain⟨r1,t⟩:=p;rw[h1]at e;obtain⟨a1,a2⟩:=oN s r1 t h1;cases r1 with
   |norm=>
    obtain⟨b1,b2⟩:=oO t r s1 e;refine⟨λn h=>b1 n (a1 n h),λqs hq=>?_⟩;rw[a2 qs (hq.back b1)];exact b2 qs hq
   |exit i=>
    simp only[Option.some.injEq,Prod.mk.injEq]at e;obtain⟨rfl,rfl⟩:=e;exact⟨a1,λqs hq=>by rw[a2 qs hq]⟩
   |ret=>
    simp only[Option.some.injEq,Prod.mk.injEq]at e;obtain⟨rfl,rfl⟩:=e;exact⟨a1,λqs hq=>by rw[a2 qs hq]⟩
 |cond c a b oN oO=>
  intro s r s1 e;simp only[aA]at e ⊢;have vT:∀qs,(s.plus qs).fr=s.fr:=λ_=>rfl
  simp only[vT];split at e
  ·rename_i t ht;cases t with
   |true=>simpa[ht]using oN s r s1 e
   |false=>simpa[ht]using oO s r s1 e
  ·cases e
 |block id b ih=>
  intro s r s1 e;simp only[aA]at e ⊢;cases h1:aA c1 cx k b s with
  |none=>rw[h1]at e;cases e
  |some p=>
   obtain⟨r1,t⟩:=p;rw[h1]at e;obtain⟨a1,a2⟩:=ih s r1 t h1;cases r1 with
   |norm=>
    simp only[Option.some.injEq,Prod.mk.injEq]at e;obtain⟨rfl,rfl⟩:=e;exact⟨a1,λqs hq=>by rw[a2 qs hq]⟩
   |ret=>
    simp only[Option.some.injEq,Prod.mk.injEq]at e;obtain⟨rfl,rfl⟩:=e;exact⟨a1,λqs hq=>by rw[a2 qs hq]⟩
   |exit i=>
    simp only[]at e;split at e
    ·rename_i hi;simp only[Option.some.injEq,Prod.mk.injEq]at e;obtain⟨rfl,rfl⟩:=e;exact⟨a1,λqs hq=>by rw[a2 qs hq];simp[hi]⟩
    ·rename_i hi;simp only[Option.some.injEq,Prod.mk.injEq]at e;obtain⟨rfl,rfl⟩:=e;exact⟨a1,λqs hq=>by rw[a2 qs hq];simp[hi]⟩
 |loop keep b ih=>
  intro s r s1 e;simp only[aA]at e ⊢;exact th ih keep k _ r s1 e
 |exit id=>
  intro s r s1 e;simp only[aA,Option.some.injEq,Prod.mk.injEq]at e ⊢;obtain⟨rfl,rfl⟩:=e;exact⟨λ_ h=>h,λqs _=>⟨rfl,rfl⟩⟩
 |ret=>
  intro s r s1 e;simp only[aA,Option.some.injEq,Prod.mk.injEq]at e ⊢;obtain⟨rfl,rfl⟩:=e;exact⟨λ_ h=>h,λqs _=>⟨rfl,rfl⟩⟩
 |scope b ih=>
  intro s r s1 e;simp only[aA]at e ⊢;exact ih s r s1 e
 |stop=>
  intro s r s1 e;simp[aA]at e
def ko (p:bS->cA->List AV->Hp->Nat->Option (AV×Hp×Nat)):Prop:=
 ∀c1 cx,eO cx->∀args h nx r h' dN,p c1 cx args h nx=some (r,h',dN)->(∀n,On h n->On h' n)/\∀qs,gq qs h'->p c1 cx args (bE qs h) nx=some (r,bE qs h',dN)
theorem rL {prog:Nat->Option al} (hp:∀f ir p,prog f=some ir->ir.iT=some p->ko p):∀k,eO (bg c1 prog k):=by
 intro k
 induction k with
 |zero=>intro f args h nx r h' dN e;simp[bg]at e
 |succ k ih=>
  intro f args h nx r h' dN e;simp only[bg]at e ⊢;cases hf:prog f with
  |none=>rw[hf]at e;cases e
  |some ir=>
   rw[hf]at e;simp only[]at e ⊢;cases u6:ir.iT with
   |some p=>
    rw[u6]at e;exact hp f ir p hf u6 c1 _ ih args h nx r h' dN e
   |none=>
    rw[u6]at e;simp only[]at e ⊢;split at e
    case isFalse=>cases e
    rename_i hl;have fin:∀(t:St) (ex:Ex),(ex = .norm\/ex = .ret)->aA c1 (bg c1 prog k) k ir.body ⟨params args 0,h,nx⟩=some (ex,t)->(match(dk t.fr ir.res).run t.hp with | some (v,h)=>some (v,h,t.nx) | none=>none)=some (r,h',dN)->
      (∀n,On h n->On h' n)/\∀qs,gq qs h'->aA c1 (bg c1 prog k) k ir.body ⟨params args 0,bE qs h,nx⟩=some (ex,t.plus qs)/\
       (match(dk t.fr ir.res).run (bE qs t.hp)with | some (v,h)=>some (v,h,t.nx) | none=>none)=some (r,bE qs h',dN):=by
     intro t ex _ h1 h2;obtain⟨a1,a2⟩:=xn ih k _ _ _ _ h1;cases h3:(dk t.fr ir.res).run t.hp with
     |none=>rw[h3]at h2;cases h2
     |some q=>
      obtain⟨v,h4⟩:=q;rw[h3]at h2;simp only[Option.some.injEq,Prod.mk.injEq]at h2;obtain⟨rfl,rfl,rfl⟩:=h2;have b1:=λn=>M.stay _ _ _ _ n h3
      refine⟨λn hn=>b1 n (a1 n hn),λqs hq=>⟨a2 qs (hq.back b1),?_⟩⟩;rw[(M.more (y8 _ _) h3 hq).1]
    cases h1:aA c1 (bg c1 prog k) k ir.body ⟨params args 0,h,nx⟩with
    |none=>rw[h1]at e;cases e
    |some q=>
     obtain⟨ex,t⟩:=q;rw[h1]at e;cases ex with
     |norm=>
      obtain⟨b1,b2⟩:=fin t _ (.inl rfl) h1 e;refine⟨b1,λqs hq=>?_⟩;rw[if_pos hl,(b2 qs hq).1];exact(b2 qs hq).2
     |ret=>
      obtain⟨b1,b2⟩:=fin t _ (.inr rfl) h1 e;refine⟨b1,λqs hq=>?_⟩;rw[if_pos hl,(b2 qs hq).1];exact(b2 qs hq).2
     |exit i=>cases e
end
def GE (h h':Fr):Prop:=∀n,get h n=get h' n
theorem GE.refl (h:Fr):GE h h:=λ_=>rfl
theorem GE.symm {h h':Fr} (e:GE h h'):GE h' h:=λn=>(e n).symm
theorem GE.trans {a b c:Fr} (e:GE a b) (f:GE b c):GE a c:=λn=>(e n).trans (f n)
theorem GE.set {h h':Fr} (e:GE h h') (n:Nat) (x:AV):GE (set h n x) (set h' n x):=λm=>by simp[aQ,e m]
def cb:aH->List Nat
 |.t n=>[n]
 |.c _=>[]
def jt:Option aH->List Nat
 |some x=>cb x
 |none=>[]
def fQ:List aH->List Nat
 |[]=>[]
 |x::r=>cb x++fQ r
def iJ {α:Type} (f:α->aH):List α->List Nat
 |[]=>[]
 |x::r=>cb (f x)++iJ f r
def gS:jF->List Nat
 |.nU x | .box _ x | .eD _ x | .fk _ _ _ x | .un _ x | .qO _ x | .tC x | .sY x | .lh _ x | .kV _ _ x | .len _ x | .ext x _ | .mz x | .load _ _ x | .nK x | .te _ _ x | .jW _ x | .pX x | .tz x | .pY x | .pZ x=>cb x
 |.alloc _ _ | .sZ | .dead | .AY _=>[]
 |.qh x=>cb x
 |.gT _ _ _ _ x y | .gV _ x y=>cb x++cb y
 |.gU _ x y z | .mK _ x y z=>cb x++(cb y++cb z)
 |.pick c a b=>cb c++(cb a++cb b)
 |.build _ ps=>iJ (λp=>p.2.2) ps
 |.nV _ _ _ ps=>iJ (λp=>p.2) ps
 |.store _ x y | .eE _ _ x y | .gX _ x y | .eF _ _ _ x y | .fH x y | .bin _ _ x y | .oi _ _ x y | .app _ _ x y | .mJ _ _ x y | .rE x y | .lN _ x y | .lP x y=>cb x++cb y
 |.hU _ x lo hi | .oY _ x lo hi | .fR x lo hi=>cb x++(jt lo++jt hi)
 |.mn x ys | .mx x ys=>cb x++fQ ys
 |.oj _ fs cs=>fQ fs++fQ cs
 |.call _ f U | .nJ f U=>cb f++fQ U
def ez (o:au):List Nat:=gS o.op++(match o.gd with | some (t,_)=>[t] | none=>[])
theorem dq {ρ ga:aH->AV}:∀{l:List aH},(∀x:aH,(∀n ∈ cb x,n ∈ fQ l)->ρ x=ga x)->l.map ρ=l.map ga
 |[],_=>rfl
 |x::r,h=>by
  simp only[List.map_cons,h x λn hn=>by simp[fQ,hn]];rw[dq (l:=r) λy hy=>h y λn hn=>by simp[fQ,hy n hn]]
theorem ik {α β:Type} {f:α->aH} {ρ ga:aH->AV} {F:α->AV->M β}:∀{l:List α},(∀x:aH,(∀n ∈ cb x,n ∈ iJ f l)->ρ x=ga x)->
  M.aJ (λp=>F p (ρ (f p))) l=M.aJ (λp=>F p (ga (f p))) l
 |[],_=>rfl
 |x::r,h=>by
  simp only[M.aJ];rw[h (f x) λn hn=>by simp[iJ,hn],ik (l:=r) λy hy=>h y λn hn=>by simp[iJ,hy n hn]]
theorem nE {call:bS} {slot:Nat} {ρ ga:aH->AV} {op:jF} (h:∀x:aH,(∀n ∈ cb x,n ∈ gS op)->ρ x=ga x):bk call slot ρ op=bk call slot ga op:=by
 cases op<;>simp only[gS]at h<;>simp only[bk]
 case pick c a b=>rw[h c λn hn=>by simp[hn],h a λn hn=>by simp[hn],h b λn hn=>by simp[hn]]
 case build z ps=>rw[ik (F:=λp v=>(bU v).bind λl=>(M.ok (l.length==p.2.1&&Nat.ble (p.1+p.2.1) z.length)).bind λ_=>.ret (p.1,l)) h]
 case nV e z n ps=>rw[ik (F:=λp v=>(bU v).bind λxs=>(M.ok (xs.length==e&&Nat.blt p.1 n)).bind λ_=>M.ret (p.1,xs)) h]
 case hU e x lo hi=>
  rw[h x λn hn=>by simp[hn]];have h1:lo.map ρ=lo.map ga:=by cases lo with | none=>rfl | some l=>simp[h l λn hn=>by simp[jt,hn]]
  have h2:hi.map ρ=hi.map ga:=by cases hi with | none=>rfl | some l=>simp[h l λn hn=>by simp[jt,hn]]
  rw[h1,h2]
 case oY n' x lo hi=>
  rw[h x λn hn=>by simp[hn]];have h1:lo.map ρ=lo.map ga:=by cases lo with | none=>rfl | some l=>simp[h l λn hn=>by simp[jt,hn]]
  have h2:hi.map ρ=hi.map ga:=by cases hi with | none=>rfl | some l=>simp[h l λn hn=>by simp[jt,hn]]
  rw[h1,h2]
 case fR x lo hi=>
  rw[h x λn hn=>by simp[hn]];have h1:lo.map ρ=lo.map ga:=by cases lo with | none=>rfl | some l=>simp[h l λn hn=>by simp[jt,hn]]
  have h2:hi.map ρ=hi.map ga:=by cases hi with | none=>rfl | some l=>simp[h l λn hn=>by simp[jt,hn]]
  rw[h1,h2]
 case mn x ys=>rw[h x λn hn=>by simp[hn],dq (l:=ys) λy hy=>h y λn hn=>by simp[hy n hn]]
 case mx x ys=>rw[h x λn hn=>by simp[hn],dq (l:=ys) λy hy=>h y λn hn=>by simp[hy n hn]]
 case oj f fs ys=>rw[dq (l:=fs) λy hy=>h y λn hn=>by simp[hy n hn],dq (l:=ys) λy hy=>h y λn hn=>by simp[hy n hn]]
 case call mode f ys=>rw[h f λn hn=>by simp[hn],dq (l:=ys) λy hy=>h y λn hn=>by simp[hy n hn]]
 case mK qs x y z=>rw[h x λn hn=>by simp[hn],h y λn hn=>by simp[hn],h z λn hn=>by simp[hn]]
 case gU qs x y z=>rw[h x λn hn=>by simp[hn],h y λn hn=>by simp[hn],h z λn hn=>by simp[hn]]
 case gT ok agg qs z x y=>rw[h x λn hn=>by simp[hn],h y λn hn=>by simp[hn]]
 case gV qs x y=>rw[h x λn hn=>by simp[hn],h y λn hn=>by simp[hn]]
 case store sz x y=>rw[h x λn hn=>by simp[hn],h y λn hn=>by simp[hn]]
 case eE len e x y=>rw[h x λn hn=>by simp[hn],h y λn hn=>by simp[hn]]
 case gX e x y=>rw[h x λn hn=>by simp[hn],h y λn hn=>by simp[hn]]
 case eF a len e x y=>rw[h x λn hn=>by simp[hn],h y λn hn=>by simp[hn]]
 case fH x y=>rw[h x λn hn=>by simp[hn],h y λn hn=>by simp[hn]]
 case bin op q x y=>rw[h x λn hn=>by simp[hn],h y λn hn=>by simp[hn]]
 case oi neg qs x y=>rw[h x λn hn=>by simp[hn],h y λn hn=>by simp[hn]]
 case mJ e z x y=>rw[h x λn hn=>by simp[hn],h y λn hn=>by simp[hn]]
 case lP x y=>rw[h x λn hn=>by simp[hn],h y λn hn=>by simp[hn]]
 case rE x y=>rw[h x λn hn=>by simp[hn],h y λn hn=>by simp[hn]]
 case lN kk x y=>rw[h x λn hn=>by simp[hn],h y λn hn=>by simp[hn]]
 case app e byte x y=>rw[h x λn hn=>by simp[hn],h y λn hn=>by simp[hn]]
 all_goals first | rfl | (rename_i x;rw[h x λn hn=>hn]) | (rename_i x _;rw[h x λn hn=>hn])
def SE (s s':St):Prop:=GE s.fr s'.fr/\s.hp=s'.hp/\s.nx=s'.nx
theorem SE.refl (s:St):SE s s:=⟨.refl _,rfl,rfl⟩
theorem SE.symm {s s':St} (h:SE s s'):SE s' s:=⟨h.1.symm,h.2.1.symm,h.2.2.symm⟩
theorem SE.trans {a b c:St} (h:SE a b) (h':SE b c):SE a c:=⟨h.1.trans h'.1,h.2.1.trans h'.2.1,h.2.2.trans h'.2.2⟩
theorem GE.bh {fr oK:Fr} (e:GE fr oK) (d:Option Nat) (v:AV):GE (bh fr d v) (bh oK d v):=by
 cases d with
 |none=>exact e
 |some d=>exact e.set d v
theorem iK {fr:Fr} {d:Option Nat} {v:AV} {n:Nat} (h:d≠some n):get (bh fr d v) n=get fr n:=by
 cases d with
 |none=>rfl
 |some d=>simp[bh,aQ,show d≠n from λe=>h (by rw[e])]
theorem oL {fr:Fr} {d d':Option Nat} {v v':AV} (h:d≠d'\/d=none):GE (bh (bh fr d v) d' v') (bh (bh fr d' v') d v):=by
 intro n;cases d with
 |none=>rfl
 |some d=>
  cases d' with
  |none=>rfl
  |some d'=>
   have bF:d≠d':=λe=>by rcases h with h | h;exact h (by rw[e]);cases h
   simp only[bh,aQ];by_cases h1:d'=n
   ·have:d≠n:=λe=>bF (e.trans h1.symm)
    simp[h1,this]
   ·simp[h1]
theorem sB {fr oK:Fr} {l:List Nat} (h:∀n ∈ l,get fr n=get oK n) (x:aH) (hx:∀n ∈ cb x,n ∈ l):ev fr x=ev oK x:=by
 cases x with
 |c v=>rfl
 |t n=>simp only[ev];rw[h n (hx n (by simp[cb]))]
section
variable {c1:bS} {cx:cA}
inductive wb where
 |m (ps:List (Nat×Ob))
 |c (h0 h1:Hp) (n0 n1:Nat)
def wb.ok:wb->bn->St->St->Prop
 |.m ps,.m f,s,s1=>s1.hp=bE ps s.hp/\s1.nx=s.nx/\∀p ∈ ps,p.1 ∈ f.2
 |.c h0 h1 n0 n1,.c k0 k1,s,s1=>s.hp=h0/\s1.hp=h1/\s.nx=n0/\s1.nx=n1/\k0=h0/\k1=h1
 |_,_,_,_=>False
theorem im {slot:Nat} {o:au} {s s' s1:St} (e:step c1 cx slot o s=some s1) (hf:∀n ∈ ez o,get s.fr n=get s'.fr n)
  (hh:match bu c1 slot o s s1.hp with | .m f=>∀n ∈ f.1,get s.hp n=get s'.hp n | .c _ _=>s.hp=s'.hp/\s.nx=s'.nx) :
  ∃eA v d,step c1 cx slot o s'=some eA/\bu c1 slot o s' eA.hp=bu c1 slot o s s1.hp/\s1.fr=bh s.fr o.dst v/\eA.fr=bh s'.fr o.dst v/\wb.ok d (bu c1 slot o s s1.hp) s s1/\wb.ok d (bu c1 slot o s s1.hp) s' eA:=by
 have hw:bG s'.fr o.gd=bG s.fr o.gd:=by
  cases hg:o.gd with
  |none=>rfl
  |some g=>
   simp only[bG];rw[hf g.1 (by simp[ez,hg])]
 have nd:∀x:aH,(∀n ∈ cb x,n ∈ gS o.op)->ev s'.fr x=ev s.fr x:=λx hx=>(sB hf x λn hn=>by simp[ez,hx n hn]).symm
 have ho:bk c1 slot (ev s'.fr) o.op=bk c1 slot (ev s.fr) o.op:=nE nd;unfold step at e ⊢;unfold bu at hh ⊢;rw[hw,ho];cases yG:bG s.fr o.gd with
 |none=>rw[yG]at e;cases e
 |some b=>
  rw[yG]at e hh;cases b with
  |false=>
   simp only[Option.some.injEq]at e;subst e;exact⟨_,.aR [],.m [],rfl,rfl,rfl,rfl,⟨rfl,rfl,λp hp=>by simp at hp⟩,⟨rfl,rfl,λp hp=>by simp at hp⟩⟩
  |true=>
   simp only[]at e hh ⊢;cases hs:dI o.op with
   |some fa=>
    rw[hs]at e hh;simp only[]at e hh ⊢;obtain⟨f,U⟩:=fa;obtain⟨q1,q2⟩:=hh;have kY:o.op = .nJ f U:=by
     generalize o.op=op at hs;cases op<;>simp[dI]at hs;obtain⟨rfl,rfl⟩:=hs;rfl
    have yF:ev s'.fr f=ev s.fr f:=nd f λn hn=>by rw[kY];simp[gS,hn]
    have Jz:U.map (ev s'.fr)=U.map (ev s.fr):=dq (l:=U) λx hx=>nd x λn hn=>by rw[kY];simp[gS,hx n hn]
    rw[yF,Jz,<-q1,<-q2];cases dw:callee (ev s.fr f)with
    |none=>rw[dw]at e;cases e
    |some q=>
     rw[dw]at e;simp only[]at e ⊢;cases hr:cx q.1 (q.2.1++(U.map (ev s.fr)++q.2.2)) s.hp s.nx with
     |none=>rw[hr]at e;cases e
     |some p=>
      obtain⟨v,h1,n1⟩:=p;rw[hr]at e;simp only[Option.some.injEq]at e;subst e;exact⟨_,v,.c s.hp h1 s.nx n1,rfl,rfl,rfl,rfl,⟨rfl,rfl,rfl,rfl,rfl,rfl⟩,⟨q1.symm,rfl,q2.symm,rfl,rfl,rfl⟩⟩
   |none=>
    rw[hs]at e hh;simp only[]at e hh ⊢;cases hr:(bk c1 slot (ev s.fr) o.op).run s.hp with
    |none=>rw[hr]at e;cases e
    |some p=>
     obtain⟨v,h1⟩:=p;rw[hr]at e;simp only[Option.some.injEq]at e;subst e;obtain⟨ps,e1,e2,e3,e4⟩:=M.frame _ _ s'.hp _ _ hr hh;rw[e2];exact⟨_,v,.m ps,rfl,by rw[e3],rfl,rfl,⟨e1,rfl,e4⟩,⟨rfl,rfl,e4⟩⟩
def gf (x y:au):Bool:=
 (match x.dst with | some d=>!(ez y).contains d&&y.dst != some d | none=>true)&&(match y.dst with | some d=>!(ez x).contains d | none=>true)
theorem mH {x y:au} (h:gf x y=true):(∀d,x.dst=some d->d ∉ ez y)/\(x.dst≠y.dst\/x.dst=none)/\∀d,y.dst=some d->d ∉ ez x:=by
 unfold gf at h;simp only[Bool.and_eq_true]at h;obtain⟨h1,h2⟩:=h;refine⟨λd hd=>?_,?_,λd hd=>?_⟩
 ·rw[hd]at h1;simp at h1;exact h1.1
 ·cases hx:x.dst with
  |none=>exact .inr rfl
  |some d=>
   rw[hx]at h1;simp at h1;exact .inl λe=>h1.2 e.symm
 ·rw[hd]at h2;simpa using h2
theorem jR {a b:List Nat} (h:meets a b=false):∀n ∈ a,n ∉ b:=by
 intro n hn hb;have:meets a b=true:=by simp only[meets,List.any_eq_true,List.contains_iff_mem];exact⟨n,hn,hb⟩
 rw[h]at this;cases this
theorem y9 {ps:List (Nat×Ob)} {l:List Nat} (h:l=[]) (q:∀p ∈ ps,p.1 ∈ l):ps=[]:=List.eq_nil_iff_forall_not_mem.2 λp hp=>by have:=q p hp;simp[h]at this
theorem u7 {h0 h1:Hp} {y:List Nat×List Nat} (h:c9 (.c h0 h1) (.m y)=false):(y.2=[]/\∀n ∈ y.1,get h0 n=get h1 n)\/∀n ∈ y.1++y.2,get h1 n=none:=by
 simp only[c9,Bool.not_eq_false',Bool.or_eq_true,Bool.and_eq_true,List.isEmpty_iff,List.all_eq_true,Option.isNone_iff_eq_none]at h;rcases h with h | h
 ·exact .inl ⟨h.1,λn hn=>uN (h.2 n hn)⟩
 ·exact .inr h
theorem Ag {h0 h1:Hp} {y:List Nat×List Nat} (h:c9 (.m y) (.c h0 h1)=false):y.2=[]/\∀n ∈ y.1,get h0 n=get h1 n:=by
 simp only[c9,Bool.not_eq_false',Bool.and_eq_true,List.isEmpty_iff,List.all_eq_true]at h;exact⟨h.1,λn hn=>uN (h.2 n hn)⟩
theorem qF {n:Nat}:∀(qs:List (Nat×Ob)) {a b:Hp},get a n=get b n->get (bE qs a) n=get (bE qs b) n
 |[],a,b,h=>h
 |q::qs,a,b,h=>qF qs (by simp only[aQ,h])
theorem wc (qs ps:List (Nat×Ob)) (h:Hp):bE (qs++ps) h=bE ps (bE qs h):=List.foldl_append
def kP (c1:bS) (cx:cA) (slot:Nat) (o:au) (f:bn) (s s1:St):Prop:=
 match f with
 |.m x=>step c1 cx slot o s=some s1/\bu c1 slot o s s1.hp = .m x
 |.c h0 h1=>∃qs t,gq qs h1/\t.hp=h1/\s.hp=bE qs h0/\step c1 cx slot o { s with hp:=h0 }=some t/\bu c1 slot o { s with hp:=h0 } h1 = .c h0 h1/\s1=t.plus qs
theorem kP.of {slot:Nat} {o:au} {s s1:St} (e:step c1 cx slot o s=some s1):kP c1 cx slot o (bu c1 slot o s s1.hp) s s1:=by
 cases hf:bu c1 slot o s s1.hp with
 |m x=>exact⟨e,hf⟩
 |c h0 h1=>
  have hh:h0=s.hp/\h1=s1.hp:=by
   unfold bu at hf;split at hf
   ·split at hf
    ·cases hf;exact⟨rfl,rfl⟩
    ·cases hf
   ·cases hf
  obtain⟨rfl,rfl⟩:=hh;exact⟨[],s1,λp hp=>by simp at hp,rfl,rfl,e,hf,rfl⟩
theorem kP.step (hm:eO cx) {slot:Nat} {o:au} {f:bn} {s s1:St} (h:kP c1 cx slot o f s s1):step c1 cx slot o s=some s1:=by
 cases f with
 |m x=>exact h.1
 |c h0 h1=>
  obtain⟨qs,t,h1,h2,h3,h4,h5,rfl⟩:=h;have:=(mu hm h4).2.2 qs (by rw[h2];exact h1);rw[<-this.1];simp only[St.plus,<-h3]
def Alike (qb:List (Nat×Ob)) (s s1 s' eA:St):bn->Prop
 |.m x=>∃ps,s1.hp=bE ps s.hp/\eA.hp=bE ps s'.hp/\s1.nx=s.nx/\eA.nx=s'.nx/\∀p ∈ ps,p.1 ∈ x.2
 |.c _ h1=>s1.nx=eA.nx/\eA.hp=bE qb h1
theorem kP.ju {slot:Nat} {o:au} {f:bn} {s s' s1:St} (qb:List (Nat×Ob)) (h:kP c1 cx slot o f s s1) (hf:∀n ∈ ez o,get s.fr n=get s'.fr n)
  (hh:match f with | .m x=>∀n ∈ x.1,get s.hp n=get s'.hp n | .c h0 h1=>s.nx=s'.nx/\gq qb h1/\s'.hp=bE qb h0) :
  ∃eA v,kP c1 cx slot o f s' eA/\s1.fr=bh s.fr o.dst v/\eA.fr=bh s'.fr o.dst v/\
   Alike qb s s1 s' eA f:=by
 cases f with
 |m x=>
  obtain⟨e,hx⟩:=h;obtain⟨eA,v,d,q1,q2,q3,q4,q5,q6⟩:=im e hf (by rw[hx];exact hh);rw[hx]at q5 q6 q2;cases d<;>simp only[wb.ok]at q5 q6;exact⟨eA,v,⟨q1,q2⟩,q3,q4,_,q5.1,q6.1,q5.2.1,q6.2.1,q5.2.2⟩
 |c h0 h1=>
  obtain⟨qs,t,a1,a2,a3,a4,a5,rfl⟩:=h;obtain⟨hn,b1,b2⟩:=hh;obtain⟨t',v,d,q1,q2,q3,q4,q5,q6⟩:=im (s':={ s' with hp:=h0 }) a4 hf (by rw[a2,a5];exact⟨rfl,hn⟩);rw[a2,a5]at q5 q6 q2;cases d<;>simp only[wb.ok]at q5 q6;have dE:t'.hp=h1:=q6.2.1.trans q6.2.2.2.2.2.symm;refine⟨t'.plus qb,v,⟨qb,t',b1,dE,b2,q1,by rw[<-dE]at q2 ⊢;exact q2,rfl⟩,q3,q4,?_,?_⟩
  ·show t.nx=t'.nx
   rw[q5.2.2.2.1,q6.2.2.2.1]
  ·show bE qb t'.hp=bE qb h1
   rw[dE]
theorem kP.ext {slot:Nat} {o:au} {f:bn} {s s' s1:St} (h:kP c1 cx slot o f s s1) (e:SE s s'):∃eA,kP c1 cx slot o f s' eA/\SE s1 eA:=by
 obtain⟨h1,h2,h3⟩:=e;cases f with
 |m x=>
  obtain⟨eA,v,q1,q2,q3,ps,q4,q5,q6,q7, -⟩:=h.ju [] (λn _=>h1 n) (λn _=>by rw[h2]);exact⟨eA,q1,by rw[q2,q3];exact h1.bh _ _,by rw[q4,q5,h2],by rw[q6,q7,h3]⟩
 |c h0 mj=>
  have h':=h;obtain⟨qs,t,a1,a2,a3,a4,a5,a6⟩:=h';obtain⟨eA,v,q1,q2,q3,q4,q5⟩:=h.ju qs (s':=s') (λn _=>h1 n) ⟨h3,a1,by rw[<-h2];exact a3⟩;refine⟨eA,q1,by rw[q2,q3];exact h1.bh _ _,?_,q4⟩;rw[q5,a6]
  show bE qs t.hp=_
  rw[a2]
theorem swap (hm:eO cx) {sx sy:Nat} {x y:au} {fx fy:bn} {s s1 s2:St} (e1:kP c1 cx sx x fx s s1) (e2:kP c1 cx sy y fy s1 s2) (hT:gf x y=true) (hc:c9 fx fy=false) :
  ∃t1 t2,kP c1 cx sy y fy s t1/\kP c1 cx sx x fx t1 t2/\SE s2 t2:=by
 obtain⟨a1,a2,a3⟩:=mH hT;have fin:∀{v u v':AV} {t1 t2:St},s1.fr=bh s.fr x.dst v->s2.fr=bh s1.fr y.dst u->t1.fr=bh s.fr y.dst u->t2.fr=bh t1.fr x.dst v'->s1.fr=bh s.fr x.dst v'->GE s2.fr t2.fr:=by
  intro v u v' t1 t2 p1 p2 p3 p4 p5;rw[p2,p5,p4,p3];exact oL a2
 cases fx with
 |m x'=>
  cases fy with
  |m y'=>
   obtain⟨_,v,_,f1,_,ps,n1,_,n2,_,n3⟩:=e1.ju (s':=s) [] (λn _=>rfl) (λn _=>rfl);simp only[c9,Bool.or_eq_false_iff]at hc;have A3:=jR hc.1;have Da:=jR hc.2;obtain⟨t1,u,q1,f2,f3,qs,m1,m2,m3,m4,m5⟩:=e2.ju (s':=s) [] (λn hn=>by rw[f1];exact iK λh=>a1 n h hn) (λn hn=>by
    rw[n1];exact fj (λp hp h=>A3 _ (n3 p hp) (by rw[h];simp[hn])) _)
   obtain⟨t2,v',r1,f4,f5,JA,k1,k2,k3,k4,k5⟩:=e1.ju (s':=t1) [] (λn hn=>by rw[f3];exact(iK λh=>a3 n h hn).symm) (λn hn=>by
    rw[m2];exact(fj (λp hp h=>Da _ (m5 p hp) (by rw[h];simp[hn])) _).symm)
   refine⟨t1,t2,q1,r1,fin f1 f2 f3 f5 f4,?_,by rw[m3,n2,k4,m4]⟩;rw[k2,m2,m1,k1];exact uZ (λp hp q hq h=>A3 _ (k5 p hp) (by rw[h];simp[m5 q hq])) _
  |c h0 h1=>
   obtain⟨_,v,_,f1,_,ps,n1,_,n2,_,n3⟩:=e1.ju (s':=s) [] (λn _=>rfl) (λn _=>rfl);obtain⟨d1,d2⟩:=Ag hc;obtain rfl:=y9 d1 n3;have FP:s1.hp=s.hp:=n1;have CQ:=e2;obtain⟨qs,t,b1,b2,b3,b4,b5,rfl⟩:=CQ;obtain⟨t1,u,q1,f2,f3,m1,m2⟩:=e2.ju (s':=s) qs (λn hn=>by rw[f1];exact iK λh=>a1 n h hn) ⟨n2,b1,by rw[<-FP];exact b3⟩;obtain⟨t2,v',r1,f4,f5,JA,k1,k2,k3,k4,k5⟩:=e1.ju (s':=t1) [] (λn hn=>by rw[f3];exact(iK λh=>a3 n h hn).symm) (λn hn=>by
    rw[m2,<-FP,b3];exact qF qs (d2 n hn))
   obtain rfl:=y9 d1 k5;refine⟨t1,t2,q1,r1,fin f1 f2 f3 f5 f4,?_,by rw[k4,m1]⟩;have JB:t2.hp=t1.hp:=k2;rw[JB,m2]
   show bE qs t.hp=_
   rw[b2]
 |c h0 h1=>
  cases fy with
  |c k0 k1=>cases hc
  |m y'=>
   have Db:=e1;obtain⟨qs,t,b1,b2,b3,b4,b5,b6⟩:=Db;have nX:s1.hp=bE qs h1:=by rw[b6];show bE qs t.hp=_;rw[b2]
   have E4:∀n,get h1 n=none->get h0 n=none:=by
    intro n hn;cases hg:get h0 n with
    |none=>rfl
    |some o=>
     have:=(mu hm b4).1 n (by show On h0 n;unfold On;rw[hg];rfl);rw[b2]at this;unfold On at this;rw[hn]at this;cases this
   obtain⟨_,v,_,f1,_,n1,_⟩:=e1.ju (s':=s) qs (λn _=>rfl) ⟨rfl,b1,b3⟩;have Dc:∀n ∈ y'.1,get s1.hp n=get s.hp n:=by
    intro n hn;rw[nX,b3];refine qF qs ?_;rcases u7 hc with⟨-,h⟩|h
    ·exact(h n hn).symm
    ·have:=h n (by simp[hn]);rw[this,E4 n this]
   obtain⟨t1,u,q1,f2,f3,ps,m1,m2,m3,m4,m5⟩:=e2.ju (s':=s) [] (λn hn=>by rw[f1];exact iK λh=>a1 n h hn) Dc;have tP:gq ps h1:=by
    intro p hp;rcases u7 hc with⟨h, -⟩|h
    ·have:=m5 p hp;simp[h]at this
    ·exact h _ (by simp[m5 p hp])
   have tx:gq (qs++ps) h1:=λp hp=>(List.mem_append.1 hp).elim (b1 p) (tP p)
   obtain⟨t2,v',r1,f4,f5,k1,k2⟩:=e1.ju (s':=t1) (qs++ps) (λn hn=>by rw[f3];exact(iK λh=>a3 n h hn).symm) ⟨m4.symm,tx,by rw[m2,b3,wc]⟩;refine⟨t1,t2,q1,r1,fin f1 f2 f3 f5 f4,?_,by rw[m3,k1]⟩;rw[k2,m1,nX,wc]
inductive eB (c1:bS) (cx:cA) (s0:Nat):List (Nat×au×bn)->St->St->Prop
 |nil {s s':St} (h:SE s s'):eB c1 cx s0 [] s s'
 |cons {i:Nat} {o:au} {f:bn} {r:List (Nat×au×bn)} {s s1 s':St} (e:kP c1 cx (s0+i) o f s s1)
   (hr:eB c1 cx s0 r s1 s'):eB c1 cx s0 ((i,o,f)::r) s s'
theorem eB.ext {s0:Nat} {l:List (Nat×au×bn)} {s t s':St} (h:eB c1 cx s0 l s s') (e:SE s t):eB c1 cx s0 l t s':=by
 induction h generalizing t with
 |nil h=>exact .nil (e.symm.trans h)
 |cons e1 _ ih=>
  obtain⟨t1,e2,e4⟩:=e1.ext e;exact .cons e2 (ih e4)
def ru (x y:Nat×au×bn):Prop:=gf x.2.1 y.2.1=true/\c9 x.2.2 y.2.2=false
theorem eB.front (hm:eO cx) {s0:Nat} {x:Nat×au×bn} {l2:List (Nat×au×bn)} {s':St}:∀(l1:List (Nat×au×bn)) (s:St),eB c1 cx s0 (l1++x::l2) s s'->(∀y ∈ l1,ru y x)->
  ∃s1,kP c1 cx (s0+x.1) x.2.1 x.2.2 s s1/\eB c1 cx s0 (l1++l2) s1 s'
 |[],s,h,_=>by
  cases h with
  |cons e hr=>exact⟨_,e,hr⟩
 |y::l1,s,h,ha=>by
  cases h with
  |cons e hr=>
   obtain⟨t1,e2,r2⟩:=eB.front hm l1 _ hr λz hz=>ha z (by simp[hz])
   obtain⟨h1,h2⟩:=ha _ (List.mem_cons_self ..);obtain⟨u1,u2,e3,e5,e7⟩:=swap hm e e2 h1 h2;exact⟨u1,e3,.cons e5 (r2.ext e7)⟩
end
def nQ (c c':bS):Prop:=∀f U hp p,c f U hp=some p->c' f U hp=some p
def qG (c c':cA):Prop:=∀f U hp nx p,c f U hp nx=some p->c' f U hp nx=some p
def jS {α:Type} (m m':M α):Prop:=∀h p,m.run h=some p->m'.run h=some p/\m'.bz h=m.bz h
theorem jS.refl {α:Type} (m:M α):jS m m:=λ_ _ e=>⟨e,rfl⟩
theorem M.rM {α β:Type} (m:M α) (f:α->M β) (h:Hp):(m.bind f).bz h=match m.run h with
  |some (a,h1)=>((m.bz h).1++((f a).bz h1).1,((f a).bz h1).2++(m.bz h).2)
  |none=>m.bz h:=by
 induction m generalizing h with
 |ret a=>simp[M.bind,M.run,M.bz]
 |fail=>simp[M.bind,M.run,M.bz]
 |get id k ih=>
  simp only[M.bind,M.run,M.bz,ih];cases(k (aB.get h id)).run h<;>simp
 |put id o k ih=>
  simp only[M.bind,M.run,M.bz,ih];cases k.run (aB.set h id o)<;>simp
theorem jS.bind {α β:Type} {m m':M α} {f f':α->M β} (h:jS m m') (hf:∀a,jS (f a) (f' a)):jS (m.bind f) (m'.bind f'):=by
 intro g p e;obtain⟨a,h1,e1,e2⟩:=ag e;obtain⟨q1,q2⟩:=h _ _ e1;obtain⟨q3,q4⟩:=hf a _ _ e2;refine⟨by rw[aW,q1];exact q3,?_⟩;rw[M.rM,M.rM,q1,e1];simp only[q2,q4]
theorem jS.lift {α:Type} {x y:Option α} (h:∀a,x=some a->y=some a):jS (M.lift x) (M.lift y):=by
 cases x with
 |none=>intro g p e;exact(ae e).elim
 |some a=>rw[h a rfl];exact .refl _
theorem sC {c c':bS} (h:nQ c c') {slot:Nat} {ρ:aH->AV} (op:jF):jS (bk c slot ρ op) (bk c' slot ρ op):=by
 cases op<;>first | exact .refl _ | skip
 rename_i mode f args;simp only[bk]
 match mode with
 |0=>
  refine .bind (.refl _) λq=>.bind (.refl _) λU=>.bind (.lift λa ha=>?_) λr=>.refl _
  simp only[Option.bind_eq_some_iff]at ha ⊢;obtain⟨p,h1,h2⟩:=ha;exact⟨p,h _ _ _ _ h1,h2⟩
 |_+1=>
  refine .bind (.refl _) λq=>.bind (.refl _) λU=>.bind (.lift λa ha=>?_) λr=>.refl _
  simp only[Option.bind_eq_some_iff]at ha ⊢;obtain⟨p,h1,h2⟩:=ha;exact⟨p,h _ _ _ _ h1,h2⟩
section
variable {c c':bS} {x x':cA}
theorem pF (h:nQ c c') (hx:qG x x') {slot:Nat} {o:au} {s s1:St} (e:step c x slot o s=some s1):step c' x' slot o s=some s1/\bu c' slot o s s1.hp=bu c slot o s s1.hp:=by
 unfold step at e ⊢;unfold bu;cases hw:bG s.fr o.gd with
 |none=>rw[hw]at e;cases e
 |some b=>
  rw[hw]at e;cases b with
  |false=>exact⟨e,rfl⟩
  |true=>
   simp only[]at e ⊢;cases hs:dI o.op with
   |some fa=>
    rw[hs]at e;simp only[]at e ⊢;cases dw:callee (ev s.fr fa.1)with
    |none=>rw[dw]at e;cases e
    |some q=>
     rw[dw]at e;simp only[]at e ⊢;cases hr:x q.1 (q.2.1++(fa.2.map (ev s.fr)++q.2.2)) s.hp s.nx with
     |none=>rw[hr]at e;cases e
     |some p=>
      rw[hr]at e;rw[hx _ _ _ _ _ hr];exact⟨e,trivial⟩
   |none=>
    rw[hs]at e;simp only[]at e ⊢;cases hr:(bk c slot (ev s.fr) o.op).run s.hp with
    |none=>rw[hr]at e;cases e
    |some p=>
     obtain⟨q1,q2⟩:=sC h o.op _ _ hr;rw[hr]at e;rw[q1,q2];exact⟨e,rfl⟩
theorem oM (h:nQ c c') (hx:qG x x'):∀(ops:List au) (slot:Nat) (s s1:St),aX c x ops slot s=some s1->aX c' x' ops slot s=some s1
 |[],slot,s,s1,e=>e
 |o::r,slot,s,s1,e=>by
  simp only[aX]at e ⊢;cases h1:step c x slot o s with
  |none=>rw[h1]at e;cases e
  |some s2=>
   rw[h1]at e;rw[(pF h hx h1).1];exact oM h hx r _ _ _ e
theorem we (h:nQ c c') (hx:qG x x'):∀(ops:List au) (slot:Nat) (s:St) (p:St×List bn),bC c x ops slot s=some p->bC c' x' ops slot s=some p
 |[],slot,s,p,e=>e
 |o::r,slot,s,p,e=>by
  simp only[bC]at e ⊢;cases h1:step c x slot o s with
  |none=>rw[h1]at e;cases e
  |some s2=>
   obtain⟨q1,q2⟩:=pF h hx h1;rw[h1]at e;rw[q1];simp only[]at e ⊢;cases h2:bC c x r (slot+1) s2 with
   |none=>rw[h2]at e;cases e
   |some p2=>
    rw[h2]at e;rw[we h hx r _ _ _ h2,q2];exact e
theorem ux (h:nQ c c') (hx:qG x x') {draw:Bool} {ops:List au} {keep:List Nat} {s s1:St} (e:aO c x draw ops keep s=some s1):aO c' x' draw ops keep s=some s1:=by
 unfold aO at e ⊢;cases draw with
 |false=>
  simp only[Bool.false_eq_true,if_false]at e ⊢;cases h1:aX c x ops s.nx { s with nx:=s.nx+ops.length } with
  |none=>rw[h1]at e;cases e
  |some s2=>
   rw[h1]at e;rw[oM h hx ops _ _ _ h1];exact e
 |true=>
  simp only[if_true]at e ⊢;cases h1:bC c x ops s.nx { s with nx:=s.nx+ops.length } with
  |none=>rw[h1]at e;cases e
  |some s2=>
   rw[h1]at e;rw[we h hx ops _ _ _ h1];exact e
theorem mX {f f':St->Option (Ex×St)} (h:∀s r,f s=some r->f' s=some r) {keep:List Nat}:∀(m m':Nat) (s:St) (r:Ex×St),m<=m'->iter f keep m s=some r->iter f' keep m' s=some r
 |0,_,s,r,_,e=>by simp[iter]at e
 |m+1,m',s,r,hm,e=>by
  obtain⟨m',rfl⟩:∃k,m'=k+1:=⟨m' - 1,by omega⟩;simp only[iter]at e ⊢;cases h1:f s with
  |none=>rw[h1]at e;cases e
  |some p=>
   obtain⟨ex,s1⟩:=p;rw[h1]at e;rw[h _ _ h1];cases ex with
   |norm=>exact mX h m m' _ r (by omega) e
   |exit i=>exact e
   |ret=>exact e
theorem mY (h:nQ c c') (hx:qG x x') {n n':Nat} (hn:n<=n'):∀(ic:IC) (s:St) (r:Ex×St),aA c x n ic s=some r->aA c' x' n' ic s=some r:=by
 intro ic
 induction ic with
 |skip=>exact λs r e=>e
 |exit id=>exact λs r e=>e
 |ret=>exact λs r e=>e
 |stop=>exact λs r e=>e
 |scope b ih=>
  intro s r e;simp only[aA]at e ⊢;exact ih s r e
 |gm draw ops keep=>
  intro s r e;simp only[aA,Option.map_eq_some_iff]at e ⊢;obtain⟨s1,h1,h2⟩:=e;exact⟨s1,ux h hx h1,h2⟩
 |seq a b oN oO=>
  intro s r e;simp only[aA]at e ⊢;cases h1:aA c x n a s with
  |none=>rw[h1]at e;cases e
  |some p=>
   obtain⟨ex,s1⟩:=p;rw[h1]at e;rw[oN _ _ h1];cases ex with
   |norm=>exact oO _ _ e
   |exit i=>exact e
   |ret=>exact e
 |cond d a b oN oO=>
  intro s r e;simp only[aA]at e ⊢;generalize ev s.fr d=v at e;split at e
  ·rename_i t;cases t with
   |true=>exact oN _ _ e
   |false=>exact oO _ _ e
  ·cases e
 |block id b ih=>
  intro s r e;simp only[aA]at e ⊢;cases h1:aA c x n b s with
  |none=>rw[h1]at e;cases e
  |some p=>
   rw[h1]at e;rw[ih _ _ h1];exact e
 |loop keep b ih=>
  intro s r e;simp only[aA]at e ⊢;exact mX ih n n' _ r hn e
end
def pb (p:bS->cA->List AV->Hp->Nat->Option (AV×Hp×Nat)):Prop:=∀c c' x x',nQ c c'->qG x x'->∀args h nx r,p c x args h nx=some r->p c' x' args h nx=some r
def bX (prog:Nat->Option al):Prop:=∀f ir p,prog f=some ir->ir.iT=some p->pb p
theorem pc {prog:Nat->Option al} (hp:bX prog) {c c':bS} (hc:nQ c c'):∀(n n':Nat),n<=n'->qG (bg c prog n) (bg c' prog n')
 |0,_,_=>λf U hp nx p e=>by simp[bg]at e
 |n+1,n',hn=>by
  obtain⟨n',rfl⟩:∃k,n'=k+1:=⟨n' - 1,by omega⟩;have ih:=pc hp hc n n' (by omega);intro f U h nx p e;simp only[bg]at e ⊢;cases hf:prog f with
  |none=>rw[hf]at e;cases e
  |some fn=>
   rw[hf]at e;simp only[]at e ⊢;cases dw:fn.iT with
   |some q=>rw[dw]at e;exact hp f fn q hf dw _ _ _ _ hc ih _ _ _ _ e
   |none=>
    rw[dw]at e;simp only[]at e ⊢;split at e
    ·rename_i hl;rw[if_pos hl];cases h1:aA c (bg c prog n) n fn.body ⟨params U 0,h,nx⟩with
     |none=>rw[h1]at e;cases e
     |some q=>
      rw[h1]at e;rw[mY hc ih (by omega) _ _ _ h1];exact e
    ·cases e
theorem one_le {p1:Nat->Option ao.al} {n n':Nat} (hn:n<=n'):nQ (ao.bg p1 n) (ao.bg p1 n'):=λ_ _ _ _ e=>ao.qx n n' hn _ _ _ _ e
section
variable {p1:Nat->Option ao.al} {p2:Nat->Option al}
def one (p1:Nat->Option ao.al) (n:Nat):bS:=ao.bg p1 n
def cm (p1:Nat->Option ao.al) (p2:Nat->Option al) (n:Nat):cA:=bg (one p1 n) p2 n
def Ev (p1:Nat->Option ao.al) (p2:Nat->Option al) (f:Nat) (args:List AV) (hp:Hp) (nx:Nat) (p:AV×Hp×Nat):Prop:=∃K,∀n,K<=n->cm p1 p2 n f args hp nx=some p
def Wp (p1:Nat->Option ao.al) (p2:Nat->Option al) (c:IC) (s:St) (Q:Ex->St->Prop):Prop:=∃K ex s',(∀n,K<=n->aA (one p1 n) (cm p1 p2 n) n c s=some (ex,s'))/\Q ex s'
def Ex.then (k:St->Prop) (Q:Ex->St->Prop):Ex->St->Prop
 |.norm,s=>k s
 |e,s=>Q e s
def Ex.inBlock (id:Nat) (Q:Ex->St->Prop):Ex->St->Prop
 |.exit i,s=>if i=id then Q .norm s else Q (.exit i) s
 |e,s=>Q e s
theorem Wp.mono {c:IC} {s:St} {Q Q':Ex->St->Prop} (h:Wp p1 p2 c s Q) (hq:∀e s,Q e s->Q' e s):Wp p1 p2 c s Q':=by
 obtain⟨K,ex,s',h,q⟩:=h;exact⟨K,ex,s',h,hq _ _ q⟩
theorem dt {s:St} {Q:Ex->St->Prop} (h:Q .norm s):Wp p1 p2 .skip s Q:=⟨0,_,_,λ_ _=>rfl,h⟩
theorem ki {id:Nat} {s:St} {Q:Ex->St->Prop} (h:Q (.exit id) s):Wp p1 p2 (.exit id) s Q:=⟨0,_,_,λ_ _=>rfl,h⟩
theorem cB {s:St} {Q:Ex->St->Prop} (h:Q .ret s):Wp p1 p2 .ret s Q:=⟨0,_,_,λ_ _=>rfl,h⟩
theorem aU {a b:IC} {s:St} {Q:Ex->St->Prop} (h:Wp p1 p2 a s (Ex.then (λs'=>Wp p1 p2 b s' Q) Q)):Wp p1 p2 (.seq a b) s Q:=by
 obtain⟨K,ex,s',h,q⟩:=h;cases ex with
 |norm=>
  obtain⟨K2,uw,s2,h2,q2⟩:=q;exact⟨max K K2,uw,s2,λn hn=>by simp only[aA,h n (by omega),h2 n (by omega)],q2⟩
 |exit i=>exact⟨K,_,_,λn hn=>by simp only[aA,h n hn],q⟩
 |ret=>exact⟨K,_,_,λn hn=>by simp only[aA,h n hn],q⟩
theorem bL {c:aH} {a b:IC} {s:St} {Q:Ex->St->Prop} {t:Bool} (hc:ev s.fr c = .iv (.bool t)) (h:Wp p1 p2 (if t then a else b) s Q):Wp p1 p2 (.cond c a b) s Q:=by
 obtain⟨K,ex,s',h,q⟩:=h;refine⟨K,ex,s',λn hn=>?_,q⟩;have:=h n hn;cases t<;>simpa[aA,hc]using this
theorem dS {id:Nat} {b:IC} {s:St} {Q:Ex->St->Prop} (h:Wp p1 p2 b s (Ex.inBlock id Q)):Wp p1 p2 (.block id b) s Q:=by
 obtain⟨K,ex,s',h,q⟩:=h;cases ex with
 |norm=>exact⟨K,_,_,λn hn=>by simp only[aA,h n hn],q⟩
 |ret=>exact⟨K,_,_,λn hn=>by simp only[aA,h n hn],q⟩
 |exit i=>
  simp only[Ex.inBlock]at q;by_cases hi:i=id
  ·rw[if_pos hi]at q;exact⟨K,.norm,s',λn hn=>by simp only[aA,h n hn,if_pos hi],q⟩
  ·rw[if_neg hi]at q;exact⟨K,.exit i,s',λn hn=>by simp only[aA,h n hn,if_neg hi],q⟩
theorem bH {draw:Bool} {ops:List au} {keep:List Nat} {s s':St} {Q:Ex->St->Prop} {K:Nat} (h:∀n,K<=n->aO (one p1 n) (cm p1 p2 n) draw ops keep s=some s') (q:Q .norm s'):Wp p1 p2 (.gm draw ops keep) s Q:=
 ⟨K,_,_,λn hn=>by simp only[aA,h n hn,Option.map_some],q⟩
theorem xb {draw:Bool} {ops:List au} {keep:List Nat} {s s':St} {Q:Ex->St->Prop} (q:Q .norm s') (h:∀n,0<=n->aO (one p1 n) (cm p1 p2 n) draw ops keep s=some s':=by intro n hn;simp;rfl):Wp p1 p2 (.gm draw ops keep) s Q:=bH (K:=0) h q
theorem nF {draw:Bool} {ops:List au} {keep:List Nat} {s s':St} {Q:Ex->St->Prop} (h:∀{n:Nat},aO (one p1 n) (cm p1 p2 n) draw ops keep s=some s') (q:Q .norm s'):Wp p1 p2 (.gm draw ops keep) s Q:=bH (K:=0) (λ_ _=>h) q
theorem eN {draw:Bool} {ops:List au} {keep:List Nat} {b:IC} {s s':St} {Q:Ex->St->Prop} (h:∀{n:Nat},aO (one p1 n) (cm p1 p2 n) draw ops keep s=some s') (q:Wp p1 p2 b s' Q):Wp p1 p2 (.seq (.gm draw ops keep) b) s Q:=aU (bH (K:=0) (λ_ _=>h) q)
theorem g9 {draw:Bool} {ops:List au} {keep:List Nat} {b:IC} {s s':St} {Q:Ex->St->Prop} {K:Nat} (h:∀n,K<=n->aO (one p1 n) (cm p1 p2 n) draw ops keep s=some s') (q:Wp p1 p2 b s' Q):Wp p1 p2 (.seq (.gm draw ops keep) b) s Q:=aU (bH h q)
theorem pD {keep:List Nat} {b:IC} {s:St} {Q:Ex->St->Prop} (I:Nat->St->Prop) {m:Nat} (h0:I m { s with fr:=bb keep s.fr })
  (round:∀m s1,I m s1->Wp p1 p2 b s1 (Ex.then (λs2=>∃j,j<m/\I j ({ s2 with fr:=bb keep s2.fr })) Q)):Wp p1 p2 (.loop keep b) s Q:=by
 have key:∀m s1,I m s1->∃K ex s',(∀n,K<=n->∀j,K<=j->iter (aA (one p1 n) (cm p1 p2 n) n b) keep j s1=some (ex,s'))/\Q ex s':=by
  intro m
  induction m using Nat.strongRecOn with
  |_ m ih=>
   intro s1 hI;obtain⟨K,ex,s2,h,q⟩:=round m s1 hI;cases ex with
   |norm=>
    obtain⟨j,hj,CI⟩:=q;obtain⟨K2,uw,s3,h2,q2⟩:=ih j hj _ CI;refine⟨max K K2+1,uw,s3,λn hn i hi=>?_,q2⟩;obtain⟨i,rfl⟩:∃i',i=i'+1:=⟨i - 1,by omega⟩;simp only[iter,h n (by omega)];exact h2 n (by omega) i (by omega)
   |exit e=>
    refine⟨K+1,.exit e,s2,λn hn i hi=>?_,q⟩;obtain⟨i,rfl⟩:∃i',i=i'+1:=⟨i - 1,by omega⟩;simp only[iter,h n (by omega)]
   |ret=>
    refine⟨K+1,.ret,s2,λn hn i hi=>?_,q⟩;obtain⟨i,rfl⟩:∃i',i=i'+1:=⟨i - 1,by omega⟩;simp only[iter,h n (by omega)]
 obtain⟨K,ex,s',h,q⟩:=key m _ h0;exact⟨K,ex,s',λn hn=>by simp only[aA];exact h n hn n hn,q⟩
def Fin (res:List dZ) (p:AV×Hp×Nat):Ex->St->Prop
 |.norm,s | .ret,s=>(dk s.fr res).run s.hp=some (p.1,p.2.1)/\s.nx=p.2.2
 |_,_=>False
theorem Ev.at (bD:bX p2) {n f:Nat} {args:List AV} {hp:Hp} {nx:Nat} {p:AV×Hp×Nat} (e:cm p1 p2 n f args hp nx=some p):Ev p1 p2 f args hp nx p:=
 ⟨n,λm hm=>pc bD (one_le hm) n m hm _ _ _ _ _ e⟩
theorem Ev.of (bD:bX p2) {f:Nat} {fn:al} (hf:p2 f=some fn) (dw:fn.iT=none) {args:List AV} (hn:args.length=fn.np) {hp:Hp} {nx:Nat} {p:AV×Hp×Nat} (h:Wp p1 p2 fn.body ⟨params args 0,hp,nx⟩ (Fin fn.res p)):Ev p1 p2 f args hp nx p:=by
 obtain⟨K,ex,s',h,q⟩:=h;refine Ev.at bD (n:=K+1) ?_;have h0:=mY (one_le (p1:=p1) (Nat.le_succ K)) (pc bD (one_le (p1:=p1) (Nat.le_succ K)) K K (Nat.le_refl K)) (Nat.le_refl K) _ _ _ (h K (Nat.le_refl K));unfold cm;simp only[bg,hf,dw,if_pos hn];have h1:aA (one p1 (K+1)) (bg (one p1 (K+1)) p2 K) K fn.body ⟨params args 0,hp,nx⟩=some (ex,s'):=h0;rw[h1];cases ex with
 |norm=>simp only[q.1,q.2]
 |ret=>simp only[q.1,q.2]
 |exit i=>exact q.elim
end
end aB
namespace aB
open Go ao
namespace Prim
abbrev rN:=bS->cA->List AV->Hp->Nat->Option (AV×Hp×Nat)
def clone (e:Nat):rN:=λ_ _ args hp nx=>
 match args with
 |[x]=>match(elems e x).run hp with
  |some (ys,_)=>match ys with
   |[]=>some (.iv (.aq e),hp,nx)
   |ys=>if roomy ys.length&&(get hp (4*(nx+2))).isNone then some (.own (4*(nx+2)) 0 ys.length 0,set hp (4*(nx+2)) (.buf 0 e ys),nx+4) else none
  |none=>none
 |_=>none
def iM (h:Hp):List (AV×AV)->Option Nat
 |[]=>some 0
 |p::r=>match(len false p.2).run h,iM h r with
  |some (.iv (.int _ n),_),some k=>some (n.toNat+k)
  |_,_=>none
def total:rN:=λ_ _ args hp nx=>
 match args with
 |[.iv .bc]=>some (.iv (.int .i64 0),hp,nx)
 |[.ref id 0 0 0]=>match get hp id with
  |some (.cells (_::.ref m 0 0 0::_))=>match get hp m with
   |some (.map aL)=>match iM hp aL with
    |some k=>if Nat.ble k 4611686018427387904 then some (.iv (.int .i64 k),hp,nx) else none
    |none=>none
   |_=>none
  |_=>none
 |_=>none
def rO:List (AV×AV)->Option (List Int)
 |[]=>some []
 |p::r=>match p.1,rO r with
  |.iv (.int .i64 n),some l=>if decide (-9223372036854775808<=n/\n<=9223372036854775807) then some (n::l) else none
  |_,_=>none
def ins (n:Int):List Int->List Int
 |[]=>[n]
 |m::l=>if n<=m then n::m::l else m::ins n l
def apart:List Int->Bool
 |[]=>true
 |n::l=>!l.contains n&&apart l
def sorted (f:Nat):rN:=λ_ _ args hp nx=>
 match args with
 |[.bp g [] [.ref v 0 0 0]]=>if g=f then match get hp v with
  |some (.cells [.ref m 0 0 0])=>match get hp m with
   |some (.map aL)=>match rO aL with
    |some l=>if apart l&&Nat.ble l.length 1000000 then some (.iv (if l.isEmpty then .aq 1 else .sl 1 ((l.foldr ins []).map λn=>[.int .i64 n])),hp,nx) else none
    |none=>none
   |_=>none
  |_=>none
  else none
 |_=>none
end Prim
end aB

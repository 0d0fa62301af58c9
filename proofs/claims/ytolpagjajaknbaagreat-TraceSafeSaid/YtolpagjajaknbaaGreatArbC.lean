/-
  A part of the proof: two abstract machines for the code, and what the program does on them. No condition.
-/
import Derived.Test.YtolpagjajaknbaaGreatArbB
set_option linter.all false
namespace ay
open Go Go.RowKit ao
section
variable {ν:Nat->Nat} {P:Program} {k:Cx} {g:Gh}
def Jn (ν:Nat->Nat) (P:Program) (g:Gh) (v:Value) (e:Nat) (ys:List (List AV)) (news:List Value):Prop:=
 (∀w:World,(∀b off u,g.w.cell? ⟨b,off,none⟩=some u->w.cell? ⟨b,off,none⟩=some u)->(Builtin.lenOf v).run P w = .ok ys.length w/\(Builtin.firstCells e ys.length v).run P w = .ok news.toArray w)/\
 news.length=ys.length*e/\(∀c ∈ ys,c.length=e)/\
 ∀(i j:Nat) (c:List AV) (x:AV),ys[i]?=some c->c[j]?=some x->∃u,news[i*e+j]?=some u/\u.oneCell'=true/\RA ν g u x
def o7 (ν:Nat->Nat) (g:Gh) (v:Value) (e:Nat) (ys:List (List AV)) (news:List Value):Prop:=
 (∃a c,v = .slice a ys.length c/\(ys.length=0\/∃b off,a=some ⟨b,off,none⟩/\∀(p:Nat) (u:Value),news[p]?=some u->g.w.cell? ⟨b,off+p,none⟩=some u))/\
 news.length=ys.length*e/\(∀c ∈ ys,c.length=e)/\
 ∀(i j:Nat) (c:List AV) (x:AV),ys[i]?=some c->c[j]?=some x->∃u,news[i*e+j]?=some u/\u.oneCell'=true/\RA ν g u x
theorem o7.Wq {v:Value} {e:Nat} {ys:List (List AV)} {news:List Value} (h:o7 ν g v e ys news):Jn ν P g v e ys news:=by
 obtain⟨⟨a,c,rfl,ha⟩,hn,hr⟩:=h;refine⟨λw hw=>⟨by simp[Builtin.lenOf],?_⟩,hn,hr⟩;rcases ha with h0 | ⟨b,off,rfl,hc⟩
 ·have:news=[]:=List.eq_nil_of_length_eq_zero (by rw[hn,h0];simp);subst this;cases a with
  |none=>simp[Builtin.firstCells]
  |some a=>simp[Builtin.firstCells,h0,loadCells,loadCellsFrom]
 ·exact run_firstCells_some w e ys.length _ _ _ news hn λj u hu=>by rw[Addr.add_lit];exact hw _ _ _ (hc j u hu)
theorem o8 {b off e m cap:Nat} {ys:List (List AV)} (hm:m=ys.length) (hl:∀c ∈ ys,c.length=e)
  (hc:∀(i j:Nat) (c:List AV) (x:AV),ys[i]?=some c->c[j]?=some x->∃u,g.w.cell? ⟨b,off+i*e+j,none⟩=some u/\u.oneCell'=true/\RA ν g u x) :
  ∃news,o7 ν g (.slice (some ⟨b,off,none⟩) m cap) e ys news:=by
 subst hm;obtain⟨F,hF⟩:=zZ (cs:=ys) (P:=λi (f:Nat->Value) c=>∀(j:Nat) (x:AV),c[j]?=some x->g.w.cell? ⟨b,off+i*e+j,none⟩=some (f j)/\(f j).oneCell'=true/\RA ν g (f j) x)
  λi c qJ=>pick λj x hx=>hc i j c x qJ hx
 obtain⟨news,hn,Ae⟩:=wi (e:=e) (m:=ys.length) (f:=F);refine⟨news,⟨_,cap,rfl,.inr ⟨b,off,rfl,λp u hu=>?_⟩⟩,hn,hl,λi j c x h1 h2=>?_⟩
 ·have hp:=bg hu;rw[hn]at hp;obtain⟨i,j,hi,hj,rfl⟩:=qX hp;rw[Ae i j hi hj]at hu;cases hu;have hle:=hl _ (List.getElem_mem hi);rw[<-Nat.add_assoc];exact(hF i _ (List.getElem?_eq_getElem hi) j _ (List.getElem?_eq_getElem (by omega))).1
 ·have hi:=bg h1;have hj:j<e:=by have:=bg h2;rwa [hl c (List.mem_of_getElem? h1)]at this
  exact⟨_,Ae i j hi hj,(hF i c h1 j x h2).2⟩
theorem lj {v:Value} {e:Nat} {a:Option Addr} {c:Nat} (hv:v = .slice a 0 c):o7 ν g v e [] []:=
 ⟨⟨a,c,hv,.inl rfl⟩,by simp,λc h=>by simp at h,λi j c x h=>by simp at h⟩
theorem rJ (r:Rel ν k g) {e:Nat} {x:AV} {ys:List (List AV)} {h':Hp} (e':(elems e x).run g.h=some (ys,h')) {v:Value} (hv:RA ν g v x):h'=g.h/\∃news,o7 ν g v e ys news:=by
 cases hv with
 |undef=>exact(ah e').elim
 |iQ=>exact(ah e').elim
 |agg=>exact(ah e').elim
 |bD=>exact(ah e').elim
 |ref=>exact(ah e').elim
 |dg=>exact(ah e').elim
 |iv hr=>
  cases hr with
  |aV a _=>obtain⟨rfl,rfl⟩:=ai e';exact⟨rfl,_,lj rfl⟩
  |jg a cap _=>
   obtain⟨-,e2⟩:=M.aL e';obtain⟨rfl,rfl⟩:=ai e2;exact⟨rfl,_,lj rfl⟩
  |sl b off n cap bq es f hI hn jx pU hc hr=>
   obtain⟨he,e2⟩:=M.aL e';obtain⟨rfl,rfl⟩:=ai e2;have fB:bq=e:=by simpa using he
   subst fB;refine⟨rfl,o8 (by simpa using hn) (λc dm=>?_) (λi j c x h1 h2=>?_)⟩
   ·simp only[List.mem_map]at dm;obtain⟨c',dm,rfl⟩:=dm;simpa using pU c' dm
   ·simp only[List.getElem?_map,Option.map_eq_some_iff]at h1;obtain⟨c',h1,rfl⟩:=h1;simp only[List.getElem?_map,Option.map_eq_some_iff]at h2;obtain⟨x',h2,rfl⟩:=h2;exact⟨_,hc i j c' x' h1 h2,(hr i j c' x' h1 h2).one,.iv (hr i j c' x' h1 h2)⟩
  |_=>exact(ah e').elim
 |@own _ id o m aC jV ho=>
  obtain⟨ob,hg,e2⟩:=M.cf e';have fin:∀{L:Nat} {ys:List (List AV)},ys.length=m->(∀c ∈ ys,c.length=e)->
    (∀b,g.φ id=some b->∀(i j:Nat) (c:List AV) (x:AV),ys[i]?=some c->c[j]?=some x->∃u,g.w.cell? ⟨b,(o+i)*e+j,none⟩=some u/\u.oneCell'=true/\RA ν g u x)->
    fq g.w (g.φ id) e L o m v->∃news,o7 ν g v e ys news:=by
   intro L ys vG tD hyc hs;by_cases hm:m=0
   ·subst hm;have:ys=[]:=List.eq_nil_of_length_eq_zero vG;subst this;cases aB:g.φ id with
    |none=>rw[aB]at hs;obtain⟨⟨a,rfl⟩,_⟩:=hs;exact⟨[],lj rfl⟩
    |some b=>rw[aB]at hs;obtain⟨x,cap,rfl,_⟩:=hs;exact⟨[],lj rfl⟩
   ·cases aB:g.φ id with
    |none=>rw[aB]at hs;obtain⟨_,h0,_⟩:=hs;exact absurd h0 hm
    |some b=>
     rw[aB]at hs;obtain⟨x,cap,rfl,h2,_,h3,h4,_⟩:=hs;have hx:x=o*e:=h4.resolve_right λh=>hm h.1
     subst hx;exact o8 vG.symm tD λi j c y h1 h2=>by
      obtain⟨u,hu,hR⟩:=hyc b aB i j c y h1 h2;exact⟨u,by rwa [Nat.add_mul]at hu,hR⟩
  unfold br at ho;rw[hg]at ho;cases ob with
  |map _=>exact ho.elim
  |buf v' bq es=>
   obtain⟨eQ,gV⟩:=M.aL e2;obtain⟨rfl,rfl⟩:=ai gV;simp only[Bool.and_eq_true,beq_iff_eq]at eQ;obtain⟨rfl,rfl⟩:=eQ;have hs:=ho.2 rfl;have hf:=hs.fits;obtain⟨b',h1,_,_,aH⟩:=r.ob id _ hg;exact⟨rfl,fin (by simp;omega) (λc hc=>aH.1 c (List.mem_of_mem_drop (List.mem_of_mem_take hc))) (λb hb i j c x h2 h3=>by
    rw[hb]at h1;cases h1;exact aH.2 _ j c x (nN h2).2 h3) hs⟩
  |cm v' bq es=>
   obtain⟨eQ,gV⟩:=M.aL e2;obtain⟨rfl,rfl⟩:=ai gV;simp only[Bool.and_eq_true,beq_iff_eq]at eQ;obtain⟨rfl,rfl⟩:=eQ;have hs:=ho.2 rfl;have hf:=hs.fits;obtain⟨b',h1,_,aH⟩:=r.ob id _ hg;refine⟨rfl,fin (by simp;omega) (λc hc=>?_) (λb hb i j c x h2 h3=>?_) hs⟩
   ·simp only[List.mem_map]at hc;obtain⟨c',dm,rfl⟩:=hc;simpa using aH.1 c' (List.mem_of_mem_drop (List.mem_of_mem_take dm))
   ·rw[hb]at h1;cases h1;simp only[List.getElem?_map,Option.map_eq_some_iff]at h2;obtain⟨c',h2,rfl⟩:=h2;simp only[List.getElem?_map,Option.map_eq_some_iff]at h3;obtain⟨x',h3,rfl⟩:=h3;obtain⟨u,hu,hR⟩:=aH.2 _ j c' x' (nN h2).2 h3;exact⟨u,hu,hR.one,.iv hR⟩
  |cells cs=>
   obtain⟨eQ,gV⟩:=M.aL e2;obtain⟨rfl,rfl⟩:=ai gV;simp only[Bool.and_eq_true,beq_iff_eq]at eQ;obtain⟨-,rfl⟩:=eQ;have hf:=ho.2.fits;obtain⟨b',h1,_,_,aH⟩:=r.ob id _ hg;refine⟨rfl,fin (by simp;omega) (λc hc=>?_) (λb hb i j c x h2 h3=>?_) ho.2⟩
   ·simp only[List.mem_map]at hc;obtain⟨c',dm,rfl⟩:=hc;rfl
   ·rw[hb]at h1;cases h1;simp only[List.getElem?_map,Option.map_eq_some_iff]at h2;obtain⟨c',h2,rfl⟩:=h2;cases j with
    |succ j=>simp at h3
    |zero=>
     simp at h3;subst h3;have:=aH _ _ (nN h2).2;simpa using this
  |gX cs=>
   obtain⟨eQ,gV⟩:=M.aL e2;obtain⟨rfl,rfl⟩:=ai gV;simp only[Bool.and_eq_true,beq_iff_eq]at eQ;obtain⟨-,rfl⟩:=eQ;have hf:=ho.2.fits;obtain⟨b',h1,_,aH⟩:=r.ob id _ hg;refine⟨rfl,fin (by simp;omega) (λc hc=>?_) (λb hb i j c x h2 h3=>?_) ho.2⟩
   ·simp only[List.mem_map]at hc;obtain⟨c',dm,rfl⟩:=hc;rfl
   ·rw[hb]at h1;cases h1;simp only[List.getElem?_map,Option.map_eq_some_iff]at h2;obtain⟨c',h2,rfl⟩:=h2;cases j with
    |succ j=>simp at h3
    |zero=>
     simp at h3;subst h3;obtain⟨u,hu,hR⟩:=aH _ _ (nN h2).2;exact⟨u,by simpa using hu,hR.one,.iv hR⟩
theorem LL (r:Rel ν k g) {e:Nat} {x:AV} {ys:List (List AV)} {h':Hp} (e':(kO e x).run g.h=some (ys,h')) {v:Value} (hv:RA ν g v x):h'=g.h/\∃news,Jn ν P g v e ys news:=by
 unfold kO at e';split at e'
 ·rename_i s;obtain⟨he,e2⟩:=M.aL e';obtain⟨rfl,rfl⟩:=ai e2;have fB:e=1:=by simpa using he
  subst fB;obtain rfl:=hv.str;refine⟨rfl,s.data.toList.map λb=>.int .u8 b.toNat,λw _=>⟨by simp[Builtin.lenOf,nM],?_⟩,by simp[nM],λc hc=>?_,λi j c x h1 h2=>?_⟩
  ·have hx:s.extract 0 (nM s).length=s:=by
    have:(nM s).length=s.size:=by simp[nM]
    rw[this];apply ByteArray.ext;simp
   simp only[Builtin.firstCells,hx];simp[Array.ext_iff]
  ·simp only[nM,List.mem_map]at hc;obtain⟨b,_,rfl⟩:=hc;rfl
  ·simp only[nM,List.getElem?_map,Option.map_eq_some_iff]at h1;obtain⟨b,hb,rfl⟩:=h1;cases j with
   |succ j=>simp at h2
   |zero=>
    simp at h2;subst h2;exact⟨.int .u8 b.toNat,by simp[hb],rfl,.iv (.int _ _)⟩
 ·obtain⟨h1,news,h2⟩:=rJ r e' hv;exact⟨h1,news,h2.Wq⟩
theorem j0 {t u ty:TypeId} {e:Nat} (ht:wj P t u e=true) {base:Option Addr} {n cap:Nat} {olds:List Value} (kr:olds.length=n*e)
  (ho:n=0\/∃b x,base=some ⟨b,x,none⟩/\∀(p:Nat) (u:Value),olds[p]?=some u->g.w.cell? ⟨b,x+p,none⟩=some u) {y:Value} {ys:List (List AV)} {news:List Value} (hy:Jn ν P g y e ys news)
  (iM:cap<n+ys.length->n+ys.length<=1073741824) :
  (n+ys.length<=cap/\∀R,(match base with | some a=>(storeCells (a.add (n*e)) news).run P g.w | none=>.ok () g.w) = .ok () R->
    (Builtin.append_ #[t,u] ty #[.slice base n cap,y]).run P g.w = .ok (.slice base (n+ys.length) cap) R)\/
  (cap<n+ys.length/\∃(el gC:Nat) (arr:Array Value),P.underlying t=some (.slice el)/\n+ys.length<=gC/\arr.size=gC*e/\(∀(p:Nat) (x:Value),(olds++news)[p]?=some x->arr[p]?=some x)/\
    (Builtin.append_ #[t,u] ty #[.slice base n cap,y]).run P g.w = .ok (.slice (some ⟨g.w.heap.size,0,none⟩) (n+ys.length) gC) (g.w.drew.alloc (.cells arr el))):=by
 obtain⟨el,d,i,z,hu,hd,Lm,hi,rfl,hb,hz,wk,pY⟩:=Cj ht;obtain⟨f1,f2⟩:=hy.1 g.w λ_ _ _ h=>h
 by_cases hc:n+ys.length<=cap
 ·refine .inl ⟨hc,λR hR=>?_⟩;cases base with
  |none=>
   simp only[Result.ok.injEq,true_and]at hR;subst hR;simp[Builtin.append_,run_underlying hu,run_underlying hd,run_sizeOf hi,f1,f2,hc]
  |some a=>
   simp only[]at hR;simp[Builtin.append_,run_underlying hu,run_underlying hd,run_sizeOf hi,f1,f2,hc,hR]
 ·have iM:=iM (by omega);refine .inr ⟨by omega,el,grownCap g.w (n+ys.length) cap el,olds.toArray++news.toArray++Builtin.zeroCells z.cells (grownCap g.w (n+ys.length) cap el - (n+ys.length)),hu,grownCap_ge _ _ _ _,?_,?_,?_⟩
  ·have:=grownCap_ge g.w (n+ys.length) cap el;simp only[Array.size_append,List.size_toArray];rw[size_zeroCells,wk,kr,hy.2.1,<-Nat.add_mul,<-Nat.add_mul];congr 1;omega
  ·intro p x hx;have hp:=bg hx;rw[Array.getElem?_append_left (by simpa using hp)];simpa using hx
  ·obtain⟨-,SA⟩:=hy.1 g.w.drew λ_ _ _ h=>h
   have hold:(Builtin.firstCells i.size n (.slice base n cap)).run P g.w.drew = .ok olds.toArray g.w.drew:=by
    rcases ho with h0 | ⟨b,x,rfl,mH⟩
    ·have:olds=[]:=List.eq_nil_of_length_eq_zero (by rw[kr,h0];simp);subst this;cases base with
     |none=>simp[Builtin.firstCells]
     |some a=>simp[Builtin.firstCells,h0,loadCells,loadCellsFrom]
    ·exact run_firstCells_some g.w.drew i.size n _ _ _ olds kr λj x hx=>by rw[Addr.add_lit];exact mH j x hx
   have jx:=rK (need:=n+ys.length) (cap:=cap) (bytes:=i.bytes) (by omega) iM hb;have h48:¬(281474976710656<Builtin.nextslicecap (n+ys.length) cap*i.bytes):=by omega
   have vD:¬((9223372036854775807:Int)<(n:Int)+ys.length):=by omega
   simp[Builtin.append_,run_underlying hu,run_underlying hd,run_sizeOf hi,f1,hc,vD,typeInfo,hi,h48,Question.forced,hold,SA,zeroValue,hz,newRow,grownCap];congr 2;apply Array.ext';simp
theorem D9 (r:Rel ν k g) {slot:Nat} {t u ty:TypeId} {e:Nat} (ht:wj P t u e=true) {byte:Bool} (PM:byte=true->P.underlying t=some (.slice (ν wO))) {v yv:Value} {x y z:AV} (hv:RA ν g v x) (Ln:RA ν g yv y) {h':Hp}
  (e':(app e slot byte x y).run g.h=some (z,h')):dj ν k g h' z ((Builtin.append_ #[t,u] ty #[v,yv]).run P g.w):=by
 obtain⟨ys,h1,e1,e2⟩:=aw e';obtain⟨rfl,news,hy⟩:=LL (P:=P) r e1 Ln;have tC:=hy.2.1;have tD:=hy.2.2.1;have tE:=hy.2.2.2;have PN:∀u ∈ news,u.oneCell'=true:=by
  intro u hu;obtain⟨p,hp⟩:=List.getElem?_of_mem hu;have bC:=bg hp;rw[tC]at bC;obtain⟨i,j,hi,hj,rfl⟩:=qX bC;have hle:=tD _ (List.getElem_mem hi);obtain⟨u',jW,h1,_⟩:=tE i j _ _ (List.getElem?_eq_getElem hi) (List.getElem?_eq_getElem (by omega));rw[hp]at jW;cases jW;exact h1
 cases hv with
 |undef=>exact(ah e2).elim
 |iQ=>exact(ah e2).elim
 |agg=>exact(ah e2).elim
 |bD=>exact(ah e2).elim
 |ref=>exact(ah e2).elim
 |dg=>exact(ah e2).elim
 |iv hr=>
  cases hr with
  |aV a _=>
   simp only[]at e2;split at e2
   ·rename_i h0;have h0:ys=[]:=by simpa using h0
    subst h0;obtain⟨rfl,rfl⟩:=ai e2;have mO:news=[]:=List.eq_nil_of_length_eq_zero (by simpa using tC);subst mO;rcases j0 (ty:=ty) (base:=a) (n:=0) (cap:=0) (olds:=[]) ht (by simp) (.inl rfl) hy (by simp)with⟨hc,cP⟩|⟨hc,_⟩
    ·exact .same r (cP g.w (by cases a<;>simp[storeCells])) (.iv (.aV _ _))
    ·simp at hc
   ·rename_i h0;obtain⟨iM,e4⟩:=M.aL e2;obtain⟨_,h3,e5,e6⟩:=aw e4;obtain⟨hf,rfl⟩:=M.fC e5;obtain⟨_,h4,e7,e8⟩:=aw e6;obtain rfl:=bV e7;obtain⟨rfl,rfl⟩:=ai e8;have l9:0+ys.length<=1073741824:=by simpa[roomy]using iM
    rcases j0 (ty:=ty) (base:=a) (n:=0) (cap:=0) (olds:=[]) ht (by simp) (.inl rfl) hy (λ_=>l9)with⟨hc,_⟩|⟨hc,el,gC,arr,fp,h1,h2,h3,cP⟩
    ·exact absurd (List.eq_nil_of_length_eq_zero (show ys.length=0 by omega)) (by simpa using h0)
    ·simp only[Nat.zero_add,List.nil_append]at *;rw[cP];exact wQ r (.inr rfl) hf (by
      cases byte with
      |false=>left;simp
      |true=>
       right;have:=PM rfl;rw[fp]at this;refine⟨by simp,?_⟩;cases this;rfl) rfl tD h1 h2 λi j c x hi hj=>by
      obtain⟨u,hu,h4,h5⟩:=tE i j c x hi hj;exact⟨u,h3 _ _ hu,h4,h5⟩
  |_=>exact(ah e2).elim
 |@own _ id o n aC jV ho=>
  obtain⟨ob,hg,e4⟩:=M.cf e2;unfold br at ho;rw[hg]at ho;cases ob with
  |cells _=>exact(ah e4).elim
  |gX _=>exact(ah e4).elim
  |cm _ _ _=>exact(ah e4).elim
  |map _=>exact(ah e4).elim
  |buf v' bq es=>
   obtain⟨cg,e6⟩:=M.aL e4;simp only[Bool.and_eq_true,beq_iff_eq]at cg;obtain⟨rfl,rfl⟩:=cg;have hs:=ho.2 rfl;obtain⟨b,aB,eU,dP,aH⟩:=r.ob id _ hg;rw[aB]at hs;obtain⟨x,cap,rfl,q2,qL,q3,q4,q5⟩:=hs;obtain⟨V,hV⟩:=uI aH;obtain⟨olds,kr,holds⟩:=wi (e:=bq) (m:=n) (f:=λi j=>V (o+i) j);have iu:n=0\/∃b' x',some (⟨b,x,none⟩:Addr)=some ⟨b',x',none⟩/\∀(p:Nat) (u:Value),olds[p]?=some u->g.w.cell? ⟨b',x'+p,none⟩=some u:=by
    by_cases hn:n=0
    ·exact .inl hn
    ·have hx:x=o*bq:=q4.resolve_right λh=>hn h.1
     refine .inr ⟨b,x,rfl,λp u hp=>?_⟩;have bC:=bg hp;rw[kr]at bC;obtain⟨i,j,hi,hj,rfl⟩:=qX bC;rw[holds i j hi hj]at hp;cases hp;have qJ:es[o+i]?=some es[o+i]:=List.getElem?_eq_getElem (by omega);have hle:=aH.1 _ (List.getElem_mem (show o+i<es.length by omega));have:=(hV (o+i) j _ _ qJ (List.getElem?_eq_getElem (by omega))).1;rw[hx,<-Nat.add_assoc,<-Nat.add_mul];exact this
   split at e6
   ·
    rename_i eR;obtain⟨_,h4,e7,e8⟩:=aw e6;obtain rfl:=bV e7;obtain⟨rfl,rfl⟩:=ai e8;rcases j0 (ty:=ty) (base:=some ⟨b,x,none⟩) (n:=n) (cap:=cap) (olds:=olds) ht kr iu hy (λh=>by omega)with⟨hc,cP⟩|⟨hc,_⟩
    ·by_cases hk:ys.length=0
     ·have h0:ys=[]:=List.eq_nil_of_length_eq_zero hk;subst h0;have mO:news=[]:=List.eq_nil_of_length_eq_zero (by simpa using tC);subst mO;have qY:=cP g.w (by simp[storeCells]);have Cm:bl es (o+n) []=es:=by simp[bl]
      rw[Cm];have jz:=r.put (id:=id) (v:=v') (e:=bq) (b:=b) (off:=0) (v':=v') (es:=es) (es':=es) (vs:=[]) hg aB (λj hj=>by simp at hj) (.inl ⟨rfl,rfl⟩) (λg' hw hm=>aH.mono hm λoff v hc=>by rw[hw];exact hc);refine⟨{ g with w:=g.w.setCells b 0 [],h:=set g.h id (.buf v' bq es) },_,qY,rfl,jz.1,jz.2,.own rfl ?_⟩;unfold br;simp only[ar,aB];exact⟨Nat.le_refl _,λ_=>⟨x,cap,rfl,q2,qL,q3,q4,q5⟩⟩
     ·have hx:x=o*bq:=q4.resolve_right λh=>by have:=h.2.2;omega
      subst hx;have q5:=q5 rfl;have hex:∀j,j<news.length->(g.w.cell? ⟨b,(o+n)*bq+j,none⟩).isSome=true:=λj hj=>q5 _ (by
       have:(o+n)*bq+ys.length*bq<=(o+cap)*bq:=by rw[<-Nat.add_mul];exact Nat.mul_le_mul_right _ (by omega)
       omega)
      have oR:=run_storeCells_cells (P:=P) b ((o+n)*bq) news 0 g.w (by simpa using hex) (λ_ _=>dP.2 _) PN;have qY:=cP (g.w.setCells b ((o+n)*bq) news) (by simp only[Addr.add_lit,<-Nat.add_mul];simpa using oR);have jz:=r.put (id:=id) (v:=v') (e:=bq) (b:=b) (off:=(o+n)*bq) (v':=v') (es:=es) (es':=bl es (o+n) ys) (vs:=news) hg aB hex (.inl ⟨rfl,(gm _ _ _ eR).symm⟩) (λg' hw hm=>by
       refine⟨λc hc=>?_,λi j c x hi hj=>?_⟩
       ·simp only[bl,List.mem_append]at hc;rcases hc with(h | h) | h
        ·exact aH.1 c (List.mem_of_mem_take h)
        ·exact tD c h
        ·exact aH.1 c (List.mem_of_mem_drop h)
       ·rw[hw,gn _ _ _ _ hex];rw[lh _ _ _ eR]at hi;split at hi
        ·rename_i eV;obtain⟨w,Av,h5,hR⟩:=tE (i - (o+n)) j c x hi hj;have bC:=bg Av;have:(o+n)*bq+(i - (o+n))*bq=i*bq:=by rw[<-Nat.add_mul];congr 1;omega
         rw[if_pos (by omega),show i*bq+j - (o+n)*bq=(i - (o+n))*bq+j by omega];exact⟨w,Av,h5,hm _ _ hR⟩
        ·rename_i eV;have wm:=aH.len hi hj;have ga:¬((o+n)*bq<=i*bq+j/\i*bq+j<(o+n)*bq+news.length):=by
          intro⟨ha,hb⟩;rw[tC]at hb;rcases Nat.lt_or_ge i (o+n)with bC | ye
          ·have:i*bq+bq<=(o+n)*bq:=by rw[<-Nat.succ_mul];exact Nat.mul_le_mul_right _ bC
           omega
          ·have:(o+n)*bq+ys.length*bq<=i*bq:=by rw[<-Nat.add_mul];exact Nat.mul_le_mul_right _ (by omega)
           omega
         rw[if_neg ga];obtain⟨w,Av,h5,hR⟩:=aH.2 i j c x hi hj;exact⟨w,Av,h5,hm _ _ hR⟩)
      refine⟨_,_,qY,rfl,jz.1,jz.2,.own rfl ?_⟩;unfold br;simp only[ar,aB];rw[gm _ _ _ eR];exact⟨Nat.le_refl _,λ_=>⟨_,cap,rfl,by omega,by omega,by omega,.inl rfl,λ_ c hc=>jR _ _ _ _ hex _ (q5 c hc)⟩⟩
    ·omega
   ·
    rename_i eR;obtain⟨cg,e8⟩:=M.aL e6;obtain⟨_,h5,e9,gV⟩:=aw e8;obtain rfl:=bV e9;obtain⟨rfl,rfl⟩:=ai gV;simp only[Bool.and_eq_true,beq_iff_eq,Bool.or_eq_true]at cg;obtain⟨⟨rfl,iM⟩,Wr⟩:=cg;have l9:n+ys.length<=1073741824:=by simpa[roomy]using iM
    have hx:x=0:=by
     rcases q4 with h | h
     ·simpa using h
     ·exact absurd rfl h.2.1
    subst hx;have q5:=q5 (by simp);have Ck:(es.take n).length=n:=by simp;omega
    rcases j0 (ty:=ty) (base:=some ⟨b,0,none⟩) (n:=n) (cap:=cap) (olds:=olds) ht kr iu hy (λ_=>l9)with⟨hc,cP⟩|⟨hc,el,gC,arr,fp,h1,h2,h3,cP⟩
    ·
     have hex:∀j,j<news.length->(g.w.cell? ⟨b,n*bq+j,none⟩).isSome=true:=λj hj=>q5 _ (by
      have:n*bq+ys.length*bq<=cap*bq:=by rw[<-Nat.add_mul];exact Nat.mul_le_mul_right _ hc
      rw[Nat.zero_add];omega)
     have oR:=run_storeCells_cells (P:=P) b (n*bq) news 0 g.w (by simpa using hex) (λ_ _=>dP.2 _) PN;have qY:=cP (g.w.setCells b (n*bq) news) (by simpa[Addr.add_lit]using oR);have jz:=r.put (id:=id) (v:=v') (e:=bq) (b:=b) (off:=n*bq) (v':=v'+1) (es:=es) (es':=es.take n++ys) (vs:=news) hg aB hex (.inr rfl) (λg' hw hm=>by
      refine⟨λc hc=>?_,λi j c x hi hj=>?_⟩
      ·rcases List.mem_append.1 hc with h | h
       ·exact aH.1 c (List.mem_of_mem_take h)
       ·exact tD c h
      ·rw[hw,gn _ _ _ _ hex];rw[List.getElem?_append]at hi;simp only[Ck]at hi;split at hi
       ·rename_i eV;rw[List.getElem?_take,if_pos eV]at hi;have wm:=aH.len hi hj;have:i*bq+bq<=n*bq:=by rw[<-Nat.succ_mul];exact Nat.mul_le_mul_right _ eV
        rw[if_neg (by omega)];obtain⟨w,hw,h5,hR⟩:=aH.2 i j c x hi hj;exact⟨w,hw,h5,hm _ _ hR⟩
       ·rename_i eV;obtain⟨w,hw,h5,hR⟩:=tE (i - n) j c x hi hj;have bC:=bg hw;have:n*bq+(i - n)*bq=i*bq:=by rw[<-Nat.add_mul];congr 1;omega
        rw[if_pos (by omega),show i*bq+j - n*bq=(i - n)*bq+j by omega];exact⟨w,hw,h5,hm _ _ hR⟩)
     refine⟨_,_,qY,rfl,jz.1,jz.2,.own rfl ?_⟩;unfold br;simp only[ar,aB];refine⟨Nat.le_refl _,λ_=>⟨0,cap,rfl,by simp;omega,by simp;omega,hc,.inl (by simp),λ_ c hc=>jR _ _ _ _ hex _ (q5 c hc)⟩⟩
    ·
     have ht:=r.nq (s:=id) (ob:=.buf (v'+1) bq (es.take n++ys)) (p:=some g.w.heap.size) (w':=g.w.drew.alloc (.cells arr el)) (I':=g.I) hg (λb' h=>by rw[aB]at h;cases h;exact eU) (by simp) rfl rfl rfl
      (λb hb _=>alloc_old g.w.drew _ _ hb) (λ_ h=>h) (λ_ h=>.inl h) (.inr ⟨_,rfl,Nat.le_refl _⟩)
      (λb h=>by
       cases h;rcases Wr with h | ⟨h,hb⟩
       ·exact .zero h
       ·have:=PM hb;rw[fp]at this;cases this;exact⟨by omega,λ_=>⟨_,lR g.w.drew _ _⟩,by omega⟩)
      (λw o n aC h=>by
       unfold br at h ⊢;rw[hg]at h;simp only[ar,aU];have:=h.1;exact⟨by omega,λhe=>by omega⟩)
      (λw aC i j h=>by
       unfold bA at h ⊢;rw[hg]at h;simp only[ar,aU];have:=h.1;exact⟨by omega,λhe=>by omega⟩)
      (λ_ hm=>by
       refine⟨g.w.heap.size,aU _ _ _,λcK=>Nat.lt_irrefl _ (r.small _ cK),⟨by simp,λo=>World.frozen?_alloc_new g.w.drew _ _ _⟩,λc hc=>?_,λi j c x hi hj=>?_⟩
       ·rcases List.mem_append.1 hc with h | h
        ·exact aH.1 c (List.mem_of_mem_take h)
        ·exact tD c h
       ·have key:∃u,(olds++news)[i*bq+j]?=some u/\u.oneCell'=true/\RA ν g u x:=by
         rw[List.getElem?_append]at hi;simp only[Ck]at hi;split at hi
         ·rename_i eV;rw[List.getElem?_take,if_pos eV]at hi;have wm:=aH.len hi hj;have:i*bq+bq<=n*bq:=by rw[<-Nat.succ_mul];exact Nat.mul_le_mul_right _ eV
          refine⟨V i j,?_,(hV i j c x hi hj).2⟩;rw[List.getElem?_append_left (by omega),holds i j eV wm,Nat.zero_add]
         ·rename_i eV;obtain⟨w,hw,h5,hR⟩:=tE (i - n) j c x hi hj;have:n*bq+(i - n)*bq=i*bq:=by rw[<-Nat.add_mul];congr 1;omega
          refine⟨w,?_,h5,hR⟩;rw[List.getElem?_append_right (by omega),kr,show i*bq+j - n*bq=(i - n)*bq+j by omega];exact hw
        obtain⟨u,hu,h5,hR⟩:=key;exact⟨u,by simp only[];rw[show(g.w.drew.alloc (.cells arr el)).cell? ⟨g.w.heap.size,i*bq+j,none⟩=arr[i*bq+j]? from World.cell?_alloc_new g.w.drew _ _ _];exact h3 _ _ hu,h5,hm _ _ hR⟩)
     refine⟨_,_,cP,rfl,ht.1,ht.2,.own rfl ?_⟩;unfold br;simp only[ar,aU];refine⟨Nat.le_refl _,λ_=>⟨0,gC,rfl,by simp;omega,by simp;omega,h1,.inl (by simp),λ_ c hc=>?_⟩⟩;rw[show(g.w.drew.alloc (.cells arr el)).cell? ⟨g.w.heap.size,c,none⟩=arr[c]? from World.cell?_alloc_new g.w.drew _ _ _,Array.getElem?_eq_getElem (by rw[h2];simpa using hc)];rfl
end
section
variable {ν:Nat->Nat} {P:Program} {k:Cx} {g:Gh}
theorem QO (r:Rel ν k g) {t ty:TypeId} {e:Nat} (ht:sliceB P t e=true) {v:Value} {x y:AV} {h':Hp} (hv:RA ν g v x) (e':(pd x).run g.h=some (y,h')):dj ν k g h' y ((Builtin.cap_ #[t] ty #[v]).run P g.w):=by
 obtain⟨el,i,hu,hi,rfl⟩:=ju ht;unfold pd at e';split at e'
 ·obtain⟨rfl,rfl⟩:=ai e';cases hv with
  |iv hr=>
   cases hr with
   |aV a _=>exact .same r (v:=.int .i64 0) (by simp[Builtin.cap_,run_underlying hu,goInt]) mkInt
 ·exact(ah e').elim
theorem EJ (z:Array Value) (n i j:Nat) (v:Value) (hi:i<n) (hj:z[j]?=some v):(Builtin.zeroCells z n)[i*z.size+j]?=some v:=by
 have l7:j<z.size:=(Array.getElem?_eq_some_iff.1 hj).1;have bC:i*z.size+j<n*z.size:=by
  have:(i+1)*z.size<=n*z.size:=Nat.mul_le_mul_right _ hi;rw[Nat.add_mul,Nat.one_mul]at this;omega
 unfold Builtin.zeroCells;rw[Array.getElem?_map,Array.getElem?_eq_getElem (by simpa using bC)];simp only[Array.getElem_range,Option.map_some];have:(i*z.size+j) % z.size=j:=by rw[Nat.add_comm,Nat.add_mul_mod_self_right,Nat.mod_eq_of_lt l7]
 rw[this];simp[l7,(Array.getElem?_eq_some_iff.1 hj).2]
def Dw (P:Program) (t:TypeId) (e:Nat) (z:List AV):Bool:=
 match P.underlying t with
 |some (.slice el)=>Nat.blt 0 e&&(match P.info? el with
  |some i=>i.size==e&&Nat.ble i.bytes 4096&&(match i.zero with | some z=>z.cells.size==e | none=>false)
  |none=>false)&&sH P el z
 |_=>false
theorem Jo {t:TypeId} {e:Nat} {z:List AV} (h:Dw P t e z=true):∃el i z0,P.underlying t=some (.slice el)/\P.info? el=some i/\i.size=e/\i.bytes<=4096/\i.zero=some z0/\z0.cells.size=e/\0<e/\lS z0.cells.toList z=true:=by
 unfold Dw at h;split at h
 case h_2=>cases h
 rename_i el hu;simp only[Bool.and_eq_true,Nat.blt_eq]at h;obtain⟨⟨pY,h3⟩,hz⟩:=h;split at h3
 case h_2=>cases h3
 rename_i i hi;simp only[Bool.and_eq_true,beq_iff_eq,Nat.ble_eq]at h3;obtain⟨⟨h4,hb⟩,h6⟩:=h3;split at h6
 case h_2=>cases h6
 rename_i z0 CA;obtain⟨i',z1,cK,PO,S4⟩:=rf hz;rw[hi]at cK;cases cK;rw[CA]at PO;cases PO;exact⟨el,i,z0,hu,hi,h4,hb,CA,by simpa using h6,pY,S4⟩
theorem wrap_small {m:Int} (h0:0<=m) (h1:m.toNat<=1073741824):IntKind.i64.wrap m=m:=by
 have:m<=1073741824:=by omega
 unfold IntKind.wrap;simp[IntKind.bits,IntKind.signed];omega
theorem QP (r:Rel ν k g) {slot:Nat} {t u ty:TypeId} {e:Nat} {z:List AV} {kd:IntKind} (ht:Dw P t e z=true) (hd:P.underlying u=some (.int kd)) {v yv:Value} {x n y:AV} (hv:RA ν g v x) (Ln:RA ν g yv n) {h':Hp}
  (e':(qt e slot z x n).run g.h=some (y,h')):dj ν k g h' y ((Builtin.append_ #[t,u] ty #[v,yv]).run P g.w):=by
 obtain⟨el,i,z0,hu,hi,rfl,hb,CA,wk,pY,S4⟩:=Jo ht;unfold qt at e';split at e'
 case h_2=>exact(ah e').elim
 rename_i ee;obtain⟨m,h1,e1,e2⟩:=aw e';obtain⟨rfl,kk,rfl⟩:=ki e1;obtain⟨cg,e4⟩:=M.aL e2;simp only[Bool.and_eq_true,decide_eq_true_eq,beq_iff_eq]at cg;obtain⟨⟨h0,iM⟩,wg⟩:=cg;have l9:m.toNat<=1073741824:=by simpa[roomy]using iM
 obtain rfl:=Ln.int;have hw:=wrap_small h0 l9;obtain⟨a,rfl⟩:∃a,v = .slice a 0 0:=by
  cases hv with
  |iv hr=>cases hr with | aV a _=>exact⟨a,rfl⟩
 have h48:¬(281474976710656<m*(i.bytes:Int)):=by
  have h1:m*(i.bytes:Int)<=1073741824*4096:=Int.mul_le_mul (by omega) (by omega) (by omega) (by omega);omega
 split at e4
 ·rename_i EK;subst EK;obtain⟨rfl,rfl⟩:=ai e4;refine .same r (v:=.slice a 0 0) ?_ (.iv (.aV _ _));cases a<;>simp[Builtin.append_,run_underlying hu,run_underlying hd,run_sizeOf hi,asInt,asIntOf,typeInfo,hi,hw,storeCells]
 ·rename_i EK;obtain⟨_,h4,e5,e6⟩:=aw e4;obtain⟨hf,rfl⟩:=M.fC e5;obtain⟨_,h5,e7,e8⟩:=aw e6;obtain rfl:=bV e7;obtain⟨rfl,rfl⟩:=ai e8;have uJ:0<m.toNat:=by omega
  have jx:=rK (need:=m.toNat) (cap:=0) (bytes:=i.bytes) uJ l9 hb;have Zu:¬(281474976710656<Builtin.nextslicecap m.toNat 0*i.bytes):=by omega
  have cA:¬(m.toNat*i.size=0):=by
   intro h;rcases Nat.mul_eq_zero.1 h with h | h<;>omega
  have hgc:m.toNat<=grownCap g.w m.toNat 0 el:=grownCap_ge _ _ _ _;have hold:(Builtin.firstCells i.size 0 (.slice a 0 0)).run P g.w.drew = .ok #[] g.w.drew:=by
   cases a<;>simp[Builtin.firstCells,loadCells,loadCellsFrom]
  have cP:(Builtin.append_ #[t,u] ty #[.slice a 0 0,.int kk m]).run P g.w = .ok (.slice (some ⟨g.w.heap.size,0,none⟩) m.toNat (grownCap g.w m.toNat 0 el))
    (g.w.drew.alloc (.cells ((#[]:Array Value)++Builtin.zeroCells z0.cells m.toNat++Builtin.zeroCells z0.cells (grownCap g.w m.toNat 0 el - m.toNat)) el)):=by
   have jy:¬m<0:=by omega
   have Zv:¬m<=0:=by omega
   have hmx:¬((9223372036854775807:Int)<max m 0):=by omega
   simp[Builtin.append_,run_underlying hu,run_underlying hd,run_sizeOf hi,asInt,asIntOf,typeInfo,hi,hw,jy,Zv,h48,hmx,Zu,Question.forced,hold,cA,zeroValue,CA,newRow,grownCap]
  rw[cP];refine wQ r (.inr rfl) hf (.inl (by omega)) (by simp) (λc hc=>by rw[List.eq_of_mem_replicate hc];exact wg) hgc ?_ λa b c x ha lY=>?_
  ·simp only[Array.size_append,List.size_toArray,List.length_nil,size_zeroCells,wk];rw[Nat.zero_add,<-Nat.add_mul];congr 1;omega
  ·rw[List.getElem?_replicate]at ha;split at ha
   ·rename_i qb;cases ha;obtain⟨-,dt⟩:=pg S4;obtain⟨v,Hk,EL⟩:=dt b x lY;have Hk:z0.cells[b]?=some v:=by simpa using Hk
    obtain⟨k1,k2⟩:=tQ (ν:=ν) EL g;have dc:=EJ z0.cells m.toNat a b v qb Hk;rw[wk]at dc;refine⟨v,?_,k1,k2⟩;rw[Array.empty_append,Array.getElem?_append_left]
    ·exact dc
    ·exact(Array.getElem?_eq_some_iff.1 dc).1
   ·cases ha
end
section
variable {ν:Nat->Nat} {P:Program} {k:Cx} {g:Gh}
theorem uK {t:TypeId} {qs:List Nat} (h:wo P t qs=true):(∃n e,P.underlying t=some (.array n e)/\qs.length=n/\qs.length≠1/\lQ P e 1 false=true/\∀q ∈ qs,kj q (P.underlying e)=true)\/∃q,qs=[q]/\kj q (P.underlying t)=true:=by
 unfold wo at h;split at h
 ·rename_i n e hu;simp only[Bool.and_eq_true,beq_iff_eq,bne_iff_ne,ne_eq,List.all_eq_true]at h;exact .inl ⟨n,e,hu,h.1.1.1,h.1.1.2,h.1.2,h.2⟩
 ·split at h
  ·rename_i q;exact .inr ⟨q,rfl,h⟩
  ·cases h
theorem NI {e:TypeId} (he:lQ P e 1 false=true) {xs ys:Array Value} (d:Nat) (w:World):∀(qs:List Nat) (i:Nat) (cs ds:List AV) (b:Bool),(∀q ∈ qs,kj q (P.underlying e)=true)->eqs qs cs ds=some b->
  (∀(j:Nat) (c:AV),cs[j]?=some c->∃v,xs[i+j]?=some v/\RA ν g v c)->(∀(j:Nat) (c:AV),ds[j]?=some c->∃v,ys[i+j]?=some v/\RA ν g v c)->
  (Op.eqItems (d+1) e 1 xs ys (List.range' i qs.length)).run P w = .ok b w:=by
 intro qs
 induction qs with
 |nil=>
  intro i cs ds b _ h2 _ _;cases cs<;>cases ds<;>simp[eqs]at h2;subst h2;simp[Op.eqItems]
 |cons q qs ih=>
  intro i cs ds b h1 h2 hx hy;cases cs with
  |nil=>simp[eqs]at h2
  |cons c cs=>
   cases ds with
   |nil=>simp[eqs]at h2
   |cons d' ds=>
    simp only[eqs,Option.bind_eq_some_iff]at h2;obtain⟨b1,e1,b2,e2,e3⟩:=h2;cases e3;obtain⟨v,hv,Sp⟩:=hx 0 c rfl;obtain⟨u,hu,Ha⟩:=hy 0 d' rfl;obtain⟨dd,ii,h3,h4,h5,h6,_⟩:=jc he;have Ci:(part e xs (i*1)).run P w = .ok v w:=by simp[part,gB h3,h5,show xs[i]?=some v from hv]
    have bF:(part e ys (i*1)).run P w = .ok u w:=by simp[part,gB h3,h5,show ys[i]?=some u from hu]
    have pY:=v8 (P:=P) e1 (h1 q (by simp)) Sp Ha d w;have hr:=ih (i+1) cs ds b2 (λq hq=>h1 q (by simp[hq])) e2 (λj c hc=>by have:=hx (j+1) c (by simpa using hc);rwa [show i+1+j=i+(j+1) by omega]) (λj c hc=>by
     have:=hy (j+1) c (by simpa using hc);rwa [show i+1+j=i+(j+1) by omega])
    simp only[List.length_cons,List.range'_succ,Op.eqItems,Sem.run_bind,Ci,bF,pY,Result.andThen_ok,Sem.run_ite];cases b1
    ·simp
    ·simp[hr]
theorem yi {e:TypeId} (he:lQ P e 1 false=true):P.cellsOf e=1/\∃i,P.info? e=some i/\i.size=1:=by
 obtain⟨dd,ii,h3,h4,h5,h6,_⟩:=jc he;exact⟨by simp[Program.cellsOf,h4,h6],ii,h4,h6⟩
theorem LM {t:TypeId} {qs:List Nat} (h:wo P t qs=true) {x y:AV} {b:Bool} (e:vQ qs x y=some b) {v u:Value} (hv:RA ν g v x) (hu:RA ν g u y) (w:World):(Op.equal t v u).run P w = .ok b w:=by
 unfold vQ at e;split at e
 ·split at e
  ·cases e
  rename_i cs ds h1;rcases uK h with⟨n,el,pT,rfl,_,he,hq⟩|⟨q,rfl,_⟩
  ·obtain⟨xs,rfl⟩:=hv.lg;obtain⟨ys,rfl⟩:=hu.lg;obtain⟨hc,i,hi,_⟩:=yi he
   show(Op.equalIn (9999+1) t (.agg xs) (.agg ys)).run P w=_
   rw[run_equalIn_array w 9999 xs ys pT hi,hc,List.range_eq_range'];exact NI he 9998 w qs 0 cs ds b hq e (λj c hc=>by simpa using hv.jQ j c hc) (λj c hc=>by simpa using hu.jQ j c hc)
  ·simp at h1
 ·split at e
  case isFalse=>cases e
  rename_i x y h1;rcases uK h with⟨n,el,pT,rfl,cA,_⟩|⟨q,rfl,hq⟩
  ·exact absurd h1 cA
  ·simp only[eqs,Option.bind_eq_some_iff]at e;obtain⟨b1,e1,b2,e2,e3⟩:=e;cases e2;cases e3;have:=v8 (P:=P) e1 hq hv hu 9999 w;simpa[Op.equal,Op.maxDepth]using this
 ·cases e
def pF (es:List MapEntry) (i:Nat):Option (Nat×AV)->Option (Nat×Value)->Prop
 |none,r=>r=none
 |some p,r=>∃e,i<=p.1/\es[p.1 - i]?=some e/\r=some (p.1,e.val)
theorem pF.up {es:List MapEntry} {e:MapEntry} {i:Nat} {a:Option (Nat×AV)} {r:Option (Nat×Value)} (h:pF es (i+1) a r):pF (e::es) i a r:=by
 cases a with
 |none=>exact h
 |some p=>
  obtain⟨e',h1,h2,h3⟩:=h;refine⟨e',by omega,?_,h3⟩;rw[show p.1 - i=(p.1 - (i+1))+1 by omega];simpa using h2
theorem zd {qs:List Nat} {kk:AV}:∀{dh:List (AV×AV)} {i:Nat} {p:Nat×AV},iK qs kk dh i=some (some p)->∃y,i<=p.1/\dh[p.1 - i]?=some (y,p.2)/\vQ qs kk y=some true
 |[],i,p,h=>by simp[iK]at h
 |kv::dh,i,p,h=>by
  unfold iK at h;split at h
  ·rename_i hk;cases h;exact⟨kv.1,Nat.le_refl _,by simp,hk⟩
  ·obtain⟨y,h1,h2,h3⟩:=zd h;refine⟨y,by omega,?_,h3⟩;rw[show p.1 - i=(p.1 - (i+1))+1 by omega];simpa using h2
  ·cases h
def oh (ν:Nat->Nat) (g:Gh) (es:List MapEntry) (dh:List (AV×AV)):Prop:=es.length=dh.length/\∀(j:Nat) (e:MapEntry) (p:AV×AV),es[j]?=some e->dh[j]?=some p->RA ν g e.key p.1
theorem oh.cons {e:MapEntry} {es:List MapEntry} {p:AV×AV} {dh:List (AV×AV)} (h:oh ν g (e::es) (p::dh)):RA ν g e.key p.1/\oh ν g es dh:=
 ⟨h.2 0 e p rfl rfl,by have:=h.1;simpa using this,λj e p h1 h2=>h.2 (j+1) e p (by simpa using h1) (by simpa using h2)⟩
theorem Dm {t:TypeId} {qs:List Nat} (h:wo P t qs=true) {x:AV} {v:Value} (hv:RA ν g v x) (w:World):∀(es:List MapEntry) (dh:List (AV×AV)) (i:Nat) (a:Option (Nat×AV)),oh ν g es dh->iK qs x dh i=some a->
  ∃r,(Instr.findAsking t v es i).run P w = .ok r w/\pF es i a r:=by
 intro es
 induction es with
 |nil=>
  intro dh i a hR hf;obtain rfl:dh=[]:=List.eq_nil_of_length_eq_zero hR.1.symm;simp[iK]at hf;subst hf;exact⟨none,by simp[Instr.findAsking],rfl⟩
 |cons e es ih=>
  intro dh i a hR hf;cases dh with
  |nil=>have:=hR.1;simp at this
  |cons p dh=>
   obtain⟨h0,tH⟩:=hR.cons;unfold iK at hf;split at hf
   ·rename_i hk;cases hf;have:=LM h hk hv h0 w;exact⟨some (i,e.val),by simp[Instr.findAsking,this],e,Nat.le_refl _,by simp,rfl⟩
   ·rename_i hk;have:=LM h hk hv h0 w;obtain⟨r,h1,h2⟩:=ih dh (i+1) a tH hf;exact⟨r,by simp[Instr.findAsking,this,h1],h2.up⟩
   ·cases hf
theorem S5 {q:Nat} {d:TypeDesc} (hq:kj q (some d)=true) {x y:AV} {b:Bool} (e:ly q x y=some b) {v u:Value} (hv:RA ν g v x) (hu:RA ν g u y):Instr.sameNow d v u=some b:=by
 unfold ly at e;split at e
 ·obtain rfl:=hv.int;obtain rfl:=hu.int;obtain⟨kk,h1⟩:=yP hq;cases h1;simp only[Option.ite_none_right_eq_some,Option.some.injEq]at e;obtain⟨hk,rfl⟩:=e;simp[Instr.sameNow,hk]
 ·cases e;obtain rfl:=hv.bool;obtain rfl:=hu.bool;have:=v7 hq;cases this;rfl
 ·cases e;obtain rfl:=hv.str;obtain rfl:=hu.str;have:=yQ hq;cases this;rfl
 ·cases e
theorem Jp {q:Nat} {d:TypeDesc} (hq:kj q (some d)=true) {x:AV} {v:Value} (hv:RA ν g v x):∀(es:List MapEntry) (dh:List (AV×AV)) (i:Nat) (a:Option (Nat×AV)),oh ν g es dh->iK [q] x dh i=some a->
  ∃r,Instr.findNow d v es i=some r/\pF es i a r:=by
 intro es
 induction es with
 |nil=>
  intro dh i a hR hf;obtain rfl:dh=[]:=List.eq_nil_of_length_eq_zero hR.1.symm;simp[iK]at hf;subst hf;exact⟨none,by simp[Instr.findNow],rfl⟩
 |cons e es ih=>
  intro dh i a hR hf;cases dh with
  |nil=>have:=hR.1;simp at this
  |cons p dh=>
   obtain⟨h0,tH⟩:=hR.cons;have key:∀{b:Bool},vQ [q] x p.1=some b->Instr.sameNow d v e.key=some b:=by
    intro b hk;unfold vQ at hk;split at hk
    ·simp at hk
    ·simp only[List.length_singleton,if_true,eqs,Option.bind_eq_some_iff]at hk;obtain⟨b1,e1,b2,e2,e3⟩:=hk;rename_i hp;cases e2;cases e3;rw[<-hp]at e1;simpa using S5 hq e1 hv h0
    ·cases hk
   unfold iK at hf;split at hf
   ·rename_i hk;cases hf;exact⟨some (i,e.val),by simp[Instr.findNow,key hk],e,Nat.le_refl _,by simp,rfl⟩
   ·rename_i hk;obtain⟨r,h1,h2⟩:=ih dh (i+1) a tH hf;exact⟨r,by simp[Instr.findNow,key hk,h1],h2.up⟩
   ·cases hf
theorem Hl {t:TypeId} {qs:List Nat} (h:wo P t qs=true) {x:AV} {v:Value} (hv:RA ν g v x) (w:World) {es:List MapEntry} {dh:List (AV×AV)} {a:Option (Nat×AV)} (hR:oh ν g es dh) (hf:iK qs x dh 0=some a) :
  ∃r,(Instr.findKey t v es).run P w = .ok r w/\pF es 0 a r:=by
 rcases uK h with⟨n,el,pT,_⟩|⟨q,rfl,hq⟩
 ·rw[run_findKey_eq w (by rw[pT])];exact Dm h hv w es dh 0 a hR hf
 ·cases hd:P.underlying t with
  |none=>rw[hd]at hq;simp[kj]at hq
  |some d=>
   rw[hd]at hq;obtain⟨r,h1,h2⟩:=Jp hq hv es dh 0 a hR hf;exact⟨r,Go.MapKept.run_findKey hd h1,h2⟩
theorem yj {q:Nat} {e:TypeId} (hq:kj q (P.underlying e)=true) (em:Bool) (n:Nat) (v:Value) (w:World):(Instr.checkKey em (n+1) e v).run P w = .ok () w:=by
 cases hd:P.underlying e with
 |none=>rw[hd]at hq;simp[kj]at hq
 |some d=>
  rw[hd]at hq;unfold Instr.checkKey;simp only[Sem.run_bind,run_underlying hd,Result.andThen_ok];cases d<;>first | (simp[kj]at hq;done) | (cases v<;>rfl)
theorem EM {t:TypeId} {qs:List Nat} (h:wo P t qs=true) {x:AV} (hx:k6 qs x=true) {v:Value} (hv:RA ν g v x) (em:Bool) (w:World):(Instr.checkKey em 10000 t v).run P w = .ok () w:=by
 rcases uK h with⟨n,el,pT,hn,cA,he,hq⟩|⟨q,rfl,hq⟩
 ·cases x with
  |agg cs=>
   simp only[k6,Bool.and_eq_true,beq_iff_eq]at hx;obtain⟨xs,rfl⟩:=hv.lg;obtain⟨hc,i,hi,rY⟩:=yi he
   show(Instr.checkKey em (9999+1) t (.agg xs)).run P w=_
   rw[Instr.checkKey];simp only[Sem.run_bind,run_underlying pT,Result.andThen_ok];simp only[Std.Legacy.Range.forIn_eq_forIn_range',Std.Legacy.Range.size,Nat.sub_zero,Nat.add_one_sub_one,Nat.div_one];have all:∀j ∈ List.range' 0 n,∃c,xs[j]?=some c:=by
    intro j hj;simp only[List.mem_range'_1]at hj;obtain⟨v,gy,_⟩:=hv.jQ j cs[j] (List.getElem?_eq_getElem (by omega));exact⟨v,gy⟩
   cases qs with
   |nil=>simp only[List.length_nil]at hn;subst hn;simp
   |cons q qs=>
   have Hm:∀v,(Instr.checkKey em 9999 el v).run P w = .ok () w:=λv=>yj (hq q (by simp)) em 9998 v w
   clear hn hx hv;generalize List.range' 0 n=is at all
   induction is with
   |nil=>simp
   |cons j is ih=>
    obtain⟨c,hcj⟩:=all j (by simp);obtain⟨dd,ii,h3,h4,h5,h6,_⟩:=jc he;have hp:(part el xs (j*1)).run P w = .ok c w:=by simp[part,gB h3,h5,hcj]
    simp only[List.forIn_cons,Sem.run_bind,run_sizeOf hi,rY,Result.andThen_ok,hp,Hm,Sem.run_pure];exact ih λy hy=>all y (by simp[hy])
  |iv y=>simp only[k6,beq_iff_eq]at hx;exact absurd hx cA
  |_=>simp[k6]at hx
 ·exact yj hq em 9999 v w
end
def S6 (P:Program) (t:TypeId) (agg:Bool) (z:List AV):Bool:=match P.underlying t with
 |some (.map _ et)=>(match P.info? et with
  |some i=>(match i.zero with
   |some (.agg cs)=>agg&&lS cs.toList z
   |some (.tuple _)=>false
   |some v=>!agg&&lS [v] z
   |none=>false)
  |none=>false)
 |_=>false
section
variable {ν:Nat->Nat} {P:Program} {k:Cx} {g:Gh}
theorem Aw {x:AV} {q:Nat×List (AV×AV)} {h':Hp} (r:Rel ν k g) (e:(gg x).run g.h=some (q,h')) {v:Value} (hv:RA ν g v x) :
  h'=g.h/\∃b es clock,x = .ref q.1 0 0 0/\get g.h q.1=some (.map q.2)/\g.φ q.1=some b/\v = .map (some b)/\¬g.I b/\b<g.w.heap.size/\g.w.heap[b]?=some (.map es clock)/\es.size=q.2.length/\q8 es clock/\
   ∀(j:Nat) (e:MapEntry) (p:AV×AV),es[j]?=some e->q.2[j]?=some p->RA ν g e.key p.1/\RA ν g e.val p.2:=by
 unfold gg at e;split at e
 case h_2=>exact(ah e).elim
 rename_i id;obtain⟨ob,hg,e2⟩:=M.cf e;cases ob with
 |cells _=>exact(ah e2).elim
 |buf _ _ _=>exact(ah e2).elim
 |cm _ _ _=>exact(ah e2).elim
 |gX _=>exact(ah e2).elim
 |map dh=>
  obtain⟨rfl,rfl⟩:=ai e2;refine⟨rfl,?_⟩;cases hv with
  |ref h1 h=>
   unfold bA at h;simp only[hg]at h;obtain⟨-, -, -,b,aB,rfl⟩:=h;obtain⟨b',es,clock,e1,e2,e3,e4,e5,e7,e6⟩:=r.ob id _ hg;rw[aB]at e1;cases e1;exact⟨b,es,clock,rfl,hg,aB,rfl,e2,e3,e4,e5,e7,e6⟩
theorem S7 (r:Rel ν k g) {slot:Nat} {t:TypeId} {y:AV} {h':Hp} (e:((M.fresh (4*slot)).bind λ_=>(M.write (4*slot) (.map [])).bind λ_=>M.ret (.ref (4*slot) 0 0 0)).run g.h=some (y,h')):dj ν k g h' y ((Instr.makeMap t none).run P g.w):=by
 obtain⟨_,h1,e1,e2⟩:=aw e;obtain⟨hf,rfl⟩:=M.fC e1;obtain⟨_,h2,e3,e4⟩:=aw e2;obtain rfl:=bV e3;obtain⟨rfl,rfl⟩:=ai e4;have yX:(g.w.heap.push (.map #[] 0))[g.w.heap.size]?=some (.map #[] 0):=by simp
 have hold:∀b,b<g.w.heap.size->(g.w.heap.push (.map #[] 0))[b]?=g.w.heap[b]?:=λb h=>by simp[Array.getElem?_push,Nat.ne_of_lt h]
 have hn:=r.new (s:=4*slot) (ob:=.map []) (p:=some g.w.heap.size) (w':={ g.w with heap:=g.w.heap.push (.map #[] 0) }) hf (by simp) rfl rfl rfl hold (λb h=>by cases h;exact Nat.le_refl _) (λb h=>.zero (by omega))
  λ_=>⟨g.w.heap.size,#[],0,aU _ _ _,λhi=>absurd (r.small _ hi) (Nat.lt_irrefl _),by simp,yX,rfl,⟨by simp,λx hx=>by simp at hx⟩,λj e p h=>by simp at h⟩
 refine⟨_,.map (some g.w.heap.size),rfl,rfl,hn.1,hn.2,.ref rfl ?_⟩;unfold bA;simp only[ar,aU];exact⟨trivial,trivial,trivial,_,rfl,rfl⟩
theorem PQ {es:Array MapEntry} {dh:List (AV×AV)} (h:es.size=dh.length) (hr:∀(j:Nat) (e:MapEntry) (p:AV×AV),es[j]?=some e->dh[j]?=some p->RA ν g e.key p.1/\RA ν g e.val p.2):oh ν g es.toList dh:=
 ⟨by simpa using h,λj e p h1 h2=>(hr j e p (by simpa using h1) h2).1⟩
theorem QQ (r:Rel ν k g) {t:TypeId} {ok agg:Bool} {qs:List Nat} {z:List AV} (hq:yT P t qs=true) (hz:S6 P t agg z=true) {m kk y:AV} {vm vk:Value} {h':Hp} (hm:RA ν g vm m) (hk:RA ν g vk kk)
  (e:(jb ok agg qs z m kk).run g.h=some (y,h')):dj ν k g h' y ((Instr.lookup t vm vk ok).run P g.w):=by
 obtain⟨cg,e2⟩:=M.aL e;obtain⟨⟨id,dh⟩,h2,e3,e4⟩:=aw e2;obtain⟨rfl,b,es,clock, -,hg,aB,rfl,eU,bC,hb,dZ,EN,hr⟩:=Aw r e3 hm;obtain⟨a,hf,e6⟩:=M.lift_bind e4;obtain⟨kt,et,hu,CB⟩:=Cl hq;obtain⟨rr,uL,LN⟩:=Hl CB hk g.w (PQ dZ hr) hf;have ze:=EM CB cg hk es.isEmpty g.w;have ez:=MapKept.run_getObj_map (P:=P) hb;cases a with
 |some p=>
  obtain⟨e0, -,pY,rfl⟩:=LN;obtain⟨yk, -,hp, -⟩:=zd hf;simp only[Nat.sub_zero]at pY hp;have mi:=(hr p.1 e0 _ (by simpa using pY) hp).2;cases ok with
  |true=>
   simp only[if_true]at e6;obtain⟨rfl,rfl⟩:=ai e6;refine .same r (v:=.tuple #[e0.val,.bool true]) (by simp[Instr.lookup,run_underlying hu,ez,ze,uL]) ?_;refine .bD rfl λj v c h1 h2=>?_
   match j with
   |0=>simp at h1 h2;subst h1 h2;exact mi
   |1=>simp at h1 h2;subst h1 h2;exact dD
   |j+2=>simp at h1
  |false=>
   simp only[Bool.false_eq_true,if_false]at e6;obtain⟨rfl,rfl⟩:=ai e6;exact .same r (v:=e0.val) (by simp[Instr.lookup,run_underlying hu,ez,ze,uL]) mi
 |none=>
  have l5:rr=none:=LN;subst l5;obtain⟨zv,h4,e7,e8⟩:=aw e6;have key:∃v0,(zeroValue et).run P g.w = .ok v0 g.w/\h4=g.h/\RA ν g v0 zv:=by
   unfold S6 at hz;rw[hu]at hz;simp only at hz;cases hi:P.info? et with
   |none=>rw[hi]at hz;cases hz
   |some i=>
    rw[hi]at hz;simp only at hz;cases CA:i.zero with
    |none=>rw[CA]at hz;cases hz
    |some v0=>
     rw[CA]at hz;have cP:(zeroValue et).run P g.w = .ok v0 g.w:=by simp[zeroValue,typeInfo,hi,CA]
     have one:∀{v:Value},lS [v] z=true->agg=false->(mk agg z).run g.h=some (zv,h4)->h4=g.h/\RA ν g v zv:=by
      intro v hc ha em;subst ha;unfold mk at em;simp only[Bool.false_eq_true,if_false]at em;cases z with
      |nil=>exact(ah em).elim
      |cons z0 zr=>
       cases zr with
       |cons _ _=>exact(ah em).elim
       |nil=>
        obtain⟨rfl,rfl⟩:=ai em;simp only[lS,Bool.and_true]at hc;exact⟨rfl,(tQ hc g).2⟩
     cases v0 with
     |agg cs=>
      simp only[Bool.and_eq_true]at hz;obtain⟨ha,hc⟩:=hz;subst ha;unfold mk at e7;simp only[if_true]at e7;obtain⟨rfl,rfl⟩:=ai e7;exact⟨_,cP,rfl,(zc hc).agg⟩
     |tuple vs=>cases hz
     |_=>
      simp only[Bool.and_eq_true,Bool.not_eq_true']at hz;exact⟨_,cP,one hz.2 hz.1 e7⟩
  obtain⟨v0,cP,rfl,Hg⟩:=key;cases ok with
  |true=>
   simp only[if_true]at e8;obtain⟨rfl,rfl⟩:=ai e8;refine .same r (v:=.tuple #[v0,.bool false]) (by simp[Instr.lookup,run_underlying hu,ez,ze,uL,cP]) ?_;refine .bD rfl λj v c h1 h2=>?_
   match j with
   |0=>simp at h1 h2;subst h1 h2;exact Hg
   |1=>simp at h1 h2;subst h1 h2;exact dD
   |j+2=>simp at h1
  |false=>
   simp only[Bool.false_eq_true,if_false]at e8;obtain⟨rfl,rfl⟩:=ai e8;exact .same r (v:=v0) (by simp[Instr.lookup,run_underlying hu,ez,ze,uL,cP]) Hg
theorem q8.modify {es:Array MapEntry} {clock:Nat} (h:q8 es clock) (i:Nat) (f:MapEntry->MapEntry) (hf:∀e,(f e).born=e.born):q8 (es.modify i f) clock:=by
 have hb:(es.modify i f).toList.map (·.born)=es.toList.map (·.born):=by
  apply List.ext_getElem?;intro j;simp only[List.getElem?_map,Array.getElem?_toList,Array.getElem?_modify];split
  ·cases es[j]?<;>simp[hf]
  ·rfl
 refine⟨by rw[hb];exact h.1,λx hx=>?_⟩;have:x.born ∈ es.toList.map (·.born):=by rw[<-hb];exact List.mem_map_of_mem hx
 obtain⟨y,hy,CC⟩:=List.mem_map.1 this;rw[<-CC];exact h.2 y hy
theorem q8.push {es:Array MapEntry} {clock:Nat} (h:q8 es clock) (e:MapEntry) (he:e.born=clock):q8 (es.push e) (clock+1):=by
 refine⟨?_,λx hx=>?_⟩
 ·simp only[Array.toList_push,List.map_append,List.map_cons,List.map_nil];refine List.nodup_append.2 ⟨h.1,by simp,λa ha b hb=>?_⟩;obtain⟨y,hy,rfl⟩:=List.mem_map.1 ha;simp at hb;have:=h.2 y hy;omega
 ·simp only[Array.toList_push,List.mem_append,List.mem_singleton]at hx;rcases hx with hx | rfl
  ·exact Nat.lt_succ_of_lt (h.2 x hx)
  ·omega
theorem EO (r:Rel ν k g) {id b:Nat} {dh BU:List (AV×AV)} {es':Array MapEntry} {clock':Nat} (hg:get g.h id=some (.map dh)) (aB:g.φ id=some b) (eU:¬g.I b) (bC:b<g.w.heap.size) (cV:id % 4=0) (dZ:es'.size=BU.length) (EN:q8 es' clock')
  (hr:∀(g':Gh),bY ν g g'->∀(j:Nat) (e:MapEntry) (p:AV×AV),es'[j]?=some e->BU[j]?=some p->RA ν g' e.key p.1/\RA ν g' e.val p.2) :
  ∃g',g'.w={ g.w with heap:=g.w.heap.setIfInBounds b (.map es' clock') }/\g'.h=set g.h id (.map BU)/\Rel ν k g'/\bY ν g g':=by
 have ht:=r.nq (s:=id) (ob:=.map BU) (p:=g.φ id) (w':={ g.w with heap:=g.w.heap.setIfInBounds b (.map es' clock') }) (I':=g.I) hg (λb' h=>by rw[aB]at h;cases h;exact eU) (by simp) rfl rfl rfl
  (λb' _ cA=>by
   have:b≠b':=λe=>cA (by rw[aB,e])
   simp[this])
  (λ_ h=>h) (λ_ h=>.inl h) (.inl rfl) (λ_ _=>.zero cV)
  (λv o n aC ho=>by unfold br at ho;rw[hg]at ho;exact ho.elim)
  (λv aC i j h=>by
   unfold bA at h ⊢;rw[hg]at h;simp only[ar,aU];exact h)
  (λ_ hm=>⟨b,es',clock',(aU _ _ _).trans aB,eU,by simpa using bC,by simp[bC],dZ,EN,hr _ hm⟩)
 exact⟨_,rfl,rfl,ht.1,ht.2⟩
theorem EP {q:Nat} {x y:AV} (e:ly q x y=some true) {v u:Value} (hv:RA ν g v x) (hu:RA ν g u y) (n:Nat):Instr.sameBits n u v=true:=by
 unfold ly at e;split at e
 ·obtain rfl:=hv.int;obtain rfl:=hu.int;simp only[Option.ite_none_right_eq_some,Option.some.injEq,beq_iff_eq]at e;obtain⟨rfl,rfl⟩:=e;simp[Instr.sameBits]
 ·obtain rfl:=hv.bool;obtain rfl:=hu.bool;simp only[Option.some.injEq,beq_iff_eq]at e;subst e;simp[Instr.sameBits]
 ·obtain rfl:=hv.str;obtain rfl:=hu.str;simp only[Option.some.injEq]at e;simp only[Instr.sameBits];rw[beq_toListBytes]at e ⊢;exact BEq.symm e
 ·cases e
theorem Ax:∀(qs:List Nat) (cs ds:List AV) (xs ys:List Value),eqs qs cs ds=some true->xs.length=cs.length->ys.length=ds.length->(∀(j:Nat) (v:Value) (c:AV),xs[j]?=some v->cs[j]?=some c->RA ν g v c)->
  (∀(j:Nat) (v:Value) (c:AV),ys[j]?=some v->ds[j]?=some c->RA ν g v c)->((ys.zip xs).all fun(x,y)=>Instr.sameBits 9999 x y)=true/\ys.length=xs.length
 |[],[],[],xs,ys,_,hx,hy,_,_=>by
  obtain rfl:=List.eq_nil_of_length_eq_zero hx;obtain rfl:=List.eq_nil_of_length_eq_zero hy;exact⟨rfl,rfl⟩
 |q::qs,c::cs,d::ds,xs,ys,e,hx,hy,h1,h2=>by
  cases xs with
  |nil=>simp at hx
  |cons v xs=>
   cases ys with
   |nil=>simp at hy
   |cons u ys=>
    simp only[eqs,Option.bind_eq_some_iff]at e;obtain⟨b1,e1,b2,e2,e3⟩:=e;simp only[Option.some.injEq,Bool.and_eq_true]at e3;obtain⟨rfl,rfl⟩:=e3;obtain⟨i1,i2⟩:=Ax qs cs ds xs ys e2 (by simpa using hx) (by simpa using hy) (λj v c a b=>h1 (j+1) v c (by simpa using a) (by simpa using b)) λj v c a b=>h2 (j+1) v c (by simpa using a) (by simpa using b)
    have hv:=h1 0 v c rfl rfl;have hu:=h2 0 u d rfl rfl;refine⟨?_,by simp[i2]⟩;simp only[List.zip_cons_cons,List.all_cons,Bool.and_eq_true];refine⟨?_,i1⟩;exact EP e1 hv hu 9999
 |[],_::_,_,_,_,e,_,_,_,_=>by simp[eqs]at e
 |[],[],_::_,_,_,e,_,_,_,_=>by simp[eqs]at e
 |_::_,[],_,_,_,e,_,_,_,_=>by simp[eqs]at e
 |_::_,_::_,[],_,_,e,_,_,_,_=>by simp[eqs]at e
theorem NJ {qs:List Nat} {x y:AV} (e:vQ qs x y=some true) {v u:Value} (hv:RA ν g v x) (hu:RA ν g u y) (w:World):(Instr.keyThatStays u v).run P w = .ok v w:=by
 have hs:Instr.sameBits 10000 u v=true:=by
  unfold vQ at e;split at e
  ·split at e
   ·cases e
   rename_i cs ds _;obtain⟨xs,rfl⟩:=hv.lg;obtain⟨ys,rfl⟩:=hu.lg;have n1:xs.size=cs.length:=by cases hv;assumption
   have n2:ys.size=ds.length:=by cases hu;assumption
   have r1:∀(j:Nat) (v:Value) (c:AV),xs[j]?=some v->cs[j]?=some c->RA ν g v c:=by cases hv;assumption
   have r2:∀(j:Nat) (v:Value) (c:AV),ys[j]?=some v->ds[j]?=some c->RA ν g v c:=by cases hu;assumption
   obtain⟨i1,i2⟩:=Ax qs cs ds xs.toList ys.toList e (by simpa using n1) (by simpa using n2) (λj v c a b=>r1 j v c (by simpa using a) b) λj v c a b=>r2 j v c (by simpa using a) b
   show Instr.sameBits (9999+1) (.agg ys) (.agg xs)=true
   simp only[Instr.sameBits,Bool.and_eq_true,beq_iff_eq];exact⟨by simpa using i2,i1⟩
  ·split at e
   case isFalse=>cases e
   rename_i h1;obtain⟨q,rfl⟩:=List.length_eq_one_iff.1 h1;simp only[eqs,Option.bind_eq_some_iff]at e;obtain⟨b1,e1,b2,e2,e3⟩:=e;cases e2;simp only[Bool.and_true,Option.some.injEq]at e3;subst e3;exact EP e1 hv hu 10000
  ·cases e
 simp[Instr.keyThatStays,hs]
theorem QR (r:Rel ν k g) {t:TypeId} {qs:List Nat} (hq:yT P t qs=true) {m kk x y:AV} {vm vk vx:Value} {h':Hp} (hm:RA ν g vm m) (hk:RA ν g vk kk) (hx:RA ν g vx x) (e:(kh qs m kk x).run g.h=some (y,h')) :
  ∃g',(Instr.mapUpdate t vm vk vx).run P g.w = .ok () g'.w/\y = .bD []/\g'.h=h'/\Rel ν k g'/\bY ν g g':=by
 obtain⟨cg,e2⟩:=M.aL e;obtain⟨⟨id,dh⟩,h2,e3,e4⟩:=aw e2;obtain⟨rfl,b,es,clock, -,hg,aB,rfl,eU,bC,hb,dZ,EN,hr⟩:=Aw r e3 hm;obtain⟨cV,e41⟩:=M.aL e4;have cV:id % 4=0:=by simpa using cV
 obtain⟨a,hf,e6⟩:=M.lift_bind e41;obtain⟨kt,et,hu,CB⟩:=Cl hq;obtain⟨rr,uL,LN⟩:=Hl CB hk g.w (PQ dZ hr) hf;have ze:=EM CB cg hk false g.w;have ez:=MapKept.run_getObj_map (P:=P) hb;simp only at dZ hr hg;cases a with
 |some p=>
  obtain⟨e0, -,pY,rfl⟩:=LN;obtain⟨yk, -,hp,hkk⟩:=zd hf;simp only[Nat.sub_zero]at pY hp;simp only[Array.getElem?_toList]at pY;have oR:=NJ (P:=P) hkk hk (hr p.1 e0 _ pY hp).1 g.w;obtain⟨_,h4,e7,e8⟩:=aw e6;obtain rfl:=bV e7;obtain⟨rfl,rfl⟩:=ai e8;obtain⟨g',q1,q2,q3,q4⟩:=EO (es':=es.modify p.1 λe=>{ e with key:=vk,val:=vx }) (clock':=clock) (BU:=dh.set p.1 (kk,x)) r hg aB eU bC cV (by simpa using dZ) (EN.modify p.1 _ λ_=>rfl) λg' Ay j e q h1 h2=>by
   by_cases hj:p.1=j
   ·subst hj;rw[Array.getElem?_modify,if_pos rfl,pY]at h1;have hl:p.1<dh.length:=bg hp;simp[hl]at h2;cases h1;rw[<-h2];exact⟨Ay _ _ hk,Ay _ _ hx⟩
   ·rw[Array.getElem?_modify,if_neg hj]at h1;rw[List.getElem?_set_ne hj]at h2;obtain⟨c1,c2⟩:=hr j e q h1 h2;exact⟨Ay _ _ c1,Ay _ _ c2⟩
  exact⟨g',by simp[Instr.mapUpdate,run_underlying hu,ez,ze,uL,pY,oR,MapKept.run_setObj_map (P:=P) _ hb,q1],rfl,q2,q3,q4⟩
 |none=>
  have l5:rr=none:=LN;subst l5;obtain⟨_,h4,e7,e8⟩:=aw e6;obtain rfl:=bV e7;obtain⟨rfl,rfl⟩:=ai e8;obtain⟨g',q1,q2,q3,q4⟩:=EO (es':=es.push { key:=vk,val:=vx,born:=clock }) (clock':=clock+1) (BU:=dh++[(kk,x)]) r hg aB eU bC cV (by simpa using dZ) (EN.push _ rfl) λg' Ay j e q h1 h2=>by
   rw[Array.getElem?_push]at h1;split at h1
   ·rename_i hj;cases h1;rw[hj,dZ]at h2;simp at h2;rw[<-h2];exact⟨Ay _ _ hk,Ay _ _ hx⟩
   ·have hl:j<es.size:=(Array.getElem?_eq_some_iff.1 h1).1;rw[List.getElem?_append_left (by omega)]at h2;obtain⟨c1,c2⟩:=hr j e q h1 h2;exact⟨Ay _ _ c1,Ay _ _ c2⟩
  exact⟨g',by simp[Instr.mapUpdate,run_underlying hu,ez,ze,uL,MapKept.run_setObj_map (P:=P) _ hb,q1],rfl,q2,q3,q4⟩
end
def ox (P:Program) (t:TypeId):Bool:=match P.underlying t with | some d=>lA d | none=>false
def rZ (P:Program) (r:TypeId->List Nat->Bool):List Field->List Nat->Nat->Bool
 |[],qs,_=>qs.isEmpty
 |f::fs,qs,off=>f.name != "_"&&f.offset==off&&Nat.blt 0 (P.cellsOf f.type)&&Nat.ble (P.cellsOf f.type) qs.length&&r f.type (qs.take (P.cellsOf f.type))&&rZ P r fs (qs.drop (P.cellsOf f.type)) (off+P.cellsOf f.type)
def rE (r:List Nat->Bool) (c:Nat):Nat->List Nat->Bool
 |0,qs=>qs.isEmpty
 |n+1,qs=>Nat.blt 0 c&&Nat.ble c qs.length&&r (qs.take c)&&rE r c n (qs.drop c)
def yl (P:Program):Nat->TypeId->List Nat->Bool
 |0,_,_=>false
 |d+1,t,qs=>lQ P t qs.length (ox P t)&&(match P.underlying t with
  |some (.struct fs)=>!P.stoodInHeld t&&rZ P (yl P d) fs.toList qs 0
  |some (.array n e)=>Nat.blt 0 n&&rE (yl P d e) (P.cellsOf e) n qs
  |dd=>(match qs with | [q]=>kj q dd | _=>false))
section
variable {ν:Nat->Nat} {P:Program} {k:Cx} {g:Gh}
theorem wR:∀(m:Nat) (qs:List Nat) (cs ds:List AV) (b:Bool),eqs qs cs ds=some b->m<=qs.length->
  ∃b1 b2,eqs (qs.take m) (cs.take m) (ds.take m)=some b1/\eqs (qs.drop m) (cs.drop m) (ds.drop m)=some b2/\b=(b1&&b2)
 |0,qs,cs,ds,b,h,_=>⟨true,b,by simp[eqs],by simpa using h,by simp⟩
 |m+1,[],cs,ds,b,h,hm=>by simp at hm
 |m+1,q::qs,[],ds,b,h,_=>by simp[eqs]at h
 |m+1,q::qs,c::cs,[],b,h,_=>by simp[eqs]at h
 |m+1,q::qs,c::cs,d::ds,b,h,hm=>by
  simp only[eqs,Option.bind_eq_some_iff]at h;obtain⟨b0,h0,b',h',hb⟩:=h;cases hb;obtain⟨b1,b2,h1,h2,h3⟩:=wR m qs cs ds b' h' (by simpa using hm);exact⟨b0&&b1,b2,by simp[eqs,h0,h1],by simpa using h2,by rw[h3,Bool.and_assoc]⟩
theorem tS:∀{qs:List Nat} {cs ds:List AV} {b:Bool},eqs qs cs ds=some b->cs.length=qs.length/\ds.length=qs.length
 |[],[],[],b,_=>⟨rfl,rfl⟩
 |[],_::_,_,b,h=>by simp[eqs]at h
 |[],[],_::_,b,h=>by simp[eqs]at h
 |q::qs,[],ds,b,h=>by simp[eqs]at h
 |q::qs,c::cs,[],b,h=>by simp[eqs]at h
 |q::qs,c::cs,d::ds,b,h=>by
  simp only[eqs,Option.bind_eq_some_iff]at h;obtain⟨b0,h0,b',h',hb⟩:=h;obtain⟨h1,h2⟩:=tS h';exact⟨by simp[h1],by simp[h2]⟩
def Is (agg:Bool) (x:AV) (cs:List AV):Prop:=agg=true/\x = .agg cs\/agg=false/\cs=[x]
theorem Az {d:Nat} {t:TypeId} {qs:List Nat} (h:yl P d t qs=true):lQ P t qs.length (ox P t)=true:=by
 cases d with
 |zero=>cases h
 |succ d=>simp only[yl,Bool.and_eq_true]at h;exact h.1
def ER (ν:Nat->Nat) (P:Program) (g:Gh) (d:Nat):Prop:=
 ∀(t:TypeId) (qs:List Nat),yl P d t qs=true->∀(cs ds:List AV) (b:Bool),eqs qs cs ds=some b->∀(v u:Value) (x y:AV),Is (ox P t) x cs->Is (ox P t) y ds->RA ν g v x->RA ν g u y->
  ∀D,d<=D->∀w:World,(Op.equalIn D t v u).run P w = .ok b w
theorem xU {t:TypeId} {sz off:Nat} (ht:lQ P t sz (ox P t)=true) {vs:Array Value} {cs:List AV} (hv:RA ν g (.agg vs) (.agg cs)) (hl:off+sz<=cs.length) (w:World) :
  ∃v x,(part t vs off).run P w = .ok v w/\RA ν g v x/\Is (ox P t) x ((cs.drop off).take sz):=by
 have hlen:((cs.drop off).take sz).length=sz:=by simp;omega
 cases ha:ox P t with
 |true=>
  rw[ha]at ht;obtain⟨v,h1,h2⟩:=xQ ht hv hlen (r:=.agg ((cs.drop off).take sz)) (.inl ⟨rfl,rfl⟩) w;exact⟨v,_,h1,h2,.inl ⟨rfl,rfl⟩⟩
 |false=>
  rw[ha]at ht;obtain⟨_,_,_,_,_,_,h1⟩:=jc ht;have dZ:=h1 rfl;obtain⟨x,hx⟩:∃x,(cs.drop off).take sz=[x]:=by
   match hc:(cs.drop off).take sz,hlen with
   |[x],_=>exact⟨x,rfl⟩
   |[],h=>simp at h;omega
   |_::_::_,h=>simp at h;omega
  obtain⟨v,h1,h2⟩:=xQ ht hv hlen (r:=x) (.inr ⟨rfl,hx⟩) w;exact⟨v,x,h1,h2,.inr ⟨rfl,hx⟩⟩
theorem GH {d:Nat} (ih:ER ν P g d) {D:Nat} (hD:d<=D) {vs us:Array Value} {U bs:List AV} (hv:RA ν g (.agg vs) (.agg U)) (hu:RA ν g (.agg us) (.agg bs)):∀(fs:List Field) (qs:List Nat) (off:Nat) (b:Bool) (w:World),
  rZ P (yl P d) fs qs off=true->eqs qs (U.drop off) (bs.drop off)=some b->(Op.eqFields D vs us fs).run P w = .ok b w:=by
 intro fs
 induction fs with
 |nil=>
  intro qs off b w h e;simp only[rZ,List.isEmpty_iff]at h;subst h;obtain⟨h1,h2⟩:=tS e;rw[List.eq_nil_of_length_eq_zero h1,List.eq_nil_of_length_eq_zero h2]at e;simp[eqs]at e;subst e;simp[Op.eqFields]
 |cons f fs ihf=>
  intro qs off b w h e;simp only[rZ,Bool.and_eq_true,beq_iff_eq,Nat.ble_eq,Nat.blt_eq]at h;obtain⟨⟨⟨⟨⟨hn,DY⟩,uJ⟩,eR⟩,hq⟩,gl⟩:=h;obtain⟨b1,b2,e1,e2,rfl⟩:=wR (P.cellsOf f.type) qs _ _ b e eR;obtain⟨l1,l2⟩:=tS e;simp only[List.length_drop]at l1 l2;have lB:=Az hq;have dZ:(qs.take (P.cellsOf f.type)).length=P.cellsOf f.type:=by simp;omega
  rw[dZ]at lB;obtain⟨v1,x1,p1,r1,i1⟩:=xU lB hv (off:=off) (by omega) w;obtain⟨v2,x2,p2,r2,i2⟩:=xU lB hu (off:=off) (by omega) w;have he:=ih f.type _ hq _ _ b1 e1 v1 v2 x1 x2 i1 i2 r1 r2 D hD w;rw[List.drop_drop,List.drop_drop]at e2;have hr:=ihf _ _ b2 w gl e2;have fD:f.name≠"_":=by simpa using hn
  simp only[Op.eqFields,if_pos fD,Sem.run_bind,DY,p1,p2,he,Result.andThen_ok,Sem.run_ite];cases b1
  ·simp
  ·simp[hr]
theorem Jq {d:Nat} (ih:ER ν P g d) {D:Nat} (hD:d<=D) {e:TypeId} {vs us:Array Value} {U bs:List AV} (hv:RA ν g (.agg vs) (.agg U)) (hu:RA ν g (.agg us) (.agg bs)):∀(n i:Nat) (qs:List Nat) (b:Bool) (w:World),
  rE (yl P d e) (P.cellsOf e) n qs=true->eqs qs (U.drop (i*P.cellsOf e)) (bs.drop (i*P.cellsOf e))=some b->(Op.eqItems D e (P.cellsOf e) vs us (List.range' i n)).run P w = .ok b w:=by
 intro n
 induction n with
 |zero=>
  intro i qs b w h e';simp only[rE,List.isEmpty_iff]at h;subst h;obtain⟨h1,h2⟩:=tS e';rw[List.eq_nil_of_length_eq_zero h1,List.eq_nil_of_length_eq_zero h2]at e';simp[eqs]at e';subst e';simp[Op.eqItems]
 |succ n ihn=>
  intro i qs b w h e';simp only[rE,Bool.and_eq_true,Nat.ble_eq,Nat.blt_eq]at h;obtain⟨⟨⟨uJ,eR⟩,hq⟩,gl⟩:=h;obtain⟨b1,b2,e1,e2,rfl⟩:=wR (P.cellsOf e) qs _ _ b e' eR;obtain⟨l1,l2⟩:=tS e';simp only[List.length_drop]at l1 l2;have lB:=Az hq;have dZ:(qs.take (P.cellsOf e)).length=P.cellsOf e:=by simp;omega
  rw[dZ]at lB;obtain⟨v1,x1,p1,r1,i1⟩:=xU lB hv (off:=i*P.cellsOf e) (by omega) w;obtain⟨v2,x2,p2,r2,i2⟩:=xU lB hu (off:=i*P.cellsOf e) (by omega) w;have he:=ih e _ hq _ _ b1 e1 v1 v2 x1 x2 i1 i2 r1 r2 D hD w;rw[List.drop_drop,List.drop_drop,<-Nat.succ_mul]at e2;have hr:=ihn (i+1) _ b2 w gl e2;simp only[List.range'_succ,Op.eqItems,Sem.run_bind,p1,p2,he,Result.andThen_ok,Sem.run_ite];cases b1
  ·simp
  ·simp[hr]
theorem BV (ν:Nat->Nat) (P:Program) (g:Gh):∀d,ER ν P g d
 |0=>λt qs h=>by simp[yl]at h
 |d+1=>by
  intro t qs h cs ds b e v u x y hx hy hv hu D hD w;obtain⟨D,rfl⟩:∃D',D=D'+1:=⟨D - 1,by omega⟩;have hD:d<=D:=by omega
  have lB:=Az h;obtain⟨dd,i,pT,hi,ha,hs,h1⟩:=jc lB;simp only[yl,Bool.and_eq_true]at h;have h:=h.2;split at h
  ·rename_i fs jW;simp only[Bool.and_eq_true,Bool.not_eq_true']at h;have gv:ox P t=true:=by simp[ox,jW,lA]
   rcases hx with⟨-,rfl⟩|⟨h0,_⟩
   case inr=>rw[gv]at h0;cases h0
   rcases hy with⟨-,rfl⟩|⟨h0,_⟩
   case inr=>rw[gv]at h0;cases h0
   obtain⟨vs,rfl⟩:=hv.lg;obtain⟨us,rfl⟩:=hu.lg;have tz:P.fieldsOf t=fs:=by simp[Program.fieldsOf,jW]
   rw[run_equalIn_struct w D t vs us (by rw[tz];exact jW) h.1,tz];exact GH (BV ν P g d) hD hv hu fs.toList qs 0 b w h.2 (by simpa using e)
  ·rename_i n el jW;have gv:ox P t=true:=by simp[ox,jW,lA]
   rcases hx with⟨-,rfl⟩|⟨h0,_⟩
   case inr=>rw[gv]at h0;cases h0
   rcases hy with⟨-,rfl⟩|⟨h0,_⟩
   case inr=>rw[gv]at h0;cases h0
   obtain⟨vs,rfl⟩:=hv.lg;obtain⟨us,rfl⟩:=hu.lg;cases n with
   |zero=>simp[Nat.blt]at h
   |succ n=>
    have Ws:∃ie,P.info? el=some ie:=by
     simp only[rE,Bool.and_eq_true]at h;obtain⟨_,ie,_,wh,_⟩:=jc (Az h.2.1.2);exact⟨ie,wh⟩
    obtain⟨ie,wh⟩:=Ws;rw[run_equalIn_array w D vs us jW wh,List.range_eq_range'];exact Jq (BV ν P g d) hD hv hu (n+1) 0 qs b w (by simp only[Bool.and_eq_true]at h;exact h.2) (by simpa using e)
  ·rename_i hns hna;split at h
   ·rename_i q;have gv:ox P t=false:=by
     unfold ox;rw[pT];cases dd with
     |struct fs=>exact absurd pT (hns fs)
     |array n el=>exact absurd pT (hna n el)
     |_=>rfl
    rcases hx with⟨h0,_⟩|⟨-,rfl⟩
    ·rw[gv]at h0;cases h0
    rcases hy with⟨h0,_⟩|⟨-,rfl⟩
    ·rw[gv]at h0;cases h0
    simp only[eqs,Option.bind_eq_some_iff]at e;obtain⟨b1,e1,b2,e2,e3⟩:=e;cases e2;cases e3;have:=v8 (P:=P) e1 h hv hu D w;simpa using this
   ·cases h
def NK (P:Program) (t:TypeId) (qs:List Nat):Bool:=yl P 9 t qs&&ox P t&&!P.eqGuardType P.depth t
theorem S8 (r:Rel ν k g) {t:TypeId} {qs:List Nat} (ht:NK P t qs=true) {a b:Operand} {v u:Value} {cs ds:List AV} {z:Bool} (neg:Bool) (hv:RA ν g v (.agg cs)) (hu:RA ν g u (.agg ds)) (e:eqs qs cs ds=some z) :
  dj ν k g g.h (.iv (.bool (if neg then !z else z))) ((do eqGuard (if neg then .neq else .eql) t a b v u;binOp (if neg then .neq else .eql) t v u:Sem Value).run P g.w):=by
 simp only[NK,Bool.and_eq_true,Bool.not_eq_true']at ht;obtain⟨⟨h1,h2⟩,h3⟩:=ht;obtain⟨xs,rfl⟩:=hv.lg;obtain⟨ys,rfl⟩:=hu.lg;have cP:=BV ν P g 9 t qs h1 cs ds z e _ _ _ _ (.inl ⟨h2,rfl⟩) (.inl ⟨h2,rfl⟩) hv hu 10000 (by omega) g.w;cases neg
 ·refine .same r ?_ dD;simp only[Bool.false_eq_true,if_false,Sem.run_bind,run_eqGuard_agg _ _ _ _ _ _ _ h3,Result.andThen_ok,run_eql_struct,cP]
 ·refine .same r ?_ dD;simp only[if_true,Sem.run_bind,run_eqGuard_agg _ _ _ _ _ _ _ h3,Result.andThen_ok,run_neq_struct,cP]
end
section
variable {ν:Nat->Nat} {P:Program} {k:Cx} {g:Gh}
end
section
variable {ν:Nat->Nat} {P:Program} {k:Cx} {g:Gh}
end
def cp (ν:Nat->Nat):Operand->bf->Bool
 |.tmp t,.t n=>t==n
 |.const v,.c x=>EI v x
 |.func f,.c (.iv (.fn h []))=>f==ν h
 |_,_=>false
def gP (ν:Nat->Nat):List Operand->List bf->Bool
 |[],[]=>true
 |x::xs,y::ys=>cp ν x y&&gP ν xs ys
 |_,_=>false
def uy (ν:Nat->Nat):Option Operand->Option bf->Bool
 |none,none=>true
 |some x,some y=>cp ν x y
 |_,_=>false
def kK (ν:Nat->Nat):List (Nat×Operand)->List (Nat×bf)->Bool
 |[],[]=>true
 |x::xs,y::ys=>x.1==y.1&&cp ν x.2 y.2&&kK ν xs ys
 |_,_=>false
def iE (ν:Nat->Nat) (pl:Nat->Option (Nat×Nat)):List (Nat×Operand)->List (Nat×Nat×bf)->Bool
 |[],[]=>true
 |x::xs,y::ys=>pl x.1==some (y.1,y.2.1)&&cp ν x.2 y.2.2&&iE ν pl xs ys
 |_,_=>false
def isInt (P:Program) (t:TypeId):Bool:=match P.underlying t with | some (.int _)=>true | _=>false
theorem Jr {P:Program} {t:TypeId} (h:isInt P t=true):∃kd,P.underlying t=some (.int kd):=by
 unfold isInt at h;split at h<;>first | exact⟨_,by assumption⟩|cases h
def Ah (P:Program) (ν:Nat->Nat) (op:Op) (io:jt):Bool:=
 match io with
 |.eM y=>(match op with | .move x | .assign x=>cp ν x y | _=>false)
 |.pick c' a' b'=>(match op with | .pick c a b=>cp ν c c'&&cp ν a a'&&cp ν b b' | _=>false)
 |.alloc tag z=>(match op with | .alloc t=>sH P t z&&ND ν t tag z | _=>false)
 |.box tag y=>(match op with | .box t x=>(tag==0||tag==1&&t==ν Au)&&cp ν x y | _=>false)
 |.build z qs=>(match op with | .build t ps=>sH P t z&&(match placesOf P t with | some pl=>iE ν pl ps.toList qs | none=>false) | _=>false)
 |.qF e z n' qs=>(match op with | .buildSlice t n ps=>n==n'&&NG P t n e z&&kK ν ps.toList qs | _=>false)
 |.load agg sz a'=>(match op with | .load t a=>lQ P t sz agg&&cp ν a a' | _=>false)
 |.store sz a' x'=>(match op with | .store t a x=>qW P t sz&&cp ν a a'&&cp ν x x' | _=>false)
 |.di off x'=>(match op with | .fieldAddr s x f=>xP P s f off&&cp ν x x' | _=>false)
 |.ep _ _ _ _=>false
 |.dn _ _ _ _=>false
 |.dQ e x' i'=>(match op with | .indexAddr t x i=>sliceB P t e&&cp ν x x'&&cp ν i i' | _=>false)
 |.dB _ _ _ _ _=>false
 |.jN _ _=>false
 |.bin bo q x' y'=>(match op with | .binOp b t x y _=>b==bo&&za P t q&&cp ν x x'&&cp ν y y' | _=>false)
 |.sj neg qs x' y'=>(match op with | .binOp b t x y _=>b==(if neg then .neq else .eql)&&NK P t qs&&cp ν x x'&&cp ν y y' | _=>false)
 |.un uo x'=>(match op with | .unOp u _ x=>u==uo&&cp ν x x' | _=>false)
 |.tt kk x'=>(match op with | .convert s d x=>BF P s d kk&&cp ν x x' | _=>false)
 |.Cf _=>false
 |.eu e x' SF cK=>(match op with | .slice t x lo hi none=>sliceB P t e&&cp ν x x'&&uy ν lo SF&&uy ν hi cK | _=>false)
 |.nj _ _ _=>false
 |.tu _ _=>false
 |.Cy _ _ _ _=>false
 |.qG _ _ _=>false
 |.len str x'=>(match op with | .call { callee:=.builtin .len,args,argTypes }=>(match args.toList,argTypes.toList with | [x],[t]=>BG P t str&&cp ν x x' | _,_=>false) | _=>false)
 |.app e byte x' y'=>(match op with | .call { callee:=.builtin .append,args,argTypes }=>(match args.toList,argTypes.toList with | [x,y],[t,u]=>wj P t u e&&(!byte||(match P.underlying t with | some (.slice el)=>el==ν wO | _=>false))&&cp ν x x'&&cp ν y y' | _,_=>false) | _=>false)
 |.mn x' ys=>(match op with | .call { callee:=.builtin .min,args,.. }=>gP ν args.toList (x'::ys) | _=>false)
 |.mx x' ys=>(match op with | .call { callee:=.builtin .max,args,.. }=>gP ν args.toList (x'::ys) | _=>false)
 |.ext x' i'=>(match op with | .extract x i=>i==i'&&cp ν x x' | _=>false)
 |.oY x'=>(match op with | .nilCheck x=>cp ν x x' | _=>false)
 |.sk f' X9 Ai=>(match op with | .makeFunc (.func f) first caps=>f==ν f'&&gP ν first.toList X9&&gP ν caps.toList Ai | _=>false)
 |.call _ f' pG=>(match op with | .call { callee:=.value f,args,.. }=>cp ν f f'&&gP ν args.toList pG | _=>false)
 |.nf f' pG=>(match op with | .call { callee:=.value f,args,.. }=>cp ν f f'&&gP ν args.toList pG | _=>false)
 |.Cg _=>false
 |.Ch=>(match op with | .makeMap _ none=>true | _=>false)
 |.jb ok agg qs z m' k'=>(match op with | .lookup t m k o=>o==ok&&yT P t qs&&S6 P t agg z&&cp ν m m'&&cp ν k k' | _=>false)
 |.kh qs m' k' x'=>(match op with | .mapUpdate t m k x | .insert t m k x=>yT P t qs&&cp ν m m'&&cp ν k k'&&cp ν x x' | _=>false)
 |.nk _ _ _=>false
 |.yN _=>false
 |.dead=>true
 |.pd x'=>(match op with | .call { callee:=.builtin .cap,args,argTypes }=>(match args.toList,argTypes.toList with | [x],[t]=>(match P.underlying t with | some (.slice el)=>(P.info? el).isSome | _=>false)&&cp ν x x' | _,_=>false) | _=>false)
 |.qt e z x' y'=>(match op with | .call { callee:=.builtin .append,args,argTypes }=>(match args.toList,argTypes.toList with | [x,y],[t,u]=>Dw P t e z&&isInt P u&&cp ν x x'&&cp ν y y' | _,_=>false) | _=>false)
 |.qZ _ _=>false
 |.As _ _=>false
 |.wL _ _ _=>false
 |.wM _ _ _ _=>false
 |.PJ e=>(match op with | .buildSlice t n ps=>n==0&&ps.isEmpty&&sliceB P t e | _=>false)
 |.ED _=>false
 |.Jm _=>false
 |.EE _=>false
 |.EF _=>false
 |.wN _ _=>false
 |.EG _ _ _=>false
def jB (ν:Nat->Nat) (g:Gh) (tmps:Array Value) (fr:Fr):Prop:=∀(t:Nat) (x:AV),get fr t=some x->∃v,tmps[t]?=some v/\RA ν g v x
theorem jB.mono {ν:Nat->Nat} {g g':Gh} {tmps:Array Value} {fr:Fr} (h:jB ν g tmps fr) (hm:bY ν g g'):jB ν g' tmps fr:=
 λt x ht=>let⟨v,h1,h2⟩:=h t x ht;⟨v,h1,hm _ _ h2⟩
section
variable {ν:Nat->Nat} {P:Program} {k:Cx} {g:Gh}
theorem aY {a:Act} {fr:Fr} (hf:jB ν g a.tmps fr) {x:Operand} {y:bf} (h:cp ν x y=true):RA ν g (a.eval x) (ev fr y):=by
 unfold cp at h;split at h
 ·rename_i t n;have:=beq_iff_eq.1 h;subst this;simp only[ev];cases hg:get fr t with
  |none=>exact .undef _
  |some z=>
   obtain⟨v,hv,hR⟩:=hf t z hg;have:a.eval (.tmp t)=v:=by simp[Act.eval,Array.getD,(Array.getElem?_eq_some_iff.1 hv).1,(Array.getElem?_eq_some_iff.1 hv).2]
   rw[this];exact hR
 ·rename_i v x;exact(tQ h g).2
 ·rename_i f h';have:=beq_iff_eq.1 h;subst this;exact .iv (.fn h' #[] [] rfl λj v x h=>by simp at h)
 ·cases h
theorem rL {a:Act} {fr:Fr} (hf:jB ν g a.tmps fr):∀{xs:List Operand} {ys:List bf},gP ν xs ys=true->
  (xs.map a.eval).length=(ys.map (ev fr)).length/\∀(j:Nat) (v:Value) (x:AV),(xs.map a.eval)[j]?=some v->(ys.map (ev fr))[j]?=some x->RA ν g v x
 |[],[],_=>⟨rfl,λj v x h=>by simp at h⟩
 |x::xs,y::ys,h=>by
  simp only[gP,Bool.and_eq_true]at h;obtain⟨h1,h2⟩:=rL hf h.2;refine⟨by simpa using h1,λj v z hv hz=>?_⟩;cases j with
  |zero=>simp at hv hz;subst hv hz;exact aY hf h.1
  |succ j=>exact h2 j v z (by simpa using hv) (by simpa using hz)
 |[],_::_,h=>by simp[gP]at h
 |_::_,[],h=>by simp[gP]at h
theorem rM {a:Act} {fr:Fr} (hf:jB ν g a.tmps fr) {x:Option Operand} {y:Option bf} (h:uy ν x y=true):RO ν g (x.map a.eval) (y.map (ev fr)):=by
 cases x<;>cases y<;>simp[uy]at h
 ·trivial
 ·exact aY hf h
theorem tb {a:Act} {fr:Fr} (hf:jB ν g a.tmps fr) {pl:Nat->Option (Nat×Nat)}:∀(ps:List (Nat×Operand)) (qs:List (Nat×Nat×bf)) (cells:Array Value) (cs:List AV) (n:Nat) (l:List (Nat×List AV)) (h h':Hp),
  iE ν pl ps qs=true->RC ν g cells cs->cs.length=n->
  (M.aG (λp:Nat×Nat×bf=>(bh (ev fr p.2.2)).bind λl=>(M.ok (l.length==p.2.1&&Nat.ble (p.1+p.2.1) n)).bind λ_=>M.ret (p.1,l)) qs).run h=some (l,h')->
  h'=h/\∃jA,Instr.fill pl cells (ps.map λp=>(p.1,a.eval p.2))=some jA/\RC ν g jA (cz cs l):=by
 intro ps
 induction ps with
 |nil=>
  intro qs cells cs n l h h' hc hr _ e;cases qs with
  |cons=>simp[iE]at hc
  |nil=>
   obtain⟨rfl,rfl⟩:=dS e;exact⟨rfl,cells,rfl,hr⟩
 |cons p ps ih=>
  intro qs cells cs n l h h' hc hr hn e;cases qs with
  |nil=>simp[iE]at hc
  |cons q qs=>
   simp only[iE,Bool.and_eq_true,beq_iff_eq]at hc;obtain⟨⟨ma,hq⟩,gl⟩:=hc;obtain⟨y,h1,zs,e1,e2,rfl⟩:=dx e;obtain⟨xs,h2,e3,e4⟩:=aw e1;obtain⟨rfl,hs,wc⟩:=jX e3 (aY hf hq);obtain⟨cg,e6⟩:=M.aL e4;obtain⟨rfl,rfl⟩:=ai e6;simp only[Bool.and_eq_true,beq_iff_eq,Nat.ble_eq]at cg;have eR:q.1+xs.length<=cs.length:=by omega
   have Cm:=hr.bl (us:=(a.eval p.2).cells) (l:=xs) (o:=q.1) ⟨hs,wc⟩ eR;obtain⟨rfl,c',jZ,hR⟩:=ih qs _ _ n zs h1 h' gl Cm (by rw[gm _ _ _ eR];exact hn) e2;refine⟨rfl,c',?_,hR⟩;rw[<-jZ];simp only[List.map_cons,Instr.fill,ma];have z8:¬(((a.eval p.2).cells.size≠q.2.1||q.1+(a.eval p.2).cells.size > cells.size)=true):=by
    have:=hr.1;simp;omega
   rw[if_neg z8,<-Array.foldl_toList,Array.toList_zipIdx]
theorem yU (r:Rel ν k g) {a:Act} {fr:Fr} (hf:jB ν g a.tmps fr) {t:TypeId} {z:List AV} {ps:Array (Nat×Operand)} {qs:List (Nat×Nat×bf)} {pl:Nat->Option (Nat×Nat)}
  (hz:sH P t z=true) (hp:placesOf P t=some pl) (hc:iE ν pl ps.toList qs=true) {y:AV} {h':Hp}
  (e:((M.aG (λp:Nat×Nat×bf=>(bh (ev fr p.2.2)).bind λl=>(M.ok (l.length==p.2.1&&Nat.ble (p.1+p.2.1) z.length)).bind λ_=>M.ret (p.1,l)) qs).bind λl=>M.ret (.agg (cz z l))).run g.h=some (y,h')) :
  dj ν k g h' y ((Instr.build t (ps.map fun(i,x)=>(i,a.eval x))).run P g.w):=by
 obtain⟨l,h1,e1,e2⟩:=aw e;obtain⟨rfl,rfl⟩:=ai e2;obtain⟨i,v,hi,Ab,mT⟩:=rf hz;have SG:=zc (ν:=ν) (g:=g) mT;obtain⟨rfl,jA,jZ,hR⟩:=tb hf ps.toList qs v.cells z z.length l _ _ hc SG rfl e1;refine .same r (run_build g.w t _ jA ?_) hR.agg;rw[Ea hp hi Ab rfl];simpa using jZ
end
def RL (ν:Nat->Nat) (g:Gh) (vs:List Value) (xs:List AV):Prop:=vs.length=xs.length/\∀(j:Nat) (v:Value) (x:AV),vs[j]?=some v->xs[j]?=some x->RA ν g v x
section
variable {ν:Nat->Nat} {P:Program} {k:Cx} {g:Gh}
theorem RL.nil:RL ν g [] []:=⟨rfl,λj v x h=>by simp at h⟩
theorem RL.cons {v:Value} {x:AV} {vs:List Value} {xs:List AV} (h:RA ν g v x) (hl:RL ν g vs xs):RL ν g (v::vs) (x::xs):=
 ⟨by simp[hl.1],λj v' x' h1 h2=>by
  cases j with
  |zero=>simp at h1 h2;subst h1 h2;exact h
  |succ j=>exact hl.2 j v' x' (by simpa using h1) (by simpa using h2)⟩
theorem RL.tail {v:Value} {x:AV} {vs:List Value} {xs:List AV} (h:RL ν g (v::vs) (x::xs)):RA ν g v x/\RL ν g vs xs:=
 ⟨h.2 0 v x rfl rfl,by have:=h.1;simpa using this,λj v' x' h1 h2=>h.2 (j+1) v' x' (by simpa using h1) (by simpa using h2)⟩
theorem RL.mono {g':Gh} {vs:List Value} {xs:List AV} (h:RL ν g vs xs) (hm:∀v x,RA ν g v x->RA ν g' v x):RL ν g' vs xs:=⟨h.1,λj v x h1 h2=>hm _ _ (h.2 j v x h1 h2)⟩
theorem RL.append {vs us:List Value} {xs ys:List AV} (h:RL ν g vs xs) (h':RL ν g us ys):RL ν g (vs++us) (xs++ys):=
 ⟨by simp[h.1,h'.1],λj v x h1 h2=>by
  rw[List.getElem?_append]at h1 h2;rw[<-h.1]at h2;split at h1
  ·rename_i hj;rw[if_pos hj]at h2;exact h.2 j v x h1 h2
  ·rename_i hj;rw[if_neg hj]at h2;exact h'.2 _ v x h1 h2⟩
theorem rO (r:Rel ν k g) {a:AV} {y:ao.AV} {h':Hp} (e:(bZ true a).run g.h=some (y,h')) {v:Value} (hv:RA ν g v a):∃I',ej ν k g h' I'/\oj ν I' g.w v y:=by
 have plain:∀{a:AV},((fz true 8 a).bind λx=>M.ret (ao.AV.iv x)).run g.h=some (y,h')->RA ν g v a->∃I',ej ν k g h' I'/\oj ν I' g.w v y:=by
  intro a e hv;obtain⟨x,h1,e1,e2⟩:=aw e;obtain⟨rfl,rfl⟩:=ai e2;obtain⟨I',f,hR⟩:=nr ν 8 k g a x _ e1 r v hv;exact⟨I',f,.iv hR⟩
 cases a with
 |agg cs=>
  obtain⟨xs,h1,e1,e2⟩:=aw e;obtain⟨rfl,rfl⟩:=ai e2;obtain⟨vs,rfl⟩:=hv.lg;obtain⟨V,hV⟩:=pick λj c hc=>hv.jQ j c hc
  obtain⟨I',f,hl,hx⟩:=(nr ν 8).list cs k g xs _ e1 r V λj c hc=>(hV j c hc).2
  refine⟨I',f,sv ?_ λj v x h1 h2=>?_⟩
  ·cases hv with
   |agg hn _ _=>omega
  ·have bC:=bg h2;have:=(hV j _ (List.getElem?_eq_getElem (show j<cs.length by omega))).1;rw[h1]at this;cases this;exact hx j x h2
 |undef=>exact plain e hv
 |iQ q=>exact plain e hv
 |iv x=>exact plain e hv
 |bD vs=>exact plain e hv
 |own id o n v=>exact plain e hv
 |ref id v i j=>exact plain e hv
 |dg f fs caps=>exact plain e hv
theorem Ns (r:Rel ν k g) {a:AV} {y:ao.AV} {h':Hp} (e:(bZ false a).run g.h=some (y,h')) {v:Value} (hv:RA ν g v a) :
  h'=g.h/\∀J:Nat->Prop,(∀b,g.I b->J b)->(∀id o b,get g.h id=some o->g.φ id=some b->J b)->oj ν J g.w v y:=by
 have plain:∀{a:AV},((fz false 8 a).bind λx=>M.ret (ao.AV.iv x)).run g.h=some (y,h')->RA ν g v a->
   h'=g.h/\∀J:Nat->Prop,(∀b,g.I b->J b)->(∀id o b,get g.h id=some o->g.φ id=some b->J b)->oj ν J g.w v y:=by
  intro a e hv;obtain⟨x,h1,e1,e2⟩:=aw e;obtain⟨rfl,rfl⟩:=ai e2;obtain⟨rfl,hR⟩:=rH ν 8 k g a x _ e1 r v hv;exact⟨rfl,λJ h1 h2=>.iv (hR J h1 h2)⟩
 cases a with
 |agg cs=>
  obtain⟨xs,h1,e1,e2⟩:=aw e;obtain⟨rfl,rfl⟩:=ai e2;obtain⟨vs,rfl⟩:=hv.lg;obtain⟨V,hV⟩:=pick λj c hc=>hv.jQ j c hc
  obtain⟨rfl,hl,hx⟩:=(rH ν 8).list k g r cs xs _ e1 V λj c hc=>(hV j c hc).2
  refine⟨rfl,λJ h1 h2=>sv ?_ λj v x h3 h4=>?_⟩
  ·cases hv with
   |agg hn _ _=>omega
  ·have bC:=bg h4;have:=(hV j _ (List.getElem?_eq_getElem (show j<cs.length by omega))).1;rw[h3]at this;cases this;exact hx J h1 h2 j x h4
 |undef=>exact plain e hv
 |iQ q=>exact plain e hv
 |iv x=>exact plain e hv
 |bD vs=>exact plain e hv
 |own id o n v=>exact plain e hv
 |ref id v i j=>exact plain e hv
 |dg f fs caps=>exact plain e hv
theorem pZ:∀(U:List AV) (k:Cx) (g:Gh) (ys:List ao.AV) (h':Hp),(M.aG (bZ true) U).run g.h=some (ys,h')->Rel ν k g->∀vs:List Value,RL ν g vs U->
  ∃I',ej ν k g h' I'/\ao.RL ν ⟨I',λ_=>none,g.w,[]⟩ vs ys:=by
 intro U
 induction U with
 |nil=>
  intro k g ys h' e r vs hv;obtain⟨rfl,rfl⟩:=dS e;have:vs=[]:=List.eq_nil_of_length_eq_zero hv.1;subst this;exact⟨g.I,.refl r,ao.RL.nil⟩
 |cons a U ih=>
  intro k g ys h' e r vs hv;cases vs with
  |nil=>have:=hv.1;simp at this
  |cons v vs=>
   obtain⟨y,h1,zs,e1,e2,rfl⟩:=dx e;obtain⟨I1,f1,hR⟩:=rO r e1 hv.tail.1;obtain⟨I2,f2,gM⟩:=ih k _ zs h' e2 f1.rel vs (hv.tail.2.mono f1.mono);exact⟨I2,f1.trans f2,ao.RL.cons (hR.mono λv x h=>h.mono f2.sub λ_ _ _ _ h=>h) gM⟩
theorem wq (r:Rel ν k g):∀(U:List AV) (ys:List ao.AV) (h':Hp),(M.aG (bZ false) U).run g.h=some (ys,h')->∀vs:List Value,RL ν g vs U->
  h'=g.h/\∀J:Nat->Prop,(∀b,g.I b->J b)->(∀id o b,get g.h id=some o->g.φ id=some b->J b)->ao.RL ν ⟨J,λ_=>none,g.w,[]⟩ vs ys:=by
 intro U
 induction U with
 |nil=>
  intro ys h' e vs hv;obtain⟨rfl,rfl⟩:=dS e;have:vs=[]:=List.eq_nil_of_length_eq_zero hv.1;subst this;exact⟨rfl,λ_ _ _=>ao.RL.nil⟩
 |cons a U ih=>
  intro ys h' e vs hv;cases vs with
  |nil=>have:=hv.1;simp at this
  |cons v vs=>
   obtain⟨y,h1,zs,e1,e2,rfl⟩:=dx e;obtain⟨rfl,hR⟩:=Ns r e1 hv.tail.1;obtain⟨rfl,gM⟩:=ih zs h' e2 vs hv.tail.2;exact⟨rfl,λJ h1 h2=>ao.RL.cons (hR J h1 h2) (gM J h1 h2)⟩
theorem ES:∀{cs:List ao.AV} {xs:List IV},ln cs=some xs->cs=xs.map .iv
 |[],xs,h=>by simp[ln]at h;subst h;rfl
 |.iv x::r,xs,h=>by
  simp only[ln,Option.map_eq_some_iff]at h;obtain⟨ys,h1,rfl⟩:=h;rw[ES h1];rfl
 |.undef::_,_,h=>by simp[ln]at h
 |.agg _::_,_,h=>by simp[ln]at h
 |.bD _::_,_,h=>by simp[ln]at h
 |.own _ _ _ _::_,_,h=>by simp[ln]at h
 |.ref _ _ _ _::_,_,h=>by simp[ln]at h
 |.dg _ _::_,_,h=>by simp[ln]at h
theorem ET {I:Nat->Prop} {w:World} {v:Value} {a:ao.AV} {y:AV} (h:oj ν I w v a) (e:ks a=some y) (hR:∀v x,RI ν I w v x->RI ν g.I g.w v x):RA ν g v y:=by
 cases a with
 |iv x=>
  simp[ks]at e;subst e;cases h with
  |iv h=>exact .iv (hR _ _ h)
 |agg cs=>
  simp only[ks,Option.map_eq_some_iff]at e;obtain⟨xs,h1,rfl⟩:=e;obtain rfl:=ES h1;cases h with
  |agg hn h1 hr=>
   refine .agg (by simpa using hn) h1 λj v c hv hc=>?_
   simp only[List.getElem?_map,Option.map_eq_some_iff]at hc;obtain⟨x,hx,rfl⟩:=hc;have:=hr j v (.iv x) hv (by simp[hx]);cases this with
   |iv h=>exact .iv (hR _ _ h)
 |undef=>cases e
 |bD _=>cases e
 |own _ _ _ _=>cases e
 |ref _ _ _ _=>cases e
 |dg _ _=>cases e
theorem LO:∀{U:List ao.AV} {ys:List AV},Hj U=some ys->U.length=ys.length/\∀(j:Nat) (a:ao.AV) (y:AV),U[j]?=some a->ys[j]?=some y->ks a=some y
 |[],ys,h=>by simp[Hj]at h;subst h;exact⟨rfl,λj a y h=>by simp at h⟩
 |a::U,ys,h=>by
  simp only[Hj,Option.bind_eq_some_iff,Option.map_eq_some_iff]at h;obtain⟨y,h1,zs,h2,rfl⟩:=h;obtain⟨q1,q2⟩:=LO h2;refine⟨by simp[q1],λj a' y' ha hy=>?_⟩;cases j with
  |zero=>simp at ha hy;subst ha hy;exact h1
  |succ j=>exact q2 j a' y' (by simpa using ha) (by simpa using hy)
theorem LP {I:Nat->Prop} {w:World} {v:Value} {a:ao.AV} {y:AV} (h:oj ν I w v a) (e:kX a=some y) (hR:∀v x,RI ν I w v x->RI ν g.I g.w v x):RA ν g v y:=by
 cases a with
 |bD vs=>
  simp only[kX,Option.map_eq_some_iff]at e;obtain⟨ys,h1,rfl⟩:=e;obtain⟨q1,q2⟩:=LO h1;cases h with
  |bD hn hr=>
   refine .bD (by omega) λj v c hv hc=>?_
   have hj:j<vs.length:=by have:=bg hc;omega
   exact ET (hr j v _ hv (List.getElem?_eq_getElem hj)) (q2 j _ c (List.getElem?_eq_getElem hj) hc) hR
 |iv x=>exact ET h e hR
 |agg cs=>exact ET h e hR
 |undef=>cases e
 |own _ _ _ _=>cases e
 |ref _ _ _ _=>cases e
 |dg _ _=>cases e
def mU (ν:Nat->Nat) (P:Program) (f:Nat) (args:List AV) (hp:Hp) (r:AV) (dG:Hp):Prop:=
 ∀(k0:Cx) (g0:Gh) (bP:Array Value),g0.h=hp->Rel ν k0 g0->RL ν g0 bP.toList args->
  Calls P (ν f) bP g0.w λe w'=>∃v g',e = .returned v/\g'.w=w'/\g'.h=dG/\Rel ν k0 g'/\bY ν g0 g'/\RA ν g' v r
def cR (ν:Nat->Nat) (P:Program) (call:fb):Prop:=
 ∀f args hp nx r dG aW,call f args hp nx=some (r,dG,aW)->(∃fn,P.funcs[ν f]?=some fn/\fn.body.isSome=true/\(fn.name=="runtime.NumGoroutine")=false)/\mU ν P f args hp r dG
theorem kW {x:AV} {q:Nat×List AV×List AV} (e:callee x=some q) {v:Value} (hv:RA ν g v x):∃first caps,v = .func (.func (ν q.1)) first caps/\RL ν g first.toList q.2.1/\RL ν g caps.toList q.2.2:=by
 unfold callee at e;split at e
 ·cases e;cases hv with
  |iv h=>
   cases h with
   |fn f caps cs hn hr=>
    refine⟨#[],caps,rfl,.nil,by simpa using hn,λj v x h1 h2=>?_⟩;simp only[List.getElem?_map,Option.map_eq_some_iff]at h2;obtain⟨y,hy,rfl⟩:=h2;exact .iv (hr j v y (by simpa using h1) hy)
 ·cases e;cases hv with
  |dg hm hs hn hr=>exact⟨_,_,rfl,⟨by simpa using hm,λj v x h1 h2=>hs j v x (by simpa using h1) h2⟩,by simpa using hn,λj v x h1 h2=>hr j v x (by simpa using h1) h2⟩
 ·cases e
theorem wv {ρ:Operand->Value} {o:Oper} {fo:Operand} {bP:Array Operand} {jv:Array TypeId} (ho:o.op = .call { callee:=.value fo,args:=bP,argTypes:=jv }) {f:Nat} {first caps:Array Value}
  (hf:ρ fo = .func (.func (ν f)) first caps) {fn:Func} (iw:P.funcs[ν f]?=some fn) (hb:fn.body.isSome=true) (hn:(fn.name=="runtime.NumGoroutine")=false) (w:World) :
  (execOp ρ o).run P w = .ok (.enter (ν f) (first++bP.map ρ++caps)) w:=by
 have lY:¬fn.body=none:=λh=>by rw[h]at hb;cases hb
 have fD:¬fn.name="runtime.NumGoroutine":=by simpa using hn
 simp[execOp,ho,resolve,hf,Deferred.ofValue,invoke,callFunc,iw,lY,fD]
def ll (ν:Nat->Nat) (P:Program) (k:Cx) (g:Gh) (h':Hp) (y:AV) (fv:Value) (bP:Array Value):Prop:=
 ∃q first caps fn,fv = .func (.func (ν q)) first caps/\P.funcs[ν q]?=some fn/\fn.body.isSome=true/\(fn.name=="runtime.NumGoroutine")=false/\
  Calls P (ν q) (first++bP++caps) g.w λe w'=>∃v g',e = .returned v/\g'.w=w'/\g'.h=h'/\Rel ν k g'/\bY ν g g'/\RA ν g' v y
theorem zf {q:Nat×List AV×List AV} {first caps bP:Array Value} {args:List AV} (h1:RL ν g first.toList q.2.1) (h2:RL ν g caps.toList q.2.2) (ha:RL ν g bP.toList args) :
  RL ν g (first++bP++caps).toList (q.2.1++(args++q.2.2)):=by
 have:=h1.append (ha.append h2);simpa using this
theorem uz (r:Rel ν k g) {J:Nat->Prop} {g':ao.Gh} (r':ao.Rel ν ⟨g.w,J,λ_=>False⟩ g'):Rel ν k { g with w:=g'.w }/\bY ν g { g with w:=g'.w }:=
 r.world (I':=g.I) (λ_ h=>h) (λ_ h=>.inl h) r'.size r'.os r'.tape r'.output λb hb=>r'.bu b hb (.inl λh=>h)
theorem yW {call:dK} (hs:ao.cR ν P call) (r:Rel ν k g) {f y:AV} {args:List AV} {h':Hp} (e:(dF call f args).run g.h=some (y,h')) {fv:Value} {bP:Array Value}
  (hf:RA ν g fv f) (ha:RL ν g bP.toList args):ll ν P k g h' y fv bP:=by
 obtain⟨q,hq,e2⟩:=M.lift_bind e;obtain⟨first,caps,rfl,om,j3⟩:=kW hq hf;obtain⟨U,h2,e3,e4⟩:=aw e2;obtain⟨rfl,hJ⟩:=wq r _ _ _ e3 _ (zf om j3 ha);obtain⟨y',hc,e6⟩:=M.lift_bind e4;obtain⟨Co,e8⟩:=M.aL e6;obtain⟨oU,rfl⟩:=gN e8;obtain⟨⟨rr,hh⟩,iN,uA⟩:=Option.bind_eq_some_iff.1 hc;obtain⟨⟨fn,iw,hb,hn⟩,cg⟩:=hs _ _ _ _ _ iN;have sw:∀b,(g.I b\/∃id o,get g.h id=some o/\g.φ id=some b)->b<g.w.heap.size:=by
  rintro b (h | ⟨id,o,ho,aB⟩)
  ·exact r.small b h
  ·exact(r.ob id o ho).block aB r.small
 have gM:=hJ (λb=>g.I b\/∃id o,get g.h id=some o/\g.φ id=some b) (λ_ h=>.inl h) λid o b h1 h2=>.inr ⟨id,o,h1,h2⟩
 refine⟨q.1,first,caps,fn,rfl,iw,hb,hn,(cg ⟨g.w,_,λ_=>False⟩ ⟨_,λ_=>none,g.w,[]⟩ _ rfl rfl rfl (ao.rP (g:=⟨λ_=>False,λ_=>none,g.w,[]⟩) sw) gM).mono ?_⟩;rintro e w' ⟨v,g',rfl,rfl,rfl,r', -,hR⟩;obtain⟨I',zY, -,tH⟩:=xS r' uA hR;obtain⟨r2,m2⟩:=uz r r';exact⟨v,{ g with w:=g'.w },rfl,rfl,rfl,r2,m2,LP (I:=g.I) (w:=g'.w) (yV Co tH) oU λ_ _ h=>h⟩
theorem wx {call:dK} (hs:ao.cR ν P call) (r:Rel ν k g) {f y:AV} {args:List AV} {h':Hp} (e:(dR call f args).run g.h=some (y,h')) {fv:Value} {bP:Array Value}
  (hf:RA ν g fv f) (ha:RL ν g bP.toList args):ll ν P k g h' y fv bP:=by
 obtain⟨q,hq,e2⟩:=M.lift_bind e;obtain⟨first,caps,rfl,om,j3⟩:=kW hq hf;obtain⟨U,h2,e3,e4⟩:=aw e2;obtain⟨I1,f1,gM⟩:=pZ _ k g U _ e3 r _ (zf om j3 ha);obtain⟨y',hc,e6⟩:=M.lift_bind e4;obtain⟨oU,rfl⟩:=gN e6;obtain⟨⟨rr,hh⟩,iN,uA⟩:=Option.bind_eq_some_iff.1 hc;obtain⟨⟨fn,iw,hb,hn⟩,cg⟩:=hs _ _ _ _ _ iN;refine⟨q.1,first,caps,fn,rfl,iw,hb,hn,(cg ⟨g.w,_,λ_=>False⟩ ⟨_,λ_=>none,g.w,[]⟩ _ rfl rfl rfl (ao.rP (g:=⟨λ_=>False,λ_=>none,g.w,[]⟩) f1.rel.small) gM).mono ?_⟩;rintro e w' ⟨v,g',rfl,rfl,rfl,r', -,hR⟩;obtain⟨I2,zY,f2,tH⟩:=xS r' uA hR
 have jh:∀b,I2 b->I1 b\/g.w.heap.size<=b/\b<g'.w.heap.size:=by
  intro b hb;have bC:=f2.rel.small b hb;rcases f2.rel.i1 b hb with h | h | h
  ·exact .inl h
  ·exact h.elim
  ·exact .inr ⟨h,bC⟩
 have hw:=f1.rel.world (w':=g'.w) (I':=I2) (λb h=>f2.sub b (r'.i0 b h)) jh r'.size r'.os r'.tape r'.output λb hb=>r'.bu b hb (.inl λh=>h)
 exact⟨v,⟨I2,g.φ,g'.w,_⟩,rfl,rfl,rfl,hw.1,f1.mono.trans hw.2,LP tH oU λv x h=>h⟩
end
theorem M.rI {α β γ:Type} (f:β->M γ) (h:α->β):∀l:List α,M.aG f (l.map h)=M.aG (λx=>f (h x)) l
 |[]=>rfl
 |x::r=>by simp only[List.map_cons,M.aG,M.rI f h r]
section
variable {ν:Nat->Nat} {P:Program} {k:Cx} {g:Gh}
theorem bE {o:Oper} {a:Act} {h':Hp} {y:AV} {s:Sem Value} (hx:execOp a.eval o=(do pure (.value (<-s)):Sem Next)) (d:dj ν k g h' y (s.run P g.w)) {next:Act->World->Prop} {Q:Exit->Act->World->Prop}
  (hn:∀g' v,g'.h=h'->Rel ν k g'->bY ν g g'->RA ν g' v y->next (a.put o.dst v) g'.w):o.wp P a g.w next Q:=by
 obtain⟨g',v,hr,hh,r',m,hR⟩:=d;unfold Oper.wp;rw[hx];simp only[Sem.run_bind,hr,Result.andThen_ok,Sem.run_pure];exact hn g' v hh r' m hR
theorem nH {o:Oper} {a:Act} {h':Hp} {y:AV} {fo:Operand} {bP:Array Operand} {jv:Array TypeId} (ho:o.op = .call { callee:=.value fo,args:=bP,argTypes:=jv })
  (d:ll ν P k g h' y (a.eval fo) (bP.map a.eval)) {next:Act->World->Prop} {Q:Exit->Act->World->Prop}
  (hn:∀g' v,g'.h=h'->Rel ν k g'->bY ν g g'->RA ν g' v y->next (a.put o.dst v) g'.w):o.wp P a g.w next Q:=by
 obtain⟨q,first,caps,fn,hf,iw,hb,Al,hc⟩:=d;unfold Oper.wp;rw[wv ho hf iw hb Al];rw[Oper.upon_enter];refine hc.mono ?_;rintro e w' ⟨v,g',rfl,rfl,hh,r',m,hR⟩;exact hn g' v hh r' m hR
theorem kL {a:Act} {fr:Fr} (hf:jB ν g a.tmps fr) {xs:Array Operand} {ys:List bf} (h:gP ν xs.toList ys=true):RL ν g (xs.map a.eval).toList (ys.map (ev fr)):=by
 obtain⟨h1,h2⟩:=rL hf h;exact⟨by simpa using h1,λj v x hv hx=>h2 j v x (by simpa using hv) hx⟩
theorem rQ {a:Act} {fr:Fr} (hf:jB ν g a.tmps fr):∀{ps:List (Nat×Operand)} {qs:List (Nat×bf)},kK ν ps qs=true->
  (ps.map λp=>(p.1,a.eval p.2)).length=(qs.map λp=>(p.1,ev fr p.2)).length/\
  ∀(j:Nat) (q:Nat×Value) (p:Nat×AV),(ps.map λp=>(p.1,a.eval p.2))[j]?=some q->(qs.map λp=>(p.1,ev fr p.2))[j]?=some p->q.1=p.1/\RA ν g q.2 p.2
 |[],[],_=>⟨rfl,λj v x h=>by simp at h⟩
 |x::xs,y::ys,h=>by
  simp only[kK,Bool.and_eq_true,beq_iff_eq]at h;obtain⟨h1,h2⟩:=rQ hf h.2;refine⟨by simpa using h1,λj v z hv hz=>?_⟩;cases j with
  |zero=>simp at hv hz;subst hv hz;exact⟨h.1.1,aY hf h.1.2⟩
  |succ j=>exact h2 j v z (by simpa using hv) (by simpa using hz)
 |[],_::_,h=>by simp[kK]at h
 |_::_,[],h=>by simp[kK]at h
set_option maxHeartbeats 4000000 in
theorem Jj {call:dK} (hs:ao.cR ν P call) {o:Oper} {a:Act} {fr:Fr} {io:jt} {slot:Nat} (hc:Ah P ν o.op io=true) (r:Rel ν k g) (hf:jB ν g a.tmps fr) {y:AV} {h':Hp}
  (e:(bp call slot (ev fr) io).run g.h=some (y,h')) {next:Act->World->Prop} {Q:Exit->Act->World->Prop}
  (hn:∀g' v,g'.h=h'->Rel ν k g'->bY ν g g'->RA ν g' v y->next (a.put o.dst v) g'.w):o.wp P a g.w next Q:=by
 unfold Ah at hc;split at hc
 case h_1 y'=>
  obtain⟨rfl,rfl⟩:=ai e;split at hc
  ·rename_i x ho;exact bE (s:=pure (a.eval x)) (by simp[execOp,ho]) (.same r rfl (aY hf hc)) hn
  ·rename_i x ho;exact bE (s:=pure (a.eval x)) (by simp[execOp,ho]) (.same r rfl (aY hf hc)) hn
  ·cases hc
 case h_2=>
  split at hc
  case h_2=>cases hc
  rename_i c x z ho;simp only[Bool.and_eq_true]at hc;simp only[bp]at e;split at e
  case h_2=>exact(ah e).elim
  rename_i t ht;obtain⟨rfl,rfl⟩:=ai e;have h1:=aY hf hc.1.1;rw[ht]at h1;have hb:=h1.bool;refine bE (s:=do pure (if <-asBool (a.eval c) then a.eval x else a.eval z)) (by simp[execOp,ho]) (.same r (v:=if t then a.eval x else a.eval z) (by simp[hb,asBool]) ?_) hn;cases t
  ·exact aY hf hc.2
  ·exact aY hf hc.1.2
 case h_3=>
  split at hc
  case h_2=>cases hc
  rename_i t ho;simp only[Bool.and_eq_true]at hc;exact bE (s:=Instr.alloc t true (.tuple #[])) (by simp[execOp,ho]) (wb r hc.1 hc.2 e) hn
 case h_4=>
  split at hc
  case h_2=>cases hc
  rename_i t x ho;rw[Bool.and_eq_true]at hc;exact bE (s:=Instr.box t (a.eval x)) (by simp[execOp,ho]) (D3 r hc.1 (aY hf hc.2) e) hn
 case h_5=>
  split at hc
  case h_2=>cases hc
  rename_i t ps ho;simp only[Bool.and_eq_true]at hc;obtain⟨hz,hc⟩:=hc;split at hc
  case h_2=>cases hc
  rename_i pl ma;exact bE (s:=Instr.build t (ps.map fun(i,x)=>(i,a.eval x))) (by simp[execOp,ho]) (yU r hf hz ma hc e) hn
 case h_6 e0 z n' qs=>
  split at hc
  case h_2=>cases hc
  rename_i t n ps ho;simp only[Bool.and_eq_true,beq_iff_eq]at hc;obtain⟨⟨rfl,hb⟩,hq⟩:=hc;obtain⟨hl,hp⟩:=rQ hf hq;refine bE (s:=Instr.buildSlice t n (ps.toList.map λp=>(p.1,a.eval p.2)).toArray) (by
   have:(ps.map fun(p:Nat×Operand)=>(p.1,a.eval p.2))=(ps.toList.map λp=>(p.1,a.eval p.2)).toArray:=by apply Array.ext';simp
   simp only[execOp,ho];rw[<-this]) (D8 (slot:=slot) r hb hl hp ?_) hn
  rw[M.rI];exact e
 case h_7=>
  split at hc
  case h_2=>cases hc
  rename_i t x ho;simp only[Bool.and_eq_true]at hc;exact bE (s:=Instr.loadAt t (a.eval x)) (by simp[execOp,ho]) (BD r hc.1 (aY hf hc.2) e) hn
 case h_8=>
  split at hc
  case h_2=>cases hc
  rename_i t x z ho;simp only[Bool.and_eq_true]at hc;obtain⟨g',cP,rfl,hh,r',m⟩:=yR r hc.1.1 (aY hf hc.1.2) (aY hf hc.2) e;unfold Oper.wp;have hx:(execOp a.eval o).run P g.w = .ok .skip g'.w:=by simp[execOp,ho,cP]
  rw[hx];exact hn g' undef hh r' m (.bD rfl λj v c h=>by simp at h)
 case h_9=>
  split at hc
  case h_2=>cases hc
  rename_i t x f ho;simp only[Bool.and_eq_true]at hc;exact bE (s:=Instr.fieldAt t (a.eval x) f) (by simp[execOp,ho]) (BE r hc.1 (aY hf hc.2) e) hn
 case h_10=>cases hc
 case h_11=>cases hc
 case h_12=>
  split at hc
  case h_2=>cases hc
  rename_i t x z ho;simp only[Bool.and_eq_true]at hc;exact bE (s:=Instr.indexAt t (a.eval x) (a.eval z)) (by simp[execOp,ho]) (DW r hc.1.1 (aY hf hc.1.2) (aY hf hc.2) e) hn
 case h_13=>cases hc
 case h_14=>cases hc
 case h_15 bo q x' y'=>
  split at hc
  case h_2=>cases hc
  rename_i b t x z yt ho;simp only[Bool.and_eq_true,beq_iff_eq]at hc;obtain⟨⟨⟨rfl,hq⟩,hx⟩,hz⟩:=hc;exact bE (s:=do eqGuard b t x z (a.eval x) (a.eval z);binOp b t (a.eval x) (a.eval z)) (by simp[execOp,ho]) (QM r hq (aY hf hx) (aY hf hz) e) hn
 case h_16 neg qs x' y'=>
  split at hc
  case h_2=>cases hc
  rename_i b t x z yt ho;simp only[Bool.and_eq_true,beq_iff_eq]at hc;obtain⟨⟨⟨rfl,hq⟩,hx⟩,hz⟩:=hc;simp only[bp]at e;split at e
  case h_2=>exact(ah e).elim
  rename_i xs ys Cq tC;obtain⟨w',hb,e2⟩:=M.lift_bind e;obtain⟨rfl,rfl⟩:=ai e2;have h1:=aY hf hx;have h2:=aY hf hz;rw[Cq]at h1;rw[tC]at h2;exact bE (s:=do eqGuard (if neg then .neq else .eql) t x z (a.eval x) (a.eval z);binOp (if neg then .neq else .eql) t (a.eval x) (a.eval z)) (by simp[execOp,ho]) (S8 r hq neg h1 h2 hb) hn
 case h_17 uo x'=>
  split at hc
  case h_2=>cases hc
  rename_i u t x ho;simp only[Bool.and_eq_true,beq_iff_eq]at hc;obtain⟨rfl,hx⟩:=hc;obtain⟨w',hb,e2⟩:=M.lift_bind e;obtain⟨rfl,rfl⟩:=ai e2;exact bE (s:=Op.unary u (a.eval x)) (by simp[execOp,ho]) (I9 r (aY hf hx) hb) hn
 case h_18=>
  split at hc
  case h_2=>cases hc
  rename_i s d x ho;simp only[Bool.and_eq_true]at hc;obtain⟨n,h1,e1,e2⟩:=aw e;have hh:=(ki e1).1;subst hh;obtain⟨rfl,rfl⟩:=ai e2;exact bE (s:=convert s d (a.eval x)) (by simp[execOp,ho]) (DZ r hc.1 (aY hf hc.2) e1) hn
 case h_19=>cases hc
 case h_20=>
  split at hc
  case h_2=>cases hc
  rename_i t x lo hi ho;simp only[Bool.and_eq_true]at hc;exact bE (s:=Instr.sliceAt t (a.eval x) (lo.map a.eval) (hi.map a.eval) none) (by simp[execOp,ho]) (D0 r hc.1.1.1 (aY hf hc.1.1.2) (rM hf hc.1.2) (rM hf hc.2) e) hn
 case h_21=>cases hc
 case h_22=>cases hc
 case h_23=>cases hc
 case h_24=>cases hc
 case h_25=>
  split at hc
  case h_2=>cases hc
  rename_i args jv ho;split at hc
  case h_2=>cases hc
  rename_i x t hx ht;obtain rfl:args=#[x]:=Array.ext' hx;obtain rfl:jv=#[t]:=Array.ext' ht;simp only[Bool.and_eq_true]at hc;exact bE (s:=Builtin.len_ #[t] o.type #[a.eval x]) (by simp[execOp,ho,resolve,invoke,builtin]) (D2 r hc.1 (aY hf hc.2) e) hn
 case h_26=>
  split at hc
  case h_2=>cases hc
  rename_i args jv ho;split at hc
  case h_2=>cases hc
  rename_i x z t u hx ht;obtain rfl:args=#[x,z]:=Array.ext' hx;obtain rfl:jv=#[t,u]:=Array.ext' ht;simp only[Bool.and_eq_true]at hc;exact bE (s:=Builtin.append_ #[t,u] o.type #[a.eval x,a.eval z]) (by simp[execOp,ho,resolve,invoke,builtin]) (D9 r hc.1.1.1 (λhb=>by
   have:=hc.1.1.2;rw[hb]at this;simp only[Bool.not_true,Bool.false_or]at this;split at this
   ·rw[beq_iff_eq]at this;rw[<-this];assumption
   ·cases this) (aY hf hc.1.2) (aY hf hc.2) e) hn
 case h_27 x' ys=>
  split at hc
  case h_2=>cases hc
  rename_i args jv ho;have hR:=kL hf hc;simp only[bp]at e;split at e
  case h_2=>exact(ah e).elim
  rename_i kk n hx;obtain⟨z,hz,e2⟩:=M.lift_bind e;obtain⟨rfl,rfl⟩:=ai e2;simp only[List.map_cons]at hR;generalize kV:(args.map a.eval).toList=vs at hR;cases vs with
  |nil=>have:=hR.1;simp at this
  |cons v vs=>
   have h0:=hR.tail.1;rw[hx]at h0;obtain rfl:=h0.int;have cP:=Ja P g.w (ys.map (ev fr)) vs n kk z hz hR.tail.2.1 hR.tail.2.2;exact bE (s:=Builtin.min_ jv o.type (args.map a.eval)) (by simp[execOp,ho,resolve,invoke,builtin]) (.same r (v:=.int kk z) (by simp only[Builtin.min_,kV];exact cP) mkInt) hn
 case h_28 x' ys=>
  split at hc
  case h_2=>cases hc
  rename_i args jv ho;have hR:=kL hf hc;simp only[bp]at e;split at e
  case h_2=>exact(ah e).elim
  rename_i kk n hx;obtain⟨z,hz,e2⟩:=M.lift_bind e;obtain⟨rfl,rfl⟩:=ai e2;simp only[List.map_cons]at hR;generalize kV:(args.map a.eval).toList=vs at hR;cases vs with
  |nil=>have:=hR.1;simp at this
  |cons v vs=>
   have h0:=hR.tail.1;rw[hx]at h0;obtain rfl:=h0.int;have cP:=Jb P g.w (ys.map (ev fr)) vs n kk z hz hR.tail.2.1 hR.tail.2.2;exact bE (s:=Builtin.max_ jv o.type (args.map a.eval)) (by simp[execOp,ho,resolve,invoke,builtin]) (.same r (v:=.int kk z) (by simp only[Builtin.max_,kV];exact cP) mkInt) hn
 case h_29 x' i'=>
  split at hc
  case h_2=>cases hc
  rename_i x i ho;simp only[Bool.and_eq_true,beq_iff_eq]at hc;obtain⟨rfl,hx⟩:=hc;simp only[bp]at e;split at e
  case h_2=>exact(ah e).elim
  rename_i vs kV;obtain⟨hy,rfl⟩:=gN e;have h1:=aY hf hx;rw[kV]at h1;obtain⟨us,SQ,fD,jY⟩:∃us,a.eval x = .tuple us/\us.size=vs.length/\∀(j:Nat) (v:Value) (c:AV),us[j]?=some v->vs[j]?=some c->RA ν g v c:=by
   generalize a.eval x=vv at h1;cases h1 with | bD h1 h2=>exact⟨_,rfl,h1,h2⟩
  have bC:=bg hy;have hu:us[i]?=some us[i]:=Array.getElem?_eq_getElem (by omega);exact bE (s:=Instr.extract (a.eval x) i) (by simp[execOp,ho]) (.same r (v:=us[i]) (by simp[SQ,Instr.extract,hu]) (jY i _ _ hu hy)) hn
 case h_30=>
  split at hc
  case h_2=>cases hc
  rename_i x ho;have h1:=aY hf hc;simp only[bp]at e;split at e
  ·rename_i id aC i j hx;rw[hx]at h1;obtain⟨ob,hg,e2⟩:=M.cf e;obtain⟨iI,e4⟩:=M.aL e2;obtain⟨rfl,rfl⟩:=ai e4;have hr:bA g (a.eval x) id aC i j:=by
    generalize a.eval x=vv at h1;cases h1 with | ref _ hr=>exact hr
   obtain⟨b,off,hv, -⟩:=hr.move hg iI 0;refine bE (s:=pure (a.eval x)) ?_ (.same r rfl h1) hn;simp[execOp,ho,hv]
  ·rename_i cs hx;rw[hx]at h1;obtain⟨rfl,rfl⟩:=ai e;obtain⟨b,off,hv⟩:=h1.ptr;refine bE (s:=pure (a.eval x)) ?_ (.same r rfl h1) hn;simp[execOp,ho,hv]
  ·rename_i f cs hx;rw[hx]at h1;obtain⟨rfl,rfl⟩:=ai e;have hv:∃caps,a.eval x = .func (.func (ν f)) #[] caps:=by
    generalize a.eval x=v at h1;cases h1 with | iv h=>cases h with | fn f caps cs h1 h2=>exact⟨caps,rfl⟩
   obtain⟨caps,hv⟩:=hv;refine bE (s:=pure (a.eval x)) ?_ (.same r rfl h1) hn;simp[execOp,ho,hv]
  ·rename_i f fs cs hx;rw[hx]at h1;obtain⟨rfl,rfl⟩:=ai e;have hv:∃first caps,a.eval x = .func (.func (ν f)) first caps:=by
    generalize a.eval x=v at h1;cases h1 with | dg h1 h2=>exact⟨_,_,rfl⟩
   obtain⟨first,caps,hv⟩:=hv;refine bE (s:=pure (a.eval x)) ?_ (.same r rfl h1) hn;simp[execOp,ho,hv]
  ·exact(ah e).elim
 case h_31 f' X9 Ai=>
  split at hc
  case h_2=>cases hc
  rename_i f first caps ho
  simp only[Bool.and_eq_true,beq_iff_eq]at hc;obtain⟨⟨rfl,om⟩,j3⟩:=hc;obtain⟨rfl,rfl⟩:=ai e;have hR:=kL hf j3;have hS:=kL hf om;refine bE (s:=Instr.makeFunc (.func (ν f')) (first.map a.eval) (caps.map a.eval)) (by simp[execOp,ho]) (.same r (v:=.func (.func (ν f')) (first.map a.eval) (caps.map a.eval)) (by simp[Instr.makeFunc]) ?_) hn;exact .dg (by have:=hS.1;simpa using this) (λj v c h1 h2=>hS.2 j v c (by simpa using h1) h2) (by have:=hR.1;simpa using this) λj v c h1 h2=>hR.2 j v c (by simpa using h1) h2
 case h_32 mode f' pG=>
  split at hc
  case h_2=>cases hc
  rename_i fo bP jv ho;simp only[Bool.and_eq_true]at hc;have wy:=aY hf hc.1;have hR:=kL hf hc.2;simp only[bp]at e;split at e
  ·exact nH ho (yW hs r e wy hR) hn
  ·exact nH ho (wx hs r e wy hR) hn
 case h_33=>
  exact(ah e).elim
 case h_34=>cases hc
 case h_35=>
  split at hc
  case h_2=>cases hc
  rename_i t ho;exact bE (s:=Instr.makeMap t none) (by simp[execOp,ho]) (S7 r e) hn
 case h_36 ok agg qs z m' k'=>
  split at hc
  case h_2=>cases hc
  rename_i t m kk o ho;simp only[Bool.and_eq_true,beq_iff_eq]at hc;obtain⟨⟨⟨⟨rfl,h1⟩,h2⟩,h3⟩,h4⟩:=hc;exact bE (s:=Instr.lookup t (a.eval m) (a.eval kk) o) (by simp[execOp,ho]) (QQ r h1 h2 (aY hf h3) (aY hf h4) e) hn
 case h_37 qs m' k' x'=>
  have key:∀{t:TypeId} {m kk x:Operand},(o.op = .mapUpdate t m kk x\/o.op = .insert t m kk x)->(yT P t qs&&cp ν m m'&&cp ν kk k'&&cp ν x x')=true->o.wp P a g.w next Q:=by
   intro t m kk x ho hc;simp only[Bool.and_eq_true]at hc;obtain⟨g',cP,rfl,hh,r',mm⟩:=QR r hc.1.1.1 (aY hf hc.1.1.2) (aY hf hc.1.2) (aY hf hc.2) e;unfold Oper.wp;have hx:(execOp a.eval o).run P g.w = .ok .skip g'.w:=by rcases ho with ho | ho<;>simp[execOp,ho,cP]
   rw[hx];exact hn g' undef hh r' mm (.bD rfl λj v c h=>by simp at h)
  split at hc
  ·rename_i ho;exact key (.inl ho) hc
  ·rename_i ho;exact key (.inr ho) hc
  ·cases hc
 case h_38=>cases hc
 case h_39=>cases hc
 case h_40=>
  exact(ah e).elim
 case h_41=>
  split at hc
  case h_2=>cases hc
  rename_i args jv ho;split at hc
  case h_2=>cases hc
  rename_i x t hx ht;obtain rfl:args=#[x]:=Array.ext' hx;obtain rfl:jv=#[t]:=Array.ext' ht;simp only[Bool.and_eq_true]at hc;obtain⟨hc,hq⟩:=hc;split at hc
  case h_2=>cases hc
  rename_i el hu;obtain⟨i,hi⟩:=Option.isSome_iff_exists.1 hc;exact bE (s:=Builtin.cap_ #[t] o.type #[a.eval x]) (by simp[execOp,ho,resolve,invoke,builtin]) (QO (e:=i.size) r (by simp[sliceB,hu,hi]) (aY hf hq) e) hn
 case h_42=>
  split at hc
  case h_2=>cases hc
  rename_i args jv ho;split at hc
  case h_2=>cases hc
  rename_i x z t u hx ht;obtain rfl:args=#[x,z]:=Array.ext' hx;obtain rfl:jv=#[t,u]:=Array.ext' ht;simp only[Bool.and_eq_true]at hc;obtain⟨kd,hd⟩:=Jr hc.1.1.2;exact bE (s:=Builtin.append_ #[t,u] o.type #[a.eval x,a.eval z]) (by simp[execOp,ho,resolve,invoke,builtin]) (QP r hc.1.1.1 hd (aY hf hc.1.2) (aY hf hc.2) e) hn
 case h_43=>cases hc
 case h_44=>cases hc
 case h_45=>cases hc
 case h_46=>cases hc
 case h_47=>
  split at hc
  case h_2=>cases hc
  rename_i t n ps ho;simp only[Bool.and_eq_true,beq_iff_eq,Array.isEmpty_iff]at hc;obtain⟨⟨rfl,rfl⟩,ht⟩:=hc;obtain⟨rfl,rfl⟩:=ai e;exact bE (s:=Instr.buildSlice t 0 #[]) (by simp[execOp,ho]) (S3 r ht) hn
 case h_48=>cases hc
 case h_49=>cases hc
 case h_50=>cases hc
 case h_51=>cases hc
 case h_52=>cases hc
 case h_53=>cases hc
end
end ay
namespace ay
open Go ao
def IE:Nat->AV
 |0=>.iv (.int .i64 0)
 |1=>.iv (.int .i64 1)
 |2=>.iv (.bool false)
 |3=>.iv (.bool true)
 |4=>.iv (.aV 1)
 |5=>.iv (.aV 16)
 |6=>.iv (.int .i64 4)
 |7=>.iv (.int .i64 5)
 |8=>.iv (.int .i64 2)
 |9=>.iv .dM
 |10=>.iv (.int .i64 3)
 |11=>.iv (.int .i64 (-1))
 |12=>.iv (.aV 2)
 |13=>.iv (.int .i64 100)
 |14=>.iv (.int .i64 6)
 |15=>.iv (.int .u64 18446744073709551615)
 |16=>.iv (.aV 5)
 |17=>.iv (.int .i64 16)
 |18=>.iv (.int .i64 40)
 |19=>.iv (.int .i64 8)
 |20=>.iv (.int .u64 0)
 |21=>.iv (.aV 24)
 |22=>.iv (.aV 3)
 |23=>.iv (.aV 4)
 |_=>.iv (.aV 7)
def cN (t:List (Nat×Nat)):cF bf:=cO (fi t) λx=>if x=0 then dU (λk=>.c (IE k)) (fi RV) else dU .t (cO (if x<7 then Iy x else M7) Pl)
def IF:Nat->List AV
 |0=>[.iv (.int .i64 0)]
 |1=>[.iv (.int .i64 0),.iv (.int .i64 0)]
 |2=>[.iv (.int .i64 0),.iv (.int .i64 0),.iv (.int .i64 0)]
 |3=>[.iv (.int .i64 0),.iv (.int .i64 0),.iv (.aV 16),.iv (.int .i64 0),.iv (.int .i64 0)]
 |4=>[.iv (.int .i64 0),.iv (.int .i64 0),.iv (.int .i64 0),.iv (.int .i64 0)]
 |5=>[.iv (.int .i64 0),.iv (.int .i64 0),.iv (.int .i64 0),.iv (.int .i64 0),.iv (.int .i64 0),.iv (.int .i64 0),.iv (.int .i64 0),.iv (.bool false),.iv (.aV 2),.iv (.bool false),.iv (.aV 1),.iv (.aV 7),.iv (.int .i64 0),.iv (.int .i64 0),.iv (.str ⟨#[]⟩),.iv (.int .i64 0),.iv (.int .i64 0),.iv (.str ⟨#[]⟩),.iv (.int .i64 0),.iv (.int .i64 0),.iv (.str ⟨#[]⟩),.iv (.int .i64 0),.iv (.int .i64 0),.iv (.str ⟨#[]⟩)]
 |6=>[.iv (.int .i64 0),.iv (.int .i64 0),.iv (.int .i64 0),.iv (.int .i64 0),.iv (.str ⟨#[]⟩),.iv (.int .i64 0),.iv (.int .i64 0),.iv (.str ⟨#[]⟩),.iv (.int .i64 0),.iv (.int .i64 0),.iv (.str ⟨#[]⟩),.iv (.int .i64 0),.iv (.int .i64 0),.iv (.str ⟨#[]⟩),.iv (.int .i64 0)]
 |7=>[.iv (.bool false),.iv (.aV 2),.iv (.bool false),.iv (.aV 1),.iv (.bool false),.iv (.aV 2),.iv (.bool false),.iv (.aV 1),.iv (.bool false),.iv (.aV 2),.iv (.bool false),.iv (.aV 1),.iv (.bool false),.iv (.aV 2),.iv (.bool false),.iv (.aV 1)]
 |8=>[.iv (.aV 1),.iv (.aV 1),.iv (.int .i64 0),.iv (.int .u64 0)]
 |9=>[.iv (.bool false)]
 |10=>[.iv (.int .i64 0),.iv (.int .i64 0),.iv (.bool false),.iv (.aV 2),.iv (.bool false),.iv (.aV 1),.iv (.aV 7)]
 |11=>[.iv (.bool false),.iv (.aV 2),.iv (.bool false),.iv (.aV 1)]
 |12=>[.iv (.int .i64 0),.iv (.int .i64 0),.iv (.int .i64 0),.iv (.int .i64 0),.iv (.str ⟨#[]⟩),.iv (.int .i64 0),.iv (.int .i64 0),.iv (.str ⟨#[]⟩),.iv (.int .i64 0),.iv (.int .i64 0),.iv (.str ⟨#[]⟩),.iv (.int .i64 0),.iv (.int .i64 0),.iv (.str ⟨#[]⟩)]
 |13=>[.iv (.int .u64 0)]
 |14=>[.iv (.aV 1),.iv (.aV 1),.iv (.int .i64 0),.iv (.int .u64 0),.iv (.aV 5),.iv (.aV 15),.iv (.aV 1)]
 |15=>[.iv (.aV 16)]
 |16=>[.iv (.aV 5),.iv (.aV 15),.iv (.aV 1)]
 |_=>[.iv .dM]
def s8:cF (List AV):=dU IF (fi RW)
def rG:cF (List bf):=cO (ey 6 uv) (nZ (cN KD))
def IG:Nat->BinOp
 |0=>.add
 |1=>.lss
 |2=>.eql
 |3=>.gtr
 |4=>.sub
 |5=>.geq
 |6=>.leq
 |7=>.neq
 |8=>.shr
 |9=>.quo
 |_=>.rem
def M8:cF BinOp:=dU IG (fi KE)
def IH:Nat->UnOp
 |0=>.not
 |_=>.neg
def M9:cF UnOp:=dU IH (fi KG)
def II:cF (List (Nat×bf)):=cO (ey 6 uv) (nZ (dY .mk (ey 15 tw) (cN bJ)))
def IJ:cF (List (Nat×Nat×bf)):=cO (ey 6 uv) (nZ (dY .mk (ey 15 tw) (dY .mk (ey 15 tw) (cN bJ))))
def DG:cF (Option bf):=cO (fi KH) λx=>if x=0 then fW none else dU some (cN bJ)
def IK:cF bf:=cO (fi KI) λx=>if x=0 then dU (λf=>.c (.iv (.fn f []))) (zW 512) else cN bJ
def IL (d:Nat):Nat->cF jt
 |2=>dU .eM (cN (if d=0 then KJ else KK))
 |3=>kC .load mE (ey 17 KM) (cN bJ)
 |4=>lP .bin M8 gu (cN bJ) (cN bJ)
 |5=>dY .di (ey 15 KN) (cN bJ)
 |6=>kC .dQ gu (cN bJ) (cN bJ)
 |7=>kC .call gu IK rG
 |8=>dY .len mE (cN bJ)
 |9=>kC .pick (cN bJ) (cN bJ) (cN bJ)
 |10=>dU .oY (cN bJ)
 |11=>dY .box gu (cN bJ)
 |12=>kC .store gu (cN bJ) (cN bJ)
 |13=>dY .un M9 (cN bJ)
 |14=>dY .nf IK rG
 |15=>lP .qF gu s8 gu II
 |16=>dY .alloc gu s8
 |17=>dY .build s8 IJ
 |18=>lP .app gu mE (cN bJ) (cN bJ)
 |19=>dY .ext (cN bJ) gu
 |23=>lP .eu gu (cN bJ) DG DG
 |24=>kC .sk gu rG rG
 |25=>dY .mn (cN bJ) rG
 |27=>lP .sj mE IA (cN bJ) (cN bJ)
 |28=>dY .mx (cN bJ) rG
 |29=>fW .dead
 |30=>cO mE λa=>cO mE λb=>lP (.jb a b) IA s8 (cN bJ) (cN bJ)
 |31=>fW .Ch
 |32=>lP .kh IA (cN bJ) (cN bJ) (cN bJ)
 |33=>dU .pd (cN bJ)
 |36=>lP .qt gu s8 (cN bJ) (cN bJ)
 |_=>fW default
def IM (p:Nat):List (Nat×Nat):=match p with
 |0=>KO
 |1=>KQ
 |2=>KR
 |3=>KT
 |4=>KU
 |5=>KV
 |_=>KW
def qT (dr:Bool):Nat->Nat->Nat->Nat->Option (Nat×Bool)->cF (List aJ)
 |0,_,_,_,_=>fW []
 |f+1,i,w,p,g=>cO (fi (IM p)) λk=>if k=0 then fW [] else if k=1 then cO Pn (qT dr f i w p) else
  cO (fi (if k=12\/k=32 then Dp else if k=2 then KX else KY)) λd=>cO (Po d) λe=>
  cO (λn s=>IL d k n { s with m:=match g with
   |some q=>[q.1]
   |none=>[] }) λo=>cO (Pr dr i w e d) λa=>dU (λr=>⟨e,o,g,a⟩::r) (qT dr f (i+1) (w+w) (Ps k d) g)
def kD:Nat->cF IC
 |0=>fW .skip
 |f+1=>cO (fi K6) λx=>match x with
  |0=>dY .seq (kD f) (kD f)
  |1=>cO Ds λ_=>dY (.ff false) (qT false 9999 0 1 0 none) xO
  |2=>cO (cN KZ) λc n s=>(λl=>cO (kD f) (λa n s=>dU (.cond c a) (kD f) n { s with l:=l }) n { s with l:=l }) (match c with
   |.t v=>s.l.filter (·!= v)
   |_=>s.l)
  |3=>fW .skip
  |4=>fW .ret
  |5=>dY .block (ey 6 zU) (kD f)
  |6=>dU .exit (ey 6 zU)
  |7=>dY .loop (λn s=>xO n { s with d:=[] }) (kD f)
  |8=>cO Ds λ_=>dY (.ff true) (qT true 9999 0 1 0 none) xO
  |9=>dU .scope (kD f)
  |_=>fW .skip
def IN:cF iO:=cO (fi K7) λx=>match x with
 |0=>dU .t (ey 9 zV)
 |_=>kC .cell (ey 9 zV) mE gu
def IP:cF aA:=cO (ey 6 K8) λn=>cO (cO (ey 3 K9) (nZ IN)) λr=>dU (λb=>⟨n,r,b,none⟩) λm s=>kD 9999 m ⟨n,[],List.range n,[],[]⟩
def aM {x:aA} (s:String) (_:Dq ((IP (Ix 0 s.toList) ⟨0,[],[],[],[]⟩).1=x):=by
 refine(?f:?P->Dq ?P) ?p
 case p=>set_option maxRecDepth 1000000 in conv=>lhs;cbv
 exact λ_=>trivial):aA:=x
attribute [simp] aM
theorem Tr.put_comm {α:Type} (x y:α):∀(f n:Nat) (f' m:Nat) (t:Tr α),n<f->m<f'->n≠m->Tr.put f n x (Tr.put f' m y t)=Tr.put f' m y (Tr.put f n x t):=by
 intro f
 induction f with
 |zero=>intro n f' m t h;omega
 |succ f ih=>
  intro n f' m t h h' cA;obtain⟨f',rfl⟩:∃k,f'=k+1:=⟨f' - 1,by omega⟩;cases n with
  |zero=>
   cases m with
   |zero=>exact absurd rfl cA
   |succ m=>cases t<;>by_cases h1:m % 2=0<;>simp[Tr.put,h1]
  |succ n=>
   cases m with
   |zero=>cases t<;>by_cases h1:n % 2=0<;>simp[Tr.put,h1]
   |succ m=>
    by_cases h1:n % 2=0<;>by_cases h2:m % 2=0<;>cases t<;>simp only[Tr.put,h1,h2,if_true,if_false]
    all_goals rw[ih _ _ _ _ (by omega) (by omega) (by omega)]
theorem QS (h:Hp) {n m:Nat} (x y:Ob) (cA:n≠m):set (set h m y) n x=set (set h n x) m y:=Tr.put_comm x y _ _ _ _ h (Nat.lt_succ_self n) (Nat.lt_succ_self m) cA
def dL (ps:List (Nat×Ob)) (h:Hp):Hp:=ps.foldl (λh p=>set h p.1 p.2) h
theorem tT {ps:List (Nat×Ob)} {n:Nat} (hn:∀p ∈ ps,p.1≠n):∀h:Hp,get (dL ps h) n=get h n:=by
 induction ps with
 |nil=>intro h;rfl
 |cons p ps ih=>
  intro h
  show get (dL ps (set h p.1 p.2)) n=_
  rw[ih (λq hq=>hn q (List.mem_cons_of_mem _ hq)),aF _ _ (hn p (List.mem_cons_self ..))]
theorem Hn {ps:List (Nat×Ob)} {n:Nat} (x:Ob) (hn:∀p ∈ ps,p.1≠n):∀h:Hp,dL ps (set h n x)=set (dL ps h) n x:=by
 induction ps with
 |nil=>intro h;rfl
 |cons p ps ih=>
  intro h
  show dL ps (set (set h n x) p.1 p.2)=set (dL ps (set h p.1 p.2)) n x
  rw[QS _ _ _ (hn p (List.mem_cons_self ..)),ih λq hq=>hn q (List.mem_cons_of_mem _ hq)]
theorem EU {ps qs:List (Nat×Ob)} (hd:∀p ∈ ps,∀q ∈ qs,p.1≠q.1):∀h:Hp,dL qs (dL ps h)=dL ps (dL qs h):=by
 induction ps with
 |nil=>intro h;rfl
 |cons p ps ih=>
  intro h
  show dL qs (dL ps (set h p.1 p.2))=dL ps (set (dL qs h) p.1 p.2)
  rw[ih λa ha=>hd a (List.mem_cons_of_mem _ ha),Hn _ λq hq=>(hd p (List.mem_cons_self ..) q hq).symm]
theorem M.frame {α:Type}:∀(m:M α) (h h' h1:Hp) (a:α),m.run h=some (a,h1)->(∀n ∈ (m.bN h).1,ay.get h n=ay.get h' n)->
  ∃ps,h1=dL ps h/\m.run h'=some (a,dL ps h')/\m.bN h'=m.bN h/\∀p ∈ ps,p.1 ∈ (m.bN h).2
 |.ret x,h,h',h1,a,e,_=>by
  simp only[M.run,Option.some.injEq,Prod.mk.injEq]at e;obtain⟨rfl,rfl⟩:=e;exact⟨[],rfl,rfl,rfl,λp hp=>by simp at hp⟩
 |.fail,h,h',h1,a,e,_=>by simp[M.run]at e
 |.get id k,h,h',h1,a,e,hr=>by
  simp only[M.run]at e;simp only[M.bN,List.mem_cons]at hr ⊢;have cV:=hr id (.inl rfl);obtain⟨ps,e1,e2,e3,e4⟩:=M.frame (k (ay.get h id)) h h' h1 a e λn hn=>hr n (.inr hn)
  refine⟨ps,e1,?_,?_,e4⟩
  ·simp only[M.run,<-cV];exact e2
  ·simp only[<-cV];rw[e3]
 |.put id o k,h,h',h1,a,e,hr=>by
  simp only[M.run]at e;simp only[M.bN,List.mem_append,List.mem_singleton]at hr ⊢;obtain⟨ps,e1,e2,e3,e4⟩:=M.frame k (ay.set h id o) (ay.set h' id o) h1 a e λn hn=>by simp[bU,hr n hn]
  refine⟨(id,o)::ps,e1,e2,by rw[e3],λp hp=>?_⟩;rcases List.mem_cons.1 hp with rfl | hp
  ·exact .inr rfl
  ·exact .inl (e4 p hp)
def On (h:Hp) (n:Nat):Prop:=(get h n).isSome=true
theorem On.set {h:Hp} {n m:Nat} {x:Ob} (hn:On h n):On (set h m x) n:=by
 unfold On at *;rw[bU];split<;>simp_all
theorem On.same {h:Hp} {n:Nat} {x:Ob}:On (ay.set h n x) n:=by
 show(ay.get (ay.set h n x) n).isSome=true
 rw[ar];rfl
theorem M.stay {α:Type}:∀(m:M α) (h h':Hp) (a:α) (n:Nat),m.run h=some (a,h')->On h n->On h' n
 |.ret x,h,h',a,n,e,hn=>by
  simp only[M.run,Option.some.injEq,Prod.mk.injEq]at e;rw[<-e.2];exact hn
 |.fail,h,h',a,n,e,_=>by simp[M.run]at e
 |.get id k,h,h',a,n,e,hn=>M.stay (k (ay.get h id)) h h' a n e hn
 |.put id o k,h,h',a,n,e,hn=>M.stay k (ay.set h id o) h' a n e hn.set
def NR {α:Type} (m:M α):Prop:=∀h a h',m.run h=some (a,h')->∀n ∈ (m.bN h).1,On h' n
theorem NR.ret {α:Type} (a:α):NR (M.ret a):=λh b h' _ n hn=>by simp[M.bN]at hn
theorem NR.fail {α:Type}:NR (M.fail:M α):=λh b h' e=>by simp[M.run]at e
theorem M.j5 {α β:Type} (f:α->M β):∀(m:M α) (h h1:Hp) (a:α),m.run h=some (a,h1)->((m.bind f).bN h).1=(m.bN h).1++((f a).bN h1).1
 |.ret x,h,h1,a,e=>by
  simp only[M.run,Option.some.injEq,Prod.mk.injEq]at e;obtain⟨rfl,rfl⟩:=e;simp[M.bind,M.bN]
 |.fail,h,h1,a,e=>by simp[M.run]at e
 |.get id k,h,h1,a,e=>by
  simp only[M.run]at e;simp[M.bind,M.bN,M.j5 f (k (ay.get h id)) h h1 a e]
 |.put id o k,h,h1,a,e=>by
  simp only[M.run]at e;simp[M.bind,M.bN,M.j5 f k (ay.set h id o) h1 a e]
theorem NR.bind {α β:Type} {m:M α} {f:α->M β} (hm:NR m) (hf:∀a,NR (f a)):NR (m.bind f):=by
 intro h b h' e n hn;obtain⟨a,h1,e1,e2⟩:=aw e;rw[M.j5 f m h h1 a e1]at hn;rcases List.mem_append.1 hn with hn | hn
 ·exact M.stay _ _ _ _ _ e2 (hm h a h1 e1 n hn)
 ·exact hf a h1 b h' e2 n hn
theorem NR.look (id:Nat):NR (M.look id):=by
 intro h a h' e n hn;simp only[M.look,M.run]at e;simp only[M.look,M.bN]at hn;cases hg:ay.get h id with
 |none=>rw[hg]at e;simp[M.run]at e
 |some o=>
  rw[hg]at e hn;simp only[M.run,Option.some.injEq,Prod.mk.injEq]at e;simp[M.bN]at hn;rw[<-e.2,hn];unfold On;rw[hg];rfl
theorem NR.ok (b:Bool):NR (M.ok b):=by unfold M.ok;split;exact NR.ret _;exact NR.fail
theorem NR.lift {α:Type} (o:Option α):NR (M.lift o):=by cases o;exact NR.fail;exact NR.ret _
theorem NR.write (id:Nat) (o:Ob):NR (M.write id o):=λh a h' e n hn=>by simp[M.write,M.bN]at hn
theorem NR.new {α:Type} {id:Nat} {o:Ob} {f:Unit->M α} (hf:NR (f ())):NR ((M.fresh id).bind λ_=>(M.write id o).bind f):=by
 intro h b h' e n hn;obtain⟨_,h1,e1,e2⟩:=aw e;obtain⟨_,h2,e3,e4⟩:=aw e2;rw[M.j5 _ (M.fresh id) h h1 _ e1]at hn;obtain⟨_,rfl⟩:=M.fC e1;rw[M.j5 _ (M.write id o) h1 h2 _ e3]at hn;obtain rfl:=bV e3;rcases List.mem_append.1 hn with hn | hn
 ·simp only[M.fresh,M.bN]at hn;have:n=id:=by
   rcases List.mem_cons.1 hn with h | h
   ·exact h
   ·cases hg:ay.get h1 id<;>rw[hg]at h<;>simp[M.bN]at h
  subst this;exact M.stay _ _ _ _ _ e4 On.same
 ·rcases List.mem_append.1 hn with hn | hn
  ·simp[M.write,M.bN]at hn
  ·exact hf _ b h' e4 n hn
attribute [local simp] NR.ret NR.fail NR.ok NR.lift NR.look NR.write
theorem NR.aG {α β:Type} {f:α->M β} (hf:∀x,NR (f x)):∀l:List α,NR (M.aG f l)
 |[]=>NR.ret _
 |x::r=>NR.bind (hf x) λ_=>NR.bind (NR.aG hf r) λ_=>NR.ret _
theorem NR.tg (a:AV):NR (ay.idx a):=by
 unfold ay.idx
 repeat' first | (simp;done) | apply NR.new | refine NR.bind ?_ λ_=>?_ | split
theorem NR.Ho (a:AV):NR (ay.bh a):=by
 unfold ay.bh
 repeat' first | (simp;done) | apply NR.new | refine NR.bind ?_ λ_=>?_ | split
theorem NR.EV (agg:Bool) (l:List AV):NR (ay.mk agg l):=by
 unfold ay.mk
 repeat' first | (simp;done) | apply NR.new | refine NR.bind ?_ λ_=>?_ | split
theorem NR.mZ (y:Nat) (o:Option AV):NR (ay.bound y o):=by
 unfold ay.bound
 repeat' first | (simp;done) | apply NR.new | refine NR.bind ?_ λ_=>?_ | split
theorem NR.load_ (agg:Bool) (sz:Nat) (a:AV):NR (ay.load agg sz a):=by
 unfold ay.load
 repeat' first | exact NR.EV _ _ | (simp;done) | apply NR.new | refine NR.bind ?_ λ_=>?_ | split
theorem NR.store_ (sz:Nat) (a x:AV):NR (ay.store sz a x):=by
 unfold ay.store
 repeat' first | exact NR.Ho _ | (simp;done) | apply NR.new | refine NR.bind ?_ λ_=>?_ | split
theorem NR.Wt (off:Nat) (x:AV):NR (ay.di off x):=by
 unfold ay.di
 repeat' first | (simp;done) | apply NR.new | refine NR.bind ?_ λ_=>?_ | split
theorem NR.S9 (agg:Bool) (off sz:Nat) (x:AV):NR (ay.ep agg off sz x):=by
 unfold ay.ep
 repeat' first | exact NR.EV _ _ | (simp;done) | apply NR.new | refine NR.bind ?_ λ_=>?_ | split
theorem NR.Wu (len e:Nat) (x i:AV):NR (ay.dn len e x i):=by
 unfold ay.dn
 repeat' first | exact NR.tg _ | (simp;done) | apply NR.new | refine NR.bind ?_ λ_=>?_ | split
theorem NR.Zw (e:Nat) (x i:AV):NR (ay.dQ e x i):=by
 unfold ay.dQ
 repeat' first | exact NR.tg _ | (simp;done) | apply NR.new | refine NR.bind ?_ λ_=>?_ | split
theorem NR.Wv (agg:Bool) (len e:Nat) (x i:AV):NR (ay.dB agg len e x i):=by
 unfold ay.dB
 repeat' first | exact NR.tg _ | exact NR.S9 _ _ _ _ | (simp;done) | apply NR.new | refine NR.bind ?_ λ_=>?_ | split
theorem NR.Ww (x i:AV):NR (ay.jN x i):=by
 unfold ay.jN
 repeat' first | (simp;done) | apply NR.new | refine NR.bind ?_ λ_=>?_ | split
theorem NR.Wx (op:BinOp) (q:Nat) (x y:AV):NR (ay.fX op q x y):=by
 unfold ay.fX
 repeat' first | (simp;done) | apply NR.new | refine NR.bind ?_ λ_=>?_ | split
theorem NR.Zx (e:Nat) (x:AV) (lo hi:Option AV):NR (ay.eu e x lo hi):=by
 unfold ay.eu
 repeat' first | exact NR.mZ _ _ | (simp;done) | apply NR.new | refine NR.bind ?_ λ_=>?_ | split
theorem NR.Wy (x:AV) (lo hi:Option AV):NR (ay.nj x lo hi):=by
 unfold ay.nj
 repeat' first | exact NR.mZ _ _ | (simp;done) | apply NR.new | refine NR.bind ?_ λ_=>?_ | split
theorem NR.Zy (e:Nat) (x:AV):NR (ay.tu e x):=by
 unfold ay.tu
 repeat' first | (simp;done) | apply NR.new | refine NR.bind ?_ λ_=>?_ | split
theorem NR.Zz (n:Nat) (x:AV) (lo hi:Option AV):NR (ay.Cy n x lo hi):=by
 unfold ay.Cy
 repeat' first | exact NR.mZ _ _ | (simp;done) | apply NR.new | refine NR.bind ?_ λ_=>?_ | split
theorem NR.ZA (e:Nat) (z:List AV) (x:AV):NR (ay.qG e z x):=by
 unfold ay.qG
 repeat' first | (simp;done) | apply NR.new | refine NR.bind ?_ λ_=>?_ | split
theorem NR.len_ (str:Bool) (x:AV):NR (ay.len str x):=by
 unfold ay.len
 repeat' first | (simp;done) | apply NR.new | refine NR.bind ?_ λ_=>?_ | split
theorem NR.AA (e:Nat) (x:AV):NR (ay.elems e x):=by
 unfold ay.elems
 repeat' first | (simp;done) | apply NR.new | refine NR.bind ?_ λ_=>?_ | split
theorem NR.QT (e:Nat) (x:AV):NR (ay.kO e x):=by
 unfold ay.kO
 repeat' first | exact NR.AA _ _ | (simp;done) | apply NR.new | refine NR.bind ?_ λ_=>?_ | split
theorem NR.dL (e slot:Nat) (byte:Bool) (x y:AV):NR (ay.app e slot byte x y):=by
 unfold ay.app
 repeat' first | exact NR.QT _ _ | (simp;done) | apply NR.new | refine NR.bind ?_ λ_=>?_ | split
theorem NR.Wz (x:AV):NR (ay.pd x):=by
 unfold ay.pd
 repeat' first | (simp;done) | apply NR.new | refine NR.bind ?_ λ_=>?_ | split
theorem NR.WA (e slot:Nat) (z:List AV) (x n:AV):NR (ay.qt e slot z x n):=by
 unfold ay.qt
 repeat' first | exact NR.tg _ | (simp;done) | apply NR.new | refine NR.bind ?_ λ_=>?_ | split
theorem NR.ZB (e slot:Nat) (z:List AV) (n:AV):NR (ay.EG e slot z n):=by
 unfold ay.EG
 repeat' first | exact NR.tg _ | (simp;done) | apply NR.new | refine NR.bind ?_ λ_=>?_ | split
theorem NR.uM (m:AV):NR (ay.gg m):=by
 unfold ay.gg
 repeat' first | (simp;done) | apply NR.new | refine NR.bind ?_ λ_=>?_ | split
theorem NR.WB (ok agg:Bool) (qs:List Nat) (z:List AV) (m k:AV):NR (ay.jb ok agg qs z m k):=by
 unfold ay.jb
 repeat' first | exact NR.uM _ | exact NR.EV _ _ | (simp;done) | apply NR.new | refine NR.bind ?_ λ_=>?_ | split
theorem NR.WC (qs:List Nat) (m k v:AV):NR (ay.kh qs m k v):=by
 unfold ay.kh
 repeat' first | exact NR.uM _ | (simp;done) | apply NR.new | refine NR.bind ?_ λ_=>?_ | split
theorem NR.WD (qs:List Nat) (m k:AV):NR (ay.nk qs m k):=by
 unfold ay.nk
 repeat' first | exact NR.uM _ | (simp;done) | apply NR.new | refine NR.bind ?_ λ_=>?_ | split
theorem NR.EW (k:IntKind) (a:AV):NR (ay.qZ k a):=by
 unfold ay.qZ
 repeat' first | exact NR.load_ _ _ _ | (simp;done) | apply NR.new | refine NR.bind ?_ λ_=>?_ | split
theorem NR.WE (k:IntKind) (a d:AV):NR (ay.wL k a d):=by
 unfold ay.wL
 repeat' first | exact NR.EW _ _ | exact NR.store_ _ _ _ | (simp;done) | apply NR.new | refine NR.bind ?_ λ_=>?_ | split
theorem NR.WG (k:IntKind) (a o y:AV):NR (ay.wM k a o y):=by
 unfold ay.wM
 repeat' first | exact NR.EW _ _ | exact NR.store_ _ _ _ | (simp;done) | apply NR.new | refine NR.bind ?_ λ_=>?_ | split
theorem NR.ZC (x:AV):NR (ay.ED x):=by
 unfold ay.ED
 repeat' first | (simp;done) | apply NR.new | refine NR.bind ?_ λ_=>?_ | split
theorem NR.ZD (x:AV):NR (ay.EE x):=by
 unfold ay.EE
 repeat' first | (simp;done) | apply NR.new | refine NR.bind ?_ λ_=>?_ | split
theorem NR.ZE (x:AV):NR (ay.EF x):=by
 unfold ay.EF
 repeat' first | (simp;done) | apply NR.new | refine NR.bind ?_ λ_=>?_ | split
theorem NR.WH (p n:AV):NR (ay.wN p n):=by
 unfold ay.wN
 repeat' first | (simp;done) | apply NR.new | refine NR.bind ?_ λ_=>?_ | split
theorem NR.ym (w:Bool):∀(n:Nat) (a:AV),NR (fz w n a)
 |0,_=>NR.fail
 |n+1,a=>by
  have ih:=NR.ym w n;unfold fz
  repeat' first | exact NR.aG (λ_=>NR.aG ih _) _ | exact NR.aG ih _ | (simp;done) | apply NR.new | refine NR.bind ?_ λ_=>?_ | split
theorem NR.Js (w:Bool) (a:AV):NR (bZ w a):=by
 unfold bZ
 repeat' first | exact NR.aG (NR.ym w 8) _ | exact NR.ym w 8 _ | (simp;done) | apply NR.new | refine NR.bind ?_ λ_=>?_ | split
theorem NR.Ta (call:dK) (f:AV) (args:List AV):NR (dF call f args):=by
 unfold dF
 repeat' first | exact NR.aG (NR.Js false) _ | (simp;done) | apply NR.new | refine NR.bind ?_ λ_=>?_ | split
theorem NR.QU (call:dK) (f:AV) (args:List AV):NR (dR call f args):=by
 unfold dR
 repeat' first | exact NR.aG (NR.Js true) _ | (simp;done) | apply NR.new | refine NR.bind ?_ λ_=>?_ | split
theorem Hq (call:dK) (slot:Nat) (ρ:bf->AV) (op:jt):NR (bp call slot ρ op):=by
 cases op<;>simp only[bp]
 all_goals repeat' first | exact NR.load_ _ _ _ | exact NR.store_ _ _ _ | exact NR.Wt _ _ | exact NR.S9 _ _ _ _ | exact NR.Wu _ _ _ _ | exact NR.Zw _ _ _ | exact NR.Wv _ _ _ _ _ | exact NR.Ww _ _ | exact NR.Wx _ _ _ _ | exact NR.Zx _ _ _ _ | exact NR.Wy _ _ _ | exact NR.Zy _ _ | exact NR.Zz _ _ _ _ | exact NR.ZA _ _ _ | exact NR.len_ _ _ | exact NR.dL _ _ _ _ _ | exact NR.Wz _ | exact NR.WA _ _ _ _ _ | exact NR.ZB _ _ _ _ | exact NR.WB _ _ _ _ _ _ | exact NR.WC _ _ _ _ | exact NR.WD _ _ _ | exact NR.uM _ | exact NR.EW _ _ | exact NR.WE _ _ _ | exact NR.WG _ _ _ _ | exact NR.ZC _ | exact NR.ZD _ | exact NR.ZE _ | exact NR.WH _ _ | exact NR.Ta _ _ _ | exact NR.QU _ _ _ | exact NR.tg _ | exact NR.Ho _ | exact NR.AA _ _ | (refine NR.aG (λ_=>?_) _) | (simp;done) | apply NR.new | refine NR.bind ?_ λ_=>?_ | split
theorem Hr (fr:Fr) (x:iO):NR (dJ fr x):=by
 cases x with
 |t n=>exact NR.ret _
 |cell n agg sz=>exact NR.load_ _ _ _
theorem LQ (fr:Fr) (xs:List iO):NR (ck fr xs):=by
 unfold ck;split
 ·exact Hr _ _
 ·exact NR.bind (NR.aG (Hr fr) _) λ_=>NR.ret _
theorem M.wrote {α:Type}:∀(m:M α) (h h':Hp) (a:α),m.run h=some (a,h')->∀n ∈ (m.bN h).2,On h' n
 |.ret x,h,h',a,e,n,hn=>by simp[M.bN]at hn
 |.fail,h,h',a,e,n,hn=>by simp[M.bN]at hn
 |.get id k,h,h',a,e,n,hn=>M.wrote (k (ay.get h id)) h h' a e n hn
 |.put id o k,h,h',a,e,n,hn=>by
  simp only[M.bN,List.mem_append,List.mem_singleton]at hn;rcases hn with hn | rfl
  ·exact M.wrote k _ h' a e n hn
  ·exact M.stay k _ h' a _ e On.same
theorem Tb {qs:List (Nat×Ob)} {p:Nat×Ob} (hp:p ∈ qs):∀h:Hp,On (dL qs h) p.1:=by
 induction qs with
 |nil=>simp at hp
 |cons q qs ih=>
  intro h;have stay:∀(l:List (Nat×Ob)) (h:Hp) (n:Nat),On h n->On (dL l h) n:=by
   intro l
   induction l with
   |nil=>intro h n hn;exact hn
   |cons a l ih=>intro h n hn;exact ih _ n hn.set
  rcases List.mem_cons.1 hp with rfl | hp
  ·exact stay qs _ _ On.same
  ·exact ih hp _
def lC (qs:List (Nat×Ob)) (h:Hp):Prop:=∀p ∈ qs,get h p.1=none
theorem lC.not {qs:List (Nat×Ob)} {h:Hp} {n:Nat} (hq:lC qs h) (hn:On h n):∀p ∈ qs,p.1≠n:=by
 intro p hp e;have:=hq p hp;unfold On at hn;rw[<-e,this]at hn;cases hn
theorem lC.back {qs:List (Nat×Ob)} {h h':Hp} (hq:lC qs h') (hs:∀n,On h n->On h' n):lC qs h:=by
 intro p hp;cases hg:get h p.1 with
 |none=>rfl
 |some o=>
  have:=hs p.1 (by unfold On;rw[hg];rfl);exact absurd rfl (hq.not this p hp)
theorem M.more {α:Type} {m:M α} (hm:NR m) {h h':Hp} {a:α} (e:m.run h=some (a,h')) {qs:List (Nat×Ob)} (hq:lC qs h') :
  m.run (dL qs h)=some (a,dL qs h')/\m.bN (dL qs h)=m.bN h:=by
 obtain⟨ps,e1,e2,e3,e4⟩:=M.frame m h (dL qs h) h' a e λn hn=>(tT (λp hp=>hq.not (hm h a h' e n hn) p hp) h).symm
 refine⟨?_,e3⟩;rw[e2,e1];rw[EU λp hp q Ya he=>hq.not (by rw[e1];exact Tb Ya h) p hp he]
theorem BW {l:List Nat} {p q:Nat->Bool} (h:∀n ∈ l,p n=q n):l.all p=l.all q:=by
 induction l with
 |nil=>rfl
 |cons a l ih=>simp only[List.all_cons,h a (List.mem_cons_self ..),ih λn hn=>h n (List.mem_cons_of_mem _ hn)]
def cB.plus (qs:List (Nat×Ob)):cB->cB
 |.m x=>.m x
 |.c h0 h1=>.c (dL qs h0) (dL qs h1)
def cB.on (h:Hp):cB->Prop
 |.m x=>(∀n ∈ x.1,On h n)/\∀n ∈ x.2,On h n
 |.c _ _=>True
theorem cB.on.mono {h h':Hp} {f:cB} (hf:f.on h) (hs:∀n,On h n->On h' n):f.on h':=by
 cases f with
 |m x=>exact⟨λn hn=>hs n (hf.1 n hn),λn hn=>hs n (hf.2 n hn)⟩
 |c=>trivial
theorem Jt {qs:List (Nat×Ob)} {h:Hp} (hq:lC qs h) {f g:cB} (hf:f.on h) (hg:g.on h):c9 (f.plus qs) (g.plus qs)=c9 f g:=by
 have ne:∀{n:Nat},On h n->∀x:Hp,get (dL qs x) n=get x n:=λhn x=>tT (hq.not hn) x
 cases f with
 |m x=>
  cases g with
  |m y=>rfl
  |c h0 h1=>
   simp only[cB.plus,c9];congr 2;refine BW λn hn=>?_
   rw[ne (hf.1 n hn),ne (hf.1 n hn)]
 |c h0 h1=>
  cases g with
  |m y=>
   simp only[cB.plus,c9];congr 2
   ·congr 1;refine BW λn hn=>?_
    rw[ne (hg.1 n hn),ne (hg.1 n hn)]
   ·refine BW λn hn=>?_
    rcases List.mem_append.1 hn with hn | hn
    ·rw[ne (hg.1 n hn)]
    ·rw[ne (hg.2 n hn)]
  |c k0 k1=>rfl
def St.plus (qs:List (Nat×Ob)) (s:St):St:={ s with hp:=dL qs s.hp }
def ka (cx:fb):Prop:=∀f args h nx r h' aW,cx f args h nx=some (r,h',aW)->(∀n,On h n->On h' n)/\∀qs,lC qs h'->cx f args (dL qs h) nx=some (r,dL qs h',aW)
section
variable {c1:dK} {cx:fb}
theorem sI (hx:ka cx) {slot:Nat} {o:aJ} {s s1:St} (e:step c1 cx slot o s=some s1) :
  (∀n,On s.hp n->On s1.hp n)/\(bH c1 slot o s s1.hp).on s1.hp/\∀qs,lC qs s1.hp->step c1 cx slot o (s.plus qs)=some (s1.plus qs)/\bH c1 slot o (s.plus qs) (s1.plus qs).hp=(bH c1 slot o s s1.hp).plus qs:=by
 unfold step at e ⊢;unfold bH;simp only[St.plus];cases hw:cw s.fr o.gd with
 |none=>rw[hw]at e;cases e
 |some b=>
  rw[hw]at e;cases b with
  |false=>
   simp only[Option.some.injEq]at e;subst e;exact⟨λ_ h=>h,⟨λn hn=>by simp at hn,λn hn=>by simp at hn⟩,λqs _=>⟨rfl,rfl⟩⟩
  |true=>
   simp only[]at e ⊢;cases hs:fJ o.op with
   |some fa=>
    rw[hs]at e;simp only[]at e ⊢;cases fe:callee (ev s.fr fa.1)with
    |none=>rw[fe]at e;cases e
    |some q=>
     rw[fe]at e;simp only[]at e ⊢;cases hr:cx q.1 (q.2.1++(fa.2.map (ev s.fr)++q.2.2)) s.hp s.nx with
     |none=>rw[hr]at e;cases e
     |some p=>
      obtain⟨v,h1,n1⟩:=p;rw[hr]at e;simp only[Option.some.injEq]at e;subst e;obtain⟨q1,q2⟩:=hx _ _ _ _ _ _ _ hr;refine⟨q1,trivial,λqs hq=>⟨?_,rfl⟩⟩;rw[q2 qs hq]
   |none=>
    rw[hs]at e;simp only[]at e ⊢;cases hr:(bp c1 slot (ev s.fr) o.op).run s.hp with
    |none=>rw[hr]at e;cases e
    |some p=>
     obtain⟨v,h1⟩:=p;rw[hr]at e;simp only[Option.some.injEq]at e;subst e;have hn:=Hq c1 slot (ev s.fr) o.op;refine⟨λn h=>M.stay _ _ _ _ n hr h,⟨hn _ _ _ hr,M.wrote _ _ _ _ hr⟩,λqs hq=>?_⟩;obtain⟨q1,q2⟩:=M.more hn hr hq;rw[q1,q2];exact⟨rfl,rfl⟩
theorem wS (hx:ka cx):∀(ops:List aJ) (slot:Nat) (s s1:St),a7 c1 cx ops slot s=some s1->
  (∀n,On s.hp n->On s1.hp n)/\∀qs,lC qs s1.hp->a7 c1 cx ops slot (s.plus qs)=some (s1.plus qs)
 |[],slot,s,s1,e=>by
  simp only[a7,Option.some.injEq]at e;subst e;exact⟨λ_ h=>h,λqs _=>rfl⟩
 |o::r,slot,s,s1,e=>by
  simp only[a7]at e ⊢;cases h1:step c1 cx slot o s with
  |none=>rw[h1]at e;cases e
  |some t=>
   rw[h1]at e;obtain⟨a1, -,a2⟩:=sI hx h1;obtain⟨b1,b2⟩:=wS hx r (slot+1) t s1 e;refine⟨λn h=>b1 n (a1 n h),λqs hq=>?_⟩;rw[(a2 qs (hq.back b1)).1];exact b2 qs hq
theorem vH (hx:ka cx):∀(ops:List aJ) (slot:Nat) (s s1:St) (fs:List cB),bn c1 cx ops slot s=some (s1,fs)->
  (∀n,On s.hp n->On s1.hp n)/\(∀f ∈ fs,f.on s1.hp)/\∀qs,lC qs s1.hp->bn c1 cx ops slot (s.plus qs)=some (s1.plus qs,fs.map (cB.plus qs))
 |[],slot,s,s1,fs,e=>by
  simp only[bn,Option.some.injEq,Prod.mk.injEq]at e;obtain⟨rfl,rfl⟩:=e;exact⟨λ_ h=>h,λf hf=>by simp at hf,λqs _=>rfl⟩
 |o::r,slot,s,s1,fs,e=>by
  simp only[bn]at e ⊢;cases h1:step c1 cx slot o s with
  |none=>rw[h1]at e;cases e
  |some t=>
   rw[h1]at e;simp only[]at e;cases h2:bn c1 cx r (slot+1) t with
   |none=>rw[h2]at e;cases e
   |some p=>
    rw[h2]at e;simp only[Option.some.injEq,Prod.mk.injEq]at e;obtain⟨rfl,rfl⟩:=e;obtain⟨a1,a0,a2⟩:=sI hx h1;obtain⟨b1,b0,b2⟩:=vH hx r (slot+1) t p.1 p.2 h2;refine⟨λn h=>b1 n (a1 n h),λf hf=>?_,λqs hq=>?_⟩
    ·rcases List.mem_cons.1 hf with rfl | hf
     ·exact a0.mono b1
     ·exact b0 f hf
    ·obtain⟨Hs,LR⟩:=a2 qs (hq.back b1);rw[Hs];simp only[];rw[b2 qs hq];simp only[List.map_cons];rw[<-LR]
theorem yn {qs:List (Nat×Ob)} {h:Hp} (hq:lC qs h) {x:cB} (hx:x.on h) (i:Nat):∀(fs:List cB) (cs:List (List Nat)),(∀f ∈ fs,f.on h)->dC (x.plus qs) i (fs.map (cB.plus qs)) cs=dC x i fs cs
 |[],cs,_=>by cases cs<;>rfl
 |f::fs,[],_=>rfl
 |f::fs,c::cs,hf=>by
  simp only[List.map_cons,dC];rw[Jt hq hx (hf f (List.mem_cons_self ..)),yn hq hx i fs cs λg hg=>hf g (List.mem_cons_of_mem _ hg)]
theorem vJ {qs:List (Nat×Ob)} {h:Hp} (hq:lC qs h):∀(fs:List cB) (i:Nat) (cs:List (List Nat)),(∀f ∈ fs,f.on h)->cL (fs.map (cB.plus qs)) i cs=cL fs i cs
 |[],i,cs,_=>by cases cs<;>rfl
 |f::fs,i,[],_=>rfl
 |f::fs,i,c::cs,hf=>by
  simp only[List.map_cons,cL];rw[yn hq (hf f (List.mem_cons_self ..)) i fs cs λg hg=>hf g (List.mem_cons_of_mem _ hg),vJ hq fs (i+1) cs λg hg=>hf g (List.mem_cons_of_mem _ hg)]
theorem AB (qs:List (Nat×Ob)):∀fs:List cB,(fs.map (cB.plus qs)).all rX=fs.all rX
 |[]=>rfl
 |f::fs=>by
  simp only[List.map_cons,List.all_cons,AB qs fs];cases f<;>rfl
theorem EX (hx:ka cx) {draw:Bool} {ops:List aJ} {aX:List Nat} {s s1:St} (e:aS c1 cx draw ops aX s=some s1) :
  (∀n,On s.hp n->On s1.hp n)/\∀qs,lC qs s1.hp->aS c1 cx draw ops aX (s.plus qs)=some (s1.plus qs):=by
 unfold aS at e ⊢;cases draw with
 |false=>
  simp only[Bool.false_eq_true,if_false]at e ⊢;cases h1:a7 c1 cx ops s.nx { s with nx:=s.nx+ops.length } with
  |none=>rw[h1]at e;cases e
  |some t=>
   rw[h1]at e;simp only[Option.some.injEq]at e;subst e;obtain⟨a1,a2⟩:=wS hx _ _ _ _ h1;refine⟨a1,λqs hq=>?_⟩;have:=a2 qs hq;simp only[St.plus]at this ⊢;rw[this]
 |true=>
  simp only[if_true]at e ⊢;cases h1:bn c1 cx ops s.nx { s with nx:=s.nx+ops.length } with
  |none=>rw[h1]at e;cases e
  |some p=>
   rw[h1]at e;simp only[]at e;split at e
   case isFalse=>cases e
   rename_i ho;simp only[Option.some.injEq]at e;subst e;obtain⟨a1,a0,a2⟩:=vH hx _ _ _ p.1 p.2 h1;refine⟨a1,λqs hq=>?_⟩;have:=a2 qs hq;simp only[St.plus]at this ⊢;rw[this];simp only[];rw[if_pos];unfold dw at ho ⊢;rw[AB,vJ hq p.2 0 _ a0];exact ho
theorem CD {f:St->Option (Ex×St)} (hf:∀s r s1,f s=some (r,s1)->(∀n,On s.hp n->On s1.hp n)/\∀qs,lC qs s1.hp->f (s.plus qs)=some (r,s1.plus qs)) (aX:List Nat):∀(m:Nat) (s:St) (r:Ex) (s1:St),iter f aX m s=some (r,s1)->
  (∀n,On s.hp n->On s1.hp n)/\∀qs,lC qs s1.hp->iter f aX m (s.plus qs)=some (r,s1.plus qs)
 |0,s,r,s1,e=>by simp[iter]at e
 |m+1,s,r,s1,e=>by
  simp only[iter]at e ⊢;cases h1:f s with
  |none=>rw[h1]at e;cases e
  |some p=>
   obtain⟨r1,t⟩:=p;rw[h1]at e;obtain⟨a1,a2⟩:=hf s r1 t h1;cases r1 with
   |norm=>
    obtain⟨b1,b2⟩:=CD hf aX m _ r s1 e;refine⟨λn h=>b1 n (a1 n h),λqs hq=>?_⟩;rw[a2 qs (hq.back b1)];exact b2 qs hq
   |exit i=>
    simp only[Option.some.injEq,Prod.mk.injEq]at e;obtain⟨rfl,rfl⟩:=e;exact⟨a1,λqs hq=>by rw[a2 qs hq]⟩
   |ret=>
    simp only[Option.some.injEq,Prod.mk.injEq]at e;obtain⟨rfl,rfl⟩:=e;exact⟨a1,λqs hq=>by rw[a2 qs hq]⟩
theorem Ju (hx:ka cx) (k:Nat):∀(ic:IC) (s:St) (r:Ex) (s1:St),bd c1 cx k ic s=some (r,s1)->
  (∀n,On s.hp n->On s1.hp n)/\∀qs,lC qs s1.hp->bd c1 cx k ic (s.plus qs)=some (r,s1.plus qs):=by
 intro ic
 induction ic with
 |skip=>
  intro s r s1 e;simp only[bd,Option.some.injEq,Prod.mk.injEq]at e ⊢;obtain⟨rfl,rfl⟩:=e;exact⟨λ_ h=>h,λqs _=>⟨rfl,rfl⟩⟩
 |ff draw ops aX=>
  intro s r s1 e;simp only[bd,Option.map_eq_some_iff,Prod.mk.injEq]at e ⊢;obtain⟨t,e1,rfl,rfl⟩:=e;obtain⟨a1,a2⟩:=EX hx e1;exact⟨a1,λqs hq=>⟨_,a2 qs hq,rfl,rfl⟩⟩
 |seq a b wB wC=>
  intro s r s1 e;simp only[bd]at e ⊢;cases h1:bd c1 cx k a s with
  |none=>rw[h1]at e;cases e
  |some p=>
   obtain⟨r1,t⟩:=p;rw[h1]at e;obtain⟨a1,a2⟩:=wB s r1 t h1;cases r1 with
   |norm=>
    obtain⟨b1,b2⟩:=wC t r s1 e;refine⟨λn h=>b1 n (a1 n h),λqs hq=>?_⟩;rw[a2 qs (hq.back b1)];exact b2 qs hq
   |exit i=>
    simp only[Option.some.injEq,Prod.mk.injEq]at e;obtain⟨rfl,rfl⟩:=e;exact⟨a1,λqs hq=>by rw[a2 qs hq]⟩
   |ret=>
    simp only[Option.some.injEq,Prod.mk.injEq]at e;obtain⟨rfl,rfl⟩:=e;exact⟨a1,λqs hq=>by rw[a2 qs hq]⟩
 |cond c a b wB wC=>
  intro s r s1 e;simp only[bd]at e ⊢;have eJ:∀qs,(s.plus qs).fr=s.fr:=λ_=>rfl
  simp only[eJ];split at e
  ·rename_i t ht;cases t with
   |true=>simpa[ht]using wB s r s1 e
   |false=>simpa[ht]using wC s r s1 e
  ·cases e
 |block id b ih=>
  intro s r s1 e;simp only[bd]at e ⊢;cases h1:bd c1 cx k b s with
  |none=>rw[h1]at e;cases e
  |some p=>
   obtain⟨r1,t⟩:=p;rw[h1]at e;obtain⟨a1,a2⟩:=ih s r1 t h1;cases r1 with
   |norm=>
    simp only[Option.some.injEq,Prod.mk.injEq]at e;obtain⟨rfl,rfl⟩:=e;exact⟨a1,λqs hq=>by rw[a2 qs hq]⟩
   |ret=>
    simp only[Option.some.injEq,Prod.mk.injEq]at e;obtain⟨rfl,rfl⟩:=e;exact⟨a1,λqs hq=>by rw[a2 qs hq]⟩
   |exit i=>
    simp only[]at e;split at e
    ·rename_i hi;simp only[Option.some.injEq,Prod.mk.injEq]at e;obtain⟨rfl,rfl⟩:=e;exact⟨a1,λqs hq=>by rw[a2 qs hq];simp[hi]⟩
    ·rename_i hi;simp only[Option.some.injEq,Prod.mk.injEq]at e;obtain⟨rfl,rfl⟩:=e;exact⟨a1,λqs hq=>by rw[a2 qs hq];simp[hi]⟩
 |loop aX b ih=>
  intro s r s1 e;simp only[bd]at e ⊢;exact CD ih aX k _ r s1 e
 |exit id=>
  intro s r s1 e;simp only[bd,Option.some.injEq,Prod.mk.injEq]at e ⊢;obtain⟨rfl,rfl⟩:=e;exact⟨λ_ h=>h,λqs _=>⟨rfl,rfl⟩⟩
 |ret=>
  intro s r s1 e;simp only[bd,Option.some.injEq,Prod.mk.injEq]at e ⊢;obtain⟨rfl,rfl⟩:=e;exact⟨λ_ h=>h,λqs _=>⟨rfl,rfl⟩⟩
 |scope b ih=>
  intro s r s1 e;simp only[bd]at e ⊢;exact ih s r s1 e
 |stop=>
  intro s r s1 e;simp[bd]at e
def uN (p:dK->fb->List AV->Hp->Nat->Option (AV×Hp×Nat)):Prop:=
 ∀c1 cx,ka cx->∀args h nx r h' aW,p c1 cx args h nx=some (r,h',aW)->(∀n,On h n->On h' n)/\∀qs,lC qs h'->p c1 cx args (dL qs h) nx=some (r,dL qs h',aW)
theorem AD {prog:Nat->Option aA} (hp:∀f ir p,prog f=some ir->ir.pe=some p->uN p):∀k,ka (aZ c1 prog k):=by
 intro k
 induction k with
 |zero=>intro f args h nx r h' aW e;simp[aZ]at e
 |succ k ih=>
  intro f args h nx r h' aW e;simp only[aZ]at e ⊢;cases hf:prog f with
  |none=>rw[hf]at e;cases e
  |some ir=>
   rw[hf]at e;simp only[]at e ⊢;cases PR:ir.pe with
   |some p=>
    rw[PR]at e;exact hp f ir p hf PR c1 _ ih args h nx r h' aW e
   |none=>
    rw[PR]at e;simp only[]at e ⊢;split at e
    case isFalse=>cases e
    rename_i hl;have fin:∀(t:St) (ex:Ex),(ex = .norm\/ex = .ret)->bd c1 (aZ c1 prog k) k ir.body ⟨params args 0,h,nx⟩=some (ex,t)->(match(ck t.fr ir.res).run t.hp with | some (v,h)=>some (v,h,t.nx) | none=>none)=some (r,h',aW)->
      (∀n,On h n->On h' n)/\∀qs,lC qs h'->bd c1 (aZ c1 prog k) k ir.body ⟨params args 0,dL qs h,nx⟩=some (ex,t.plus qs)/\
       (match(ck t.fr ir.res).run (dL qs t.hp)with | some (v,h)=>some (v,h,t.nx) | none=>none)=some (r,dL qs h',aW):=by
     intro t ex _ h1 h2;obtain⟨a1,a2⟩:=Ju ih k _ _ _ _ h1;cases h3:(ck t.fr ir.res).run t.hp with
     |none=>rw[h3]at h2;cases h2
     |some q=>
      obtain⟨v,h4⟩:=q;rw[h3]at h2;simp only[Option.some.injEq,Prod.mk.injEq]at h2;obtain⟨rfl,rfl,rfl⟩:=h2;have b1:=λn=>M.stay _ _ _ _ n h3
      refine⟨λn hn=>b1 n (a1 n hn),λqs hq=>⟨a2 qs (hq.back b1),?_⟩⟩;rw[(M.more (LQ _ _) h3 hq).1]
    cases h1:bd c1 (aZ c1 prog k) k ir.body ⟨params args 0,h,nx⟩with
    |none=>rw[h1]at e;cases e
    |some q=>
     obtain⟨ex,t⟩:=q;rw[h1]at e;cases ex with
     |norm=>
      obtain⟨b1,b2⟩:=fin t _ (.inl rfl) h1 e;refine⟨b1,λqs hq=>?_⟩;rw[if_pos hl,(b2 qs hq).1];exact(b2 qs hq).2
     |ret=>
      obtain⟨b1,b2⟩:=fin t _ (.inr rfl) h1 e;refine⟨b1,λqs hq=>?_⟩;rw[if_pos hl,(b2 qs hq).1];exact(b2 qs hq).2
     |exit i=>cases e
end
def GE (h h':Fr):Prop:=∀n,get h n=get h' n
theorem GE.refl (h:Fr):GE h h:=λ_=>rfl
theorem GE.symm {h h':Fr} (e:GE h h'):GE h' h:=λn=>(e n).symm
theorem GE.trans {a b c:Fr} (e:GE a b) (f:GE b c):GE a c:=λn=>(e n).trans (f n)
theorem GE.set {h h':Fr} (e:GE h h') (n:Nat) (x:AV):GE (set h n x) (set h' n x):=λm=>by simp[bU,e m]
def eb:bf->List Nat
 |.t n=>[n]
 |.c _=>[]
def nz:Option bf->List Nat
 |some x=>eb x
 |none=>[]
def kE:List bf->List Nat
 |[]=>[]
 |x::r=>eb x++kE r
def mJ {α:Type} (f:α->bf):List α->List Nat
 |[]=>[]
 |x::r=>eb (f x)++mJ f r
def lG:jt->List Nat
 |.eM x | .box _ x | .di _ x | .ep _ _ _ x | .un _ x | .tt _ x | .Cf x | .Cg x | .tu _ x | .qG _ _ x | .len _ x | .ext x _ | .oY x | .load _ _ x | .pd x | .EG _ _ x | .qZ _ x | .ED x | .Jm x | .EE x | .EF x=>eb x
 |.alloc _ _ | .Ch | .dead | .PJ _=>[]
 |.yN x=>eb x
 |.jb _ _ _ _ x y | .nk _ x y=>eb x++eb y
 |.kh _ x y z | .wM _ x y z=>eb x++(eb y++eb z)
 |.pick c a b=>eb c++(eb a++eb b)
 |.build _ ps=>mJ (λp=>p.2.2) ps
 |.qF _ _ _ ps=>mJ (λp=>p.2) ps
 |.store _ x y | .dn _ _ x y | .dQ _ x y | .dB _ _ _ x y | .jN x y | .bin _ _ x y | .sj _ _ x y | .app _ _ x y | .qt _ _ x y | .As x y | .wL _ x y | .wN x y=>eb x++eb y
 |.eu _ x lo hi | .Cy _ x lo hi | .nj x lo hi=>eb x++(nz lo++nz hi)
 |.mn x ys | .mx x ys=>eb x++kE ys
 |.sk _ fs cs=>kE fs++kE cs
 |.call _ f U | .nf f U=>eb f++kE U
def ji (o:aJ):List Nat:=lG o.op++(match o.gd with | some (t,_)=>[t] | none=>[])
theorem gE {ρ kM:bf->AV}:∀{l:List bf},(∀x:bf,(∀n ∈ eb x,n ∈ kE l)->ρ x=kM x)->l.map ρ=l.map kM
 |[],_=>rfl
 |x::r,h=>by
  simp only[List.map_cons,h x λn hn=>by simp[kE,hn]];rw[gE (l:=r) λy hy=>h y λn hn=>by simp[kE,hy n hn]]
theorem mb {α β:Type} {f:α->bf} {ρ kM:bf->AV} {F:α->AV->M β}:∀{l:List α},(∀x:bf,(∀n ∈ eb x,n ∈ mJ f l)->ρ x=kM x)->
  M.aG (λp=>F p (ρ (f p))) l=M.aG (λp=>F p (kM (f p))) l
 |[],_=>rfl
 |x::r,h=>by
  simp only[M.aG];rw[h (f x) λn hn=>by simp[mJ,hn],mb (l:=r) λy hy=>h y λn hn=>by simp[mJ,hy n hn]]
theorem uC {call:dK} {slot:Nat} {ρ kM:bf->AV} {op:jt} (h:∀x:bf,(∀n ∈ eb x,n ∈ lG op)->ρ x=kM x):bp call slot ρ op=bp call slot kM op:=by
 cases op<;>simp only[lG]at h<;>simp only[bp]
 case pick c a b=>rw[h c λn hn=>by simp[hn],h a λn hn=>by simp[hn],h b λn hn=>by simp[hn]]
 case build z ps=>rw[mb (F:=λp v=>(bh v).bind λl=>(M.ok (l.length==p.2.1&&Nat.ble (p.1+p.2.1) z.length)).bind λ_=>.ret (p.1,l)) h]
 case qF e z n ps=>rw[mb (F:=λp v=>(bh v).bind λxs=>(M.ok (xs.length==e&&Nat.blt p.1 n)).bind λ_=>M.ret (p.1,xs)) h]
 case eu e x lo hi=>
  rw[h x λn hn=>by simp[hn]];have h1:lo.map ρ=lo.map kM:=by cases lo with | none=>rfl | some l=>simp[h l λn hn=>by simp[nz,hn]]
  have h2:hi.map ρ=hi.map kM:=by cases hi with | none=>rfl | some l=>simp[h l λn hn=>by simp[nz,hn]]
  rw[h1,h2]
 case Cy n' x lo hi=>
  rw[h x λn hn=>by simp[hn]];have h1:lo.map ρ=lo.map kM:=by cases lo with | none=>rfl | some l=>simp[h l λn hn=>by simp[nz,hn]]
  have h2:hi.map ρ=hi.map kM:=by cases hi with | none=>rfl | some l=>simp[h l λn hn=>by simp[nz,hn]]
  rw[h1,h2]
 case nj x lo hi=>
  rw[h x λn hn=>by simp[hn]];have h1:lo.map ρ=lo.map kM:=by cases lo with | none=>rfl | some l=>simp[h l λn hn=>by simp[nz,hn]]
  have h2:hi.map ρ=hi.map kM:=by cases hi with | none=>rfl | some l=>simp[h l λn hn=>by simp[nz,hn]]
  rw[h1,h2]
 case mn x ys=>rw[h x λn hn=>by simp[hn],gE (l:=ys) λy hy=>h y λn hn=>by simp[hy n hn]]
 case mx x ys=>rw[h x λn hn=>by simp[hn],gE (l:=ys) λy hy=>h y λn hn=>by simp[hy n hn]]
 case sk f fs ys=>rw[gE (l:=fs) λy hy=>h y λn hn=>by simp[hy n hn],gE (l:=ys) λy hy=>h y λn hn=>by simp[hy n hn]]
 case call mode f ys=>rw[h f λn hn=>by simp[hn],gE (l:=ys) λy hy=>h y λn hn=>by simp[hy n hn]]
 case wM qs x y z=>rw[h x λn hn=>by simp[hn],h y λn hn=>by simp[hn],h z λn hn=>by simp[hn]]
 case kh qs x y z=>rw[h x λn hn=>by simp[hn],h y λn hn=>by simp[hn],h z λn hn=>by simp[hn]]
 case jb ok agg qs z x y=>rw[h x λn hn=>by simp[hn],h y λn hn=>by simp[hn]]
 case nk qs x y=>rw[h x λn hn=>by simp[hn],h y λn hn=>by simp[hn]]
 case store sz x y=>rw[h x λn hn=>by simp[hn],h y λn hn=>by simp[hn]]
 case dn len e x y=>rw[h x λn hn=>by simp[hn],h y λn hn=>by simp[hn]]
 case dQ e x y=>rw[h x λn hn=>by simp[hn],h y λn hn=>by simp[hn]]
 case dB a len e x y=>rw[h x λn hn=>by simp[hn],h y λn hn=>by simp[hn]]
 case jN x y=>rw[h x λn hn=>by simp[hn],h y λn hn=>by simp[hn]]
 case bin op q x y=>rw[h x λn hn=>by simp[hn],h y λn hn=>by simp[hn]]
 case sj neg qs x y=>rw[h x λn hn=>by simp[hn],h y λn hn=>by simp[hn]]
 case qt e z x y=>rw[h x λn hn=>by simp[hn],h y λn hn=>by simp[hn]]
 case wN x y=>rw[h x λn hn=>by simp[hn],h y λn hn=>by simp[hn]]
 case As x y=>rw[h x λn hn=>by simp[hn],h y λn hn=>by simp[hn]]
 case wL kk x y=>rw[h x λn hn=>by simp[hn],h y λn hn=>by simp[hn]]
 case app e byte x y=>rw[h x λn hn=>by simp[hn],h y λn hn=>by simp[hn]]
 all_goals first | rfl | (rename_i x;rw[h x λn hn=>hn]) | (rename_i x _;rw[h x λn hn=>hn])
def SE (s s':St):Prop:=GE s.fr s'.fr/\s.hp=s'.hp/\s.nx=s'.nx
theorem SE.refl (s:St):SE s s:=⟨.refl _,rfl,rfl⟩
theorem SE.symm {s s':St} (h:SE s s'):SE s' s:=⟨h.1.symm,h.2.1.symm,h.2.2.symm⟩
theorem SE.trans {a b c:St} (h:SE a b) (h':SE b c):SE a c:=⟨h.1.trans h'.1,h.2.1.trans h'.2.1,h.2.2.trans h'.2.2⟩
theorem GE.bT {fr vF:Fr} (e:GE fr vF) (d:Option Nat) (v:AV):GE (bT fr d v) (bT vF d v):=by
 cases d with
 |none=>exact e
 |some d=>exact e.set d v
theorem mK {fr:Fr} {d:Option Nat} {v:AV} {n:Nat} (h:d≠some n):get (bT fr d v) n=get fr n:=by
 cases d with
 |none=>rfl
 |some d=>simp[bT,bU,show d≠n from λe=>h (by rw[e])]
theorem wz {fr:Fr} {d d':Option Nat} {v v':AV} (h:d≠d'\/d=none):GE (bT (bT fr d v) d' v') (bT (bT fr d' v') d v):=by
 intro n;cases d with
 |none=>rfl
 |some d=>
  cases d' with
  |none=>rfl
  |some d'=>
   have cA:d≠d':=λe=>by rcases h with h | h;exact h (by rw[e]);cases h
   simp only[bT,bU];by_cases h1:d'=n
   ·have:d≠n:=λe=>cA (e.trans h1.symm)
    simp[h1,this]
   ·simp[h1]
theorem BL {fr vF:Fr} {l:List Nat} (h:∀n ∈ l,get fr n=get vF n) (x:bf) (hx:∀n ∈ eb x,n ∈ l):ev fr x=ev vF x:=by
 cases x with
 |c v=>rfl
 |t n=>simp only[ev];rw[h n (hx n (by simp[eb]))]
section
variable {c1:dK} {cx:fb}
inductive Ht where
 |m (ps:List (Nat×Ob))
 |c (h0 h1:Hp) (n0 n1:Nat)
def Ht.ok:Ht->cB->St->St->Prop
 |.m ps,.m f,s,s1=>s1.hp=dL ps s.hp/\s1.nx=s.nx/\∀p ∈ ps,p.1 ∈ f.2
 |.c h0 h1 n0 n1,.c k0 k1,s,s1=>s.hp=h0/\s1.hp=h1/\s.nx=n0/\s1.nx=n1/\k0=h0/\k1=h1
 |_,_,_,_=>False
theorem mc {slot:Nat} {o:aJ} {s s' s1:St} (e:step c1 cx slot o s=some s1) (hf:∀n ∈ ji o,get s.fr n=get s'.fr n)
  (hh:match bH c1 slot o s s1.hp with | .m f=>∀n ∈ f.1,get s.hp n=get s'.hp n | .c _ _=>s.hp=s'.hp/\s.nx=s'.nx) :
  ∃jj v d,step c1 cx slot o s'=some jj/\bH c1 slot o s' jj.hp=bH c1 slot o s s1.hp/\s1.fr=bT s.fr o.dst v/\jj.fr=bT s'.fr o.dst v/\Ht.ok d (bH c1 slot o s s1.hp) s s1/\Ht.ok d (bH c1 slot o s s1.hp) s' jj:=by
 have hw:cw s'.fr o.gd=cw s.fr o.gd:=by
  cases hg:o.gd with
  |none=>rfl
  |some g=>
   simp only[cw];rw[hf g.1 (by simp[ji,hg])]
 have oS:∀x:bf,(∀n ∈ eb x,n ∈ lG o.op)->ev s'.fr x=ev s.fr x:=λx hx=>(BL hf x λn hn=>by simp[ji,hx n hn]).symm
 have ho:bp c1 slot (ev s'.fr) o.op=bp c1 slot (ev s.fr) o.op:=uC oS;unfold step at e ⊢;unfold bH at hh ⊢;rw[hw,ho];cases Lv:cw s.fr o.gd with
 |none=>rw[Lv]at e;cases e
 |some b=>
  rw[Lv]at e hh;cases b with
  |false=>
   simp only[Option.some.injEq]at e;subst e;exact⟨_,.bD [],.m [],rfl,rfl,rfl,rfl,⟨rfl,rfl,λp hp=>by simp at hp⟩,⟨rfl,rfl,λp hp=>by simp at hp⟩⟩
  |true=>
   simp only[]at e hh ⊢;cases hs:fJ o.op with
   |some fa=>
    rw[hs]at e hh;simp only[]at e hh ⊢;obtain⟨f,U⟩:=fa;obtain⟨q1,q2⟩:=hh;have qK:o.op = .nf f U:=by
     generalize o.op=op at hs;cases op<;>simp[fJ]at hs;obtain⟨rfl,rfl⟩:=hs;rfl
    have Lu:ev s'.fr f=ev s.fr f:=oS f λn hn=>by rw[qK];simp[lG,hn]
    have hae:U.map (ev s'.fr)=U.map (ev s.fr):=gE (l:=U) λx hx=>oS x λn hn=>by rw[qK];simp[lG,hx n hn]
    rw[Lu,hae,<-q1,<-q2];cases fe:callee (ev s.fr f)with
    |none=>rw[fe]at e;cases e
    |some q=>
     rw[fe]at e;simp only[]at e ⊢;cases hr:cx q.1 (q.2.1++(U.map (ev s.fr)++q.2.2)) s.hp s.nx with
     |none=>rw[hr]at e;cases e
     |some p=>
      obtain⟨v,h1,n1⟩:=p;rw[hr]at e;simp only[Option.some.injEq]at e;subst e;exact⟨_,v,.c s.hp h1 s.nx n1,rfl,rfl,rfl,rfl,⟨rfl,rfl,rfl,rfl,rfl,rfl⟩,⟨q1.symm,rfl,q2.symm,rfl,rfl,rfl⟩⟩
   |none=>
    rw[hs]at e hh;simp only[]at e hh ⊢;cases hr:(bp c1 slot (ev s.fr) o.op).run s.hp with
    |none=>rw[hr]at e;cases e
    |some p=>
     obtain⟨v,h1⟩:=p;rw[hr]at e;simp only[Option.some.injEq]at e;subst e;obtain⟨ps,e1,e2,e3,e4⟩:=M.frame _ _ s'.hp _ _ hr hh;rw[e2];exact⟨_,v,.m ps,rfl,by rw[e3],rfl,rfl,⟨e1,rfl,e4⟩,⟨rfl,rfl,e4⟩⟩
def kN (x y:aJ):Bool:=
 (match x.dst with | some d=>!(ji y).contains d&&y.dst != some d | none=>true)&&(match y.dst with | some d=>!(ji x).contains d | none=>true)
theorem td {x y:aJ} (h:kN x y=true):(∀d,x.dst=some d->d ∉ ji y)/\(x.dst≠y.dst\/x.dst=none)/\∀d,y.dst=some d->d ∉ ji x:=by
 unfold kN at h;simp only[Bool.and_eq_true]at h;obtain⟨h1,h2⟩:=h;refine⟨λd hd=>?_,?_,λd hd=>?_⟩
 ·rw[hd]at h1;simp at h1;exact h1.1
 ·cases hx:x.dst with
  |none=>exact .inr rfl
  |some d=>
   rw[hx]at h1;simp at h1;exact .inl λe=>h1.2 e.symm
 ·rw[hd]at h2;simpa using h2
theorem oo {a b:List Nat} (h:meets a b=false):∀n ∈ a,n ∉ b:=by
 intro n hn hb;have:meets a b=true:=by simp only[meets,List.any_eq_true,List.contains_iff_mem];exact⟨n,hn,hb⟩
 rw[h]at this;cases this
theorem LS {ps:List (Nat×Ob)} {l:List Nat} (h:l=[]) (q:∀p ∈ ps,p.1 ∈ l):ps=[]:=List.eq_nil_iff_forall_not_mem.2 λp hp=>by have:=q p hp;simp[h]at this
theorem EY {h0 h1:Hp} {y:List Nat×List Nat} (h:c9 (.c h0 h1) (.m y)=false):(y.2=[]/\∀n ∈ y.1,get h0 n=get h1 n)\/∀n ∈ y.1++y.2,get h1 n=none:=by
 simp only[c9,Bool.not_eq_false',Bool.or_eq_true,Bool.and_eq_true,List.isEmpty_iff,List.all_eq_true,Option.isNone_iff_eq_none]at h;rcases h with h | h
 ·exact .inl ⟨h.1,λn hn=>LJ (h.2 n hn)⟩
 ·exact .inr h
theorem NL {h0 h1:Hp} {y:List Nat×List Nat} (h:c9 (.m y) (.c h0 h1)=false):y.2=[]/\∀n ∈ y.1,get h0 n=get h1 n:=by
 simp only[c9,Bool.not_eq_false',Bool.and_eq_true,List.isEmpty_iff,List.all_eq_true]at h;exact⟨h.1,λn hn=>LJ (h.2 n hn)⟩
theorem zg {n:Nat}:∀(qs:List (Nat×Ob)) {a b:Hp},get a n=get b n->get (dL qs a) n=get (dL qs b) n
 |[],a,b,h=>h
 |q::qs,a,b,h=>zg qs (by simp only[bU,h])
theorem Hu (qs ps:List (Nat×Ob)) (h:Hp):dL (qs++ps) h=dL ps (dL qs h):=List.foldl_append
def qc (c1:dK) (cx:fb) (slot:Nat) (o:aJ) (f:cB) (s s1:St):Prop:=
 match f with
 |.m x=>step c1 cx slot o s=some s1/\bH c1 slot o s s1.hp = .m x
 |.c h0 h1=>∃qs t,lC qs h1/\t.hp=h1/\s.hp=dL qs h0/\step c1 cx slot o { s with hp:=h0 }=some t/\bH c1 slot o { s with hp:=h0 } h1 = .c h0 h1/\s1=t.plus qs
theorem qc.of {slot:Nat} {o:aJ} {s s1:St} (e:step c1 cx slot o s=some s1):qc c1 cx slot o (bH c1 slot o s s1.hp) s s1:=by
 cases hf:bH c1 slot o s s1.hp with
 |m x=>exact⟨e,hf⟩
 |c h0 h1=>
  have hh:h0=s.hp/\h1=s1.hp:=by
   unfold bH at hf;split at hf
   ·split at hf
    ·cases hf;exact⟨rfl,rfl⟩
    ·cases hf
   ·cases hf
  obtain⟨rfl,rfl⟩:=hh;exact⟨[],s1,λp hp=>by simp at hp,rfl,rfl,e,hf,rfl⟩
theorem qc.step (hm:ka cx) {slot:Nat} {o:aJ} {f:cB} {s s1:St} (h:qc c1 cx slot o f s s1):step c1 cx slot o s=some s1:=by
 cases f with
 |m x=>exact h.1
 |c h0 h1=>
  obtain⟨qs,t,h1,h2,h3,h4,h5,rfl⟩:=h;have:=(sI hm h4).2.2 qs (by rw[h2];exact h1);rw[<-this.1];simp only[St.plus,<-h3]
def Alike (AE:List (Nat×Ob)) (s s1 s' jj:St):cB->Prop
 |.m x=>∃ps,s1.hp=dL ps s.hp/\jj.hp=dL ps s'.hp/\s1.nx=s.nx/\jj.nx=s'.nx/\∀p ∈ ps,p.1 ∈ x.2
 |.c _ h1=>s1.nx=jj.nx/\jj.hp=dL AE h1
theorem qc.nA {slot:Nat} {o:aJ} {f:cB} {s s' s1:St} (AE:List (Nat×Ob)) (h:qc c1 cx slot o f s s1) (hf:∀n ∈ ji o,get s.fr n=get s'.fr n)
  (hh:match f with | .m x=>∀n ∈ x.1,get s.hp n=get s'.hp n | .c h0 h1=>s.nx=s'.nx/\lC AE h1/\s'.hp=dL AE h0) :
  ∃jj v,qc c1 cx slot o f s' jj/\s1.fr=bT s.fr o.dst v/\jj.fr=bT s'.fr o.dst v/\
   Alike AE s s1 s' jj f:=by
 cases f with
 |m x=>
  obtain⟨e,hx⟩:=h;obtain⟨jj,v,d,q1,q2,q3,q4,q5,q6⟩:=mc e hf (by rw[hx];exact hh);rw[hx]at q5 q6 q2;cases d<;>simp only[Ht.ok]at q5 q6;exact⟨jj,v,⟨q1,q2⟩,q3,q4,_,q5.1,q6.1,q5.2.1,q6.2.1,q5.2.2⟩
 |c h0 h1=>
  obtain⟨qs,t,a1,a2,a3,a4,a5,rfl⟩:=h;obtain⟨hn,b1,b2⟩:=hh;obtain⟨t',v,d,q1,q2,q3,q4,q5,q6⟩:=mc (s':={ s' with hp:=h0 }) a4 hf (by rw[a2,a5];exact⟨rfl,hn⟩);rw[a2,a5]at q5 q6 q2;cases d<;>simp only[Ht.ok]at q5 q6;have fU:t'.hp=h1:=q6.2.1.trans q6.2.2.2.2.2.symm;refine⟨t'.plus AE,v,⟨AE,t',b1,fU,b2,q1,by rw[<-fU]at q2 ⊢;exact q2,rfl⟩,q3,q4,?_,?_⟩
  ·show t.nx=t'.nx
   rw[q5.2.2.2.1,q6.2.2.2.1]
  ·show dL AE t'.hp=dL AE h1
   rw[fU]
theorem qc.ext {slot:Nat} {o:aJ} {f:cB} {s s' s1:St} (h:qc c1 cx slot o f s s1) (e:SE s s'):∃jj,qc c1 cx slot o f s' jj/\SE s1 jj:=by
 obtain⟨h1,h2,h3⟩:=e;cases f with
 |m x=>
  obtain⟨jj,v,q1,q2,q3,ps,q4,q5,q6,q7, -⟩:=h.nA [] (λn _=>h1 n) (λn _=>by rw[h2]);exact⟨jj,q1,by rw[q2,q3];exact h1.bT _ _,by rw[q4,q5,h2],by rw[q6,q7,h3]⟩
 |c h0 sB=>
  have h':=h;obtain⟨qs,t,a1,a2,a3,a4,a5,a6⟩:=h';obtain⟨jj,v,q1,q2,q3,q4,q5⟩:=h.nA qs (s':=s') (λn _=>h1 n) ⟨h3,a1,by rw[<-h2];exact a3⟩;refine⟨jj,q1,by rw[q2,q3];exact h1.bT _ _,?_,q4⟩;rw[q5,a6]
  show dL qs t.hp=_
  rw[a2]
theorem swap (hm:ka cx) {sx sy:Nat} {x y:aJ} {fx fy:cB} {s s1 s2:St} (e1:qc c1 cx sx x fx s s1) (e2:qc c1 cx sy y fy s1 s2) (hT:kN x y=true) (hc:c9 fx fy=false) :
  ∃t1 t2,qc c1 cx sy y fy s t1/\qc c1 cx sx x fx t1 t2/\SE s2 t2:=by
 obtain⟨a1,a2,a3⟩:=td hT;have fin:∀{v u v':AV} {t1 t2:St},s1.fr=bT s.fr x.dst v->s2.fr=bT s1.fr y.dst u->t1.fr=bT s.fr y.dst u->t2.fr=bT t1.fr x.dst v'->s1.fr=bT s.fr x.dst v'->GE s2.fr t2.fr:=by
  intro v u v' t1 t2 p1 p2 p3 p4 p5;rw[p2,p5,p4,p3];exact wz a2
 cases fx with
 |m x'=>
  cases fy with
  |m y'=>
   obtain⟨_,v,_,f1,_,ps,n1,_,n2,_,n3⟩:=e1.nA (s':=s) [] (λn _=>rfl) (λn _=>rfl);simp only[c9,Bool.or_eq_false_iff]at hc;have Hs:=oo hc.1;have LR:=oo hc.2;obtain⟨t1,u,q1,f2,f3,qs,m1,m2,m3,m4,m5⟩:=e2.nA (s':=s) [] (λn hn=>by rw[f1];exact mK λh=>a1 n h hn) (λn hn=>by
    rw[n1];exact tT (λp hp h=>Hs _ (n3 p hp) (by rw[h];simp[hn])) _)
   obtain⟨t2,v',r1,f4,f5,ps',k1,k2,k3,k4,k5⟩:=e1.nA (s':=t1) [] (λn hn=>by rw[f3];exact(mK λh=>a3 n h hn).symm) (λn hn=>by
    rw[m2];exact(tT (λp hp h=>LR _ (m5 p hp) (by rw[h];simp[hn])) _).symm)
   refine⟨t1,t2,q1,r1,fin f1 f2 f3 f5 f4,?_,by rw[m3,n2,k4,m4]⟩;rw[k2,m2,m1,k1];exact EU (λp hp q hq h=>Hs _ (k5 p hp) (by rw[h];simp[m5 q hq])) _
  |c h0 h1=>
   obtain⟨_,v,_,f1,_,ps,n1,_,n2,_,n3⟩:=e1.nA (s':=s) [] (λn _=>rfl) (λn _=>rfl);obtain⟨d1,d2⟩:=NL hc;obtain rfl:=LS d1 n3;have Yb:s1.hp=s.hp:=n1;have S1:=e2;obtain⟨qs,t,b1,b2,b3,b4,b5,rfl⟩:=S1;obtain⟨t1,u,q1,f2,f3,m1,m2⟩:=e2.nA (s':=s) qs (λn hn=>by rw[f1];exact mK λh=>a1 n h hn) ⟨n2,b1,by rw[<-Yb];exact b3⟩;obtain⟨t2,v',r1,f4,f5,ps',k1,k2,k3,k4,k5⟩:=e1.nA (s':=t1) [] (λn hn=>by rw[f3];exact(mK λh=>a3 n h hn).symm) (λn hn=>by
    rw[m2,<-Yb,b3];exact zg qs (d2 n hn))
   obtain rfl:=LS d1 k5;refine⟨t1,t2,q1,r1,fin f1 f2 f3 f5 f4,?_,by rw[k4,m1]⟩;have k2':t2.hp=t1.hp:=k2;rw[k2',m2]
   show dL qs t.hp=_
   rw[b2]
 |c h0 h1=>
  cases fy with
  |c k0 k1=>cases hc
  |m y'=>
   have Tc:=e1;obtain⟨qs,t,b1,b2,b3,b4,b5,b6⟩:=Tc;have rN:s1.hp=dL qs h1:=by rw[b6];show dL qs t.hp=_;rw[b2]
   have WI:∀n,get h1 n=none->get h0 n=none:=by
    intro n hn;cases hg:get h0 n with
    |none=>rfl
    |some o=>
     have:=(sI hm b4).1 n (by show On h0 n;unfold On;rw[hg];rfl);rw[b2]at this;unfold On at this;rw[hn]at this;cases this
   obtain⟨_,v,_,f1,_,n1,_⟩:=e1.nA (s':=s) qs (λn _=>rfl) ⟨rfl,b1,b3⟩;have Td:∀n ∈ y'.1,get s1.hp n=get s.hp n:=by
    intro n hn;rw[rN,b3];refine zg qs ?_;rcases EY hc with⟨-,h⟩|h
    ·exact(h n hn).symm
    ·have:=h n (by simp[hn]);rw[this,WI n this]
   obtain⟨t1,u,q1,f2,f3,ps,m1,m2,m3,m4,m5⟩:=e2.nA (s':=s) [] (λn hn=>by rw[f1];exact mK λh=>a1 n h hn) Td;have DY:lC ps h1:=by
    intro p hp;rcases EY hc with⟨h, -⟩|h
    ·have:=m5 p hp;simp[h]at this
    ·exact h _ (by simp[m5 p hp])
   have Du:lC (qs++ps) h1:=λp hp=>(List.mem_append.1 hp).elim (b1 p) (DY p)
   obtain⟨t2,v',r1,f4,f5,k1,k2⟩:=e1.nA (s':=t1) (qs++ps) (λn hn=>by rw[f3];exact(mK λh=>a3 n h hn).symm) ⟨m4.symm,Du,by rw[m2,b3,Hu]⟩;refine⟨t1,t2,q1,r1,fin f1 f2 f3 f5 f4,?_,by rw[m3,k1]⟩;rw[k2,m1,rN,Hu]
inductive jk (c1:dK) (cx:fb) (s0:Nat):List (Nat×aJ×cB)->St->St->Prop
 |nil {s s':St} (h:SE s s'):jk c1 cx s0 [] s s'
 |cons {i:Nat} {o:aJ} {f:cB} {r:List (Nat×aJ×cB)} {s s1 s':St} (e:qc c1 cx (s0+i) o f s s1)
   (hr:jk c1 cx s0 r s1 s'):jk c1 cx s0 ((i,o,f)::r) s s'
theorem jk.ext {s0:Nat} {l:List (Nat×aJ×cB)} {s t s':St} (h:jk c1 cx s0 l s s') (e:SE s t):jk c1 cx s0 l t s':=by
 induction h generalizing t with
 |nil h=>exact .nil (e.symm.trans h)
 |cons e1 _ ih=>
  obtain⟨t1,e2,e4⟩:=e1.ext e;exact .cons e2 (ih e4)
def Am (x y:Nat×aJ×cB):Prop:=kN x.2.1 y.2.1=true/\c9 x.2.2 y.2.2=false
theorem jk.front (hm:ka cx) {s0:Nat} {x:Nat×aJ×cB} {l2:List (Nat×aJ×cB)} {s':St}:∀(l1:List (Nat×aJ×cB)) (s:St),jk c1 cx s0 (l1++x::l2) s s'->(∀y ∈ l1,Am y x)->
  ∃s1,qc c1 cx (s0+x.1) x.2.1 x.2.2 s s1/\jk c1 cx s0 (l1++l2) s1 s'
 |[],s,h,_=>by
  cases h with
  |cons e hr=>exact⟨_,e,hr⟩
 |y::l1,s,h,ha=>by
  cases h with
  |cons e hr=>
   obtain⟨t1,e2,r2⟩:=jk.front hm l1 _ hr λz hz=>ha z (by simp[hz])
   obtain⟨h1,h2⟩:=ha _ (List.mem_cons_self ..);obtain⟨u1,u2,e3,e5,e7⟩:=swap hm e e2 h1 h2;exact⟨u1,e3,.cons e5 (r2.ext e7)⟩
end
def uO (c c':dK):Prop:=∀f U hp p,c f U hp=some p->c' f U hp=some p
def zh (c c':fb):Prop:=∀f U hp nx p,c f U hp nx=some p->c' f U hp nx=some p
def oq {α:Type} (m m':M α):Prop:=∀h p,m.run h=some p->m'.run h=some p/\m'.bN h=m.bN h
theorem oq.refl {α:Type} (m:M α):oq m m:=λ_ _ e=>⟨e,rfl⟩
theorem M.AF {α β:Type} (m:M α) (f:α->M β) (h:Hp):(m.bind f).bN h=match m.run h with
  |some (a,h1)=>((m.bN h).1++((f a).bN h1).1,((f a).bN h1).2++(m.bN h).2)
  |none=>m.bN h:=by
 induction m generalizing h with
 |ret a=>simp[M.bind,M.run,M.bN]
 |fail=>simp[M.bind,M.run,M.bN]
 |get id k ih=>
  simp only[M.bind,M.run,M.bN,ih];cases(k (ay.get h id)).run h<;>simp
 |put id o k ih=>
  simp only[M.bind,M.run,M.bN,ih];cases k.run (ay.set h id o)<;>simp
theorem oq.bind {α β:Type} {m m':M α} {f f':α->M β} (h:oq m m') (hf:∀a,oq (f a) (f' a)):oq (m.bind f) (m'.bind f'):=by
 intro g p e;obtain⟨a,h1,e1,e2⟩:=aw e;obtain⟨q1,q2⟩:=h _ _ e1;obtain⟨q3,q4⟩:=hf a _ _ e2;refine⟨by rw[az,q1];exact q3,?_⟩;rw[M.AF,M.AF,q1,e1];simp only[q2,q4]
theorem oq.lift {α:Type} {x y:Option α} (h:∀a,x=some a->y=some a):oq (M.lift x) (M.lift y):=by
 cases x with
 |none=>intro g p e;exact(ah e).elim
 |some a=>rw[h a rfl];exact .refl _
theorem BM {c c':dK} (h:uO c c') {slot:Nat} {ρ:bf->AV} (op:jt):oq (bp c slot ρ op) (bp c' slot ρ op):=by
 cases op<;>first | exact .refl _ | skip
 rename_i mode f args;simp only[bp]
 match mode with
 |0=>
  refine .bind (.refl _) λq=>.bind (.refl _) λU=>.bind (.lift λa ha=>?_) λr=>.refl _
  simp only[Option.bind_eq_some_iff]at ha ⊢;obtain⟨p,h1,h2⟩:=ha;exact⟨p,h _ _ _ _ h1,h2⟩
 |_+1=>
  refine .bind (.refl _) λq=>.bind (.refl _) λU=>.bind (.lift λa ha=>?_) λr=>.refl _
  simp only[Option.bind_eq_some_iff]at ha ⊢;obtain⟨p,h1,h2⟩:=ha;exact⟨p,h _ _ _ _ h1,h2⟩
section
variable {c c':dK} {x x':fb}
theorem xT (h:uO c c') (hx:zh x x') {slot:Nat} {o:aJ} {s s1:St} (e:step c x slot o s=some s1):step c' x' slot o s=some s1/\bH c' slot o s s1.hp=bH c slot o s s1.hp:=by
 unfold step at e ⊢;unfold bH;cases hw:cw s.fr o.gd with
 |none=>rw[hw]at e;cases e
 |some b=>
  rw[hw]at e;cases b with
  |false=>exact⟨e,rfl⟩
  |true=>
   simp only[]at e ⊢;cases hs:fJ o.op with
   |some fa=>
    rw[hs]at e;simp only[]at e ⊢;cases fe:callee (ev s.fr fa.1)with
    |none=>rw[fe]at e;cases e
    |some q=>
     rw[fe]at e;simp only[]at e ⊢;cases hr:x q.1 (q.2.1++(fa.2.map (ev s.fr)++q.2.2)) s.hp s.nx with
     |none=>rw[hr]at e;cases e
     |some p=>
      rw[hr]at e;rw[hx _ _ _ _ _ hr];exact⟨e,trivial⟩
   |none=>
    rw[hs]at e;simp only[]at e ⊢;cases hr:(bp c slot (ev s.fr) o.op).run s.hp with
    |none=>rw[hr]at e;cases e
    |some p=>
     obtain⟨q1,q2⟩:=BM h o.op _ _ hr;rw[hr]at e;rw[q1,q2];exact⟨e,rfl⟩
theorem wA (h:uO c c') (hx:zh x x'):∀(ops:List aJ) (slot:Nat) (s s1:St),a7 c x ops slot s=some s1->a7 c' x' ops slot s=some s1
 |[],slot,s,s1,e=>e
 |o::r,slot,s,s1,e=>by
  simp only[a7]at e ⊢;cases h1:step c x slot o s with
  |none=>rw[h1]at e;cases e
  |some s2=>
   rw[h1]at e;rw[(xT h hx h1).1];exact wA h hx r _ _ _ e
theorem Hv (h:uO c c') (hx:zh x x'):∀(ops:List aJ) (slot:Nat) (s:St) (p:St×List cB),bn c x ops slot s=some p->bn c' x' ops slot s=some p
 |[],slot,s,p,e=>e
 |o::r,slot,s,p,e=>by
  simp only[bn]at e ⊢;cases h1:step c x slot o s with
  |none=>rw[h1]at e;cases e
  |some s2=>
   obtain⟨q1,q2⟩:=xT h hx h1;rw[h1]at e;rw[q1];simp only[]at e ⊢;cases h2:bn c x r (slot+1) s2 with
   |none=>rw[h2]at e;cases e
   |some p2=>
    rw[h2]at e;rw[Hv h hx r _ _ _ h2,q2];exact e
theorem Ei (h:uO c c') (hx:zh x x') {draw:Bool} {ops:List aJ} {aX:List Nat} {s s1:St} (e:aS c x draw ops aX s=some s1):aS c' x' draw ops aX s=some s1:=by
 unfold aS at e ⊢;cases draw with
 |false=>
  simp only[Bool.false_eq_true,if_false]at e ⊢;cases h1:a7 c x ops s.nx { s with nx:=s.nx+ops.length } with
  |none=>rw[h1]at e;cases e
  |some s2=>
   rw[h1]at e;rw[wA h hx ops _ _ _ h1];exact e
 |true=>
  simp only[if_true]at e ⊢;cases h1:bn c x ops s.nx { s with nx:=s.nx+ops.length } with
  |none=>rw[h1]at e;cases e
  |some s2=>
   rw[h1]at e;rw[Hv h hx ops _ _ _ h1];exact e
theorem tJ {f f':St->Option (Ex×St)} (h:∀s r,f s=some r->f' s=some r) {aX:List Nat}:∀(m m':Nat) (s:St) (r:Ex×St),m<=m'->iter f aX m s=some r->iter f' aX m' s=some r
 |0,_,s,r,_,e=>by simp[iter]at e
 |m+1,m',s,r,hm,e=>by
  obtain⟨m',rfl⟩:∃k,m'=k+1:=⟨m' - 1,by omega⟩;simp only[iter]at e ⊢;cases h1:f s with
  |none=>rw[h1]at e;cases e
  |some p=>
   obtain⟨ex,s1⟩:=p;rw[h1]at e;rw[h _ _ h1];cases ex with
   |norm=>exact tJ h m m' _ r (by omega) e
   |exit i=>exact e
   |ret=>exact e
theorem tK (h:uO c c') (hx:zh x x') {n n':Nat} (hn:n<=n'):∀(ic:IC) (s:St) (r:Ex×St),bd c x n ic s=some r->bd c' x' n' ic s=some r:=by
 intro ic
 induction ic with
 |skip=>exact λs r e=>e
 |exit id=>exact λs r e=>e
 |ret=>exact λs r e=>e
 |stop=>exact λs r e=>e
 |scope b ih=>
  intro s r e;simp only[bd]at e ⊢;exact ih s r e
 |ff draw ops aX=>
  intro s r e;simp only[bd,Option.map_eq_some_iff]at e ⊢;obtain⟨s1,h1,h2⟩:=e;exact⟨s1,Ei h hx h1,h2⟩
 |seq a b wB wC=>
  intro s r e;simp only[bd]at e ⊢;cases h1:bd c x n a s with
  |none=>rw[h1]at e;cases e
  |some p=>
   obtain⟨ex,s1⟩:=p;rw[h1]at e;rw[wB _ _ h1];cases ex with
   |norm=>exact wC _ _ e
   |exit i=>exact e
   |ret=>exact e
 |cond d a b wB wC=>
  intro s r e;simp only[bd]at e ⊢;generalize ev s.fr d=v at e;split at e
  ·rename_i t;cases t with
   |true=>exact wB _ _ e
   |false=>exact wC _ _ e
  ·cases e
 |block id b ih=>
  intro s r e;simp only[bd]at e ⊢;cases h1:bd c x n b s with
  |none=>rw[h1]at e;cases e
  |some p=>
   rw[h1]at e;rw[ih _ _ h1];exact e
 |loop aX b ih=>
  intro s r e;simp only[bd]at e ⊢;exact tJ ih n n' _ r hn e
end
def EZ (p:dK->fb->List AV->Hp->Nat->Option (AV×Hp×Nat)):Prop:=∀c c' x x',uO c c'->zh x x'->∀args h nx r,p c x args h nx=some r->p c' x' args h nx=some r
def bW (prog:Nat->Option aA):Prop:=∀f ir p,prog f=some ir->ir.pe=some p->EZ p
theorem wT {prog:Nat->Option aA} (hp:bW prog) {c c':dK} (hc:uO c c'):∀(n n':Nat),n<=n'->zh (aZ c prog n) (aZ c' prog n')
 |0,_,_=>λf U hp nx p e=>by simp[aZ]at e
 |n+1,n',hn=>by
  obtain⟨n',rfl⟩:∃k,n'=k+1:=⟨n' - 1,by omega⟩;have ih:=wT hp hc n n' (by omega);intro f U h nx p e;simp only[aZ]at e ⊢;cases hf:prog f with
  |none=>rw[hf]at e;cases e
  |some fn=>
   rw[hf]at e;simp only[]at e ⊢;cases fe:fn.pe with
   |some q=>rw[fe]at e;exact hp f fn q hf fe _ _ _ _ hc ih _ _ _ _ e
   |none=>
    rw[fe]at e;simp only[]at e ⊢;split at e
    ·rename_i hl;rw[if_pos hl];cases h1:bd c (aZ c prog n) n fn.body ⟨params U 0,h,nx⟩with
     |none=>rw[h1]at e;cases e
     |some q=>
      rw[h1]at e;rw[tK hc ih (by omega) _ _ _ h1];exact e
    ·cases e
theorem one_le {p1:Nat->Option ao.aA} {n n':Nat} (hn:n<=n'):uO (ao.aZ p1 n) (ao.aZ p1 n'):=λ_ _ _ _ e=>ao.yY n n' hn _ _ _ _ e
section
variable {p1:Nat->Option ao.aA} {p2:Nat->Option aA}
def one (p1:Nat->Option ao.aA) (n:Nat):dK:=ao.aZ p1 n
def fH (p1:Nat->Option ao.aA) (p2:Nat->Option aA) (n:Nat):fb:=aZ (one p1 n) p2 n
def Ev (p1:Nat->Option ao.aA) (p2:Nat->Option aA) (f:Nat) (args:List AV) (hp:Hp) (nx:Nat) (p:AV×Hp×Nat):Prop:=∃K,∀n,K<=n->fH p1 p2 n f args hp nx=some p
def Wp (p1:Nat->Option ao.aA) (p2:Nat->Option aA) (c:IC) (s:St) (Q:Ex->St->Prop):Prop:=∃K ex s',(∀n,K<=n->bd (one p1 n) (fH p1 p2 n) n c s=some (ex,s'))/\Q ex s'
def Ex.then (k:St->Prop) (Q:Ex->St->Prop):Ex->St->Prop
 |.norm,s=>k s
 |e,s=>Q e s
def Ex.inBlock (id:Nat) (Q:Ex->St->Prop):Ex->St->Prop
 |.exit i,s=>if i=id then Q .norm s else Q (.exit i) s
 |e,s=>Q e s
theorem Wp.mono {c:IC} {s:St} {Q Q':Ex->St->Prop} (h:Wp p1 p2 c s Q) (hq:∀e s,Q e s->Q' e s):Wp p1 p2 c s Q':=by
 obtain⟨K,ex,s',h,q⟩:=h;exact⟨K,ex,s',h,hq _ _ q⟩
theorem ak {s:St} {Q:Ex->St->Prop} (h:Q .norm s):Wp p1 p2 .skip s Q:=⟨0,_,_,λ_ _=>rfl,h⟩
theorem aO {id:Nat} {s:St} {Q:Ex->St->Prop} (h:Q (.exit id) s):Wp p1 p2 (.exit id) s Q:=⟨0,_,_,λ_ _=>rfl,h⟩
theorem ax {s:St} {Q:Ex->St->Prop} (h:Q .ret s):Wp p1 p2 .ret s Q:=⟨0,_,_,λ_ _=>rfl,h⟩
theorem af {a b:IC} {s:St} {Q:Ex->St->Prop} (h:Wp p1 p2 a s (Ex.then (λs'=>Wp p1 p2 b s' Q) Q)):Wp p1 p2 (.seq a b) s Q:=by
 obtain⟨K,ex,s',h,q⟩:=h;cases ex with
 |norm=>
  obtain⟨K2,Eh,s2,h2,q2⟩:=q;exact⟨max K K2,Eh,s2,λn hn=>by simp only[bd,h n (by omega),h2 n (by omega)],q2⟩
 |exit i=>exact⟨K,_,_,λn hn=>by simp only[bd,h n hn],q⟩
 |ret=>exact⟨K,_,_,λn hn=>by simp only[bd,h n hn],q⟩
theorem ag {c:bf} {a b:IC} {s:St} {Q:Ex->St->Prop} {t:Bool} (hc:ev s.fr c = .iv (.bool t)) (h:Wp p1 p2 (if t then a else b) s Q):Wp p1 p2 (.cond c a b) s Q:=by
 obtain⟨K,ex,s',h,q⟩:=h;refine⟨K,ex,s',λn hn=>?_,q⟩;have:=h n hn;cases t<;>simpa[bd,hc]using this
theorem aq {id:Nat} {b:IC} {s:St} {Q:Ex->St->Prop} (h:Wp p1 p2 b s (Ex.inBlock id Q)):Wp p1 p2 (.block id b) s Q:=by
 obtain⟨K,ex,s',h,q⟩:=h;cases ex with
 |norm=>exact⟨K,_,_,λn hn=>by simp only[bd,h n hn],q⟩
 |ret=>exact⟨K,_,_,λn hn=>by simp only[bd,h n hn],q⟩
 |exit i=>
  simp only[Ex.inBlock]at q;by_cases hi:i=id
  ·rw[if_pos hi]at q;exact⟨K,.norm,s',λn hn=>by simp only[bd,h n hn,if_pos hi],q⟩
  ·rw[if_neg hi]at q;exact⟨K,.exit i,s',λn hn=>by simp only[bd,h n hn,if_neg hi],q⟩
theorem aI {draw:Bool} {ops:List aJ} {aX:List Nat} {s s':St} {Q:Ex->St->Prop} {K:Nat} (h:∀n,K<=n->aS (one p1 n) (fH p1 p2 n) draw ops aX s=some s') (q:Q .norm s'):Wp p1 p2 (.ff draw ops aX) s Q:=
 ⟨K,_,_,λn hn=>by simp only[bd,h n hn,Option.map_some],q⟩
theorem bK {draw:Bool} {ops:List aJ} {aX:List Nat} {s s':St} {Q:Ex->St->Prop} (q:Q .norm s') (h:∀n,0<=n->aS (one p1 n) (fH p1 p2 n) draw ops aX s=some s':=by intro n hn;simp;rfl):Wp p1 p2 (.ff draw ops aX) s Q:=aI (K:=0) h q
theorem aD {draw:Bool} {ops:List aJ} {aX:List Nat} {s s':St} {Q:Ex->St->Prop} (h:∀{n:Nat},aS (one p1 n) (fH p1 p2 n) draw ops aX s=some s') (q:Q .norm s'):Wp p1 p2 (.ff draw ops aX) s Q:=aI (K:=0) (λ_ _=>h) q
theorem au {draw:Bool} {ops:List aJ} {aX:List Nat} {b:IC} {s s':St} {Q:Ex->St->Prop} (h:∀{n:Nat},aS (one p1 n) (fH p1 p2 n) draw ops aX s=some s') (q:Wp p1 p2 b s' Q):Wp p1 p2 (.seq (.ff draw ops aX) b) s Q:=af (aI (K:=0) (λ_ _=>h) q)
theorem aj {draw:Bool} {ops:List aJ} {aX:List Nat} {b:IC} {s s':St} {Q:Ex->St->Prop} (q:Wp p1 p2 b s' Q) (h:∀n,0<=n->aS (one p1 n) (fH p1 p2 n) draw ops aX s=some s':=by intro n hn;simp;rfl):Wp p1 p2 (.seq (.ff draw ops aX) b) s Q:=af (aI (K:=0) h q)
theorem cq {draw:Bool} {ops:List aJ} {aX:List Nat} {b:IC} {s s':St} {Q:Ex->St->Prop} {K:Nat} (h:∀n,K<=n->aS (one p1 n) (fH p1 p2 n) draw ops aX s=some s') (q:Wp p1 p2 b s' Q):Wp p1 p2 (.seq (.ff draw ops aX) b) s Q:=af (aI h q)
theorem b7 {aX:List Nat} {b:IC} {s:St} {Q:Ex->St->Prop} (I:Nat->St->Prop) {m:Nat} (h0:I m { s with fr:=an aX s.fr })
  (round:∀m s1,I m s1->Wp p1 p2 b s1 (Ex.then (λs2=>∃j,j<m/\I j ({ s2 with fr:=an aX s2.fr })) Q)):Wp p1 p2 (.loop aX b) s Q:=by
 have key:∀m s1,I m s1->∃K ex s',(∀n,K<=n->∀j,K<=j->iter (bd (one p1 n) (fH p1 p2 n) n b) aX j s1=some (ex,s'))/\Q ex s':=by
  intro m
  induction m using Nat.strongRecOn with
  |_ m ih=>
   intro s1 hI;obtain⟨K,ex,s2,h,q⟩:=round m s1 hI;cases ex with
   |norm=>
    obtain⟨j,hj,SR⟩:=q;obtain⟨K2,Eh,s3,h2,q2⟩:=ih j hj _ SR;refine⟨max K K2+1,Eh,s3,λn hn i hi=>?_,q2⟩;obtain⟨i,rfl⟩:∃i',i=i'+1:=⟨i - 1,by omega⟩;simp only[iter,h n (by omega)];exact h2 n (by omega) i (by omega)
   |exit e=>
    refine⟨K+1,.exit e,s2,λn hn i hi=>?_,q⟩;obtain⟨i,rfl⟩:∃i',i=i'+1:=⟨i - 1,by omega⟩;simp only[iter,h n (by omega)]
   |ret=>
    refine⟨K+1,.ret,s2,λn hn i hi=>?_,q⟩;obtain⟨i,rfl⟩:∃i',i=i'+1:=⟨i - 1,by omega⟩;simp only[iter,h n (by omega)]
 obtain⟨K,ex,s',h,q⟩:=key m _ h0;exact⟨K,ex,s',λn hn=>by simp only[bd];exact h n hn n hn,q⟩
def Fin (res:List iO) (p:AV×Hp×Nat):Ex->St->Prop
 |.norm,s | .ret,s=>(ck s.fr res).run s.hp=some (p.1,p.2.1)/\s.nx=p.2.2
 |_,_=>False
theorem Ev.at (bF:bW p2) {n f:Nat} {args:List AV} {hp:Hp} {nx:Nat} {p:AV×Hp×Nat} (e:fH p1 p2 n f args hp nx=some p):Ev p1 p2 f args hp nx p:=
 ⟨n,λm hm=>wT bF (one_le hm) n m hm _ _ _ _ _ e⟩
theorem Ev.of (bF:bW p2) {f:Nat} {fn:aA} (hf:p2 f=some fn) (fe:fn.pe=none) {args:List AV} (hn:args.length=fn.np) {hp:Hp} {nx:Nat} {p:AV×Hp×Nat} (h:Wp p1 p2 fn.body ⟨params args 0,hp,nx⟩ (Fin fn.res p)):Ev p1 p2 f args hp nx p:=by
 obtain⟨K,ex,s',h,q⟩:=h;refine Ev.at bF (n:=K+1) ?_;have h0:=tK (one_le (p1:=p1) (Nat.le_succ K)) (wT bF (one_le (p1:=p1) (Nat.le_succ K)) K K (Nat.le_refl K)) (Nat.le_refl K) _ _ _ (h K (Nat.le_refl K));unfold fH;simp only[aZ,hf,fe,if_pos hn];have h1:bd (one p1 (K+1)) (aZ (one p1 (K+1)) p2 K) K fn.body ⟨params args 0,hp,nx⟩=some (ex,s'):=h0;rw[h1];cases ex with
 |norm=>simp only[q.1,q.2]
 |ret=>simp only[q.1,q.2]
 |exit i=>exact q.elim
end
end ay
namespace ay
open Go ao
namespace Prim
abbrev Jv:=dK->fb->List AV->Hp->Nat->Option (AV×Hp×Nat)
def clone (e:Nat):Jv:=λ_ _ args hp nx=>
 match args with
 |[x]=>match(elems e x).run hp with
  |some (ys,_)=>match ys with
   |[]=>some (.iv (.aV e),hp,nx)
   |ys=>if roomy ys.length&&(get hp (4*(nx+2))).isNone then some (.own (4*(nx+2)) 0 ys.length 0,set hp (4*(nx+2)) (.buf 0 e ys),nx+4) else none
  |none=>none
 |_=>none
end Prim
end ay
namespace ay
open Go ao
def zi:aA:=aM "FcmLDIKPrHn>bQF@no_u?OCQwyLRRAgOu]eMHMdpYRkcCsXAA[<KaR<nB]_tOT]s@TXQ@NYT`[ZWJ:kRekcxhk;vVKogZ[:[cQuS`fKW]qyYUUphaFEw>]kr[w=cvH@"
def Jw:aA:=aM "swKrtaA[m_nsRdsNMe>jg@>pYarN=_Ai@I^XM]GqMV]?WtZ_IYY?G;pXMsBXn[geIIlFAV^jwo[;lucsj?>UOrD<nKF;b<sX_<w=^LuYpFv[BZkO[jGMyJ:uTjVWDOMN?G?QuJDX`F`aXF[>QgbBKszQkpPCMgOYAOwkwEPiiM:YD@T_TsV:TD>_Lj@lqn=WVBQcdP^nx^GpU=rPcOqX<VYAalT<aKZyNpnctSbfOsZ]PUqr@hD^N?<KcBQ:v;cm<<cpWdwidy:HSaIhE"
def r7:aA:=aM "hasTZHVBJFz<:ji=UVwnSMkSNrzkLtxzpr<uBCuis@PbZXMyrguOFMNVcpES@kAbAShka`UXSJcE`XK:Mah@hLmhTKck;PwFS[ktO^`FVId^Zu<rL=ZIGX_vavXH=:Y=tkkSM<Firx>yZZnPlAfRTWBbMYFZtEYpevrBlbZvkIces?bZ>TYM<pzAD_ZFe`vYjbTcl<v=Dws;MglGSeGH;YyR^bf=yWIRks=]VIwQRH:mvN?>:cX@VoqpKpq@<HUyOvqjBZerarMMZwFH]DRt<zzqJfw_px@qJElQgDOPn>IgcZQ:dhYJBKGOVaITvGf>TsDhov>IRk??sG`zZX^lCoFHNTm^ix<WSowgkXf:`mwZCQqfU:u>bEC?<dJ@ZrvupOshjBGCM<@thRK=:h<YCgAdXt>Dqu^C>[TU@X]ks?auS>ctKeG`:YFDjoURWA=`XSneqbbt]ATZVZV`qvjg@ZWCVqsPfraUjo"
def E0:aA:=aM "kAqkZhTXjt;HWZWhyD:RiH<^cnEIuNnMrzuc?;CVGsDrVrts`Oiky=NZbZi?VAd:U;]DQ=x"
def E5:aA:=aM "=sT`wwqgONZ@@k=NzoEunG=ysWQ?kQZ]E>S;mn_AXG<O]dYBq?FOdqJ"
def Te:aA:=aM "E;apCX?Ioy[YRPwV`rxvlLyCs[U;]@kP>dEjm`p"
def Tf:aA:=aM "@mvZ:Lb=>A[cnwYihxvjHNYzdsYE>fwVpHnKDyb"
def Tg:aA:=aM "?srU<YEW>^<sQHrnLiafWg"
def Jx:aA:=aM "DG^ZmGRq;JaW=cCiTToA?qHAymant;>s`e>jXyWvBPOkTIbi_DPnsU[pn;HeTa:<ograuft<P_WQw@RQ`wa_rGYz<jmchBaOiBAdtCJ=_L`xi]hfUDs:hRLCffgJVFElWMsx[LdvdShyLqlY>pvLTf?EddRzwuAq><zsK=nGtNVAONENkf;IvflRf[RsxCZUwH<nUNxi"
def Th:aA:=aM "T<d;DDHu;GwqEjQnP"
def Ti:aA:=aM "=YGY`Pp<`fMIKAsLl"
def Jy:aA:=aM "qoJIe>qjf[USmxQiPBy]SDbRr<nPqNwhsWTw<mz<KzX>>"
def Jz:aA:=aM "PYvwPI;=f?OdI<wtYkFIMIyXrzHJi_LWDk=BgnwVX`tptdDlM<Q=>tCzNjnDILxRdcO?p@=L>cYSjPUlofV@nntNhgy<zUozc?y>FlZqinyxfFNaITznMZoGlrn@bw@oIyQlw^EAkcbXvHaEs`;XVq;sRgufQNhB"
def JA:aA:=aM "IlRl?te^TD^NCVvdRllFj<K^rWG?FcXcGy]"
def JB:aA:=aM "DGMuHQSJBAWFU?osMa`nMz`CiUuvwWYETNXVFlmFOriu"
def JC:aA:=aM ";T?DbN[zQnos^obbp:=qnYK`=@WmXWgf@AvTqBPEKi@vkhW;<dB]XYIKc:ju@N<FArSdThrqogQQnjTW^AyUW>]sy?Xzo^;TTMLo^pkvxH;:vkFHUg]tk=eb]HiAfthGUhQh?K;awHqPPOduiXDtUcA?CGRhsFVksfglTDqo?bVi"
def ZF:aA:=aM "NtUTCl^?xmqsoLqN=fmEXe[F?MrAKEdy^jm`gNw:PL_fdvJNzvdHf]:q>yCN<wytVEfOwVsWGWNk]]Ro;UFeFkm>YXJII?tuuqbbJLqhN[Jzhidp]W:=UIh<YIySLcshRRFeQUQ]USlefl<H@[GjlaV<^G>@XQVYv<QeEQpJQ?GcTnuF`mQjJgOrkxzprPw^H:?AYGL_mfD];OMeR<MEumD:OpZNvpV^_JYf>n?O=;wxLRvmEc^A@yH]oEfoxWHt=s=ffVuNbZj^"
def Tj:aA:=aM "G_r=:uJQ;vyKrQxqmYICT^nKz@LIyUS>AXaSJDcpmj="
def ZG:aA:=aM "<rv]YN_H`wAbq@H>obgKNbILfWQg]LOyjMGX_HZ<pyiK>FsV=x>Yq:PiUTkdyxiiQY]"
def zj:aA:=aM "=bjhRQP^qrVb:lqqX]RqFECwPjvbUPv^:hcCJ^?>=s=xqL[BwGwTs<x"
def BX:aA:=aM "=k^Eons?T^mr<?_oakH;]RmvX:ivIUdrnijgMGlJalFOuSiB@Ir;>WnT]T^WgPmaiPiaCTckvCbky@JMkenrxU:QdCfXaAn?ctuVbKRTWbfILC]trlW[D=`giN>L_QvRqbqFlpgbciysk[yk<LToJqKzmi`EgtMOxApGCKHS_jByx?SOej^NLxELvtP[JpycjlDfvRiNqkbtYYThUYjuKqgpkGcblT?b]QOFgegc"
def JD:aA:=aM "M`zH_mBCTWupOMoXo=VYfFOhCvYBm<IY[Iz]uwTihot;[gekLcbaRJl<^IfDCKvgUX=OVu`sMF^rRKnmYUDgJWhtP_[DjL?KJq^KhfA;xwQFZlUAQ>QjmW"
def uP:aA:=aM "QpmA:yYHLpqkVnVzKDkAWntYApGG;SneZYdCFMM[ATOVWl=H>Xp^__?tQ?VzbZQf<aLDzdwMuxJ[^>j_X<gyGynlsPuDgkUJivf?u`vhectv_MPmMiepqIRpwSKo:CJvAnwU_f_ET>GHXlFlDfjxmN<Jg]c[vq=TlX^<;RCKX:bVFFu]<RU:mCZ>R`fXTpe;uJsJjvDbS^<mlvMZ[T]whARHmh`?GEMWoUv[pz^HDNnXhw=RdCXEp=EzcaKEARUPCRJx>qE[m:TriIlLmTTAxmVL]Rk@YlWDxKF?HY`VJcQkO<=?E`PZ:BxdbujnWlUN;EeekAXpLQzFlvSHYyNIGZIBZb]Tho>npLNEqIarMy_HKtd[no>ZGL"
def JE:aA:=aM "RRo]JGik:MfsgrM[]uFdQ^ORMSqU;MXTSCqIoFkRRL?Xp?UdE[muaw^qP[kd_s;VGNYEmRPJRk<PRHK?Ro"
def th:aA:=aM "CHZlDim>PAIc]xqN]=CtU[<iXsAZioAIb;ALpL;WYHs=fFA=Lf@yMQ[EnLnBSWvxsOgKjcWV=AJtiii^<IrwKqBJRnFuIw>ajvD`LeDQLxFFRuMJHYmXyR`dnfe_hTYMkRFd_gdnhCOaOWzOh_TX;@ozUEQUTAxsZ;?QO[SBH=LpPRtFVGc_vwkxGGJsmu^PxyPch_fR=jhcgTbBJjtD__`WrU=]HjjjQmUvWWJhfj_IRA=?jdfJCuz=C]QY@jb>fin]hfS>cdgGVz>YIRpg=Oj[E>cMWtUlK?slUxWLa"
def ZH:aA:=aM "=@yxnHd_iiOn_I_RzphtZSEL"
def JF:aA:=aM "XV<?qQ[RAVXStqGF?n<V`<tJklnmwSOhklsFwbv"
def BY:aA:=aM "FqHnARKqr[`RuKCYvF<yZcYQGliizkF>QdpvK=uKuqRnmSrMRkNZxu<"
def JG:aA:=aM "=a]EXav:WbOVtzFe=Xr_IyPysI]Ld>w>;<bXRJVvLrGPJ]PGw=O<BITUgst"
def E6:aA:=aM "=Q`RBvSNCDtINe@eMH>uvRZ^lgho?jJ@LFeyIODzA:ZEllTNf?nwSemngWsYwiDgjhZTYNdMH>yQ]vnzxftmjHCDr;rJu?M;q^z:zLrCOqexX=GLwMRWaWo^OGq^BB[HnYTOu:DQltx]"
def E7:aA:=aM "Fk^^taOoG[OX`vkRqJyRy@JztQ=OJQfB=FBvCd?amU_kzqYf]EjABD?`omqq^qFuqi?iHoQFH[BfdZ?SdlJEyhOq^DVBOvc[VOFkNNjXneZMS>ZubMURC?fGvM[@yxcOTjieR_Hm>liMjbnzMGO^K_vguniRU?e^bk"
def E8:aA:=aM "MvC`IOUDi:;F;Cd==jyr=QtJkSkBdxzYug@LeknZCvvav;[]dhQEpfskoD`V>CzOBnb_dwx<NMNREd^coQ:^@s:mSuHkzPbpH?GOWp[FVlxYOYFLQlMei^MCgfjKCMubZX[:[MpxIDF>cLucBlwU[TLB<wtBwfXEFCNivfaksQahJ"
def Tk:aA:=aM ";K?k`DxT`uUNavN?BbH??ajMGHzx`ynEm`LOrKvTT;czD"
def Tl:aA:=aM "bPz>J[ND[@wtzx_=zdEeLkPU<oo<UGD<UD;TK;]oALg`O]:XRQVFa=YNKlq?XzZcE`tt_x;FfzkRqX;:YcKgA@jByoYIaOSkzba^[VIa^fLcZGeavp>ONo_YOwXscEIGAlT@TM@WyT_iAcPJJGlOW^]zwwfVktwb;SDnooAgbSRSHKfGVgGRVk@S@J@?nV^_<fOua]tsF?OCAYE;TSB=xOJt:VqeF[>:Womxit^>cB@]`PeTQVTT@tiJd<yBFa_LZmRxu__qgTKbMmcAOKZWxU"
def uQ:aA:=aM ";xyeaMJWkOX`A:pyMWgTQkYghnrd^BcvctG<f^bNrWCrmOUvjHfn=nZuo?QlAaCjjHggrBodOIpst`IEgrXQzBCSN^LF_B[RkzHpWB@IqonnZ=[tCZZV^GSxGC[aQWObQx]e:KD]k;<SQyMwYsjZTRmjr<R]EvZ;ZDdXDtoVpqd[r[VxP`ZeWlI<]kkviEJQuQYy;XevFtCPLaK>AVPwG<_XMbLxhDcztbxbW:FsjWA"
def ZI:aA:=aM "DjLM<ts^MgGxP=_oEqykZLPLkxio<[Gwg@Ix?xwYiSE^[mBW;GFdpmWnAQKWu=x=SBZ]?rHj_HKzyBuCp=R]WNJ`qyosrgj^wopWvHjYEL^hyMlm`kz[xV<W^DbXyBvuQQiVzmtTNvnmOlYFWpLGfvEbPKWbgvUHMuXvrsT=k@H<_V<B[<gMCTcj<XtsapPhhieiQDC=UiyhP=I:SLWDDzAR;FUaf;bedj]SeEXO"
def E9:aA:=aM "OA@CgMwq]q]wc[[=OYasT?xAdOOGxusmiarKj]YOurj:uOEPqBudq[rOpzPXURyY;HWteY=<PVkY?uctHTQB]WuIWuwJOA:_nbO_lBlDe_HiqErK`XBD[Up`nSd@oDD?_mj;AdJTpm`gXliz:]bC>ev>];twzt>u=hjHWr@KtXL@>KBkKDbeuoygaU:bb]i`ln;KSST^YOnWTCaoV>q[Dhu=_V;MRaKs[gG>zRsibfNWbiERyKJjn?ixy=Q>ASaV:R?ExTIKGKZV@iFL_qlEAwBmncjCqOScbGsSLyUz;jUOIOpdVmVV[OfuQ@i`zRyWUlPiyn]YZU[nDcywVD]BFBctPZo"
def Tm:aA:=aM "Mxc]eP^Jws>M:LANxU>FVTBcNn`k[c@m?Rf`;VbDRydiCumremJYO_dQ`@TiElC`pjeMJ[zvQZlE==>BmWKSkfJ`iJ"
def Tn:aA:=aM "K]]vlhQv;acPKJozobmEOzUy^vblYUQPc<JOCp]hD"
def To:aA:=aM ">PaI`weQP<HPm?N^VXiuVPpFfrNj^cYQB[QoREsu=r`hm:[Pmbf?<hEb@l^wZFGCdQtHp>j>ZkaiOhkFePQ@RhD<g[wrI>:Sssunmnp<ZKRm=VeTnlB`k:syvXOjKybic_lWd_bK?I`oM?OCgF<Emn:;ik=;TenHf^khMKiicRXzdwFhx"
def Tp:aA:=aM "@^]YqmCvlOCkawEsSijDHl=@l]`tCHVuOGBYyiP<Gwcv?_KxWamg"
def ZJ:aA:=⟨1,[],.skip,some (Prim.clone 7)⟩
def Fa:aA:=aM "BI]]=IYsZ`XPdirfK>zVAzpfcBtWwCljLJ:yiQ[wB`AlK@qIOSR:ZLAUvpF;ctCibLoFHOhcOALBo]Aerdim`w`IEZw^mEFH:QcIy?rE?"
def Tq:aA:=aM "MJ[Q=BAF_og`?WL="
def Ts:aA:=aM "MJ[Q=BAH;NjJG;nP"
def Tt:aA:=aM "MJ[Q=BAH;NjJG;nQ"
def Fb:aA:=aM "?DVSSoT_yTAr]cyoCVum>BM@vzEWOBKm`cq^RTBC[;wsbmGwraSPS^nvYfor>"
def Tu:aA:=aM "NyqNgeSICGY<Me@@iQ@uAKeLMYOepaSIZRQQaZqLnAv`>SF@<zSMR"
def Tv:aA:=aM "?Ih`EDaMmMQk_u[[f`li[oT_qDVXwHSxBcTdVCNPPSXpcfZx:^`A@@"
def Tw:aA:=aM "Bp>xF?tqBT@y_rJQC?B<rrraSMOF:dJD_U]zKaQqF:Nk@x;Nb_Oz"
def Tx:aA:=aM "BYSxzQSPZ=STVl@EOxTlV]@XeDwCKGGBe`>cCNxF_IdaZWJmRXOuJySXlMBb?jBy<`pKeEcK"
end ay
namespace ay
open Go Go.RowKit ao
section
variable {ν:Nat->Nat} {P:Program} {k:Cx}
structure ef (ν:Nat->Nat) (k:Cx) (nt:Nat) (g:Gh) (a:Act) (s:St):Prop where
 h:g.h=s.hp
 r:Rel ν k g
 f:jB ν g a.tmps s.fr
 n:nt<=a.tmps.size
 d:a.defers=[]
theorem ef.nA {nt:Nat} {g:Gh} {a:Act} {s s':St} (m:ef ν k nt g a s) (e:SE s s'):ef ν k nt g a s':=
 ⟨m.h.trans e.2.1,m.r,λt x ht=>m.f t x ((e.1 t).trans ht),m.n,m.d⟩
theorem ef.put {nt:Nat} {g g':Gh} {a:Act} {s:St} (m:ef ν k nt g a s) {h':Hp} {aW:Nat} {v:Value} {y:AV} {d:Option Nat} (hd:∀t,d=some t->t<nt) (hh:g'.h=h') (r':Rel ν k g') (hm:bY ν g g')
  (hv:RA ν g' v y):ef ν k nt g' (a.put d v) { fr:=bT s.fr d y,hp:=h',nx:=aW }:=by
 refine⟨hh,r',?_,?_,?_⟩
 ·cases d with
  |none=>exact m.f.mono hm
  |some d=>
   intro t x ht;simp only[bT,bU]at ht;have bC:d<a.tmps.size:=Nat.lt_of_lt_of_le (hd d rfl) m.n;by_cases Ej:d=t
   ·subst Ej;simp only[if_true,Option.some.injEq]at ht;subst ht;exact⟨v,by simp[Act.put,bC],hv⟩
   ·rw[if_neg Ej]at ht;obtain⟨u,h1,h2⟩:=m.f t x ht;exact⟨u,by simp[Act.put,Array.getElem?_setIfInBounds_ne Ej,h1],hm _ _ h2⟩
 ·cases d with
  |none=>exact m.n
  |some d=>simpa[Act.put]using m.n
 ·cases d with
  |none=>exact m.d
  |some d=>exact m.d
def kF (P:Program) (ν:Nat->Nat) (nt:Nat) (ops:Array Oper) (o:Oper) (io:aJ):Bool:=
 o.dst==io.dst&&(match io.dst with | some d=>Nat.blt d nt | none=>true) &&
 (match o.guard,io.gd with | none,none=>true | some (j,b),some (t,c)=>b==c&&(ops[j]?).bind (·.dst)==some t | _,_=>false)&&Ah P ν o.op io.op
theorem mV {g:Gh} {a:Act} {s:St} {nt:Nat} (m:ef ν k nt g a s) {ops:Array Oper} {o:Oper} {io:aJ} (hc:kF P ν nt ops o io=true) {b:Bool} (h:cw s.fr io.gd=some b) :
  Region.wanted o (yielded ops a.tmps)=b:=by
 simp only[kF,Bool.and_eq_true]at hc;obtain⟨⟨_,hg⟩,_⟩:=hc;unfold Region.wanted;split at hg
 ·rename_i h1 h2;rw[h2]at h;simp only[cw,Option.some.injEq]at h;rw[h1];exact h
 ·rename_i j want t c h1 h2;simp only[Bool.and_eq_true,beq_iff_eq]at hg;obtain⟨rfl,hj⟩:=hg;rw[h2]at h;simp only[h1,yielded,hj,Option.bind_some];simp only[cw]at h;split at h
  ·rename_i c' ez;obtain⟨v,hv,hR⟩:=m.f _ _ ez;cases hR with
   |iv hI=>cases hI with
    |bool=>simp only[Option.some.injEq]at h;subst h;rw[hv];cases c'<;>cases want<;>rfl
  ·rename_i ez;obtain⟨v,hv,hR⟩:=m.f _ _ ez;cases hR with
   |bD hn _=>simp only[Option.some.injEq]at h;subst h;rw[hv];rfl
  ·cases h
 ·cases hg
theorem o9 {c1:dK} {cx:fb} (hs:ao.cR ν P c1) (hx:cR ν P cx) {nt:Nat} {ops:Array Oper} {o:Oper} {io:aJ} (hc:kF P ν nt ops o io=true) {g:Gh} {a:Act} {s s1:St} (m:ef ν k nt g a s)
  {slot:Nat} (e:step c1 cx slot io s=some s1) {next:Act->World->Prop} {Q:Exit->Act->World->Prop} (hn:∀g' a',ef ν k nt g' a' s1->bY ν g g'->next a' g'.w) :
  if Region.wanted o (yielded ops a.tmps) then o.wp P a g.w next Q else next (a.put o.dst undef) g.w:=by
 have dm:=hc;simp only[kF,Bool.and_eq_true,beq_iff_eq]at dm;obtain⟨⟨⟨hd,bC⟩, -⟩,qK⟩:=dm;have sC:∀t,io.dst=some t->t<nt:=by
  intro t ht;rw[ht]at bC;simpa[Nat.blt_eq]using bC
 unfold step at e;split at e
 ·rename_i hw;rw[mV m hc hw,if_pos rfl];cases LU:fJ io.op with
  |some fa=>
   rw[LU]at e;simp only[]at e;obtain⟨f',pG⟩:=fa;have Ao:io.op = .nf f' pG:=by
    generalize io.op=op at LU;cases op<;>simp[fJ]at LU;obtain⟨rfl,rfl⟩:=LU;rfl
   rw[Ao]at qK;unfold Ah at qK;simp only[]at qK;split at qK
   case h_2=>cases qK
   rename_i fo bP jv ho;simp only[Bool.and_eq_true]at qK;have wy:=aY m.f qK.1;have hR:=kL m.f qK.2;cases fe:callee (ev s.fr f')with
   |none=>rw[fe]at e;cases e
   |some q=>
    rw[fe]at e;simp only[]at e;cases hr:cx q.1 (q.2.1++(pG.map (ev s.fr)++q.2.2)) s.hp s.nx with
    |none=>rw[hr]at e;cases e
    |some p=>
     obtain⟨y,h1,n1⟩:=p;rw[hr]at e;simp only[Option.some.injEq]at e;subst e;obtain⟨first,caps,Lu,om,j3⟩:=kW fe wy;obtain⟨⟨fn,iw,hb,Al⟩,cg⟩:=hx _ _ _ _ _ _ _ hr;refine nH ho (h':=h1) (y:=y) ⟨q.1,first,caps,fn,Lu,iw,hb,Al,cg k g _ m.h m.r (zf om j3 hR)⟩ λg' v hh r' hm tH=>?_
     rw[hd];exact hn g' _ (m.put sC hh r' hm tH) hm
  |none=>
   rw[LU]at e;simp only[]at e;cases hr:(bp c1 slot (ev s.fr) io.op).run s.hp with
   |none=>rw[hr]at e;cases e
   |some p=>
    obtain⟨y,h1⟩:=p;rw[hr]at e;simp only[Option.some.injEq]at e;subst e;refine Jj hs qK m.r m.f (slot:=slot) (y:=y) (h':=h1) (by rw[m.h];exact hr) λg' v hh r' hm hR=>?_
    rw[hd];exact hn g' _ (m.put sC hh r' hm hR) hm
 ·rename_i hw;rw[mV m hc hw,if_neg (by simp)];simp only[Option.some.injEq]at e;subst e;rw[hd];exact hn g _ (m.put sC m.h m.r (.refl ν g) (.bD rfl λj v c h=>by simp at h)) (.refl ν g)
 ·cases e
def fO (P:Program) (ν:Nat->Nat) (nt:Nat) (ops:Array Oper):List Oper->List aJ->Bool
 |[],[]=>true
 |o::r,io::ir=>kF P ν nt ops o io&&fO P ν nt ops r ir
 |_,_=>false
theorem j6 {nt:Nat} {ops:Array Oper}:∀{l:List Oper} {il:List aJ},fO P ν nt ops l il=true->l.length=il.length/\∀(i:Nat) (o:Oper) (io:aJ),l[i]?=some o->il[i]?=some io->kF P ν nt ops o io=true
 |[],[],_=>⟨rfl,λi o io h=>by simp at h⟩
 |o::r,io::ir,h=>by
  simp only[fO,Bool.and_eq_true]at h;obtain⟨h1,h2⟩:=j6 h.2;refine⟨by simp[h1],λi o' Lw e1 e2=>?_⟩;cases i with
  |zero=>simp at e1 e2;subst e1 e2;exact h.1
  |succ i=>exact h2 i o' Lw (by simpa using e1) (by simpa using e2)
 |[],_::_,h=>by simp[fO]at h
 |_::_,[],h=>by simp[fO]at h
theorem rR {c1:dK} {cx:fb} (hs:ao.cR ν P c1) (hx:cR ν P cx) {nt:Nat} {ops:Array Oper} {Q:Exit->Act->World->Prop}:∀(l:List Oper) (il:List aJ) (slot:Nat) (g:Gh) (a:Act) (s s':St),
  fO P ν nt ops l il=true->a7 c1 cx il slot s=some s'->ef ν k nt g a s->(∀g' a',ef ν k nt g' a' s'->bY ν g g'->Q .normal a' g'.w)->wpList P ops Q l a g.w
 |[],[],slot,g,a,s,s',_,e,m,hQ=>by
  simp only[a7,Option.some.injEq]at e;subst e;exact wpList_nil (hQ g a m (.refl ν g))
 |o::r,io::ir,slot,g,a,s,s',hc,e,m,hQ=>by
  simp only[fO,Bool.and_eq_true]at hc;simp only[a7]at e;cases h1:step c1 cx slot io s with
  |none=>rw[h1]at e;cases e
  |some s1=>
   rw[h1]at e;exact wpList_step λK hK=>o9 hs hx hc.1 m h1 λg' a' m' hm=>hK _ _ (rR hs hx r ir _ g' a' s1 s' hc.2 e m' λgQ wD wE eN=>hQ gQ wD wE (hm.trans eN))
 |[],_::_,_,_,_,_,_,hc,_,_,_=>by simp[fO]at hc
 |_::_,[],_,_,_,_,_,hc,_,_,_=>by simp[fO]at hc
def tag:Nat->List aJ->List cB->List (Nat×aJ×cB)
 |i,o::r,f::fs=>(i,o,f)::tag (i+1) r fs
 |_,_,_=>[]
theorem jk.tL {c1:dK} {cx:fb} {s0:Nat}:∀(il:List aJ) (i:Nat) (s s':St) (fs:List cB),bn c1 cx il (s0+i) s=some (s',fs)->
  jk c1 cx s0 (tag i il fs) s s'/\fs.length=il.length
 |[],i,s,s',fs,e=>by
  simp only[bn,Option.some.injEq,Prod.mk.injEq]at e;obtain⟨rfl,rfl⟩:=e;exact⟨.nil (.refl _),rfl⟩
 |o::r,i,s,s',fs,e=>by
  simp only[bn]at e;cases h1:step c1 cx (s0+i) o s with
  |none=>rw[h1]at e;cases e
  |some s1=>
   rw[h1]at e;simp only[]at e;cases h2:bn c1 cx r (s0+i+1) s1 with
   |none=>rw[h2]at e;cases e
   |some p=>
    rw[h2]at e;simp only[Option.some.injEq,Prod.mk.injEq]at e;obtain⟨rfl,rfl⟩:=e;obtain⟨q1,q2⟩:=jk.tL (s0:=s0) r (i+1) s1 p.1 p.2 h2;exact⟨.cons (qc.of h1) q1,by simp only[List.length_cons];exact congrArg (·+ 1) q2⟩
theorem pa:∀{il:List aJ} {fs:List cB} {i:Nat} {x:Nat×aJ×cB},x ∈ tag i il fs->i<=x.1/\il[x.1 - i]?=some x.2.1/\fs[x.1 - i]?=some x.2.2
 |[],fs,i,x,h=>by simp[tag]at h
 |_::_,[],i,x,h=>by simp[tag]at h
 |o::r,f::fs,i,x,h=>by
  simp only[tag,List.mem_cons]at h;rcases h with rfl | h
  ·simp
  ·obtain⟨h1,h2,h3⟩:=pa h;have:x.1 - i=(x.1 - (i+1))+1:=by omega
   exact⟨by omega,by rw[this];simpa using h2,by rw[this];simpa using h3⟩
theorem tM:∀{il:List aJ} {fs:List cB} {i j:Nat} {o:aJ},fs.length=il.length->il[j]?=some o->∃x ∈ tag i il fs,x.1=i+j
 |[],fs,i,j,o,_,h=>by simp at h
 |_::_,[],i,j,o,hl,_=>by simp at hl
 |o'::r,f::fs,i,j,o,hl,h=>by
  cases j with
  |zero=>exact⟨_,List.mem_cons_self ..,rfl⟩
  |succ j=>
   obtain⟨x,h1,h2⟩:=tM (i:=i+1) (fs:=fs) (by simpa using hl) (by simpa using h);exact⟨x,List.mem_cons_of_mem _ h1,by omega⟩
def mL (x:aJ) (i:Nat):List aJ->Bool
 |[]=>true
 |y::r=>(y.lO.contains i||kN x y)&&mL x i r
def j7:Nat->List aJ->Bool
 |_,[]=>true
 |i,x::r=>mL x i r&&j7 (i+1) r
theorem me {x:aJ} {i:Nat}:∀{r:List aJ},mL x i r=true->∀y ∈ r,i ∉ y.lO->kN x y=true
 |[],_,y,hy,_=>by simp at hy
 |z::r,h,y,hy,hi=>by
  simp only[mL,Bool.and_eq_true,Bool.or_eq_true,List.contains_iff_mem]at h;rcases List.mem_cons.1 hy with rfl | hy
  ·exact h.1.resolve_left hi
  ·exact me h.2 y hy hi
theorem mW {x:cB} {i:Nat}:∀{fs:List cB} {cs:List (List Nat)},dC x i fs cs=true->∀(j:Nat) (f:cB) (c:List Nat),fs[j]?=some f->cs[j]?=some c->i ∉ c->c9 x f=false
 |[],cs,_,j,f,c,h,_,_=>by simp at h
 |_::_,[],_,j,f,c,_,h,_=>by simp at h
 |f'::fs,c'::cs,h,j,f,c,h1,h2,hi=>by
  simp only[dC,Bool.and_eq_true,Bool.or_eq_true,Bool.not_eq_true',List.contains_iff_mem]at h;cases j with
  |zero=>simp at h1 h2;subst h1 h2;exact h.1.resolve_right hi
  |succ j=>exact mW h.2 j f c (by simpa using h1) (by simpa using h2) hi
def PW (x y:Nat×aJ×cB):Prop:=x.1<y.1/\(x.1 ∉ y.2.1.lO->Am x y)
theorem wF:∀(il:List aJ) (fs:List cB) (i:Nat),j7 i il=true->(cL fs i (il.map (·.lO))=true\/∀f ∈ fs,rX f=true)->(tag i il fs).Pairwise PW
 |[],fs,i,_,_=>by simp[tag]
 |_::_,[],i,_,_=>by simp[tag]
 |o::r,f::fs,i,hT,hF=>by
  simp only[j7,Bool.and_eq_true]at hT;simp only[tag,List.pairwise_cons];refine⟨λy hy=>?_,wF r fs (i+1) hT.2 ?_⟩
  ·obtain⟨h1,h2,h3⟩:=pa hy;refine⟨by show i<y.1;omega,λhi=>⟨me hT.1 _ (List.mem_of_getElem? h2) hi,?_⟩⟩;rcases hF with hF | hF
   ·simp only[List.map_cons,cL,Bool.and_eq_true]at hF;exact mW hF.1 _ _ y.2.1.lO h3 (by simp[h2]) hi
   ·have e1:=hF f (List.mem_cons_self ..);have e2:=hF _ (List.mem_cons_of_mem _ (List.mem_of_getElem? h3));cases f with
    |c=>simp[rX]at e1
    |m f=>
     generalize y.2.2=q at e2;cases q with
     |c=>simp[rX]at e2
     |m q=>simp[rX]at e1 e2;simp[c9,meets,e1,e2]
  ·rcases hF with hF | hF
   ·simp only[List.map_cons,cL,Bool.and_eq_true]at hF;exact .inl hF.2
   ·exact .inr λf' SS=>hF f' (List.mem_cons_of_mem _ SS)
def uD (cW:List aJ) (i:Nat) (o:Oper) (io:aJ):Bool:=
 o.after.toList.all (λe=>!Region.binds .any e||Nat.blt e.on i) &&
 io.lO.all λa=>o.after.toList.any λe=>Region.binds .any e&&(e.on==a||(match cW[e.on]? with | some x=>x.lO.contains a | none=>false))
def ot (cW:List aJ):Nat->List Oper->List aJ->Bool
 |i,o::r,io::ir=>uD cW i o io&&ot cW (i+1) r ir
 |_,_,_=>true
theorem mf {cW:List aJ}:∀{l:List Oper} {il:List aJ} {i:Nat},ot cW i l il=true->∀(j:Nat) (o:Oper) (io:aJ),l[j]?=some o->il[j]?=some io->uD cW (i+j) o io=true
 |[],_,_,_,j,o,io,h,_=>by simp at h
 |_::_,[],_,_,j,o,io,_,h=>by simp at h
 |o'::r,Lw::ir,i,h,j,o,io,h1,h2=>by
  simp only[ot,Bool.and_eq_true]at h;cases j with
  |zero=>simp at h1 h2;subst h1 h2;exact h.1
  |succ j=>have:=mf h.2 j o io (by simpa using h1) (by simpa using h2);rwa [show i+1+j=i+(j+1) by omega]at this
structure Rest (ops:Array Oper) (cW:List aJ) (L:List (Nat×aJ×cB)) (c7:Array Bool):Prop where
 size:c7.size=ops.size
 left:∀x ∈ L,x.1<ops.size/\c7[x.1]?=some false/\cW[x.1]?=some x.2.1
 all:∀(i:Nat),c7[i]?=some false->∃x ∈ L,x.1=i
 down:∀(i:Nat) (io:aJ),cW[i]?=some io->c7[i]?=some true->∀a ∈ io.lO,c7[a]?=some true
 pw:L.Pairwise PW
theorem BN {c1:dK} {cx:fb} (hs:ao.cR ν P c1) (qN:cR ν P cx) (sJ:ka cx) {nt:Nat} {ops:Array Oper} {cW:List aJ} {Q:Exit->Act->World->Prop} {s0:Nat} {s':St}
  (hc:fO P ν nt ops ops.toList cW=true) (Ek:ot cW 0 ops.toList cW=true):∀(n:Nat) (L:List (Nat×aJ×cB)) (c7:Array Bool) (g:Gh) (a:Act) (s:St),L.length=n->Rest ops cW L c7->
  jk c1 cx s0 L s s'->ef ν k nt g a s->(∀g' a',ef ν k nt g' a' s'->bY ν g g'->Q .normal a' g'.w)->wpAny P .any ops Q n c7 a g.w:=by
 intro n
 induction n with
 |zero=>
  intro L c7 g a s hn hl hr m hQ;cases L with
  |cons=>simp at hn
  |nil=>
   refine⟨?_,?_⟩
   ·refine List.eq_nil_iff_forall_not_mem.2 λj hj=>?_
    obtain⟨h1,o,ho, -⟩:=mem_ready.1 hj;have Lx:j<c7.size:=by rw[hl.size];exact(Array.getElem?_eq_some_iff.1 ho).1
    obtain⟨x,hx, -⟩:=hl.all j (by simp[Array.getD,Lx]at h1;simp[Lx,h1]);cases hx
   ·cases hr with
    |nil h=>exact hQ g a (m.nA h) (.refl ν g)
 |succ n ih=>
  intro L c7 g a s hn hl hr m hQ;have dc:∀{j:Nat} {b:Bool} {d:Bool},c7.getD j d=b->b≠d->c7[j]?=some b:=by
   intro j b d h hb;by_cases hj:j<c7.size
   ·simp[Array.getD,hj]at h;simp[hj,h]
   ·simp[Array.getD,hj]at h;exact absurd h.symm hb
  obtain⟨hlen,ez⟩:=j6 hc;refine⟨λh0=>?_,λj hj=>?_⟩
  ·exfalso;cases L with
   |nil=>simp at hn
   |cons x r=>
    obtain⟨h1,h2,h3⟩:=hl.left x (List.mem_cons_self ..);have:x.1 ∈ Region.ready .any ops c7:=by
     have ho:ops[x.1]?=some ops[x.1]:=by simp[h1]
     refine mem_ready.2 ⟨by simp[Array.getD_eq_getD_getElem?,h2],_,ho,λe he hb=>?_⟩;have hA:=mf Ek x.1 ops[x.1] x.2.1 (by simp[h1]) h3;simp only[uD,Bool.and_eq_true,List.all_eq_true,Nat.zero_add]at hA;have bC:=hA.1 e (by simpa using he);simp only[hb,Bool.not_true,Bool.false_or,Nat.blt_eq]at bC;have El:e.on<c7.size:=by rw[hl.size];omega
     cases hv:c7[e.on]with
     |true=>simp[El,hv]
     |false=>
      obtain⟨y,hy,tD⟩:=hl.all e.on (by simp[El,hv]);rcases List.mem_cons.1 hy with rfl | hy
      ·omega
      ·have:=(List.pairwise_cons.1 hl.pw).1 y hy;have:=this.1;omega
    rw[h0]at this;cases this
  ·obtain⟨h1,o,ho,Jk⟩:=mem_ready.1 hj;obtain⟨x,hx,rfl⟩:=hl.all j (dc h1 (by simp));obtain⟨L1,L2,rfl⟩:=List.append_of_mem hx;obtain⟨bC,wG,rS⟩:=hl.left x hx;have hA:=mf Ek x.1 o x.2.1 (by simpa using ho) rS;simp only[uD,Bool.and_eq_true,List.all_eq_true,List.any_eq_true,Nat.zero_add]at hA;have sC:∀b ∈ x.2.1.lO,c7[b]?=some true:=by
    intro b hb;obtain⟨e,he,h2,h3⟩:=hA.2 b hb;have fp:=dc (Jk e (by simpa using he) h2) (by simp);simp only[Bool.or_eq_true,beq_iff_eq]at h3;rcases h3 with h3 | h3
    ·subst h3;exact fp
    ·split at h3
     ·rename_i y hy;exact hl.down e.on y hy fp b (by simpa using h3)
     ·cases h3
   have mX:=List.pairwise_append.1 hl.pw;have Em:=List.pairwise_cons.1 mX.2.1;obtain⟨s1,Tc,r1⟩:=jk.front sJ L1 s hr λy hy=>by
    obtain⟨q1,q2⟩:=mX.2.2 y hy x (List.mem_cons_self ..);refine q2 λhb=>?_
    have:=sC _ hb;rw[(hl.left y (by simp[hy])).2.1]at this;cases this
   have e1:=Tc.step sJ;have kU:Rest ops cW (L1++L2) (c7.setIfInBounds x.1 true):=by
    have cA:∀y ∈ L1++L2,x.1≠y.1:=by
     intro y hy;rcases List.mem_append.1 hy with hy | hy
     ·have:=(mX.2.2 y hy x (List.mem_cons_self ..)).1;omega
     ·have:=(Em.1 y hy).1;omega
    have rT:x.1<c7.size:=by rw[hl.size];exact bC
    refine⟨by simpa using hl.size,λy hy=>?_,λi hi=>?_,λi io Ao hi b hb=>?_,List.pairwise_append.2 ⟨mX.1,Em.2,λy hy z hz=>mX.2.2 y hy z (List.mem_cons_of_mem _ hz)⟩⟩
    ·obtain⟨q1,q2,q3⟩:=hl.left y (by rcases List.mem_append.1 hy with h | h<;>simp[h]);exact⟨q1,by rw[Array.getElem?_setIfInBounds_ne (cA y hy)];exact q2,q3⟩
    ·by_cases j8:x.1=i
     ·subst j8;simp[rT]at hi
     ·rw[Array.getElem?_setIfInBounds_ne j8]at hi;obtain⟨y,hy,Ap⟩:=hl.all i hi;refine⟨y,?_,Ap⟩;simp only[List.mem_append,List.mem_cons]at hy ⊢;rcases hy with h | rfl | h
      ·exact .inl h
      ·exact absurd Ap j8
      ·exact .inr h
    ·have jh:∀{b:Nat},c7[b]?=some true->(c7.setIfInBounds x.1 true)[b]?=some true:=by
      intro b hb;by_cases Ly:x.1=b
      ·subst Ly;simp[rT]
      ·rw[Array.getElem?_setIfInBounds_ne Ly];exact hb
     by_cases j8:x.1=i
     ·subst j8;rw[rS]at Ao;cases Ao;exact jh (sC b hb)
     ·rw[Array.getElem?_setIfInBounds_ne j8]at hi;exact jh (hl.down i io Ao hi b hb)
   unfold wpOp;simp only[ho];have hw:=o9 (Q:=Q) hs qN (ez x.1 o x.2.1 (by simpa using ho) rS) m e1 (next:=wpAny P .any ops Q n (c7.setIfInBounds x.1 true)) λg' a' m' hm=>
    ih (L1++L2) _ g' a' s1 (by simp at hn ⊢;omega) kU r1 m' λgQ wD wE eN=>hQ gQ wD wE (hm.trans eN)
   split
   ·rename_i h;rw[if_pos h]at hw;exact .inl hw
   ·rename_i h;rw[if_neg h]at hw;exact hw
def ou (P:Program) (ν:Nat->Nat) (nt:Nat) (draw:Bool) (ops:Array Oper) (cW:List aJ):Bool:=
 fO P ν nt ops ops.toList cW&&(!draw||(ot cW 0 ops.toList cW&&j7 0 cW))
theorem j9:∀(aX:List Nat) (fr:Fr) (t:Nat) (x:AV),get (an aX fr) t=some x->get fr t=some x
 |[],fr,t,x,h=>by simp[an,dV]at h
 |k::r,fr,t,x,h=>by
  simp only[an]at h;cases hk:get fr k with
  |none=>rw[hk]at h;exact j9 r fr t x h
  |some y=>
   rw[hk]at h;simp only[aP]at h;split at h
   ·rename_i h0;subst h0;rw[hk];exact h
   ·exact j9 r fr t x h
theorem ef.aX {nt:Nat} {g:Gh} {a:Act} {s:St} (m:ef ν k nt g a s) (aX:List Nat):ef ν k nt g a { s with fr:=an aX s.fr }:=
 ⟨m.h,m.r,λt x ht=>m.f t x (j9 aX s.fr t x ht),m.n,m.d⟩
theorem ef.next {nt:Nat} {g:Gh} {a:Act} {s:St} (m:ef ν k nt g a s) (n:Nat):ef ν k nt g a { s with nx:=n }:=⟨m.h,m.r,m.f,m.n,m.d⟩
theorem ov {c1:dK} {cx:fb} (hs:ao.cR ν P c1) (hx:cR ν P cx) (sJ:ka cx) (je:P.follows .mixedOrders=true) {nt id:Nat} {draw:Bool} {ops:Array Oper} {cW:List aJ} {aX:List Nat}
  (hc:ou P ν nt draw ops cW=true) {g:Gh} {a:Act} {s s':St} (e:aS c1 cx draw cW aX s=some s') (m:ef ν k nt g a s) {Q:Exit->Act->World->Prop}
  (hQ:∀g' a',ef ν k nt g' a' s'->bY ν g g'->Q .normal a' g'.w):(Code.region id ops draw).wp P Q a g.w:=by
 unfold aS at e;generalize Yc:({ s with nx:=s.nx+cW.length }:St)=t at e;have mt:ef ν k nt g a t:=by rw[<-Yc];exact m.next _
 generalize s.nx=n0 at e;clear Yc m;simp only[ou,Bool.and_eq_true]at hc;cases draw with
 |false=>
  simp only[Bool.false_eq_true,if_false]at e;cases h1:a7 c1 cx cW n0 t with
  |none=>rw[h1]at e;cases e
  |some s1=>
   rw[h1]at e;simp only[Option.some.injEq]at e;subst e;exact wp_region_list (rR hs hx ops.toList cW n0 g a t s1 hc.1 h1 mt λg' a' m' hm=>hQ g' a' (m'.aX aX) hm)
 |true=>
  simp only[if_true]at e;cases h1:bn c1 cx cW n0 t with
  |none=>rw[h1]at e;cases e
  |some p=>
   obtain⟨s1,fs⟩:=p;rw[h1]at e;simp only[]at e;split at e
   case isFalse=>cases e
   rename_i wH;simp only[Option.some.injEq]at e;subst e;simp only[Bool.not_true,Bool.false_or,Bool.and_eq_true]at hc;refine wp_region_any je ?_;obtain⟨r',hm⟩:=mt.r.world (w':={ g.w with drawn:=g.w.drawn+1 }) (I':=g.I) (λ_ h=>h) (λ_ h=>.inl h) (Nat.le_refl _) rfl rfl rfl λ_ _=>rfl
   obtain⟨cP,hlen⟩:=jk.tL (s0:=n0) cW 0 t s1 fs (by simpa using h1);have hn:=(j6 hc.1).1;simp only[Array.length_toList]at hn;have mX:=wF cW fs 0 hc.2.2 (by
    simp only[dw,Bool.or_eq_true,List.all_eq_true]at wH;exact wH.symm)
   have bC:(tag 0 cW fs).length=ops.size:=by
    rw[hn];generalize 0=i;clear cP mX wH h1 hc hn hQ
    induction cW generalizing fs i with
    |nil=>simp[tag]
    |cons o r ih=>
     cases fs with
     |nil=>simp at hlen
     |cons f fs=>simp only[tag,List.length_cons];rw[ih fs (by simpa using hlen)]
   refine BN hs hx sJ hc.1 hc.2.1 ops.size _ _ { g with w:={ g.w with drawn:=g.w.drawn+1 } } a t bC ?_ cP ⟨mt.h,r',mt.f.mono hm,mt.n,mt.d⟩ λg' a' m' eN=>hQ g' a' (m'.aX aX) (hm.trans eN)
   refine⟨by simp,λx hx=>?_,λi hi=>?_,λi io _ hi=>?_,mX⟩
   ·obtain⟨q1,q2,q3⟩:=pa hx;simp only[Nat.sub_zero]at q2;have:x.1<ops.size:=by rw[hn];exact(List.getElem?_eq_some_iff.1 q2).1
    exact⟨this,by simp[this],q2⟩
   ·have cK:i<ops.size:=by
     have:=(Array.getElem?_eq_some_iff.1 hi).1;simpa using this
    obtain⟨x,hx,j8⟩:=tM (i:=0) (j:=i) (il:=cW) hlen (List.getElem?_eq_getElem (by omega));exact⟨x,hx,by omega⟩
   ·have cK:=(Array.getElem?_eq_some_iff.1 hi);obtain⟨q1,q2⟩:=cK;simp at q2
end
section
variable {ν:Nat->Nat} {P:Program} {k:Cx}
def ek (P:Program) (ν:Nat->Nat) (nt:Nat):Code->IC->Bool
 |.skip,.skip=>true
 |.label _,.skip=>true
 |.region _ ops draw,.ff d cW _=>draw==d&&ou P ν nt draw ops cW
 |.seq a b,.seq x y=>ek P ν nt a x&&ek P ν nt b y
 |.cond c a b,.cond d x y=>cp ν c d&&ek P ν nt a x&&ek P ν nt b y
 |.block id a,.block jd x=>id==jd&&ek P ν nt a x
 |.loop a,.loop _ x=>ek P ν nt a x
 |.exit id,.exit jd=>id==jd
 |.ret,.ret=>true
 |.scope a,.scope x=>ek P ν nt a x
 |_,.stop=>true
 |_,_=>false
theorem BQ {c1:dK} {cx:fb} (hs:ao.cR ν P c1) (hx:cR ν P cx) (sJ:ka cx) (je:P.follows .mixedOrders=true) {nt n:Nat}:∀(ic:IC) (c:Code),ek P ν nt c ic=true->
  ∀(g:Gh) (a:Act) (s:St) (r:Ex) (s':St),bd c1 cx n ic s=some (r,s')->ef ν k nt g a s->∀Q:Exit->Act->World->Prop,(∀g' a',ef ν k nt g' a' s'->bY ν g g'->Q r.U a' g'.w)->c.wp P Q a g.w:=by
 intro ic
 induction ic with
 |skip=>
  intro c hc g a s r s' e m Q hQ;simp only[bd,Option.some.injEq,Prod.mk.injEq]at e;obtain⟨rfl,rfl⟩:=e;cases c<;>simp only[ek,Bool.false_eq_true]at hc
  ·exact wp_skip (hQ g a m (.refl ν g))
  ·exact wp_label (hQ g a m (.refl ν g))
 |ff draw ops aX=>
  intro c hc g a s r s' e m Q hQ;cases c<;>simp only[ek,Bool.false_eq_true]at hc;rename_i id Zs Wn;simp only[Bool.and_eq_true,beq_iff_eq]at hc;obtain⟨rfl,hc⟩:=hc;simp only[bd,Option.map_eq_some_iff,Prod.mk.injEq]at e;obtain⟨s1,e1,rfl,rfl⟩:=e;exact ov hs hx sJ je hc e1 m λg' a' m' hm=>hQ g' a' m' hm
 |seq x y En Eo=>
  intro c hc g a s r s' e m Q hQ;cases c<;>simp only[ek,Bool.false_eq_true]at hc;simp only[Bool.and_eq_true]at hc;refine wp_seq ?_;simp only[bd]at e;cases h1:bd c1 cx n x s with
  |none=>rw[h1]at e;cases e
  |some p=>
   obtain⟨r1,s1⟩:=p;rw[h1]at e;refine En _ hc.1 g a s r1 s1 h1 m _ λg' a' m' hm=>?_
   cases r1 with
   |norm=>exact Eo _ hc.2 g' a' s1 r s' e m' Q λgQ wD wE eN=>hQ gQ wD wE (hm.trans eN)
   |exit i=>simp only[Option.some.injEq,Prod.mk.injEq]at e;obtain⟨rfl,rfl⟩:=e;exact hQ g' a' m' hm
   |ret=>simp only[Option.some.injEq,Prod.mk.injEq]at e;obtain⟨rfl,rfl⟩:=e;exact hQ g' a' m' hm
 |cond d x y En Eo=>
  intro c hc g a s r s' e m Q hQ;cases c<;>simp only[ek,Bool.false_eq_true]at hc;rename_i cd cX cY;simp only[Bool.and_eq_true]at hc;simp only[bd]at e;split at e
  ·rename_i t ht;have hR:=aY m.f hc.1.1;rw[ht]at hR;generalize hv:a.eval cd=v at hR;cases hR with
   |iv h=>
    cases h with
    |bool=>
     refine wp_cond hv ?_;cases t with
     |true=>exact En _ hc.1.2 g a s r s' e m Q hQ
     |false=>exact Eo _ hc.2 g a s r s' e m Q hQ
  ·cases e
 |block id x ih=>
  intro c hc g a s r s' e m Q hQ;cases c<;>simp only[ek,Bool.false_eq_true]at hc;simp only[Bool.and_eq_true,beq_iff_eq]at hc;obtain⟨rfl,hc⟩:=hc;refine wp_block ?_;simp only[bd]at e;cases h1:bd c1 cx n x s with
  |none=>rw[h1]at e;cases e
  |some p=>
   obtain⟨r1,s1⟩:=p;rw[h1]at e;refine ih _ hc g a s r1 s1 h1 m _ λg' a' m' hm=>?_
   cases r1 with
   |norm=>simp only[Option.some.injEq,Prod.mk.injEq]at e;obtain⟨rfl,rfl⟩:=e;exact hQ g' a' m' hm
   |ret=>simp only[Option.some.injEq,Prod.mk.injEq]at e;obtain⟨rfl,rfl⟩:=e;exact hQ g' a' m' hm
   |exit i=>
    simp only[Ex.U,Exit.inBlock];simp only[]at e;split at e
    ·rename_i hi;simp only[Option.some.injEq,Prod.mk.injEq]at e;obtain⟨rfl,rfl⟩:=e;rw[if_pos hi];exact hQ g' a' m' hm
    ·rename_i hi;simp only[Option.some.injEq,Prod.mk.injEq]at e;obtain⟨rfl,rfl⟩:=e;rw[if_neg hi];exact hQ g' a' m' hm
 |loop aX x ih=>
  intro c hc g a s r s' e m Q hQ;cases c<;>simp only[ek,Bool.false_eq_true]at hc;rename_i cX;simp only[bd]at e;refine Cv (λj a w=>∃g1 s1,g1.w=w/\ef ν k nt g1 a s1/\bY ν g g1/\iter (bd c1 cx n x) aX j s1=some (r,s')) ?_ ?_ (n:=n) ⟨g,_,rfl,m.aX aX,.refl ν g,e⟩
  ·rintro a w ⟨g1,s1, -, -, -,h⟩;simp[iter]at h
  ·rintro j a w ⟨g1,s1,rfl,m1,jy,h⟩;simp only[iter]at h;cases h1:bd c1 cx n x s1 with
   |none=>rw[h1]at h;cases h
   |some p=>
    obtain⟨r2,s2⟩:=p;rw[h1]at h;refine ih _ hc g1 a s1 r2 s2 h1 m1 _ λg' a' m' hm=>?_
    cases r2 with
    |norm=>exact⟨g',_,rfl,m'.aX aX,jy.trans hm,h⟩
    |exit i=>simp only[Option.some.injEq,Prod.mk.injEq]at h;obtain⟨rfl,rfl⟩:=h;exact hQ g' a' m' (jy.trans hm)
    |ret=>simp only[Option.some.injEq,Prod.mk.injEq]at h;obtain⟨rfl,rfl⟩:=h;exact hQ g' a' m' (jy.trans hm)
 |scope x ih=>
  intro c hc g a s r s' e m Q hQ;cases c<;>simp only[ek,Bool.false_eq_true]at hc;refine wp_scope_straight (ih _ hc g a s r s' e m _ λg' a' m' hm=>?_);have:=hQ g' a' m' hm;cases r<;>exact this
 |stop=>
  intro c hc g a s r s' e m Q hQ;simp[bd]at e
 |exit id=>
  intro c hc g a s r s' e m Q hQ;cases c<;>simp only[ek,Bool.false_eq_true]at hc;simp only[bd,Option.some.injEq,Prod.mk.injEq]at e;obtain⟨rfl,rfl⟩:=e;rw[beq_iff_eq]at hc;subst hc;exact wp_exit (hQ g a m (.refl ν g))
 |ret=>
  intro c hc g a s r s' e m Q hQ;cases c<;>simp only[ek,Bool.false_eq_true]at hc;simp only[bd,Option.some.injEq,Prod.mk.injEq]at e;obtain⟨rfl,rfl⟩:=e;exact wp_ret (hQ g a m (.refl ν g))
end
section
variable {ν:Nat->Nat} {P:Program} {k:Cx}
def mg (P:Program):ResultVar->iO->Bool
 |.tmp t,.t n=>t==n
 |.cell a t,.cell n agg sz=>a==n&&lQ P t sz agg
 |_,_=>false
def fE (P:Program):List ResultVar->List iO->Bool
 |[],[]=>true
 |r::rs,x::xs=>mg P r x&&fE P rs xs
 |_,_=>false
theorem tN {g:Gh} (r:Rel ν k g) {a:Act} {fr:Fr} (hf:jB ν g a.tmps fr) {rv:ResultVar} {x:iO} (hc:mg P rv x=true) {y:AV} {h':Hp} (e:(dJ fr x).run g.h=some (y,h')) :
  h'=g.h/\∃v,(mY a.tmps rv).run P g.w = .ok v g.w/\RA ν g v y:=by
 cases x with
 |t n=>
  cases rv with
  |cell=>simp[mg]at hc
  |tmp t=>
   obtain⟨rfl,rfl⟩:=ai e;exact⟨rfl,_,by simp[mY,Act.eval],aY (ν:=ν) (x:=.tmp t) (a:=a) hf (by simpa[cp,mg]using hc)⟩
 |cell n agg sz=>
  cases rv with
  |tmp=>simp[mg]at hc
  |cell t ty=>
   simp only[mg,Bool.and_eq_true]at hc;obtain⟨rfl,u,hu,Lz⟩:=rC r hc.2 (aY (ν:=ν) (x:=.tmp t) hf (by simpa[cp]using hc.1)) e;exact⟨rfl,u,BR hu,Lz⟩
theorem p8 {g:Gh} (r:Rel ν k g) {a:Act} {fr:Fr} (hf:jB ν g a.tmps fr):∀(jl:List ResultVar) (xs:List iO) (ys:List AV) (h':Hp),fE P jl xs=true->(M.aG (dJ fr) xs).run g.h=some (ys,h')->
  h'=g.h/\∃vs,vs.length=jl.length/\(∀(j:Nat) (rv:ResultVar) (v:Value),jl[j]?=some rv->vs[j]?=some v->(mY a.tmps rv).run P g.w = .ok v g.w)/\RL ν g vs ys
 |[],[],ys,h',_,e=>by
  obtain⟨rfl,rfl⟩:=dS e;exact⟨rfl,[],rfl,λj rv v h=>by simp at h,.nil⟩
 |rv::jl,x::xs,ys,h',hc,e=>by
  simp only[fE,Bool.and_eq_true]at hc;obtain⟨y,h1,zs,e1,e2,rfl⟩:=dx e;obtain⟨rfl,v,q1,q6⟩:=tN r hf hc.1 e1;obtain⟨rfl,vs,p1,p2,p7⟩:=p8 r hf jl xs zs h' hc.2 e2;refine⟨rfl,v::vs,by simp[p1],λj LA v' hj hv=>?_,.cons q6 p7⟩;cases j with
  |zero=>simp at hj hv;subst hj hv;exact q1
  |succ j=>exact p2 j LA v' (by simpa using hj) (by simpa using hv)
 |[],_::_,_,_,hc,_=>by simp[fE]at hc
 |_::_,[],_,_,hc,_=>by simp[fE]at hc
theorem p9 {g:Gh} (r:Rel ν k g) {a:Act} {fr:Fr} (hf:jB ν g a.tmps fr) {fn:Func} {xs:List iO} (hc:fE P fn.results.toList xs=true) (h4:xs.length<=4) {y:AV} {h':Hp} (e:(ck fr xs).run g.h=some (y,h')) :
  h'=g.h/\∃v,(results fn a.tmps).run P g.w = .ok v g.w/\RA ν g v y:=by
 have hlen:∀{jl:List ResultVar} {xs:List iO},fE P jl xs=true->jl.length=xs.length:=by
  intro jl
  induction jl with
  |nil=>intro xs h;cases xs with | nil=>rfl | cons=>simp[fE]at h
  |cons a r ih=>intro xs h;cases xs with | nil=>simp[fE]at h | cons x xs=>simp only[fE,Bool.and_eq_true]at h;simp[ih h.2]
 have hn:=hlen hc;have many:∀{ys:List AV} {h':Hp},(M.aG (dJ fr) xs).run g.h=some (ys,h')->xs.length≠1->h'=g.h/\∃v,(results fn a.tmps).run P g.w = .ok v g.w/\RA ν g v (.bD ys):=by
  intro ys h' e cA;obtain⟨rfl,vs,p1,p2,p7⟩:=p8 r hf fn.results.toList xs ys h' hc e;refine⟨rfl,.tuple vs.toArray,?_,.bD (by simpa using p7.1) λj v c h1 h2=>p7.2 j v c (by simpa using h1) h2⟩;rw[pI (jl:=fn.results.toList) (by simp) (by omega) p1 p2];rcases vs with _ | ⟨v,_ | ⟨u,vs⟩⟩
  ·rfl
  ·exact absurd (hn.symm.trans p1.symm) (by simpa using cA)
  ·rfl
 rcases xs with _ | ⟨x,_ | ⟨x2,xs⟩⟩
 ·obtain⟨l,h1,e1,e2⟩:=aw e;obtain⟨rfl,rfl⟩:=ai e2;exact many e1 (by simp)
 ·rcases hl:fn.results.toList with _ | ⟨rv,_ | ⟨rv2,jl⟩⟩
  ·rw[hl]at hn;simp at hn
  ·rw[hl]at hc;simp only[fE,Bool.and_true]at hc;obtain⟨rfl,v,q1,q6⟩:=tN r hf hc e;refine⟨rfl,v,?_,q6⟩;refine pI (jl:=[rv]) (vs:=[v]) (by rw[<-hl]) (by simp) rfl λj LA v' hj hv=>?_
   cases j with
   |zero=>simp at hj hv;subst hj hv;exact q1
   |succ j=>simp at hj
  ·rw[hl]at hn;simp at hn
 ·obtain⟨l,h1,e1,e2⟩:=aw e;obtain⟨rfl,rfl⟩:=ai e2;exact many e1 (by simp)
def yh (P:Program) (ν:Nat->Nat) (fn:Func) (c:Code) (ir:aA):Bool:=
 ek P ν fn.ntmps c ir.body&&fE P fn.results.toList ir.res&&Nat.ble ir.res.length 4&&ir.pe.isNone
abbrev Jv:=dK->fb->List AV->Hp->Nat->Option (AV×Hp×Nat)
def Ty (P:Program) (ν:Nat->Nat) (f:Nat) (p:Jv):Prop:=
 ∀(c1:dK) (cx:fb),ao.cR ν P c1->cR ν P cx->∀args hp nx r dG aW,p c1 cx args hp nx=some (r,dG,aW)->
  (∃fn,P.funcs[ν f]?=some fn/\fn.body.isSome=true/\(fn.name=="runtime.NumGoroutine")=false)/\mU ν P f args hp r dG
def sK (P:Program) (ν:Nat->Nat) (f:Nat) (ir:aA):Prop:=
 (∃fn c,P.funcs[ν f]?=some fn/\fn.body=some c/\(fn.name=="runtime.NumGoroutine")=false/\yh P ν fn c ir=true)\/∃p,ir.pe=some p/\Ty P ν f p/\uN p
def oT (P:Program) (ν:Nat->Nat) (prog:Nat->Option aA):Prop:=∀f ir,prog f=some ir->sK P ν f ir
theorem ow:∀(l:List AV) (i t:Nat),get (params l i) t=if i<=t then l[t - i]? else none
 |[],i,t=>by simp[params,dV]
 |x::r,i,t=>by
  simp only[params,aP];by_cases h:i=t
  ·subst h;simp
  ·rw[if_neg h,ow r (i+1) t];by_cases h':i+1<=t
   ·rw[if_pos h',if_pos (by omega)];have:t - i=(t - (i+1))+1:=by omega
    rw[this];simp
   ·rw[if_neg h',if_neg (by omega)]
theorem sound (je:P.follows .mixedOrders=true) {c1:dK} (hs:ao.cR ν P c1) {prog:Nat->Option aA} (tie:oT P ν prog):∀n,cR ν P (aZ c1 prog n):=by
 have sJ:=AD (c1:=c1) (prog:=prog) λf ir p hf hp=>by
  rcases tie f ir hf with⟨fn,c, -, -, -,nK⟩|⟨p',h1, -,h2⟩
  ·simp[yh,hp]at nK
  ·rw[hp]at h1;cases h1;exact h2
 intro n
 induction n with
 |zero=>intro f args hp nx r dG aW e;simp[aZ]at e
 |succ n ih=>
  intro f args hp nx r dG aW e;simp only[aZ]at e;cases hf:prog f with
  |none=>rw[hf]at e;cases e
  |some ir=>
   rw[hf]at e;simp only[]at e;rcases tie f ir hf with⟨fn,c,iw,hb,Al,nK⟩|⟨p,Ci,bF, -⟩
   case inr=>rw[Ci]at e;exact bF c1 _ hs ih args hp nx r dG aW e
   refine⟨⟨fn,iw,by simp[hb],Al⟩,?_⟩;simp only[yh,Bool.and_eq_true,Nat.ble_eq,Option.isNone_iff_eq_none]at nK;obtain⟨⟨⟨nJ,sD⟩,Eu⟩,Ew⟩:=nK;rw[Ew]at e;simp only[]at e;split at e
   ·rename_i hlen;intro k0 g0 bP hh r0 gM;refine calls_of_wp iw hb ?_;have m0:ef ν k0 fn.ntmps g0 { tmps:=bP++Array.replicate (fn.ntmps - bP.size) undef,defers:=[] } ⟨params args 0,hp,nx⟩:=by
     refine⟨hh,r0,λt x ht=>?_,by simp;omega,rfl⟩;simp only[ow,Nat.zero_le,if_true,Nat.sub_zero]at ht;have bC:t<bP.size:=by have:=gM.1;have:=bg ht;simp only[Array.length_toList]at *;omega
     refine⟨bP[t],by simp[Array.getElem?_append,bC],gM.2 t _ _ (by simp[bC]) ht⟩
    cases he:bd c1 (aZ c1 prog n) n ir.body ⟨params args 0,hp,nx⟩with
    |none=>rw[he]at e;cases e
    |some p=>
     obtain⟨ex,s⟩:=p;rw[he]at e;have fin:∀(g':Gh) (a':Act),ef ν k0 fn.ntmps g' a' s->bY ν g0 g'->(match(ck s.fr ir.res).run s.hp with | some (v,h)=>some (v,h,s.nx) | none=>none)=some (r,dG,aW)->
       a'.defers=[]/\∃v,(results fn a'.tmps).run P g'.w = .ok v g'.w/\
       ∃u gQ,Ending.returned v = .returned u/\gQ.w=g'.w/\gQ.h=dG/\Rel ν k0 gQ/\bY ν g0 gQ/\RA ν gQ u r:=by
      intro g' a' m' hm hr;cases Tz:(ck s.fr ir.res).run s.hp with
      |none=>rw[Tz]at hr;cases hr
      |some q=>
       obtain⟨y,h1⟩:=q;rw[Tz]at hr;cases hr;obtain⟨rfl,v,q1,q6⟩:=p9 m'.r m'.f sD Eu (by rw[m'.h];exact Tz);exact⟨m'.d,v,q1,v,g',rfl,rfl,rfl,m'.r,hm,q6⟩
     refine BQ hs ih (sJ n) je ir.body c nJ g0 _ _ ex s he m0 _ λg' a' m' hm=>?_
     cases ex with
     |norm=>exact fin g' a' m' hm e
     |ret=>exact fin g' a' m' hm e
     |exit i=>cases e
   ·cases e
end
def jq (d:Nat) (x:bf):aJ:=⟨some d,.eM x,none,[]⟩
def uE (e:Nat):List aJ:=[⟨some 5,.PJ e,none,[]⟩,jq 6 (.t 0),⟨some 7,.app e false (.t 5) (.t 6),none,[]⟩,jq 2 (.t 7)]
def Aq (P:Program) (nt e:Nat) (b:Oper):Bool:=
 b.dst==some 4&&Nat.blt 4 nt&&(match b.guard with | none=>true | _=>false)&&(match b.op with | .binOp .eql t (.tmp 3) (.const (.slice none 0 0)) _=>sliceB P t e | _=>false)
def rW (P:Program) (ν:Nat->Nat) (nt:Nat) (c:Code) (e:Nat):Bool:=
 match c with
 |.seq (.region _ o1 false) (.seq (.seq (.region _ o2 false) (.cond (.tmp 4) (.seq (.region _ o3 false) .ret) .skip)) (.seq (.region _ o4 false) .ret))=>
  ou P ν nt false o1 [jq 2 (.c (.iv (.aV e)))]&&(match o2.toList with | [a,b]=>kF P ν nt o2 a (jq 3 (.t 0))&&Aq P nt e b | _=>false) &&
  ou P ν nt false o3 [jq 2 (.c (.iv (.aV e)))]&&ou P ν nt false o4 (uE e)
 |_=>false
section
variable {ν:Nat->Nat} {P:Program} {k:Cx}
def mh:dK:=λ_ _ _=>none
def Fc:fb:=λ_ _ _ _=>none
theorem gR:ao.cR ν P mh:=λf args hp r dG e=>by simp[mh]at e
theorem sL:cR ν P Fc:=λf args hp nx r dG aW e=>by simp[Fc]at e
theorem zk:ka Fc:=λf args hp nx r dG aW e=>by simp[Fc]at e
theorem AG {e:Nat} {x:AV} {hp h':Hp} {ys:List (List AV)} (he:(elems e x).run hp=some (ys,h')):h'=hp:=by
 unfold elems at he;split at he
 ·obtain⟨o,hg,e2⟩:=M.cf he;split at e2
  all_goals first
   |exact(ah e2).elim
   |(obtain⟨_,e4⟩:=M.aL e2
     exact(ai e4).2)
 ·obtain⟨_,e4⟩:=M.aL he;exact(ai e4).2
 ·exact(ai he).2
 ·exact(ah he).elim
theorem GI {e:Nat} {x:AV} {hp h':Hp} {ys:List (List AV)} (he:(elems e x).run hp=some (ys,h')):kO e x=elems e x:=by
 unfold kO;split
 ·simp[elems,M.run]at he
 ·rfl
theorem Ep (e:Nat) (x:AV) (hp:Hp) (nx:Nat):aS mh Fc false [jq 2 (.c (.iv (.aV e)))] [0] ⟨[(0,x)],hp,nx⟩=some ⟨[(0,x)],hp,nx+1⟩:=rfl
theorem Er (e:Nat) (fr:Fr) (hp:Hp) (nx:Nat):aS mh Fc false [jq 2 (.c (.iv (.aV e)))] [2] ⟨fr,hp,nx⟩=some ⟨[(2,.iv (.aV e))],hp,nx+1⟩:=by
 have:get (ay.set fr 2 (AV.iv (.aV e))) 2=some (.iv (.aV e)):=ar _ _ _;simp[aS,jq,a7,step,cw,fJ,bp,M.run,bT,ev,an,this]
theorem Es {e:Nat} {x:AV} {hp:Hp} {nx:Nat} {ys:List (List AV)} (he:(elems e x).run hp=some (ys,hp)) (hr:ys≠[]->roomy ys.length=true/\get hp (4*(nx+2))=none) :
  aS mh Fc false (uE e) [2] ⟨[(0,x)],hp,nx⟩ =
   some ⟨[(2,if ys.isEmpty then .iv (.aV e) else .own (4*(nx+2)) 0 ys.length 0)],if ys.isEmpty then hp else ay.set hp (4*(nx+2)) (.buf 0 e ys),nx+4⟩:=by
 have hs:=GI he;cases ys with
 |nil=>simp[aS,uE,jq,a7,step,cw,fJ,bp,az,M.run,bT,ev,an,bU,aP,app,hs,he]
 |cons y ys=>
  obtain⟨h1,h2⟩:=hr (by simp);have SY:ay.get hp (4*(nx+1+1))=none:=h2;have sB:roomy (ys.length+1)=true:=by simpa using h1
  simp[aS,uE,jq,a7,step,cw,fJ,bp,az,M.run,bT,ev,an,bU,aP,app,hs,he,M.ok,M.fresh,M.write,sB,SY]
theorem ef.nx {nt:Nat} {g:Gh} {a:Act} {s:St} (m:ef ν k nt g a s) {fr:Fr} (hf:∀t x,get fr t=some x->get s.fr t=some x) {hp:Hp} (hh:hp=s.hp) (n:Nat):ef ν k nt g a ⟨fr,hp,n⟩:=by
 subst hh;exact⟨m.h,m.r,λt x ht=>m.f t x (hf t x ht),m.n,m.d⟩
theorem yZ {f:Nat} {fn:Func} {c:Code} (iw:P.funcs[ν f]?=some fn) (hb:fn.body=some c) (je:P.follows .mixedOrders=true) {e:Nat} (hc:rW P ν fn.ntmps c e=true)
  (Et:fE P fn.results.toList [.t 2]=true) {c1:dK} {cx:fb} {args:List AV} {hp:Hp} {nx:Nat} {r:AV} {dG:Hp} {aW:Nat} (he:Prim.clone e c1 cx args hp nx=some (r,dG,aW)):mU ν P f args hp r dG:=by
 intro k0 g0 bP hh r0 gM;unfold Prim.clone at he;split at he
 case h_2=>cases he
 rename_i x;cases fp:(elems e x).run hp with
 |none=>rw[fp]at he;cases he
 |some p=>
 obtain⟨ys,h1⟩:=p;obtain rfl:=AG fp;rw[fp]at he;simp only[]at he;have uF:(ys≠[]->roomy ys.length=true/\get h1 (4*(nx+2))=none)/\r=(if ys.isEmpty then .iv (.aV e) else .own (4*(nx+2)) 0 ys.length 0)/\dG=(if ys.isEmpty then h1 else ay.set h1 (4*(nx+2)) (.buf 0 e ys)):=by
  cases ys with
  |nil=>
   simp only[Option.some.injEq,Prod.mk.injEq]at he;obtain⟨rfl,rfl, -⟩:=he;exact⟨λh=>absurd rfl h,rfl,rfl⟩
  |cons y ys=>
   simp only[]at he;split at he
   ·rename_i hk;simp only[Bool.and_eq_true,Option.isNone_iff_eq_none]at hk;simp only[Option.some.injEq,Prod.mk.injEq]at he;obtain⟨rfl,rfl, -⟩:=he;exact⟨λ_=>hk,rfl,rfl⟩
   ·cases he
 obtain⟨iM,rfl,rfl⟩:=uF;obtain⟨cv,mT⟩:∃cv,bP=#[cv]:=by
  have:=gM.1;simp only[List.length_cons,List.length_nil,Nat.zero_add,Array.length_toList]at this;obtain⟨l⟩:=bP
  match l,this with
  |[v],_=>exact⟨v,rfl⟩
 subst mT;have Hg:RA ν g0 cv x:=gM.2 0 _ _ rfl rfl;refine calls_of_wp iw hb ?_;have m0:ef ν k0 fn.ntmps g0 { tmps:=#[cv]++Array.replicate (fn.ntmps - 1) undef,defers:=[] } ⟨[(0,x)],h1,nx⟩:=by
  refine⟨hh,r0,λt x' ht=>?_,by simp;omega,rfl⟩;simp only[aP,dV]at ht;split at ht
  ·rename_i h0;subst h0;simp only[Option.some.injEq]at ht;subst ht;exact⟨cv,by simp[Array.getElem?_append],Hg⟩
  ·cases ht
 unfold rW at hc;split at hc
 case h_2=>cases hc
 rename_i i1 o1 i2 o2 i3 o3 i4 o4;simp only[Bool.and_eq_true]at hc;obtain⟨⟨⟨nJ,sD⟩,Eu⟩,Ew⟩:=hc;split at sD
 case h_2=>cases sD
 rename_i oa ob hl;simp only[Bool.and_eq_true]at sD;obtain⟨SV,jI⟩:=sD;simp only[Aq,Bool.and_eq_true,beq_iff_eq]at jI;obtain⟨⟨⟨sE,yg⟩,LF⟩,Ey⟩:=jI;have Nx:ob.guard=none:=by
  split at LF
  ·assumption
  ·cases LF
 split at Ey
 case h_2=>cases Ey
 rename_i t yt Ny;obtain⟨el,ti,pT, -, -⟩:=ju Ey;refine wp_seq (ov gR sL zk je nJ (Ep e x h1 nx) m0 λg1 a1 m1 jy=>?_);refine wp_seq (wp_seq (wp_region_list ?_));rw[hl];refine wpList_step λK hK=>o9 (slot:=0) (s1:=⟨[(0,x),(3,x)],h1,nx+1⟩) gR sL SV m1 rfl λg2 a2 m2 iX=>hK _ _ ?_
 refine wpList_step λK2 cZ=>?_
 simp only[Region.wanted,Nx,if_true];obtain⟨v3,LH,SX⟩:=m2.f 3 x rfl;have oS:a2.eval (.tmp 3)=v3:=by simp[Act.eval,Array.getD,(Array.getElem?_eq_some_iff.1 LH).1,(Array.getElem?_eq_some_iff.1 LH).2]
 obtain⟨aa,cap,kV,uw⟩:∃aa cap,v3 = .slice aa ys.length cap/\(aa=none->ys=[]):=by
  obtain⟨-,news,⟨aa,cap,h1,h2⟩, -⟩:=rJ m2.r (by rw[m2.h];exact fp) SX;refine⟨aa,cap,h1,λha=>?_⟩;rcases h2 with h2 | ⟨b,off,h2, -⟩
  ·exact List.eq_nil_of_length_eq_zero h2
  ·rw[ha]at h2;cases h2
 subst kV;have cP:(execOp a2.eval ob).run P g2.w = .ok (.value (.bool aa.isNone)) g2.w:=by
  have hg:eqGuard .eql t (.tmp 3) (.const (.slice none 0 0)) (.slice aa ys.length cap) (.slice none 0 0)=pure ():=rfl;have:=Lib.run_eql_slice_nil g2.w t el aa ys.length cap 0 0 pT;simp only[execOp,Ny,oS,show a2.eval (.const (.slice none 0 0)) = .slice none 0 0 from rfl,hg];simp only[Sem.run_bind,Sem.run_pure,Result.andThen_ok,this]
 unfold Oper.wp;rw[cP,Oper.upon_value];refine cZ _ _ (wpList_nil ?_);have m3:=m2.put (aW:=nx+1) (d:=some 4) (v:=.bool aa.isNone) (y:=.iv (.bool aa.isNone)) (λt ht=>by cases ht;simpa using yg) m2.h m2.r (.refl ν g2) (.iv (.bool _));rw[<-sE]at m3;simp only[Exit.then];have uF:(a2.put ob.dst (.bool aa.isNone)).eval (.tmp 4) = .bool aa.isNone:=by
  have:=aY (ν:=ν) (x:=.tmp 4) (y:=.t 4) m3.f (by rfl);have Nz:ev (bT [(0,x),(3,x)] ob.dst (.iv (.bool aa.isNone))) (.t 4) = .iv (.bool aa.isNone):=by rw[sE];rfl
  rw[Nz]at this;generalize(a2.put ob.dst (.bool aa.isNone)).eval (.tmp 4)=u at this;cases this with
  |iv h=>cases h;rfl
 refine wp_cond uF ?_;have fin:∀(g':Gh) (a':Act) (nx:Nat) (y:AV) (h2:Hp),ef ν k0 fn.ntmps g' a' ⟨[(2,y)],h2,nx⟩->bY ν g0 g'->
   a'.defers=[]/\∃v,(results fn a'.tmps).run P g'.w = .ok v g'.w/\∃u gQ,Ending.returned v = .returned u/\gQ.w=g'.w/\gQ.h=h2/\Rel ν k0 gQ/\bY ν g0 gQ/\RA ν gQ u y:=by
  intro g' a' nx y h2 m' hm;obtain⟨q0,v,q1,q6⟩:=p9 (y:=y) (h':=g'.h) m'.r m'.f Et (by simp) rfl;exact⟨m'.d,v,q1,v,g',rfl,rfl,m'.h,m'.r,hm,q6⟩
 have PS:∀t x',get ([(0,x)]:Fr) t=some x'->get (bT [(0,x),(3,x)] ob.dst (.iv (.bool aa.isNone))) t=some x':=by
  intro t x' ht;simp only[aP,dV]at ht;split at ht
  ·rename_i h0;subst h0;rw[sE];exact ht
  ·cases ht
 cases aa with
 |none=>
  obtain rfl:=uw rfl;simp only[Option.isNone_none,if_true]at m3 ⊢;refine wp_seq (ov gR sL zk je Eu (Er e [(0,x)] h1 nx) (m3.nx PS rfl nx) λg4 a4 m4 wJ=>wp_ret ?_);exact fin g4 a4 _ _ _ m4 ((jy.trans iX).trans wJ)
 |some ad=>
  simp only[Option.isNone_some,Bool.false_eq_true,if_false]at m3 ⊢;refine wp_skip ?_;simp only[Exit.then];refine wp_seq (ov gR sL zk je Ew (Es (nx:=nx) fp iM) (m3.nx PS rfl nx) λg4 a4 m4 wJ=>wp_ret ?_);exact fin g4 a4 _ _ _ m4 ((jy.trans iX).trans wJ)
theorem JH (e:Nat):uN (Prim.clone e):=by
 intro c1 cx hx args h nx r h' aW he;unfold Prim.clone at he ⊢;split at he
 case h_2=>cases he
 rename_i x;cases fp:(elems e x).run h with
 |none=>rw[fp]at he;cases he
 |some p=>
  obtain⟨ys,h1⟩:=p;obtain rfl:=AG fp;rw[fp]at he;simp only[]at he ⊢;cases ys with
  |nil=>
   simp only[Option.some.injEq,Prod.mk.injEq]at he;obtain⟨rfl,rfl,rfl⟩:=he;refine⟨λ_ h=>h,λqs hq=>?_⟩;rw[(M.more (NR.AA _ _) fp hq).1]
  |cons y ys=>
   simp only[]at he;split at he
   case isFalse=>cases he
   rename_i hk;simp only[Option.some.injEq,Prod.mk.injEq]at he;obtain⟨rfl,rfl,rfl⟩:=he;simp only[Bool.and_eq_true,Option.isNone_iff_eq_none]at hk;refine⟨λn hn=>hn.set,λqs hq=>?_⟩;have Hw:lC qs h1:=hq.back λn hn=>hn.set
   have cA:∀p ∈ qs,p.1≠4*(nx+2):=hq.not On.same;rw[(M.more (NR.AA _ _) fp Hw).1];simp only[];rw[if_pos (by simp only[Bool.and_eq_true,Option.isNone_iff_eq_none];exact⟨hk.1,by rw[tT cA];exact hk.2⟩),Hn _ cA]
end
open Go.ChangeMaps (setBlock)
def Has (a:Act) (n:Nat) (v:Value):Prop:=a.tmps[n]?=some v
theorem Has.eval {a:Act} {n:Nat} {v:Value} (h:Has a n v):a.eval (.tmp n)=v:=by
 have:=Array.getElem?_eq_some_iff.1 h;simp[Act.eval,Array.getD,this.1,this.2]
theorem Has.ne {a:Act} {n d:Nat} {u v:Value} (h:Has a n v) (cA:d≠n):Has (a.put (some d) u) n v:=by
 unfold Has at *;simp only[Act.put];rw[Array.getElem?_setIfInBounds_ne cA];exact h
theorem Has.new {a:Act} {d:Nat} {u:Value} (h:d<a.tmps.size):Has (a.put (some d) u) d u:=by
 unfold Has;simp[Act.put,h]
section
variable {ν:Nat->Nat} {P:Program} {k:Cx} {g:Gh}
def LV (P:Program) (ν:Nat->Nat) (fn:Func) (e:Nat):Bool:=(match fn.body with | some c=>rW P ν fn.ntmps c e&&fE P fn.results.toList [.t 2] | none=>false)&&!(fn.name=="runtime.NumGoroutine")
theorem LW (je:P.follows .mixedOrders=true) {f k' e:Nat} {ir:aA} {fn:Func} (hk:P.funcs[k']?=some fn) (Fe:ν f=k') (hp:ir.pe=some (Prim.clone e)) (h:LV P ν fn e=true):sK P ν f ir:=by
 simp only[LV,Bool.and_eq_true,Bool.not_eq_true']at h;obtain⟨h1,h2⟩:=h;split at h1
 ·rename_i c hc;simp only[Bool.and_eq_true]at h1;rw[<-Fe]at hk;exact .inr ⟨_,hp,λc1 cx _ _ args hp nx r dG aW he=>⟨⟨fn,hk,by simp[hc],h2⟩,yZ hk hc je h1.1 h1.2 he⟩,JH e⟩
 ·cases h1
end
end ay
namespace ay
open Go Go.RowKit Go.WideShapes ao
inductive Sh where
 |bool
 |int (k:IntKind)
 |str
 |sl (es:List Sh)
 |ex
 deriving Inhabited
def mj:List Sh:=[.int .i64,.int .i64,.bool,.sl [.int .i64,.int .i64],.bool,.sl [.str],.ex]
mutual
inductive Fit:Sh->IV->Prop
 |bool (b:Bool):Fit .bool (.bool b)
 |int (k:IntKind) (n:Int) (h:(Lit.int k n).wf=true):Fit (.int k) (.int k n)
 |str (s:ByteArray) (h:s.size<=maxLen):Fit .str (.str s)
 |sl (es:List Sh) (rows:List (List IV)) (h:rows.length<=maxLen) (hr:∀r ∈ rows,df es r):Fit (.sl es) (.sl es.length rows)
 |ex (rows:List (List IV)) (h:rows.length<=maxLen) (hr:∀r ∈ rows,df mj r):Fit .ex (.sl 7 rows)
inductive df:List Sh->List IV->Prop
 |nil:df [] []
 |cons {s:Sh} {ss:List Sh} {x:IV} {xs:List IV} (h:Fit s x) (hs:df ss xs):df (s::ss) (x::xs)
end
theorem df.append:∀{ss ts:List Sh} {xs ys:List IV},df ss xs->df ts ys->df (ss++ts) (xs++ys)
 |[],_,[],_,_,h=>h
 |_::_,_,_::_,_,.cons h hs,h'=>.cons h (df.append hs h')
def tU (P:Program) (r:TypeId->List Sh->Bool):Nat->List Field->List Sh->Bool
 |_,[],ss=>ss.isEmpty
 |off,f::fs,ss=>f.offset==off&&Nat.ble (P.cellsOf f.type) ss.length&&r f.type (ss.take (P.cellsOf f.type))&&tU P r (off+P.cellsOf f.type) fs (ss.drop (P.cellsOf f.type))
def wU (r:List Sh->Bool) (c:Nat):Nat->List Sh->Bool
 |0,ss=>ss.isEmpty
 |n+1,ss=>Nat.ble c ss.length&&r (ss.take c)&&wU r c n (ss.drop c)
def wV (P:Program) (eT:TypeId):Nat->TypeId->List Sh->Bool
 |0,_,_=>false
 |d+1,t,ss=>match P.underlying t with
  |some .bool=>(match ss with | [.bool]=>true | _=>false)
  |some (.int k)=>(match ss with | [.int k']=>k==k' | _=>false)
  |some .string=>(match ss with | [.str]=>true | _=>false)
  |some (.slice e)=>(match ss with | [.sl es]=>P.cellsOf e==es.length&&Nat.blt 0 es.length&&wV P eT d e es | [.ex]=>e==eT | _=>false)
  |some (.struct fs)=>P.cellsOf t==ss.length&&tU P (wV P eT d) 0 fs.toList ss
  |some (.array n e)=>P.cellsOf t==ss.length&&wU (wV P eT d e) (P.cellsOf e) n ss
  |_=>false
section
variable {H:Type} {enc:TypeId×Value->H} {P:Program} {w:World} {base:Nat} {spare:Nat->Bool} {held:Bool} {ν:Nat->Nat}
def Old (w:World) (b:Nat):Prop:=b<w.heap.size
def Reads (ν:Nat->Nat) (w:World) (ss:List Sh) (cs:List Value) (xs:List IV):Prop:=
 xs.length=cs.length/\df ss xs/\∀(j:Nat) (v:Value) (x:IV),cs[j]?=some v->xs[j]?=some x->RI ν (Old w) w v x
theorem Reads.one {s:Sh} {v:Value} {x:IV} (h:Fit s x) (hr:RI ν (Old w) w v x):Reads ν w [s] [v] [x]:=
 ⟨rfl,.cons h .nil,λj v' x' h1 h2=>by cases j with | zero=>simp at h1 h2;subst h1 h2;exact hr | succ j=>simp at h1⟩
theorem Reads.append {ss ts:List Sh} {cs ds:List Value} {xs ys:List IV} (h:Reads ν w ss cs xs) (h':Reads ν w ts ds ys):Reads ν w (ss++ts) (cs++ds) (xs++ys):=by
 refine⟨by simp[h.1,h'.1],h.2.1.append h'.2.1,λj v x h1 h2=>?_⟩;by_cases hj:j<cs.length
 ·rw[List.getElem?_append_left hj]at h1;rw[List.getElem?_append_left (by rw[h.1];exact hj)]at h2;exact h.2.2 j v x h1 h2
 ·rw[List.getElem?_append_right (by omega)]at h1;rw[List.getElem?_append_right (by rw[h.1];omega),h.1]at h2;exact h'.2.2 _ v x h1 h2
def BZ (eT:TypeId) (ν:Nat->Nat) (enc:TypeId×Value->H) (P:Program) (w:World) (base:Nat) (spare:Nat->Bool) (held:Bool) (d n:Nat):Prop:=
 ∀(t:TypeId) (ss:List Sh) (cs:List Value) (x:DataW H×List MemPlace),wV P eT d t ss=true->DataW.trod enc P w base spare held n t cs=some x->∃xs,Reads ν w ss cs xs
theorem yo {eT:TypeId} {d n:Nat} (ih:BZ eT ν enc P w base spare held d n) {all:List Value}:∀(fs:List Field) (off:Nat) (ss:List Sh) (cs:List Value),tU P (wV P eT d) off fs ss=true->cs=all.drop off->cs.length=ss.length->
  (∀f ∈ fs,∃y,DataW.trod enc P w base spare held n f.type ((all.drop f.offset).take (P.cellsOf f.type))=some y)->∃xs,Reads ν w ss cs xs
 |[],off,ss,cs,h,fI,hl,_=>by
  simp only[tU,List.isEmpty_iff]at h;subst h;have:cs=[]:=List.eq_nil_of_length_eq_zero (by simpa using hl);subst this;exact⟨[],rfl,.nil,λj v x h=>by simp at h⟩
 |f::fs,off,ss,cs,h,fI,hl,hf=>by
  simp only[tU,Bool.and_eq_true,beq_iff_eq,Nat.ble_eq]at h;obtain⟨⟨⟨h1,h2⟩,h3⟩,h4⟩:=h;obtain⟨y,hy⟩:=hf f (List.mem_cons_self ..);rw[h1,<-fI]at hy;obtain⟨xs,hx⟩:=ih _ _ _ _ h3 hy;obtain⟨ys,hy⟩:=yo ih (all:=all) fs _ _ (cs.drop (P.cellsOf f.type)) h4 (by rw[fI,List.drop_drop]) (by simp[hl]) λg hg=>hf g (List.mem_cons_of_mem _ hg)
  refine⟨xs++ys,?_⟩;have:=hx.append hy
  rwa [List.take_append_drop,List.take_append_drop]at this
theorem AH {eT:TypeId} {d n:Nat} (ih:BZ eT ν enc P w base spare held d n) {e:TypeId} {all:List Value}:∀(m i:Nat) (ss:List Sh) (cs:List Value),wU (wV P eT d e) (P.cellsOf e) m ss=true->cs=all.drop (i*P.cellsOf e)->cs.length=ss.length->
  (∀j,i<=j->j<i+m->∃y,DataW.trod enc P w base spare held n e ((all.drop (j*P.cellsOf e)).take (P.cellsOf e))=some y)->∃xs,Reads ν w ss cs xs
 |0,i,ss,cs,h,fI,hl,_=>by
  simp only[wU,List.isEmpty_iff]at h;subst h;have:cs=[]:=List.eq_nil_of_length_eq_zero (by simpa using hl);subst this;exact⟨[],rfl,.nil,λj v x h=>by simp at h⟩
 |m+1,i,ss,cs,h,fI,hl,hf=>by
  simp only[wU,Bool.and_eq_true,Nat.ble_eq]at h;obtain⟨⟨h2,h3⟩,h4⟩:=h;obtain⟨y,hy⟩:=hf i (Nat.le_refl _) (by omega);rw[<-fI]at hy;obtain⟨xs,hx⟩:=ih _ _ _ _ h3 hy;obtain⟨ys,hy⟩:=AH ih (all:=all) m (i+1) _ (cs.drop (P.cellsOf e)) h4 (by rw[fI,List.drop_drop,Nat.add_mul,Nat.one_mul]) (by simp[hl]) λj hj wm=>hf j (by omega) (by omega)
  refine⟨xs++ys,?_⟩;have:=hx.append hy
  rwa [List.take_append_drop,List.take_append_drop]at this
theorem AI {n:Nat} {t e:TypeId} {es:List Sh} {cs:List Value} {x:DataW H×List MemPlace} (hu:P.underlying t=some (.slice e)) (hc:P.cellsOf e=es.length) (uJ:0<es.length)
  (eK:∀m,m<n->∀(ci:List Value) (y:DataW H×List MemPlace),DataW.trod enc P w base spare held m e ci=some y->∃xs,Reads ν w es ci xs) (hx:DataW.trod enc P w base spare held n t cs=some x) :
  ∃(v:Value) (rows:List (List IV)),cs=[v]/\rows.length<=maxLen/\(∀r ∈ rows,df es r)/\RI ν (Old w) w v (.sl es.length rows):=by
 rcases DataW.trod_slice hu hx with⟨rfl,_⟩|⟨a,len,cap,elems,rest,m,PT,rfl,_,hb,hl,hm,fp,ez,_,_⟩
 ·exact⟨_,[],rfl,by simp,λr h=>(by simp at h),.jg _ _ _⟩
 ·by_cases h0:len=0
  ·subst h0;exact⟨_,[],rfl,by simp,λr h=>(by simp at h),.jg _ _ _⟩
  ·have each:∀i,i<len->∃(ci:List Value) (xi:List IV),w.cells? base (a.add (i*es.length)) es.length=some ci/\Reads ν w es ci xi:=by
    intro i hi;have:=ez i hi;rw[hc,List.getElem?_eq_getElem (by omega),Option.bind_eq_some_iff]at this;obtain⟨ci,h1,h2⟩:=this;obtain⟨xi,h3⟩:=eK m (by omega) ci _ h2;exact⟨ci,xi,h1,h3⟩
   have hex:∀i,∃p:List Value×List IV,i<len->w.cells? base (a.add (i*es.length)) es.length=some p.1/\Reads ν w es p.1 p.2:=λi=>by
    by_cases hi:i<len
    ·obtain⟨ci,xi,h1,h2⟩:=each i hi;exact⟨(ci,xi),λ_=>⟨h1,h2⟩⟩
    ·exact⟨([],[]),λh=>absurd h hi⟩
   obtain⟨p,hp⟩:=Classical.axiomOfChoice hex;have mH:∀i j,i<len->j<es.length->w.cell? (a.add (i*es.length+j))=(p i).1[j]?:=λi j hi hj=>by
    have:=(World.cells?_some (hp i hi).1).2.2 j hj
    rwa [show(a.add (i*es.length)).add j=a.add (i*es.length+j) by simp only[Addr.add];by_cases h1:i*es.length=0<;>by_cases h2:j=0<;>simp[h1,h2,Nat.add_assoc]]at this
   have hlen:∀i,i<len->(p i).1.length=es.length:=λi hi=>(World.cells?_some (hp i hi).1).2.1
   have h00:∃v,w.cell? (a.add 0)=some v:=by
    have:=mH 0 0 (by omega) uJ;simp only[Nat.zero_mul,Nat.add_zero]at this;exact⟨(p 0).1[0]'(by rw[hlen 0 (by omega)];exact uJ),by rw[this];exact List.getElem?_eq_getElem _⟩
   obtain⟨v0,LX⟩:=h00;obtain⟨b,off,spot⟩:=a;have WJ:spot=none:=by simpa[Addr.add]using World.cell?_spot LX
   subst WJ;have hblk:b<w.heap.size:=by
    rcases Nat.lt_or_ge b w.heap.size with h | h
    ·exact h
    ·simp[Addr.add,World.cell?,Array.getElem?_eq_none h]at LX
   refine⟨_,(List.range len).map λi=>(p i).2,rfl,by simp;omega,λr hr=>?_,
    .sl b off len cap es.length _ (λi j=>((p i).1[j]?).getD undef) hblk (by simp) hl (λc hc=>?_) (λi j c x h1 h2=>?_) λi j c x h1 h2=>?_⟩
   ·simp only[List.mem_map,List.mem_range]at hr;obtain⟨i,hi,rfl⟩:=hr;exact(hp i hi).2.2.1
   ·simp only[List.mem_map,List.mem_range]at hc;obtain⟨i,hi,rfl⟩:=hc;rw[(hp i hi).2.1,hlen i hi]
   ·simp only[List.getElem?_map,Option.map_eq_some_iff]at h1;obtain⟨i',cK,rfl⟩:=h1;have hi:=bg cK;simp only[List.length_range]at hi;rw[List.getElem?_range hi,Option.some.injEq]at cK;subst cK;have hj:j<es.length:=by have:=bg h2;rwa [(hp i hi).2.1,hlen i hi]at this
    have:=mH i j hi hj;rw[Addr.add_lit]at this;rw[show off+i*es.length+j=off+(i*es.length+j) by omega,this,List.getElem?_eq_getElem (by rw[hlen i hi];exact hj)];rfl
   ·simp only[List.getElem?_map,Option.map_eq_some_iff]at h1;obtain⟨i',cK,rfl⟩:=h1;have hi:=bg cK;simp only[List.length_range]at hi;rw[List.getElem?_range hi,Option.some.injEq]at cK;subst cK;have hj:j<(p i).1.length:=by have:=bg h2;rwa [(hp i hi).2.1]at this
    refine(hp i hi).2.2.2 j _ x ?_ h2;rw[List.getElem?_eq_getElem hj];rfl
theorem NM {eT:TypeId} (hE:wV P eT 9 eT mj=true) (TA:P.cellsOf eT=mj.length):∀(n d:Nat),BZ eT ν enc P w base spare held d n:=by
 intro n
 induction n using Nat.strongRecOn with
 |_ n ih=>
  intro d t ss cs x h hx;obtain⟨d,rfl⟩:∃d',d=d'+1:=by
   cases d with
   |zero=>simp[wV]at h
   |succ d=>exact⟨d,rfl⟩
  unfold wV at h;split at h
  ·rename_i hu;split at h
   ·obtain⟨b,rfl,_⟩:=DataW.trod_bool hu hx;exact⟨_,Reads.one (.bool b) (.bool b)⟩
   ·cases h
  ·rename_i k hu;split at h
   ·rename_i k';have:=beq_iff_eq.1 h;subst this;obtain⟨m,rfl,_,hw⟩:=DataW.trod_int hu hx;exact⟨_,Reads.one (.int _ m hw) (.int _ _)⟩
   ·cases h
  ·rename_i hu;split at h
   ·obtain⟨s,rfl,_,hw⟩:=DataW.trod_string hu hx;exact⟨_,Reads.one (.str s hw) (.str s)⟩
   ·cases h
  ·rename_i e hu;split at h
   ·rename_i es;simp only[Bool.and_eq_true,beq_iff_eq,Nat.blt_eq]at h;obtain⟨⟨hc,uJ⟩,TB⟩:=h;obtain⟨v,rows,rfl,h1,h2,h3⟩:=AI hu hc uJ (λm hm ci y hy=>ih m hm d e es ci y TB hy) hx;exact⟨_,Reads.one (.sl es rows h1 h2) h3⟩
   ·have:=beq_iff_eq.1 h;subst this;obtain⟨v,rows,rfl,h1,h2,h3⟩:=AI (es:=mj) hu TA (by decide) (λm hm ci y hy=>ih m hm 9 _ mj ci y hE hy) hx;exact⟨_,Reads.one (.ex rows h1 h2) h3⟩
   ·cases h
  ·rename_i fs hu;simp only[Bool.and_eq_true,beq_iff_eq]at h;obtain⟨xs,m,PT,_,hlen,rT,ez⟩:=DataW.trod_struct hu hx;refine yo (ih m (by omega) d) (all:=cs) fs.toList 0 ss cs h.2 rfl (by rw[hlen,h.1]) λf hf=>?_
   obtain⟨i,hi⟩:=List.getElem?_of_mem hf;have:=ez i f (by simpa using hi);have bC:i<xs.length:=by have:=bg hi;simp at this;omega
   rw[List.getElem?_eq_getElem bC]at this;exact⟨_,this⟩
  ·rename_i q e hu;simp only[Bool.and_eq_true,beq_iff_eq]at h;obtain⟨xs,m,PT,_,hlen,rT,ez⟩:=DataW.trod_array hu hx;refine AH (ih m (by omega) d) (all:=cs) q 0 ss cs h.2 (by simp) (by rw[hlen,h.1]) λj _ hj=>?_
   have:=ez j (by omega);rw[List.getElem?_eq_getElem (by omega)]at this;exact⟨_,this⟩
  ·cases h
def xV (agg:Bool) (ss:List Sh) (x:AV):Prop:=∃xs,df ss xs/\(if agg then x = .agg (xs.map .iv) else ∃y,xs=[y]/\x = .iv y)
def TC (P:Program) (eT t:TypeId) (agg:Bool) (ss:List Sh):Bool:=wV P eT 9 eT mj&&P.cellsOf eT==mj.length&&wV P eT 9 t ss&&(match P.underlying t with | some d=>lA d==agg | none=>false)
theorem zl {r:Reach} {b0:Nat} {eT t:TypeId} {agg:Bool} {ss:List Sh} (ht:TC P eT t agg ss=true) {v:Value} (mi:Value.okWide P w r b0 t v) {d:DataW H} {ps:List MemPlace} (h:DataW.Trod enc P w base spare held t v d ps)
  {g:Gh} (hI:g.I=Old w) (hw:g.w=w):∃x,xV agg ss x/\RA ν g v x:=by
 obtain⟨n,hn⟩:=h;simp only[TC,Bool.and_eq_true,beq_iff_eq]at ht;obtain⟨⟨⟨hE,TA⟩,TB⟩,gv⟩:=ht;obtain⟨xs,hx⟩:=NM (ν:=ν) hE TA n 9 t ss _ _ TB hn;unfold Value.okWide at mi;split at gv
 ·rename_i dd hu;rw[beq_iff_eq]at gv;subst gv;have iu:lA dd=true->∃cs,v = .agg cs:=by
   intro h;rw[hu]at mi;cases dd<;>simp[lA]at h<;>(obtain⟨cs,rfl,_⟩:=mi;exact⟨cs,rfl⟩)
  cases hd:lA dd with
  |true=>
   obtain⟨cs,rfl⟩:=iu hd;refine⟨.agg (xs.map .iv),⟨xs,hx.2.1,by simp⟩,.agg (by have:=hx.1;simp[Value.cells]at this;simp[this]) (λj v hv=>?_) λj v c hv hc=>?_⟩
   ·have hj:j<xs.length:=by have:=(Array.getElem?_eq_some_iff.1 hv).1;have h2:=hx.1;simp[Value.cells]at h2;omega
    exact(hx.2.2 j v _ (by simpa[Value.cells]using hv) (List.getElem?_eq_getElem hj)).one
   ·simp only[List.getElem?_map,Option.map_eq_some_iff]at hc;obtain⟨y,hy,rfl⟩:=hc;refine .iv ?_;rw[hI,hw];exact hx.2.2 j v y (by simpa[Value.cells]using hv) hy
  |false=>
   have h1:v.cells.toList.length=1\/True:=.inr trivial;clear h1;have da:∃c,v.cells.toList=[c]/\c=v:=by
    cases v<;>first | exact⟨_,rfl,rfl⟩|skip
    ·rename_i cs;exfalso;rw[hu]at mi;cases dd<;>simp[lA]at hd<;>simp[Cell.okWide,Cell.ok]at mi
   obtain⟨c,hc,rfl⟩:=da;rw[hc]at hx;have rT:=hx.1
   match xs,rT with
   |[y],_=>
    refine⟨.iv y,⟨[y],hx.2.1,by simp⟩,.iv ?_⟩;rw[hI,hw];exact hx.2.2 0 c y rfl rfl
 ·cases gv
end
end ay
namespace ao
open Go Go.RowKit Go.WideShapes
inductive Sh where
 |bool
 |int (k:IntKind)
 |str
 |sl (es:List Sh)
 deriving Inhabited
mutual
def Fits:Sh->IV->Prop
 |.bool,x=>∃b,x = .bool b
 |.int k,x=>∃n,x = .int k n/\(Lit.int k n).wf=true
 |.str,x=>∃s,x = .str s/\s.size<=maxLen
 |.sl es,x=>∃rows,x = .sl es.length rows/\rows.length<=maxLen/\∀r ∈ rows,jH es r
def jH:List Sh->List IV->Prop
 |[],[]=>True
 |s::ss,x::xs=>Fits s x/\jH ss xs
 |_,_=>False
end
theorem jH.append:∀{ss ts:List Sh} {xs ys:List IV},jH ss xs->jH ts ys->jH (ss++ts) (xs++ys)
 |[],_,[],_,_,h=>h
 |_::_,_,_::_,_,h,h'=>⟨h.1,jH.append h.2 h'⟩
 |[],_,_::_,_,h,_=>h.elim
 |_::_,_,[],_,h,_=>h.elim
section
variable {H:Type} {enc:TypeId×Value->H} {P:Program} {w:World} {base:Nat} {spare:Nat->Bool} {held:Bool} {ν:Nat->Nat}
def Old (w:World) (b:Nat):Prop:=b<w.heap.size
def Reads (ν:Nat->Nat) (w:World) (ss:List Sh) (cs:List Value) (xs:List IV):Prop:=
 xs.length=cs.length/\jH ss xs/\∀(j:Nat) (v:Value) (x:IV),cs[j]?=some v->xs[j]?=some x->RI ν (Old w) w v x
theorem Reads.one {s:Sh} {v:Value} {x:IV} (h:Fits s x) (hr:RI ν (Old w) w v x):Reads ν w [s] [v] [x]:=
 ⟨rfl,⟨h,trivial⟩,λj v' x' h1 h2=>by cases j with | zero=>simp at h1 h2;subst h1 h2;exact hr | succ j=>simp at h1⟩
theorem Reads.append {ss ts:List Sh} {cs ds:List Value} {xs ys:List IV} (h:Reads ν w ss cs xs) (h':Reads ν w ts ds ys):Reads ν w (ss++ts) (cs++ds) (xs++ys):=by
 refine⟨by simp[h.1,h'.1],h.2.1.append h'.2.1,λj v x h1 h2=>?_⟩;by_cases hj:j<cs.length
 ·rw[List.getElem?_append_left hj]at h1;rw[List.getElem?_append_left (by rw[h.1];exact hj)]at h2;exact h.2.2 j v x h1 h2
 ·rw[List.getElem?_append_right (by omega)]at h1;rw[List.getElem?_append_right (by rw[h.1];omega),h.1]at h2;exact h'.2.2 _ v x h1 h2
end
end ao
namespace ao
open Go Go.RowKit
section
variable {ν:Nat->Nat} {P:Program}
def sK (P:Program) (ν:Nat->Nat) (f:Nat) (ir:aA):Prop:=∃fn c,P.funcs[ν f]?=some fn/\fn.body=some c/\(fn.name=="runtime.NumGoroutine")=false/\yh P ν fn c ir=true/\tO P ν f ir
theorem B0:oT P ν (get []):=λf ir h=>by simp[get]at h
theorem ph {f:Nat} {ir:aA} {L:List (Nat×aA)} (h:sK P ν f ir) (hL:oT P ν (get L)):oT P ν (get ((f,ir)::L)):=by
 intro f' LY hg;simp only[get]at hg;split at hg
 ·rename_i h0;subst h0;simp only[Option.some.injEq]at hg;subst hg;exact h
 ·exact hL f' LY hg
def TD (ir:aA):Bool:=match ir.cl with | none=>true | some p=>Nat.blt p.1 1000000
theorem TE {f:Nat} {ir:aA} (h:TD ir=true):tO P ν f ir:=by
 unfold TD at h;unfold tO;split
 ·trivial
 ·rename_i p hp;rw[hp]at h;exact .inl h
def NN (P:Program) (ν:Nat->Nat) (fn:Func) (ir:aA):Bool:=(match fn.body with | some c=>yh P ν fn c ir | none=>false)&&!(fn.name=="runtime.NumGoroutine")
def zm (P:Program) (ν:Nat->Nat) (fn:Func) (ir:aA):Bool:=NN P ν fn ir&&TD ir
theorem zn {f k:Nat} {ir:aA} {fn:Func} (hk:P.funcs[k]?=some fn) (Fe:ν f=k) (h:NN P ν fn ir=true) (hs:tO P ν f ir):sK P ν f ir:=by
 simp only[NN,Bool.and_eq_true,Bool.not_eq_true']at h;obtain⟨h1,h2⟩:=h;split at h1
 ·rename_i c hc;exact⟨fn,c,by rw[Fe];exact hk,hc,h2,h1,hs⟩
 ·cases h1
theorem Ff {f k:Nat} {ir:aA} {fn:Func} (hk:P.funcs[k]?=some fn) (Fe:ν f=k) (h:zm P ν fn ir=true):sK P ν f ir:=by
 simp only[zm,Bool.and_eq_true]at h;exact zn hk Fe h.1 (TE h.2)
end
structure JI (w w':World) (b e:Nat) (rows:List (List Value)):Prop where
 size:w.heap.size<=w'.heap.size
 os:w'.os=w.os
 tape:w'.tape=w.tape
 output:w'.output=w.output
 bu:∀x,x<w.heap.size->x≠b->w'.heap[x]?=w.heap[x]?
 cell:∀(i j:Nat) (r:List Value) (v:Value),rows[i]?=some r->r[j]?=some v->w'.cell? ⟨b,i*e+j,none⟩=some v
 some:∀o,(w.cell? ⟨b,o,none⟩).isSome=true->(w'.cell? ⟨b,o,none⟩).isSome=true
 soft:∀o,w'.frozen? ⟨b,o,none⟩=w.frozen? ⟨b,o,none⟩
def vR (p:Int×Int):List Value:=[.int .i64 p.1,.int .i64 p.2]
def vT (s:ByteArray):List Value:=[.string s]
def Fg (P:Program) (kf kc:Nat):Prop:=
 ∀(b cap:Nat) (l:List (Int×Int)) (w:World),(∀(i j:Nat) (p:Int×Int) (v:Value),l[i]?=some p->(vR p)[j]?=some v->w.cell? ⟨b,i*2+j,none⟩=some v)->(∀o,w.frozen? ⟨b,o,none⟩=false)->b<w.heap.size->12<l.length->
  l.length<=1073741824->Calls P kf #[.slice (some ⟨b,0,none⟩) l.length cap,.func (.func kc) #[] #[]] w λe w'=>e = .returned (.tuple #[])/\JI w w' b 2 ((pD l).map vR)
def Fh (P:Program) (kf:Nat):Prop:=
 ∀(b cap:Nat) (l:List ByteArray) (w:World),(∀(i j:Nat) (p:ByteArray) (v:Value),l[i]?=some p->(vT p)[j]?=some v->w.cell? ⟨b,i*1+j,none⟩=some v)->(∀o,w.frozen? ⟨b,o,none⟩=false)->b<w.heap.size->12<l.length->
  l.length<=1073741824->Calls P kf #[.slice (some ⟨b,0,none⟩) l.length cap] w λe w'=>e = .returned (.tuple #[])/\JI w w' b 1 ((nY l).map vT)
theorem PU:Sort.SWO nm where
 irrefl x:=by unfold nm;simp
 trans x y z h1 h2:=by unfold nm at *;simp at *;omega
 ntrans x y z h1 h2:=by unfold nm at *;simp at *;omega
theorem wW (l:List (Int×Int)):(pD l).Perm l/\(pD l).Pairwise λa b=>nm b a=false:=by
 have h:=Sort.pdq_sorts nm PU l.toArray 0 l.length (Lib.bitLen l.length) true true (Nat.zero_le _) (by simp) (Or.inl rfl);unfold pD;generalize Sort.pdq nm l.toArray 0 l.length (Lib.bitLen l.length) true true=d at h ⊢;obtain⟨⟨h1, -,h3⟩,h2⟩:=h;simp only[List.size_toArray]at h1;have e1:d.extract 0 l.length=d:=by rw[<-h1];simp
 have e2:l.toArray.extract 0 l.length=l.toArray:=by simp
 rw[e1,e2]at h3;refine⟨by simpa using h3,?_⟩;rw[List.pairwise_iff_getElem];intro i j hi hj Hx;have cK:i<d.size:=by simpa using hi
 have wm:j<d.size:=by simpa using hj
 have:=h2 i j (Nat.zero_le _) Hx (by omega);rw[getElem!_pos d i cK,getElem!_pos d j wm]at this;simpa using this
theorem wX (l:List (Int×Int)):(pD l).length=l.length:=(wW l).1.length_eq
theorem AJ (l:List ByteArray):(nY l).Perm l:=by
 unfold nY;have h:=(List.mergeSort_perm (l.map (·.data.toList)) λx y=>decide (x<=y)).map λb=>(⟨b.toArray⟩:ByteArray)
 have e:(l.map (·.data.toList)).map (λb=>(⟨b.toArray⟩:ByteArray))=l:=by
  rw[List.map_map]
  conv=>rhs;rw[<-List.map_id l]
  exact List.map_congr_left λx _=>by simp
 rw[e]at h;exact h
theorem wY (l:List ByteArray):(nY l).length=l.length:=(AJ l).length_eq
theorem tj {α β:Type} {f:α->Option β} {u:β->α} (hu:∀x y,f x=some y->x=u y):∀{l:List α} {r:List β},lF f l=some r->l=r.map u
 |[],r,h=>by simp only[lF,Option.some.injEq]at h;subst h;rfl
 |x::l,r,h=>by
  simp only[lF]at h;split at h
  ·rename_i y r' h1 h2;simp only[Option.some.injEq]at h;subst h;rw[List.map_cons,<-hu _ _ h1,<-tj hu h2]
  ·cases h
theorem QV {x:List IV} {y:Int×Int} (h:DE x=some y):x=zS y:=by
 unfold DE at h;split at h
 ·simp only[Option.some.injEq]at h;subst h;rfl
 ·cases h
theorem QW {x:List IV} {y:ByteArray} (h:DF x=some y):x=zT y:=by
 unfold DF at h;split at h
 ·simp only[Option.some.injEq]at h;subst h;rfl
 ·cases h
section
variable {ν:Nat->Nat} {P:Program}
theorem CE {k:Cx} {g:Gh} (r:Rel ν k g) {id v e b:Nat} {es es':List (List IV)} {vs:List (List Value)} {w':World} (hg:get g.h id=some (.buf v e es)) (aB:g.φ id=some b) (hl:es'.length=es.length) (hc:∀c ∈ es',c.length=e)
  (hw:JI g.w w' b e vs) (hv:∀(i j:Nat) (c:List IV) (x:IV),es'[i]?=some c->c[j]?=some x->∃rr u,vs[i]?=some rr/\rr[j]?=some u/\∀I w,RI ν I w u x) :
  Rel ν k ⟨g.I,cG g.φ id (g.φ id),w',set g.h id (.buf v e es')⟩/\bY ν g ⟨g.I,cG g.φ id (g.φ id),w',set g.h id (.buf v e es')⟩:=by
 rcases r.ob id _ hg with⟨h1,_⟩|⟨b',h1,eU,dP,aH⟩
 ·rw[aB]at h1;cases h1
 rw[aB]at h1;cases h1;refine r.nq (ob:=.buf v e es') (p:=g.φ id) (w':=w') (I':=g.I) hg (λx hx=>by rw[aB]at hx;cases hx;exact eU) hw.size hw.os hw.tape hw.output (λx hx cA=>hw.bu x hx λe=>cA (by rw[e];exact aB)) (λ_ h=>h) (λ_ h=>.inl h) (.inl rfl)
  (λu o n aC h=>?_) (λu aC i j h=>?_) λeD hm=>.inr ⟨b,(aU _ _ _).trans aB,eU,⟨Nat.lt_of_lt_of_le dP.1 hw.size,λo=>by rw[hw.soft];exact dP.2 o⟩,hc,λi j c x h1 h2=>?_⟩
 ·unfold br at h ⊢;rw[hg]at h;simp only[ar,aU]at h ⊢;refine⟨h.1,λgy=>?_⟩;have:=h.2 gy;rw[aB]at this ⊢;obtain⟨x,cap,q1,q2,q3,q4,q5⟩:=this;exact⟨x,cap,q1,by rw[hl];exact q2,q3,q4,λhx c hc=>hw.some _ (q5 hx c hc)⟩
 ·unfold bA at h ⊢;rw[hg]at h;simp only[ar,aU]at h ⊢;exact h
 ·obtain⟨rr,u,q1,q2,q3⟩:=hv i j c x h1 h2;exact⟨u,hw.cell i j rr u q1 q2,q3 _ _⟩
theorem WK {p:Int×Int} {j:Nat} {x:IV} (h:(zS p)[j]?=some x):∃u,(vR p)[j]?=some u/\∀I w,RI ν I w u x:=by
 match j with
 |0=>cases h;exact⟨_,rfl,λ_ _=>.int _ _⟩
 |1=>cases h;exact⟨_,rfl,λ_ _=>.int _ _⟩
 |_+2=>simp[zS]at h
theorem WL {p:ByteArray} {j:Nat} {x:IV} (h:(zT p)[j]?=some x):∃u,(vT p)[j]?=some u/\∀I w,RI ν I w u x:=by
 match j with
 |0=>cases h;exact⟨_,rfl,λ_ _=>.str _⟩
 |_+1=>simp[zT]at h
theorem WM {p:Int×Int} {j:Nat} {v:Value} (h:(vR p)[j]?=some v):∃x,(zS p)[j]?=some x/\∀I w u,RI ν I w u x->u=v:=by
 match j with
 |0=>cases h;exact⟨_,rfl,λ_ _ _ h=>by cases h;rfl⟩
 |1=>cases h;exact⟨_,rfl,λ_ _ _ h=>by cases h;rfl⟩
 |_+2=>simp[vR]at h
theorem WN {p:ByteArray} {j:Nat} {v:Value} (h:(vT p)[j]?=some v):∃x,(zT p)[j]?=some x/\∀I w u,RI ν I w u x->u=v:=by
 match j with
 |0=>cases h;exact⟨_,rfl,λ_ _ _ h=>by cases h;rfl⟩
 |_+1=>simp[vT]at h
theorem CF {k:Cx} {g:Gh} (r:Rel ν k g) {id n aC e:Nat} {es:List (List IV)} (hg:get g.h id=some (.buf aC e es)) (hn:many n es.length=true) {u:Value} (hv:RA ν g u (.own id 0 n aC)) :
  ∃b cap,u = .slice (some ⟨b,0,none⟩) es.length cap/\g.φ id=some b/\¬g.I b/\yO g.w b/\Row ν g.I g.w b e es/\12<es.length/\es.length<=1073741824:=by
 simp only[many,Bool.and_eq_true,beq_iff_eq,roomy]at hn;obtain⟨⟨rfl,qd⟩,uR⟩:=hn;have TF:12<es.length:=by simpa using qd
 cases hv with
 |own h1 ho=>
  unfold br at ho;rw[hg]at ho;have hs:=ho.2 rfl;rcases r.ob id _ hg with⟨_,h2⟩|⟨b,nO,eU,dP,aH⟩
  ·subst h2;simp at TF
  ·rw[nO]at hs;obtain⟨x,cap,rfl,q2,q3,q4,q5⟩:=hs;have hx:x=0:=by
    rcases q4 with h | h
    ·simpa using h
    ·omega
   subst hx;exact⟨b,cap,rfl,nO,eU,dP,aH,TF,by simpa using uR⟩
theorem NO {f c:Nat} (H:Fg P (ν f) (ν c)):∀args hp r dG,k7 (2000000+c) args hp=some (r,dG)->mU ν P f args hp r dG:=by
 intro args hp r dG e k0 g0 bP hh SU LD r0 gM;unfold k7 at e;split at e
 ·split at e
  ·split at e
   ·rename_i hq;simp only[Bool.and_eq_true,beq_iff_eq]at hq;omega
   ·cases e
  ·cases e
 ·rename_i id n aC c';split at e
  case h_2=>cases e
  rename_i v e' es TG;split at e
  case isFalse=>cases e
  rename_i hq;simp only[Bool.and_eq_true,beq_iff_eq]at hq;obtain⟨⟨⟨dm,rfl⟩,rfl⟩,JJ⟩:=hq;obtain rfl:c=c':=by omega
  split at e
  case h_2=>cases e
  rename_i l hl;simp only[Option.some.injEq,Prod.mk.injEq]at e;obtain⟨rfl,rfl⟩:=e;obtain rfl:=tj (u:=zS) (λ_ _=>QV) hl;obtain⟨cu,fv,TH⟩:∃a b,bP=#[a,b]:=by
   have:=gM.1;simp only[List.length_cons,List.length_nil,Nat.zero_add,Array.length_toList]at this;obtain⟨l⟩:=bP
   match l,this with
   |[a,b],_=>exact⟨a,b,rfl⟩
  subst TH;have h0:RA ν g0 cu (.own id 0 n v):=gM.2 0 _ _ rfl rfl;have h1:RA ν g0 fv (.iv (.fn c [])):=gM.2 1 _ _ rfl rfl;have tI:get g0.h id=some (.buf v 2 (l.map zS)):=by rw[hh];exact TG
  obtain⟨b,cap,rfl,aB,eU,dP,aH,qd,uR⟩:=CF r0 tI JJ h0;simp only[List.length_map]at qd uR;have wy:fv = .func (.func (ν c)) #[] #[]:=by
   cases h1 with
   |iv h=>
    cases h with
    |fn f caps cs hn hr=>
     have:caps=#[]:=Array.eq_empty_of_size_eq_zero (by simpa using hn);rw[this]
  subst wy;have iu:∀(i j:Nat) (p:Int×Int) (v:Value),l[i]?=some p->(vR p)[j]?=some v->g0.w.cell? ⟨b,i*2+j,none⟩=some v:=by
   intro i j p u h1 h2;obtain⟨x,hx,TI⟩:=WM (ν:=ν) h2;obtain⟨u',jW,hr⟩:=aH.2 i j (zS p) x (by simp[h1]) hx;rw[<-TI _ _ _ hr];exact jW
  have iN:=H b cap l g0.w iu dP.2 dP.1 qd uR;rw[List.length_map];refine iN.mono ?_;rintro en w' ⟨rfl,hw⟩;have Fi:=CE (es':=(pD l).map zS) r0 tI aB (by simp[wX]) (λc hc=>by
   obtain⟨p, -,rfl⟩:=List.mem_map.1 hc;rfl) hw (λi j c x h1 h2=>by
   simp only[List.getElem?_map,Option.map_eq_some_iff]at h1;obtain⟨p,hp,rfl⟩:=h1;obtain⟨u,hu,hr⟩:=WK (ν:=ν) h2;exact⟨vR p,u,by simp[hp],hu,hr⟩)
  refine⟨_,_,rfl,rfl,by rw[<-hh],Fi.1,Fi.2.low,.bD rfl λj v c h=>by simp at h⟩
 ·cases e
theorem NQ {f:Nat} (H:Fh P (ν f)):∀args hp r dG,k7 1000000 args hp=some (r,dG)->mU ν P f args hp r dG:=by
 intro args hp r dG e k0 g0 bP hh SU LD r0 gM;unfold k7 at e;split at e
 ·rename_i id n aC;split at e
  case h_2=>cases e
  rename_i v e' es TG;split at e
  case isFalse=>cases e
  rename_i hq;simp only[Bool.and_eq_true,beq_iff_eq]at hq;obtain⟨⟨⟨-,rfl⟩,rfl⟩,JJ⟩:=hq;split at e
  case h_2=>cases e
  rename_i l hl;simp only[Option.some.injEq,Prod.mk.injEq]at e;obtain⟨rfl,rfl⟩:=e;obtain rfl:=tj (u:=zT) (λ_ _=>QW) hl;obtain⟨cu,TH⟩:∃a,bP=#[a]:=by
   have:=gM.1;simp only[List.length_cons,List.length_nil,Nat.zero_add,Array.length_toList]at this;obtain⟨l⟩:=bP
   match l,this with
   |[a],_=>exact⟨a,rfl⟩
  subst TH;have h0:RA ν g0 cu (.own id 0 n v):=gM.2 0 _ _ rfl rfl;have tI:get g0.h id=some (.buf v 1 (l.map zT)):=by rw[hh];exact TG
  obtain⟨b,cap,rfl,aB,eU,dP,aH,qd,uR⟩:=CF r0 tI JJ h0;simp only[List.length_map]at qd uR;have iu:∀(i j:Nat) (p:ByteArray) (v:Value),l[i]?=some p->(vT p)[j]?=some v->g0.w.cell? ⟨b,i*1+j,none⟩=some v:=by
   intro i j p u h1 h2;obtain⟨x,hx,TI⟩:=WN (ν:=ν) h2;obtain⟨u',jW,hr⟩:=aH.2 i j (zT p) x (by simp[h1]) hx;rw[<-TI _ _ _ hr];exact jW
  have iN:=H b cap l g0.w iu dP.2 dP.1 qd uR;rw[List.length_map];refine iN.mono ?_;rintro en w' ⟨rfl,hw⟩;have Fi:=CE (es':=(nY l).map zT) r0 tI aB (by simp[wY]) (λc hc=>by
   obtain⟨p, -,rfl⟩:=List.mem_map.1 hc;rfl) hw (λi j c x h1 h2=>by
   simp only[List.getElem?_map,Option.map_eq_some_iff]at h1;obtain⟨p,hp,rfl⟩:=h1;obtain⟨u,hu,hr⟩:=WL (ν:=ν) h2;exact⟨vT p,u,by simp[hp],hu,hr⟩)
  refine⟨_,_,rfl,rfl,by rw[<-hh],Fi.1,Fi.2.low,.bD rfl λj v c h=>by simp at h⟩
 ·rename_i id n aC c';split at e
  case h_2=>cases e
  split at e
  ·rename_i hq;simp only[Bool.and_eq_true,beq_iff_eq]at hq;omega
  ·cases e
 ·cases e
end
end ao
namespace ao
open Go

structure S where
 a:Bool
 i:List (Int×Int)
 c:Bool
 s:List ByteArray
def bM (p:Int×Int):List IV:=[.int .i64 p.1,.int .i64 p.2]
def st1 (s:ByteArray):List IV:=[.str s]
def S.enc (x:S):List IV:=[.bool x.a,.sl 2 (x.i.map bM),.bool x.c,.sl 1 (x.s.map st1)]
def S.av (x:S):AV:=.agg [.iv (.bool x.a),.iv (.sl 2 (x.i.map bM)),.iv (.bool x.c),.iv (.sl 1 (x.s.map st1))]
structure B where
 s0:S
 s1:S
 s2:S
 s3:S
def B.enc (b:B):List IV:=b.s0.enc++(b.s1.enc++(b.s2.enc++b.s3.enc))
def aT (l:List B):AV:=.iv (.sl 16 (l.map B.enc))
def dk (l:List S):AV:=.iv (.sl 4 (l.map S.enc))
theorem kP (x y:ByteArray):(x==y)=decide (x=y):=by
 cases x with
 |mk d=>
  cases y with
  |mk e=>
   show(d==e)=_
   rw[Bool.eq_iff_iff];simp
theorem bw {k N:Nat} (h:k<N) (hN:N<=maxLen):IntKind.i64.wrap ((k:Int)+1)=(k:Int)+1:=IntWalk.i64_in _ (by unfold maxLen at hN;omega)
theorem gY {α:Type} {l:List α} {i:Nat} {x:α} {f:α->Bool} (hx:l[i]?=some x):(l.take (i+1)).all f=((l.take i).all f&&f x):=by
 rw[List.take_add_one,hx];simp
theorem all_false {α:Type} {l:List α} {i:Nat} {x:α} {f:α->Bool} (hx:l[i]?=some x) (h:f x=false):l.all f=false:=by
 rw[List.all_eq_false];exact⟨x,List.mem_of_getElem? hx,by simp[h]⟩
theorem cC (n0:Nat) (h:Hp) (x:IV):nrm n0 h 8 (.iv x) = .iv x:=rfl
theorem pj (n0:Nat) (h:Hp):∀l:List IV,(l.map AV.iv).map (nrm n0 h 8)=l.map .iv
 |[]=>rfl
 |x::r=>by rw[List.map_cons,List.map_cons,cC,pj n0 h r]
theorem Fj (n0:Nat) (h:Hp):∀l:List IV,(l.map AV.iv).map (nrm n0 h 7)=l.map .iv
 |[]=>rfl
 |x::r=>by rw[List.map_cons,List.map_cons,show nrm n0 h 7 (.iv x) = .iv x from rfl,Fj n0 h r]
theorem B1 (n0:Nat) (h:Hp) (l:List IV):nrm n0 h 8 (.agg (l.map .iv)) = .agg (l.map .iv):=by
 rw[show nrm n0 h 8 (.agg (l.map .iv)) = .agg ((l.map AV.iv).map (nrm n0 h 7)) from rfl,Fj]
theorem bQ {prog:Nat->Option aA} {aX:List Nat} {b:IC} {s:St} {Q:Ex->St->Prop} (N:Nat) (σ:Nat->St) (G:Nat->Prop) (h0:({ s with fr:=an aX s.fr }:St)=σ 0) (g0:G 0)
  (round:∀i,i<N->G i->Wp prog b (σ i) (Ex.then (λs2=>again aX s.nx s2=σ (i+1)/\G (i+1)) Q)) (stop:G N->Wp prog b (σ N) (Ex.then (λ_=>False) Q)):Wp prog (.loop aX b) s Q:=by
 refine b7 (λm s1=>∃i,i+m=N/\s1=σ i/\G i) (m:=N) ⟨0,by omega,h0,g0⟩ ?_;rintro m s1 ⟨i,hi,rfl,hg⟩;cases m with
 |zero=>
  obtain rfl:i=N:=by omega
  refine(stop hg).mono λe s2 h=>?_
  cases e with
  |norm=>exact h.elim
  |exit j=>exact h
  |ret=>exact h
 |succ m=>
  refine(round i (by omega) hg).mono λe s2 h=>?_
  cases e with
  |norm=>exact⟨m,by omega,i+1,by omega,h.1,h.2⟩
  |exit j=>exact h
  |ret=>exact h
end ao
namespace ao
open Go
attribute [local simp] aS Option.map_some a7 step cw bp az M.aG M.run M.ok M.fresh M.write M.look M.lift bT ao.set ev ao.get an bin cU db mk params bh load bB di ep dQ dn dB idx len valid eu bound store bl fV un eqs ly bn bH M.bN dw cL dC c9 meets dF dR callee bZ cE fz flat ew eI eZ Option.bind_some cz M.bind
section
variable {prog:Nat->Option aA}
theorem oy {α:Type} {a b:List α} {i:Nat} {x y:α} (hx:a[i]?=some x) (hy:b[i]?=some y) (h:a.take i=b.take i) (e:x=y):a.take (i+1)=b.take (i+1):=by
 rw[List.take_add_one,List.take_add_one,hx,hy,h,e]
theorem WO (h:prog 32=some DH) (a b:List (Int×Int)) (hl:a.length<=maxLen):a8 prog 32 [.iv (.sl 2 (a.map bM)),.iv (.sl 2 (b.map bM))] (.bI (decide (a=b))):=by
 refine a8.of h rfl rfl (aj ?_);refine af (au (s':=⟨[(0,.iv (.sl 2 (a.map bM))),(1,.iv (.sl 2 (b.map bM))),(10,.bI (a.length != b.length))],[],1384⟩) (by
  have:((a.length:Int) != b.length)=(a.length != b.length):=by rw[Bool.eq_iff_iff];simp;omega
  simp[this]) ?_)
 refine ag rfl ?_;cases cA:a.length != b.length with
 |true=>
  refine aj ?_;refine ax ?_;have:decide (a=b)=false:=by simp at cA ⊢;exact λe=>cA (by rw[e])
  rw[this];rfl
 |false=>
  have heq:a.length=b.length:=by simpa using cA
  refine ak (af (aj ?_));refine aq ?_;refine bQ a.length (λi=>⟨[(0,.iv (.sl 2 (a.map bM))),(1,.iv (.sl 2 (b.map bM))),(12,.nI a.length),(13,.nI i)],[],1576⟩) (λi=>a.take i=b.take i) (by simp[an,get]) (by simp) ?_ ?_
  ·intro i hi hg;obtain⟨x,hx⟩:∃x,a[i]?=some x:=⟨_,List.getElem?_eq_getElem hi⟩;obtain⟨y,hy⟩:∃y,b[i]?=some y:=⟨_,List.getElem?_eq_getElem (by omega)⟩;refine au (by simp[hi];rfl) ?_;refine af (ag rfl (ak (af (aq (aj ?_)))));refine au (s':=⟨[(0,.iv (.sl 2 (a.map bM))),(1,.iv (.sl 2 (b.map bM))),(12,.nI a.length),(13,.nI i),(24,.bI (!(x.1==y.1&&x.2==y.2)))],[],2344⟩) (by
    simp[hx,hy,bM]) ?_
   refine ag rfl ?_;cases hb:(x.1==y.1&&x.2==y.2)with
   |true=>
    refine ak ?_;refine bK ?_;refine⟨by simp[again,an,get,nrm,bw hi hl],oy hx hy hg ?_⟩;simp at hb;exact Prod.ext hb.1 hb.2
   |false=>
    refine aj ?_;refine ax ?_;have:decide (a=b)=false:=by
     simp at hb ⊢;intro e;rw[e,hy]at hx;cases hx;exact hb rfl rfl
    rw[this];rfl
  ·intro hg;refine aj ?_;refine af (ag rfl (aO ?_));simp only[Ex.then,Ex.inBlock,if_true];refine aj ?_;refine ax ?_;have:a=b:=by rw[List.take_length,heq,List.take_length]at hg;exact hg
   subst this;simp[dI,ck,dJ,eE,ev,get,DH,bZ,cE,fz,M.bind,M.run,shut,im]
theorem WQ (h:prog 33=some DI) (a b:List ByteArray) (hl:a.length<=maxLen):a8 prog 33 [.iv (.sl 1 (a.map st1)),.iv (.sl 1 (b.map st1))] (.bI (decide (a=b))):=by
 refine a8.of h rfl rfl (aj ?_);refine af (au (s':=⟨[(0,.iv (.sl 1 (a.map st1))),(1,.iv (.sl 1 (b.map st1))),(10,.bI (a.length != b.length))],[],1384⟩) (by
  have:((a.length:Int) != b.length)=(a.length != b.length):=by rw[Bool.eq_iff_iff];simp;omega
  simp[this]) ?_)
 refine ag rfl ?_;cases cA:a.length != b.length with
 |true=>
  refine aj ?_;refine ax ?_;have:decide (a=b)=false:=by simp at cA ⊢;exact λe=>cA (by rw[e])
  rw[this];rfl
 |false=>
  have heq:a.length=b.length:=by simpa using cA
  refine ak (af (aj ?_));refine aq ?_;refine bQ a.length (λi=>⟨[(0,.iv (.sl 1 (a.map st1))),(1,.iv (.sl 1 (b.map st1))),(12,.nI a.length),(13,.nI i)],[],1576⟩) (λi=>a.take i=b.take i) (by simp[an,get]) (by simp) ?_ ?_
  ·intro i hi hg;obtain⟨x,hx⟩:∃x,a[i]?=some x:=⟨_,List.getElem?_eq_getElem hi⟩;obtain⟨y,hy⟩:∃y,b[i]?=some y:=⟨_,List.getElem?_eq_getElem (by omega)⟩;refine au (by simp[hi];rfl) ?_;refine af (ag rfl (ak (af (aq (aj ?_)))));refine au (s':=⟨[(0,.iv (.sl 1 (a.map st1))),(1,.iv (.sl 1 (b.map st1))),(12,.nI a.length),(13,.nI i),(24,.bI (!(x==y)))],[],2344⟩) (by
    simp[hx,hy,st1]) ?_
   refine ag rfl ?_;cases hb:(x==y)with
   |true=>
    refine ak ?_;refine bK ?_;refine⟨by simp[again,an,get,nrm,bw hi hl],oy hx hy hg ?_⟩;rw[kP,decide_eq_true_eq]at hb;exact hb
   |false=>
    refine aj ?_;refine ax ?_;have:decide (a=b)=false:=by
     rw[decide_eq_false_iff_not];intro e;rw[e,hy]at hx;cases hx;simp[kP]at hb
    rw[this];rfl
  ·intro hg;refine aj ?_;refine af (ag rfl (aO ?_));simp only[Ex.then,Ex.inBlock,if_true];refine aj ?_;refine ax ?_;have:a=b:=by rw[List.take_length,heq,List.take_length]at hg;exact hg
   subst this;simp[dI,ck,dJ,eE,ev,get,DI,bZ,cE,fz,M.bind,M.run,shut,im]
def kb (x y:S):Bool:=x.a==y.a&&(x.c==y.c&&(decide (x.i=y.i)&&decide (x.s=y.s)))
theorem Hy (AK:prog 32=some DH) (AM:prog 33=some DI) (h:prog 17=some La) (x y:S) (hi:x.i.length<=maxLen) (hs:x.s.length<=maxLen):a8 prog 17 [x.av,y.av] (.bI (kb x y)):=by
 obtain⟨K1,h1⟩:=WO AK x.i y.i hi;obtain⟨K2,h2⟩:=WQ AM x.s y.s hs;refine a8.of h rfl rfl (au (by simp[S.av];rfl) ?_);refine cq (K:=max K1 K2) (s':=⟨[(4,.bI (kb x y))],[(1000,.cells [.bI x.a,.iv (.sl 2 (x.i.map bM)),.bI x.c,.iv (.sl 1 (x.s.map st1))]),(1064,.cells [.bI y.a,.iv (.sl 2 (y.i.map bM)),.bI y.c,.iv (.sl 1 (y.s.map st1))])],2920⟩) (λn hn=>by
  have e1:=h1 n (by omega);have e2:=h2 n (by omega);cases b1:x.a==y.a<;>cases b2:x.c==y.c<;>cases b3:decide (x.i=y.i)<;>simp only[b3]at e1<;>simp[b1,b2,kb,b3,e1,e2]) ?_
 exact ax rfl
def fF (x:S):Bool:=decide (x.i.length<=6)&&decide (x.s.length<=6)
theorem Fk (h:prog 24=some GX) (x:S):a8 prog 24 [x.av] (.bI (fF x)):=by
 refine a8.of h rfl rfl (au (by simp[S.av];rfl) ?_);refine au (s':=⟨[(2,.bI (fF x))],[(1000,.cells [.bI x.a,.iv (.sl 2 (x.i.map bM)),.bI x.c,.iv (.sl 1 (x.s.map st1))])],1832⟩) (by
  have e1:decide ((x.i.length:Int)<=6)=decide (x.i.length<=6):=decide_eq_decide.2 (by omega);have e2:decide ((x.s.length:Int)<=6)=decide (x.s.length<=6):=decide_eq_decide.2 (by omega);cases b1:decide (x.i.length<=6)<;>simp[fF,e1,e2,b1]) ?_
 exact ax rfl
def cS (x:S):Bool:=!x.a&&(x.i.length==0&&(!x.c&&x.s.length==0))
theorem NS (h:prog 66=some PA) (x:S):a8 prog 66 [x.av] (.bI (cS x)):=by
 refine a8.of h rfl rfl (au (by simp[S.av];rfl) ?_);refine au (s':=⟨[(2,.bI (cS x))],[(1000,.cells [.bI x.a,.iv (.sl 2 (x.i.map bM)),.bI x.c,.iv (.sl 1 (x.s.map st1))])],2472⟩) (by
  have e1:((x.i.length:Int)==0)=(x.i.length==0):=by rw[Bool.eq_iff_iff];simp
  have e2:((x.s.length:Int)==0)=(x.s.length==0):=by rw[Bool.eq_iff_iff];simp
  cases b0:x.a<;>cases b1:x.i.length==0<;>cases b2:x.c<;>simp[cS,e1,e2,b0,b1,b2]) ?_
 exact ax rfl
end
end ao

/-
  A part of the proof of the statement that the last text of this claim holds: two abstract machines for the code, proved sound once, and what the program does on them. No condition.
-/
import Derived.Test.YtolpagjajaknbaaGreatArbB
set_option linter.all false
namespace Arx
open Go Go.RowKit Arb
section
variable {ν:Nat->Nat} {P:Program} {k:Cx} {g:Gh}
def Gives (ν:Nat->Nat) (P:Program) (g:Gh) (v:Value) (e:Nat) (ys:List (List AV)) (news:List Value):Prop:=
 (∀w:World,(∀b off u,g.w.cell? ⟨b,off,none⟩=some u->w.cell? ⟨b,off,none⟩=some u)->(Builtin.lenOf v).run P w = .ok ys.length w/\(Builtin.firstCells e ys.length v).run P w = .ok news.toArray w)/\
 news.length=ys.length*e/\(∀c ∈ ys,c.length=e)/\
 ∀(i j:Nat) (c:List AV) (x:AV),ys[i]?=some c->c[j]?=some x->∃u,news[i*e+j]?=some u/\u.oneCell'=true/\RA ν g u x
def Lies (ν:Nat->Nat) (g:Gh) (v:Value) (e:Nat) (ys:List (List AV)) (news:List Value):Prop:=
 (∃a c,v = .slice a ys.length c/\(ys.length=0\/∃b off,a=some ⟨b,off,none⟩/\∀(p:Nat) (u:Value),news[p]?=some u->g.w.cell? ⟨b,off+p,none⟩=some u))/\
 news.length=ys.length*e/\(∀c ∈ ys,c.length=e)/\
 ∀(i j:Nat) (c:List AV) (x:AV),ys[i]?=some c->c[j]?=some x->∃u,news[i*e+j]?=some u/\u.oneCell'=true/\RA ν g u x
theorem Lies.gives {v:Value} {e:Nat} {ys:List (List AV)} {news:List Value} (h:Lies ν g v e ys news):Gives ν P g v e ys news:=by
 obtain⟨⟨a,c,rfl,ha⟩,hn,hr⟩:=h;refine⟨λw hw=>⟨by simp[Builtin.lenOf],?_⟩,hn,hr⟩;rcases ha with h0 | ⟨b,off,rfl,hc⟩
 ·have:news=[]:=List.eq_nil_of_length_eq_zero (by rw[hn,h0];simp);subst this;cases a with
  |none=>simp[Builtin.firstCells]
  |some a=>simp[Builtin.firstCells,h0,loadCells,loadCellsFrom]
 ·exact run_firstCells_some w e ys.length _ _ _ news hn λj u hu=>by rw[Addr.add_lit];exact hw _ _ _ (hc j u hu)
theorem lies_row {b off e m cap:Nat} {ys:List (List AV)} (hm:m=ys.length) (hl:∀c ∈ ys,c.length=e)
  (hc:∀(i j:Nat) (c:List AV) (x:AV),ys[i]?=some c->c[j]?=some x->∃u,g.w.cell? ⟨b,off+i*e+j,none⟩=some u/\u.oneCell'=true/\RA ν g u x) :
  ∃news,Lies ν g (.slice (some ⟨b,off,none⟩) m cap) e ys news:=by
 subst hm;obtain⟨F,hF⟩:=pickT (cs:=ys) (P:=λi (f:Nat->Value) c=>∀(j:Nat) (x:AV),c[j]?=some x->g.w.cell? ⟨b,off+i*e+j,none⟩=some (f j)/\(f j).oneCell'=true/\RA ν g (f j) x)
  λi c hci=>pick λj x hx=>hc i j c x hci hx
 obtain⟨news,hn,hget'⟩:=rows_flat (e:=e) (m:=ys.length) (f:=F);refine⟨news,⟨_,cap,rfl,.inr ⟨b,off,rfl,λp u hu=>?_⟩⟩,hn,hl,λi j c x h1 h2=>?_⟩
 ·have hp:=lt_of_some hu;rw[hn]at hp;obtain⟨i,j,hi,hj,rfl⟩:=flat_split hp;rw[hget' i j hi hj]at hu;cases hu;have hle:=hl _ (List.getElem_mem hi);rw[<-Nat.add_assoc];exact(hF i _ (List.getElem?_eq_getElem hi) j _ (List.getElem?_eq_getElem (by omega))).1
 ·have hi:=lt_of_some h1;have hj:j<e:=by have:=lt_of_some h2;rwa [hl c (List.mem_of_getElem? h1)]at this
  exact⟨_,hget' i j hi hj,(hF i c h1 j x h2).2⟩
theorem lies_nil {v:Value} {e:Nat} {a:Option Addr} {c:Nat} (hv:v = .slice a 0 c):Lies ν g v e [] []:=
 ⟨⟨a,c,hv,.inl rfl⟩,by simp,λc h=>by simp at h,λi j c x h=>by simp at h⟩
theorem elems_ok (r:Rel ν k g) {e:Nat} {x:AV} {ys:List (List AV)} {h':Hp} (e':(elems e x).run g.h=some (ys,h')) {v:Value} (hv:RA ν g v x):h'=g.h/\∃news,Lies ν g v e ys news:=by
 cases hv with
 |undef=>exact(Mfail_someZ e').elim
 |nul=>exact(Mfail_someZ e').elim
 |agg=>exact(Mfail_someZ e').elim
 |tup=>exact(Mfail_someZ e').elim
 |ref=>exact(Mfail_someZ e').elim
 |clo=>exact(Mfail_someZ e').elim
 |iv hr=>
  cases hr with
  |nsl a _=>obtain⟨rfl,rfl⟩:=Mret_someZ e';exact⟨rfl,_,lies_nil rfl⟩
  |sl0 a cap _=>
   obtain⟨-,e2⟩:=M.ok_bind e';obtain⟨rfl,rfl⟩:=Mret_someZ e2;exact⟨rfl,_,lies_nil rfl⟩
  |sl b off n cap e'' es f hI hn hcap hll hc hr=>
   obtain⟨he,e2⟩:=M.ok_bind e';obtain⟨rfl,rfl⟩:=Mret_someZ e2;have he':e''=e:=by simpa using he
   subst he';refine⟨rfl,lies_row (by simpa using hn) (λc hc'=>?_) (λi j c x h1 h2=>?_)⟩
   ·simp only[List.mem_map]at hc';obtain⟨c',hc',rfl⟩:=hc';simpa using hll c' hc'
   ·simp only[List.getElem?_map,Option.map_eq_some_iff]at h1;obtain⟨c',h1,rfl⟩:=h1;simp only[List.getElem?_map,Option.map_eq_some_iff]at h2;obtain⟨x',h2,rfl⟩:=h2;exact⟨_,hc i j c' x' h1 h2,(hr i j c' x' h1 h2).one,.iv (hr i j c' x' h1 h2)⟩
  |_=>exact(Mfail_someZ e').elim
 |@own _ id o m ver ho1 ho=>
  obtain⟨ob,hg,e2⟩:=M.look_bind e';have fin:∀{L:Nat} {ys:List (List AV)},ys.length=m->(∀c ∈ ys,c.length=e)->
    (∀b,g.φ id=some b->∀(i j:Nat) (c:List AV) (x:AV),ys[i]?=some c->c[j]?=some x->∃u,g.w.cell? ⟨b,(o+i)*e+j,none⟩=some u/\u.oneCell'=true/\RA ν g u x)->
    SlAt g.w (g.φ id) e L o m v->∃news,Lies ν g v e ys news:=by
   intro L ys hyl hye hyc hs;by_cases hm:m=0
   ·subst hm;have:ys=[]:=List.eq_nil_of_length_eq_zero hyl;subst this;cases hφ:g.φ id with
    |none=>rw[hφ]at hs;obtain⟨⟨a,rfl⟩,_⟩:=hs;exact⟨[],lies_nil rfl⟩
    |some b=>rw[hφ]at hs;obtain⟨x,cap,rfl,_⟩:=hs;exact⟨[],lies_nil rfl⟩
   ·cases hφ:g.φ id with
    |none=>rw[hφ]at hs;obtain⟨_,h0,_⟩:=hs;exact absurd h0 hm
    |some b=>
     rw[hφ]at hs;obtain⟨x,cap,rfl,h2,_,h3,h4,_⟩:=hs;have hx:x=o*e:=h4.resolve_right λh=>hm h.1
     subst hx;exact lies_row hyl.symm hye λi j c y h1 h2=>by
      obtain⟨u,hu,hR⟩:=hyc b hφ i j c y h1 h2;exact⟨u,by rwa [Nat.add_mul]at hu,hR⟩
  unfold OwnAt at ho;rw[hg]at ho;cases ob with
  |map _=>exact ho.elim
  |buf v' e'' es=>
   obtain⟨hve,e10⟩:=M.ok_bind e2;obtain⟨rfl,rfl⟩:=Mret_someZ e10;simp only[Bool.and_eq_true,beq_iff_eq]at hve;obtain⟨rfl,rfl⟩:=hve;have hs:=ho.2 rfl;have hf:=hs.fits;obtain⟨b',h1,_,_,hrow⟩:=r.ob id _ hg;exact⟨rfl,fin (by simp;omega) (λc hc=>hrow.1 c (List.mem_of_mem_drop (List.mem_of_mem_take hc))) (λb hb i j c x h2 h3=>by
    rw[hb]at h1;cases h1;exact hrow.2 _ j c x (sub_get h2).2 h3) hs⟩
  |imm v' e'' es=>
   obtain⟨hve,e10⟩:=M.ok_bind e2;obtain⟨rfl,rfl⟩:=Mret_someZ e10;simp only[Bool.and_eq_true,beq_iff_eq]at hve;obtain⟨rfl,rfl⟩:=hve;have hs:=ho.2 rfl;have hf:=hs.fits;obtain⟨b',h1,_,hrow⟩:=r.ob id _ hg;refine⟨rfl,fin (by simp;omega) (λc hc=>?_) (λb hb i j c x h2 h3=>?_) hs⟩
   ·simp only[List.mem_map]at hc;obtain⟨c',hc',rfl⟩:=hc;simpa using hrow.1 c' (List.mem_of_mem_drop (List.mem_of_mem_take hc'))
   ·rw[hb]at h1;cases h1;simp only[List.getElem?_map,Option.map_eq_some_iff]at h2;obtain⟨c',h2,rfl⟩:=h2;simp only[List.getElem?_map,Option.map_eq_some_iff]at h3;obtain⟨x',h3,rfl⟩:=h3;obtain⟨u,hu,hR⟩:=hrow.2 _ j c' x' (sub_get h2).2 h3;exact⟨u,hu,hR.one,.iv hR⟩
  |cells cs=>
   obtain⟨hve,e10⟩:=M.ok_bind e2;obtain⟨rfl,rfl⟩:=Mret_someZ e10;simp only[Bool.and_eq_true,beq_iff_eq]at hve;obtain⟨-,rfl⟩:=hve;have hf:=ho.2.fits;obtain⟨b',h1,_,_,hrow⟩:=r.ob id _ hg;refine⟨rfl,fin (by simp;omega) (λc hc=>?_) (λb hb i j c x h2 h3=>?_) ho.2⟩
   ·simp only[List.mem_map]at hc;obtain⟨c',hc',rfl⟩:=hc;rfl
   ·rw[hb]at h1;cases h1;simp only[List.getElem?_map,Option.map_eq_some_iff]at h2;obtain⟨c',h2,rfl⟩:=h2;cases j with
    |succ j=>simp at h3
    |zero=>
     simp at h3;subst h3;have:=hrow _ _ (sub_get h2).2;simpa using this
  |icl cs=>
   obtain⟨hve,e10⟩:=M.ok_bind e2;obtain⟨rfl,rfl⟩:=Mret_someZ e10;simp only[Bool.and_eq_true,beq_iff_eq]at hve;obtain⟨-,rfl⟩:=hve;have hf:=ho.2.fits;obtain⟨b',h1,_,hrow⟩:=r.ob id _ hg;refine⟨rfl,fin (by simp;omega) (λc hc=>?_) (λb hb i j c x h2 h3=>?_) ho.2⟩
   ·simp only[List.mem_map]at hc;obtain⟨c',hc',rfl⟩:=hc;rfl
   ·rw[hb]at h1;cases h1;simp only[List.getElem?_map,Option.map_eq_some_iff]at h2;obtain⟨c',h2,rfl⟩:=h2;cases j with
    |succ j=>simp at h3
    |zero=>
     simp at h3;subst h3;obtain⟨u,hu,hR⟩:=hrow _ _ (sub_get h2).2;exact⟨u,by simpa using hu,hR.one,.iv hR⟩
theorem elemsS_ok (r:Rel ν k g) {e:Nat} {x:AV} {ys:List (List AV)} {h':Hp} (e':(elemsS e x).run g.h=some (ys,h')) {v:Value} (hv:RA ν g v x):h'=g.h/\∃news,Gives ν P g v e ys news:=by
 unfold elemsS at e';split at e'
 ·rename_i s;obtain⟨he,e2⟩:=M.ok_bind e';obtain⟨rfl,rfl⟩:=Mret_someZ e2;have he':e=1:=by simpa using he
  subst he';obtain rfl:=hv.str;refine⟨rfl,s.data.toList.map λb=>.int .u8 b.toNat,λw _=>⟨by simp[Builtin.lenOf,bytesIV],?_⟩,by simp[bytesIV],λc hc=>?_,λi j c x h1 h2=>?_⟩
  ·have hx:s.extract 0 (bytesIV s).length=s:=by
    have:(bytesIV s).length=s.size:=by simp[bytesIV]
    rw[this];apply ByteArray.ext;simp
   simp only[Builtin.firstCells,hx];simp[Array.ext_iff]
  ·simp only[bytesIV,List.mem_map]at hc;obtain⟨b,_,rfl⟩:=hc;rfl
  ·simp only[bytesIV,List.getElem?_map,Option.map_eq_some_iff]at h1;obtain⟨b,hb,rfl⟩:=h1;cases j with
   |succ j=>simp at h2
   |zero=>
    simp at h2;subst h2;exact⟨.int .u8 b.toNat,by simp[hb],rfl,.iv (.int _ _)⟩
 ·obtain⟨h1,news,h2⟩:=elems_ok r e' hv;exact⟨h1,news,h2.gives⟩
theorem append_run {t u ty:TypeId} {e:Nat} (ht:appB P t u e=true) {base:Option Addr} {n cap:Nat} {olds:List Value} (hol:olds.length=n*e)
  (ho:n=0\/∃b x,base=some ⟨b,x,none⟩/\∀(p:Nat) (u:Value),olds[p]?=some u->g.w.cell? ⟨b,x+p,none⟩=some u) {y:Value} {ys:List (List AV)} {news:List Value} (hy:Gives ν P g y e ys news)
  (hroom:cap<n+ys.length->n+ys.length<=1073741824) :
  (n+ys.length<=cap/\∀R,(match base with | some a=>(storeCells (a.add (n*e)) news).run P g.w | none=>.ok () g.w) = .ok () R->
    (Builtin.append_ #[t,u] ty #[.slice base n cap,y]).run P g.w = .ok (.slice base (n+ys.length) cap) R)\/
  (cap<n+ys.length/\∃(el newcap:Nat) (arr:Array Value),P.underlying t=some (.slice el)/\n+ys.length<=newcap/\arr.size=newcap*e/\(∀(p:Nat) (x:Value),(olds++news)[p]?=some x->arr[p]?=some x)/\
    (Builtin.append_ #[t,u] ty #[.slice base n cap,y]).run P g.w = .ok (.slice (some ⟨g.w.heap.size,0,none⟩) (n+ys.length) newcap) (g.w.drew.alloc (.cells arr el))):=by
 obtain⟨el,d,i,z,hu,hd,hdi,hi,rfl,hb,hz,hzs,he0⟩:=appB_spec ht;obtain⟨f1,f2⟩:=hy.1 g.w λ_ _ _ h=>h
 by_cases hc:n+ys.length<=cap
 ·refine .inl ⟨hc,λR hR=>?_⟩;cases base with
  |none=>
   simp only[Result.ok.injEq,true_and]at hR;subst hR;simp[Builtin.append_,run_underlying hu,run_underlying hd,run_sizeOf hi,f1,f2,hc]
  |some a=>
   simp only[]at hR;simp[Builtin.append_,run_underlying hu,run_underlying hd,run_sizeOf hi,f1,f2,hc,hR]
 ·have hroom:=hroom (by omega);refine .inr ⟨by omega,el,grownCap g.w (n+ys.length) cap el,olds.toArray++news.toArray++Builtin.zeroCells z.cells (grownCap g.w (n+ys.length) cap el - (n+ys.length)),hu,grownCap_ge _ _ _ _,?_,?_,?_⟩
  ·have:=grownCap_ge g.w (n+ys.length) cap el;simp only[Array.size_append,List.size_toArray];rw[size_zeroCells,hzs,hol,hy.2.1,<-Nat.add_mul,<-Nat.add_mul];congr 1;omega
  ·intro p x hx;have hp:=lt_of_some hx;rw[Array.getElem?_append_left (by simpa using hp)];simpa using hx
  ·obtain⟨-,f2'⟩:=hy.1 g.w.drew λ_ _ _ h=>h
   have hold:(Builtin.firstCells i.size n (.slice base n cap)).run P g.w.drew = .ok olds.toArray g.w.drew:=by
    rcases ho with h0 | ⟨b,x,rfl,hcell⟩
    ·have:olds=[]:=List.eq_nil_of_length_eq_zero (by rw[hol,h0];simp);subst this;cases base with
     |none=>simp[Builtin.firstCells]
     |some a=>simp[Builtin.firstCells,h0,loadCells,loadCellsFrom]
    ·exact run_firstCells_some g.w.drew i.size n _ _ _ olds hol λj x hx=>by rw[Addr.add_lit];exact hcell j x hx
   have hcap:=nextcap_fits (need:=n+ys.length) (cap:=cap) (bytes:=i.bytes) (by omega) hroom hb;have h48:¬(281474976710656<Builtin.nextslicecap (n+ys.length) cap*i.bytes):=by omega
   have h63:¬((9223372036854775807:Int)<(n:Int)+ys.length):=by omega
   simp[Builtin.append_,run_underlying hu,run_underlying hd,run_sizeOf hi,f1,hc,h63,typeInfo,hi,h48,Question.forced,hold,f2',zeroValue,hz,newRow,grownCap];congr 2;apply Array.ext';simp
theorem app_ok (r:Rel ν k g) {slot:Nat} {t u ty:TypeId} {e:Nat} (ht:appB P t u e=true) {byte:Bool} (hbyte:byte=true->P.underlying t=some (.slice (ν tyByte))) {v yv:Value} {x y z:AV} (hv:RA ν g v x) (hyv:RA ν g yv y) {h':Hp}
  (e':(app e slot byte x y).run g.h=some (z,h')):Done ν k g h' z ((Builtin.append_ #[t,u] ty #[v,yv]).run P g.w):=by
 obtain⟨ys,h1,e1,e2⟩:=Mbind_someZ e';obtain⟨rfl,news,hy⟩:=elemsS_ok (P:=P) r e1 hyv;have hys:=hy.2.1;have hye:=hy.2.2.1;have hyr:=hy.2.2.2;have hyone:∀u ∈ news,u.oneCell'=true:=by
  intro u hu;obtain⟨p,hp⟩:=List.getElem?_of_mem hu;have hlt:=lt_of_some hp;rw[hys]at hlt;obtain⟨i,j,hi,hj,rfl⟩:=flat_split hlt;have hle:=hye _ (List.getElem_mem hi);obtain⟨u',hu',h1,_⟩:=hyr i j _ _ (List.getElem?_eq_getElem hi) (List.getElem?_eq_getElem (by omega));rw[hp]at hu';cases hu';exact h1
 cases hv with
 |undef=>exact(Mfail_someZ e2).elim
 |nul=>exact(Mfail_someZ e2).elim
 |agg=>exact(Mfail_someZ e2).elim
 |tup=>exact(Mfail_someZ e2).elim
 |ref=>exact(Mfail_someZ e2).elim
 |clo=>exact(Mfail_someZ e2).elim
 |iv hr=>
  cases hr with
  |nsl a _=>
   simp only[]at e2;split at e2
   ·rename_i h0;have h0:ys=[]:=by simpa using h0
    subst h0;obtain⟨rfl,rfl⟩:=Mret_someZ e2;have hn0:news=[]:=List.eq_nil_of_length_eq_zero (by simpa using hys);subst hn0;rcases append_run (ty:=ty) (base:=a) (n:=0) (cap:=0) (olds:=[]) ht (by simp) (.inl rfl) hy (by simp)with⟨hc,hrun⟩|⟨hc,_⟩
    ·exact .same r (hrun g.w (by cases a<;>simp[storeCells])) (.iv (.nsl _ _))
    ·simp at hc
   ·rename_i h0;obtain⟨hroom,e4⟩:=M.ok_bind e2;obtain⟨_,h3,e5,e6⟩:=Mbind_someZ e4;obtain⟨hf,rfl⟩:=M.fresh_some e5;obtain⟨_,h4,e7,e8⟩:=Mbind_someZ e6;obtain rfl:=Mwrite_someZ e7;obtain⟨rfl,rfl⟩:=Mret_someZ e8;have hroom':0+ys.length<=1073741824:=by simpa[roomy]using hroom
    rcases append_run (ty:=ty) (base:=a) (n:=0) (cap:=0) (olds:=[]) ht (by simp) (.inl rfl) hy (λ_=>hroom')with⟨hc,_⟩|⟨hc,el,newcap,arr,hel,h1,h2,h3,hrun⟩
    ·exact absurd (List.eq_nil_of_length_eq_zero (show ys.length=0 by omega)) (by simpa using h0)
    ·simp only[Nat.zero_add,List.nil_append]at *;rw[hrun];exact newRow_ok r (.inr rfl) hf (by
      cases byte with
      |false=>left;simp
      |true=>
       right;have:=hbyte rfl;rw[hel]at this;refine⟨by simp,?_⟩;cases this;rfl) rfl hye h1 h2 λi j c x hi hj=>by
      obtain⟨u,hu,h4,h5⟩:=hyr i j c x hi hj;exact⟨u,h3 _ _ hu,h4,h5⟩
  |_=>exact(Mfail_someZ e2).elim
 |@own _ id o n ver ho1 ho=>
  obtain⟨ob,hg,e4⟩:=M.look_bind e2;unfold OwnAt at ho;rw[hg]at ho;cases ob with
  |cells _=>exact(Mfail_someZ e4).elim
  |icl _=>exact(Mfail_someZ e4).elim
  |imm _ _ _=>exact(Mfail_someZ e4).elim
  |map _=>exact(Mfail_someZ e4).elim
  |buf v' e'' es=>
   obtain⟨hok,e6⟩:=M.ok_bind e4;simp only[Bool.and_eq_true,beq_iff_eq]at hok;obtain⟨rfl,rfl⟩:=hok;have hs:=ho.2 rfl;obtain⟨b,hφ,hnI,hsoft,hrow⟩:=r.ob id _ hg;rw[hφ]at hs;obtain⟨x,cap,rfl,q2,qL,q3,q4,q5⟩:=hs;obtain⟨V,hV⟩:=row_pick hrow;obtain⟨olds,hol,holds⟩:=rows_flat (e:=e'') (m:=n) (f:=λi j=>V (o+i) j);have hcells:n=0\/∃b' x',some (⟨b,x,none⟩:Addr)=some ⟨b',x',none⟩/\∀(p:Nat) (u:Value),olds[p]?=some u->g.w.cell? ⟨b',x'+p,none⟩=some u:=by
    by_cases hn:n=0
    ·exact .inl hn
    ·have hx:x=o*e'':=q4.resolve_right λh=>hn h.1
     refine .inr ⟨b,x,rfl,λp u hp=>?_⟩;have hlt:=lt_of_some hp;rw[hol]at hlt;obtain⟨i,j,hi,hj,rfl⟩:=flat_split hlt;rw[holds i j hi hj]at hp;cases hp;have hci:es[o+i]?=some es[o+i]:=List.getElem?_eq_getElem (by omega);have hle:=hrow.1 _ (List.getElem_mem (show o+i<es.length by omega));have:=(hV (o+i) j _ _ hci (List.getElem?_eq_getElem (by omega))).1;rw[hx,<-Nat.add_assoc,<-Nat.add_mul];exact this
   split at e6
   ·
    rename_i hfit;obtain⟨_,h4,e7,e8⟩:=Mbind_someZ e6;obtain rfl:=Mwrite_someZ e7;obtain⟨rfl,rfl⟩:=Mret_someZ e8;rcases append_run (ty:=ty) (base:=some ⟨b,x,none⟩) (n:=n) (cap:=cap) (olds:=olds) ht hol hcells hy (λh=>by omega)with⟨hc,hrun⟩|⟨hc,_⟩
    ·by_cases hk:ys.length=0
     ·have h0:ys=[]:=List.eq_nil_of_length_eq_zero hk;subst h0;have hn0:news=[]:=List.eq_nil_of_length_eq_zero (by simpa using hys);subst hn0;have hrun':=hrun g.w (by simp[storeCells]);have hsp:splice es (o+n) []=es:=by simp[splice]
      rw[hsp];have hput:=r.put (id:=id) (v:=v') (e:=e'') (b:=b) (off:=0) (v':=v') (es:=es) (es':=es) (vs:=[]) hg hφ (λj hj=>by simp at hj) (.inl ⟨rfl,rfl⟩) (λg' hw hm=>hrow.mono hm λoff v hc=>by rw[hw];exact hc);refine⟨{ g with w:=g.w.setCells b 0 [],h:=set g.h id (.buf v' e'' es) },_,hrun',rfl,hput.1,hput.2,.own rfl ?_⟩;unfold OwnAt;simp only[get_set_same,hφ];exact⟨Nat.le_refl _,λ_=>⟨x,cap,rfl,q2,qL,q3,q4,q5⟩⟩
     ·have hx:x=o*e'':=q4.resolve_right λh=>by have:=h.2.2;omega
      subst hx;have q5:=q5 rfl;have hex:∀j,j<news.length->(g.w.cell? ⟨b,(o+n)*e''+j,none⟩).isSome=true:=λj hj=>q5 _ (by
       have:(o+n)*e''+ys.length*e''<=(o+cap)*e'':=by rw[<-Nat.add_mul];exact Nat.mul_le_mul_right _ (by omega)
       omega)
      have hst:=run_storeCells_cells (P:=P) b ((o+n)*e'') news 0 g.w (by simpa using hex) (λ_ _=>hsoft.2 _) hyone;have hrun':=hrun (g.w.setCells b ((o+n)*e'') news) (by simp only[Addr.add_lit,<-Nat.add_mul];simpa using hst);have hput:=r.put (id:=id) (v:=v') (e:=e'') (b:=b) (off:=(o+n)*e'') (v':=v') (es:=es) (es':=splice es (o+n) ys) (vs:=news) hg hφ hex (.inl ⟨rfl,(splice_length _ _ _ hfit).symm⟩) (λg' hw hm=>by
       refine⟨λc hc=>?_,λi j c x hi hj=>?_⟩
       ·simp only[splice,List.mem_append]at hc;rcases hc with(h | h) | h
        ·exact hrow.1 c (List.mem_of_mem_take h)
        ·exact hye c h
        ·exact hrow.1 c (List.mem_of_mem_drop h)
       ·rw[hw,setCells_cell _ _ _ _ hex];rw[splice_get _ _ _ hfit]at hi;split at hi
        ·rename_i hin;obtain⟨w,hw',h5,hR⟩:=hyr (i - (o+n)) j c x hi hj;have hlt:=lt_of_some hw';have:(o+n)*e''+(i - (o+n))*e''=i*e'':=by rw[<-Nat.add_mul];congr 1;omega
         rw[if_pos (by omega),show i*e''+j - (o+n)*e''=(i - (o+n))*e''+j by omega];exact⟨w,hw',h5,hm _ _ hR⟩
        ·rename_i hin;have hj':=hrow.len hi hj;have hapart:¬((o+n)*e''<=i*e''+j/\i*e''+j<(o+n)*e''+news.length):=by
          intro⟨ha,hb⟩;rw[hys]at hb;rcases Nat.lt_or_ge i (o+n)with hlt | hge
          ·have:i*e''+e''<=(o+n)*e'':=by rw[<-Nat.succ_mul];exact Nat.mul_le_mul_right _ hlt
           omega
          ·have:(o+n)*e''+ys.length*e''<=i*e'':=by rw[<-Nat.add_mul];exact Nat.mul_le_mul_right _ (by omega)
           omega
         rw[if_neg hapart];obtain⟨w,hw',h5,hR⟩:=hrow.2 i j c x hi hj;exact⟨w,hw',h5,hm _ _ hR⟩)
      refine⟨_,_,hrun',rfl,hput.1,hput.2,.own rfl ?_⟩;unfold OwnAt;simp only[get_set_same,hφ];rw[splice_length _ _ _ hfit];exact⟨Nat.le_refl _,λ_=>⟨_,cap,rfl,by omega,by omega,by omega,.inl rfl,λ_ c hc=>setCells_some _ _ _ _ hex _ (q5 c hc)⟩⟩
    ·omega
   ·
    rename_i hfit;obtain⟨hok,e8⟩:=M.ok_bind e6;obtain⟨_,h5,e9,e10⟩:=Mbind_someZ e8;obtain rfl:=Mwrite_someZ e9;obtain⟨rfl,rfl⟩:=Mret_someZ e10;simp only[Bool.and_eq_true,beq_iff_eq,Bool.or_eq_true]at hok;obtain⟨⟨rfl,hroom⟩,hidty⟩:=hok;have hroom':n+ys.length<=1073741824:=by simpa[roomy]using hroom
    have hx:x=0:=by
     rcases q4 with h | h
     ·simpa using h
     ·exact absurd rfl h.2.1
    subst hx;have q5:=q5 (by simp);have htn:(es.take n).length=n:=by simp;omega
    rcases append_run (ty:=ty) (base:=some ⟨b,0,none⟩) (n:=n) (cap:=cap) (olds:=olds) ht hol hcells hy (λ_=>hroom')with⟨hc,hrun⟩|⟨hc,el,newcap,arr,hel,h1,h2,h3,hrun⟩
    ·
     have hex:∀j,j<news.length->(g.w.cell? ⟨b,n*e''+j,none⟩).isSome=true:=λj hj=>q5 _ (by
      have:n*e''+ys.length*e''<=cap*e'':=by rw[<-Nat.add_mul];exact Nat.mul_le_mul_right _ hc
      rw[Nat.zero_add];omega)
     have hst:=run_storeCells_cells (P:=P) b (n*e'') news 0 g.w (by simpa using hex) (λ_ _=>hsoft.2 _) hyone;have hrun':=hrun (g.w.setCells b (n*e'') news) (by simpa[Addr.add_lit]using hst);have hput:=r.put (id:=id) (v:=v') (e:=e'') (b:=b) (off:=n*e'') (v':=v'+1) (es:=es) (es':=es.take n++ys) (vs:=news) hg hφ hex (.inr rfl) (λg' hw hm=>by
      refine⟨λc hc=>?_,λi j c x hi hj=>?_⟩
      ·rcases List.mem_append.1 hc with h | h
       ·exact hrow.1 c (List.mem_of_mem_take h)
       ·exact hye c h
      ·rw[hw,setCells_cell _ _ _ _ hex];rw[List.getElem?_append]at hi;simp only[htn]at hi;split at hi
       ·rename_i hin;rw[List.getElem?_take,if_pos hin]at hi;have hj':=hrow.len hi hj;have:i*e''+e''<=n*e'':=by rw[<-Nat.succ_mul];exact Nat.mul_le_mul_right _ hin
        rw[if_neg (by omega)];obtain⟨w,hw,h5,hR⟩:=hrow.2 i j c x hi hj;exact⟨w,hw,h5,hm _ _ hR⟩
       ·rename_i hin;obtain⟨w,hw,h5,hR⟩:=hyr (i - n) j c x hi hj;have hlt:=lt_of_some hw;have:n*e''+(i - n)*e''=i*e'':=by rw[<-Nat.add_mul];congr 1;omega
        rw[if_pos (by omega),show i*e''+j - n*e''=(i - n)*e''+j by omega];exact⟨w,hw,h5,hm _ _ hR⟩)
     refine⟨_,_,hrun',rfl,hput.1,hput.2,.own rfl ?_⟩;unfold OwnAt;simp only[get_set_same,hφ];refine⟨Nat.le_refl _,λ_=>⟨0,cap,rfl,by simp;omega,by simp;omega,hc,.inl (by simp),λ_ c hc=>setCells_some _ _ _ _ hex _ (q5 c hc)⟩⟩
    ·
     have ht:=r.turn (s:=id) (ob:=.buf (v'+1) e'' (es.take n++ys)) (p:=some g.w.heap.size) (w':=g.w.drew.alloc (.cells arr el)) (I':=g.I) hg (λb' h=>by rw[hφ]at h;cases h;exact hnI) (by simp) rfl rfl rfl
      (λb hb _=>alloc_old g.w.drew _ _ hb) (λ_ h=>h) (λ_ h=>.inl h) (.inr ⟨_,rfl,Nat.le_refl _⟩)
      (λb h=>by
       cases h;rcases hidty with h | ⟨h,hb⟩
       ·exact .zero h
       ·have:=hbyte hb;rw[hel]at this;cases this;exact⟨by omega,λ_=>⟨_,shape_alloc_new g.w.drew _ _⟩,by omega⟩)
      (λw o n ver h=>by
       unfold OwnAt at h ⊢;rw[hg]at h;simp only[get_set_same,updφ_same];have:=h.1;exact⟨by omega,λhe=>by omega⟩)
      (λw ver i j h=>by
       unfold RefAt at h ⊢;rw[hg]at h;simp only[get_set_same,updφ_same];have:=h.1;exact⟨by omega,λhe=>by omega⟩)
      (λ_ hm=>by
       refine⟨g.w.heap.size,updφ_same _ _ _,λhi'=>Nat.lt_irrefl _ (r.small _ hi'),⟨by simp,λo=>World.frozen?_alloc_new g.w.drew _ _ _⟩,λc hc=>?_,λi j c x hi hj=>?_⟩
       ·rcases List.mem_append.1 hc with h | h
        ·exact hrow.1 c (List.mem_of_mem_take h)
        ·exact hye c h
       ·have key:∃u,(olds++news)[i*e''+j]?=some u/\u.oneCell'=true/\RA ν g u x:=by
         rw[List.getElem?_append]at hi;simp only[htn]at hi;split at hi
         ·rename_i hin;rw[List.getElem?_take,if_pos hin]at hi;have hj':=hrow.len hi hj;have:i*e''+e''<=n*e'':=by rw[<-Nat.succ_mul];exact Nat.mul_le_mul_right _ hin
          refine⟨V i j,?_,(hV i j c x hi hj).2⟩;rw[List.getElem?_append_left (by omega),holds i j hin hj',Nat.zero_add]
         ·rename_i hin;obtain⟨w,hw,h5,hR⟩:=hyr (i - n) j c x hi hj;have:n*e''+(i - n)*e''=i*e'':=by rw[<-Nat.add_mul];congr 1;omega
          refine⟨w,?_,h5,hR⟩;rw[List.getElem?_append_right (by omega),hol,show i*e''+j - n*e''=(i - n)*e''+j by omega];exact hw
        obtain⟨u,hu,h5,hR⟩:=key;exact⟨u,by simp only[];rw[show(g.w.drew.alloc (.cells arr el)).cell? ⟨g.w.heap.size,i*e''+j,none⟩=arr[i*e''+j]? from World.cell?_alloc_new g.w.drew _ _ _];exact h3 _ _ hu,h5,hm _ _ hR⟩)
     refine⟨_,_,hrun,rfl,ht.1,ht.2,.own rfl ?_⟩;unfold OwnAt;simp only[get_set_same,updφ_same];refine⟨Nat.le_refl _,λ_=>⟨0,newcap,rfl,by simp;omega,by simp;omega,h1,.inl (by simp),λ_ c hc=>?_⟩⟩;rw[show(g.w.drew.alloc (.cells arr el)).cell? ⟨g.w.heap.size,c,none⟩=arr[c]? from World.cell?_alloc_new g.w.drew _ _ _,Array.getElem?_eq_getElem (by rw[h2];simpa using hc)];rfl
end
section
variable {ν:Nat->Nat} {P:Program} {k:Cx} {g:Gh}
theorem capn_ok (r:Rel ν k g) {t ty:TypeId} {e:Nat} (ht:sliceB P t e=true) {v:Value} {x y:AV} {h':Hp} (hv:RA ν g v x) (e':(capn x).run g.h=some (y,h')):Done ν k g h' y ((Builtin.cap_ #[t] ty #[v]).run P g.w):=by
 obtain⟨el,i,hu,hi,rfl⟩:=sliceB_spec ht;unfold capn at e';split at e'
 ·obtain⟨rfl,rfl⟩:=Mret_someZ e';cases hv with
  |iv hr=>
   cases hr with
   |nsl a _=>exact .same r (v:=.int .i64 0) (by simp[Builtin.cap_,run_underlying hu,goInt]) mkInt
 ·exact(Mfail_someZ e').elim
theorem zeroCells_at (z:Array Value) (n i j:Nat) (v:Value) (hi:i<n) (hj:z[j]?=some v):(Builtin.zeroCells z n)[i*z.size+j]?=some v:=by
 have hjl:j<z.size:=(Array.getElem?_eq_some_iff.1 hj).1;have hlt:i*z.size+j<n*z.size:=by
  have:(i+1)*z.size<=n*z.size:=Nat.mul_le_mul_right _ hi;rw[Nat.add_mul,Nat.one_mul]at this;omega
 unfold Builtin.zeroCells;rw[Array.getElem?_map,Array.getElem?_eq_getElem (by simpa using hlt)];simp only[Array.getElem_range,Option.map_some];have:(i*z.size+j) % z.size=j:=by rw[Nat.add_comm,Nat.add_mul_mod_self_right,Nat.mod_eq_of_lt hjl]
 rw[this];simp[hjl,(Array.getElem?_eq_some_iff.1 hj).2]
def zrowB (P:Program) (t:TypeId) (e:Nat) (z:List AV):Bool:=
 match P.underlying t with
 |some (.slice el)=>Nat.blt 0 e&&(match P.info? el with
  |some i=>i.size==e&&Nat.ble i.bytes 4096&&(match i.zero with | some z=>z.cells.size==e | none=>false)
  |none=>false)&&zeroK P el z
 |_=>false
theorem zrowB_spec {t:TypeId} {e:Nat} {z:List AV} (h:zrowB P t e z=true):∃el i z0,P.underlying t=some (.slice el)/\P.info? el=some i/\i.size=e/\i.bytes<=4096/\i.zero=some z0/\z0.cells.size=e/\0<e/\kVals z0.cells.toList z=true:=by
 unfold zrowB at h;split at h
 case h_2=>cases h
 rename_i el hu;simp only[Bool.and_eq_true,Nat.blt_eq]at h;obtain⟨⟨he0,h3⟩,hz⟩:=h;split at h3
 case h_2=>cases h3
 rename_i i hi;simp only[Bool.and_eq_true,beq_iff_eq,Nat.ble_eq]at h3;obtain⟨⟨h4,hb⟩,h6⟩:=h3;split at h6
 case h_2=>cases h6
 rename_i z0 hz0;obtain⟨i',z1,hi',hz1,hcz⟩:=zeroK_spec hz;rw[hi]at hi';cases hi';rw[hz0]at hz1;cases hz1;exact⟨el,i,z0,hu,hi,h4,hb,hz0,by simpa using h6,he0,hcz⟩
theorem wrap_small {m:Int} (h0:0<=m) (h1:m.toNat<=1073741824):IntKind.i64.wrap m=m:=by
 have:m<=1073741824:=by omega
 unfold IntKind.wrap;simp[IntKind.bits,IntKind.signed];omega
theorem appn_ok (r:Rel ν k g) {slot:Nat} {t u ty:TypeId} {e:Nat} {z:List AV} {kd:IntKind} (ht:zrowB P t e z=true) (hd:P.underlying u=some (.int kd)) {v yv:Value} {x n y:AV} (hv:RA ν g v x) (hyv:RA ν g yv n) {h':Hp}
  (e':(appn e slot z x n).run g.h=some (y,h')):Done ν k g h' y ((Builtin.append_ #[t,u] ty #[v,yv]).run P g.w):=by
 obtain⟨el,i,z0,hu,hi,rfl,hb,hz0,hzs,he0,hcz⟩:=zrowB_spec ht;unfold appn at e';split at e'
 case h_2=>exact(Mfail_someZ e').elim
 rename_i ee;obtain⟨m,h1,e1,e2⟩:=Mbind_someZ e';obtain⟨rfl,kk,rfl⟩:=idx_some e1;obtain⟨hok,e4⟩:=M.ok_bind e2;simp only[Bool.and_eq_true,decide_eq_true_eq,beq_iff_eq]at hok;obtain⟨⟨h0,hroom⟩,hzl⟩:=hok;have hroom':m.toNat<=1073741824:=by simpa[roomy]using hroom
 obtain rfl:=hyv.int;have hw:=wrap_small h0 hroom';obtain⟨a,rfl⟩:∃a,v = .slice a 0 0:=by
  cases hv with
  |iv hr=>cases hr with | nsl a _=>exact⟨a,rfl⟩
 have h48:¬(281474976710656<m*(i.bytes:Int)):=by
  have h1:m*(i.bytes:Int)<=1073741824*4096:=Int.mul_le_mul (by omega) (by omega) (by omega) (by omega);omega
 split at e4
 ·rename_i hm0;subst hm0;obtain⟨rfl,rfl⟩:=Mret_someZ e4;refine .same r (v:=.slice a 0 0) ?_ (.iv (.nsl _ _));cases a<;>simp[Builtin.append_,run_underlying hu,run_underlying hd,run_sizeOf hi,asInt,asIntOf,typeInfo,hi,hw,storeCells]
 ·rename_i hm0;obtain⟨_,h4,e5,e6⟩:=Mbind_someZ e4;obtain⟨hf,rfl⟩:=M.fresh_some e5;obtain⟨_,h5,e7,e8⟩:=Mbind_someZ e6;obtain rfl:=Mwrite_someZ e7;obtain⟨rfl,rfl⟩:=Mret_someZ e8;have hpos:0<m.toNat:=by omega
  have hcap:=nextcap_fits (need:=m.toNat) (cap:=0) (bytes:=i.bytes) hpos hroom' hb;have h48':¬(281474976710656<Builtin.nextslicecap m.toNat 0*i.bytes):=by omega
  have hne:¬(m.toNat*i.size=0):=by
   intro h;rcases Nat.mul_eq_zero.1 h with h | h<;>omega
  have hgc:m.toNat<=grownCap g.w m.toNat 0 el:=grownCap_ge _ _ _ _;have hold:(Builtin.firstCells i.size 0 (.slice a 0 0)).run P g.w.drew = .ok #[] g.w.drew:=by
   cases a<;>simp[Builtin.firstCells,loadCells,loadCellsFrom]
  have hrun:(Builtin.append_ #[t,u] ty #[.slice a 0 0,.int kk m]).run P g.w = .ok (.slice (some ⟨g.w.heap.size,0,none⟩) m.toNat (grownCap g.w m.toNat 0 el))
    (g.w.drew.alloc (.cells ((#[]:Array Value)++Builtin.zeroCells z0.cells m.toNat++Builtin.zeroCells z0.cells (grownCap g.w m.toNat 0 el - m.toNat)) el)):=by
   have hm1:¬m<0:=by omega
   have hmle:¬m<=0:=by omega
   have hmx:¬((9223372036854775807:Int)<max m 0):=by omega
   simp[Builtin.append_,run_underlying hu,run_underlying hd,run_sizeOf hi,asInt,asIntOf,typeInfo,hi,hw,hm1,hmle,h48,hmx,h48',Question.forced,hold,hne,zeroValue,hz0,newRow,grownCap]
  rw[hrun];refine newRow_ok r (.inr rfl) hf (.inl (by omega)) (by simp) (λc hc=>by rw[List.eq_of_mem_replicate hc];exact hzl) hgc ?_ λa b c x ha hb'=>?_
  ·simp only[Array.size_append,List.size_toArray,List.length_nil,size_zeroCells,hzs];rw[Nat.zero_add,<-Nat.add_mul];congr 1;omega
  ·rw[List.getElem?_replicate]at ha;split at ha
   ·rename_i ha';cases ha;obtain⟨-,hall⟩:=kVals_ok hcz;obtain⟨v,hv1,hv2⟩:=hall b x hb';have hv1:z0.cells[b]?=some v:=by simpa using hv1
    obtain⟨k1,k2⟩:=kVal_ok (ν:=ν) hv2 g;have hat:=zeroCells_at z0.cells m.toNat a b v ha' hv1;rw[hzs]at hat;refine⟨v,?_,k1,k2⟩;rw[Array.empty_append,Array.getElem?_append_left]
    ·exact hat
    ·exact(Array.getElem?_eq_some_iff.1 hat).1
   ·cases ha
end
section
variable {ν:Nat->Nat} {P:Program} {k:Cx} {g:Gh}
theorem keyB_one {t:TypeId} {qs:List Nat} (h:keyB P t qs=true):(∃n e,P.underlying t=some (.array n e)/\qs.length=n/\qs.length≠1/\tyB P e 1 false=true/\∀q ∈ qs,qtyB q (P.underlying e)=true)\/∃q,qs=[q]/\qtyB q (P.underlying t)=true:=by
 unfold keyB at h;split at h
 ·rename_i n e hu;simp only[Bool.and_eq_true,beq_iff_eq,bne_iff_ne,ne_eq,List.all_eq_true]at h;exact .inl ⟨n,e,hu,h.1.1.1,h.1.1.2,h.1.2,h.2⟩
 ·split at h
  ·rename_i q;exact .inr ⟨q,rfl,h⟩
  ·cases h
theorem items_ok {e:TypeId} (he:tyB P e 1 false=true) {xs ys:Array Value} (d:Nat) (w:World):∀(qs:List Nat) (i:Nat) (cs ds:List AV) (b:Bool),(∀q ∈ qs,qtyB q (P.underlying e)=true)->eqs qs cs ds=some b->
  (∀(j:Nat) (c:AV),cs[j]?=some c->∃v,xs[i+j]?=some v/\RA ν g v c)->(∀(j:Nat) (c:AV),ds[j]?=some c->∃v,ys[i+j]?=some v/\RA ν g v c)->
  (Op.eqItems (d+1) e 1 xs ys (List.range' i qs.length)).run P w = .ok b w:=by
 intro qs
 induction qs with
 |nil=>
  intro i cs ds b _ h2 _ _;cases cs<;>cases ds<;>simp[eqs]at h2;subst h2;simp[Op.eqItems]
 |cons q qs ih=>
  intro i cs ds b h1 h2 hx hy;cases cs with
  |nil=>simp[eqs]at h2
  |cons c cs=>
   cases ds with
   |nil=>simp[eqs]at h2
   |cons d' ds=>
    simp only[eqs,Option.bind_eq_some_iff]at h2;obtain⟨b1,e1,b2,e2,e3⟩:=h2;cases e3;obtain⟨v,hv,hvR⟩:=hx 0 c rfl;obtain⟨u,hu,huR⟩:=hy 0 d' rfl;obtain⟨dd,ii,h3,h4,h5,h6,_⟩:=tyB_spec he;have hp1:(part e xs (i*1)).run P w = .ok v w:=by simp[part,run_isAgg h3,h5,show xs[i]?=some v from hv]
    have hp2:(part e ys (i*1)).run P w = .ok u w:=by simp[part,run_isAgg h3,h5,show ys[i]?=some u from hu]
    have he0:=eq0_ok (P:=P) e1 (h1 q (by simp)) hvR huR d w;have hr:=ih (i+1) cs ds b2 (λq hq=>h1 q (by simp[hq])) e2 (λj c hc=>by have:=hx (j+1) c (by simpa using hc);rwa [show i+1+j=i+(j+1) by omega]) (λj c hc=>by
     have:=hy (j+1) c (by simpa using hc);rwa [show i+1+j=i+(j+1) by omega])
    simp only[List.length_cons,List.range'_succ,Op.eqItems,Sem.run_bind,hp1,hp2,he0,Result.andThen_ok,Sem.run_ite];cases b1
    ·simp
    ·simp[hr]
theorem cellsOf_tyB {e:TypeId} (he:tyB P e 1 false=true):P.cellsOf e=1/\∃i,P.info? e=some i/\i.size=1:=by
 obtain⟨dd,ii,h3,h4,h5,h6,_⟩:=tyB_spec he;exact⟨by simp[Program.cellsOf,h4,h6],ii,h4,h6⟩
theorem key_eq {t:TypeId} {qs:List Nat} (h:keyB P t qs=true) {x y:AV} {b:Bool} (e:eqk qs x y=some b) {v u:Value} (hv:RA ν g v x) (hu:RA ν g u y) (w:World):(Op.equal t v u).run P w = .ok b w:=by
 unfold eqk at e;split at e
 ·split at e
  ·cases e
  rename_i cs ds h1;rcases keyB_one h with⟨n,el,hut,rfl,_,he,hq⟩|⟨q,rfl,_⟩
  ·obtain⟨xs,rfl⟩:=hv.aggv;obtain⟨ys,rfl⟩:=hu.aggv;obtain⟨hc,i,hi,_⟩:=cellsOf_tyB he
   show(Op.equalIn (9999+1) t (.agg xs) (.agg ys)).run P w=_
   rw[run_equalIn_array w 9999 xs ys hut hi,hc,List.range_eq_range'];exact items_ok he 9998 w qs 0 cs ds b hq e (λj c hc=>by simpa using hv.agg_get j c hc) (λj c hc=>by simpa using hu.agg_get j c hc)
  ·simp at h1
 ·split at e
  case isFalse=>cases e
  rename_i x y h1;rcases keyB_one h with⟨n,el,hut,rfl,hne,_⟩|⟨q,rfl,hq⟩
  ·exact absurd h1 hne
  ·simp only[eqs,Option.bind_eq_some_iff]at e;obtain⟨b1,e1,b2,e2,e3⟩:=e;cases e2;cases e3;have:=eq0_ok (P:=P) e1 hq hv hu 9999 w;simpa[Op.equal,Op.maxDepth]using this
 ·cases e
def FindR (es:List MapEntry) (i:Nat):Option (Nat×AV)->Option (Nat×Value)->Prop
 |none,r=>r=none
 |some p,r=>∃e,i<=p.1/\es[p.1 - i]?=some e/\r=some (p.1,e.val)
theorem FindR.up {es:List MapEntry} {e:MapEntry} {i:Nat} {a:Option (Nat×AV)} {r:Option (Nat×Value)} (h:FindR es (i+1) a r):FindR (e::es) i a r:=by
 cases a with
 |none=>exact h
 |some p=>
  obtain⟨e',h1,h2,h3⟩:=h;refine⟨e',by omega,?_,h3⟩;rw[show p.1 - i=(p.1 - (i+1))+1 by omega];simpa using h2
theorem mfind_at {qs:List Nat} {kk:AV}:∀{kvs:List (AV×AV)} {i:Nat} {p:Nat×AV},mfind qs kk kvs i=some (some p)->∃y,i<=p.1/\kvs[p.1 - i]?=some (y,p.2)/\eqk qs kk y=some true
 |[],i,p,h=>by simp[mfind]at h
 |kv::kvs,i,p,h=>by
  unfold mfind at h;split at h
  ·rename_i hk;cases h;exact⟨kv.1,Nat.le_refl _,by simp,hk⟩
  ·obtain⟨y,h1,h2,h3⟩:=mfind_at h;refine⟨y,by omega,?_,h3⟩;rw[show p.1 - i=(p.1 - (i+1))+1 by omega];simpa using h2
  ·cases h
def KeysR (ν:Nat->Nat) (g:Gh) (es:List MapEntry) (kvs:List (AV×AV)):Prop:=es.length=kvs.length/\∀(j:Nat) (e:MapEntry) (p:AV×AV),es[j]?=some e->kvs[j]?=some p->RA ν g e.key p.1
theorem KeysR.cons {e:MapEntry} {es:List MapEntry} {p:AV×AV} {kvs:List (AV×AV)} (h:KeysR ν g (e::es) (p::kvs)):RA ν g e.key p.1/\KeysR ν g es kvs:=
 ⟨h.2 0 e p rfl rfl,by have:=h.1;simpa using this,λj e p h1 h2=>h.2 (j+1) e p (by simpa using h1) (by simpa using h2)⟩
theorem findAsking_ok {t:TypeId} {qs:List Nat} (h:keyB P t qs=true) {x:AV} {v:Value} (hv:RA ν g v x) (w:World):∀(es:List MapEntry) (kvs:List (AV×AV)) (i:Nat) (a:Option (Nat×AV)),KeysR ν g es kvs->mfind qs x kvs i=some a->
  ∃r,(Instr.findAsking t v es i).run P w = .ok r w/\FindR es i a r:=by
 intro es
 induction es with
 |nil=>
  intro kvs i a hR hf;obtain rfl:kvs=[]:=List.eq_nil_of_length_eq_zero hR.1.symm;simp[mfind]at hf;subst hf;exact⟨none,by simp[Instr.findAsking],rfl⟩
 |cons e es ih=>
  intro kvs i a hR hf;cases kvs with
  |nil=>have:=hR.1;simp at this
  |cons p kvs=>
   obtain⟨h0,hR'⟩:=hR.cons;unfold mfind at hf;split at hf
   ·rename_i hk;cases hf;have:=key_eq h hk hv h0 w;exact⟨some (i,e.val),by simp[Instr.findAsking,this],e,Nat.le_refl _,by simp,rfl⟩
   ·rename_i hk;have:=key_eq h hk hv h0 w;obtain⟨r,h1,h2⟩:=ih kvs (i+1) a hR' hf;exact⟨r,by simp[Instr.findAsking,this,h1],h2.up⟩
   ·cases hf
theorem now_eq {q:Nat} {d:TypeDesc} (hq:qtyB q (some d)=true) {x y:AV} {b:Bool} (e:eq0 q x y=some b) {v u:Value} (hv:RA ν g v x) (hu:RA ν g u y):Instr.sameNow d v u=some b:=by
 unfold eq0 at e;split at e
 ·obtain rfl:=hv.int;obtain rfl:=hu.int;obtain⟨kk,h1⟩:=qtyB_int hq;cases h1;simp only[Option.ite_none_right_eq_some,Option.some.injEq]at e;obtain⟨hk,rfl⟩:=e;simp[Instr.sameNow,hk]
 ·cases e;obtain rfl:=hv.bool;obtain rfl:=hu.bool;have:=qtyB_bool hq;cases this;rfl
 ·cases e;obtain rfl:=hv.str;obtain rfl:=hu.str;have:=qtyB_str hq;cases this;rfl
 ·cases e
theorem findNow_ok {q:Nat} {d:TypeDesc} (hq:qtyB q (some d)=true) {x:AV} {v:Value} (hv:RA ν g v x):∀(es:List MapEntry) (kvs:List (AV×AV)) (i:Nat) (a:Option (Nat×AV)),KeysR ν g es kvs->mfind [q] x kvs i=some a->
  ∃r,Instr.findNow d v es i=some r/\FindR es i a r:=by
 intro es
 induction es with
 |nil=>
  intro kvs i a hR hf;obtain rfl:kvs=[]:=List.eq_nil_of_length_eq_zero hR.1.symm;simp[mfind]at hf;subst hf;exact⟨none,by simp[Instr.findNow],rfl⟩
 |cons e es ih=>
  intro kvs i a hR hf;cases kvs with
  |nil=>have:=hR.1;simp at this
  |cons p kvs=>
   obtain⟨h0,hR'⟩:=hR.cons;have key:∀{b:Bool},eqk [q] x p.1=some b->Instr.sameNow d v e.key=some b:=by
    intro b hk;unfold eqk at hk;split at hk
    ·simp at hk
    ·simp only[List.length_singleton,if_true,eqs,Option.bind_eq_some_iff]at hk;obtain⟨b1,e1,b2,e2,e3⟩:=hk;rename_i hp;cases e2;cases e3;rw[<-hp]at e1;simpa using now_eq hq e1 hv h0
    ·cases hk
   unfold mfind at hf;split at hf
   ·rename_i hk;cases hf;exact⟨some (i,e.val),by simp[Instr.findNow,key hk],e,Nat.le_refl _,by simp,rfl⟩
   ·rename_i hk;obtain⟨r,h1,h2⟩:=ih kvs (i+1) a hR' hf;exact⟨r,by simp[Instr.findNow,key hk,h1],h2.up⟩
   ·cases hf
theorem find_ok {t:TypeId} {qs:List Nat} (h:keyB P t qs=true) {x:AV} {v:Value} (hv:RA ν g v x) (w:World) {es:List MapEntry} {kvs:List (AV×AV)} {a:Option (Nat×AV)} (hR:KeysR ν g es kvs) (hf:mfind qs x kvs 0=some a) :
  ∃r,(Instr.findKey t v es).run P w = .ok r w/\FindR es 0 a r:=by
 rcases keyB_one h with⟨n,el,hut,_⟩|⟨q,rfl,hq⟩
 ·rw[run_findKey_eq w (by rw[hut])];exact findAsking_ok h hv w es kvs 0 a hR hf
 ·cases hd:P.underlying t with
  |none=>rw[hd]at hq;simp[qtyB]at hq
  |some d=>
   rw[hd]at hq;obtain⟨r,h1,h2⟩:=findNow_ok hq hv es kvs 0 a hR hf;exact⟨r,Go.MapKept.run_findKey hd h1,h2⟩
theorem basic_check {q:Nat} {e:TypeId} (hq:qtyB q (P.underlying e)=true) (em:Bool) (n:Nat) (v:Value) (w:World):(Instr.checkKey em (n+1) e v).run P w = .ok () w:=by
 cases hd:P.underlying e with
 |none=>rw[hd]at hq;simp[qtyB]at hq
 |some d=>
  rw[hd]at hq;unfold Instr.checkKey;simp only[Sem.run_bind,run_underlying hd,Result.andThen_ok];cases d<;>first | (simp[qtyB]at hq;done) | (cases v<;>rfl)
theorem check_ok {t:TypeId} {qs:List Nat} (h:keyB P t qs=true) {x:AV} (hx:keyOk qs x=true) {v:Value} (hv:RA ν g v x) (em:Bool) (w:World):(Instr.checkKey em 10000 t v).run P w = .ok () w:=by
 rcases keyB_one h with⟨n,el,hut,hn,hne,he,hq⟩|⟨q,rfl,hq⟩
 ·cases x with
  |agg cs=>
   simp only[keyOk,Bool.and_eq_true,beq_iff_eq]at hx;obtain⟨xs,rfl⟩:=hv.aggv;obtain⟨hc,i,hi,hi1⟩:=cellsOf_tyB he
   show(Instr.checkKey em (9999+1) t (.agg xs)).run P w=_
   rw[Instr.checkKey];simp only[Sem.run_bind,run_underlying hut,Result.andThen_ok];simp only[Std.Legacy.Range.forIn_eq_forIn_range',Std.Legacy.Range.size,Nat.sub_zero,Nat.add_one_sub_one,Nat.div_one];have all:∀j ∈ List.range' 0 n,∃c,xs[j]?=some c:=by
    intro j hj;simp only[List.mem_range'_1]at hj;obtain⟨v,hv',_⟩:=hv.agg_get j cs[j] (List.getElem?_eq_getElem (by omega));exact⟨v,hv'⟩
   cases qs with
   |nil=>simp only[List.length_nil]at hn;subst hn;simp
   |cons q qs=>
   have hq0:∀v,(Instr.checkKey em 9999 el v).run P w = .ok () w:=λv=>basic_check (hq q (by simp)) em 9998 v w
   clear hn hx hv;generalize List.range' 0 n=is at all
   induction is with
   |nil=>simp
   |cons j is ih=>
    obtain⟨c,hcj⟩:=all j (by simp);obtain⟨dd,ii,h3,h4,h5,h6,_⟩:=tyB_spec he;have hp:(part el xs (j*1)).run P w = .ok c w:=by simp[part,run_isAgg h3,h5,hcj]
    simp only[List.forIn_cons,Sem.run_bind,run_sizeOf hi,hi1,Result.andThen_ok,hp,hq0,Sem.run_pure];exact ih λy hy=>all y (by simp[hy])
  |iv y=>simp only[keyOk,beq_iff_eq]at hx;exact absurd hx hne
  |_=>simp[keyOk]at hx
 ·exact basic_check hq em 9999 v w
end
def zvK (P:Program) (t:TypeId) (agg:Bool) (z:List AV):Bool:=match P.underlying t with
 |some (.map _ et)=>(match P.info? et with
  |some i=>(match i.zero with
   |some (.agg cs)=>agg&&kVals cs.toList z
   |some (.tuple _)=>false
   |some v=>!agg&&kVals [v] z
   |none=>false)
  |none=>false)
 |_=>false
section
variable {ν:Nat->Nat} {P:Program} {k:Cx} {g:Gh}
theorem lookMap_ok {x:AV} {q:Nat×List (AV×AV)} {h':Hp} (r:Rel ν k g) (e:(lookMap x).run g.h=some (q,h')) {v:Value} (hv:RA ν g v x) :
  h'=g.h/\∃b es clock,x = .ref q.1 0 0 0/\get g.h q.1=some (.map q.2)/\g.φ q.1=some b/\v = .map (some b)/\¬g.I b/\b<g.w.heap.size/\g.w.heap[b]?=some (.map es clock)/\es.size=q.2.length/\MapOK es clock/\
   ∀(j:Nat) (e:MapEntry) (p:AV×AV),es[j]?=some e->q.2[j]?=some p->RA ν g e.key p.1/\RA ν g e.val p.2:=by
 unfold lookMap at e;split at e
 case h_2=>exact(Mfail_someZ e).elim
 rename_i id;obtain⟨ob,hg,e2⟩:=M.look_bind e;cases ob with
 |cells _=>exact(Mfail_someZ e2).elim
 |buf _ _ _=>exact(Mfail_someZ e2).elim
 |imm _ _ _=>exact(Mfail_someZ e2).elim
 |icl _=>exact(Mfail_someZ e2).elim
 |map kvs=>
  obtain⟨rfl,rfl⟩:=Mret_someZ e2;refine⟨rfl,?_⟩;cases hv with
  |ref h1 h=>
   unfold RefAt at h;simp only[hg]at h;obtain⟨-, -, -,b,hφ,rfl⟩:=h;obtain⟨b',es,clock,e1,e2,e3,e4,e5,e7,e6⟩:=r.ob id _ hg;rw[hφ]at e1;cases e1;exact⟨b,es,clock,rfl,hg,hφ,rfl,e2,e3,e4,e5,e7,e6⟩
theorem mmk_ok (r:Rel ν k g) {slot:Nat} {t:TypeId} {y:AV} {h':Hp} (e:((M.fresh (4*slot)).bind λ_=>(M.write (4*slot) (.map [])).bind λ_=>M.ret (.ref (4*slot) 0 0 0)).run g.h=some (y,h')):Done ν k g h' y ((Instr.makeMap t none).run P g.w):=by
 obtain⟨_,h1,e1,e2⟩:=Mbind_someZ e;obtain⟨hf,rfl⟩:=M.fresh_some e1;obtain⟨_,h2,e3,e4⟩:=Mbind_someZ e2;obtain rfl:=Mwrite_someZ e3;obtain⟨rfl,rfl⟩:=Mret_someZ e4;have hnew:(g.w.heap.push (.map #[] 0))[g.w.heap.size]?=some (.map #[] 0):=by simp
 have hold:∀b,b<g.w.heap.size->(g.w.heap.push (.map #[] 0))[b]?=g.w.heap[b]?:=λb h=>by simp[Array.getElem?_push,Nat.ne_of_lt h]
 have hn:=r.new (s:=4*slot) (ob:=.map []) (p:=some g.w.heap.size) (w':={ g.w with heap:=g.w.heap.push (.map #[] 0) }) hf (by simp) rfl rfl rfl hold (λb h=>by cases h;exact Nat.le_refl _) (λb h=>.zero (by omega))
  λ_=>⟨g.w.heap.size,#[],0,updφ_same _ _ _,λhi=>absurd (r.small _ hi) (Nat.lt_irrefl _),by simp,hnew,rfl,⟨by simp,λx hx=>by simp at hx⟩,λj e p h=>by simp at h⟩
 refine⟨_,.map (some g.w.heap.size),rfl,rfl,hn.1,hn.2,.ref rfl ?_⟩;unfold RefAt;simp only[get_set_same,updφ_same];exact⟨trivial,trivial,trivial,_,rfl,rfl⟩
theorem keysR {es:Array MapEntry} {kvs:List (AV×AV)} (h:es.size=kvs.length) (hr:∀(j:Nat) (e:MapEntry) (p:AV×AV),es[j]?=some e->kvs[j]?=some p->RA ν g e.key p.1/\RA ν g e.val p.2):KeysR ν g es.toList kvs:=
 ⟨by simpa using h,λj e p h1 h2=>(hr j e p (by simpa using h1) h2).1⟩
theorem mget_ok (r:Rel ν k g) {t:TypeId} {ok agg:Bool} {qs:List Nat} {z:List AV} (hq:mapB P t qs=true) (hz:zvK P t agg z=true) {m kk y:AV} {vm vk:Value} {h':Hp} (hm:RA ν g vm m) (hk:RA ν g vk kk)
  (e:(mget ok agg qs z m kk).run g.h=some (y,h')):Done ν k g h' y ((Instr.lookup t vm vk ok).run P g.w):=by
 obtain⟨hok,e2⟩:=M.ok_bind e;obtain⟨⟨id,kvs⟩,h2,e3,e4⟩:=Mbind_someZ e2;obtain⟨rfl,b,es,clock, -,hg,hφ,rfl,hnI,hlt,hb,hsz,hst0,hr⟩:=lookMap_ok r e3 hm;obtain⟨a,hf,e6⟩:=M.lift_bind e4;obtain⟨kt,et,hu,hkb⟩:=mapB_spec hq;obtain⟨rr,hfind,hFR⟩:=find_ok hkb hk g.w (keysR hsz hr) hf;have hchk:=check_ok hkb hok hk es.isEmpty g.w;have hget:=MapKept.run_getObj_map (P:=P) hb;cases a with
 |some p=>
  obtain⟨e0, -,he0,rfl⟩:=hFR;obtain⟨yk, -,hp, -⟩:=mfind_at hf;simp only[Nat.sub_zero]at he0 hp;have hval:=(hr p.1 e0 _ (by simpa using he0) hp).2;cases ok with
  |true=>
   simp only[if_true]at e6;obtain⟨rfl,rfl⟩:=Mret_someZ e6;refine .same r (v:=.tuple #[e0.val,.bool true]) (by simp[Instr.lookup,run_underlying hu,hget,hchk,hfind]) ?_;refine .tup rfl λj v c h1 h2=>?_
   match j with
   |0=>simp at h1 h2;subst h1 h2;exact hval
   |1=>simp at h1 h2;subst h1 h2;exact mkBool
   |j+2=>simp at h1
  |false=>
   simp only[Bool.false_eq_true,if_false]at e6;obtain⟨rfl,rfl⟩:=Mret_someZ e6;exact .same r (v:=e0.val) (by simp[Instr.lookup,run_underlying hu,hget,hchk,hfind]) hval
 |none=>
  have hrr:rr=none:=hFR;subst hrr;obtain⟨zv,h4,e7,e8⟩:=Mbind_someZ e6;have key:∃v0,(zeroValue et).run P g.w = .ok v0 g.w/\h4=g.h/\RA ν g v0 zv:=by
   unfold zvK at hz;rw[hu]at hz;simp only at hz;cases hi:P.info? et with
   |none=>rw[hi]at hz;cases hz
   |some i=>
    rw[hi]at hz;simp only at hz;cases hz0:i.zero with
    |none=>rw[hz0]at hz;cases hz
    |some v0=>
     rw[hz0]at hz;have hrun:(zeroValue et).run P g.w = .ok v0 g.w:=by simp[zeroValue,typeInfo,hi,hz0]
     have one:∀{v:Value},kVals [v] z=true->agg=false->(mk agg z).run g.h=some (zv,h4)->h4=g.h/\RA ν g v zv:=by
      intro v hc ha em;subst ha;unfold mk at em;simp only[Bool.false_eq_true,if_false]at em;cases z with
      |nil=>exact(Mfail_someZ em).elim
      |cons z0 zr=>
       cases zr with
       |cons _ _=>exact(Mfail_someZ em).elim
       |nil=>
        obtain⟨rfl,rfl⟩:=Mret_someZ em;simp only[kVals,Bool.and_true]at hc;exact⟨rfl,(kVal_ok hc g).2⟩
     cases v0 with
     |agg cs=>
      simp only[Bool.and_eq_true]at hz;obtain⟨ha,hc⟩:=hz;subst ha;unfold mk at e7;simp only[if_true]at e7;obtain⟨rfl,rfl⟩:=Mret_someZ e7;exact⟨_,hrun,rfl,(kVals_RC hc).agg⟩
     |tuple vs=>cases hz
     |_=>
      simp only[Bool.and_eq_true,Bool.not_eq_true']at hz;exact⟨_,hrun,one hz.2 hz.1 e7⟩
  obtain⟨v0,hrun,rfl,hR0⟩:=key;cases ok with
  |true=>
   simp only[if_true]at e8;obtain⟨rfl,rfl⟩:=Mret_someZ e8;refine .same r (v:=.tuple #[v0,.bool false]) (by simp[Instr.lookup,run_underlying hu,hget,hchk,hfind,hrun]) ?_;refine .tup rfl λj v c h1 h2=>?_
   match j with
   |0=>simp at h1 h2;subst h1 h2;exact hR0
   |1=>simp at h1 h2;subst h1 h2;exact mkBool
   |j+2=>simp at h1
  |false=>
   simp only[Bool.false_eq_true,if_false]at e8;obtain⟨rfl,rfl⟩:=Mret_someZ e8;exact .same r (v:=v0) (by simp[Instr.lookup,run_underlying hu,hget,hchk,hfind,hrun]) hR0
theorem MapOK.modify {es:Array MapEntry} {clock:Nat} (h:MapOK es clock) (i:Nat) (f:MapEntry->MapEntry) (hf:∀e,(f e).born=e.born):MapOK (es.modify i f) clock:=by
 have hb:(es.modify i f).toList.map (·.born)=es.toList.map (·.born):=by
  apply List.ext_getElem?;intro j;simp only[List.getElem?_map,Array.getElem?_toList,Array.getElem?_modify];split
  ·cases es[j]?<;>simp[hf]
  ·rfl
 refine⟨by rw[hb];exact h.1,λx hx=>?_⟩;have:x.born ∈ es.toList.map (·.born):=by rw[<-hb];exact List.mem_map_of_mem hx
 obtain⟨y,hy,hxy⟩:=List.mem_map.1 this;rw[<-hxy];exact h.2 y hy
theorem MapOK.push {es:Array MapEntry} {clock:Nat} (h:MapOK es clock) (e:MapEntry) (he:e.born=clock):MapOK (es.push e) (clock+1):=by
 refine⟨?_,λx hx=>?_⟩
 ·simp only[Array.toList_push,List.map_append,List.map_cons,List.map_nil];refine List.nodup_append.2 ⟨h.1,by simp,λa ha b hb=>?_⟩;obtain⟨y,hy,rfl⟩:=List.mem_map.1 ha;simp at hb;have:=h.2 y hy;omega
 ·simp only[Array.toList_push,List.mem_append,List.mem_singleton]at hx;rcases hx with hx | rfl
  ·exact Nat.lt_succ_of_lt (h.2 x hx)
  ·omega
theorem map_turn (r:Rel ν k g) {id b:Nat} {kvs kvs':List (AV×AV)} {es':Array MapEntry} {clock':Nat} (hg:get g.h id=some (.map kvs)) (hφ:g.φ id=some b) (hnI:¬g.I b) (hlt:b<g.w.heap.size) (hid:id % 4=0) (hsz:es'.size=kvs'.length) (hst0:MapOK es' clock')
  (hr:∀(g':Gh),Mono ν g g'->∀(j:Nat) (e:MapEntry) (p:AV×AV),es'[j]?=some e->kvs'[j]?=some p->RA ν g' e.key p.1/\RA ν g' e.val p.2) :
  ∃g',g'.w={ g.w with heap:=g.w.heap.setIfInBounds b (.map es' clock') }/\g'.h=set g.h id (.map kvs')/\Rel ν k g'/\Mono ν g g':=by
 have ht:=r.turn (s:=id) (ob:=.map kvs') (p:=g.φ id) (w':={ g.w with heap:=g.w.heap.setIfInBounds b (.map es' clock') }) (I':=g.I) hg (λb' h=>by rw[hφ]at h;cases h;exact hnI) (by simp) rfl rfl rfl
  (λb' _ hne=>by
   have:b≠b':=λe=>hne (by rw[hφ,e])
   simp[this])
  (λ_ h=>h) (λ_ h=>.inl h) (.inl rfl) (λ_ _=>.zero hid)
  (λv o n ver ho=>by unfold OwnAt at ho;rw[hg]at ho;exact ho.elim)
  (λv ver i j h=>by
   unfold RefAt at h ⊢;rw[hg]at h;simp only[get_set_same,updφ_same];exact h)
  (λ_ hm=>⟨b,es',clock',(updφ_same _ _ _).trans hφ,hnI,by simpa using hlt,by simp[hlt],hsz,hst0,hr _ hm⟩)
 exact⟨_,rfl,rfl,ht.1,ht.2⟩
theorem same_one {q:Nat} {x y:AV} (e:eq0 q x y=some true) {v u:Value} (hv:RA ν g v x) (hu:RA ν g u y) (n:Nat):Instr.sameBits n u v=true:=by
 unfold eq0 at e;split at e
 ·obtain rfl:=hv.int;obtain rfl:=hu.int;simp only[Option.ite_none_right_eq_some,Option.some.injEq,beq_iff_eq]at e;obtain⟨rfl,rfl⟩:=e;simp[Instr.sameBits]
 ·obtain rfl:=hv.bool;obtain rfl:=hu.bool;simp only[Option.some.injEq,beq_iff_eq]at e;subst e;simp[Instr.sameBits]
 ·obtain rfl:=hv.str;obtain rfl:=hu.str;simp only[Option.some.injEq]at e;simp only[Instr.sameBits];rw[beq_toListBytes]at e ⊢;exact BEq.symm e
 ·cases e
theorem same_cells:∀(qs:List Nat) (cs ds:List AV) (xs ys:List Value),eqs qs cs ds=some true->xs.length=cs.length->ys.length=ds.length->(∀(j:Nat) (v:Value) (c:AV),xs[j]?=some v->cs[j]?=some c->RA ν g v c)->
  (∀(j:Nat) (v:Value) (c:AV),ys[j]?=some v->ds[j]?=some c->RA ν g v c)->((ys.zip xs).all fun(x,y)=>Instr.sameBits 9999 x y)=true/\ys.length=xs.length
 |[],[],[],xs,ys,_,hx,hy,_,_=>by
  obtain rfl:=List.eq_nil_of_length_eq_zero hx;obtain rfl:=List.eq_nil_of_length_eq_zero hy;exact⟨rfl,rfl⟩
 |q::qs,c::cs,d::ds,xs,ys,e,hx,hy,h1,h2=>by
  cases xs with
  |nil=>simp at hx
  |cons v xs=>
   cases ys with
   |nil=>simp at hy
   |cons u ys=>
    simp only[eqs,Option.bind_eq_some_iff]at e;obtain⟨b1,e1,b2,e2,e3⟩:=e;simp only[Option.some.injEq,Bool.and_eq_true]at e3;obtain⟨rfl,rfl⟩:=e3;obtain⟨i1,i2⟩:=same_cells qs cs ds xs ys e2 (by simpa using hx) (by simpa using hy) (λj v c a b=>h1 (j+1) v c (by simpa using a) (by simpa using b)) λj v c a b=>h2 (j+1) v c (by simpa using a) (by simpa using b)
    have hv:=h1 0 v c rfl rfl;have hu:=h2 0 u d rfl rfl;refine⟨?_,by simp[i2]⟩;simp only[List.zip_cons_cons,List.all_cons,Bool.and_eq_true];refine⟨?_,i1⟩;exact same_one e1 hv hu 9999
 |[],_::_,_,_,_,e,_,_,_,_=>by simp[eqs]at e
 |[],[],_::_,_,_,e,_,_,_,_=>by simp[eqs]at e
 |_::_,[],_,_,_,e,_,_,_,_=>by simp[eqs]at e
 |_::_,_::_,[],_,_,e,_,_,_,_=>by simp[eqs]at e
theorem stays_ok {qs:List Nat} {x y:AV} (e:eqk qs x y=some true) {v u:Value} (hv:RA ν g v x) (hu:RA ν g u y) (w:World):(Instr.keyThatStays u v).run P w = .ok v w:=by
 have hs:Instr.sameBits 10000 u v=true:=by
  unfold eqk at e;split at e
  ·split at e
   ·cases e
   rename_i cs ds _;obtain⟨xs,rfl⟩:=hv.aggv;obtain⟨ys,rfl⟩:=hu.aggv;have n1:xs.size=cs.length:=by cases hv;assumption
   have n2:ys.size=ds.length:=by cases hu;assumption
   have r1:∀(j:Nat) (v:Value) (c:AV),xs[j]?=some v->cs[j]?=some c->RA ν g v c:=by cases hv;assumption
   have r2:∀(j:Nat) (v:Value) (c:AV),ys[j]?=some v->ds[j]?=some c->RA ν g v c:=by cases hu;assumption
   obtain⟨i1,i2⟩:=same_cells qs cs ds xs.toList ys.toList e (by simpa using n1) (by simpa using n2) (λj v c a b=>r1 j v c (by simpa using a) b) λj v c a b=>r2 j v c (by simpa using a) b
   show Instr.sameBits (9999+1) (.agg ys) (.agg xs)=true
   simp only[Instr.sameBits,Bool.and_eq_true,beq_iff_eq];exact⟨by simpa using i2,i1⟩
  ·split at e
   case isFalse=>cases e
   rename_i h1;obtain⟨q,rfl⟩:=List.length_eq_one_iff.1 h1;simp only[eqs,Option.bind_eq_some_iff]at e;obtain⟨b1,e1,b2,e2,e3⟩:=e;cases e2;simp only[Bool.and_true,Option.some.injEq]at e3;subst e3;exact same_one e1 hv hu 10000
  ·cases e
 simp[Instr.keyThatStays,hs]
theorem mput_ok (r:Rel ν k g) {t:TypeId} {qs:List Nat} (hq:mapB P t qs=true) {m kk x y:AV} {vm vk vx:Value} {h':Hp} (hm:RA ν g vm m) (hk:RA ν g vk kk) (hx:RA ν g vx x) (e:(mput qs m kk x).run g.h=some (y,h')) :
  ∃g',(Instr.mapUpdate t vm vk vx).run P g.w = .ok () g'.w/\y = .tup []/\g'.h=h'/\Rel ν k g'/\Mono ν g g':=by
 obtain⟨hok,e2⟩:=M.ok_bind e;obtain⟨⟨id,kvs⟩,h2,e3,e4⟩:=Mbind_someZ e2;obtain⟨rfl,b,es,clock, -,hg,hφ,rfl,hnI,hlt,hb,hsz,hst0,hr⟩:=lookMap_ok r e3 hm;obtain⟨hid,e41⟩:=M.ok_bind e4;have hid:id % 4=0:=by simpa using hid
 obtain⟨a,hf,e6⟩:=M.lift_bind e41;obtain⟨kt,et,hu,hkb⟩:=mapB_spec hq;obtain⟨rr,hfind,hFR⟩:=find_ok hkb hk g.w (keysR hsz hr) hf;have hchk:=check_ok hkb hok hk false g.w;have hget:=MapKept.run_getObj_map (P:=P) hb;simp only at hsz hr hg;cases a with
 |some p=>
  obtain⟨e0, -,he0,rfl⟩:=hFR;obtain⟨yk, -,hp,hkk⟩:=mfind_at hf;simp only[Nat.sub_zero]at he0 hp;simp only[Array.getElem?_toList]at he0;have hst:=stays_ok (P:=P) hkk hk (hr p.1 e0 _ he0 hp).1 g.w;obtain⟨_,h4,e7,e8⟩:=Mbind_someZ e6;obtain rfl:=Mwrite_someZ e7;obtain⟨rfl,rfl⟩:=Mret_someZ e8;obtain⟨g',q1,q2,q3,q4⟩:=map_turn (es':=es.modify p.1 λe=>{ e with key:=vk,val:=vx }) (clock':=clock) (kvs':=kvs.set p.1 (kk,x)) r hg hφ hnI hlt hid (by simpa using hsz) (hst0.modify p.1 _ λ_=>rfl) λg' hmn j e q h1 h2=>by
   by_cases hj:p.1=j
   ·subst hj;rw[Array.getElem?_modify,if_pos rfl,he0]at h1;have hl:p.1<kvs.length:=lt_of_some hp;simp[hl]at h2;cases h1;rw[<-h2];exact⟨hmn _ _ hk,hmn _ _ hx⟩
   ·rw[Array.getElem?_modify,if_neg hj]at h1;rw[List.getElem?_set_ne hj]at h2;obtain⟨c1,c2⟩:=hr j e q h1 h2;exact⟨hmn _ _ c1,hmn _ _ c2⟩
  exact⟨g',by simp[Instr.mapUpdate,run_underlying hu,hget,hchk,hfind,he0,hst,MapKept.run_setObj_map (P:=P) _ hb,q1],rfl,q2,q3,q4⟩
 |none=>
  have hrr:rr=none:=hFR;subst hrr;obtain⟨_,h4,e7,e8⟩:=Mbind_someZ e6;obtain rfl:=Mwrite_someZ e7;obtain⟨rfl,rfl⟩:=Mret_someZ e8;obtain⟨g',q1,q2,q3,q4⟩:=map_turn (es':=es.push { key:=vk,val:=vx,born:=clock }) (clock':=clock+1) (kvs':=kvs++[(kk,x)]) r hg hφ hnI hlt hid (by simpa using hsz) (hst0.push _ rfl) λg' hmn j e q h1 h2=>by
   rw[Array.getElem?_push]at h1;split at h1
   ·rename_i hj;cases h1;rw[hj,hsz]at h2;simp at h2;rw[<-h2];exact⟨hmn _ _ hk,hmn _ _ hx⟩
   ·have hl:j<es.size:=(Array.getElem?_eq_some_iff.1 h1).1;rw[List.getElem?_append_left (by omega)]at h2;obtain⟨c1,c2⟩:=hr j e q h1 h2;exact⟨hmn _ _ c1,hmn _ _ c2⟩
  exact⟨g',by simp[Instr.mapUpdate,run_underlying hu,hget,hchk,hfind,MapKept.run_setObj_map (P:=P) _ hb,q1],rfl,q2,q3,q4⟩
end
def aggB (P:Program) (t:TypeId):Bool:=match P.underlying t with | some d=>isAggD d | none=>false
def qfieldsB (P:Program) (r:TypeId->List Nat->Bool):List Field->List Nat->Nat->Bool
 |[],qs,_=>qs.isEmpty
 |f::fs,qs,off=>f.name != "_"&&f.offset==off&&Nat.blt 0 (P.cellsOf f.type)&&Nat.ble (P.cellsOf f.type) qs.length&&r f.type (qs.take (P.cellsOf f.type))&&qfieldsB P r fs (qs.drop (P.cellsOf f.type)) (off+P.cellsOf f.type)
def qtimesB (r:List Nat->Bool) (c:Nat):Nat->List Nat->Bool
 |0,qs=>qs.isEmpty
 |n+1,qs=>Nat.blt 0 c&&Nat.ble c qs.length&&r (qs.take c)&&qtimesB r c n (qs.drop c)
def qsB (P:Program):Nat->TypeId->List Nat->Bool
 |0,_,_=>false
 |d+1,t,qs=>tyB P t qs.length (aggB P t)&&(match P.underlying t with
  |some (.struct fs)=>!P.stoodInHeld t&&qfieldsB P (qsB P d) fs.toList qs 0
  |some (.array n e)=>Nat.blt 0 n&&qtimesB (qsB P d e) (P.cellsOf e) n qs
  |dd=>(match qs with | [q]=>qtyB q dd | _=>false))
section
variable {ν:Nat->Nat} {P:Program} {k:Cx} {g:Gh}
theorem eqs_split:∀(m:Nat) (qs:List Nat) (cs ds:List AV) (b:Bool),eqs qs cs ds=some b->m<=qs.length->
  ∃b1 b2,eqs (qs.take m) (cs.take m) (ds.take m)=some b1/\eqs (qs.drop m) (cs.drop m) (ds.drop m)=some b2/\b=(b1&&b2)
 |0,qs,cs,ds,b,h,_=>⟨true,b,by simp[eqs],by simpa using h,by simp⟩
 |m+1,[],cs,ds,b,h,hm=>by simp at hm
 |m+1,q::qs,[],ds,b,h,_=>by simp[eqs]at h
 |m+1,q::qs,c::cs,[],b,h,_=>by simp[eqs]at h
 |m+1,q::qs,c::cs,d::ds,b,h,hm=>by
  simp only[eqs,Option.bind_eq_some_iff]at h;obtain⟨b0,h0,b',h',hb⟩:=h;cases hb;obtain⟨b1,b2,h1,h2,h3⟩:=eqs_split m qs cs ds b' h' (by simpa using hm);exact⟨b0&&b1,b2,by simp[eqs,h0,h1],by simpa using h2,by rw[h3,Bool.and_assoc]⟩
theorem eqs_len:∀{qs:List Nat} {cs ds:List AV} {b:Bool},eqs qs cs ds=some b->cs.length=qs.length/\ds.length=qs.length
 |[],[],[],b,_=>⟨rfl,rfl⟩
 |[],_::_,_,b,h=>by simp[eqs]at h
 |[],[],_::_,b,h=>by simp[eqs]at h
 |q::qs,[],ds,b,h=>by simp[eqs]at h
 |q::qs,c::cs,[],b,h=>by simp[eqs]at h
 |q::qs,c::cs,d::ds,b,h=>by
  simp only[eqs,Option.bind_eq_some_iff]at h;obtain⟨b0,h0,b',h',hb⟩:=h;obtain⟨h1,h2⟩:=eqs_len h';exact⟨by simp[h1],by simp[h2]⟩
def Is (agg:Bool) (x:AV) (cs:List AV):Prop:=agg=true/\x = .agg cs\/agg=false/\cs=[x]
theorem qsB_ty {d:Nat} {t:TypeId} {qs:List Nat} (h:qsB P d t qs=true):tyB P t qs.length (aggB P t)=true:=by
 cases d with
 |zero=>cases h
 |succ d=>simp only[qsB,Bool.and_eq_true]at h;exact h.1
def DeepAt (ν:Nat->Nat) (P:Program) (g:Gh) (d:Nat):Prop:=
 ∀(t:TypeId) (qs:List Nat),qsB P d t qs=true->∀(cs ds:List AV) (b:Bool),eqs qs cs ds=some b->∀(v u:Value) (x y:AV),Is (aggB P t) x cs->Is (aggB P t) y ds->RA ν g v x->RA ν g u y->
  ∀D,d<=D->∀w:World,(Op.equalIn D t v u).run P w = .ok b w
theorem part_is {t:TypeId} {sz off:Nat} (ht:tyB P t sz (aggB P t)=true) {vs:Array Value} {cs:List AV} (hv:RA ν g (.agg vs) (.agg cs)) (hl:off+sz<=cs.length) (w:World) :
  ∃v x,(part t vs off).run P w = .ok v w/\RA ν g v x/\Is (aggB P t) x ((cs.drop off).take sz):=by
 have hlen:((cs.drop off).take sz).length=sz:=by simp;omega
 cases ha:aggB P t with
 |true=>
  rw[ha]at ht;obtain⟨v,h1,h2⟩:=part_ok ht hv hlen (r:=.agg ((cs.drop off).take sz)) (.inl ⟨rfl,rfl⟩) w;exact⟨v,_,h1,h2,.inl ⟨rfl,rfl⟩⟩
 |false=>
  rw[ha]at ht;obtain⟨_,_,_,_,_,_,h1⟩:=tyB_spec ht;have hsz:=h1 rfl;obtain⟨x,hx⟩:∃x,(cs.drop off).take sz=[x]:=by
   match hc:(cs.drop off).take sz,hlen with
   |[x],_=>exact⟨x,rfl⟩
   |[],h=>simp at h;omega
   |_::_::_,h=>simp at h;omega
  obtain⟨v,h1,h2⟩:=part_ok ht hv hlen (r:=x) (.inr ⟨rfl,hx⟩) w;exact⟨v,x,h1,h2,.inr ⟨rfl,hx⟩⟩
theorem deep_fields {d:Nat} (ih:DeepAt ν P g d) {D:Nat} (hD:d<=D) {vs us:Array Value} {U bs:List AV} (hv:RA ν g (.agg vs) (.agg U)) (hu:RA ν g (.agg us) (.agg bs)):∀(fs:List Field) (qs:List Nat) (off:Nat) (b:Bool) (w:World),
  qfieldsB P (qsB P d) fs qs off=true->eqs qs (U.drop off) (bs.drop off)=some b->(Op.eqFields D vs us fs).run P w = .ok b w:=by
 intro fs
 induction fs with
 |nil=>
  intro qs off b w h e;simp only[qfieldsB,List.isEmpty_iff]at h;subst h;obtain⟨h1,h2⟩:=eqs_len e;rw[List.eq_nil_of_length_eq_zero h1,List.eq_nil_of_length_eq_zero h2]at e;simp[eqs]at e;subst e;simp[Op.eqFields]
 |cons f fs ihf=>
  intro qs off b w h e;simp only[qfieldsB,Bool.and_eq_true,beq_iff_eq,Nat.ble_eq,Nat.blt_eq]at h;obtain⟨⟨⟨⟨⟨hn,hoff⟩,hpos⟩,hfit⟩,hq⟩,hrest⟩:=h;obtain⟨b1,b2,e1,e2,rfl⟩:=eqs_split (P.cellsOf f.type) qs _ _ b e hfit;obtain⟨l1,l2⟩:=eqs_len e;simp only[List.length_drop]at l1 l2;have hty:=qsB_ty hq;have hsz:(qs.take (P.cellsOf f.type)).length=P.cellsOf f.type:=by simp;omega
  rw[hsz]at hty;obtain⟨v1,x1,p1,r1,i1⟩:=part_is hty hv (off:=off) (by omega) w;obtain⟨v2,x2,p2,r2,i2⟩:=part_is hty hu (off:=off) (by omega) w;have he:=ih f.type _ hq _ _ b1 e1 v1 v2 x1 x2 i1 i2 r1 r2 D hD w;rw[List.drop_drop,List.drop_drop]at e2;have hr:=ihf _ _ b2 w hrest e2;have hn':f.name≠"_":=by simpa using hn
  simp only[Op.eqFields,if_pos hn',Sem.run_bind,hoff,p1,p2,he,Result.andThen_ok,Sem.run_ite];cases b1
  ·simp
  ·simp[hr]
theorem deep_items {d:Nat} (ih:DeepAt ν P g d) {D:Nat} (hD:d<=D) {e:TypeId} {vs us:Array Value} {U bs:List AV} (hv:RA ν g (.agg vs) (.agg U)) (hu:RA ν g (.agg us) (.agg bs)):∀(n i:Nat) (qs:List Nat) (b:Bool) (w:World),
  qtimesB (qsB P d e) (P.cellsOf e) n qs=true->eqs qs (U.drop (i*P.cellsOf e)) (bs.drop (i*P.cellsOf e))=some b->(Op.eqItems D e (P.cellsOf e) vs us (List.range' i n)).run P w = .ok b w:=by
 intro n
 induction n with
 |zero=>
  intro i qs b w h e';simp only[qtimesB,List.isEmpty_iff]at h;subst h;obtain⟨h1,h2⟩:=eqs_len e';rw[List.eq_nil_of_length_eq_zero h1,List.eq_nil_of_length_eq_zero h2]at e';simp[eqs]at e';subst e';simp[Op.eqItems]
 |succ n ihn=>
  intro i qs b w h e';simp only[qtimesB,Bool.and_eq_true,Nat.ble_eq,Nat.blt_eq]at h;obtain⟨⟨⟨hpos,hfit⟩,hq⟩,hrest⟩:=h;obtain⟨b1,b2,e1,e2,rfl⟩:=eqs_split (P.cellsOf e) qs _ _ b e' hfit;obtain⟨l1,l2⟩:=eqs_len e';simp only[List.length_drop]at l1 l2;have hty:=qsB_ty hq;have hsz:(qs.take (P.cellsOf e)).length=P.cellsOf e:=by simp;omega
  rw[hsz]at hty;obtain⟨v1,x1,p1,r1,i1⟩:=part_is hty hv (off:=i*P.cellsOf e) (by omega) w;obtain⟨v2,x2,p2,r2,i2⟩:=part_is hty hu (off:=i*P.cellsOf e) (by omega) w;have he:=ih e _ hq _ _ b1 e1 v1 v2 x1 x2 i1 i2 r1 r2 D hD w;rw[List.drop_drop,List.drop_drop,<-Nat.succ_mul]at e2;have hr:=ihn (i+1) _ b2 w hrest e2;simp only[List.range'_succ,Op.eqItems,Sem.run_bind,p1,p2,he,Result.andThen_ok,Sem.run_ite];cases b1
  ·simp
  ·simp[hr]
theorem deep_at (ν:Nat->Nat) (P:Program) (g:Gh):∀d,DeepAt ν P g d
 |0=>λt qs h=>by simp[qsB]at h
 |d+1=>by
  intro t qs h cs ds b e v u x y hx hy hv hu D hD w;obtain⟨D,rfl⟩:∃D',D=D'+1:=⟨D - 1,by omega⟩;have hD:d<=D:=by omega
  have hty:=qsB_ty h;obtain⟨dd,i,hut,hi,ha,hs,h1⟩:=tyB_spec hty;simp only[qsB,Bool.and_eq_true]at h;have h:=h.2;split at h
  ·rename_i fs hu';simp only[Bool.and_eq_true,Bool.not_eq_true']at h;have hagg:aggB P t=true:=by simp[aggB,hu',isAggD]
   rcases hx with⟨-,rfl⟩|⟨h0,_⟩
   case inr=>rw[hagg]at h0;cases h0
   rcases hy with⟨-,rfl⟩|⟨h0,_⟩
   case inr=>rw[hagg]at h0;cases h0
   obtain⟨vs,rfl⟩:=hv.aggv;obtain⟨us,rfl⟩:=hu.aggv;have hfs:P.fieldsOf t=fs:=by simp[Program.fieldsOf,hu']
   rw[run_equalIn_struct w D t vs us (by rw[hfs];exact hu') h.1,hfs];exact deep_fields (deep_at ν P g d) hD hv hu fs.toList qs 0 b w h.2 (by simpa using e)
  ·rename_i n el hu';have hagg:aggB P t=true:=by simp[aggB,hu',isAggD]
   rcases hx with⟨-,rfl⟩|⟨h0,_⟩
   case inr=>rw[hagg]at h0;cases h0
   rcases hy with⟨-,rfl⟩|⟨h0,_⟩
   case inr=>rw[hagg]at h0;cases h0
   obtain⟨vs,rfl⟩:=hv.aggv;obtain⟨us,rfl⟩:=hu.aggv;cases n with
   |zero=>simp[Nat.blt]at h
   |succ n=>
    have hinfo:∃ie,P.info? el=some ie:=by
     simp only[qtimesB,Bool.and_eq_true]at h;obtain⟨_,ie,_,hie,_⟩:=tyB_spec (qsB_ty h.2.1.2);exact⟨ie,hie⟩
    obtain⟨ie,hie⟩:=hinfo;rw[run_equalIn_array w D vs us hu' hie,List.range_eq_range'];exact deep_items (deep_at ν P g d) hD hv hu (n+1) 0 qs b w (by simp only[Bool.and_eq_true]at h;exact h.2) (by simpa using e)
  ·rename_i hns hna;split at h
   ·rename_i q;have hagg:aggB P t=false:=by
     unfold aggB;rw[hut];cases dd with
     |struct fs=>exact absurd hut (hns fs)
     |array n el=>exact absurd hut (hna n el)
     |_=>rfl
    rcases hx with⟨h0,_⟩|⟨-,rfl⟩
    ·rw[hagg]at h0;cases h0
    rcases hy with⟨h0,_⟩|⟨-,rfl⟩
    ·rw[hagg]at h0;cases h0
    simp only[eqs,Option.bind_eq_some_iff]at e;obtain⟨b1,e1,b2,e2,e3⟩:=e;cases e2;cases e3;have:=eq0_ok (P:=P) e1 h hv hu D w;simpa using this
   ·cases h
def eqdB (P:Program) (t:TypeId) (qs:List Nat):Bool:=qsB P 9 t qs&&aggB P t&&!P.eqGuardType P.depth t
theorem eqd_ok (r:Rel ν k g) {t:TypeId} {qs:List Nat} (ht:eqdB P t qs=true) {a b:Operand} {v u:Value} {cs ds:List AV} {z:Bool} (neg:Bool) (hv:RA ν g v (.agg cs)) (hu:RA ν g u (.agg ds)) (e:eqs qs cs ds=some z) :
  Done ν k g g.h (.iv (.bool (if neg then !z else z))) ((do eqGuard (if neg then .neq else .eql) t a b v u;binOp (if neg then .neq else .eql) t v u:Sem Value).run P g.w):=by
 simp only[eqdB,Bool.and_eq_true,Bool.not_eq_true']at ht;obtain⟨⟨h1,h2⟩,h3⟩:=ht;obtain⟨xs,rfl⟩:=hv.aggv;obtain⟨ys,rfl⟩:=hu.aggv;have hrun:=deep_at ν P g 9 t qs h1 cs ds z e _ _ _ _ (.inl ⟨h2,rfl⟩) (.inl ⟨h2,rfl⟩) hv hu 10000 (by omega) g.w;cases neg
 ·refine .same r ?_ mkBool;simp only[Bool.false_eq_true,if_false,Sem.run_bind,run_eqGuard_agg _ _ _ _ _ _ _ h3,Result.andThen_ok,run_eql_struct,hrun]
 ·refine .same r ?_ mkBool;simp only[if_true,Sem.run_bind,run_eqGuard_agg _ _ _ _ _ _ _ h3,Result.andThen_ok,run_neq_struct,hrun]
end
section
variable {ν:Nat->Nat} {P:Program} {k:Cx} {g:Gh}
end
section
variable {ν:Nat->Nat} {P:Program} {k:Cx} {g:Gh}
end
def cOpd (ν:Nat->Nat):Operand->Opd->Bool
 |.tmp t,.t n=>t==n
 |.const v,.c x=>kVal v x
 |.func f,.c (.iv (.fn h []))=>f==ν h
 |_,_=>false
def cOpds (ν:Nat->Nat):List Operand->List Opd->Bool
 |[],[]=>true
 |x::xs,y::ys=>cOpd ν x y&&cOpds ν xs ys
 |_,_=>false
def cOpt (ν:Nat->Nat):Option Operand->Option Opd->Bool
 |none,none=>true
 |some x,some y=>cOpd ν x y
 |_,_=>false
def cParts (ν:Nat->Nat):List (Nat×Operand)->List (Nat×Opd)->Bool
 |[],[]=>true
 |x::xs,y::ys=>x.1==y.1&&cOpd ν x.2 y.2&&cParts ν xs ys
 |_,_=>false
def cPlaced (ν:Nat->Nat) (pl:Nat->Option (Nat×Nat)):List (Nat×Operand)->List (Nat×Nat×Opd)->Bool
 |[],[]=>true
 |x::xs,y::ys=>pl x.1==some (y.1,y.2.1)&&cOpd ν x.2 y.2.2&&cPlaced ν pl xs ys
 |_,_=>false
def isInt (P:Program) (t:TypeId):Bool:=match P.underlying t with | some (.int _)=>true | _=>false
theorem isInt_spec {P:Program} {t:TypeId} (h:isInt P t=true):∃kd,P.underlying t=some (.int kd):=by
 unfold isInt at h;split at h<;>first | exact⟨_,by assumption⟩|cases h
def cOp (P:Program) (ν:Nat->Nat) (op:Op) (io:IOp):Bool:=
 match io with
 |.mov y=>(match op with | .move x | .assign x=>cOpd ν x y | _=>false)
 |.pick c' a' b'=>(match op with | .pick c a b=>cOpd ν c c'&&cOpd ν a a'&&cOpd ν b b' | _=>false)
 |.alloc tag z=>(match op with | .alloc t=>zeroK P t z&&tagB ν t tag z | _=>false)
 |.box tag y=>(match op with | .box t x=>(tag==0||tag==1&&t==ν tyBld)&&cOpd ν x y | _=>false)
 |.build z qs=>(match op with | .build t ps=>zeroK P t z&&(match placesOf P t with | some pl=>cPlaced ν pl ps.toList qs | none=>false) | _=>false)
 |.bsl e z n' qs=>(match op with | .buildSlice t n ps=>n==n'&&bslK P t n e z&&cParts ν ps.toList qs | _=>false)
 |.load agg sz a'=>(match op with | .load t a=>tyB P t sz agg&&cOpd ν a a' | _=>false)
 |.store sz a' x'=>(match op with | .store t a x=>sizeB P t sz&&cOpd ν a a'&&cOpd ν x x' | _=>false)
 |.fadr off x'=>(match op with | .fieldAddr s x f=>fadrB P s f off&&cOpd ν x x' | _=>false)
 |.fld _ _ _ _=>false
 |.iarr _ _ _ _=>false
 |.isl e x' i'=>(match op with | .indexAddr t x i=>sliceB P t e&&cOpd ν x x'&&cOpd ν i i' | _=>false)
 |.xarr _ _ _ _ _=>false
 |.xstr _ _=>false
 |.bin bo q x' y'=>(match op with | .binOp b t x y _=>b==bo&&qOf2 P t q&&cOpd ν x x'&&cOpd ν y y' | _=>false)
 |.eqc neg qs x' y'=>(match op with | .binOp b t x y _=>b==(if neg then .neq else .eql)&&eqdB P t qs&&cOpd ν x x'&&cOpd ν y y' | _=>false)
 |.un uo x'=>(match op with | .unOp u _ x=>u==uo&&cOpd ν x x' | _=>false)
 |.cvi kk x'=>(match op with | .convert s d x=>cviB P s d kk&&cOpd ν x x' | _=>false)
 |.cvs _=>false
 |.slc e x' lo' hi'=>(match op with | .slice t x lo hi none=>sliceB P t e&&cOpd ν x x'&&cOpt ν lo lo'&&cOpt ν hi hi' | _=>false)
 |.slcs _ _ _=>false
 |.slz _ _=>false
 |.sla _ _ _ _=>false
 |.clr _ _ _=>false
 |.len str x'=>(match op with | .call { callee:=.builtin .len,args,argTypes }=>(match args.toList,argTypes.toList with | [x],[t]=>lenB P t str&&cOpd ν x x' | _,_=>false) | _=>false)
 |.app e byte x' y'=>(match op with | .call { callee:=.builtin .append,args,argTypes }=>(match args.toList,argTypes.toList with | [x,y],[t,u]=>appB P t u e&&(!byte||(match P.underlying t with | some (.slice el)=>el==ν tyByte | _=>false))&&cOpd ν x x'&&cOpd ν y y' | _,_=>false) | _=>false)
 |.mn x' ys=>(match op with | .call { callee:=.builtin .min,args,.. }=>cOpds ν args.toList (x'::ys) | _=>false)
 |.mx x' ys=>(match op with | .call { callee:=.builtin .max,args,.. }=>cOpds ν args.toList (x'::ys) | _=>false)
 |.ext x' i'=>(match op with | .extract x i=>i==i'&&cOpd ν x x' | _=>false)
 |.nchk x'=>(match op with | .nilCheck x=>cOpd ν x x' | _=>false)
 |.mkf f' fs' caps'=>(match op with | .makeFunc (.func f) first caps=>f==ν f'&&cOpds ν first.toList fs'&&cOpds ν caps.toList caps' | _=>false)
 |.call _ f' args'=>(match op with | .call { callee:=.value f,args,.. }=>cOpd ν f f'&&cOpds ν args.toList args' | _=>false)
 |.scall f' args'=>(match op with | .call { callee:=.value f,args,.. }=>cOpd ν f f'&&cOpds ν args.toList args' | _=>false)
 |.cvb _=>false
 |.mmk=>(match op with | .makeMap _ none=>true | _=>false)
 |.mget ok agg qs z m' k'=>(match op with | .lookup t m k o=>o==ok&&mapB P t qs&&zvK P t agg z&&cOpd ν m m'&&cOpd ν k k' | _=>false)
 |.mput qs m' k' x'=>(match op with | .mapUpdate t m k x | .insert t m k x=>mapB P t qs&&cOpd ν m m'&&cOpd ν k k'&&cOpd ν x x' | _=>false)
 |.mdel _ _ _=>false
 |.mlen _=>false
 |.dead=>true
 |.capn x'=>(match op with | .call { callee:=.builtin .cap,args,argTypes }=>(match args.toList,argTypes.toList with | [x],[t]=>(match P.underlying t with | some (.slice el)=>(P.info? el).isSome | _=>false)&&cOpd ν x x' | _,_=>false) | _=>false)
 |.appn e z x' y'=>(match op with | .call { callee:=.builtin .append,args,argTypes }=>(match args.toList,argTypes.toList with | [x,y],[t,u]=>zrowB P t e z&&isInt P u&&cOpd ν x x'&&cOpd ν y y' | _,_=>false) | _=>false)
 |.aload _ _=>false
 |.astore _ _=>false
 |.aadd _ _ _=>false
 |.acas _ _ _ _=>false
 |.bs0 e=>(match op with | .buildSlice t n ps=>n==0&&ps.isEmpty&&sliceB P t e | _=>false)
 |.toU _=>false
 |.noesc _=>false
 |.ofU _=>false
 |.usd _=>false
 |.ustr _ _=>false
 |.mks _ _ _=>false
def FrR (ν:Nat->Nat) (g:Gh) (tmps:Array Value) (fr:Fr):Prop:=∀(t:Nat) (x:AV),get fr t=some x->∃v,tmps[t]?=some v/\RA ν g v x
theorem FrR.mono {ν:Nat->Nat} {g g':Gh} {tmps:Array Value} {fr:Fr} (h:FrR ν g tmps fr) (hm:Mono ν g g'):FrR ν g' tmps fr:=
 λt x ht=>let⟨v,h1,h2⟩:=h t x ht;⟨v,h1,hm _ _ h2⟩
section
variable {ν:Nat->Nat} {P:Program} {k:Cx} {g:Gh}
theorem eval_ok {a:Act} {fr:Fr} (hf:FrR ν g a.tmps fr) {x:Operand} {y:Opd} (h:cOpd ν x y=true):RA ν g (a.eval x) (ev fr y):=by
 unfold cOpd at h;split at h
 ·rename_i t n;have:=beq_iff_eq.1 h;subst this;simp only[ev];cases hg:get fr t with
  |none=>exact .undef _
  |some z=>
   obtain⟨v,hv,hR⟩:=hf t z hg;have:a.eval (.tmp t)=v:=by simp[Act.eval,Array.getD,(Array.getElem?_eq_some_iff.1 hv).1,(Array.getElem?_eq_some_iff.1 hv).2]
   rw[this];exact hR
 ·rename_i v x;exact(kVal_ok h g).2
 ·rename_i f h';have:=beq_iff_eq.1 h;subst this;exact .iv (.fn h' #[] [] rfl λj v x h=>by simp at h)
 ·cases h
theorem evals_ok {a:Act} {fr:Fr} (hf:FrR ν g a.tmps fr):∀{xs:List Operand} {ys:List Opd},cOpds ν xs ys=true->
  (xs.map a.eval).length=(ys.map (ev fr)).length/\∀(j:Nat) (v:Value) (x:AV),(xs.map a.eval)[j]?=some v->(ys.map (ev fr))[j]?=some x->RA ν g v x
 |[],[],_=>⟨rfl,λj v x h=>by simp at h⟩
 |x::xs,y::ys,h=>by
  simp only[cOpds,Bool.and_eq_true]at h;obtain⟨h1,h2⟩:=evals_ok hf h.2;refine⟨by simpa using h1,λj v z hv hz=>?_⟩;cases j with
  |zero=>simp at hv hz;subst hv hz;exact eval_ok hf h.1
  |succ j=>exact h2 j v z (by simpa using hv) (by simpa using hz)
 |[],_::_,h=>by simp[cOpds]at h
 |_::_,[],h=>by simp[cOpds]at h
theorem evalo_ok {a:Act} {fr:Fr} (hf:FrR ν g a.tmps fr) {x:Option Operand} {y:Option Opd} (h:cOpt ν x y=true):RO ν g (x.map a.eval) (y.map (ev fr)):=by
 cases x<;>cases y<;>simp[cOpt]at h
 ·trivial
 ·exact eval_ok hf h
theorem fill_placed {a:Act} {fr:Fr} (hf:FrR ν g a.tmps fr) {pl:Nat->Option (Nat×Nat)}:∀(ps:List (Nat×Operand)) (qs:List (Nat×Nat×Opd)) (cells:Array Value) (cs:List AV) (n:Nat) (l:List (Nat×List AV)) (h h':Hp),
  cPlaced ν pl ps qs=true->RC ν g cells cs->cs.length=n->
  (M.mapL (λp:Nat×Nat×Opd=>(cellsM (ev fr p.2.2)).bind λl=>(M.ok (l.length==p.2.1&&Nat.ble (p.1+p.2.1) n)).bind λ_=>M.ret (p.1,l)) qs).run h=some (l,h')->
  h'=h/\∃cells',Instr.fill pl cells (ps.map λp=>(p.1,a.eval p.2))=some cells'/\RC ν g cells' (putAll cs l):=by
 intro ps
 induction ps with
 |nil=>
  intro qs cells cs n l h h' hc hr _ e;cases qs with
  |cons=>simp[cPlaced]at hc
  |nil=>
   obtain⟨rfl,rfl⟩:=MmapL_nilZ e;exact⟨rfl,cells,rfl,hr⟩
 |cons p ps ih=>
  intro qs cells cs n l h h' hc hr hn e;cases qs with
  |nil=>simp[cPlaced]at hc
  |cons q qs=>
   simp only[cPlaced,Bool.and_eq_true,beq_iff_eq]at hc;obtain⟨⟨hpl,hq⟩,hrest⟩:=hc;obtain⟨y,h1,zs,e1,e2,rfl⟩:=MmapL_consZ e;obtain⟨xs,h2,e3,e4⟩:=Mbind_someZ e1;obtain⟨rfl,hs,hcc⟩:=cells_run e3 (eval_ok hf hq);obtain⟨hok,e6⟩:=M.ok_bind e4;obtain⟨rfl,rfl⟩:=Mret_someZ e6;simp only[Bool.and_eq_true,beq_iff_eq,Nat.ble_eq]at hok;have hfit:q.1+xs.length<=cs.length:=by omega
   have hsp:=hr.splice (us:=(a.eval p.2).cells) (l:=xs) (o:=q.1) ⟨hs,hcc⟩ hfit;obtain⟨rfl,c',hfill,hR⟩:=ih qs _ _ n zs h1 h' hrest hsp (by rw[splice_length _ _ _ hfit];exact hn) e2;refine⟨rfl,c',?_,hR⟩;rw[<-hfill];simp only[List.map_cons,Instr.fill,hpl];have hfit':¬(((a.eval p.2).cells.size≠q.2.1||q.1+(a.eval p.2).cells.size > cells.size)=true):=by
    have:=hr.1;simp;omega
   rw[if_neg hfit',<-Array.foldl_toList,Array.toList_zipIdx]
theorem build_ok (r:Rel ν k g) {a:Act} {fr:Fr} (hf:FrR ν g a.tmps fr) {t:TypeId} {z:List AV} {ps:Array (Nat×Operand)} {qs:List (Nat×Nat×Opd)} {pl:Nat->Option (Nat×Nat)}
  (hz:zeroK P t z=true) (hp:placesOf P t=some pl) (hc:cPlaced ν pl ps.toList qs=true) {y:AV} {h':Hp}
  (e:((M.mapL (λp:Nat×Nat×Opd=>(cellsM (ev fr p.2.2)).bind λl=>(M.ok (l.length==p.2.1&&Nat.ble (p.1+p.2.1) z.length)).bind λ_=>M.ret (p.1,l)) qs).bind λl=>M.ret (.agg (putAll z l))).run g.h=some (y,h')) :
  Done ν k g h' y ((Instr.build t (ps.map fun(i,x)=>(i,a.eval x))).run P g.w):=by
 obtain⟨l,h1,e1,e2⟩:=Mbind_someZ e;obtain⟨rfl,rfl⟩:=Mret_someZ e2;obtain⟨i,v,hi,hzv,hcv⟩:=zeroK_spec hz;have hrc:=kVals_RC (ν:=ν) (g:=g) hcv;obtain⟨rfl,cells',hfill,hR⟩:=fill_placed hf ps.toList qs v.cells z z.length l _ _ hc hrc rfl e1;refine .same r (run_build g.w t _ cells' ?_) hR.agg;rw[built_ok hp hi hzv rfl];simpa using hfill
end
def RL (ν:Nat->Nat) (g:Gh) (vs:List Value) (xs:List AV):Prop:=vs.length=xs.length/\∀(j:Nat) (v:Value) (x:AV),vs[j]?=some v->xs[j]?=some x->RA ν g v x
section
variable {ν:Nat->Nat} {P:Program} {k:Cx} {g:Gh}
theorem RL.nil:RL ν g [] []:=⟨rfl,λj v x h=>by simp at h⟩
theorem RL.cons {v:Value} {x:AV} {vs:List Value} {xs:List AV} (h:RA ν g v x) (hl:RL ν g vs xs):RL ν g (v::vs) (x::xs):=
 ⟨by simp[hl.1],λj v' x' h1 h2=>by
  cases j with
  |zero=>simp at h1 h2;subst h1 h2;exact h
  |succ j=>exact hl.2 j v' x' (by simpa using h1) (by simpa using h2)⟩
theorem RL.tail {v:Value} {x:AV} {vs:List Value} {xs:List AV} (h:RL ν g (v::vs) (x::xs)):RA ν g v x/\RL ν g vs xs:=
 ⟨h.2 0 v x rfl rfl,by have:=h.1;simpa using this,λj v' x' h1 h2=>h.2 (j+1) v' x' (by simpa using h1) (by simpa using h2)⟩
theorem RL.mono {g':Gh} {vs:List Value} {xs:List AV} (h:RL ν g vs xs) (hm:∀v x,RA ν g v x->RA ν g' v x):RL ν g' vs xs:=⟨h.1,λj v x h1 h2=>hm _ _ (h.2 j v x h1 h2)⟩
theorem RL.append {vs us:List Value} {xs ys:List AV} (h:RL ν g vs xs) (h':RL ν g us ys):RL ν g (vs++us) (xs++ys):=
 ⟨by simp[h.1,h'.1],λj v x h1 h2=>by
  rw[List.getElem?_append]at h1 h2;rw[<-h.1]at h2;split at h1
  ·rename_i hj;rw[if_pos hj]at h2;exact h.2 j v x h1 h2
  ·rename_i hj;rw[if_neg hj]at h2;exact h'.2 _ v x h1 h2⟩
theorem fz1T (r:Rel ν k g) {a:AV} {y:Arb.AV} {h':Hp} (e:(fz1 true a).run g.h=some (y,h')) {v:Value} (hv:RA ν g v a):∃I',Froze ν k g h' I'/\RC0 ν I' g.w v y:=by
 have plain:∀{a:AV},((fz true 8 a).bind λx=>M.ret (Arb.AV.iv x)).run g.h=some (y,h')->RA ν g v a->∃I',Froze ν k g h' I'/\RC0 ν I' g.w v y:=by
  intro a e hv;obtain⟨x,h1,e1,e2⟩:=Mbind_someZ e;obtain⟨rfl,rfl⟩:=Mret_someZ e2;obtain⟨I',f,hR⟩:=fzT_spec ν 8 k g a x _ e1 r v hv;exact⟨I',f,.iv hR⟩
 cases a with
 |agg cs=>
  obtain⟨xs,h1,e1,e2⟩:=Mbind_someZ e;obtain⟨rfl,rfl⟩:=Mret_someZ e2;obtain⟨vs,rfl⟩:=hv.aggv;obtain⟨V,hV⟩:=pick λj c hc=>hv.agg_get j c hc
  obtain⟨I',f,hl,hx⟩:=(fzT_spec ν 8).list cs k g xs _ e1 r V λj c hc=>(hV j c hc).2
  refine⟨I',f,agg_plain ?_ λj v x h1 h2=>?_⟩
  ·cases hv with
   |agg hn _ _=>omega
  ·have hlt:=lt_of_some h2;have:=(hV j _ (List.getElem?_eq_getElem (show j<cs.length by omega))).1;rw[h1]at this;cases this;exact hx j x h2
 |undef=>exact plain e hv
 |nul q=>exact plain e hv
 |iv x=>exact plain e hv
 |tup vs=>exact plain e hv
 |own id o n v=>exact plain e hv
 |ref id v i j=>exact plain e hv
 |clo f fs caps=>exact plain e hv
theorem fz1F (r:Rel ν k g) {a:AV} {y:Arb.AV} {h':Hp} (e:(fz1 false a).run g.h=some (y,h')) {v:Value} (hv:RA ν g v a) :
  h'=g.h/\∀J:Nat->Prop,(∀b,g.I b->J b)->(∀id o b,get g.h id=some o->g.φ id=some b->J b)->RC0 ν J g.w v y:=by
 have plain:∀{a:AV},((fz false 8 a).bind λx=>M.ret (Arb.AV.iv x)).run g.h=some (y,h')->RA ν g v a->
   h'=g.h/\∀J:Nat->Prop,(∀b,g.I b->J b)->(∀id o b,get g.h id=some o->g.φ id=some b->J b)->RC0 ν J g.w v y:=by
  intro a e hv;obtain⟨x,h1,e1,e2⟩:=Mbind_someZ e;obtain⟨rfl,rfl⟩:=Mret_someZ e2;obtain⟨rfl,hR⟩:=fzF_spec ν 8 k g a x _ e1 r v hv;exact⟨rfl,λJ h1 h2=>.iv (hR J h1 h2)⟩
 cases a with
 |agg cs=>
  obtain⟨xs,h1,e1,e2⟩:=Mbind_someZ e;obtain⟨rfl,rfl⟩:=Mret_someZ e2;obtain⟨vs,rfl⟩:=hv.aggv;obtain⟨V,hV⟩:=pick λj c hc=>hv.agg_get j c hc
  obtain⟨rfl,hl,hx⟩:=(fzF_spec ν 8).list k g r cs xs _ e1 V λj c hc=>(hV j c hc).2
  refine⟨rfl,λJ h1 h2=>agg_plain ?_ λj v x h3 h4=>?_⟩
  ·cases hv with
   |agg hn _ _=>omega
  ·have hlt:=lt_of_some h4;have:=(hV j _ (List.getElem?_eq_getElem (show j<cs.length by omega))).1;rw[h3]at this;cases this;exact hx J h1 h2 j x h4
 |undef=>exact plain e hv
 |nul q=>exact plain e hv
 |iv x=>exact plain e hv
 |tup vs=>exact plain e hv
 |own id o n v=>exact plain e hv
 |ref id v i j=>exact plain e hv
 |clo f fs caps=>exact plain e hv
theorem fz1T_list:∀(U:List AV) (k:Cx) (g:Gh) (ys:List Arb.AV) (h':Hp),(M.mapL (fz1 true) U).run g.h=some (ys,h')->Rel ν k g->∀vs:List Value,RL ν g vs U->
  ∃I',Froze ν k g h' I'/\Arb.RL ν ⟨I',λ_=>none,g.w,[]⟩ vs ys:=by
 intro U
 induction U with
 |nil=>
  intro k g ys h' e r vs hv;obtain⟨rfl,rfl⟩:=MmapL_nilZ e;have:vs=[]:=List.eq_nil_of_length_eq_zero hv.1;subst this;exact⟨g.I,.refl r,Arb.RL.nil⟩
 |cons a U ih=>
  intro k g ys h' e r vs hv;cases vs with
  |nil=>have:=hv.1;simp at this
  |cons v vs=>
   obtain⟨y,h1,zs,e1,e2,rfl⟩:=MmapL_consZ e;obtain⟨I1,f1,hR⟩:=fz1T r e1 hv.tail.1;obtain⟨I2,f2,hRL⟩:=ih k _ zs h' e2 f1.rel vs (hv.tail.2.mono f1.mono);exact⟨I2,f1.trans f2,Arb.RL.cons (hR.mono λv x h=>h.mono f2.sub λ_ _ _ _ h=>h) hRL⟩
theorem fz1F_list (r:Rel ν k g):∀(U:List AV) (ys:List Arb.AV) (h':Hp),(M.mapL (fz1 false) U).run g.h=some (ys,h')->∀vs:List Value,RL ν g vs U->
  h'=g.h/\∀J:Nat->Prop,(∀b,g.I b->J b)->(∀id o b,get g.h id=some o->g.φ id=some b->J b)->Arb.RL ν ⟨J,λ_=>none,g.w,[]⟩ vs ys:=by
 intro U
 induction U with
 |nil=>
  intro ys h' e vs hv;obtain⟨rfl,rfl⟩:=MmapL_nilZ e;have:vs=[]:=List.eq_nil_of_length_eq_zero hv.1;subst this;exact⟨rfl,λ_ _ _=>Arb.RL.nil⟩
 |cons a U ih=>
  intro ys h' e vs hv;cases vs with
  |nil=>have:=hv.1;simp at this
  |cons v vs=>
   obtain⟨y,h1,zs,e1,e2,rfl⟩:=MmapL_consZ e;obtain⟨rfl,hR⟩:=fz1F r e1 hv.tail.1;obtain⟨rfl,hRL⟩:=ih zs h' e2 vs hv.tail.2;exact⟨rfl,λJ h1 h2=>Arb.RL.cons (hR J h1 h2) (hRL J h1 h2)⟩
theorem allIv_ok:∀{cs:List Arb.AV} {xs:List IV},allIv cs=some xs->cs=xs.map .iv
 |[],xs,h=>by simp[allIv]at h;subst h;rfl
 |.iv x::r,xs,h=>by
  simp only[allIv,Option.map_eq_some_iff]at h;obtain⟨ys,h1,rfl⟩:=h;rw[allIv_ok h1];rfl
 |.undef::_,_,h=>by simp[allIv]at h
 |.agg _::_,_,h=>by simp[allIv]at h
 |.tup _::_,_,h=>by simp[allIv]at h
 |.own _ _ _ _::_,_,h=>by simp[allIv]at h
 |.ref _ _ _ _::_,_,h=>by simp[allIv]at h
 |.clo _ _::_,_,h=>by simp[allIv]at h
theorem of1_ok {I:Nat->Prop} {w:World} {v:Value} {a:Arb.AV} {y:AV} (h:RC0 ν I w v a) (e:of1 a=some y) (hR:∀v x,RI ν I w v x->RI ν g.I g.w v x):RA ν g v y:=by
 cases a with
 |iv x=>
  simp[of1]at e;subst e;cases h with
  |iv h=>exact .iv (hR _ _ h)
 |agg cs=>
  simp only[of1,Option.map_eq_some_iff]at e;obtain⟨xs,h1,rfl⟩:=e;obtain rfl:=allIv_ok h1;cases h with
  |agg hn h1 hr=>
   refine .agg (by simpa using hn) h1 λj v c hv hc=>?_
   simp only[List.getElem?_map,Option.map_eq_some_iff]at hc;obtain⟨x,hx,rfl⟩:=hc;have:=hr j v (.iv x) hv (by simp[hx]);cases this with
   |iv h=>exact .iv (hR _ _ h)
 |undef=>cases e
 |tup _=>cases e
 |own _ _ _ _=>cases e
 |ref _ _ _ _=>cases e
 |clo _ _=>cases e
theorem ofL_ok:∀{U:List Arb.AV} {ys:List AV},ofL U=some ys->U.length=ys.length/\∀(j:Nat) (a:Arb.AV) (y:AV),U[j]?=some a->ys[j]?=some y->of1 a=some y
 |[],ys,h=>by simp[ofL]at h;subst h;exact⟨rfl,λj a y h=>by simp at h⟩
 |a::U,ys,h=>by
  simp only[ofL,Option.bind_eq_some_iff,Option.map_eq_some_iff]at h;obtain⟨y,h1,zs,h2,rfl⟩:=h;obtain⟨q1,q2⟩:=ofL_ok h2;refine⟨by simp[q1],λj a' y' ha hy=>?_⟩;cases j with
  |zero=>simp at ha hy;subst ha hy;exact h1
  |succ j=>exact q2 j a' y' (by simpa using ha) (by simpa using hy)
theorem ofA_ok {I:Nat->Prop} {w:World} {v:Value} {a:Arb.AV} {y:AV} (h:RC0 ν I w v a) (e:ofA a=some y) (hR:∀v x,RI ν I w v x->RI ν g.I g.w v x):RA ν g v y:=by
 cases a with
 |tup vs=>
  simp only[ofA,Option.map_eq_some_iff]at e;obtain⟨ys,h1,rfl⟩:=e;obtain⟨q1,q2⟩:=ofL_ok h1;cases h with
  |tup hn hr=>
   refine .tup (by omega) λj v c hv hc=>?_
   have hj:j<vs.length:=by have:=lt_of_some hc;omega
   exact of1_ok (hr j v _ hv (List.getElem?_eq_getElem hj)) (q2 j _ c (List.getElem?_eq_getElem hj) hc) hR
 |iv x=>exact of1_ok h e hR
 |agg cs=>exact of1_ok h e hR
 |undef=>cases e
 |own _ _ _ _=>cases e
 |ref _ _ _ _=>cases e
 |clo _ _=>cases e
def CallOK (ν:Nat->Nat) (P:Program) (f:Nat) (args:List AV) (hp:Hp) (r:AV) (hp':Hp):Prop:=
 ∀(k0:Cx) (g0:Gh) (cargs:Array Value),g0.h=hp->Rel ν k0 g0->RL ν g0 cargs.toList args->
  Calls P (ν f) cargs g0.w λe w'=>∃v g',e = .returned v/\g'.w=w'/\g'.h=hp'/\Rel ν k0 g'/\Mono ν g0 g'/\RA ν g' v r
def CallSound (ν:Nat->Nat) (P:Program) (call:CallX):Prop:=
 ∀f args hp nx r hp' nx',call f args hp nx=some (r,hp',nx')->(∃fn,P.funcs[ν f]?=some fn/\fn.body.isSome=true/\(fn.name=="runtime.NumGoroutine")=false)/\CallOK ν P f args hp r hp'
theorem callee_ok {x:AV} {q:Nat×List AV×List AV} (e:callee x=some q) {v:Value} (hv:RA ν g v x):∃first caps,v = .func (.func (ν q.1)) first caps/\RL ν g first.toList q.2.1/\RL ν g caps.toList q.2.2:=by
 unfold callee at e;split at e
 ·cases e;cases hv with
  |iv h=>
   cases h with
   |fn f caps cs hn hr=>
    refine⟨#[],caps,rfl,.nil,by simpa using hn,λj v x h1 h2=>?_⟩;simp only[List.getElem?_map,Option.map_eq_some_iff]at h2;obtain⟨y,hy,rfl⟩:=h2;exact .iv (hr j v y (by simpa using h1) hy)
 ·cases e;cases hv with
  |clo hm hs hn hr=>exact⟨_,_,rfl,⟨by simpa using hm,λj v x h1 h2=>hs j v x (by simpa using h1) h2⟩,by simpa using hn,λj v x h1 h2=>hr j v x (by simpa using h1) h2⟩
 ·cases e
theorem enter_run {ρ:Operand->Value} {o:Oper} {fo:Operand} {cargs:Array Operand} {tys:Array TypeId} (ho:o.op = .call { callee:=.value fo,args:=cargs,argTypes:=tys }) {f:Nat} {first caps:Array Value}
  (hf:ρ fo = .func (.func (ν f)) first caps) {fn:Func} (hfn:P.funcs[ν f]?=some fn) (hb:fn.body.isSome=true) (hn:(fn.name=="runtime.NumGoroutine")=false) (w:World) :
  (execOp ρ o).run P w = .ok (.enter (ν f) (first++cargs.map ρ++caps)) w:=by
 have hb':¬fn.body=none:=λh=>by rw[h]at hb;cases hb
 have hn':¬fn.name="runtime.NumGoroutine":=by simpa using hn
 simp[execOp,ho,resolve,hf,Deferred.ofValue,invoke,callFunc,hfn,hb',hn']
def CallDone (ν:Nat->Nat) (P:Program) (k:Cx) (g:Gh) (h':Hp) (y:AV) (fv:Value) (cargs:Array Value):Prop:=
 ∃q first caps fn,fv = .func (.func (ν q)) first caps/\P.funcs[ν q]?=some fn/\fn.body.isSome=true/\(fn.name=="runtime.NumGoroutine")=false/\
  Calls P (ν q) (first++cargs++caps) g.w λe w'=>∃v g',e = .returned v/\g'.w=w'/\g'.h=h'/\Rel ν k g'/\Mono ν g g'/\RA ν g' v y
theorem args_all {q:Nat×List AV×List AV} {first caps cargs:Array Value} {args:List AV} (h1:RL ν g first.toList q.2.1) (h2:RL ν g caps.toList q.2.2) (ha:RL ν g cargs.toList args) :
  RL ν g (first++cargs++caps).toList (q.2.1++(args++q.2.2)):=by
 have:=h1.append (ha.append h2);simpa using this
theorem world_next (r:Rel ν k g) {J:Nat->Prop} {g':Arb.Gh} (r':Arb.Rel ν ⟨g.w,J,λ_=>False⟩ g'):Rel ν k { g with w:=g'.w }/\Mono ν g { g with w:=g'.w }:=
 r.world (I':=g.I) (λ_ h=>h) (λ_ h=>.inl h) r'.size r'.os r'.tape r'.output λb hb=>r'.old b hb (.inl λh=>h)
theorem callM_ok {call:Call1} (hs:Arb.CallSound ν P call) (r:Rel ν k g) {f y:AV} {args:List AV} {h':Hp} (e:(callM call f args).run g.h=some (y,h')) {fv:Value} {cargs:Array Value}
  (hf:RA ν g fv f) (ha:RL ν g cargs.toList args):CallDone ν P k g h' y fv cargs:=by
 obtain⟨q,hq,e2⟩:=M.lift_bind e;obtain⟨first,caps,rfl,hfirst,hcaps⟩:=callee_ok hq hf;obtain⟨U,h2,e3,e4⟩:=Mbind_someZ e2;obtain⟨rfl,hJ⟩:=fz1F_list r _ _ _ e3 _ (args_all hfirst hcaps ha);obtain⟨y',hc,e6⟩:=M.lift_bind e4;obtain⟨hfl,e8⟩:=M.ok_bind e6;obtain⟨hof,rfl⟩:=Mlift_someZ e8;obtain⟨⟨rr,hh⟩,hcall,hshut⟩:=Option.bind_eq_some_iff.1 hc;obtain⟨⟨fn,hfn,hb,hn⟩,hok⟩:=hs _ _ _ _ _ hcall;have hsm:∀b,(g.I b\/∃id o,get g.h id=some o/\g.φ id=some b)->b<g.w.heap.size:=by
  rintro b (h | ⟨id,o,ho,hφ⟩)
  ·exact r.small b h
  ·exact(r.ob id o ho).block hφ r.small
 have hRL:=hJ (λb=>g.I b\/∃id o,get g.h id=some o/\g.φ id=some b) (λ_ h=>.inl h) λid o b h1 h2=>.inr ⟨id,o,h1,h2⟩
 refine⟨q.1,first,caps,fn,rfl,hfn,hb,hn,(hok ⟨g.w,_,λ_=>False⟩ ⟨_,λ_=>none,g.w,[]⟩ _ rfl rfl rfl (Arb.rel_none (g:=⟨λ_=>False,λ_=>none,g.w,[]⟩) hsm) hRL).mono ?_⟩;rintro e w' ⟨v,g',rfl,rfl,rfl,r', -,hR⟩;obtain⟨I',h'', -,hR'⟩:=shut_ok r' hshut hR;obtain⟨r2,m2⟩:=world_next r r';exact⟨v,{ g with w:=g'.w },rfl,rfl,rfl,r2,m2,ofA_ok (I:=g.I) (w:=g'.w) (flat_any hfl hR') hof λ_ _ h=>h⟩
theorem fcallM_ok {call:Call1} (hs:Arb.CallSound ν P call) (r:Rel ν k g) {f y:AV} {args:List AV} {h':Hp} (e:(fcallM call f args).run g.h=some (y,h')) {fv:Value} {cargs:Array Value}
  (hf:RA ν g fv f) (ha:RL ν g cargs.toList args):CallDone ν P k g h' y fv cargs:=by
 obtain⟨q,hq,e2⟩:=M.lift_bind e;obtain⟨first,caps,rfl,hfirst,hcaps⟩:=callee_ok hq hf;obtain⟨U,h2,e3,e4⟩:=Mbind_someZ e2;obtain⟨I1,f1,hRL⟩:=fz1T_list _ k g U _ e3 r _ (args_all hfirst hcaps ha);obtain⟨y',hc,e6⟩:=M.lift_bind e4;obtain⟨hof,rfl⟩:=Mlift_someZ e6;obtain⟨⟨rr,hh⟩,hcall,hshut⟩:=Option.bind_eq_some_iff.1 hc;obtain⟨⟨fn,hfn,hb,hn⟩,hok⟩:=hs _ _ _ _ _ hcall;refine⟨q.1,first,caps,fn,rfl,hfn,hb,hn,(hok ⟨g.w,_,λ_=>False⟩ ⟨_,λ_=>none,g.w,[]⟩ _ rfl rfl rfl (Arb.rel_none (g:=⟨λ_=>False,λ_=>none,g.w,[]⟩) f1.rel.small) hRL).mono ?_⟩;rintro e w' ⟨v,g',rfl,rfl,rfl,r', -,hR⟩;obtain⟨I2,h'',f2,hR'⟩:=shut_ok r' hshut hR
 have hup:∀b,I2 b->I1 b\/g.w.heap.size<=b/\b<g'.w.heap.size:=by
  intro b hb;have hlt:=f2.rel.small b hb;rcases f2.rel.i1 b hb with h | h | h
  ·exact .inl h
  ·exact h.elim
  ·exact .inr ⟨h,hlt⟩
 have hw:=f1.rel.world (w':=g'.w) (I':=I2) (λb h=>f2.sub b (r'.i0 b h)) hup r'.size r'.os r'.tape r'.output λb hb=>r'.old b hb (.inl λh=>h)
 exact⟨v,⟨I2,g.φ,g'.w,_⟩,rfl,rfl,rfl,hw.1,f1.mono.trans hw.2,ofA_ok hR' hof λv x h=>h⟩
end
theorem M.mapL_map {α β γ:Type} (f:β->M γ) (h:α->β):∀l:List α,M.mapL f (l.map h)=M.mapL (λx=>f (h x)) l
 |[]=>rfl
 |x::r=>by simp only[List.map_cons,M.mapL,M.mapL_map f h r]
section
variable {ν:Nat->Nat} {P:Program} {k:Cx} {g:Gh}
theorem wp_done {o:Oper} {a:Act} {h':Hp} {y:AV} {s:Sem Value} (hx:execOp a.eval o=(do pure (.value (<-s)):Sem Next)) (d:Done ν k g h' y (s.run P g.w)) {next:Act->World->Prop} {Q:Exit->Act->World->Prop}
  (hn:∀g' v,g'.h=h'->Rel ν k g'->Mono ν g g'->RA ν g' v y->next (a.put o.dst v) g'.w):o.wp P a g.w next Q:=by
 obtain⟨g',v,hr,hh,r',m,hR⟩:=d;unfold Oper.wp;rw[hx];simp only[Sem.run_bind,hr,Result.andThen_ok,Sem.run_pure];exact hn g' v hh r' m hR
theorem wp_call {o:Oper} {a:Act} {h':Hp} {y:AV} {fo:Operand} {cargs:Array Operand} {tys:Array TypeId} (ho:o.op = .call { callee:=.value fo,args:=cargs,argTypes:=tys })
  (d:CallDone ν P k g h' y (a.eval fo) (cargs.map a.eval)) {next:Act->World->Prop} {Q:Exit->Act->World->Prop}
  (hn:∀g' v,g'.h=h'->Rel ν k g'->Mono ν g g'->RA ν g' v y->next (a.put o.dst v) g'.w):o.wp P a g.w next Q:=by
 obtain⟨q,first,caps,fn,hf,hfn,hb,hnm,hc⟩:=d;unfold Oper.wp;rw[enter_run ho hf hfn hb hnm];rw[Oper.upon_enter];refine hc.mono ?_;rintro e w' ⟨v,g',rfl,rfl,hh,r',m,hR⟩;exact hn g' v hh r' m hR
theorem args_ok {a:Act} {fr:Fr} (hf:FrR ν g a.tmps fr) {xs:Array Operand} {ys:List Opd} (h:cOpds ν xs.toList ys=true):RL ν g (xs.map a.eval).toList (ys.map (ev fr)):=by
 obtain⟨h1,h2⟩:=evals_ok hf h;exact⟨by simpa using h1,λj v x hv hx=>h2 j v x (by simpa using hv) hx⟩
theorem parts_ok {a:Act} {fr:Fr} (hf:FrR ν g a.tmps fr):∀{ps:List (Nat×Operand)} {qs:List (Nat×Opd)},cParts ν ps qs=true->
  (ps.map λp=>(p.1,a.eval p.2)).length=(qs.map λp=>(p.1,ev fr p.2)).length/\
  ∀(j:Nat) (q:Nat×Value) (p:Nat×AV),(ps.map λp=>(p.1,a.eval p.2))[j]?=some q->(qs.map λp=>(p.1,ev fr p.2))[j]?=some p->q.1=p.1/\RA ν g q.2 p.2
 |[],[],_=>⟨rfl,λj v x h=>by simp at h⟩
 |x::xs,y::ys,h=>by
  simp only[cParts,Bool.and_eq_true,beq_iff_eq]at h;obtain⟨h1,h2⟩:=parts_ok hf h.2;refine⟨by simpa using h1,λj v z hv hz=>?_⟩;cases j with
  |zero=>simp at hv hz;subst hv hz;exact⟨h.1.1,eval_ok hf h.1.2⟩
  |succ j=>exact h2 j v z (by simpa using hv) (by simpa using hz)
 |[],_::_,h=>by simp[cParts]at h
 |_::_,[],h=>by simp[cParts]at h
set_option maxHeartbeats 4000000 in
theorem op_wp {call:Call1} (hs:Arb.CallSound ν P call) {o:Oper} {a:Act} {fr:Fr} {io:IOp} {slot:Nat} (hc:cOp P ν o.op io=true) (r:Rel ν k g) (hf:FrR ν g a.tmps fr) {y:AV} {h':Hp}
  (e:(osem call slot (ev fr) io).run g.h=some (y,h')) {next:Act->World->Prop} {Q:Exit->Act->World->Prop}
  (hn:∀g' v,g'.h=h'->Rel ν k g'->Mono ν g g'->RA ν g' v y->next (a.put o.dst v) g'.w):o.wp P a g.w next Q:=by
 unfold cOp at hc;split at hc
 case h_1 y'=>
  obtain⟨rfl,rfl⟩:=Mret_someZ e;split at hc
  ·rename_i x ho;exact wp_done (s:=pure (a.eval x)) (by simp[execOp,ho]) (.same r rfl (eval_ok hf hc)) hn
  ·rename_i x ho;exact wp_done (s:=pure (a.eval x)) (by simp[execOp,ho]) (.same r rfl (eval_ok hf hc)) hn
  ·cases hc
 case h_2=>
  split at hc
  case h_2=>cases hc
  rename_i c x z ho;simp only[Bool.and_eq_true]at hc;simp only[osem]at e;split at e
  case h_2=>exact(Mfail_someZ e).elim
  rename_i t ht;obtain⟨rfl,rfl⟩:=Mret_someZ e;have h1:=eval_ok hf hc.1.1;rw[ht]at h1;have hb:=h1.bool;refine wp_done (s:=do pure (if <-asBool (a.eval c) then a.eval x else a.eval z)) (by simp[execOp,ho]) (.same r (v:=if t then a.eval x else a.eval z) (by simp[hb,asBool]) ?_) hn;cases t
  ·exact eval_ok hf hc.2
  ·exact eval_ok hf hc.1.2
 case h_3=>
  split at hc
  case h_2=>cases hc
  rename_i t ho;simp only[Bool.and_eq_true]at hc;exact wp_done (s:=Instr.alloc t true (.tuple #[])) (by simp[execOp,ho]) (allocI_ok r hc.1 hc.2 e) hn
 case h_4=>
  split at hc
  case h_2=>cases hc
  rename_i t x ho;rw[Bool.and_eq_true]at hc;exact wp_done (s:=Instr.box t (a.eval x)) (by simp[execOp,ho]) (box_ok r hc.1 (eval_ok hf hc.2) e) hn
 case h_5=>
  split at hc
  case h_2=>cases hc
  rename_i t ps ho;simp only[Bool.and_eq_true]at hc;obtain⟨hz,hc⟩:=hc;split at hc
  case h_2=>cases hc
  rename_i pl hpl;exact wp_done (s:=Instr.build t (ps.map fun(i,x)=>(i,a.eval x))) (by simp[execOp,ho]) (build_ok r hf hz hpl hc e) hn
 case h_6 e0 z n' qs=>
  split at hc
  case h_2=>cases hc
  rename_i t n ps ho;simp only[Bool.and_eq_true,beq_iff_eq]at hc;obtain⟨⟨rfl,hb⟩,hq⟩:=hc;obtain⟨hl,hp⟩:=parts_ok hf hq;refine wp_done (s:=Instr.buildSlice t n (ps.toList.map λp=>(p.1,a.eval p.2)).toArray) (by
   have:(ps.map fun(p:Nat×Operand)=>(p.1,a.eval p.2))=(ps.toList.map λp=>(p.1,a.eval p.2)).toArray:=by apply Array.ext';simp
   simp only[execOp,ho];rw[<-this]) (bsl_ok (slot:=slot) r hb hl hp ?_) hn
  rw[M.mapL_map];exact e
 case h_7=>
  split at hc
  case h_2=>cases hc
  rename_i t x ho;simp only[Bool.and_eq_true]at hc;exact wp_done (s:=Instr.loadAt t (a.eval x)) (by simp[execOp,ho]) (load_ok r hc.1 (eval_ok hf hc.2) e) hn
 case h_8=>
  split at hc
  case h_2=>cases hc
  rename_i t x z ho;simp only[Bool.and_eq_true]at hc;obtain⟨g',hrun,rfl,hh,r',m⟩:=store_ok r hc.1.1 (eval_ok hf hc.1.2) (eval_ok hf hc.2) e;unfold Oper.wp;have hx:(execOp a.eval o).run P g.w = .ok .skip g'.w:=by simp[execOp,ho,hrun]
  rw[hx];exact hn g' undef hh r' m (.tup rfl λj v c h=>by simp at h)
 case h_9=>
  split at hc
  case h_2=>cases hc
  rename_i t x f ho;simp only[Bool.and_eq_true]at hc;exact wp_done (s:=Instr.fieldAt t (a.eval x) f) (by simp[execOp,ho]) (fadr_ok r hc.1 (eval_ok hf hc.2) e) hn
 case h_10=>cases hc
 case h_11=>cases hc
 case h_12=>
  split at hc
  case h_2=>cases hc
  rename_i t x z ho;simp only[Bool.and_eq_true]at hc;exact wp_done (s:=Instr.indexAt t (a.eval x) (a.eval z)) (by simp[execOp,ho]) (isl_ok r hc.1.1 (eval_ok hf hc.1.2) (eval_ok hf hc.2) e) hn
 case h_13=>cases hc
 case h_14=>cases hc
 case h_15 bo q x' y'=>
  split at hc
  case h_2=>cases hc
  rename_i b t x z yt ho;simp only[Bool.and_eq_true,beq_iff_eq]at hc;obtain⟨⟨⟨rfl,hq⟩,hx⟩,hz⟩:=hc;exact wp_done (s:=do eqGuard b t x z (a.eval x) (a.eval z);binOp b t (a.eval x) (a.eval z)) (by simp[execOp,ho]) (binM_ok r hq (eval_ok hf hx) (eval_ok hf hz) e) hn
 case h_16 neg qs x' y'=>
  split at hc
  case h_2=>cases hc
  rename_i b t x z yt ho;simp only[Bool.and_eq_true,beq_iff_eq]at hc;obtain⟨⟨⟨rfl,hq⟩,hx⟩,hz⟩:=hc;simp only[osem]at e;split at e
  case h_2=>exact(Mfail_someZ e).elim
  rename_i xs ys hxs hys;obtain⟨w',hb,e2⟩:=M.lift_bind e;obtain⟨rfl,rfl⟩:=Mret_someZ e2;have h1:=eval_ok hf hx;have h2:=eval_ok hf hz;rw[hxs]at h1;rw[hys]at h2;exact wp_done (s:=do eqGuard (if neg then .neq else .eql) t x z (a.eval x) (a.eval z);binOp (if neg then .neq else .eql) t (a.eval x) (a.eval z)) (by simp[execOp,ho]) (eqd_ok r hq neg h1 h2 hb) hn
 case h_17 uo x'=>
  split at hc
  case h_2=>cases hc
  rename_i u t x ho;simp only[Bool.and_eq_true,beq_iff_eq]at hc;obtain⟨rfl,hx⟩:=hc;obtain⟨w',hb,e2⟩:=M.lift_bind e;obtain⟨rfl,rfl⟩:=Mret_someZ e2;exact wp_done (s:=Op.unary u (a.eval x)) (by simp[execOp,ho]) (un_ok r (eval_ok hf hx) hb) hn
 case h_18=>
  split at hc
  case h_2=>cases hc
  rename_i s d x ho;simp only[Bool.and_eq_true]at hc;obtain⟨n,h1,e1,e2⟩:=Mbind_someZ e;have hh:=(idx_some e1).1;subst hh;obtain⟨rfl,rfl⟩:=Mret_someZ e2;exact wp_done (s:=convert s d (a.eval x)) (by simp[execOp,ho]) (cvi_ok r hc.1 (eval_ok hf hc.2) e1) hn
 case h_19=>cases hc
 case h_20=>
  split at hc
  case h_2=>cases hc
  rename_i t x lo hi ho;simp only[Bool.and_eq_true]at hc;exact wp_done (s:=Instr.sliceAt t (a.eval x) (lo.map a.eval) (hi.map a.eval) none) (by simp[execOp,ho]) (slc_ok r hc.1.1.1 (eval_ok hf hc.1.1.2) (evalo_ok hf hc.1.2) (evalo_ok hf hc.2) e) hn
 case h_21=>cases hc
 case h_22=>cases hc
 case h_23=>cases hc
 case h_24=>cases hc
 case h_25=>
  split at hc
  case h_2=>cases hc
  rename_i args tys ho;split at hc
  case h_2=>cases hc
  rename_i x t hx ht;obtain rfl:args=#[x]:=Array.ext' hx;obtain rfl:tys=#[t]:=Array.ext' ht;simp only[Bool.and_eq_true]at hc;exact wp_done (s:=Builtin.len_ #[t] o.type #[a.eval x]) (by simp[execOp,ho,resolve,invoke,builtin]) (len_ok r hc.1 (eval_ok hf hc.2) e) hn
 case h_26=>
  split at hc
  case h_2=>cases hc
  rename_i args tys ho;split at hc
  case h_2=>cases hc
  rename_i x z t u hx ht;obtain rfl:args=#[x,z]:=Array.ext' hx;obtain rfl:tys=#[t,u]:=Array.ext' ht;simp only[Bool.and_eq_true]at hc;exact wp_done (s:=Builtin.append_ #[t,u] o.type #[a.eval x,a.eval z]) (by simp[execOp,ho,resolve,invoke,builtin]) (app_ok r hc.1.1.1 (λhb=>by
   have:=hc.1.1.2;rw[hb]at this;simp only[Bool.not_true,Bool.false_or]at this;split at this
   ·rw[beq_iff_eq]at this;rw[<-this];assumption
   ·cases this) (eval_ok hf hc.1.2) (eval_ok hf hc.2) e) hn
 case h_27 x' ys=>
  split at hc
  case h_2=>cases hc
  rename_i args tys ho;have hR:=args_ok hf hc;simp only[osem]at e;split at e
  case h_2=>exact(Mfail_someZ e).elim
  rename_i kk n hx;obtain⟨z,hz,e2⟩:=M.lift_bind e;obtain⟨rfl,rfl⟩:=Mret_someZ e2;simp only[List.map_cons]at hR;generalize hvs:(args.map a.eval).toList=vs at hR;cases vs with
  |nil=>have:=hR.1;simp at this
  |cons v vs=>
   have h0:=hR.tail.1;rw[hx]at h0;obtain rfl:=h0.int;have hrun:=mn_ok P g.w (ys.map (ev fr)) vs n kk z hz hR.tail.2.1 hR.tail.2.2;exact wp_done (s:=Builtin.min_ tys o.type (args.map a.eval)) (by simp[execOp,ho,resolve,invoke,builtin]) (.same r (v:=.int kk z) (by simp only[Builtin.min_,hvs];exact hrun) mkInt) hn
 case h_28 x' ys=>
  split at hc
  case h_2=>cases hc
  rename_i args tys ho;have hR:=args_ok hf hc;simp only[osem]at e;split at e
  case h_2=>exact(Mfail_someZ e).elim
  rename_i kk n hx;obtain⟨z,hz,e2⟩:=M.lift_bind e;obtain⟨rfl,rfl⟩:=Mret_someZ e2;simp only[List.map_cons]at hR;generalize hvs:(args.map a.eval).toList=vs at hR;cases vs with
  |nil=>have:=hR.1;simp at this
  |cons v vs=>
   have h0:=hR.tail.1;rw[hx]at h0;obtain rfl:=h0.int;have hrun:=mx_ok P g.w (ys.map (ev fr)) vs n kk z hz hR.tail.2.1 hR.tail.2.2;exact wp_done (s:=Builtin.max_ tys o.type (args.map a.eval)) (by simp[execOp,ho,resolve,invoke,builtin]) (.same r (v:=.int kk z) (by simp only[Builtin.max_,hvs];exact hrun) mkInt) hn
 case h_29 x' i'=>
  split at hc
  case h_2=>cases hc
  rename_i x i ho;simp only[Bool.and_eq_true,beq_iff_eq]at hc;obtain⟨rfl,hx⟩:=hc;simp only[osem]at e;split at e
  case h_2=>exact(Mfail_someZ e).elim
  rename_i vs hvs;obtain⟨hy,rfl⟩:=Mlift_someZ e;have h1:=eval_ok hf hx;rw[hvs]at h1;obtain⟨us,hav,hn',hr'⟩:∃us,a.eval x = .tuple us/\us.size=vs.length/\∀(j:Nat) (v:Value) (c:AV),us[j]?=some v->vs[j]?=some c->RA ν g v c:=by
   generalize a.eval x=vv at h1;cases h1 with | tup h1 h2=>exact⟨_,rfl,h1,h2⟩
  have hlt:=lt_of_some hy;have hu:us[i]?=some us[i]:=Array.getElem?_eq_getElem (by omega);exact wp_done (s:=Instr.extract (a.eval x) i) (by simp[execOp,ho]) (.same r (v:=us[i]) (by simp[hav,Instr.extract,hu]) (hr' i _ _ hu hy)) hn
 case h_30=>
  split at hc
  case h_2=>cases hc
  rename_i x ho;have h1:=eval_ok hf hc;simp only[osem]at e;split at e
  ·rename_i id ver i j hx;rw[hx]at h1;obtain⟨ob,hg,e2⟩:=M.look_bind e;obtain⟨hva,e4⟩:=M.ok_bind e2;obtain⟨rfl,rfl⟩:=Mret_someZ e4;have hr:RefAt g (a.eval x) id ver i j:=by
    generalize a.eval x=vv at h1;cases h1 with | ref _ hr=>exact hr
   obtain⟨b,off,hv, -⟩:=hr.move hg hva 0;refine wp_done (s:=pure (a.eval x)) ?_ (.same r rfl h1) hn;simp[execOp,ho,hv]
  ·rename_i cs hx;rw[hx]at h1;obtain⟨rfl,rfl⟩:=Mret_someZ e;obtain⟨b,off,hv⟩:=h1.ptr;refine wp_done (s:=pure (a.eval x)) ?_ (.same r rfl h1) hn;simp[execOp,ho,hv]
  ·rename_i f cs hx;rw[hx]at h1;obtain⟨rfl,rfl⟩:=Mret_someZ e;have hv:∃caps,a.eval x = .func (.func (ν f)) #[] caps:=by
    generalize a.eval x=v at h1;cases h1 with | iv h=>cases h with | fn f caps cs h1 h2=>exact⟨caps,rfl⟩
   obtain⟨caps,hv⟩:=hv;refine wp_done (s:=pure (a.eval x)) ?_ (.same r rfl h1) hn;simp[execOp,ho,hv]
  ·rename_i f fs cs hx;rw[hx]at h1;obtain⟨rfl,rfl⟩:=Mret_someZ e;have hv:∃first caps,a.eval x = .func (.func (ν f)) first caps:=by
    generalize a.eval x=v at h1;cases h1 with | clo h1 h2=>exact⟨_,_,rfl⟩
   obtain⟨first,caps,hv⟩:=hv;refine wp_done (s:=pure (a.eval x)) ?_ (.same r rfl h1) hn;simp[execOp,ho,hv]
  ·exact(Mfail_someZ e).elim
 case h_31 f' fs' caps'=>
  split at hc
  case h_2=>cases hc
  rename_i f first caps ho
  simp only[Bool.and_eq_true,beq_iff_eq]at hc;obtain⟨⟨rfl,hfirst⟩,hcaps⟩:=hc;obtain⟨rfl,rfl⟩:=Mret_someZ e;have hR:=args_ok hf hcaps;have hS:=args_ok hf hfirst;refine wp_done (s:=Instr.makeFunc (.func (ν f')) (first.map a.eval) (caps.map a.eval)) (by simp[execOp,ho]) (.same r (v:=.func (.func (ν f')) (first.map a.eval) (caps.map a.eval)) (by simp[Instr.makeFunc]) ?_) hn;exact .clo (by have:=hS.1;simpa using this) (λj v c h1 h2=>hS.2 j v c (by simpa using h1) h2) (by have:=hR.1;simpa using this) λj v c h1 h2=>hR.2 j v c (by simpa using h1) h2
 case h_32 mode f' args'=>
  split at hc
  case h_2=>cases hc
  rename_i fo cargs tys ho;simp only[Bool.and_eq_true]at hc;have hfv:=eval_ok hf hc.1;have hR:=args_ok hf hc.2;simp only[osem]at e;split at e
  ·exact wp_call ho (callM_ok hs r e hfv hR) hn
  ·exact wp_call ho (fcallM_ok hs r e hfv hR) hn
 case h_33=>
  exact(Mfail_someZ e).elim
 case h_34=>cases hc
 case h_35=>
  split at hc
  case h_2=>cases hc
  rename_i t ho;exact wp_done (s:=Instr.makeMap t none) (by simp[execOp,ho]) (mmk_ok r e) hn
 case h_36 ok agg qs z m' k'=>
  split at hc
  case h_2=>cases hc
  rename_i t m kk o ho;simp only[Bool.and_eq_true,beq_iff_eq]at hc;obtain⟨⟨⟨⟨rfl,h1⟩,h2⟩,h3⟩,h4⟩:=hc;exact wp_done (s:=Instr.lookup t (a.eval m) (a.eval kk) o) (by simp[execOp,ho]) (mget_ok r h1 h2 (eval_ok hf h3) (eval_ok hf h4) e) hn
 case h_37 qs m' k' x'=>
  have key:∀{t:TypeId} {m kk x:Operand},(o.op = .mapUpdate t m kk x\/o.op = .insert t m kk x)->(mapB P t qs&&cOpd ν m m'&&cOpd ν kk k'&&cOpd ν x x')=true->o.wp P a g.w next Q:=by
   intro t m kk x ho hc;simp only[Bool.and_eq_true]at hc;obtain⟨g',hrun,rfl,hh,r',mm⟩:=mput_ok r hc.1.1.1 (eval_ok hf hc.1.1.2) (eval_ok hf hc.1.2) (eval_ok hf hc.2) e;unfold Oper.wp;have hx:(execOp a.eval o).run P g.w = .ok .skip g'.w:=by rcases ho with ho | ho<;>simp[execOp,ho,hrun]
   rw[hx];exact hn g' undef hh r' mm (.tup rfl λj v c h=>by simp at h)
  split at hc
  ·rename_i ho;exact key (.inl ho) hc
  ·rename_i ho;exact key (.inr ho) hc
  ·cases hc
 case h_38=>cases hc
 case h_39=>cases hc
 case h_40=>
  exact(Mfail_someZ e).elim
 case h_41=>
  split at hc
  case h_2=>cases hc
  rename_i args tys ho;split at hc
  case h_2=>cases hc
  rename_i x t hx ht;obtain rfl:args=#[x]:=Array.ext' hx;obtain rfl:tys=#[t]:=Array.ext' ht;simp only[Bool.and_eq_true]at hc;obtain⟨hc,hq⟩:=hc;split at hc
  case h_2=>cases hc
  rename_i el hu;obtain⟨i,hi⟩:=Option.isSome_iff_exists.1 hc;exact wp_done (s:=Builtin.cap_ #[t] o.type #[a.eval x]) (by simp[execOp,ho,resolve,invoke,builtin]) (capn_ok (e:=i.size) r (by simp[sliceB,hu,hi]) (eval_ok hf hq) e) hn
 case h_42=>
  split at hc
  case h_2=>cases hc
  rename_i args tys ho;split at hc
  case h_2=>cases hc
  rename_i x z t u hx ht;obtain rfl:args=#[x,z]:=Array.ext' hx;obtain rfl:tys=#[t,u]:=Array.ext' ht;simp only[Bool.and_eq_true]at hc;obtain⟨kd,hd⟩:=isInt_spec hc.1.1.2;exact wp_done (s:=Builtin.append_ #[t,u] o.type #[a.eval x,a.eval z]) (by simp[execOp,ho,resolve,invoke,builtin]) (appn_ok r hc.1.1.1 hd (eval_ok hf hc.1.2) (eval_ok hf hc.2) e) hn
 case h_43=>cases hc
 case h_44=>cases hc
 case h_45=>cases hc
 case h_46=>cases hc
 case h_47=>
  split at hc
  case h_2=>cases hc
  rename_i t n ps ho;simp only[Bool.and_eq_true,beq_iff_eq,Array.isEmpty_iff]at hc;obtain⟨⟨rfl,rfl⟩,ht⟩:=hc;obtain⟨rfl,rfl⟩:=Mret_someZ e;exact wp_done (s:=Instr.buildSlice t 0 #[]) (by simp[execOp,ho]) (bs0_ok r ht) hn
 case h_48=>cases hc
 case h_49=>cases hc
 case h_50=>cases hc
 case h_51=>cases hc
 case h_52=>cases hc
 case h_53=>cases hc
end
end Arx
namespace Arx
open Go Arb
def ktRZq:Nat->AV
 |0=>.iv (.int .i64 0)
 |1=>.iv (.int .i64 1)
 |2=>.iv (.bool false)
 |3=>.iv (.bool true)
 |4=>.iv (.nsl 16)
 |5=>.iv (.int .i64 4)
 |6=>.iv (.int .i64 5)
 |7=>.iv (.nsl 1)
 |8=>.iv (.int .i64 2)
 |9=>.iv .nilp
 |10=>.iv (.int .i64 3)
 |11=>.iv (.nsl 3)
 |12=>.iv (.int .i64 (-1))
 |13=>.iv (.int .i64 100)
 |14=>.iv (.int .i64 6)
 |15=>.iv (.int .u64 18446744073709551615)
 |16=>.iv (.nsl 4)
 |17=>.iv (.int .i64 16)
 |18=>.iv (.int .i64 40)
 |19=>.iv (.int .i64 8)
 |20=>.iv (.int .u64 0)
 |21=>.iv (.nsl 2)
 |22=>.iv (.nsl 24)
 |_=>.iv (.nsl 7)
def oRZq (t:List Nat):RdRZq Opd:=bdRZq (syRZq t) λx=>if x=0 then m1RZq (λk=>.c (ktRZq k)) (syRZq t44RZq) else m1RZq .t (bdRZq (if x<7 then deRZq x else vRZq) slRZq)
def ztRZq:Nat->List AV
 |0=>[.iv (.int .i64 0)]
 |1=>[.iv (.int .i64 0),.iv (.int .i64 0),.iv (.int .i64 0)]
 |2=>[.iv (.int .i64 0),.iv (.int .i64 0)]
 |3=>[.iv (.int .i64 0),.iv (.int .i64 0),.iv (.int .i64 0),.iv (.int .i64 0)]
 |4=>[.iv (.int .i64 0),.iv (.int .i64 0),.iv (.nsl 16),.iv (.int .i64 0),.iv (.int .i64 0)]
 |5=>[.iv (.int .i64 0),.iv (.int .i64 0),.iv (.int .i64 0),.iv (.int .i64 0),.iv (.int .i64 0),.iv (.int .i64 0),.iv (.int .i64 0),.iv (.bool false),.iv (.nsl 2),.iv (.bool false),.iv (.nsl 1),.iv (.nsl 7),.iv (.int .i64 0),.iv (.int .i64 0),.iv (.str ⟨#[]⟩),.iv (.int .i64 0),.iv (.int .i64 0),.iv (.str ⟨#[]⟩),.iv (.int .i64 0),.iv (.int .i64 0),.iv (.str ⟨#[]⟩),.iv (.int .i64 0),.iv (.int .i64 0),.iv (.str ⟨#[]⟩)]
 |6=>[.iv (.int .i64 0),.iv (.int .i64 0),.iv (.int .i64 0),.iv (.int .i64 0),.iv (.str ⟨#[]⟩),.iv (.int .i64 0),.iv (.int .i64 0),.iv (.str ⟨#[]⟩),.iv (.int .i64 0),.iv (.int .i64 0),.iv (.str ⟨#[]⟩),.iv (.int .i64 0),.iv (.int .i64 0),.iv (.str ⟨#[]⟩),.iv (.int .i64 0)]
 |7=>[.iv (.bool false),.iv (.nsl 2),.iv (.bool false),.iv (.nsl 1),.iv (.bool false),.iv (.nsl 2),.iv (.bool false),.iv (.nsl 1),.iv (.bool false),.iv (.nsl 2),.iv (.bool false),.iv (.nsl 1),.iv (.bool false),.iv (.nsl 2),.iv (.bool false),.iv (.nsl 1)]
 |8=>[.iv (.nsl 1),.iv (.nsl 1),.iv (.int .i64 0),.iv (.int .u64 0)]
 |9=>[.iv (.bool false)]
 |10=>[.iv (.int .i64 0),.iv (.int .i64 0),.iv (.bool false),.iv (.nsl 2),.iv (.bool false),.iv (.nsl 1),.iv (.nsl 7)]
 |11=>[.iv (.bool false),.iv (.nsl 2),.iv (.bool false),.iv (.nsl 1)]
 |12=>[.iv (.int .i64 0),.iv (.int .i64 0),.iv (.int .i64 0),.iv (.int .i64 0),.iv (.str ⟨#[]⟩),.iv (.int .i64 0),.iv (.int .i64 0),.iv (.str ⟨#[]⟩),.iv (.int .i64 0),.iv (.int .i64 0),.iv (.str ⟨#[]⟩),.iv (.int .i64 0),.iv (.int .i64 0),.iv (.str ⟨#[]⟩)]
 |13=>[.iv (.int .u64 0)]
 |14=>[.iv (.nsl 1),.iv (.nsl 1),.iv (.int .i64 0),.iv (.int .u64 0),.iv (.nsl 5),.iv (.nsl 15),.iv (.nsl 1)]
 |15=>[.iv (.nsl 16)]
 |16=>[.iv (.nsl 5),.iv (.nsl 15),.iv (.nsl 1)]
 |_=>[.iv .nilp]
def zRZq:RdRZq (List AV):=m1RZq ztRZq (syRZq t45RZq)
def LRZq:RdRZq (List Opd):=bdRZq (nuRZq 6 t8RZq) (reRZq (oRZq t17RZq))
def btRZq:Nat->BinOp
 |0=>.add
 |1=>.lss
 |2=>.eql
 |3=>.gtr
 |4=>.sub
 |5=>.neq
 |6=>.geq
 |7=>.leq
 |8=>.shr
 |9=>.quo
 |_=>.rem
def BRZq:RdRZq BinOp:=m1RZq btRZq (syRZq t18RZq)
def utRZq:Nat->UnOp
 |0=>.not
 |_=>.neg
def URZq:RdRZq UnOp:=m1RZq utRZq (syRZq t19RZq)
def P2RZq:RdRZq (List (Nat×Opd)):=bdRZq (nuRZq 6 t8RZq) (reRZq (m2RZq .mk (nuRZq 15 t21RZq) (oRZq t14RZq)))
def P3RZq:RdRZq (List (Nat×Nat×Opd)):=bdRZq (nuRZq 6 t8RZq) (reRZq (m2RZq .mk (nuRZq 15 t21RZq) (m2RZq .mk (nuRZq 15 t21RZq) (oRZq t14RZq))))
def ORZq:RdRZq (Option Opd):=bdRZq (syRZq t22RZq) λx=>if x=0 then puRZq none else m1RZq some (oRZq t14RZq)
def fRZq:RdRZq Opd:=bdRZq (syRZq t23RZq) λx=>if x=0 then m1RZq (λf=>.c (.iv (.fn f []))) (raRZq 512) else oRZq t14RZq
def opRZq (d:Nat):Nat->RdRZq IOp
 |2=>m1RZq .mov (oRZq (if d=0 then t24RZq else t25RZq))
 |3=>m3RZq .load boRZq (nuRZq 17 t26RZq) (oRZq t14RZq)
 |4=>m4RZq .bin BRZq uRZq (oRZq t14RZq) (oRZq t14RZq)
 |5=>m2RZq .fadr (nuRZq 15 t27RZq) (oRZq t14RZq)
 |6=>m3RZq .call uRZq fRZq LRZq
 |7=>m3RZq .isl uRZq (oRZq t14RZq) (oRZq t14RZq)
 |8=>m2RZq .len boRZq (oRZq t14RZq)
 |9=>m3RZq .pick (oRZq t14RZq) (oRZq t14RZq) (oRZq t14RZq)
 |10=>m1RZq .nchk (oRZq t14RZq)
 |11=>m2RZq .box uRZq (oRZq t14RZq)
 |12=>m3RZq .store uRZq (oRZq t14RZq) (oRZq t14RZq)
 |13=>m2RZq .un URZq (oRZq t14RZq)
 |14=>m2RZq .scall fRZq LRZq
 |15=>m4RZq .bsl uRZq zRZq uRZq P2RZq
 |16=>m2RZq .alloc uRZq zRZq
 |17=>m2RZq .build zRZq P3RZq
 |18=>m4RZq .app uRZq boRZq (oRZq t14RZq) (oRZq t14RZq)
 |19=>m2RZq .ext (oRZq t14RZq) uRZq
 |23=>m4RZq .slc uRZq (oRZq t14RZq) ORZq ORZq
 |24=>m3RZq .mkf uRZq LRZq LRZq
 |25=>m2RZq .mn (oRZq t14RZq) LRZq
 |27=>m2RZq .mx (oRZq t14RZq) LRZq
 |28=>puRZq .dead
 |29=>m4RZq .eqc boRZq qRZq (oRZq t14RZq) (oRZq t14RZq)
 |30=>bdRZq boRZq λa=>bdRZq boRZq λb=>m4RZq (.mget a b) qRZq zRZq (oRZq t14RZq) (oRZq t14RZq)
 |31=>puRZq .mmk
 |32=>m4RZq .mput qRZq (oRZq t14RZq) (oRZq t14RZq) (oRZq t14RZq)
 |33=>m1RZq .capn (oRZq t14RZq)
 |36=>m4RZq .appn uRZq zRZq (oRZq t14RZq) (oRZq t14RZq)
 |_=>puRZq default
def kiRZq (p:Nat):List Nat:=match p with
 |0=>t28RZq
 |1=>t29RZq
 |2=>t30RZq
 |3=>t31RZq
 |4=>t32RZq
 |5=>t33RZq
 |_=>t34RZq
def osRZq (dr:Bool):Nat->Nat->Nat->Option (Nat×Bool)->RdRZq (List IOper)
 |0,_,_,_=>puRZq []
 |f+1,i,p,g=>bdRZq (syRZq (kiRZq p)) λk=>if k=0 then puRZq [] else if k=1 then bdRZq gdRZq (osRZq dr f i p) else
  bdRZq (if k=12\/k=32 then puRZq 1 else syRZq (if k=2 then t35RZq else t36RZq)) λd=>bdRZq (dsRZq d) λe=>
  bdRZq (λn s=>opRZq d k n { s with m:=match g with
   |some q=>[q.1]
   |none=>[] }) λo=>bdRZq (fnRZq dr i e d) λa=>m1RZq (λr=>⟨e,o,g,a⟩::r) (osRZq dr f (i+1) (kcRZq k d) g)
def icRZq:Nat->RdRZq IC
 |0=>puRZq .skip
 |f+1=>bdRZq (syRZq t39RZq) λx=>match x with
  |0=>m2RZq .seq (icRZq f) (icRZq f)
  |1=>bdRZq stRZq λ_=>m2RZq (.rgn false) (osRZq false 9999 0 0 none) kpRZq
  |2=>bdRZq (oRZq t37RZq) λc n s=>(λl=>bdRZq (icRZq f) (λa n s=>m1RZq (.cond c a) (icRZq f) n { s with l:=l }) n { s with l:=l }) (match c with
   |.t v=>s.l.filter (·!= v)
   |_=>s.l)
  |3=>puRZq .skip
  |4=>puRZq .ret
  |5=>m2RZq .block (nuRZq 6 t38RZq) (icRZq f)
  |6=>m1RZq .exit (nuRZq 6 t38RZq)
  |7=>m2RZq .loop (λn s=>kpRZq n { s with d:=[] }) (icRZq f)
  |8=>bdRZq stRZq λ_=>m2RZq (.rgn true) (osRZq true 9999 0 0 none) kpRZq
  |9=>m1RZq .scope (icRZq f)
  |_=>puRZq .skip
def irRZq:RdRZq IRes:=bdRZq (syRZq t41RZq) λx=>match x with
 |0=>m1RZq .t (nuRZq 9 t40RZq)
 |_=>m3RZq .cell (nuRZq 9 t40RZq) boRZq uRZq
def ifRZq:RdRZq IFn:=bdRZq (nuRZq 6 t42RZq) λn=>bdRZq (bdRZq (nuRZq 3 t43RZq) (reRZq irRZq)) λr=>m1RZq (λb=>⟨n,r,b,none⟩) λm s=>icRZq 9999 m ⟨n,[],List.range n,[],[]⟩
def nfRZq {x:IFn} (s:String) (_:ndRZq ((ifRZq (chRZq 0 s.toList) ⟨0,[],[],[],[]⟩).1=x):=by
 refine(?f:?P->ndRZq ?P) ?p
 case p=>set_option maxRecDepth 1000000 in conv=>lhs;cbv
 exact λ_=>trivial):IFn:=x
attribute [simp] nfRZq
theorem Tr.put_comm {α:Type} (x y:α):∀(f n:Nat) (f' m:Nat) (t:Tr α),n<f->m<f'->n≠m->Tr.put f n x (Tr.put f' m y t)=Tr.put f' m y (Tr.put f n x t):=by
 intro f
 induction f with
 |zero=>intro n f' m t h;omega
 |succ f ih=>
  intro n f' m t h h' hne;obtain⟨f',rfl⟩:∃k,f'=k+1:=⟨f' - 1,by omega⟩;cases n with
  |zero=>
   cases m with
   |zero=>exact absurd rfl hne
   |succ m=>cases t<;>by_cases h1:m % 2=0<;>simp[Tr.put,h1]
  |succ n=>
   cases m with
   |zero=>cases t<;>by_cases h1:n % 2=0<;>simp[Tr.put,h1]
   |succ m=>
    by_cases h1:n % 2=0<;>by_cases h2:m % 2=0<;>cases t<;>simp only[Tr.put,h1,h2,if_true,if_false]
    all_goals rw[ih _ _ _ _ (by omega) (by omega) (by omega)]
theorem hp_comm (h:Hp) {n m:Nat} (x y:Ob) (hne:n≠m):set (set h m y) n x=set (set h n x) m y:=Tr.put_comm x y _ _ _ _ h (Nat.lt_succ_self n) (Nat.lt_succ_self m) hne
def app_ (ps:List (Nat×Ob)) (h:Hp):Hp:=ps.foldl (λh p=>set h p.1 p.2) h
theorem app_get {ps:List (Nat×Ob)} {n:Nat} (hn:∀p ∈ ps,p.1≠n):∀h:Hp,get (app_ ps h) n=get h n:=by
 induction ps with
 |nil=>intro h;rfl
 |cons p ps ih=>
  intro h
  show get (app_ ps (set h p.1 p.2)) n=_
  rw[ih (λq hq=>hn q (List.mem_cons_of_mem _ hq)),get_set_ne _ _ (hn p (List.mem_cons_self ..))]
theorem app_set {ps:List (Nat×Ob)} {n:Nat} (x:Ob) (hn:∀p ∈ ps,p.1≠n):∀h:Hp,app_ ps (set h n x)=set (app_ ps h) n x:=by
 induction ps with
 |nil=>intro h;rfl
 |cons p ps ih=>
  intro h
  show app_ ps (set (set h n x) p.1 p.2)=set (app_ ps (set h p.1 p.2)) n x
  rw[hp_comm _ _ _ (hn p (List.mem_cons_self ..)),ih λq hq=>hn q (List.mem_cons_of_mem _ hq)]
theorem app_comm {ps qs:List (Nat×Ob)} (hd:∀p ∈ ps,∀q ∈ qs,p.1≠q.1):∀h:Hp,app_ qs (app_ ps h)=app_ ps (app_ qs h):=by
 induction ps with
 |nil=>intro h;rfl
 |cons p ps ih=>
  intro h
  show app_ qs (app_ ps (set h p.1 p.2))=app_ ps (set (app_ qs h) p.1 p.2)
  rw[ih λa ha=>hd a (List.mem_cons_of_mem _ ha),app_set _ λq hq=>(hd p (List.mem_cons_self ..) q hq).symm]
theorem M.frame {α:Type}:∀(m:M α) (h h' h1:Hp) (a:α),m.run h=some (a,h1)->(∀n ∈ (m.foot h).1,Arx.get h n=Arx.get h' n)->
  ∃ps,h1=app_ ps h/\m.run h'=some (a,app_ ps h')/\m.foot h'=m.foot h/\∀p ∈ ps,p.1 ∈ (m.foot h).2
 |.ret x,h,h',h1,a,e,_=>by
  simp only[M.run,Option.some.injEq,Prod.mk.injEq]at e;obtain⟨rfl,rfl⟩:=e;exact⟨[],rfl,rfl,rfl,λp hp=>by simp at hp⟩
 |.fail,h,h',h1,a,e,_=>by simp[M.run]at e
 |.get id k,h,h',h1,a,e,hr=>by
  simp only[M.run]at e;simp only[M.foot,List.mem_cons]at hr ⊢;have hid:=hr id (.inl rfl);obtain⟨ps,e1,e2,e3,e4⟩:=M.frame (k (Arx.get h id)) h h' h1 a e λn hn=>hr n (.inr hn)
  refine⟨ps,e1,?_,?_,e4⟩
  ·simp only[M.run,<-hid];exact e2
  ·simp only[<-hid];rw[e3]
 |.put id o k,h,h',h1,a,e,hr=>by
  simp only[M.run]at e;simp only[M.foot,List.mem_append,List.mem_singleton]at hr ⊢;obtain⟨ps,e1,e2,e3,e4⟩:=M.frame k (Arx.set h id o) (Arx.set h' id o) h1 a e λn hn=>by simp[get_set,hr n hn]
  refine⟨(id,o)::ps,e1,e2,by rw[e3],λp hp=>?_⟩;rcases List.mem_cons.1 hp with rfl | hp
  ·exact .inr rfl
  ·exact .inl (e4 p hp)
def On (h:Hp) (n:Nat):Prop:=(get h n).isSome=true
theorem On.set {h:Hp} {n m:Nat} {x:Ob} (hn:On h n):On (set h m x) n:=by
 unfold On at *;rw[get_set];split<;>simp_all
theorem On.same {h:Hp} {n:Nat} {x:Ob}:On (Arx.set h n x) n:=by
 show(Arx.get (Arx.set h n x) n).isSome=true
 rw[get_set_same];rfl
theorem M.stay {α:Type}:∀(m:M α) (h h':Hp) (a:α) (n:Nat),m.run h=some (a,h')->On h n->On h' n
 |.ret x,h,h',a,n,e,hn=>by
  simp only[M.run,Option.some.injEq,Prod.mk.injEq]at e;rw[<-e.2];exact hn
 |.fail,h,h',a,n,e,_=>by simp[M.run]at e
 |.get id k,h,h',a,n,e,hn=>M.stay (k (Arx.get h id)) h h' a n e hn
 |.put id o k,h,h',a,n,e,hn=>M.stay k (Arx.set h id o) h' a n e hn.set
def NR {α:Type} (m:M α):Prop:=∀h a h',m.run h=some (a,h')->∀n ∈ (m.foot h).1,On h' n
theorem NR.ret {α:Type} (a:α):NR (M.ret a):=λh b h' _ n hn=>by simp[M.foot]at hn
theorem NR.fail {α:Type}:NR (M.fail:M α):=λh b h' e=>by simp[M.run]at e
theorem M.foot_bind {α β:Type} (f:α->M β):∀(m:M α) (h h1:Hp) (a:α),m.run h=some (a,h1)->((m.bind f).foot h).1=(m.foot h).1++((f a).foot h1).1
 |.ret x,h,h1,a,e=>by
  simp only[M.run,Option.some.injEq,Prod.mk.injEq]at e;obtain⟨rfl,rfl⟩:=e;simp[M.bind,M.foot]
 |.fail,h,h1,a,e=>by simp[M.run]at e
 |.get id k,h,h1,a,e=>by
  simp only[M.run]at e;simp[M.bind,M.foot,M.foot_bind f (k (Arx.get h id)) h h1 a e]
 |.put id o k,h,h1,a,e=>by
  simp only[M.run]at e;simp[M.bind,M.foot,M.foot_bind f k (Arx.set h id o) h1 a e]
theorem NR.bind {α β:Type} {m:M α} {f:α->M β} (hm:NR m) (hf:∀a,NR (f a)):NR (m.bind f):=by
 intro h b h' e n hn;obtain⟨a,h1,e1,e2⟩:=Mbind_someZ e;rw[M.foot_bind f m h h1 a e1]at hn;rcases List.mem_append.1 hn with hn | hn
 ·exact M.stay _ _ _ _ _ e2 (hm h a h1 e1 n hn)
 ·exact hf a h1 b h' e2 n hn
theorem NR.look (id:Nat):NR (M.look id):=by
 intro h a h' e n hn;simp only[M.look,M.run]at e;simp only[M.look,M.foot]at hn;cases hg:Arx.get h id with
 |none=>rw[hg]at e;simp[M.run]at e
 |some o=>
  rw[hg]at e hn;simp only[M.run,Option.some.injEq,Prod.mk.injEq]at e;simp[M.foot]at hn;rw[<-e.2,hn];unfold On;rw[hg];rfl
theorem NR.ok (b:Bool):NR (M.ok b):=by unfold M.ok;split;exact NR.ret _;exact NR.fail
theorem NR.lift {α:Type} (o:Option α):NR (M.lift o):=by cases o;exact NR.fail;exact NR.ret _
theorem NR.write (id:Nat) (o:Ob):NR (M.write id o):=λh a h' e n hn=>by simp[M.write,M.foot]at hn
theorem NR.new {α:Type} {id:Nat} {o:Ob} {f:Unit->M α} (hf:NR (f ())):NR ((M.fresh id).bind λ_=>(M.write id o).bind f):=by
 intro h b h' e n hn;obtain⟨_,h1,e1,e2⟩:=Mbind_someZ e;obtain⟨_,h2,e3,e4⟩:=Mbind_someZ e2;rw[M.foot_bind _ (M.fresh id) h h1 _ e1]at hn;obtain⟨_,rfl⟩:=M.fresh_some e1;rw[M.foot_bind _ (M.write id o) h1 h2 _ e3]at hn;obtain rfl:=Mwrite_someZ e3;rcases List.mem_append.1 hn with hn | hn
 ·simp only[M.fresh,M.foot]at hn;have:n=id:=by
   rcases List.mem_cons.1 hn with h | h
   ·exact h
   ·cases hg:Arx.get h1 id<;>rw[hg]at h<;>simp[M.foot]at h
  subst this;exact M.stay _ _ _ _ _ e4 On.same
 ·rcases List.mem_append.1 hn with hn | hn
  ·simp[M.write,M.foot]at hn
  ·exact hf _ b h' e4 n hn
attribute [local simp] NR.ret NR.fail NR.ok NR.lift NR.look NR.write
theorem NR.mapL {α β:Type} {f:α->M β} (hf:∀x,NR (f x)):∀l:List α,NR (M.mapL f l)
 |[]=>NR.ret _
 |x::r=>NR.bind (hf x) λ_=>NR.bind (NR.mapL hf r) λ_=>NR.ret _
theorem NR.idx_ (a:AV):NR (Arx.idx a):=by
 unfold Arx.idx
 repeat' first | (simp;done) | apply NR.new | refine NR.bind ?_ λ_=>?_ | split
theorem NR.cellsM_ (a:AV):NR (Arx.cellsM a):=by
 unfold Arx.cellsM
 repeat' first | (simp;done) | apply NR.new | refine NR.bind ?_ λ_=>?_ | split
theorem NR.mk_ (agg:Bool) (l:List AV):NR (Arx.mk agg l):=by
 unfold Arx.mk
 repeat' first | (simp;done) | apply NR.new | refine NR.bind ?_ λ_=>?_ | split
theorem NR.bound_ (y:Nat) (o:Option AV):NR (Arx.bound y o):=by
 unfold Arx.bound
 repeat' first | (simp;done) | apply NR.new | refine NR.bind ?_ λ_=>?_ | split
theorem NR.load_ (agg:Bool) (sz:Nat) (a:AV):NR (Arx.load agg sz a):=by
 unfold Arx.load
 repeat' first | exact NR.mk_ _ _ | (simp;done) | apply NR.new | refine NR.bind ?_ λ_=>?_ | split
theorem NR.store_ (sz:Nat) (a x:AV):NR (Arx.store sz a x):=by
 unfold Arx.store
 repeat' first | exact NR.cellsM_ _ | (simp;done) | apply NR.new | refine NR.bind ?_ λ_=>?_ | split
theorem NR.fadr_ (off:Nat) (x:AV):NR (Arx.fadr off x):=by
 unfold Arx.fadr
 repeat' first | (simp;done) | apply NR.new | refine NR.bind ?_ λ_=>?_ | split
theorem NR.fld_ (agg:Bool) (off sz:Nat) (x:AV):NR (Arx.fld agg off sz x):=by
 unfold Arx.fld
 repeat' first | exact NR.mk_ _ _ | (simp;done) | apply NR.new | refine NR.bind ?_ λ_=>?_ | split
theorem NR.iarr_ (len e:Nat) (x i:AV):NR (Arx.iarr len e x i):=by
 unfold Arx.iarr
 repeat' first | exact NR.idx_ _ | (simp;done) | apply NR.new | refine NR.bind ?_ λ_=>?_ | split
theorem NR.isl_ (e:Nat) (x i:AV):NR (Arx.isl e x i):=by
 unfold Arx.isl
 repeat' first | exact NR.idx_ _ | (simp;done) | apply NR.new | refine NR.bind ?_ λ_=>?_ | split
theorem NR.xarr_ (agg:Bool) (len e:Nat) (x i:AV):NR (Arx.xarr agg len e x i):=by
 unfold Arx.xarr
 repeat' first | exact NR.idx_ _ | exact NR.fld_ _ _ _ _ | (simp;done) | apply NR.new | refine NR.bind ?_ λ_=>?_ | split
theorem NR.xstr_ (x i:AV):NR (Arx.xstr x i):=by
 unfold Arx.xstr
 repeat' first | (simp;done) | apply NR.new | refine NR.bind ?_ λ_=>?_ | split
theorem NR.binM_ (op:BinOp) (q:Nat) (x y:AV):NR (Arx.binM op q x y):=by
 unfold Arx.binM
 repeat' first | (simp;done) | apply NR.new | refine NR.bind ?_ λ_=>?_ | split
theorem NR.slc_ (e:Nat) (x:AV) (lo hi:Option AV):NR (Arx.slc e x lo hi):=by
 unfold Arx.slc
 repeat' first | exact NR.bound_ _ _ | (simp;done) | apply NR.new | refine NR.bind ?_ λ_=>?_ | split
theorem NR.slcs_ (x:AV) (lo hi:Option AV):NR (Arx.slcs x lo hi):=by
 unfold Arx.slcs
 repeat' first | exact NR.bound_ _ _ | (simp;done) | apply NR.new | refine NR.bind ?_ λ_=>?_ | split
theorem NR.slz_ (e:Nat) (x:AV):NR (Arx.slz e x):=by
 unfold Arx.slz
 repeat' first | (simp;done) | apply NR.new | refine NR.bind ?_ λ_=>?_ | split
theorem NR.sla_ (n:Nat) (x:AV) (lo hi:Option AV):NR (Arx.sla n x lo hi):=by
 unfold Arx.sla
 repeat' first | exact NR.bound_ _ _ | (simp;done) | apply NR.new | refine NR.bind ?_ λ_=>?_ | split
theorem NR.clr_ (e:Nat) (z:List AV) (x:AV):NR (Arx.clr e z x):=by
 unfold Arx.clr
 repeat' first | (simp;done) | apply NR.new | refine NR.bind ?_ λ_=>?_ | split
theorem NR.len_ (str:Bool) (x:AV):NR (Arx.len str x):=by
 unfold Arx.len
 repeat' first | (simp;done) | apply NR.new | refine NR.bind ?_ λ_=>?_ | split
theorem NR.elems_ (e:Nat) (x:AV):NR (Arx.elems e x):=by
 unfold Arx.elems
 repeat' first | (simp;done) | apply NR.new | refine NR.bind ?_ λ_=>?_ | split
theorem NR.elemsS_ (e:Nat) (x:AV):NR (Arx.elemsS e x):=by
 unfold Arx.elemsS
 repeat' first | exact NR.elems_ _ _ | (simp;done) | apply NR.new | refine NR.bind ?_ λ_=>?_ | split
theorem NR.app_ (e slot:Nat) (byte:Bool) (x y:AV):NR (Arx.app e slot byte x y):=by
 unfold Arx.app
 repeat' first | exact NR.elemsS_ _ _ | (simp;done) | apply NR.new | refine NR.bind ?_ λ_=>?_ | split
theorem NR.capn_ (x:AV):NR (Arx.capn x):=by
 unfold Arx.capn
 repeat' first | (simp;done) | apply NR.new | refine NR.bind ?_ λ_=>?_ | split
theorem NR.appn_ (e slot:Nat) (z:List AV) (x n:AV):NR (Arx.appn e slot z x n):=by
 unfold Arx.appn
 repeat' first | exact NR.idx_ _ | (simp;done) | apply NR.new | refine NR.bind ?_ λ_=>?_ | split
theorem NR.mks_ (e slot:Nat) (z:List AV) (n:AV):NR (Arx.mks e slot z n):=by
 unfold Arx.mks
 repeat' first | exact NR.idx_ _ | (simp;done) | apply NR.new | refine NR.bind ?_ λ_=>?_ | split
theorem NR.lookMap_ (m:AV):NR (Arx.lookMap m):=by
 unfold Arx.lookMap
 repeat' first | (simp;done) | apply NR.new | refine NR.bind ?_ λ_=>?_ | split
theorem NR.mget_ (ok agg:Bool) (qs:List Nat) (z:List AV) (m k:AV):NR (Arx.mget ok agg qs z m k):=by
 unfold Arx.mget
 repeat' first | exact NR.lookMap_ _ | exact NR.mk_ _ _ | (simp;done) | apply NR.new | refine NR.bind ?_ λ_=>?_ | split
theorem NR.mput_ (qs:List Nat) (m k v:AV):NR (Arx.mput qs m k v):=by
 unfold Arx.mput
 repeat' first | exact NR.lookMap_ _ | (simp;done) | apply NR.new | refine NR.bind ?_ λ_=>?_ | split
theorem NR.mdel_ (qs:List Nat) (m k:AV):NR (Arx.mdel qs m k):=by
 unfold Arx.mdel
 repeat' first | exact NR.lookMap_ _ | (simp;done) | apply NR.new | refine NR.bind ?_ λ_=>?_ | split
theorem NR.aload_ (k:IntKind) (a:AV):NR (Arx.aload k a):=by
 unfold Arx.aload
 repeat' first | exact NR.load_ _ _ _ | (simp;done) | apply NR.new | refine NR.bind ?_ λ_=>?_ | split
theorem NR.aadd_ (k:IntKind) (a d:AV):NR (Arx.aadd k a d):=by
 unfold Arx.aadd
 repeat' first | exact NR.aload_ _ _ | exact NR.store_ _ _ _ | (simp;done) | apply NR.new | refine NR.bind ?_ λ_=>?_ | split
theorem NR.acas_ (k:IntKind) (a o y:AV):NR (Arx.acas k a o y):=by
 unfold Arx.acas
 repeat' first | exact NR.aload_ _ _ | exact NR.store_ _ _ _ | (simp;done) | apply NR.new | refine NR.bind ?_ λ_=>?_ | split
theorem NR.toU_ (x:AV):NR (Arx.toU x):=by
 unfold Arx.toU
 repeat' first | (simp;done) | apply NR.new | refine NR.bind ?_ λ_=>?_ | split
theorem NR.ofU_ (x:AV):NR (Arx.ofU x):=by
 unfold Arx.ofU
 repeat' first | (simp;done) | apply NR.new | refine NR.bind ?_ λ_=>?_ | split
theorem NR.usd_ (x:AV):NR (Arx.usd x):=by
 unfold Arx.usd
 repeat' first | (simp;done) | apply NR.new | refine NR.bind ?_ λ_=>?_ | split
theorem NR.ustr_ (p n:AV):NR (Arx.ustr p n):=by
 unfold Arx.ustr
 repeat' first | (simp;done) | apply NR.new | refine NR.bind ?_ λ_=>?_ | split
theorem NR.fz_ (w:Bool):∀(n:Nat) (a:AV),NR (fz w n a)
 |0,_=>NR.fail
 |n+1,a=>by
  have ih:=NR.fz_ w n;unfold fz
  repeat' first | exact NR.mapL (λ_=>NR.mapL ih _) _ | exact NR.mapL ih _ | (simp;done) | apply NR.new | refine NR.bind ?_ λ_=>?_ | split
theorem NR.fz1_ (w:Bool) (a:AV):NR (fz1 w a):=by
 unfold fz1
 repeat' first | exact NR.mapL (NR.fz_ w 8) _ | exact NR.fz_ w 8 _ | (simp;done) | apply NR.new | refine NR.bind ?_ λ_=>?_ | split
theorem NR.callM_ (call:Call1) (f:AV) (args:List AV):NR (callM call f args):=by
 unfold callM
 repeat' first | exact NR.mapL (NR.fz1_ false) _ | (simp;done) | apply NR.new | refine NR.bind ?_ λ_=>?_ | split
theorem NR.fcallM_ (call:Call1) (f:AV) (args:List AV):NR (fcallM call f args):=by
 unfold fcallM
 repeat' first | exact NR.mapL (NR.fz1_ true) _ | (simp;done) | apply NR.new | refine NR.bind ?_ λ_=>?_ | split
theorem nr_osem (call:Call1) (slot:Nat) (ρ:Opd->AV) (op:IOp):NR (osem call slot ρ op):=by
 cases op<;>simp only[osem]
 all_goals repeat' first | exact NR.load_ _ _ _ | exact NR.store_ _ _ _ | exact NR.fadr_ _ _ | exact NR.fld_ _ _ _ _ | exact NR.iarr_ _ _ _ _ | exact NR.isl_ _ _ _ | exact NR.xarr_ _ _ _ _ _ | exact NR.xstr_ _ _ | exact NR.binM_ _ _ _ _ | exact NR.slc_ _ _ _ _ | exact NR.slcs_ _ _ _ | exact NR.slz_ _ _ | exact NR.sla_ _ _ _ _ | exact NR.clr_ _ _ _ | exact NR.len_ _ _ | exact NR.app_ _ _ _ _ _ | exact NR.capn_ _ | exact NR.appn_ _ _ _ _ _ | exact NR.mks_ _ _ _ _ | exact NR.mget_ _ _ _ _ _ _ | exact NR.mput_ _ _ _ _ | exact NR.mdel_ _ _ _ | exact NR.lookMap_ _ | exact NR.aload_ _ _ | exact NR.aadd_ _ _ _ | exact NR.acas_ _ _ _ _ | exact NR.toU_ _ | exact NR.ofU_ _ | exact NR.usd_ _ | exact NR.ustr_ _ _ | exact NR.callM_ _ _ _ | exact NR.fcallM_ _ _ _ | exact NR.idx_ _ | exact NR.cellsM_ _ | exact NR.elems_ _ _ | (refine NR.mapL (λ_=>?_) _) | (simp;done) | apply NR.new | refine NR.bind ?_ λ_=>?_ | split
theorem nr_resM (fr:Fr) (x:IRes):NR (resM fr x):=by
 cases x with
 |t n=>exact NR.ret _
 |cell n agg sz=>exact NR.load_ _ _ _
theorem nr_resAll (fr:Fr) (xs:List IRes):NR (resAll fr xs):=by
 unfold resAll;split
 ·exact nr_resM _ _
 ·exact NR.bind (NR.mapL (nr_resM fr) _) λ_=>NR.ret _
theorem M.wrote {α:Type}:∀(m:M α) (h h':Hp) (a:α),m.run h=some (a,h')->∀n ∈ (m.foot h).2,On h' n
 |.ret x,h,h',a,e,n,hn=>by simp[M.foot]at hn
 |.fail,h,h',a,e,n,hn=>by simp[M.foot]at hn
 |.get id k,h,h',a,e,n,hn=>M.wrote (k (Arx.get h id)) h h' a e n hn
 |.put id o k,h,h',a,e,n,hn=>by
  simp only[M.foot,List.mem_append,List.mem_singleton]at hn;rcases hn with hn | rfl
  ·exact M.wrote k _ h' a e n hn
  ·exact M.stay k _ h' a _ e On.same
theorem app_on {qs:List (Nat×Ob)} {p:Nat×Ob} (hp:p ∈ qs):∀h:Hp,On (app_ qs h) p.1:=by
 induction qs with
 |nil=>simp at hp
 |cons q qs ih=>
  intro h;have stay:∀(l:List (Nat×Ob)) (h:Hp) (n:Nat),On h n->On (app_ l h) n:=by
   intro l
   induction l with
   |nil=>intro h n hn;exact hn
   |cons a l ih=>intro h n hn;exact ih _ n hn.set
  rcases List.mem_cons.1 hp with rfl | hp
  ·exact stay qs _ _ On.same
  ·exact ih hp _
def Off (qs:List (Nat×Ob)) (h:Hp):Prop:=∀p ∈ qs,get h p.1=none
theorem Off.not {qs:List (Nat×Ob)} {h:Hp} {n:Nat} (hq:Off qs h) (hn:On h n):∀p ∈ qs,p.1≠n:=by
 intro p hp e;have:=hq p hp;unfold On at hn;rw[<-e,this]at hn;cases hn
theorem Off.back {qs:List (Nat×Ob)} {h h':Hp} (hq:Off qs h') (hs:∀n,On h n->On h' n):Off qs h:=by
 intro p hp;cases hg:get h p.1 with
 |none=>rfl
 |some o=>
  have:=hs p.1 (by unfold On;rw[hg];rfl);exact absurd rfl (hq.not this p hp)
theorem M.more {α:Type} {m:M α} (hm:NR m) {h h':Hp} {a:α} (e:m.run h=some (a,h')) {qs:List (Nat×Ob)} (hq:Off qs h') :
  m.run (app_ qs h)=some (a,app_ qs h')/\m.foot (app_ qs h)=m.foot h:=by
 obtain⟨ps,e1,e2,e3,e4⟩:=M.frame m h (app_ qs h) h' a e λn hn=>(app_get (λp hp=>hq.not (hm h a h' e n hn) p hp) h).symm
 refine⟨?_,e3⟩;rw[e2,e1];rw[app_comm λp hp q hq' he=>hq.not (by rw[e1];exact app_on hq' h) p hp he]
theorem all_mem {l:List Nat} {p q:Nat->Bool} (h:∀n ∈ l,p n=q n):l.all p=l.all q:=by
 induction l with
 |nil=>rfl
 |cons a l ih=>simp only[List.all_cons,h a (List.mem_cons_self ..),ih λn hn=>h n (List.mem_cons_of_mem _ hn)]
def Feet.plus (qs:List (Nat×Ob)):Feet->Feet
 |.m x=>.m x
 |.c h0 h1=>.c (app_ qs h0) (app_ qs h1)
def Feet.on (h:Hp):Feet->Prop
 |.m x=>(∀n ∈ x.1,On h n)/\∀n ∈ x.2,On h n
 |.c _ _=>True
theorem Feet.on.mono {h h':Hp} {f:Feet} (hf:f.on h) (hs:∀n,On h n->On h' n):f.on h':=by
 cases f with
 |m x=>exact⟨λn hn=>hs n (hf.1 n hn),λn hn=>hs n (hf.2 n hn)⟩
 |c=>trivial
theorem clash_plus {qs:List (Nat×Ob)} {h:Hp} (hq:Off qs h) {f g:Feet} (hf:f.on h) (hg:g.on h):clash (f.plus qs) (g.plus qs)=clash f g:=by
 have ne:∀{n:Nat},On h n->∀x:Hp,get (app_ qs x) n=get x n:=λhn x=>app_get (hq.not hn) x
 cases f with
 |m x=>
  cases g with
  |m y=>rfl
  |c h0 h1=>
   simp only[Feet.plus,clash];congr 2;refine all_mem λn hn=>?_
   rw[ne (hf.1 n hn),ne (hf.1 n hn)]
 |c h0 h1=>
  cases g with
  |m y=>
   simp only[Feet.plus,clash];congr 2
   ·congr 1;refine all_mem λn hn=>?_
    rw[ne (hg.1 n hn),ne (hg.1 n hn)]
   ·refine all_mem λn hn=>?_
    rcases List.mem_append.1 hn with hn | hn
    ·rw[ne (hg.1 n hn)]
    ·rw[ne (hg.2 n hn)]
  |c k0 k1=>rfl
def St.plus (qs:List (Nat×Ob)) (s:St):St:={ s with hp:=app_ qs s.hp }
def MoreX (cx:CallX):Prop:=∀f args h nx r h' nx',cx f args h nx=some (r,h',nx')->(∀n,On h n->On h' n)/\∀qs,Off qs h'->cx f args (app_ qs h) nx=some (r,app_ qs h',nx')
section
variable {c1:Call1} {cx:CallX}
theorem step_more (hx:MoreX cx) {slot:Nat} {o:IOper} {s s1:St} (e:step c1 cx slot o s=some s1) :
  (∀n,On s.hp n->On s1.hp n)/\(footOf c1 slot o s s1.hp).on s1.hp/\∀qs,Off qs s1.hp->step c1 cx slot o (s.plus qs)=some (s1.plus qs)/\footOf c1 slot o (s.plus qs) (s1.plus qs).hp=(footOf c1 slot o s s1.hp).plus qs:=by
 unfold step at e ⊢;unfold footOf;simp only[St.plus];cases hw:wants s.fr o.gd with
 |none=>rw[hw]at e;cases e
 |some b=>
  rw[hw]at e;cases b with
  |false=>
   simp only[Option.some.injEq]at e;subst e;exact⟨λ_ h=>h,⟨λn hn=>by simp at hn,λn hn=>by simp at hn⟩,λqs _=>⟨rfl,rfl⟩⟩
  |true=>
   simp only[]at e ⊢;cases hs:isS o.op with
   |some fa=>
    rw[hs]at e;simp only[]at e ⊢;cases hcl:callee (ev s.fr fa.1)with
    |none=>rw[hcl]at e;cases e
    |some q=>
     rw[hcl]at e;simp only[]at e ⊢;cases hr:cx q.1 (q.2.1++(fa.2.map (ev s.fr)++q.2.2)) s.hp s.nx with
     |none=>rw[hr]at e;cases e
     |some p=>
      obtain⟨v,h1,n1⟩:=p;rw[hr]at e;simp only[Option.some.injEq]at e;subst e;obtain⟨q1,q2⟩:=hx _ _ _ _ _ _ _ hr;refine⟨q1,trivial,λqs hq=>⟨?_,rfl⟩⟩;rw[q2 qs hq]
   |none=>
    rw[hs]at e;simp only[]at e ⊢;cases hr:(osem c1 slot (ev s.fr) o.op).run s.hp with
    |none=>rw[hr]at e;cases e
    |some p=>
     obtain⟨v,h1⟩:=p;rw[hr]at e;simp only[Option.some.injEq]at e;subst e;have hn:=nr_osem c1 slot (ev s.fr) o.op;refine⟨λn h=>M.stay _ _ _ _ n hr h,⟨hn _ _ _ hr,M.wrote _ _ _ _ hr⟩,λqs hq=>?_⟩;obtain⟨q1,q2⟩:=M.more hn hr hq;rw[q1,q2];exact⟨rfl,rfl⟩
theorem evalOps_more (hx:MoreX cx):∀(ops:List IOper) (slot:Nat) (s s1:St),evalOps c1 cx ops slot s=some s1->
  (∀n,On s.hp n->On s1.hp n)/\∀qs,Off qs s1.hp->evalOps c1 cx ops slot (s.plus qs)=some (s1.plus qs)
 |[],slot,s,s1,e=>by
  simp only[evalOps,Option.some.injEq]at e;subst e;exact⟨λ_ h=>h,λqs _=>rfl⟩
 |o::r,slot,s,s1,e=>by
  simp only[evalOps]at e ⊢;cases h1:step c1 cx slot o s with
  |none=>rw[h1]at e;cases e
  |some t=>
   rw[h1]at e;obtain⟨a1, -,a2⟩:=step_more hx h1;obtain⟨b1,b2⟩:=evalOps_more hx r (slot+1) t s1 e;refine⟨λn h=>b1 n (a1 n h),λqs hq=>?_⟩;rw[(a2 qs (hq.back b1)).1];exact b2 qs hq
theorem evalFeet_more (hx:MoreX cx):∀(ops:List IOper) (slot:Nat) (s s1:St) (fs:List Feet),evalFeet c1 cx ops slot s=some (s1,fs)->
  (∀n,On s.hp n->On s1.hp n)/\(∀f ∈ fs,f.on s1.hp)/\∀qs,Off qs s1.hp->evalFeet c1 cx ops slot (s.plus qs)=some (s1.plus qs,fs.map (Feet.plus qs))
 |[],slot,s,s1,fs,e=>by
  simp only[evalFeet,Option.some.injEq,Prod.mk.injEq]at e;obtain⟨rfl,rfl⟩:=e;exact⟨λ_ h=>h,λf hf=>by simp at hf,λqs _=>rfl⟩
 |o::r,slot,s,s1,fs,e=>by
  simp only[evalFeet]at e ⊢;cases h1:step c1 cx slot o s with
  |none=>rw[h1]at e;cases e
  |some t=>
   rw[h1]at e;simp only[]at e;cases h2:evalFeet c1 cx r (slot+1) t with
   |none=>rw[h2]at e;cases e
   |some p=>
    rw[h2]at e;simp only[Option.some.injEq,Prod.mk.injEq]at e;obtain⟨rfl,rfl⟩:=e;obtain⟨a1,a0,a2⟩:=step_more hx h1;obtain⟨b1,b0,b2⟩:=evalFeet_more hx r (slot+1) t p.1 p.2 h2;refine⟨λn h=>b1 n (a1 n h),λf hf=>?_,λqs hq=>?_⟩
    ·rcases List.mem_cons.1 hf with rfl | hf
     ·exact a0.mono b1
     ·exact b0 f hf
    ·obtain⟨c1',c2'⟩:=a2 qs (hq.back b1);rw[c1'];simp only[];rw[b2 qs hq];simp only[List.map_cons];rw[<-c2']
theorem apart1_plus {qs:List (Nat×Ob)} {h:Hp} (hq:Off qs h) {x:Feet} (hx:x.on h) (i:Nat):∀(fs:List Feet) (cs:List (List Nat)),(∀f ∈ fs,f.on h)->apart1 (x.plus qs) i (fs.map (Feet.plus qs)) cs=apart1 x i fs cs
 |[],cs,_=>by cases cs<;>rfl
 |f::fs,[],_=>rfl
 |f::fs,c::cs,hf=>by
  simp only[List.map_cons,apart1];rw[clash_plus hq hx (hf f (List.mem_cons_self ..)),apart1_plus hq hx i fs cs λg hg=>hf g (List.mem_cons_of_mem _ hg)]
theorem apartAll_plus {qs:List (Nat×Ob)} {h:Hp} (hq:Off qs h):∀(fs:List Feet) (i:Nat) (cs:List (List Nat)),(∀f ∈ fs,f.on h)->apartAll (fs.map (Feet.plus qs)) i cs=apartAll fs i cs
 |[],i,cs,_=>by cases cs<;>rfl
 |f::fs,i,[],_=>rfl
 |f::fs,i,c::cs,hf=>by
  simp only[List.map_cons,apartAll];rw[apart1_plus hq (hf f (List.mem_cons_self ..)) i fs cs λg hg=>hf g (List.mem_cons_of_mem _ hg),apartAll_plus hq fs (i+1) cs λg hg=>hf g (List.mem_cons_of_mem _ hg)]
theorem quiet_plus (qs:List (Nat×Ob)):∀fs:List Feet,(fs.map (Feet.plus qs)).all quietF=fs.all quietF
 |[]=>rfl
 |f::fs=>by
  simp only[List.map_cons,List.all_cons,quiet_plus qs fs];cases f<;>rfl
theorem evalRgn_more (hx:MoreX cx) {draw:Bool} {ops:List IOper} {keep:List Nat} {s s1:St} (e:evalRgn c1 cx draw ops keep s=some s1) :
  (∀n,On s.hp n->On s1.hp n)/\∀qs,Off qs s1.hp->evalRgn c1 cx draw ops keep (s.plus qs)=some (s1.plus qs):=by
 unfold evalRgn at e ⊢;cases draw with
 |false=>
  simp only[Bool.false_eq_true,if_false]at e ⊢;cases h1:evalOps c1 cx ops s.nx { s with nx:=s.nx+ops.length } with
  |none=>rw[h1]at e;cases e
  |some t=>
   rw[h1]at e;simp only[Option.some.injEq]at e;subst e;obtain⟨a1,a2⟩:=evalOps_more hx _ _ _ _ h1;refine⟨a1,λqs hq=>?_⟩;have:=a2 qs hq;simp only[St.plus]at this ⊢;rw[this]
 |true=>
  simp only[if_true]at e ⊢;cases h1:evalFeet c1 cx ops s.nx { s with nx:=s.nx+ops.length } with
  |none=>rw[h1]at e;cases e
  |some p=>
   rw[h1]at e;simp only[]at e;split at e
   case isFalse=>cases e
   rename_i ho;simp only[Option.some.injEq]at e;subst e;obtain⟨a1,a0,a2⟩:=evalFeet_more hx _ _ _ p.1 p.2 h1;refine⟨a1,λqs hq=>?_⟩;have:=a2 qs hq;simp only[St.plus]at this ⊢;rw[this];simp only[];rw[if_pos];unfold orderOk at ho ⊢;rw[quiet_plus,apartAll_plus hq p.2 0 _ a0];exact ho
theorem iter_more {f:St->Option (Ex×St)} (hf:∀s r s1,f s=some (r,s1)->(∀n,On s.hp n->On s1.hp n)/\∀qs,Off qs s1.hp->f (s.plus qs)=some (r,s1.plus qs)) (keep:List Nat):∀(m:Nat) (s:St) (r:Ex) (s1:St),iter f keep m s=some (r,s1)->
  (∀n,On s.hp n->On s1.hp n)/\∀qs,Off qs s1.hp->iter f keep m (s.plus qs)=some (r,s1.plus qs)
 |0,s,r,s1,e=>by simp[iter]at e
 |m+1,s,r,s1,e=>by
  simp only[iter]at e ⊢;cases h1:f s with
  |none=>rw[h1]at e;cases e
  |some p=>
   obtain⟨r1,t⟩:=p;rw[h1]at e;obtain⟨a1,a2⟩:=hf s r1 t h1;cases r1 with
   |norm=>
    obtain⟨b1,b2⟩:=iter_more hf keep m _ r s1 e;refine⟨λn h=>b1 n (a1 n h),λqs hq=>?_⟩;rw[a2 qs (hq.back b1)];exact b2 qs hq
   |exit i=>
    simp only[Option.some.injEq,Prod.mk.injEq]at e;obtain⟨rfl,rfl⟩:=e;exact⟨a1,λqs hq=>by rw[a2 qs hq]⟩
   |ret=>
    simp only[Option.some.injEq,Prod.mk.injEq]at e;obtain⟨rfl,rfl⟩:=e;exact⟨a1,λqs hq=>by rw[a2 qs hq]⟩
theorem evalC_more (hx:MoreX cx) (k:Nat):∀(ic:IC) (s:St) (r:Ex) (s1:St),evalC c1 cx k ic s=some (r,s1)->
  (∀n,On s.hp n->On s1.hp n)/\∀qs,Off qs s1.hp->evalC c1 cx k ic (s.plus qs)=some (r,s1.plus qs):=by
 intro ic
 induction ic with
 |skip=>
  intro s r s1 e;simp only[evalC,Option.some.injEq,Prod.mk.injEq]at e ⊢;obtain⟨rfl,rfl⟩:=e;exact⟨λ_ h=>h,λqs _=>⟨rfl,rfl⟩⟩
 |rgn draw ops keep=>
  intro s r s1 e;simp only[evalC,Option.map_eq_some_iff,Prod.mk.injEq]at e ⊢;obtain⟨t,e1,rfl,rfl⟩:=e;obtain⟨a1,a2⟩:=evalRgn_more hx e1;exact⟨a1,λqs hq=>⟨_,a2 qs hq,rfl,rfl⟩⟩
 |seq a b iha ihb=>
  intro s r s1 e;simp only[evalC]at e ⊢;cases h1:evalC c1 cx k a s with
  |none=>rw[h1]at e;cases e
  |some p=>
   obtain⟨r1,t⟩:=p;rw[h1]at e;obtain⟨a1,a2⟩:=iha s r1 t h1;cases r1 with
   |norm=>
    obtain⟨b1,b2⟩:=ihb t r s1 e;refine⟨λn h=>b1 n (a1 n h),λqs hq=>?_⟩;rw[a2 qs (hq.back b1)];exact b2 qs hq
   |exit i=>
    simp only[Option.some.injEq,Prod.mk.injEq]at e;obtain⟨rfl,rfl⟩:=e;exact⟨a1,λqs hq=>by rw[a2 qs hq]⟩
   |ret=>
    simp only[Option.some.injEq,Prod.mk.injEq]at e;obtain⟨rfl,rfl⟩:=e;exact⟨a1,λqs hq=>by rw[a2 qs hq]⟩
 |cond c a b iha ihb=>
  intro s r s1 e;simp only[evalC]at e ⊢;have hfr:∀qs,(s.plus qs).fr=s.fr:=λ_=>rfl
  simp only[hfr];split at e
  ·rename_i t ht;cases t with
   |true=>simpa[ht]using iha s r s1 e
   |false=>simpa[ht]using ihb s r s1 e
  ·cases e
 |block id b ih=>
  intro s r s1 e;simp only[evalC]at e ⊢;cases h1:evalC c1 cx k b s with
  |none=>rw[h1]at e;cases e
  |some p=>
   obtain⟨r1,t⟩:=p;rw[h1]at e;obtain⟨a1,a2⟩:=ih s r1 t h1;cases r1 with
   |norm=>
    simp only[Option.some.injEq,Prod.mk.injEq]at e;obtain⟨rfl,rfl⟩:=e;exact⟨a1,λqs hq=>by rw[a2 qs hq]⟩
   |ret=>
    simp only[Option.some.injEq,Prod.mk.injEq]at e;obtain⟨rfl,rfl⟩:=e;exact⟨a1,λqs hq=>by rw[a2 qs hq]⟩
   |exit i=>
    simp only[]at e;split at e
    ·rename_i hi;simp only[Option.some.injEq,Prod.mk.injEq]at e;obtain⟨rfl,rfl⟩:=e;exact⟨a1,λqs hq=>by rw[a2 qs hq];simp[hi]⟩
    ·rename_i hi;simp only[Option.some.injEq,Prod.mk.injEq]at e;obtain⟨rfl,rfl⟩:=e;exact⟨a1,λqs hq=>by rw[a2 qs hq];simp[hi]⟩
 |loop keep b ih=>
  intro s r s1 e;simp only[evalC]at e ⊢;exact iter_more ih keep k _ r s1 e
 |exit id=>
  intro s r s1 e;simp only[evalC,Option.some.injEq,Prod.mk.injEq]at e ⊢;obtain⟨rfl,rfl⟩:=e;exact⟨λ_ h=>h,λqs _=>⟨rfl,rfl⟩⟩
 |ret=>
  intro s r s1 e;simp only[evalC,Option.some.injEq,Prod.mk.injEq]at e ⊢;obtain⟨rfl,rfl⟩:=e;exact⟨λ_ h=>h,λqs _=>⟨rfl,rfl⟩⟩
 |scope b ih=>
  intro s r s1 e;simp only[evalC]at e ⊢;exact ih s r s1 e
 |stop=>
  intro s r s1 e;simp[evalC]at e
def PrimMore (p:Call1->CallX->List AV->Hp->Nat->Option (AV×Hp×Nat)):Prop:=
 ∀c1 cx,MoreX cx->∀args h nx r h' nx',p c1 cx args h nx=some (r,h',nx')->(∀n,On h n->On h' n)/\∀qs,Off qs h'->p c1 cx args (app_ qs h) nx=some (r,app_ qs h',nx')
theorem evalF_more {prog:Nat->Option IFn} (hp:∀f ir p,prog f=some ir->ir.prim=some p->PrimMore p):∀k,MoreX (evalF c1 prog k):=by
 intro k
 induction k with
 |zero=>intro f args h nx r h' nx' e;simp[evalF]at e
 |succ k ih=>
  intro f args h nx r h' nx' e;simp only[evalF]at e ⊢;cases hf:prog f with
  |none=>rw[hf]at e;cases e
  |some ir=>
   rw[hf]at e;simp only[]at e ⊢;cases hpr:ir.prim with
   |some p=>
    rw[hpr]at e;exact hp f ir p hf hpr c1 _ ih args h nx r h' nx' e
   |none=>
    rw[hpr]at e;simp only[]at e ⊢;split at e
    case isFalse=>cases e
    rename_i hl;have fin:∀(t:St) (ex:Ex),(ex = .norm\/ex = .ret)->evalC c1 (evalF c1 prog k) k ir.body ⟨params args 0,h,nx⟩=some (ex,t)->(match(resAll t.fr ir.res).run t.hp with | some (v,h)=>some (v,h,t.nx) | none=>none)=some (r,h',nx')->
      (∀n,On h n->On h' n)/\∀qs,Off qs h'->evalC c1 (evalF c1 prog k) k ir.body ⟨params args 0,app_ qs h,nx⟩=some (ex,t.plus qs)/\
       (match(resAll t.fr ir.res).run (app_ qs t.hp)with | some (v,h)=>some (v,h,t.nx) | none=>none)=some (r,app_ qs h',nx'):=by
     intro t ex _ h1 h2;obtain⟨a1,a2⟩:=evalC_more ih k _ _ _ _ h1;cases h3:(resAll t.fr ir.res).run t.hp with
     |none=>rw[h3]at h2;cases h2
     |some q=>
      obtain⟨v,h4⟩:=q;rw[h3]at h2;simp only[Option.some.injEq,Prod.mk.injEq]at h2;obtain⟨rfl,rfl,rfl⟩:=h2;have b1:=λn=>M.stay _ _ _ _ n h3
      refine⟨λn hn=>b1 n (a1 n hn),λqs hq=>⟨a2 qs (hq.back b1),?_⟩⟩;rw[(M.more (nr_resAll _ _) h3 hq).1]
    cases h1:evalC c1 (evalF c1 prog k) k ir.body ⟨params args 0,h,nx⟩with
    |none=>rw[h1]at e;cases e
    |some q=>
     obtain⟨ex,t⟩:=q;rw[h1]at e;cases ex with
     |norm=>
      obtain⟨b1,b2⟩:=fin t _ (.inl rfl) h1 e;refine⟨b1,λqs hq=>?_⟩;rw[if_pos hl,(b2 qs hq).1];exact(b2 qs hq).2
     |ret=>
      obtain⟨b1,b2⟩:=fin t _ (.inr rfl) h1 e;refine⟨b1,λqs hq=>?_⟩;rw[if_pos hl,(b2 qs hq).1];exact(b2 qs hq).2
     |exit i=>cases e
end
def GE (h h':Fr):Prop:=∀n,get h n=get h' n
theorem GE.refl (h:Fr):GE h h:=λ_=>rfl
theorem GE.symm {h h':Fr} (e:GE h h'):GE h' h:=λn=>(e n).symm
theorem GE.trans {a b c:Fr} (e:GE a b) (f:GE b c):GE a c:=λn=>(e n).trans (f n)
theorem GE.set {h h':Fr} (e:GE h h') (n:Nat) (x:AV):GE (set h n x) (set h' n x):=λm=>by simp[get_set,e m]
def oneR:Opd->List Nat
 |.t n=>[n]
 |.c _=>[]
def optR:Option Opd->List Nat
 |some x=>oneR x
 |none=>[]
def manyR:List Opd->List Nat
 |[]=>[]
 |x::r=>oneR x++manyR r
def partR {α:Type} (f:α->Opd):List α->List Nat
 |[]=>[]
 |x::r=>oneR (f x)++partR f r
def readsOf:IOp->List Nat
 |.mov x | .box _ x | .fadr _ x | .fld _ _ _ x | .un _ x | .cvi _ x | .cvs x | .cvb x | .slz _ x | .clr _ _ x | .len _ x | .ext x _ | .nchk x | .load _ _ x | .capn x | .mks _ _ x | .aload _ x | .toU x | .noesc x | .ofU x | .usd x=>oneR x
 |.alloc _ _ | .mmk | .dead | .bs0 _=>[]
 |.mlen x=>oneR x
 |.mget _ _ _ _ x y | .mdel _ x y=>oneR x++oneR y
 |.mput _ x y z | .acas _ x y z=>oneR x++(oneR y++oneR z)
 |.pick c a b=>oneR c++(oneR a++oneR b)
 |.build _ ps=>partR (λp=>p.2.2) ps
 |.bsl _ _ _ ps=>partR (λp=>p.2) ps
 |.store _ x y | .iarr _ _ x y | .isl _ x y | .xarr _ _ _ x y | .xstr x y | .bin _ _ x y | .eqc _ _ x y | .app _ _ x y | .appn _ _ x y | .astore x y | .aadd _ x y | .ustr x y=>oneR x++oneR y
 |.slc _ x lo hi | .sla _ x lo hi | .slcs x lo hi=>oneR x++(optR lo++optR hi)
 |.mn x ys | .mx x ys=>oneR x++manyR ys
 |.mkf _ fs cs=>manyR fs++manyR cs
 |.call _ f U | .scall f U=>oneR f++manyR U
def readsO (o:IOper):List Nat:=readsOf o.op++(match o.gd with | some (t,_)=>[t] | none=>[])
theorem manyR_map {ρ ρ':Opd->AV}:∀{l:List Opd},(∀x:Opd,(∀n ∈ oneR x,n ∈ manyR l)->ρ x=ρ' x)->l.map ρ=l.map ρ'
 |[],_=>rfl
 |x::r,h=>by
  simp only[List.map_cons,h x λn hn=>by simp[manyR,hn]];rw[manyR_map (l:=r) λy hy=>h y λn hn=>by simp[manyR,hy n hn]]
theorem partR_map {α β:Type} {f:α->Opd} {ρ ρ':Opd->AV} {F:α->AV->M β}:∀{l:List α},(∀x:Opd,(∀n ∈ oneR x,n ∈ partR f l)->ρ x=ρ' x)->
  M.mapL (λp=>F p (ρ (f p))) l=M.mapL (λp=>F p (ρ' (f p))) l
 |[],_=>rfl
 |x::r,h=>by
  simp only[M.mapL];rw[h (f x) λn hn=>by simp[partR,hn],partR_map (l:=r) λy hy=>h y λn hn=>by simp[partR,hy n hn]]
theorem osem_congr {call:Call1} {slot:Nat} {ρ ρ':Opd->AV} {op:IOp} (h:∀x:Opd,(∀n ∈ oneR x,n ∈ readsOf op)->ρ x=ρ' x):osem call slot ρ op=osem call slot ρ' op:=by
 cases op<;>simp only[readsOf]at h<;>simp only[osem]
 case pick c a b=>rw[h c λn hn=>by simp[hn],h a λn hn=>by simp[hn],h b λn hn=>by simp[hn]]
 case build z ps=>rw[partR_map (F:=λp v=>(cellsM v).bind λl=>(M.ok (l.length==p.2.1&&Nat.ble (p.1+p.2.1) z.length)).bind λ_=>.ret (p.1,l)) h]
 case bsl e z n ps=>rw[partR_map (F:=λp v=>(cellsM v).bind λxs=>(M.ok (xs.length==e&&Nat.blt p.1 n)).bind λ_=>M.ret (p.1,xs)) h]
 case slc e x lo hi=>
  rw[h x λn hn=>by simp[hn]];have h1:lo.map ρ=lo.map ρ':=by cases lo with | none=>rfl | some l=>simp[h l λn hn=>by simp[optR,hn]]
  have h2:hi.map ρ=hi.map ρ':=by cases hi with | none=>rfl | some l=>simp[h l λn hn=>by simp[optR,hn]]
  rw[h1,h2]
 case sla n' x lo hi=>
  rw[h x λn hn=>by simp[hn]];have h1:lo.map ρ=lo.map ρ':=by cases lo with | none=>rfl | some l=>simp[h l λn hn=>by simp[optR,hn]]
  have h2:hi.map ρ=hi.map ρ':=by cases hi with | none=>rfl | some l=>simp[h l λn hn=>by simp[optR,hn]]
  rw[h1,h2]
 case slcs x lo hi=>
  rw[h x λn hn=>by simp[hn]];have h1:lo.map ρ=lo.map ρ':=by cases lo with | none=>rfl | some l=>simp[h l λn hn=>by simp[optR,hn]]
  have h2:hi.map ρ=hi.map ρ':=by cases hi with | none=>rfl | some l=>simp[h l λn hn=>by simp[optR,hn]]
  rw[h1,h2]
 case mn x ys=>rw[h x λn hn=>by simp[hn],manyR_map (l:=ys) λy hy=>h y λn hn=>by simp[hy n hn]]
 case mx x ys=>rw[h x λn hn=>by simp[hn],manyR_map (l:=ys) λy hy=>h y λn hn=>by simp[hy n hn]]
 case mkf f fs ys=>rw[manyR_map (l:=fs) λy hy=>h y λn hn=>by simp[hy n hn],manyR_map (l:=ys) λy hy=>h y λn hn=>by simp[hy n hn]]
 case call mode f ys=>rw[h f λn hn=>by simp[hn],manyR_map (l:=ys) λy hy=>h y λn hn=>by simp[hy n hn]]
 case acas qs x y z=>rw[h x λn hn=>by simp[hn],h y λn hn=>by simp[hn],h z λn hn=>by simp[hn]]
 case mput qs x y z=>rw[h x λn hn=>by simp[hn],h y λn hn=>by simp[hn],h z λn hn=>by simp[hn]]
 case mget ok agg qs z x y=>rw[h x λn hn=>by simp[hn],h y λn hn=>by simp[hn]]
 case mdel qs x y=>rw[h x λn hn=>by simp[hn],h y λn hn=>by simp[hn]]
 case store sz x y=>rw[h x λn hn=>by simp[hn],h y λn hn=>by simp[hn]]
 case iarr len e x y=>rw[h x λn hn=>by simp[hn],h y λn hn=>by simp[hn]]
 case isl e x y=>rw[h x λn hn=>by simp[hn],h y λn hn=>by simp[hn]]
 case xarr a len e x y=>rw[h x λn hn=>by simp[hn],h y λn hn=>by simp[hn]]
 case xstr x y=>rw[h x λn hn=>by simp[hn],h y λn hn=>by simp[hn]]
 case bin op q x y=>rw[h x λn hn=>by simp[hn],h y λn hn=>by simp[hn]]
 case eqc neg qs x y=>rw[h x λn hn=>by simp[hn],h y λn hn=>by simp[hn]]
 case appn e z x y=>rw[h x λn hn=>by simp[hn],h y λn hn=>by simp[hn]]
 case ustr x y=>rw[h x λn hn=>by simp[hn],h y λn hn=>by simp[hn]]
 case astore x y=>rw[h x λn hn=>by simp[hn],h y λn hn=>by simp[hn]]
 case aadd kk x y=>rw[h x λn hn=>by simp[hn],h y λn hn=>by simp[hn]]
 case app e byte x y=>rw[h x λn hn=>by simp[hn],h y λn hn=>by simp[hn]]
 all_goals first | rfl | (rename_i x;rw[h x λn hn=>hn]) | (rename_i x _;rw[h x λn hn=>hn])
def SE (s s':St):Prop:=GE s.fr s'.fr/\s.hp=s'.hp/\s.nx=s'.nx
theorem SE.refl (s:St):SE s s:=⟨.refl _,rfl,rfl⟩
theorem SE.symm {s s':St} (h:SE s s'):SE s' s:=⟨h.1.symm,h.2.1.symm,h.2.2.symm⟩
theorem SE.trans {a b c:St} (h:SE a b) (h':SE b c):SE a c:=⟨h.1.trans h'.1,h.2.1.trans h'.2.1,h.2.2.trans h'.2.2⟩
theorem GE.putD {fr fr':Fr} (e:GE fr fr') (d:Option Nat) (v:AV):GE (putD fr d v) (putD fr' d v):=by
 cases d with
 |none=>exact e
 |some d=>exact e.set d v
theorem putD_ne {fr:Fr} {d:Option Nat} {v:AV} {n:Nat} (h:d≠some n):get (putD fr d v) n=get fr n:=by
 cases d with
 |none=>rfl
 |some d=>simp[putD,get_set,show d≠n from λe=>h (by rw[e])]
theorem putD_comm {fr:Fr} {d d':Option Nat} {v v':AV} (h:d≠d'\/d=none):GE (putD (putD fr d v) d' v') (putD (putD fr d' v') d v):=by
 intro n;cases d with
 |none=>rfl
 |some d=>
  cases d' with
  |none=>rfl
  |some d'=>
   have hne:d≠d':=λe=>by rcases h with h | h;exact h (by rw[e]);cases h
   simp only[putD,get_set];by_cases h1:d'=n
   ·have:d≠n:=λe=>hne (e.trans h1.symm)
    simp[h1,this]
   ·simp[h1]
theorem ev_same {fr fr':Fr} {l:List Nat} (h:∀n ∈ l,get fr n=get fr' n) (x:Opd) (hx:∀n ∈ oneR x,n ∈ l):ev fr x=ev fr' x:=by
 cases x with
 |c v=>rfl
 |t n=>simp only[ev];rw[h n (hx n (by simp[oneR]))]
section
variable {c1:Call1} {cx:CallX}
inductive Did where
 |m (ps:List (Nat×Ob))
 |c (h0 h1:Hp) (n0 n1:Nat)
def Did.ok:Did->Feet->St->St->Prop
 |.m ps,.m f,s,s1=>s1.hp=app_ ps s.hp/\s1.nx=s.nx/\∀p ∈ ps,p.1 ∈ f.2
 |.c h0 h1 n0 n1,.c k0 k1,s,s1=>s.hp=h0/\s1.hp=h1/\s.nx=n0/\s1.nx=n1/\k0=h0/\k1=h1
 |_,_,_,_=>False
theorem step_like {slot:Nat} {o:IOper} {s s' s1:St} (e:step c1 cx slot o s=some s1) (hf:∀n ∈ readsO o,get s.fr n=get s'.fr n)
  (hh:match footOf c1 slot o s s1.hp with | .m f=>∀n ∈ f.1,get s.hp n=get s'.hp n | .c _ _=>s.hp=s'.hp/\s.nx=s'.nx) :
  ∃s1' v d,step c1 cx slot o s'=some s1'/\footOf c1 slot o s' s1'.hp=footOf c1 slot o s s1.hp/\s1.fr=putD s.fr o.dst v/\s1'.fr=putD s'.fr o.dst v/\Did.ok d (footOf c1 slot o s s1.hp) s s1/\Did.ok d (footOf c1 slot o s s1.hp) s' s1':=by
 have hw:wants s'.fr o.gd=wants s.fr o.gd:=by
  cases hg:o.gd with
  |none=>rfl
  |some g=>
   simp only[wants];rw[hf g.1 (by simp[readsO,hg])]
 have hev:∀x:Opd,(∀n ∈ oneR x,n ∈ readsOf o.op)->ev s'.fr x=ev s.fr x:=λx hx=>(ev_same hf x λn hn=>by simp[readsO,hx n hn]).symm
 have ho:osem c1 slot (ev s'.fr) o.op=osem c1 slot (ev s.fr) o.op:=osem_congr hev;unfold step at e ⊢;unfold footOf at hh ⊢;rw[hw,ho];cases hwv:wants s.fr o.gd with
 |none=>rw[hwv]at e;cases e
 |some b=>
  rw[hwv]at e hh;cases b with
  |false=>
   simp only[Option.some.injEq]at e;subst e;exact⟨_,.tup [],.m [],rfl,rfl,rfl,rfl,⟨rfl,rfl,λp hp=>by simp at hp⟩,⟨rfl,rfl,λp hp=>by simp at hp⟩⟩
  |true=>
   simp only[]at e hh ⊢;cases hs:isS o.op with
   |some fa=>
    rw[hs]at e hh;simp only[]at e hh ⊢;obtain⟨f,U⟩:=fa;obtain⟨q1,q2⟩:=hh;have hop:o.op = .scall f U:=by
     generalize o.op=op at hs;cases op<;>simp[isS]at hs;obtain⟨rfl,rfl⟩:=hs;rfl
    have hfe:ev s'.fr f=ev s.fr f:=hev f λn hn=>by rw[hop];simp[readsOf,hn]
    have hae:U.map (ev s'.fr)=U.map (ev s.fr):=manyR_map (l:=U) λx hx=>hev x λn hn=>by rw[hop];simp[readsOf,hx n hn]
    rw[hfe,hae,<-q1,<-q2];cases hcl:callee (ev s.fr f)with
    |none=>rw[hcl]at e;cases e
    |some q=>
     rw[hcl]at e;simp only[]at e ⊢;cases hr:cx q.1 (q.2.1++(U.map (ev s.fr)++q.2.2)) s.hp s.nx with
     |none=>rw[hr]at e;cases e
     |some p=>
      obtain⟨v,h1,n1⟩:=p;rw[hr]at e;simp only[Option.some.injEq]at e;subst e;exact⟨_,v,.c s.hp h1 s.nx n1,rfl,rfl,rfl,rfl,⟨rfl,rfl,rfl,rfl,rfl,rfl⟩,⟨q1.symm,rfl,q2.symm,rfl,rfl,rfl⟩⟩
   |none=>
    rw[hs]at e hh;simp only[]at e hh ⊢;cases hr:(osem c1 slot (ev s.fr) o.op).run s.hp with
    |none=>rw[hr]at e;cases e
    |some p=>
     obtain⟨v,h1⟩:=p;rw[hr]at e;simp only[Option.some.injEq]at e;subst e;obtain⟨ps,e1,e2,e3,e4⟩:=M.frame _ _ s'.hp _ _ hr hh;rw[e2];exact⟨_,v,.m ps,rfl,by rw[e3],rfl,rfl,⟨e1,rfl,e4⟩,⟨rfl,rfl,e4⟩⟩
def apartT (x y:IOper):Bool:=
 (match x.dst with | some d=>!(readsO y).contains d&&y.dst != some d | none=>true)&&(match y.dst with | some d=>!(readsO x).contains d | none=>true)
theorem apartT_spec {x y:IOper} (h:apartT x y=true):(∀d,x.dst=some d->d ∉ readsO y)/\(x.dst≠y.dst\/x.dst=none)/\∀d,y.dst=some d->d ∉ readsO x:=by
 unfold apartT at h;simp only[Bool.and_eq_true]at h;obtain⟨h1,h2⟩:=h;refine⟨λd hd=>?_,?_,λd hd=>?_⟩
 ·rw[hd]at h1;simp at h1;exact h1.1
 ·cases hx:x.dst with
  |none=>exact .inr rfl
  |some d=>
   rw[hx]at h1;simp at h1;exact .inl λe=>h1.2 e.symm
 ·rw[hd]at h2;simpa using h2
theorem meets_spec {a b:List Nat} (h:meets a b=false):∀n ∈ a,n ∉ b:=by
 intro n hn hb;have:meets a b=true:=by simp only[meets,List.any_eq_true,List.contains_iff_mem];exact⟨n,hn,hb⟩
 rw[h]at this;cases this
theorem nil_of {ps:List (Nat×Ob)} {l:List Nat} (h:l=[]) (q:∀p ∈ ps,p.1 ∈ l):ps=[]:=List.eq_nil_iff_forall_not_mem.2 λp hp=>by have:=q p hp;simp[h]at this
theorem clash_cm {h0 h1:Hp} {y:List Nat×List Nat} (h:clash (.c h0 h1) (.m y)=false):(y.2=[]/\∀n ∈ y.1,get h0 n=get h1 n)\/∀n ∈ y.1++y.2,get h1 n=none:=by
 simp only[clash,Bool.not_eq_false',Bool.or_eq_true,Bool.and_eq_true,List.isEmpty_iff,List.all_eq_true,Option.isNone_iff_eq_none]at h;rcases h with h | h
 ·exact .inl ⟨h.1,λn hn=>obB_eq (h.2 n hn)⟩
 ·exact .inr h
theorem clash_mc {h0 h1:Hp} {y:List Nat×List Nat} (h:clash (.m y) (.c h0 h1)=false):y.2=[]/\∀n ∈ y.1,get h0 n=get h1 n:=by
 simp only[clash,Bool.not_eq_false',Bool.and_eq_true,List.isEmpty_iff,List.all_eq_true]at h;exact⟨h.1,λn hn=>obB_eq (h.2 n hn)⟩
theorem app_same {n:Nat}:∀(qs:List (Nat×Ob)) {a b:Hp},get a n=get b n->get (app_ qs a) n=get (app_ qs b) n
 |[],a,b,h=>h
 |q::qs,a,b,h=>app_same qs (by simp only[get_set,h])
theorem app_app (qs ps:List (Nat×Ob)) (h:Hp):app_ (qs++ps) h=app_ ps (app_ qs h):=List.foldl_append
def Stp (c1:Call1) (cx:CallX) (slot:Nat) (o:IOper) (f:Feet) (s s1:St):Prop:=
 match f with
 |.m x=>step c1 cx slot o s=some s1/\footOf c1 slot o s s1.hp = .m x
 |.c h0 h1=>∃qs t,Off qs h1/\t.hp=h1/\s.hp=app_ qs h0/\step c1 cx slot o { s with hp:=h0 }=some t/\footOf c1 slot o { s with hp:=h0 } h1 = .c h0 h1/\s1=t.plus qs
theorem Stp.of {slot:Nat} {o:IOper} {s s1:St} (e:step c1 cx slot o s=some s1):Stp c1 cx slot o (footOf c1 slot o s s1.hp) s s1:=by
 cases hf:footOf c1 slot o s s1.hp with
 |m x=>exact⟨e,hf⟩
 |c h0 h1=>
  have hh:h0=s.hp/\h1=s1.hp:=by
   unfold footOf at hf;split at hf
   ·split at hf
    ·cases hf;exact⟨rfl,rfl⟩
    ·cases hf
   ·cases hf
  obtain⟨rfl,rfl⟩:=hh;exact⟨[],s1,λp hp=>by simp at hp,rfl,rfl,e,hf,rfl⟩
theorem Stp.step (hm:MoreX cx) {slot:Nat} {o:IOper} {f:Feet} {s s1:St} (h:Stp c1 cx slot o f s s1):step c1 cx slot o s=some s1:=by
 cases f with
 |m x=>exact h.1
 |c h0 h1=>
  obtain⟨qs,t,h1,h2,h3,h4,h5,rfl⟩:=h;have:=(step_more hm h4).2.2 qs (by rw[h2];exact h1);rw[<-this.1];simp only[St.plus,<-h3]
def Alike (qs':List (Nat×Ob)) (s s1 s' s1':St):Feet->Prop
 |.m x=>∃ps,s1.hp=app_ ps s.hp/\s1'.hp=app_ ps s'.hp/\s1.nx=s.nx/\s1'.nx=s'.nx/\∀p ∈ ps,p.1 ∈ x.2
 |.c _ h1=>s1.nx=s1'.nx/\s1'.hp=app_ qs' h1
theorem Stp.like {slot:Nat} {o:IOper} {f:Feet} {s s' s1:St} (qs':List (Nat×Ob)) (h:Stp c1 cx slot o f s s1) (hf:∀n ∈ readsO o,get s.fr n=get s'.fr n)
  (hh:match f with | .m x=>∀n ∈ x.1,get s.hp n=get s'.hp n | .c h0 h1=>s.nx=s'.nx/\Off qs' h1/\s'.hp=app_ qs' h0) :
  ∃s1' v,Stp c1 cx slot o f s' s1'/\s1.fr=putD s.fr o.dst v/\s1'.fr=putD s'.fr o.dst v/\
   Alike qs' s s1 s' s1' f:=by
 cases f with
 |m x=>
  obtain⟨e,hx⟩:=h;obtain⟨s1',v,d,q1,q2,q3,q4,q5,q6⟩:=step_like e hf (by rw[hx];exact hh);rw[hx]at q5 q6 q2;cases d<;>simp only[Did.ok]at q5 q6;exact⟨s1',v,⟨q1,q2⟩,q3,q4,_,q5.1,q6.1,q5.2.1,q6.2.1,q5.2.2⟩
 |c h0 h1=>
  obtain⟨qs,t,a1,a2,a3,a4,a5,rfl⟩:=h;obtain⟨hn,b1,b2⟩:=hh;obtain⟨t',v,d,q1,q2,q3,q4,q5,q6⟩:=step_like (s':={ s' with hp:=h0 }) a4 hf (by rw[a2,a5];exact⟨rfl,hn⟩);rw[a2,a5]at q5 q6 q2;cases d<;>simp only[Did.ok]at q5 q6;have ht':t'.hp=h1:=q6.2.1.trans q6.2.2.2.2.2.symm;refine⟨t'.plus qs',v,⟨qs',t',b1,ht',b2,q1,by rw[<-ht']at q2 ⊢;exact q2,rfl⟩,q3,q4,?_,?_⟩
  ·show t.nx=t'.nx
   rw[q5.2.2.2.1,q6.2.2.2.1]
  ·show app_ qs' t'.hp=app_ qs' h1
   rw[ht']
theorem Stp.ext {slot:Nat} {o:IOper} {f:Feet} {s s' s1:St} (h:Stp c1 cx slot o f s s1) (e:SE s s'):∃s1',Stp c1 cx slot o f s' s1'/\SE s1 s1':=by
 obtain⟨h1,h2,h3⟩:=e;cases f with
 |m x=>
  obtain⟨s1',v,q1,q2,q3,ps,q4,q5,q6,q7, -⟩:=h.like [] (λn _=>h1 n) (λn _=>by rw[h2]);exact⟨s1',q1,by rw[q2,q3];exact h1.putD _ _,by rw[q4,q5,h2],by rw[q6,q7,h3]⟩
 |c h0 h1'=>
  have h':=h;obtain⟨qs,t,a1,a2,a3,a4,a5,a6⟩:=h';obtain⟨s1',v,q1,q2,q3,q4,q5⟩:=h.like qs (s':=s') (λn _=>h1 n) ⟨h3,a1,by rw[<-h2];exact a3⟩;refine⟨s1',q1,by rw[q2,q3];exact h1.putD _ _,?_,q4⟩;rw[q5,a6]
  show app_ qs t.hp=_
  rw[a2]
theorem swap (hm:MoreX cx) {sx sy:Nat} {x y:IOper} {fx fy:Feet} {s s1 s2:St} (e1:Stp c1 cx sx x fx s s1) (e2:Stp c1 cx sy y fy s1 s2) (hT:apartT x y=true) (hc:clash fx fy=false) :
  ∃t1 t2,Stp c1 cx sy y fy s t1/\Stp c1 cx sx x fx t1 t2/\SE s2 t2:=by
 obtain⟨a1,a2,a3⟩:=apartT_spec hT;have fin:∀{v u v':AV} {t1 t2:St},s1.fr=putD s.fr x.dst v->s2.fr=putD s1.fr y.dst u->t1.fr=putD s.fr y.dst u->t2.fr=putD t1.fr x.dst v'->s1.fr=putD s.fr x.dst v'->GE s2.fr t2.fr:=by
  intro v u v' t1 t2 p1 p2 p3 p4 p5;rw[p2,p5,p4,p3];exact putD_comm a2
 cases fx with
 |m x'=>
  cases fy with
  |m y'=>
   obtain⟨_,v,_,f1,_,ps,n1,_,n2,_,n3⟩:=e1.like (s':=s) [] (λn _=>rfl) (λn _=>rfl);simp only[clash,Bool.or_eq_false_iff]at hc;have c1':=meets_spec hc.1;have c2':=meets_spec hc.2;obtain⟨t1,u,q1,f2,f3,qs,m1,m2,m3,m4,m5⟩:=e2.like (s':=s) [] (λn hn=>by rw[f1];exact putD_ne λh=>a1 n h hn) (λn hn=>by
    rw[n1];exact app_get (λp hp h=>c1' _ (n3 p hp) (by rw[h];simp[hn])) _)
   obtain⟨t2,v',r1,f4,f5,ps',k1,k2,k3,k4,k5⟩:=e1.like (s':=t1) [] (λn hn=>by rw[f3];exact(putD_ne λh=>a3 n h hn).symm) (λn hn=>by
    rw[m2];exact(app_get (λp hp h=>c2' _ (m5 p hp) (by rw[h];simp[hn])) _).symm)
   refine⟨t1,t2,q1,r1,fin f1 f2 f3 f5 f4,?_,by rw[m3,n2,k4,m4]⟩;rw[k2,m2,m1,k1];exact app_comm (λp hp q hq h=>c1' _ (k5 p hp) (by rw[h];simp[m5 q hq])) _
  |c h0 h1=>
   obtain⟨_,v,_,f1,_,ps,n1,_,n2,_,n3⟩:=e1.like (s':=s) [] (λn _=>rfl) (λn _=>rfl);obtain⟨d1,d2⟩:=clash_mc hc;obtain rfl:=nil_of d1 n3;have n1':s1.hp=s.hp:=n1;have e2':=e2;obtain⟨qs,t,b1,b2,b3,b4,b5,rfl⟩:=e2';obtain⟨t1,u,q1,f2,f3,m1,m2⟩:=e2.like (s':=s) qs (λn hn=>by rw[f1];exact putD_ne λh=>a1 n h hn) ⟨n2,b1,by rw[<-n1'];exact b3⟩;obtain⟨t2,v',r1,f4,f5,ps',k1,k2,k3,k4,k5⟩:=e1.like (s':=t1) [] (λn hn=>by rw[f3];exact(putD_ne λh=>a3 n h hn).symm) (λn hn=>by
    rw[m2,<-n1',b3];exact app_same qs (d2 n hn))
   obtain rfl:=nil_of d1 k5;refine⟨t1,t2,q1,r1,fin f1 f2 f3 f5 f4,?_,by rw[k4,m1]⟩;have k2':t2.hp=t1.hp:=k2;rw[k2',m2]
   show app_ qs t.hp=_
   rw[b2]
 |c h0 h1=>
  cases fy with
  |c k0 k1=>cases hc
  |m y'=>
   have e1':=e1;obtain⟨qs,t,b1,b2,b3,b4,b5,b6⟩:=e1';have hs1:s1.hp=app_ qs h1:=by rw[b6];show app_ qs t.hp=_;rw[b2]
   have hstay:∀n,get h1 n=none->get h0 n=none:=by
    intro n hn;cases hg:get h0 n with
    |none=>rfl
    |some o=>
     have:=(step_more hm b4).1 n (by show On h0 n;unfold On;rw[hg];rfl);rw[b2]at this;unfold On at this;rw[hn]at this;cases this
   obtain⟨_,v,_,f1,_,n1,_⟩:=e1.like (s':=s) qs (λn _=>rfl) ⟨rfl,b1,b3⟩;have hreads:∀n ∈ y'.1,get s1.hp n=get s.hp n:=by
    intro n hn;rw[hs1,b3];refine app_same qs ?_;rcases clash_cm hc with⟨-,h⟩|h
    ·exact(h n hn).symm
    ·have:=h n (by simp[hn]);rw[this,hstay n this]
   obtain⟨t1,u,q1,f2,f3,ps,m1,m2,m3,m4,m5⟩:=e2.like (s':=s) [] (λn hn=>by rw[f1];exact putD_ne λh=>a1 n h hn) hreads;have hoff:Off ps h1:=by
    intro p hp;rcases clash_cm hc with⟨h, -⟩|h
    ·have:=m5 p hp;simp[h]at this
    ·exact h _ (by simp[m5 p hp])
   have hoff':Off (qs++ps) h1:=λp hp=>(List.mem_append.1 hp).elim (b1 p) (hoff p)
   obtain⟨t2,v',r1,f4,f5,k1,k2⟩:=e1.like (s':=t1) (qs++ps) (λn hn=>by rw[f3];exact(putD_ne λh=>a3 n h hn).symm) ⟨m4.symm,hoff',by rw[m2,b3,app_app]⟩;refine⟨t1,t2,q1,r1,fin f1 f2 f3 f5 f4,?_,by rw[m3,k1]⟩;rw[k2,m1,hs1,app_app]
inductive Run (c1:Call1) (cx:CallX) (s0:Nat):List (Nat×IOper×Feet)->St->St->Prop
 |nil {s s':St} (h:SE s s'):Run c1 cx s0 [] s s'
 |cons {i:Nat} {o:IOper} {f:Feet} {r:List (Nat×IOper×Feet)} {s s1 s':St} (e:Stp c1 cx (s0+i) o f s s1)
   (hr:Run c1 cx s0 r s1 s'):Run c1 cx s0 ((i,o,f)::r) s s'
theorem Run.ext {s0:Nat} {l:List (Nat×IOper×Feet)} {s t s':St} (h:Run c1 cx s0 l s s') (e:SE s t):Run c1 cx s0 l t s':=by
 induction h generalizing t with
 |nil h=>exact .nil (e.symm.trans h)
 |cons e1 _ ih=>
  obtain⟨t1,e2,e4⟩:=e1.ext e;exact .cons e2 (ih e4)
def Apart (x y:Nat×IOper×Feet):Prop:=apartT x.2.1 y.2.1=true/\clash x.2.2 y.2.2=false
theorem Run.front (hm:MoreX cx) {s0:Nat} {x:Nat×IOper×Feet} {l2:List (Nat×IOper×Feet)} {s':St}:∀(l1:List (Nat×IOper×Feet)) (s:St),Run c1 cx s0 (l1++x::l2) s s'->(∀y ∈ l1,Apart y x)->
  ∃s1,Stp c1 cx (s0+x.1) x.2.1 x.2.2 s s1/\Run c1 cx s0 (l1++l2) s1 s'
 |[],s,h,_=>by
  cases h with
  |cons e hr=>exact⟨_,e,hr⟩
 |y::l1,s,h,ha=>by
  cases h with
  |cons e hr=>
   obtain⟨t1,e2,r2⟩:=Run.front hm l1 _ hr λz hz=>ha z (by simp[hz])
   obtain⟨h1,h2⟩:=ha _ (List.mem_cons_self ..);obtain⟨u1,u2,e3,e5,e7⟩:=swap hm e e2 h1 h2;exact⟨u1,e3,.cons e5 (r2.ext e7)⟩
end
def Cle1 (c c':Call1):Prop:=∀f U hp p,c f U hp=some p->c' f U hp=some p
def CleX (c c':CallX):Prop:=∀f U hp nx p,c f U hp nx=some p->c' f U hp nx=some p
def Mle {α:Type} (m m':M α):Prop:=∀h p,m.run h=some p->m'.run h=some p/\m'.foot h=m.foot h
theorem Mle.refl {α:Type} (m:M α):Mle m m:=λ_ _ e=>⟨e,rfl⟩
theorem M.foot_bind2 {α β:Type} (m:M α) (f:α->M β) (h:Hp):(m.bind f).foot h=match m.run h with
  |some (a,h1)=>((m.foot h).1++((f a).foot h1).1,((f a).foot h1).2++(m.foot h).2)
  |none=>m.foot h:=by
 induction m generalizing h with
 |ret a=>simp[M.bind,M.run,M.foot]
 |fail=>simp[M.bind,M.run,M.foot]
 |get id k ih=>
  simp only[M.bind,M.run,M.foot,ih];cases(k (Arx.get h id)).run h<;>simp
 |put id o k ih=>
  simp only[M.bind,M.run,M.foot,ih];cases k.run (Arx.set h id o)<;>simp
theorem Mle.bind {α β:Type} {m m':M α} {f f':α->M β} (h:Mle m m') (hf:∀a,Mle (f a) (f' a)):Mle (m.bind f) (m'.bind f'):=by
 intro g p e;obtain⟨a,h1,e1,e2⟩:=Mbind_someZ e;obtain⟨q1,q2⟩:=h _ _ e1;obtain⟨q3,q4⟩:=hf a _ _ e2;refine⟨by rw[Mrun_bindZ,q1];exact q3,?_⟩;rw[M.foot_bind2,M.foot_bind2,q1,e1];simp only[q2,q4]
theorem Mle.lift {α:Type} {x y:Option α} (h:∀a,x=some a->y=some a):Mle (M.lift x) (M.lift y):=by
 cases x with
 |none=>intro g p e;exact(Mfail_someZ e).elim
 |some a=>rw[h a rfl];exact .refl _
theorem osem_le {c c':Call1} (h:Cle1 c c') {slot:Nat} {ρ:Opd->AV} (op:IOp):Mle (osem c slot ρ op) (osem c' slot ρ op):=by
 cases op<;>first | exact .refl _ | skip
 rename_i mode f args;simp only[osem]
 match mode with
 |0=>
  refine .bind (.refl _) λq=>.bind (.refl _) λU=>.bind (.lift λa ha=>?_) λr=>.refl _
  simp only[Option.bind_eq_some_iff]at ha ⊢;obtain⟨p,h1,h2⟩:=ha;exact⟨p,h _ _ _ _ h1,h2⟩
 |_+1=>
  refine .bind (.refl _) λq=>.bind (.refl _) λU=>.bind (.lift λa ha=>?_) λr=>.refl _
  simp only[Option.bind_eq_some_iff]at ha ⊢;obtain⟨p,h1,h2⟩:=ha;exact⟨p,h _ _ _ _ h1,h2⟩
section
variable {c c':Call1} {x x':CallX}
theorem step_le (h:Cle1 c c') (hx:CleX x x') {slot:Nat} {o:IOper} {s s1:St} (e:step c x slot o s=some s1):step c' x' slot o s=some s1/\footOf c' slot o s s1.hp=footOf c slot o s s1.hp:=by
 unfold step at e ⊢;unfold footOf;cases hw:wants s.fr o.gd with
 |none=>rw[hw]at e;cases e
 |some b=>
  rw[hw]at e;cases b with
  |false=>exact⟨e,rfl⟩
  |true=>
   simp only[]at e ⊢;cases hs:isS o.op with
   |some fa=>
    rw[hs]at e;simp only[]at e ⊢;cases hcl:callee (ev s.fr fa.1)with
    |none=>rw[hcl]at e;cases e
    |some q=>
     rw[hcl]at e;simp only[]at e ⊢;cases hr:x q.1 (q.2.1++(fa.2.map (ev s.fr)++q.2.2)) s.hp s.nx with
     |none=>rw[hr]at e;cases e
     |some p=>
      rw[hr]at e;rw[hx _ _ _ _ _ hr];exact⟨e,trivial⟩
   |none=>
    rw[hs]at e;simp only[]at e ⊢;cases hr:(osem c slot (ev s.fr) o.op).run s.hp with
    |none=>rw[hr]at e;cases e
    |some p=>
     obtain⟨q1,q2⟩:=osem_le h o.op _ _ hr;rw[hr]at e;rw[q1,q2];exact⟨e,rfl⟩
theorem ops_le (h:Cle1 c c') (hx:CleX x x'):∀(ops:List IOper) (slot:Nat) (s s1:St),evalOps c x ops slot s=some s1->evalOps c' x' ops slot s=some s1
 |[],slot,s,s1,e=>e
 |o::r,slot,s,s1,e=>by
  simp only[evalOps]at e ⊢;cases h1:step c x slot o s with
  |none=>rw[h1]at e;cases e
  |some s2=>
   rw[h1]at e;rw[(step_le h hx h1).1];exact ops_le h hx r _ _ _ e
theorem feet_le (h:Cle1 c c') (hx:CleX x x'):∀(ops:List IOper) (slot:Nat) (s:St) (p:St×List Feet),evalFeet c x ops slot s=some p->evalFeet c' x' ops slot s=some p
 |[],slot,s,p,e=>e
 |o::r,slot,s,p,e=>by
  simp only[evalFeet]at e ⊢;cases h1:step c x slot o s with
  |none=>rw[h1]at e;cases e
  |some s2=>
   obtain⟨q1,q2⟩:=step_le h hx h1;rw[h1]at e;rw[q1];simp only[]at e ⊢;cases h2:evalFeet c x r (slot+1) s2 with
   |none=>rw[h2]at e;cases e
   |some p2=>
    rw[h2]at e;rw[feet_le h hx r _ _ _ h2,q2];exact e
theorem rgn_le (h:Cle1 c c') (hx:CleX x x') {draw:Bool} {ops:List IOper} {keep:List Nat} {s s1:St} (e:evalRgn c x draw ops keep s=some s1):evalRgn c' x' draw ops keep s=some s1:=by
 unfold evalRgn at e ⊢;cases draw with
 |false=>
  simp only[Bool.false_eq_true,if_false]at e ⊢;cases h1:evalOps c x ops s.nx { s with nx:=s.nx+ops.length } with
  |none=>rw[h1]at e;cases e
  |some s2=>
   rw[h1]at e;rw[ops_le h hx ops _ _ _ h1];exact e
 |true=>
  simp only[if_true]at e ⊢;cases h1:evalFeet c x ops s.nx { s with nx:=s.nx+ops.length } with
  |none=>rw[h1]at e;cases e
  |some s2=>
   rw[h1]at e;rw[feet_le h hx ops _ _ _ h1];exact e
theorem iter_le {f f':St->Option (Ex×St)} (h:∀s r,f s=some r->f' s=some r) {keep:List Nat}:∀(m m':Nat) (s:St) (r:Ex×St),m<=m'->iter f keep m s=some r->iter f' keep m' s=some r
 |0,_,s,r,_,e=>by simp[iter]at e
 |m+1,m',s,r,hm,e=>by
  obtain⟨m',rfl⟩:∃k,m'=k+1:=⟨m' - 1,by omega⟩;simp only[iter]at e ⊢;cases h1:f s with
  |none=>rw[h1]at e;cases e
  |some p=>
   obtain⟨ex,s1⟩:=p;rw[h1]at e;rw[h _ _ h1];cases ex with
   |norm=>exact iter_le h m m' _ r (by omega) e
   |exit i=>exact e
   |ret=>exact e
theorem code_le (h:Cle1 c c') (hx:CleX x x') {n n':Nat} (hn:n<=n'):∀(ic:IC) (s:St) (r:Ex×St),evalC c x n ic s=some r->evalC c' x' n' ic s=some r:=by
 intro ic
 induction ic with
 |skip=>exact λs r e=>e
 |exit id=>exact λs r e=>e
 |ret=>exact λs r e=>e
 |stop=>exact λs r e=>e
 |scope b ih=>
  intro s r e;simp only[evalC]at e ⊢;exact ih s r e
 |rgn draw ops keep=>
  intro s r e;simp only[evalC,Option.map_eq_some_iff]at e ⊢;obtain⟨s1,h1,h2⟩:=e;exact⟨s1,rgn_le h hx h1,h2⟩
 |seq a b iha ihb=>
  intro s r e;simp only[evalC]at e ⊢;cases h1:evalC c x n a s with
  |none=>rw[h1]at e;cases e
  |some p=>
   obtain⟨ex,s1⟩:=p;rw[h1]at e;rw[iha _ _ h1];cases ex with
   |norm=>exact ihb _ _ e
   |exit i=>exact e
   |ret=>exact e
 |cond d a b iha ihb=>
  intro s r e;simp only[evalC]at e ⊢;generalize ev s.fr d=v at e;split at e
  ·rename_i t;cases t with
   |true=>exact iha _ _ e
   |false=>exact ihb _ _ e
  ·cases e
 |block id b ih=>
  intro s r e;simp only[evalC]at e ⊢;cases h1:evalC c x n b s with
  |none=>rw[h1]at e;cases e
  |some p=>
   rw[h1]at e;rw[ih _ _ h1];exact e
 |loop keep b ih=>
  intro s r e;simp only[evalC]at e ⊢;exact iter_le ih n n' _ r hn e
end
def PrimLe (p:Call1->CallX->List AV->Hp->Nat->Option (AV×Hp×Nat)):Prop:=∀c c' x x',Cle1 c c'->CleX x x'->∀args h nx r,p c x args h nx=some r->p c' x' args h nx=some r
def PrimsLe (prog:Nat->Option IFn):Prop:=∀f ir p,prog f=some ir->ir.prim=some p->PrimLe p
theorem evalF_le2 {prog:Nat->Option IFn} (hp:PrimsLe prog) {c c':Call1} (hc:Cle1 c c'):∀(n n':Nat),n<=n'->CleX (evalF c prog n) (evalF c' prog n')
 |0,_,_=>λf U hp nx p e=>by simp[evalF]at e
 |n+1,n',hn=>by
  obtain⟨n',rfl⟩:∃k,n'=k+1:=⟨n' - 1,by omega⟩;have ih:=evalF_le2 hp hc n n' (by omega);intro f U h nx p e;simp only[evalF]at e ⊢;cases hf:prog f with
  |none=>rw[hf]at e;cases e
  |some fn=>
   rw[hf]at e;simp only[]at e ⊢;cases hcl:fn.prim with
   |some q=>rw[hcl]at e;exact hp f fn q hf hcl _ _ _ _ hc ih _ _ _ _ e
   |none=>
    rw[hcl]at e;simp only[]at e ⊢;split at e
    ·rename_i hl;rw[if_pos hl];cases h1:evalC c (evalF c prog n) n fn.body ⟨params U 0,h,nx⟩with
     |none=>rw[h1]at e;cases e
     |some q=>
      rw[h1]at e;rw[code_le hc ih (by omega) _ _ _ h1];exact e
    ·cases e
theorem one_le {p1:Nat->Option Arb.IFn} {n n':Nat} (hn:n<=n'):Cle1 (Arb.evalF p1 n) (Arb.evalF p1 n'):=λ_ _ _ _ e=>Arb.evalF_le n n' hn _ _ _ _ e
section
variable {p1:Nat->Option Arb.IFn} {p2:Nat->Option IFn}
def one (p1:Nat->Option Arb.IFn) (n:Nat):Call1:=Arb.evalF p1 n
def run2 (p1:Nat->Option Arb.IFn) (p2:Nat->Option IFn) (n:Nat):CallX:=evalF (one p1 n) p2 n
def Ev (p1:Nat->Option Arb.IFn) (p2:Nat->Option IFn) (f:Nat) (args:List AV) (hp:Hp) (nx:Nat) (p:AV×Hp×Nat):Prop:=∃K,∀n,K<=n->run2 p1 p2 n f args hp nx=some p
def Wp (p1:Nat->Option Arb.IFn) (p2:Nat->Option IFn) (c:IC) (s:St) (Q:Ex->St->Prop):Prop:=∃K ex s',(∀n,K<=n->evalC (one p1 n) (run2 p1 p2 n) n c s=some (ex,s'))/\Q ex s'
def Ex.then (k:St->Prop) (Q:Ex->St->Prop):Ex->St->Prop
 |.norm,s=>k s
 |e,s=>Q e s
def Ex.inBlock (id:Nat) (Q:Ex->St->Prop):Ex->St->Prop
 |.exit i,s=>if i=id then Q .norm s else Q (.exit i) s
 |e,s=>Q e s
theorem Wp.mono {c:IC} {s:St} {Q Q':Ex->St->Prop} (h:Wp p1 p2 c s Q) (hq:∀e s,Q e s->Q' e s):Wp p1 p2 c s Q':=by
 obtain⟨K,ex,s',h,q⟩:=h;exact⟨K,ex,s',h,hq _ _ q⟩
theorem WpskipZ {s:St} {Q:Ex->St->Prop} (h:Q .norm s):Wp p1 p2 .skip s Q:=⟨0,_,_,λ_ _=>rfl,h⟩
theorem WpexitZ {id:Nat} {s:St} {Q:Ex->St->Prop} (h:Q (.exit id) s):Wp p1 p2 (.exit id) s Q:=⟨0,_,_,λ_ _=>rfl,h⟩
theorem WpretZ {s:St} {Q:Ex->St->Prop} (h:Q .ret s):Wp p1 p2 .ret s Q:=⟨0,_,_,λ_ _=>rfl,h⟩
theorem ab {a b:IC} {s:St} {Q:Ex->St->Prop} (h:Wp p1 p2 a s (Ex.then (λs'=>Wp p1 p2 b s' Q) Q)):Wp p1 p2 (.seq a b) s Q:=by
 obtain⟨K,ex,s',h,q⟩:=h;cases ex with
 |norm=>
  obtain⟨K2,ex2,s2,h2,q2⟩:=q;exact⟨max K K2,ex2,s2,λn hn=>by simp only[evalC,h n (by omega),h2 n (by omega)],q2⟩
 |exit i=>exact⟨K,_,_,λn hn=>by simp only[evalC,h n hn],q⟩
 |ret=>exact⟨K,_,_,λn hn=>by simp only[evalC,h n hn],q⟩
theorem WpcondZ {c:Opd} {a b:IC} {s:St} {Q:Ex->St->Prop} {t:Bool} (hc:ev s.fr c = .iv (.bool t)) (h:Wp p1 p2 (if t then a else b) s Q):Wp p1 p2 (.cond c a b) s Q:=by
 obtain⟨K,ex,s',h,q⟩:=h;refine⟨K,ex,s',λn hn=>?_,q⟩;have:=h n hn;cases t<;>simpa[evalC,hc]using this
theorem WpblockZ {id:Nat} {b:IC} {s:St} {Q:Ex->St->Prop} (h:Wp p1 p2 b s (Ex.inBlock id Q)):Wp p1 p2 (.block id b) s Q:=by
 obtain⟨K,ex,s',h,q⟩:=h;cases ex with
 |norm=>exact⟨K,_,_,λn hn=>by simp only[evalC,h n hn],q⟩
 |ret=>exact⟨K,_,_,λn hn=>by simp only[evalC,h n hn],q⟩
 |exit i=>
  simp only[Ex.inBlock]at q;by_cases hi:i=id
  ·rw[if_pos hi]at q;exact⟨K,.norm,s',λn hn=>by simp only[evalC,h n hn,if_pos hi],q⟩
  ·rw[if_neg hi]at q;exact⟨K,.exit i,s',λn hn=>by simp only[evalC,h n hn,if_neg hi],q⟩
theorem WprgnZ {draw:Bool} {ops:List IOper} {keep:List Nat} {s s':St} {Q:Ex->St->Prop} {K:Nat} (h:∀n,K<=n->evalRgn (one p1 n) (run2 p1 p2 n) draw ops keep s=some s') (q:Q .norm s'):Wp p1 p2 (.rgn draw ops keep) s Q:=
 ⟨K,_,_,λn hn=>by simp only[evalC,h n hn,Option.map_some],q⟩
theorem WprgZ {draw:Bool} {ops:List IOper} {keep:List Nat} {s s':St} {Q:Ex->St->Prop} (q:Q .norm s') (h:∀n,0<=n->evalRgn (one p1 n) (run2 p1 p2 n) draw ops keep s=some s':=by intro n hn;simp;rfl):Wp p1 p2 (.rgn draw ops keep) s Q:=WprgnZ (K:=0) h q
theorem Wpr0Z {draw:Bool} {ops:List IOper} {keep:List Nat} {s s':St} {Q:Ex->St->Prop} (h:∀{n:Nat},evalRgn (one p1 n) (run2 p1 p2 n) draw ops keep s=some s') (q:Q .norm s'):Wp p1 p2 (.rgn draw ops keep) s Q:=WprgnZ (K:=0) (λ_ _=>h) q
theorem Wps0Z {draw:Bool} {ops:List IOper} {keep:List Nat} {b:IC} {s s':St} {Q:Ex->St->Prop} (h:∀{n:Nat},evalRgn (one p1 n) (run2 p1 p2 n) draw ops keep s=some s') (q:Wp p1 p2 b s' Q):Wp p1 p2 (.seq (.rgn draw ops keep) b) s Q:=ab (WprgnZ (K:=0) (λ_ _=>h) q)
theorem WpsgZ {draw:Bool} {ops:List IOper} {keep:List Nat} {b:IC} {s s':St} {Q:Ex->St->Prop} (q:Wp p1 p2 b s' Q) (h:∀n,0<=n->evalRgn (one p1 n) (run2 p1 p2 n) draw ops keep s=some s':=by intro n hn;simp;rfl):Wp p1 p2 (.seq (.rgn draw ops keep) b) s Q:=ab (WprgnZ (K:=0) h q)
theorem WpskZ {draw:Bool} {ops:List IOper} {keep:List Nat} {b:IC} {s s':St} {Q:Ex->St->Prop} {K:Nat} (h:∀n,K<=n->evalRgn (one p1 n) (run2 p1 p2 n) draw ops keep s=some s') (q:Wp p1 p2 b s' Q):Wp p1 p2 (.seq (.rgn draw ops keep) b) s Q:=ab (WprgnZ h q)
theorem WploopZ {keep:List Nat} {b:IC} {s:St} {Q:Ex->St->Prop} (I:Nat->St->Prop) {m:Nat} (h0:I m { s with fr:=keepFr keep s.fr })
  (round:∀m s1,I m s1->Wp p1 p2 b s1 (Ex.then (λs2=>∃j,j<m/\I j ({ s2 with fr:=keepFr keep s2.fr })) Q)):Wp p1 p2 (.loop keep b) s Q:=by
 have key:∀m s1,I m s1->∃K ex s',(∀n,K<=n->∀j,K<=j->iter (evalC (one p1 n) (run2 p1 p2 n) n b) keep j s1=some (ex,s'))/\Q ex s':=by
  intro m
  induction m using Nat.strongRecOn with
  |_ m ih=>
   intro s1 hI;obtain⟨K,ex,s2,h,q⟩:=round m s1 hI;cases ex with
   |norm=>
    obtain⟨j,hj,hIj⟩:=q;obtain⟨K2,ex2,s3,h2,q2⟩:=ih j hj _ hIj;refine⟨max K K2+1,ex2,s3,λn hn i hi=>?_,q2⟩;obtain⟨i,rfl⟩:∃i',i=i'+1:=⟨i - 1,by omega⟩;simp only[iter,h n (by omega)];exact h2 n (by omega) i (by omega)
   |exit e=>
    refine⟨K+1,.exit e,s2,λn hn i hi=>?_,q⟩;obtain⟨i,rfl⟩:∃i',i=i'+1:=⟨i - 1,by omega⟩;simp only[iter,h n (by omega)]
   |ret=>
    refine⟨K+1,.ret,s2,λn hn i hi=>?_,q⟩;obtain⟨i,rfl⟩:∃i',i=i'+1:=⟨i - 1,by omega⟩;simp only[iter,h n (by omega)]
 obtain⟨K,ex,s',h,q⟩:=key m _ h0;exact⟨K,ex,s',λn hn=>by simp only[evalC];exact h n hn n hn,q⟩
def Fin (res:List IRes) (p:AV×Hp×Nat):Ex->St->Prop
 |.norm,s | .ret,s=>(resAll s.fr res).run s.hp=some (p.1,p.2.1)/\s.nx=p.2.2
 |_,_=>False
theorem Ev.at (hp2:PrimsLe p2) {n f:Nat} {args:List AV} {hp:Hp} {nx:Nat} {p:AV×Hp×Nat} (e:run2 p1 p2 n f args hp nx=some p):Ev p1 p2 f args hp nx p:=
 ⟨n,λm hm=>evalF_le2 hp2 (one_le hm) n m hm _ _ _ _ _ e⟩
theorem Ev.of (hp2:PrimsLe p2) {f:Nat} {fn:IFn} (hf:p2 f=some fn) (hcl:fn.prim=none) {args:List AV} (hn:args.length=fn.np) {hp:Hp} {nx:Nat} {p:AV×Hp×Nat} (h:Wp p1 p2 fn.body ⟨params args 0,hp,nx⟩ (Fin fn.res p)):Ev p1 p2 f args hp nx p:=by
 obtain⟨K,ex,s',h,q⟩:=h;refine Ev.at hp2 (n:=K+1) ?_;have h0:=code_le (one_le (p1:=p1) (Nat.le_succ K)) (evalF_le2 hp2 (one_le (p1:=p1) (Nat.le_succ K)) K K (Nat.le_refl K)) (Nat.le_refl K) _ _ _ (h K (Nat.le_refl K));unfold run2;simp only[evalF,hf,hcl,if_pos hn];have h1:evalC (one p1 (K+1)) (evalF (one p1 (K+1)) p2 K) K fn.body ⟨params args 0,hp,nx⟩=some (ex,s'):=h0;rw[h1];cases ex with
 |norm=>simp only[q.1,q.2]
 |ret=>simp only[q.1,q.2]
 |exit i=>exact q.elim
end
end Arx
namespace Arx
open Go Arb
namespace Prim
abbrev PrimF:=Call1->CallX->List AV->Hp->Nat->Option (AV×Hp×Nat)
def clone (e:Nat):PrimF:=λ_ _ args hp nx=>
 match args with
 |[x]=>match(elems e x).run hp with
  |some (ys,_)=>match ys with
   |[]=>some (.iv (.nsl e),hp,nx)
   |ys=>if roomy ys.length&&(get hp (4*(nx+2))).isNone then some (.own (4*(nx+2)) 0 ys.length 0,set hp (4*(nx+2)) (.buf 0 e ys),nx+4) else none
  |none=>none
 |_=>none
end Prim
end Arx
namespace Arx
open Go Arb
def F156:IFn:=nfRZq "AR]EpxDvF=UqjaBcQXe>NKC=F?H>dm]BT_^g@nfPOi>qsRys`rYpN_ZtG<LIO^dWhzXjlJJnUzM^FksXVjzMUAy>ygqjNxXjRmr@aZwywJwjdy^i;ttijZgZlJSKtfbj]dKbL=>>zwzkOB>u^y?w_MnZJhc^uxvT>LWyrqLL^Pgsnm]jhqbwaMbbJi]nRn<XwV_SdkWo^tClQopWpgKEzKeBXLFSZjh^oOxeeepsGbuHr>jSF<GuBtBDvxVgYb::[VqVawNE_]mxyGq;SHq"
def F161:IFn:=nfRZq "CPi<>HQC=HfWoz=iLkHVPbf?rhwcYeMrloz<aLFy>:VBkWAdEZFye;jnVz@U_`ih=_:APT=SaVIriEKjSGB>tu`oEUUUeu[WiwRxygqKbule`KX;pcZaJ_iWHy>:^qJIH;srk?hT>umpgY>R?ygCoxwYrfCbO<aTVhtYcQn@SFFqT=:=Ee`]w<SOcDnujMIVhx`vpSnRWupk;S^TCpJAVd^aPVjJa<aAwULIRT;jhvYCwa@b]uGXYYeLeBpHtlaChFVl[KMrGV:JsWZ;Pm?_RoMf]Tyl<b;`VVV>nhSYBY]Siwj_OGsBUqi;lEHoaqLLQe`J>M=m>?KQL:hE^k<Zknz`qVhx:sytNpuGEDh@mExZjPYlOM`Aj<n_^[rq]MQUbfAZx>ETTVeSnQtwfldLicSfg]t?HAOVRxKETRB=JPGKjw]x=:FkNbnY;rEoazBYF_mJPKh]]uCxVbysvCifyGyhGILdxDZyWIk"
def F163:IFn:=nfRZq ";Q>niK`M[OQYm<QqSHvTvYH=DloCubcmPnmezN?ohgQU^Rk`>iRF<DcMBZxb;KMojFtaALtd"
def F162:IFn:=nfRZq "=apijmFvvjQQP;qJ]?XwYnl>GetsiXuCsY^_t?u:K`RclRm<mfDXmq;"
def F174:IFn:=nfRZq "H;:uELlMK;Gksd`VjD_TdOakXbl]FzUtT<:maDb"
def F181:IFn:=nfRZq "BhGZH_lAVr;jCX>KbVGuCDNYzW^LnVKK[Qzgzjd"
def F182:IFn:=nfRZq "D;_`FtY`XD`HPRCGH<D@Gn"
def F198:IFn:=nfRZq "fpRBh:XuBtqXlx`B<`ihdoH_DLIQJoZcIDfXuvRC?pKWrQgJWh=zwgRZQxa;:EP;v>SjbkJpY`rKHL`^jqYClri=GTCqWP``R`mwSs@H@Yk:FgY?FYeiOiAPwyLV?TPunszmvGUVdsjgahmcE:OlTnXm=J@@WSdqUVuzdkWoHsXpE`OP=_yLOzIJKBut^]jZKrO:u>iG"
def F200:IFn:=nfRZq "JtkvS:roqZPYLatda"
def F199:IFn:=nfRZq "<Lf[:BmP@;vUOCtVl"
def F176:IFn:=nfRZq "kZaa^E`AGBFAuEovF>uWwwgd@<`doSu<U^Mc@wd=jhwEu"
def F183:IFn:=nfRZq "?nZYG@=rKv>xUuyazqRPc>TKr<JK>c;caPL_Qt<_JAz=F<tGAYItlO<NDB^bQHidjqY=OZrdK;eC_lluCXQ=hXm=]eISDnoAnpKqEseUed:fFGxWGVnrNk_iVOp`Sv]dD`r;ebuDQYRtHwOg;wlZ`UzGIkItj?^Gv"
def F195:IFn:=nfRZq "C`^^W`vw?<PBi[Ro];rObXGtSIUkxcjlTzb"
def F196:IFn:=nfRZq "BzvmnfhcwMUs:bLggARIZNJJ=UELcswMgibYULoSedIc"
def F277:IFn:=nfRZq "autlbdjPcSB?dLuNepfYTEhgOAQLVyshyyUDnnk`tiZ@t?SoWpoagZvDgpvxDf;P]@fCGf:CiiQ^]FAM`LIKY^TiKKnnD;Gx=j:AxnctdA^x@oxe<JDvSY@f_<Gj[IdcEJZNi`EX]]niQx[dDd^gFMVIGswM:[N]>wt:KwbMxbl`^e^qsw?PDx[?qIyz]FMxh^`@e:>aguJ<AOZ[AMNUkA=fnlLBne===Iwnliux<WfsRw;@bLeXmSXifiVcqMx`jyM_Wrb;Bd]z[[sM:][bN"
def F158:IFn:=nfRZq "SBUXvD=o:jcHO^I?P>V_>uma@=h>WnVn^SzvvG:Xncc=L:ZZPsGvcYVgMz^:EXbFdm@?Q<yS?_dPttEhvB;m_]ewYpXXYqr_cR[>TROIVNe?cxUe=[tB<insMgSOy=D^B[I@UMMOslAC>eV]CfyuwvoDlTdWyuJ<TjpYVzcGE[ubf;ssO=Qy@]NaK?LIVbPNLHeVwschF:gTj`_y>PD`O=:=wLAeL[NDDndRj=GyFEAZgfjYx?eeacSkqhy]BDuwkJXEtV^DJD"
def F159:IFn:=nfRZq "GUTszuPDH`vfxqJt?N:K>]YWwIXgcOovgyTJ?MkNpYE"
def F173:IFn:=nfRZq "^UbwrddYE[Roih]A<B_eioiHOnd@>uD`t?GS=hY[pOCbOuTL;qluUeVXhZpjfaueZE"
def F157:IFn:=nfRZq "F@NzKp>qF`NFErGXsM[jQPBcsjmJztMhS[bJtW<cKt^kTlLDslLFhLL=nU]XEMf_LoY^ZfBFAw?XH:pSymblcFUtyGHhKy;yBQDVopIp:S<wTduQUHTYh>"
def F184:IFn:=nfRZq ">FniQ?ZVRhqVWmHl;?Qgq[C:dV;hB]qDflBHxttJnKMzIysnbghJpqd;f=HYqrnzFp]g`F:<OF]nm?u^]m"
def F185:IFn:=nfRZq "=ufTRK_MMSHSsv=FKnZ:ZJFor=b=VLS?Ke`ebx;t_xU;TTvImIptt_[uF@gGapQs=o@vouA@<d^a:BtMG>u^jQjy:XFD?:DY;eH:o=x;voVs?>L<adgltBwYcF^Bc>pl:NnSeS^P;ro^RhIsvKjEYdNOVW=lMEsIOBCjtWmbT>nrEeuwMS;aQHt^_lgpDTBUOBzV<rHdjW`=Dgee@T_LhzCN:XYCdAEAl?K[QHzylcGv`MMmMNve=[SSOC>GOlX`G<]hUJ`TAaFnuY;eb@<oGiIkRVwtZwUce<viuErES"
def F193:IFn:=nfRZq ";Blg^Umx=mo[_]CUDY:YHooS"
def F186:IFn:=nfRZq "Fw[i<_xLYUlA_^FFRzoIjeAsejXPpMeDF<v?b:]"
def F190:IFn:=nfRZq "AXBG_qfo?QmGmAIdeR;tW?`:aV`oWdUBrsye_chs[HvtrBDfnxzeWlX"
def F189:IFn:=nfRZq "<Y`HjLcR>B=?_FwZb;zESDd^>FSe@lhk<^OUpPEgVw;tQch_OAciiBEfv<V"
def F191:IFn:=nfRZq ">yUIa;npz@^fGMtijjncBi`MeieFDnnHvRs>oBJuGQQFlQA:aCFofgVElB?s<@QZHnRWXrzDldaOC]Ch_kB`qccm@jkciBaMpa?sWNJHeQMyYV@OftWEUUioyqZD<=bAtGRk^usRk_HC"
def F192:IFn:=nfRZq "?wABbc@a?sougor=Rp>TH=LojVOx^hQ<i;wur]Thl>mr[XK>ZzeaPrfWtWQ_[n]XgcpHl@x?UPHPDSNnP::O>>u;Exc?rAXBb<@_lp=?crcdUoxnlix[kz[v@dtcpUW^ZiSFkNITG[ntFbYqPSmr=ZROLU:vNaZj>e"
def F153:IFn:=nfRZq "@PgJGyYkLKrqxam_sOubDTKVOuyAir]MQrBnAllvKF>Z`uDPCiHsW?_]H]<BVSzPj:N<@vUxnIjwY[;AIUPxt`]^Pd?W;CP:=IiHg_PudPAW=OflwIMyTk?Jpao_JdET_YCos?iFkZQmTi>vhpqPJ`CBX_pZP[uiSrlWeNtAni;ZGQ"
def F197:IFn:=nfRZq ";UN>xRserXaZYpdJ^mXMlufDx^v=:_euNLUUT>FG?rhYB"
def F155:IFn:=nfRZq "=Dm@WjtNTC:nYQTUaVAUFx_iWRbxh[h@RHd]K^EK@h[ysyWhr;YBzO;locCf^NiWqUUDQW^OeJjV]THGK]Gk_TrgkwDlS_Gn@UybY_@WEVyiyjWMme<RtLo_og]u=B>M>]wbyD_aiuGcl_l@umwd_BqTj`B[rE?rmiXRZXBF?[WwxRLEaGCRX>]b@RrLOclyZ`t;Lt]aw[O]gqVR;kSsOj;;Ry`yFfN>^aGjTI[YqJSxiLiBNkvIFYDp@?SSGWyre>uz:woJGvqUJTls;Sc:?iE"
def F154:IFn:=nfRZq "oU@d@RcMpqKGjPplIckpowBC>CXtcF>uf<yz]jhXp`CQ:Qajh<UWpcabyqSk@IlMPM>UFGq_tH@clAmUBqoWOHEoyH<aS@UuhE@z`YXbaILx]NhuxK;_Pig[HbjTa[^gv;jlk[<uuTJdpdinEWDXVDKTYBoinuVZYp^C^bxPylwmT;oZ>tTjqNKGHteJUdd>BJn]gyt>vkATpY>urhG^GDMDJ=?U:qxiN?>hmESRiXK"
def F172:IFn:=nfRZq ";^y`CUrrt`brj>LDDjULF<L_xlVqEPEdjOtQoiaaqZlFrvH:`epNB;LQ?ace^>Nv=J:dUCWL<[_CNJh>pzqMdUMqQnk`bChX[A]oVZyNWUf:^TtnmIPsMhX<R;FsA_DvkWKWCsKXVoOX>^d`>pyfN>R@XaUQ>@N=lV[wbJEspOog=fxVRsb`QBmKtlTot<Rp=l]fqEOwBK:dZDN>:N=OWKaqGDHIdHDj<DyIuZAiK"
def F177:IFn:=nfRZq ";ECgfM_OQiXdmJuY^tzAN<u=XNkEN@oxJwi]FkaWzMQBCcuebFKLsaqLHn?lObCjo`qG>>?hi_li^ksMZHwoVaH`jt^Ys;Tp`Ajf]WwTWqNohvR^a;hpop;DW[N=GXKmm;kRuRBJmf=ELuaFSzLyim=:CD?NOJOPj?:he<T^QeW_]cR`UPBm@AjYZR<hIgfjBi`WbiWNZL?YHKNpY_McDUhe[fNpXFFaiMoBuzrdybHBjSawI=ZxOAcLLCyxmfnfFfQCIGL[>xuO]On`Q[f=XnfQ`BAJX;W<pZyXtEMKzKrTIacCiSycSrNzFFQyFCz;U<oRU?pnzFedjThEuJKI>hgKcRU<"
def F175:IFn:=nfRZq "]gfw`azpj@:@t<pwQmPcjHqf^<dVKgTD^_v:d@@GG`<AjwIPMqU^rK]DHSKYpuRKumL;g<AO]XDndude]sAqAENbhW"
def F178:IFn:=nfRZq "POV:QHlUl?yg^ZIezWG^pnAQP@JfnN=xbPmZhqliA"
def F179:IFn:=nfRZq "L;fPxpfNM;kiup>F^waJZSLALF:ELFeqd?SxwI``<SppxjHckjAhf=<zL_lkKFPMrr^dX^dgNK_k]mDD:jwaaVKGL>;GRVfg`zBkIfneNlU:X;sD>k>uM@tgt:sacHYGA`FMarfIbYm?ZoMNeBlR?pyRFTgWAgnRXA[y>=v<RPbLnZPH;"
def F136:IFn:=nfRZq "AIf]w]nwGjIVTXub[GuKMJVsOU<[W@=fQooaewe?VzqZ@[fGvPcY"
def F194:IFn:=⟨1,[],.skip,some (Prim.clone 7)⟩
def F187:IFn:=nfRZq "uryx?eEfZT@NEX_VxeYGGmR]g[G_w:KIl<?H?Ogng[bsXHtYhKACYxvoDYXo@kN>>[Cns_xIDjj<reUXQqTO_d:Mef]tgBGDmy_R@T<C"
def F139:IFn:=nfRZq "IvzQWZ?FEEhXLLte"
def F142:IFn:=nfRZq "IvzQWZ?FEEhYrCsP"
def F143:IFn:=nfRZq "IvzQWZ?FEEhYrCsQ"
def F188:IFn:=nfRZq "<GYwIgNYN]uA>O:XXCT_tLk=oVr_Wjf]eLPdVTQ;OegVGlB_MuFCXP;uXvudv"
def F146:IFn:=nfRZq "BN>`lqAUvPG<X?:?`jIqpNZX^^fqnFywU>jOUmKZecw;S<FozdYGG"
def F149:IFn:=nfRZq "=oxAIywlxhkZE=wZLTGpYbbdbqrGAo>P@HgeJLy_WI_ZTTls`FJHq`"
def F150:IFn:=nfRZq "=EtI;?Ts_ZzmS;<IbOzojhPPeR??OZkJ]L;uT;BsS_IdPrNVHMsz"
def F180:IFn:=nfRZq "<XcYz`RhhTRbdaSdKhkKi?@Yrn>SvniYgHyUoBs;;aoEXe?oBt?UyUCADdzMT?]`yKfnhZpmX"
end Arx
namespace Arx
open Go Go.RowKit Arb
section
variable {ν:Nat->Nat} {P:Program} {k:Cx}
structure Sim (ν:Nat->Nat) (k:Cx) (nt:Nat) (g:Gh) (a:Act) (s:St):Prop where
 h:g.h=s.hp
 r:Rel ν k g
 f:FrR ν g a.tmps s.fr
 n:nt<=a.tmps.size
 d:a.defers=[]
theorem Sim.like {nt:Nat} {g:Gh} {a:Act} {s s':St} (m:Sim ν k nt g a s) (e:SE s s'):Sim ν k nt g a s':=
 ⟨m.h.trans e.2.1,m.r,λt x ht=>m.f t x ((e.1 t).trans ht),m.n,m.d⟩
theorem Sim.put {nt:Nat} {g g':Gh} {a:Act} {s:St} (m:Sim ν k nt g a s) {h':Hp} {nx':Nat} {v:Value} {y:AV} {d:Option Nat} (hd:∀t,d=some t->t<nt) (hh:g'.h=h') (r':Rel ν k g') (hm:Mono ν g g')
  (hv:RA ν g' v y):Sim ν k nt g' (a.put d v) { fr:=putD s.fr d y,hp:=h',nx:=nx' }:=by
 refine⟨hh,r',?_,?_,?_⟩
 ·cases d with
  |none=>exact m.f.mono hm
  |some d=>
   intro t x ht;simp only[putD,get_set]at ht;have hlt:d<a.tmps.size:=Nat.lt_of_lt_of_le (hd d rfl) m.n;by_cases hdt:d=t
   ·subst hdt;simp only[if_true,Option.some.injEq]at ht;subst ht;exact⟨v,by simp[Act.put,hlt],hv⟩
   ·rw[if_neg hdt]at ht;obtain⟨u,h1,h2⟩:=m.f t x ht;exact⟨u,by simp[Act.put,Array.getElem?_setIfInBounds_ne hdt,h1],hm _ _ h2⟩
 ·cases d with
  |none=>exact m.n
  |some d=>simpa[Act.put]using m.n
 ·cases d with
  |none=>exact m.d
  |some d=>exact m.d
def cOper (P:Program) (ν:Nat->Nat) (nt:Nat) (ops:Array Oper) (o:Oper) (io:IOper):Bool:=
 o.dst==io.dst&&(match io.dst with | some d=>Nat.blt d nt | none=>true) &&
 (match o.guard,io.gd with | none,none=>true | some (j,b),some (t,c)=>b==c&&(ops[j]?).bind (·.dst)==some t | _,_=>false)&&cOp P ν o.op io.op
theorem wanted_spec {g:Gh} {a:Act} {s:St} {nt:Nat} (m:Sim ν k nt g a s) {ops:Array Oper} {o:Oper} {io:IOper} (hc:cOper P ν nt ops o io=true) {b:Bool} (h:wants s.fr io.gd=some b) :
  Region.wanted o (yielded ops a.tmps)=b:=by
 simp only[cOper,Bool.and_eq_true]at hc;obtain⟨⟨_,hg⟩,_⟩:=hc;unfold Region.wanted;split at hg
 ·rename_i h1 h2;rw[h2]at h;simp only[wants,Option.some.injEq]at h;rw[h1];exact h
 ·rename_i j want t c h1 h2;simp only[Bool.and_eq_true,beq_iff_eq]at hg;obtain⟨rfl,hj⟩:=hg;rw[h2]at h;simp only[h1,yielded,hj,Option.bind_some];simp only[wants]at h;split at h
  ·rename_i c' hget;obtain⟨v,hv,hR⟩:=m.f _ _ hget;cases hR with
   |iv hI=>cases hI with
    |bool=>simp only[Option.some.injEq]at h;subst h;rw[hv];cases c'<;>cases want<;>rfl
  ·rename_i hget;obtain⟨v,hv,hR⟩:=m.f _ _ hget;cases hR with
   |tup hn _=>simp only[Option.some.injEq]at h;subst h;rw[hv];rfl
  ·cases h
 ·cases hg
theorem step_wp {c1:Call1} {cx:CallX} (hs:Arb.CallSound ν P c1) (hx:CallSound ν P cx) {nt:Nat} {ops:Array Oper} {o:Oper} {io:IOper} (hc:cOper P ν nt ops o io=true) {g:Gh} {a:Act} {s s1:St} (m:Sim ν k nt g a s)
  {slot:Nat} (e:step c1 cx slot io s=some s1) {next:Act->World->Prop} {Q:Exit->Act->World->Prop} (hn:∀g' a',Sim ν k nt g' a' s1->Mono ν g g'->next a' g'.w) :
  if Region.wanted o (yielded ops a.tmps) then o.wp P a g.w next Q else next (a.put o.dst undef) g.w:=by
 have hc':=hc;simp only[cOper,Bool.and_eq_true,beq_iff_eq]at hc';obtain⟨⟨⟨hd,hlt⟩, -⟩,hop⟩:=hc';have hdn:∀t,io.dst=some t->t<nt:=by
  intro t ht;rw[ht]at hlt;simpa[Nat.blt_eq]using hlt
 unfold step at e;split at e
 ·rename_i hw;rw[wanted_spec m hc hw,if_pos rfl];cases hsc:isS io.op with
  |some fa=>
   rw[hsc]at e;simp only[]at e;obtain⟨f',args'⟩:=fa;have hio:io.op = .scall f' args':=by
    generalize io.op=op at hsc;cases op<;>simp[isS]at hsc;obtain⟨rfl,rfl⟩:=hsc;rfl
   rw[hio]at hop;unfold cOp at hop;simp only[]at hop;split at hop
   case h_2=>cases hop
   rename_i fo cargs tys ho;simp only[Bool.and_eq_true]at hop;have hfv:=eval_ok m.f hop.1;have hR:=args_ok m.f hop.2;cases hcl:callee (ev s.fr f')with
   |none=>rw[hcl]at e;cases e
   |some q=>
    rw[hcl]at e;simp only[]at e;cases hr:cx q.1 (q.2.1++(args'.map (ev s.fr)++q.2.2)) s.hp s.nx with
    |none=>rw[hr]at e;cases e
    |some p=>
     obtain⟨y,h1,n1⟩:=p;rw[hr]at e;simp only[Option.some.injEq]at e;subst e;obtain⟨first,caps,hfe,hfirst,hcaps⟩:=callee_ok hcl hfv;obtain⟨⟨fn,hfn,hb,hnm⟩,hok⟩:=hx _ _ _ _ _ _ _ hr;refine wp_call ho (h':=h1) (y:=y) ⟨q.1,first,caps,fn,hfe,hfn,hb,hnm,hok k g _ m.h m.r (args_all hfirst hcaps hR)⟩ λg' v hh r' hm hR'=>?_
     rw[hd];exact hn g' _ (m.put hdn hh r' hm hR') hm
  |none=>
   rw[hsc]at e;simp only[]at e;cases hr:(osem c1 slot (ev s.fr) io.op).run s.hp with
   |none=>rw[hr]at e;cases e
   |some p=>
    obtain⟨y,h1⟩:=p;rw[hr]at e;simp only[Option.some.injEq]at e;subst e;refine op_wp hs hop m.r m.f (slot:=slot) (y:=y) (h':=h1) (by rw[m.h];exact hr) λg' v hh r' hm hR=>?_
    rw[hd];exact hn g' _ (m.put hdn hh r' hm hR) hm
 ·rename_i hw;rw[wanted_spec m hc hw,if_neg (by simp)];simp only[Option.some.injEq]at e;subst e;rw[hd];exact hn g _ (m.put hdn m.h m.r (.refl ν g) (.tup rfl λj v c h=>by simp at h)) (.refl ν g)
 ·cases e
def cOpers (P:Program) (ν:Nat->Nat) (nt:Nat) (ops:Array Oper):List Oper->List IOper->Bool
 |[],[]=>true
 |o::r,io::ir=>cOper P ν nt ops o io&&cOpers P ν nt ops r ir
 |_,_=>false
theorem cOpers_get {nt:Nat} {ops:Array Oper}:∀{l:List Oper} {il:List IOper},cOpers P ν nt ops l il=true->l.length=il.length/\∀(i:Nat) (o:Oper) (io:IOper),l[i]?=some o->il[i]?=some io->cOper P ν nt ops o io=true
 |[],[],_=>⟨rfl,λi o io h=>by simp at h⟩
 |o::r,io::ir,h=>by
  simp only[cOpers,Bool.and_eq_true]at h;obtain⟨h1,h2⟩:=cOpers_get h.2;refine⟨by simp[h1],λi o' io' e1 e2=>?_⟩;cases i with
  |zero=>simp at e1 e2;subst e1 e2;exact h.1
  |succ i=>exact h2 i o' io' (by simpa using e1) (by simpa using e2)
 |[],_::_,h=>by simp[cOpers]at h
 |_::_,[],h=>by simp[cOpers]at h
theorem ops_text {c1:Call1} {cx:CallX} (hs:Arb.CallSound ν P c1) (hx:CallSound ν P cx) {nt:Nat} {ops:Array Oper} {Q:Exit->Act->World->Prop}:∀(l:List Oper) (il:List IOper) (slot:Nat) (g:Gh) (a:Act) (s s':St),
  cOpers P ν nt ops l il=true->evalOps c1 cx il slot s=some s'->Sim ν k nt g a s->(∀g' a',Sim ν k nt g' a' s'->Mono ν g g'->Q .normal a' g'.w)->wpList P ops Q l a g.w
 |[],[],slot,g,a,s,s',_,e,m,hQ=>by
  simp only[evalOps,Option.some.injEq]at e;subst e;exact wpList_nil (hQ g a m (.refl ν g))
 |o::r,io::ir,slot,g,a,s,s',hc,e,m,hQ=>by
  simp only[cOpers,Bool.and_eq_true]at hc;simp only[evalOps]at e;cases h1:step c1 cx slot io s with
  |none=>rw[h1]at e;cases e
  |some s1=>
   rw[h1]at e;exact wpList_step λK hK=>step_wp hs hx hc.1 m h1 λg' a' m' hm=>hK _ _ (ops_text hs hx r ir _ g' a' s1 s' hc.2 e m' λg'' a'' m'' hm'=>hQ g'' a'' m'' (hm.trans hm'))
 |[],_::_,_,_,_,_,_,hc,_,_,_=>by simp[cOpers]at hc
 |_::_,[],_,_,_,_,_,hc,_,_,_=>by simp[cOpers]at hc
def tag:Nat->List IOper->List Feet->List (Nat×IOper×Feet)
 |i,o::r,f::fs=>(i,o,f)::tag (i+1) r fs
 |_,_,_=>[]
theorem Run.of_eval {c1:Call1} {cx:CallX} {s0:Nat}:∀(il:List IOper) (i:Nat) (s s':St) (fs:List Feet),evalFeet c1 cx il (s0+i) s=some (s',fs)->
  Run c1 cx s0 (tag i il fs) s s'/\fs.length=il.length
 |[],i,s,s',fs,e=>by
  simp only[evalFeet,Option.some.injEq,Prod.mk.injEq]at e;obtain⟨rfl,rfl⟩:=e;exact⟨.nil (.refl _),rfl⟩
 |o::r,i,s,s',fs,e=>by
  simp only[evalFeet]at e;cases h1:step c1 cx (s0+i) o s with
  |none=>rw[h1]at e;cases e
  |some s1=>
   rw[h1]at e;simp only[]at e;cases h2:evalFeet c1 cx r (s0+i+1) s1 with
   |none=>rw[h2]at e;cases e
   |some p=>
    rw[h2]at e;simp only[Option.some.injEq,Prod.mk.injEq]at e;obtain⟨rfl,rfl⟩:=e;obtain⟨q1,q2⟩:=Run.of_eval (s0:=s0) r (i+1) s1 p.1 p.2 h2;exact⟨.cons (Stp.of h1) q1,by simp only[List.length_cons];exact congrArg (·+ 1) q2⟩
theorem tag_mem:∀{il:List IOper} {fs:List Feet} {i:Nat} {x:Nat×IOper×Feet},x ∈ tag i il fs->i<=x.1/\il[x.1 - i]?=some x.2.1/\fs[x.1 - i]?=some x.2.2
 |[],fs,i,x,h=>by simp[tag]at h
 |_::_,[],i,x,h=>by simp[tag]at h
 |o::r,f::fs,i,x,h=>by
  simp only[tag,List.mem_cons]at h;rcases h with rfl | h
  ·simp
  ·obtain⟨h1,h2,h3⟩:=tag_mem h;have:x.1 - i=(x.1 - (i+1))+1:=by omega
   exact⟨by omega,by rw[this];simpa using h2,by rw[this];simpa using h3⟩
theorem mem_tag:∀{il:List IOper} {fs:List Feet} {i j:Nat} {o:IOper},fs.length=il.length->il[j]?=some o->∃x ∈ tag i il fs,x.1=i+j
 |[],fs,i,j,o,_,h=>by simp at h
 |_::_,[],i,j,o,hl,_=>by simp at hl
 |o'::r,f::fs,i,j,o,hl,h=>by
  cases j with
  |zero=>exact⟨_,List.mem_cons_self ..,rfl⟩
  |succ j=>
   obtain⟨x,h1,h2⟩:=mem_tag (i:=i+1) (fs:=fs) (by simpa using hl) (by simpa using h);exact⟨x,List.mem_cons_of_mem _ h1,by omega⟩
def apartT1 (x:IOper) (i:Nat):List IOper->Bool
 |[]=>true
 |y::r=>(y.aft.contains i||apartT x y)&&apartT1 x i r
def apartTAll:Nat->List IOper->Bool
 |_,[]=>true
 |i,x::r=>apartT1 x i r&&apartTAll (i+1) r
theorem apartT1_spec {x:IOper} {i:Nat}:∀{r:List IOper},apartT1 x i r=true->∀y ∈ r,i ∉ y.aft->apartT x y=true
 |[],_,y,hy,_=>by simp at hy
 |z::r,h,y,hy,hi=>by
  simp only[apartT1,Bool.and_eq_true,Bool.or_eq_true,List.contains_iff_mem]at h;rcases List.mem_cons.1 hy with rfl | hy
  ·exact h.1.resolve_left hi
  ·exact apartT1_spec h.2 y hy hi
theorem apart1_spec {x:Feet} {i:Nat}:∀{fs:List Feet} {cs:List (List Nat)},apart1 x i fs cs=true->∀(j:Nat) (f:Feet) (c:List Nat),fs[j]?=some f->cs[j]?=some c->i ∉ c->clash x f=false
 |[],cs,_,j,f,c,h,_,_=>by simp at h
 |_::_,[],_,j,f,c,_,h,_=>by simp at h
 |f'::fs,c'::cs,h,j,f,c,h1,h2,hi=>by
  simp only[apart1,Bool.and_eq_true,Bool.or_eq_true,Bool.not_eq_true',List.contains_iff_mem]at h;cases j with
  |zero=>simp at h1 h2;subst h1 h2;exact h.1.resolve_right hi
  |succ j=>exact apart1_spec h.2 j f c (by simpa using h1) (by simpa using h2) hi
def PW (x y:Nat×IOper×Feet):Prop:=x.1<y.1/\(x.1 ∉ y.2.1.aft->Apart x y)
theorem tag_pw:∀(il:List IOper) (fs:List Feet) (i:Nat),apartTAll i il=true->(apartAll fs i (il.map (·.aft))=true\/∀f ∈ fs,quietF f=true)->(tag i il fs).Pairwise PW
 |[],fs,i,_,_=>by simp[tag]
 |_::_,[],i,_,_=>by simp[tag]
 |o::r,f::fs,i,hT,hF=>by
  simp only[apartTAll,Bool.and_eq_true]at hT;simp only[tag,List.pairwise_cons];refine⟨λy hy=>?_,tag_pw r fs (i+1) hT.2 ?_⟩
  ·obtain⟨h1,h2,h3⟩:=tag_mem hy;refine⟨by show i<y.1;omega,λhi=>⟨apartT1_spec hT.1 _ (List.mem_of_getElem? h2) hi,?_⟩⟩;rcases hF with hF | hF
   ·simp only[List.map_cons,apartAll,Bool.and_eq_true]at hF;exact apart1_spec hF.1 _ _ y.2.1.aft h3 (by simp[h2]) hi
   ·have e1:=hF f (List.mem_cons_self ..);have e2:=hF _ (List.mem_cons_of_mem _ (List.mem_of_getElem? h3));cases f with
    |c=>simp[quietF]at e1
    |m f=>
     generalize y.2.2=q at e2;cases q with
     |c=>simp[quietF]at e2
     |m q=>simp[quietF]at e1 e2;simp[clash,meets,e1,e2]
  ·rcases hF with hF | hF
   ·simp only[List.map_cons,apartAll,Bool.and_eq_true]at hF;exact .inl hF.2
   ·exact .inr λf' hf'=>hF f' (List.mem_cons_of_mem _ hf')
def cAft (iops:List IOper) (i:Nat) (o:Oper) (io:IOper):Bool:=
 o.after.toList.all (λe=>!Region.binds .any e||Nat.blt e.on i) &&
 io.aft.all λa=>o.after.toList.any λe=>Region.binds .any e&&(e.on==a||(match iops[e.on]? with | some x=>x.aft.contains a | none=>false))
def cAfts (iops:List IOper):Nat->List Oper->List IOper->Bool
 |i,o::r,io::ir=>cAft iops i o io&&cAfts iops (i+1) r ir
 |_,_,_=>true
theorem cAfts_get {iops:List IOper}:∀{l:List Oper} {il:List IOper} {i:Nat},cAfts iops i l il=true->∀(j:Nat) (o:Oper) (io:IOper),l[j]?=some o->il[j]?=some io->cAft iops (i+j) o io=true
 |[],_,_,_,j,o,io,h,_=>by simp at h
 |_::_,[],_,_,j,o,io,_,h=>by simp at h
 |o'::r,io'::ir,i,h,j,o,io,h1,h2=>by
  simp only[cAfts,Bool.and_eq_true]at h;cases j with
  |zero=>simp at h1 h2;subst h1 h2;exact h.1
  |succ j=>have:=cAfts_get h.2 j o io (by simpa using h1) (by simpa using h2);rwa [show i+1+j=i+(j+1) by omega]at this
structure Rest (ops:Array Oper) (iops:List IOper) (L:List (Nat×IOper×Feet)) (listed:Array Bool):Prop where
 size:listed.size=ops.size
 left:∀x ∈ L,x.1<ops.size/\listed[x.1]?=some false/\iops[x.1]?=some x.2.1
 all:∀(i:Nat),listed[i]?=some false->∃x ∈ L,x.1=i
 down:∀(i:Nat) (io:IOper),iops[i]?=some io->listed[i]?=some true->∀a ∈ io.aft,listed[a]?=some true
 pw:L.Pairwise PW
theorem ops_any {c1:Call1} {cx:CallX} (hs:Arb.CallSound ν P c1) (hx':CallSound ν P cx) (hmore:MoreX cx) {nt:Nat} {ops:Array Oper} {iops:List IOper} {Q:Exit->Act->World->Prop} {s0:Nat} {s':St}
  (hc:cOpers P ν nt ops ops.toList iops=true) (haft:cAfts iops 0 ops.toList iops=true):∀(n:Nat) (L:List (Nat×IOper×Feet)) (listed:Array Bool) (g:Gh) (a:Act) (s:St),L.length=n->Rest ops iops L listed->
  Run c1 cx s0 L s s'->Sim ν k nt g a s->(∀g' a',Sim ν k nt g' a' s'->Mono ν g g'->Q .normal a' g'.w)->wpAny P .any ops Q n listed a g.w:=by
 intro n
 induction n with
 |zero=>
  intro L listed g a s hn hl hr m hQ;cases L with
  |cons=>simp at hn
  |nil=>
   refine⟨?_,?_⟩
   ·refine List.eq_nil_iff_forall_not_mem.2 λj hj=>?_
    obtain⟨h1,o,ho, -⟩:=mem_ready.1 hj;have hjn:j<listed.size:=by rw[hl.size];exact(Array.getElem?_eq_some_iff.1 ho).1
    obtain⟨x,hx, -⟩:=hl.all j (by simp[Array.getD,hjn]at h1;simp[hjn,h1]);cases hx
   ·cases hr with
    |nil h=>exact hQ g a (m.like h) (.refl ν g)
 |succ n ih=>
  intro L listed g a s hn hl hr m hQ;have hat:∀{j:Nat} {b:Bool} {d:Bool},listed.getD j d=b->b≠d->listed[j]?=some b:=by
   intro j b d h hb;by_cases hj:j<listed.size
   ·simp[Array.getD,hj]at h;simp[hj,h]
   ·simp[Array.getD,hj]at h;exact absurd h.symm hb
  obtain⟨hlen,hget⟩:=cOpers_get hc;refine⟨λh0=>?_,λj hj=>?_⟩
  ·exfalso;cases L with
   |nil=>simp at hn
   |cons x r=>
    obtain⟨h1,h2,h3⟩:=hl.left x (List.mem_cons_self ..);have:x.1 ∈ Region.ready .any ops listed:=by
     have ho:ops[x.1]?=some ops[x.1]:=by simp[h1]
     refine mem_ready.2 ⟨by simp[Array.getD_eq_getD_getElem?,h2],_,ho,λe he hb=>?_⟩;have hA:=cAfts_get haft x.1 ops[x.1] x.2.1 (by simp[h1]) h3;simp only[cAft,Bool.and_eq_true,List.all_eq_true,Nat.zero_add]at hA;have hlt:=hA.1 e (by simpa using he);simp only[hb,Bool.not_true,Bool.false_or,Nat.blt_eq]at hlt;have hlt':e.on<listed.size:=by rw[hl.size];omega
     cases hv:listed[e.on]with
     |true=>simp[hlt',hv]
     |false=>
      obtain⟨y,hy,hye⟩:=hl.all e.on (by simp[hlt',hv]);rcases List.mem_cons.1 hy with rfl | hy
      ·omega
      ·have:=(List.pairwise_cons.1 hl.pw).1 y hy;have:=this.1;omega
    rw[h0]at this;cases this
  ·obtain⟨h1,o,ho,hedge⟩:=mem_ready.1 hj;obtain⟨x,hx,rfl⟩:=hl.all j (hat h1 (by simp));obtain⟨L1,L2,rfl⟩:=List.append_of_mem hx;obtain⟨hlt,hfalse,hix⟩:=hl.left x hx;have hA:=cAfts_get haft x.1 o x.2.1 (by simpa using ho) hix;simp only[cAft,Bool.and_eq_true,List.all_eq_true,List.any_eq_true,Nat.zero_add]at hA;have hdn:∀b ∈ x.2.1.aft,listed[b]?=some true:=by
    intro b hb;obtain⟨e,he,h2,h3⟩:=hA.2 b hb;have hel:=hat (hedge e (by simpa using he) h2) (by simp);simp only[Bool.or_eq_true,beq_iff_eq]at h3;rcases h3 with h3 | h3
    ·subst h3;exact hel
    ·split at h3
     ·rename_i y hy;exact hl.down e.on y hy hel b (by simpa using h3)
     ·cases h3
   have hpw:=List.pairwise_append.1 hl.pw;have hpw2:=List.pairwise_cons.1 hpw.2.1;obtain⟨s1,e1',r1⟩:=Run.front hmore L1 s hr λy hy=>by
    obtain⟨q1,q2⟩:=hpw.2.2 y hy x (List.mem_cons_self ..);refine q2 λhb=>?_
    have:=hdn _ hb;rw[(hl.left y (by simp[hy])).2.1]at this;cases this
   have e1:=e1'.step hmore;have hl':Rest ops iops (L1++L2) (listed.setIfInBounds x.1 true):=by
    have hne:∀y ∈ L1++L2,x.1≠y.1:=by
     intro y hy;rcases List.mem_append.1 hy with hy | hy
     ·have:=(hpw.2.2 y hy x (List.mem_cons_self ..)).1;omega
     ·have:=(hpw2.1 y hy).1;omega
    have hxl:x.1<listed.size:=by rw[hl.size];exact hlt
    refine⟨by simpa using hl.size,λy hy=>?_,λi hi=>?_,λi io hio hi b hb=>?_,List.pairwise_append.2 ⟨hpw.1,hpw2.2,λy hy z hz=>hpw.2.2 y hy z (List.mem_cons_of_mem _ hz)⟩⟩
    ·obtain⟨q1,q2,q3⟩:=hl.left y (by rcases List.mem_append.1 hy with h | h<;>simp[h]);exact⟨q1,by rw[Array.getElem?_setIfInBounds_ne (hne y hy)];exact q2,q3⟩
    ·by_cases hxi:x.1=i
     ·subst hxi;simp[hxl]at hi
     ·rw[Array.getElem?_setIfInBounds_ne hxi]at hi;obtain⟨y,hy,hyi⟩:=hl.all i hi;refine⟨y,?_,hyi⟩;simp only[List.mem_append,List.mem_cons]at hy ⊢;rcases hy with h | rfl | h
      ·exact .inl h
      ·exact absurd hyi hxi
      ·exact .inr h
    ·have hup:∀{b:Nat},listed[b]?=some true->(listed.setIfInBounds x.1 true)[b]?=some true:=by
      intro b hb;by_cases hxb:x.1=b
      ·subst hxb;simp[hxl]
      ·rw[Array.getElem?_setIfInBounds_ne hxb];exact hb
     by_cases hxi:x.1=i
     ·subst hxi;rw[hix]at hio;cases hio;exact hup (hdn b hb)
     ·rw[Array.getElem?_setIfInBounds_ne hxi]at hi;exact hup (hl.down i io hio hi b hb)
   unfold wpOp;simp only[ho];have hw:=step_wp (Q:=Q) hs hx' (hget x.1 o x.2.1 (by simpa using ho) hix) m e1 (next:=wpAny P .any ops Q n (listed.setIfInBounds x.1 true)) λg' a' m' hm=>
    ih (L1++L2) _ g' a' s1 (by simp at hn ⊢;omega) hl' r1 m' λg'' a'' m'' hm'=>hQ g'' a'' m'' (hm.trans hm')
   split
   ·rename_i h;rw[if_pos h]at hw;exact .inl hw
   ·rename_i h;rw[if_neg h]at hw;exact hw
def cRgn (P:Program) (ν:Nat->Nat) (nt:Nat) (draw:Bool) (ops:Array Oper) (iops:List IOper):Bool:=
 cOpers P ν nt ops ops.toList iops&&(!draw||(cAfts iops 0 ops.toList iops&&apartTAll 0 iops))
theorem keepFr_get:∀(keep:List Nat) (fr:Fr) (t:Nat) (x:AV),get (keepFr keep fr) t=some x->get fr t=some x
 |[],fr,t,x,h=>by simp[keepFr,fr_nil]at h
 |k::r,fr,t,x,h=>by
  simp only[keepFr]at h;cases hk:get fr k with
  |none=>rw[hk]at h;exact keepFr_get r fr t x h
  |some y=>
   rw[hk]at h;simp only[fr_cons]at h;split at h
   ·rename_i h0;subst h0;rw[hk];exact h
   ·exact keepFr_get r fr t x h
theorem Sim.keep {nt:Nat} {g:Gh} {a:Act} {s:St} (m:Sim ν k nt g a s) (keep:List Nat):Sim ν k nt g a { s with fr:=keepFr keep s.fr }:=
 ⟨m.h,m.r,λt x ht=>m.f t x (keepFr_get keep s.fr t x ht),m.n,m.d⟩
theorem Sim.next {nt:Nat} {g:Gh} {a:Act} {s:St} (m:Sim ν k nt g a s) (n:Nat):Sim ν k nt g a { s with nx:=n }:=⟨m.h,m.r,m.f,m.n,m.d⟩
theorem rgn_wp {c1:Call1} {cx:CallX} (hs:Arb.CallSound ν P c1) (hx:CallSound ν P cx) (hmore:MoreX cx) (hmix:P.follows .mixedOrders=true) {nt id:Nat} {draw:Bool} {ops:Array Oper} {iops:List IOper} {keep:List Nat}
  (hc:cRgn P ν nt draw ops iops=true) {g:Gh} {a:Act} {s s':St} (e:evalRgn c1 cx draw iops keep s=some s') (m:Sim ν k nt g a s) {Q:Exit->Act->World->Prop}
  (hQ:∀g' a',Sim ν k nt g' a' s'->Mono ν g g'->Q .normal a' g'.w):(Code.region id ops draw).wp P Q a g.w:=by
 unfold evalRgn at e;generalize hs0:({ s with nx:=s.nx+iops.length }:St)=t at e;have mt:Sim ν k nt g a t:=by rw[<-hs0];exact m.next _
 generalize s.nx=n0 at e;clear hs0 m;simp only[cRgn,Bool.and_eq_true]at hc;cases draw with
 |false=>
  simp only[Bool.false_eq_true,if_false]at e;cases h1:evalOps c1 cx iops n0 t with
  |none=>rw[h1]at e;cases e
  |some s1=>
   rw[h1]at e;simp only[Option.some.injEq]at e;subst e;exact wp_region_list (ops_text hs hx ops.toList iops n0 g a t s1 hc.1 h1 mt λg' a' m' hm=>hQ g' a' (m'.keep keep) hm)
 |true=>
  simp only[if_true]at e;cases h1:evalFeet c1 cx iops n0 t with
  |none=>rw[h1]at e;cases e
  |some p=>
   obtain⟨s1,fs⟩:=p;rw[h1]at e;simp only[]at e;split at e
   case isFalse=>cases e
   rename_i hord;simp only[Option.some.injEq]at e;subst e;simp only[Bool.not_true,Bool.false_or,Bool.and_eq_true]at hc;refine wp_region_any hmix ?_;obtain⟨r',hm⟩:=mt.r.world (w':={ g.w with drawn:=g.w.drawn+1 }) (I':=g.I) (λ_ h=>h) (λ_ h=>.inl h) (Nat.le_refl _) rfl rfl rfl λ_ _=>rfl
   obtain⟨hrun,hlen⟩:=Run.of_eval (s0:=n0) iops 0 t s1 fs (by simpa using h1);have hn:=(cOpers_get hc.1).1;simp only[Array.length_toList]at hn;have hpw:=tag_pw iops fs 0 hc.2.2 (by
    simp only[orderOk,Bool.or_eq_true,List.all_eq_true]at hord;exact hord.symm)
   have hlt:(tag 0 iops fs).length=ops.size:=by
    rw[hn];generalize 0=i;clear hrun hpw hord h1 hc hn hQ
    induction iops generalizing fs i with
    |nil=>simp[tag]
    |cons o r ih=>
     cases fs with
     |nil=>simp at hlen
     |cons f fs=>simp only[tag,List.length_cons];rw[ih fs (by simpa using hlen)]
   refine ops_any hs hx hmore hc.1 hc.2.1 ops.size _ _ { g with w:={ g.w with drawn:=g.w.drawn+1 } } a t hlt ?_ hrun ⟨mt.h,r',mt.f.mono hm,mt.n,mt.d⟩ λg' a' m' hm'=>hQ g' a' (m'.keep keep) (hm.trans hm')
   refine⟨by simp,λx hx=>?_,λi hi=>?_,λi io _ hi=>?_,hpw⟩
   ·obtain⟨q1,q2,q3⟩:=tag_mem hx;simp only[Nat.sub_zero]at q2;have:x.1<ops.size:=by rw[hn];exact(List.getElem?_eq_some_iff.1 q2).1
    exact⟨this,by simp[this],q2⟩
   ·have hi':i<ops.size:=by
     have:=(Array.getElem?_eq_some_iff.1 hi).1;simpa using this
    obtain⟨x,hx,hxi⟩:=mem_tag (i:=0) (j:=i) (il:=iops) hlen (List.getElem?_eq_getElem (by omega));exact⟨x,hx,by omega⟩
   ·have hi':=(Array.getElem?_eq_some_iff.1 hi);obtain⟨q1,q2⟩:=hi';simp at q2
end
section
variable {ν:Nat->Nat} {P:Program} {k:Cx}
def cCode (P:Program) (ν:Nat->Nat) (nt:Nat):Code->IC->Bool
 |.skip,.skip=>true
 |.label _,.skip=>true
 |.region _ ops draw,.rgn d iops _=>draw==d&&cRgn P ν nt draw ops iops
 |.seq a b,.seq x y=>cCode P ν nt a x&&cCode P ν nt b y
 |.cond c a b,.cond d x y=>cOpd ν c d&&cCode P ν nt a x&&cCode P ν nt b y
 |.block id a,.block jd x=>id==jd&&cCode P ν nt a x
 |.loop a,.loop _ x=>cCode P ν nt a x
 |.exit id,.exit jd=>id==jd
 |.ret,.ret=>true
 |.scope a,.scope x=>cCode P ν nt a x
 |_,.stop=>true
 |_,_=>false
theorem code_wp {c1:Call1} {cx:CallX} (hs:Arb.CallSound ν P c1) (hx:CallSound ν P cx) (hmore:MoreX cx) (hmix:P.follows .mixedOrders=true) {nt n:Nat}:∀(ic:IC) (c:Code),cCode P ν nt c ic=true->
  ∀(g:Gh) (a:Act) (s:St) (r:Ex) (s':St),evalC c1 cx n ic s=some (r,s')->Sim ν k nt g a s->∀Q:Exit->Act->World->Prop,(∀g' a',Sim ν k nt g' a' s'->Mono ν g g'->Q r.U a' g'.w)->c.wp P Q a g.w:=by
 intro ic
 induction ic with
 |skip=>
  intro c hc g a s r s' e m Q hQ;simp only[evalC,Option.some.injEq,Prod.mk.injEq]at e;obtain⟨rfl,rfl⟩:=e;cases c<;>simp only[cCode,Bool.false_eq_true]at hc
  ·exact wp_skip (hQ g a m (.refl ν g))
  ·exact wp_label (hQ g a m (.refl ν g))
 |rgn draw ops keep=>
  intro c hc g a s r s' e m Q hQ;cases c<;>simp only[cCode,Bool.false_eq_true]at hc;rename_i id cops cdraw;simp only[Bool.and_eq_true,beq_iff_eq]at hc;obtain⟨rfl,hc⟩:=hc;simp only[evalC,Option.map_eq_some_iff,Prod.mk.injEq]at e;obtain⟨s1,e1,rfl,rfl⟩:=e;exact rgn_wp hs hx hmore hmix hc e1 m λg' a' m' hm=>hQ g' a' m' hm
 |seq x y ihx ihy=>
  intro c hc g a s r s' e m Q hQ;cases c<;>simp only[cCode,Bool.false_eq_true]at hc;simp only[Bool.and_eq_true]at hc;refine wp_seq ?_;simp only[evalC]at e;cases h1:evalC c1 cx n x s with
  |none=>rw[h1]at e;cases e
  |some p=>
   obtain⟨r1,s1⟩:=p;rw[h1]at e;refine ihx _ hc.1 g a s r1 s1 h1 m _ λg' a' m' hm=>?_
   cases r1 with
   |norm=>exact ihy _ hc.2 g' a' s1 r s' e m' Q λg'' a'' m'' hm'=>hQ g'' a'' m'' (hm.trans hm')
   |exit i=>simp only[Option.some.injEq,Prod.mk.injEq]at e;obtain⟨rfl,rfl⟩:=e;exact hQ g' a' m' hm
   |ret=>simp only[Option.some.injEq,Prod.mk.injEq]at e;obtain⟨rfl,rfl⟩:=e;exact hQ g' a' m' hm
 |cond d x y ihx ihy=>
  intro c hc g a s r s' e m Q hQ;cases c<;>simp only[cCode,Bool.false_eq_true]at hc;rename_i cd cX cY;simp only[Bool.and_eq_true]at hc;simp only[evalC]at e;split at e
  ·rename_i t ht;have hR:=eval_ok m.f hc.1.1;rw[ht]at hR;generalize hv:a.eval cd=v at hR;cases hR with
   |iv h=>
    cases h with
    |bool=>
     refine wp_cond hv ?_;cases t with
     |true=>exact ihx _ hc.1.2 g a s r s' e m Q hQ
     |false=>exact ihy _ hc.2 g a s r s' e m Q hQ
  ·cases e
 |block id x ih=>
  intro c hc g a s r s' e m Q hQ;cases c<;>simp only[cCode,Bool.false_eq_true]at hc;simp only[Bool.and_eq_true,beq_iff_eq]at hc;obtain⟨rfl,hc⟩:=hc;refine wp_block ?_;simp only[evalC]at e;cases h1:evalC c1 cx n x s with
  |none=>rw[h1]at e;cases e
  |some p=>
   obtain⟨r1,s1⟩:=p;rw[h1]at e;refine ih _ hc g a s r1 s1 h1 m _ λg' a' m' hm=>?_
   cases r1 with
   |norm=>simp only[Option.some.injEq,Prod.mk.injEq]at e;obtain⟨rfl,rfl⟩:=e;exact hQ g' a' m' hm
   |ret=>simp only[Option.some.injEq,Prod.mk.injEq]at e;obtain⟨rfl,rfl⟩:=e;exact hQ g' a' m' hm
   |exit i=>
    simp only[Ex.U,Exit.inBlock];simp only[]at e;split at e
    ·rename_i hi;simp only[Option.some.injEq,Prod.mk.injEq]at e;obtain⟨rfl,rfl⟩:=e;rw[if_pos hi];exact hQ g' a' m' hm
    ·rename_i hi;simp only[Option.some.injEq,Prod.mk.injEq]at e;obtain⟨rfl,rfl⟩:=e;rw[if_neg hi];exact hQ g' a' m' hm
 |loop keep x ih=>
  intro c hc g a s r s' e m Q hQ;cases c<;>simp only[cCode,Bool.false_eq_true]at hc;rename_i cX;simp only[evalC]at e;refine wp_rounds (λj a w=>∃g1 s1,g1.w=w/\Sim ν k nt g1 a s1/\Mono ν g g1/\iter (evalC c1 cx n x) keep j s1=some (r,s')) ?_ ?_ (n:=n) ⟨g,_,rfl,m.keep keep,.refl ν g,e⟩
  ·rintro a w ⟨g1,s1, -, -, -,h⟩;simp[iter]at h
  ·rintro j a w ⟨g1,s1,rfl,m1,hm1,h⟩;simp only[iter]at h;cases h1:evalC c1 cx n x s1 with
   |none=>rw[h1]at h;cases h
   |some p=>
    obtain⟨r2,s2⟩:=p;rw[h1]at h;refine ih _ hc g1 a s1 r2 s2 h1 m1 _ λg' a' m' hm=>?_
    cases r2 with
    |norm=>exact⟨g',_,rfl,m'.keep keep,hm1.trans hm,h⟩
    |exit i=>simp only[Option.some.injEq,Prod.mk.injEq]at h;obtain⟨rfl,rfl⟩:=h;exact hQ g' a' m' (hm1.trans hm)
    |ret=>simp only[Option.some.injEq,Prod.mk.injEq]at h;obtain⟨rfl,rfl⟩:=h;exact hQ g' a' m' (hm1.trans hm)
 |scope x ih=>
  intro c hc g a s r s' e m Q hQ;cases c<;>simp only[cCode,Bool.false_eq_true]at hc;refine wp_scope_straight (ih _ hc g a s r s' e m _ λg' a' m' hm=>?_);have:=hQ g' a' m' hm;cases r<;>exact this
 |stop=>
  intro c hc g a s r s' e m Q hQ;simp[evalC]at e
 |exit id=>
  intro c hc g a s r s' e m Q hQ;cases c<;>simp only[cCode,Bool.false_eq_true]at hc;simp only[evalC,Option.some.injEq,Prod.mk.injEq]at e;obtain⟨rfl,rfl⟩:=e;rw[beq_iff_eq]at hc;subst hc;exact wp_exit (hQ g a m (.refl ν g))
 |ret=>
  intro c hc g a s r s' e m Q hQ;cases c<;>simp only[cCode,Bool.false_eq_true]at hc;simp only[evalC,Option.some.injEq,Prod.mk.injEq]at e;obtain⟨rfl,rfl⟩:=e;exact wp_ret (hQ g a m (.refl ν g))
end
section
variable {ν:Nat->Nat} {P:Program} {k:Cx}
def cRes (P:Program):ResultVar->IRes->Bool
 |.tmp t,.t n=>t==n
 |.cell a t,.cell n agg sz=>a==n&&tyB P t sz agg
 |_,_=>false
def cRess (P:Program):List ResultVar->List IRes->Bool
 |[],[]=>true
 |r::rs,x::xs=>cRes P r x&&cRess P rs xs
 |_,_=>false
theorem resM_ok {g:Gh} (r:Rel ν k g) {a:Act} {fr:Fr} (hf:FrR ν g a.tmps fr) {rv:ResultVar} {x:IRes} (hc:cRes P rv x=true) {y:AV} {h':Hp} (e:(resM fr x).run g.h=some (y,h')) :
  h'=g.h/\∃v,(resOne a.tmps rv).run P g.w = .ok v g.w/\RA ν g v y:=by
 cases x with
 |t n=>
  cases rv with
  |cell=>simp[cRes]at hc
  |tmp t=>
   obtain⟨rfl,rfl⟩:=Mret_someZ e;exact⟨rfl,_,by simp[resOne,Act.eval],eval_ok (ν:=ν) (x:=.tmp t) (a:=a) hf (by simpa[cOpd,cRes]using hc)⟩
 |cell n agg sz=>
  cases rv with
  |tmp=>simp[cRes]at hc
  |cell t ty=>
   simp only[cRes,Bool.and_eq_true]at hc;obtain⟨rfl,u,hu,hR1⟩:=load_at r hc.2 (eval_ok (ν:=ν) (x:=.tmp t) hf (by simpa[cOpd]using hc.1)) e;exact⟨rfl,u,as_sure hu,hR1⟩
theorem resM_list {g:Gh} (r:Rel ν k g) {a:Act} {fr:Fr} (hf:FrR ν g a.tmps fr):∀(rvs:List ResultVar) (xs:List IRes) (ys:List AV) (h':Hp),cRess P rvs xs=true->(M.mapL (resM fr) xs).run g.h=some (ys,h')->
  h'=g.h/\∃vs,vs.length=rvs.length/\(∀(j:Nat) (rv:ResultVar) (v:Value),rvs[j]?=some rv->vs[j]?=some v->(resOne a.tmps rv).run P g.w = .ok v g.w)/\RL ν g vs ys
 |[],[],ys,h',_,e=>by
  obtain⟨rfl,rfl⟩:=MmapL_nilZ e;exact⟨rfl,[],rfl,λj rv v h=>by simp at h,.nil⟩
 |rv::rvs,x::xs,ys,h',hc,e=>by
  simp only[cRess,Bool.and_eq_true]at hc;obtain⟨y,h1,zs,e1,e2,rfl⟩:=MmapL_consZ e;obtain⟨rfl,v,q1,q6⟩:=resM_ok r hf hc.1 e1;obtain⟨rfl,vs,p1,p2,p7⟩:=resM_list r hf rvs xs zs h' hc.2 e2;refine⟨rfl,v::vs,by simp[p1],λj rv' v' hj hv=>?_,.cons q6 p7⟩;cases j with
  |zero=>simp at hj hv;subst hj hv;exact q1
  |succ j=>exact p2 j rv' v' (by simpa using hj) (by simpa using hv)
 |[],_::_,_,_,hc,_=>by simp[cRess]at hc
 |_::_,[],_,_,hc,_=>by simp[cRess]at hc
theorem resAll_ok {g:Gh} (r:Rel ν k g) {a:Act} {fr:Fr} (hf:FrR ν g a.tmps fr) {fn:Func} {xs:List IRes} (hc:cRess P fn.results.toList xs=true) (h4:xs.length<=4) {y:AV} {h':Hp} (e:(resAll fr xs).run g.h=some (y,h')) :
  h'=g.h/\∃v,(results fn a.tmps).run P g.w = .ok v g.w/\RA ν g v y:=by
 have hlen:∀{rvs:List ResultVar} {xs:List IRes},cRess P rvs xs=true->rvs.length=xs.length:=by
  intro rvs
  induction rvs with
  |nil=>intro xs h;cases xs with | nil=>rfl | cons=>simp[cRess]at h
  |cons a r ih=>intro xs h;cases xs with | nil=>simp[cRess]at h | cons x xs=>simp only[cRess,Bool.and_eq_true]at h;simp[ih h.2]
 have hn:=hlen hc;have many:∀{ys:List AV} {h':Hp},(M.mapL (resM fr) xs).run g.h=some (ys,h')->xs.length≠1->h'=g.h/\∃v,(results fn a.tmps).run P g.w = .ok v g.w/\RA ν g v (.tup ys):=by
  intro ys h' e hne;obtain⟨rfl,vs,p1,p2,p7⟩:=resM_list r hf fn.results.toList xs ys h' hc e;refine⟨rfl,.tuple vs.toArray,?_,.tup (by simpa using p7.1) λj v c h1 h2=>p7.2 j v c (by simpa using h1) h2⟩;rw[results_run (rvs:=fn.results.toList) (by simp) (by omega) p1 p2];rcases vs with _ | ⟨v,_ | ⟨u,vs⟩⟩
  ·rfl
  ·exact absurd (hn.symm.trans p1.symm) (by simpa using hne)
  ·rfl
 rcases xs with _ | ⟨x,_ | ⟨x2,xs⟩⟩
 ·obtain⟨l,h1,e1,e2⟩:=Mbind_someZ e;obtain⟨rfl,rfl⟩:=Mret_someZ e2;exact many e1 (by simp)
 ·rcases hl:fn.results.toList with _ | ⟨rv,_ | ⟨rv2,rvs⟩⟩
  ·rw[hl]at hn;simp at hn
  ·rw[hl]at hc;simp only[cRess,Bool.and_true]at hc;obtain⟨rfl,v,q1,q6⟩:=resM_ok r hf hc e;refine⟨rfl,v,?_,q6⟩;refine results_run (rvs:=[rv]) (vs:=[v]) (by rw[<-hl]) (by simp) rfl λj rv' v' hj hv=>?_
   cases j with
   |zero=>simp at hj hv;subst hj hv;exact q1
   |succ j=>simp at hj
  ·rw[hl]at hn;simp at hn
 ·obtain⟨l,h1,e1,e2⟩:=Mbind_someZ e;obtain⟨rfl,rfl⟩:=Mret_someZ e2;exact many e1 (by simp)
def cFn (P:Program) (ν:Nat->Nat) (fn:Func) (c:Code) (ir:IFn):Bool:=
 cCode P ν fn.ntmps c ir.body&&cRess P fn.results.toList ir.res&&Nat.ble ir.res.length 4&&ir.prim.isNone
abbrev PrimF:=Call1->CallX->List AV->Hp->Nat->Option (AV×Hp×Nat)
def PrimOK (P:Program) (ν:Nat->Nat) (f:Nat) (p:PrimF):Prop:=
 ∀(c1:Call1) (cx:CallX),Arb.CallSound ν P c1->CallSound ν P cx->∀args hp nx r hp' nx',p c1 cx args hp nx=some (r,hp',nx')->
  (∃fn,P.funcs[ν f]?=some fn/\fn.body.isSome=true/\(fn.name=="runtime.NumGoroutine")=false)/\CallOK ν P f args hp r hp'
def TieAt (P:Program) (ν:Nat->Nat) (f:Nat) (ir:IFn):Prop:=
 (∃fn c,P.funcs[ν f]?=some fn/\fn.body=some c/\(fn.name=="runtime.NumGoroutine")=false/\cFn P ν fn c ir=true)\/∃p,ir.prim=some p/\PrimOK P ν f p/\PrimMore p
def Tie (P:Program) (ν:Nat->Nat) (prog:Nat->Option IFn):Prop:=∀f ir,prog f=some ir->TieAt P ν f ir
theorem params_get:∀(l:List AV) (i t:Nat),get (params l i) t=if i<=t then l[t - i]? else none
 |[],i,t=>by simp[params,fr_nil]
 |x::r,i,t=>by
  simp only[params,fr_cons];by_cases h:i=t
  ·subst h;simp
  ·rw[if_neg h,params_get r (i+1) t];by_cases h':i+1<=t
   ·rw[if_pos h',if_pos (by omega)];have:t - i=(t - (i+1))+1:=by omega
    rw[this];simp
   ·rw[if_neg h',if_neg (by omega)]
theorem sound (hmix:P.follows .mixedOrders=true) {c1:Call1} (hs:Arb.CallSound ν P c1) {prog:Nat->Option IFn} (tie:Tie P ν prog):∀n,CallSound ν P (evalF c1 prog n):=by
 have hmore:=evalF_more (c1:=c1) (prog:=prog) λf ir p hf hp=>by
  rcases tie f ir hf with⟨fn,c, -, -, -,hcf⟩|⟨p',h1, -,h2⟩
  ·simp[cFn,hp]at hcf
  ·rw[hp]at h1;cases h1;exact h2
 intro n
 induction n with
 |zero=>intro f args hp nx r hp' nx' e;simp[evalF]at e
 |succ n ih=>
  intro f args hp nx r hp' nx' e;simp only[evalF]at e;cases hf:prog f with
  |none=>rw[hf]at e;cases e
  |some ir=>
   rw[hf]at e;simp only[]at e;rcases tie f ir hf with⟨fn,c,hfn,hb,hnm,hcf⟩|⟨p,hp1,hp2, -⟩
   case inr=>rw[hp1]at e;exact hp2 c1 _ hs ih args hp nx r hp' nx' e
   refine⟨⟨fn,hfn,by simp[hb],hnm⟩,?_⟩;simp only[cFn,Bool.and_eq_true,Nat.ble_eq,Option.isNone_iff_eq_none]at hcf;obtain⟨⟨⟨hc1,hc2⟩,hc3⟩,hc4⟩:=hcf;rw[hc4]at e;simp only[]at e;split at e
   ·rename_i hlen;intro k0 g0 cargs hh r0 hRL;refine calls_of_wp hfn hb ?_;have m0:Sim ν k0 fn.ntmps g0 { tmps:=cargs++Array.replicate (fn.ntmps - cargs.size) undef,defers:=[] } ⟨params args 0,hp,nx⟩:=by
     refine⟨hh,r0,λt x ht=>?_,by simp;omega,rfl⟩;simp only[params_get,Nat.zero_le,if_true,Nat.sub_zero]at ht;have hlt:t<cargs.size:=by have:=hRL.1;have:=lt_of_some ht;simp only[Array.length_toList]at *;omega
     refine⟨cargs[t],by simp[Array.getElem?_append,hlt],hRL.2 t _ _ (by simp[hlt]) ht⟩
    cases he:evalC c1 (evalF c1 prog n) n ir.body ⟨params args 0,hp,nx⟩with
    |none=>rw[he]at e;cases e
    |some p=>
     obtain⟨ex,s⟩:=p;rw[he]at e;have fin:∀(g':Gh) (a':Act),Sim ν k0 fn.ntmps g' a' s->Mono ν g0 g'->(match(resAll s.fr ir.res).run s.hp with | some (v,h)=>some (v,h,s.nx) | none=>none)=some (r,hp',nx')->
       a'.defers=[]/\∃v,(results fn a'.tmps).run P g'.w = .ok v g'.w/\
       ∃u g'',Ending.returned v = .returned u/\g''.w=g'.w/\g''.h=hp'/\Rel ν k0 g''/\Mono ν g0 g''/\RA ν g'' u r:=by
      intro g' a' m' hm hr;cases hra:(resAll s.fr ir.res).run s.hp with
      |none=>rw[hra]at hr;cases hr
      |some q=>
       obtain⟨y,h1⟩:=q;rw[hra]at hr;cases hr;obtain⟨rfl,v,q1,q6⟩:=resAll_ok m'.r m'.f hc2 hc3 (by rw[m'.h];exact hra);exact⟨m'.d,v,q1,v,g',rfl,rfl,rfl,m'.r,hm,q6⟩
     refine code_wp hs ih (hmore n) hmix ir.body c hc1 g0 _ _ ex s he m0 _ λg' a' m' hm=>?_
     cases ex with
     |norm=>exact fin g' a' m' hm e
     |ret=>exact fin g' a' m' hm e
     |exit i=>cases e
   ·cases e
end
def ioMov (d:Nat) (x:Opd):IOper:=⟨some d,.mov x,none,[]⟩
def cpIr (e:Nat):List IOper:=[⟨some 5,.bs0 e,none,[]⟩,ioMov 6 (.t 0),⟨some 7,.app e false (.t 5) (.t 6),none,[]⟩,ioMov 2 (.t 7)]
def cNilQ (P:Program) (nt e:Nat) (b:Oper):Bool:=
 b.dst==some 4&&Nat.blt 4 nt&&(match b.guard with | none=>true | _=>false)&&(match b.op with | .binOp .eql t (.tmp 3) (.const (.slice none 0 0)) _=>sliceB P t e | _=>false)
def cClone (P:Program) (ν:Nat->Nat) (nt:Nat) (c:Code) (e:Nat):Bool:=
 match c with
 |.seq (.region _ o1 false) (.seq (.seq (.region _ o2 false) (.cond (.tmp 4) (.seq (.region _ o3 false) .ret) .skip)) (.seq (.region _ o4 false) .ret))=>
  cRgn P ν nt false o1 [ioMov 2 (.c (.iv (.nsl e)))]&&(match o2.toList with | [a,b]=>cOper P ν nt o2 a (ioMov 3 (.t 0))&&cNilQ P nt e b | _=>false) &&
  cRgn P ν nt false o3 [ioMov 2 (.c (.iv (.nsl e)))]&&cRgn P ν nt false o4 (cpIr e)
 |_=>false
section
variable {ν:Nat->Nat} {P:Program} {k:Cx}
def noCall:Call1:=λ_ _ _=>none
def noX:CallX:=λ_ _ _ _=>none
theorem noCall_sound:Arb.CallSound ν P noCall:=λf args hp r hp' e=>by simp[noCall]at e
theorem noX_sound:CallSound ν P noX:=λf args hp nx r hp' nx' e=>by simp[noX]at e
theorem noX_more:MoreX noX:=λf args hp nx r hp' nx' e=>by simp[noX]at e
theorem elems_same {e:Nat} {x:AV} {hp h':Hp} {ys:List (List AV)} (he:(elems e x).run hp=some (ys,h')):h'=hp:=by
 unfold elems at he;split at he
 ·obtain⟨o,hg,e2⟩:=M.look_bind he;split at e2
  all_goals first
   |exact(Mfail_someZ e2).elim
   |(obtain⟨_,e4⟩:=M.ok_bind e2
     exact(Mret_someZ e4).2)
 ·obtain⟨_,e4⟩:=M.ok_bind he;exact(Mret_someZ e4).2
 ·exact(Mret_someZ he).2
 ·exact(Mfail_someZ he).elim
theorem elemsS_same {e:Nat} {x:AV} {hp h':Hp} {ys:List (List AV)} (he:(elems e x).run hp=some (ys,h')):elemsS e x=elems e x:=by
 unfold elemsS;split
 ·simp[elems,M.run]at he
 ·rfl
theorem ev_cp1 (e:Nat) (x:AV) (hp:Hp) (nx:Nat):evalRgn noCall noX false [ioMov 2 (.c (.iv (.nsl e)))] [0] ⟨[(0,x)],hp,nx⟩=some ⟨[(0,x)],hp,nx+1⟩:=rfl
theorem ev_cp3 (e:Nat) (fr:Fr) (hp:Hp) (nx:Nat):evalRgn noCall noX false [ioMov 2 (.c (.iv (.nsl e)))] [2] ⟨fr,hp,nx⟩=some ⟨[(2,.iv (.nsl e))],hp,nx+1⟩:=by
 have:get (Arx.set fr 2 (AV.iv (.nsl e))) 2=some (.iv (.nsl e)):=get_set_same _ _ _;simp[evalRgn,ioMov,evalOps,step,wants,isS,osem,M.run,putD,ev,keepFr,this]
theorem ev_cp4 {e:Nat} {x:AV} {hp:Hp} {nx:Nat} {ys:List (List AV)} (he:(elems e x).run hp=some (ys,hp)) (hr:ys≠[]->roomy ys.length=true/\get hp (4*(nx+2))=none) :
  evalRgn noCall noX false (cpIr e) [2] ⟨[(0,x)],hp,nx⟩ =
   some ⟨[(2,if ys.isEmpty then .iv (.nsl e) else .own (4*(nx+2)) 0 ys.length 0)],if ys.isEmpty then hp else Arx.set hp (4*(nx+2)) (.buf 0 e ys),nx+4⟩:=by
 have hs:=elemsS_same he;cases ys with
 |nil=>simp[evalRgn,cpIr,ioMov,evalOps,step,wants,isS,osem,Mrun_bindZ,M.run,putD,ev,keepFr,get_set,fr_cons,app,hs,he]
 |cons y ys=>
  obtain⟨h1,h2⟩:=hr (by simp);have h2':Arx.get hp (4*(nx+1+1))=none:=h2;have h1':roomy (ys.length+1)=true:=by simpa using h1
  simp[evalRgn,cpIr,ioMov,evalOps,step,wants,isS,osem,Mrun_bindZ,M.run,putD,ev,keepFr,get_set,fr_cons,app,hs,he,M.ok,M.fresh,M.write,h1',h2']
theorem Sim.nx {nt:Nat} {g:Gh} {a:Act} {s:St} (m:Sim ν k nt g a s) {fr:Fr} (hf:∀t x,get fr t=some x->get s.fr t=some x) {hp:Hp} (hh:hp=s.hp) (n:Nat):Sim ν k nt g a ⟨fr,hp,n⟩:=by
 subst hh;exact⟨m.h,m.r,λt x ht=>m.f t x (hf t x ht),m.n,m.d⟩
theorem clone_ok {f:Nat} {fn:Func} {c:Code} (hfn:P.funcs[ν f]?=some fn) (hb:fn.body=some c) (hmix:P.follows .mixedOrders=true) {e:Nat} (hc:cClone P ν fn.ntmps c e=true)
  (hres:cRess P fn.results.toList [.t 2]=true) {c1:Call1} {cx:CallX} {args:List AV} {hp:Hp} {nx:Nat} {r:AV} {hp':Hp} {nx':Nat} (he:Prim.clone e c1 cx args hp nx=some (r,hp',nx')):CallOK ν P f args hp r hp':=by
 intro k0 g0 cargs hh r0 hRL;unfold Prim.clone at he;split at he
 case h_2=>cases he
 rename_i x;cases hel:(elems e x).run hp with
 |none=>rw[hel]at he;cases he
 |some p=>
 obtain⟨ys,h1⟩:=p;obtain rfl:=elems_same hel;rw[hel]at he;simp only[]at he;have hcond:(ys≠[]->roomy ys.length=true/\get h1 (4*(nx+2))=none)/\r=(if ys.isEmpty then .iv (.nsl e) else .own (4*(nx+2)) 0 ys.length 0)/\hp'=(if ys.isEmpty then h1 else Arx.set h1 (4*(nx+2)) (.buf 0 e ys)):=by
  cases ys with
  |nil=>
   simp only[Option.some.injEq,Prod.mk.injEq]at he;obtain⟨rfl,rfl, -⟩:=he;exact⟨λh=>absurd rfl h,rfl,rfl⟩
  |cons y ys=>
   simp only[]at he;split at he
   ·rename_i hk;simp only[Bool.and_eq_true,Option.isNone_iff_eq_none]at hk;simp only[Option.some.injEq,Prod.mk.injEq]at he;obtain⟨rfl,rfl, -⟩:=he;exact⟨λ_=>hk,rfl,rfl⟩
   ·cases he
 obtain⟨hroom,rfl,rfl⟩:=hcond;obtain⟨cv,hcv⟩:∃cv,cargs=#[cv]:=by
  have:=hRL.1;simp only[List.length_cons,List.length_nil,Nat.zero_add,Array.length_toList]at this;obtain⟨l⟩:=cargs
  match l,this with
  |[v],_=>exact⟨v,rfl⟩
 subst hcv;have hR0:RA ν g0 cv x:=hRL.2 0 _ _ rfl rfl;refine calls_of_wp hfn hb ?_;have m0:Sim ν k0 fn.ntmps g0 { tmps:=#[cv]++Array.replicate (fn.ntmps - 1) undef,defers:=[] } ⟨[(0,x)],h1,nx⟩:=by
  refine⟨hh,r0,λt x' ht=>?_,by simp;omega,rfl⟩;simp only[fr_cons,fr_nil]at ht;split at ht
  ·rename_i h0;subst h0;simp only[Option.some.injEq]at ht;subst ht;exact⟨cv,by simp[Array.getElem?_append],hR0⟩
  ·cases ht
 unfold cClone at hc;split at hc
 case h_2=>cases hc
 rename_i i1 o1 i2 o2 i3 o3 i4 o4;simp only[Bool.and_eq_true]at hc;obtain⟨⟨⟨hc1,hc2⟩,hc3⟩,hc4⟩:=hc;split at hc2
 case h_2=>cases hc2
 rename_i oa ob hl;simp only[Bool.and_eq_true]at hc2;obtain⟨hoa,hob⟩:=hc2;simp only[cNilQ,Bool.and_eq_true,beq_iff_eq]at hob;obtain⟨⟨⟨hbd,hbn⟩,hbg⟩,hbo⟩:=hob;have hbg':ob.guard=none:=by
  split at hbg
  ·assumption
  ·cases hbg
 split at hbo
 case h_2=>cases hbo
 rename_i t yt hbop;obtain⟨el,ti,hut, -, -⟩:=sliceB_spec hbo;refine wp_seq (rgn_wp noCall_sound noX_sound noX_more hmix hc1 (ev_cp1 e x h1 nx) m0 λg1 a1 m1 hm1=>?_);refine wp_seq (wp_seq (wp_region_list ?_));rw[hl];refine wpList_step λK hK=>step_wp (slot:=0) (s1:=⟨[(0,x),(3,x)],h1,nx+1⟩) noCall_sound noX_sound hoa m1 rfl λg2 a2 m2 hm2=>hK _ _ ?_
 refine wpList_step λK2 hK2=>?_
 simp only[Region.wanted,hbg',if_true];obtain⟨v3,hv3,hR3⟩:=m2.f 3 x rfl;have hev:a2.eval (.tmp 3)=v3:=by simp[Act.eval,Array.getD,(Array.getElem?_eq_some_iff.1 hv3).1,(Array.getElem?_eq_some_iff.1 hv3).2]
 obtain⟨aa,cap,hvs,hnil⟩:∃aa cap,v3 = .slice aa ys.length cap/\(aa=none->ys=[]):=by
  obtain⟨-,news,⟨aa,cap,h1,h2⟩, -⟩:=elems_ok m2.r (by rw[m2.h];exact hel) hR3;refine⟨aa,cap,h1,λha=>?_⟩;rcases h2 with h2 | ⟨b,off,h2, -⟩
  ·exact List.eq_nil_of_length_eq_zero h2
  ·rw[ha]at h2;cases h2
 subst hvs;have hrun:(execOp a2.eval ob).run P g2.w = .ok (.value (.bool aa.isNone)) g2.w:=by
  have hg:eqGuard .eql t (.tmp 3) (.const (.slice none 0 0)) (.slice aa ys.length cap) (.slice none 0 0)=pure ():=rfl;have:=Lib.run_eql_slice_nil g2.w t el aa ys.length cap 0 0 hut;simp only[execOp,hbop,hev,show a2.eval (.const (.slice none 0 0)) = .slice none 0 0 from rfl,hg];simp only[Sem.run_bind,Sem.run_pure,Result.andThen_ok,this]
 unfold Oper.wp;rw[hrun,Oper.upon_value];refine hK2 _ _ (wpList_nil ?_);have m3:=m2.put (nx':=nx+1) (d:=some 4) (v:=.bool aa.isNone) (y:=.iv (.bool aa.isNone)) (λt ht=>by cases ht;simpa using hbn) m2.h m2.r (.refl ν g2) (.iv (.bool _));rw[<-hbd]at m3;simp only[Exit.then];have hcond:(a2.put ob.dst (.bool aa.isNone)).eval (.tmp 4) = .bool aa.isNone:=by
  have:=eval_ok (ν:=ν) (x:=.tmp 4) (y:=.t 4) m3.f (by rfl);have hev4:ev (putD [(0,x),(3,x)] ob.dst (.iv (.bool aa.isNone))) (.t 4) = .iv (.bool aa.isNone):=by rw[hbd];rfl
  rw[hev4]at this;generalize(a2.put ob.dst (.bool aa.isNone)).eval (.tmp 4)=u at this;cases this with
  |iv h=>cases h;rfl
 refine wp_cond hcond ?_;have fin:∀(g':Gh) (a':Act) (nx:Nat) (y:AV) (h2:Hp),Sim ν k0 fn.ntmps g' a' ⟨[(2,y)],h2,nx⟩->Mono ν g0 g'->
   a'.defers=[]/\∃v,(results fn a'.tmps).run P g'.w = .ok v g'.w/\∃u g'',Ending.returned v = .returned u/\g''.w=g'.w/\g''.h=h2/\Rel ν k0 g''/\Mono ν g0 g''/\RA ν g'' u y:=by
  intro g' a' nx y h2 m' hm;obtain⟨q0,v,q1,q6⟩:=resAll_ok (y:=y) (h':=g'.h) m'.r m'.f hres (by simp) rfl;exact⟨m'.d,v,q1,v,g',rfl,rfl,m'.h,m'.r,hm,q6⟩
 have keep0:∀t x',get ([(0,x)]:Fr) t=some x'->get (putD [(0,x),(3,x)] ob.dst (.iv (.bool aa.isNone))) t=some x':=by
  intro t x' ht;simp only[fr_cons,fr_nil]at ht;split at ht
  ·rename_i h0;subst h0;rw[hbd];exact ht
  ·cases ht
 cases aa with
 |none=>
  obtain rfl:=hnil rfl;simp only[Option.isNone_none,if_true]at m3 ⊢;refine wp_seq (rgn_wp noCall_sound noX_sound noX_more hmix hc3 (ev_cp3 e [(0,x)] h1 nx) (m3.nx keep0 rfl nx) λg4 a4 m4 hm4=>wp_ret ?_);exact fin g4 a4 _ _ _ m4 ((hm1.trans hm2).trans hm4)
 |some ad=>
  simp only[Option.isNone_some,Bool.false_eq_true,if_false]at m3 ⊢;refine wp_skip ?_;simp only[Exit.then];refine wp_seq (rgn_wp noCall_sound noX_sound noX_more hmix hc4 (ev_cp4 (nx:=nx) hel hroom) (m3.nx keep0 rfl nx) λg4 a4 m4 hm4=>wp_ret ?_);exact fin g4 a4 _ _ _ m4 ((hm1.trans hm2).trans hm4)
theorem clone_more (e:Nat):PrimMore (Prim.clone e):=by
 intro c1 cx hx args h nx r h' nx' he;unfold Prim.clone at he ⊢;split at he
 case h_2=>cases he
 rename_i x;cases hel:(elems e x).run h with
 |none=>rw[hel]at he;cases he
 |some p=>
  obtain⟨ys,h1⟩:=p;obtain rfl:=elems_same hel;rw[hel]at he;simp only[]at he ⊢;cases ys with
  |nil=>
   simp only[Option.some.injEq,Prod.mk.injEq]at he;obtain⟨rfl,rfl,rfl⟩:=he;refine⟨λ_ h=>h,λqs hq=>?_⟩;rw[(M.more (NR.elems_ _ _) hel hq).1]
  |cons y ys=>
   simp only[]at he;split at he
   case isFalse=>cases he
   rename_i hk;simp only[Option.some.injEq,Prod.mk.injEq]at he;obtain⟨rfl,rfl,rfl⟩:=he;simp only[Bool.and_eq_true,Option.isNone_iff_eq_none]at hk;refine⟨λn hn=>hn.set,λqs hq=>?_⟩;have hq1:Off qs h1:=hq.back λn hn=>hn.set
   have hne:∀p ∈ qs,p.1≠4*(nx+2):=hq.not On.same;rw[(M.more (NR.elems_ _ _) hel hq1).1];simp only[];rw[if_pos (by simp only[Bool.and_eq_true,Option.isNone_iff_eq_none];exact⟨hk.1,by rw[app_get hne];exact hk.2⟩),app_set _ hne]
end
open Go.ChangeMaps (setBlock)
def Has (a:Act) (n:Nat) (v:Value):Prop:=a.tmps[n]?=some v
theorem Has.eval {a:Act} {n:Nat} {v:Value} (h:Has a n v):a.eval (.tmp n)=v:=by
 have:=Array.getElem?_eq_some_iff.1 h;simp[Act.eval,Array.getD,this.1,this.2]
theorem Has.ne {a:Act} {n d:Nat} {u v:Value} (h:Has a n v) (hne:d≠n):Has (a.put (some d) u) n v:=by
 unfold Has at *;simp only[Act.put];rw[Array.getElem?_setIfInBounds_ne hne];exact h
theorem Has.new {a:Act} {d:Nat} {u:Value} (h:d<a.tmps.size):Has (a.put (some d) u) d u:=by
 unfold Has;simp[Act.put,h]
section
variable {ν:Nat->Nat} {P:Program} {k:Cx} {g:Gh}
def cloneB (P:Program) (ν:Nat->Nat) (fn:Func) (e:Nat):Bool:=(match fn.body with | some c=>cClone P ν fn.ntmps c e&&cRess P fn.results.toList [.t 2] | none=>false)&&!(fn.name=="runtime.NumGoroutine")
theorem tie_clone (hmix:P.follows .mixedOrders=true) {f k' e:Nat} {ir:IFn} {fn:Func} (hk:P.funcs[k']?=some fn) (hν:ν f=k') (hp:ir.prim=some (Prim.clone e)) (h:cloneB P ν fn e=true):TieAt P ν f ir:=by
 simp only[cloneB,Bool.and_eq_true,Bool.not_eq_true']at h;obtain⟨h1,h2⟩:=h;split at h1
 ·rename_i c hc;simp only[Bool.and_eq_true]at h1;rw[<-hν]at hk;exact .inr ⟨_,hp,λc1 cx _ _ args hp nx r hp' nx' he=>⟨⟨fn,hk,by simp[hc],h2⟩,clone_ok hk hc hmix h1.1 h1.2 he⟩,clone_more e⟩
 ·cases h1
end
end Arx
namespace Arx
open Go Go.RowKit Go.WideShapes Arb
inductive Sh where
 |bool
 |int (k:IntKind)
 |str
 |sl (es:List Sh)
 |ex
 deriving Inhabited
def shExpr:List Sh:=[.int .i64,.int .i64,.bool,.sl [.int .i64,.int .i64],.bool,.sl [.str],.ex]
mutual
inductive Fit:Sh->IV->Prop
 |bool (b:Bool):Fit .bool (.bool b)
 |int (k:IntKind) (n:Int) (h:(Lit.int k n).wf=true):Fit (.int k) (.int k n)
 |str (s:ByteArray) (h:s.size<=maxLen):Fit .str (.str s)
 |sl (es:List Sh) (rows:List (List IV)) (h:rows.length<=maxLen) (hr:∀r ∈ rows,FitL es r):Fit (.sl es) (.sl es.length rows)
 |ex (rows:List (List IV)) (h:rows.length<=maxLen) (hr:∀r ∈ rows,FitL shExpr r):Fit .ex (.sl 7 rows)
inductive FitL:List Sh->List IV->Prop
 |nil:FitL [] []
 |cons {s:Sh} {ss:List Sh} {x:IV} {xs:List IV} (h:Fit s x) (hs:FitL ss xs):FitL (s::ss) (x::xs)
end
theorem FitL.append:∀{ss ts:List Sh} {xs ys:List IV},FitL ss xs->FitL ts ys->FitL (ss++ts) (xs++ys)
 |[],_,[],_,_,h=>h
 |_::_,_,_::_,_,.cons h hs,h'=>.cons h (FitL.append hs h')
def fieldsB (P:Program) (r:TypeId->List Sh->Bool):Nat->List Field->List Sh->Bool
 |_,[],ss=>ss.isEmpty
 |off,f::fs,ss=>f.offset==off&&Nat.ble (P.cellsOf f.type) ss.length&&r f.type (ss.take (P.cellsOf f.type))&&fieldsB P r (off+P.cellsOf f.type) fs (ss.drop (P.cellsOf f.type))
def timesB (r:List Sh->Bool) (c:Nat):Nat->List Sh->Bool
 |0,ss=>ss.isEmpty
 |n+1,ss=>Nat.ble c ss.length&&r (ss.take c)&&timesB r c n (ss.drop c)
def shB (P:Program) (eT:TypeId):Nat->TypeId->List Sh->Bool
 |0,_,_=>false
 |d+1,t,ss=>match P.underlying t with
  |some .bool=>(match ss with | [.bool]=>true | _=>false)
  |some (.int k)=>(match ss with | [.int k']=>k==k' | _=>false)
  |some .string=>(match ss with | [.str]=>true | _=>false)
  |some (.slice e)=>(match ss with | [.sl es]=>P.cellsOf e==es.length&&Nat.blt 0 es.length&&shB P eT d e es | [.ex]=>e==eT | _=>false)
  |some (.struct fs)=>P.cellsOf t==ss.length&&fieldsB P (shB P eT d) 0 fs.toList ss
  |some (.array n e)=>P.cellsOf t==ss.length&&timesB (shB P eT d e) (P.cellsOf e) n ss
  |_=>false
section
variable {H:Type} {enc:TypeId×Value->H} {P:Program} {w:World} {base:Nat} {spare:Nat->Bool} {held:Bool} {ν:Nat->Nat}
def Old (w:World) (b:Nat):Prop:=b<w.heap.size
def Reads (ν:Nat->Nat) (w:World) (ss:List Sh) (cs:List Value) (xs:List IV):Prop:=
 xs.length=cs.length/\FitL ss xs/\∀(j:Nat) (v:Value) (x:IV),cs[j]?=some v->xs[j]?=some x->RI ν (Old w) w v x
theorem Reads.one {s:Sh} {v:Value} {x:IV} (h:Fit s x) (hr:RI ν (Old w) w v x):Reads ν w [s] [v] [x]:=
 ⟨rfl,.cons h .nil,λj v' x' h1 h2=>by cases j with | zero=>simp at h1 h2;subst h1 h2;exact hr | succ j=>simp at h1⟩
theorem Reads.append {ss ts:List Sh} {cs ds:List Value} {xs ys:List IV} (h:Reads ν w ss cs xs) (h':Reads ν w ts ds ys):Reads ν w (ss++ts) (cs++ds) (xs++ys):=by
 refine⟨by simp[h.1,h'.1],h.2.1.append h'.2.1,λj v x h1 h2=>?_⟩;by_cases hj:j<cs.length
 ·rw[List.getElem?_append_left hj]at h1;rw[List.getElem?_append_left (by rw[h.1];exact hj)]at h2;exact h.2.2 j v x h1 h2
 ·rw[List.getElem?_append_right (by omega)]at h1;rw[List.getElem?_append_right (by rw[h.1];omega),h.1]at h2;exact h'.2.2 _ v x h1 h2
def ReadsAt (eT:TypeId) (ν:Nat->Nat) (enc:TypeId×Value->H) (P:Program) (w:World) (base:Nat) (spare:Nat->Bool) (held:Bool) (d n:Nat):Prop:=
 ∀(t:TypeId) (ss:List Sh) (cs:List Value) (x:DataW H×List MemPlace),shB P eT d t ss=true->DataW.trod enc P w base spare held n t cs=some x->∃xs,Reads ν w ss cs xs
theorem fields_read {eT:TypeId} {d n:Nat} (ih:ReadsAt eT ν enc P w base spare held d n) {all:List Value}:∀(fs:List Field) (off:Nat) (ss:List Sh) (cs:List Value),fieldsB P (shB P eT d) off fs ss=true->cs=all.drop off->cs.length=ss.length->
  (∀f ∈ fs,∃y,DataW.trod enc P w base spare held n f.type ((all.drop f.offset).take (P.cellsOf f.type))=some y)->∃xs,Reads ν w ss cs xs
 |[],off,ss,cs,h,hcs,hl,_=>by
  simp only[fieldsB,List.isEmpty_iff]at h;subst h;have:cs=[]:=List.eq_nil_of_length_eq_zero (by simpa using hl);subst this;exact⟨[],rfl,.nil,λj v x h=>by simp at h⟩
 |f::fs,off,ss,cs,h,hcs,hl,hf=>by
  simp only[fieldsB,Bool.and_eq_true,beq_iff_eq,Nat.ble_eq]at h;obtain⟨⟨⟨h1,h2⟩,h3⟩,h4⟩:=h;obtain⟨y,hy⟩:=hf f (List.mem_cons_self ..);rw[h1,<-hcs]at hy;obtain⟨xs,hx⟩:=ih _ _ _ _ h3 hy;obtain⟨ys,hy⟩:=fields_read ih (all:=all) fs _ _ (cs.drop (P.cellsOf f.type)) h4 (by rw[hcs,List.drop_drop]) (by simp[hl]) λg hg=>hf g (List.mem_cons_of_mem _ hg)
  refine⟨xs++ys,?_⟩;have:=hx.append hy
  rwa [List.take_append_drop,List.take_append_drop]at this
theorem times_read {eT:TypeId} {d n:Nat} (ih:ReadsAt eT ν enc P w base spare held d n) {e:TypeId} {all:List Value}:∀(m i:Nat) (ss:List Sh) (cs:List Value),timesB (shB P eT d e) (P.cellsOf e) m ss=true->cs=all.drop (i*P.cellsOf e)->cs.length=ss.length->
  (∀j,i<=j->j<i+m->∃y,DataW.trod enc P w base spare held n e ((all.drop (j*P.cellsOf e)).take (P.cellsOf e))=some y)->∃xs,Reads ν w ss cs xs
 |0,i,ss,cs,h,hcs,hl,_=>by
  simp only[timesB,List.isEmpty_iff]at h;subst h;have:cs=[]:=List.eq_nil_of_length_eq_zero (by simpa using hl);subst this;exact⟨[],rfl,.nil,λj v x h=>by simp at h⟩
 |m+1,i,ss,cs,h,hcs,hl,hf=>by
  simp only[timesB,Bool.and_eq_true,Nat.ble_eq]at h;obtain⟨⟨h2,h3⟩,h4⟩:=h;obtain⟨y,hy⟩:=hf i (Nat.le_refl _) (by omega);rw[<-hcs]at hy;obtain⟨xs,hx⟩:=ih _ _ _ _ h3 hy;obtain⟨ys,hy⟩:=times_read ih (all:=all) m (i+1) _ (cs.drop (P.cellsOf e)) h4 (by rw[hcs,List.drop_drop,Nat.add_mul,Nat.one_mul]) (by simp[hl]) λj hj hj'=>hf j (by omega) (by omega)
  refine⟨xs++ys,?_⟩;have:=hx.append hy
  rwa [List.take_append_drop,List.take_append_drop]at this
theorem slice_read {n:Nat} {t e:TypeId} {es:List Sh} {cs:List Value} {x:DataW H×List MemPlace} (hu:P.underlying t=some (.slice e)) (hc:P.cellsOf e=es.length) (hpos:0<es.length)
  (hsub:∀m,m<n->∀(ci:List Value) (y:DataW H×List MemPlace),DataW.trod enc P w base spare held m e ci=some y->∃xs,Reads ν w es ci xs) (hx:DataW.trod enc P w base spare held n t cs=some x) :
  ∃(v:Value) (rows:List (List IV)),cs=[v]/\rows.length<=maxLen/\(∀r ∈ rows,FitL es r)/\RI ν (Old w) w v (.sl es.length rows):=by
 rcases DataW.trod_slice hu hx with⟨rfl,_⟩|⟨a,len,cap,elems,rest,m,hfuel,rfl,_,hb,hl,hm,hel,hget,_,_⟩
 ·exact⟨_,[],rfl,by simp,λr h=>(by simp at h),.sl0 _ _ _⟩
 ·by_cases h0:len=0
  ·subst h0;exact⟨_,[],rfl,by simp,λr h=>(by simp at h),.sl0 _ _ _⟩
  ·have each:∀i,i<len->∃(ci:List Value) (xi:List IV),w.cells? base (a.add (i*es.length)) es.length=some ci/\Reads ν w es ci xi:=by
    intro i hi;have:=hget i hi;rw[hc,List.getElem?_eq_getElem (by omega),Option.bind_eq_some_iff]at this;obtain⟨ci,h1,h2⟩:=this;obtain⟨xi,h3⟩:=hsub m (by omega) ci _ h2;exact⟨ci,xi,h1,h3⟩
   have hex:∀i,∃p:List Value×List IV,i<len->w.cells? base (a.add (i*es.length)) es.length=some p.1/\Reads ν w es p.1 p.2:=λi=>by
    by_cases hi:i<len
    ·obtain⟨ci,xi,h1,h2⟩:=each i hi;exact⟨(ci,xi),λ_=>⟨h1,h2⟩⟩
    ·exact⟨([],[]),λh=>absurd h hi⟩
   obtain⟨p,hp⟩:=Classical.axiomOfChoice hex;have hcell:∀i j,i<len->j<es.length->w.cell? (a.add (i*es.length+j))=(p i).1[j]?:=λi j hi hj=>by
    have:=(World.cells?_some (hp i hi).1).2.2 j hj
    rwa [show(a.add (i*es.length)).add j=a.add (i*es.length+j) by simp only[Addr.add];by_cases h1:i*es.length=0<;>by_cases h2:j=0<;>simp[h1,h2,Nat.add_assoc]]at this
   have hlen:∀i,i<len->(p i).1.length=es.length:=λi hi=>(World.cells?_some (hp i hi).1).2.1
   have h00:∃v,w.cell? (a.add 0)=some v:=by
    have:=hcell 0 0 (by omega) hpos;simp only[Nat.zero_mul,Nat.add_zero]at this;exact⟨(p 0).1[0]'(by rw[hlen 0 (by omega)];exact hpos),by rw[this];exact List.getElem?_eq_getElem _⟩
   obtain⟨v0,hv0⟩:=h00;obtain⟨b,off,spot⟩:=a;have hspot:spot=none:=by simpa[Addr.add]using World.cell?_spot hv0
   subst hspot;have hblk:b<w.heap.size:=by
    rcases Nat.lt_or_ge b w.heap.size with h | h
    ·exact h
    ·simp[Addr.add,World.cell?,Array.getElem?_eq_none h]at hv0
   refine⟨_,(List.range len).map λi=>(p i).2,rfl,by simp;omega,λr hr=>?_,
    .sl b off len cap es.length _ (λi j=>((p i).1[j]?).getD undef) hblk (by simp) hl (λc hc=>?_) (λi j c x h1 h2=>?_) λi j c x h1 h2=>?_⟩
   ·simp only[List.mem_map,List.mem_range]at hr;obtain⟨i,hi,rfl⟩:=hr;exact(hp i hi).2.2.1
   ·simp only[List.mem_map,List.mem_range]at hc;obtain⟨i,hi,rfl⟩:=hc;rw[(hp i hi).2.1,hlen i hi]
   ·simp only[List.getElem?_map,Option.map_eq_some_iff]at h1;obtain⟨i',hi',rfl⟩:=h1;have hi:=lt_of_some hi';simp only[List.length_range]at hi;rw[List.getElem?_range hi,Option.some.injEq]at hi';subst hi';have hj:j<es.length:=by have:=lt_of_some h2;rwa [(hp i hi).2.1,hlen i hi]at this
    have:=hcell i j hi hj;rw[Addr.add_lit]at this;rw[show off+i*es.length+j=off+(i*es.length+j) by omega,this,List.getElem?_eq_getElem (by rw[hlen i hi];exact hj)];rfl
   ·simp only[List.getElem?_map,Option.map_eq_some_iff]at h1;obtain⟨i',hi',rfl⟩:=h1;have hi:=lt_of_some hi';simp only[List.length_range]at hi;rw[List.getElem?_range hi,Option.some.injEq]at hi';subst hi';have hj:j<(p i).1.length:=by have:=lt_of_some h2;rwa [(hp i hi).2.1]at this
    refine(hp i hi).2.2.2 j _ x ?_ h2;rw[List.getElem?_eq_getElem hj];rfl
theorem reads_at {eT:TypeId} (hE:shB P eT 9 eT shExpr=true) (hcE:P.cellsOf eT=shExpr.length):∀(n d:Nat),ReadsAt eT ν enc P w base spare held d n:=by
 intro n
 induction n using Nat.strongRecOn with
 |_ n ih=>
  intro d t ss cs x h hx;obtain⟨d,rfl⟩:∃d',d=d'+1:=by
   cases d with
   |zero=>simp[shB]at h
   |succ d=>exact⟨d,rfl⟩
  unfold shB at h;split at h
  ·rename_i hu;split at h
   ·obtain⟨b,rfl,_⟩:=DataW.trod_bool hu hx;exact⟨_,Reads.one (.bool b) (.bool b)⟩
   ·cases h
  ·rename_i k hu;split at h
   ·rename_i k';have:=beq_iff_eq.1 h;subst this;obtain⟨m,rfl,_,hw⟩:=DataW.trod_int hu hx;exact⟨_,Reads.one (.int _ m hw) (.int _ _)⟩
   ·cases h
  ·rename_i hu;split at h
   ·obtain⟨s,rfl,_,hw⟩:=DataW.trod_string hu hx;exact⟨_,Reads.one (.str s hw) (.str s)⟩
   ·cases h
  ·rename_i e hu;split at h
   ·rename_i es;simp only[Bool.and_eq_true,beq_iff_eq,Nat.blt_eq]at h;obtain⟨⟨hc,hpos⟩,hsh⟩:=h;obtain⟨v,rows,rfl,h1,h2,h3⟩:=slice_read hu hc hpos (λm hm ci y hy=>ih m hm d e es ci y hsh hy) hx;exact⟨_,Reads.one (.sl es rows h1 h2) h3⟩
   ·have:=beq_iff_eq.1 h;subst this;obtain⟨v,rows,rfl,h1,h2,h3⟩:=slice_read (es:=shExpr) hu hcE (by decide) (λm hm ci y hy=>ih m hm 9 _ shExpr ci y hE hy) hx;exact⟨_,Reads.one (.ex rows h1 h2) h3⟩
   ·cases h
  ·rename_i fs hu;simp only[Bool.and_eq_true,beq_iff_eq]at h;obtain⟨xs,m,hfuel,_,hlen,hxl,hget⟩:=DataW.trod_struct hu hx;refine fields_read (ih m (by omega) d) (all:=cs) fs.toList 0 ss cs h.2 rfl (by rw[hlen,h.1]) λf hf=>?_
   obtain⟨i,hi⟩:=List.getElem?_of_mem hf;have:=hget i f (by simpa using hi);have hlt:i<xs.length:=by have:=lt_of_some hi;simp at this;omega
   rw[List.getElem?_eq_getElem hlt]at this;exact⟨_,this⟩
  ·rename_i q e hu;simp only[Bool.and_eq_true,beq_iff_eq]at h;obtain⟨xs,m,hfuel,_,hlen,hxl,hget⟩:=DataW.trod_array hu hx;refine times_read (ih m (by omega) d) (all:=cs) q 0 ss cs h.2 (by simp) (by rw[hlen,h.1]) λj _ hj=>?_
   have:=hget j (by omega);rw[List.getElem?_eq_getElem (by omega)]at this;exact⟨_,this⟩
  ·cases h
def ArgIs (agg:Bool) (ss:List Sh) (x:AV):Prop:=∃xs,FitL ss xs/\(if agg then x = .agg (xs.map .iv) else ∃y,xs=[y]/\x = .iv y)
def argB (P:Program) (eT t:TypeId) (agg:Bool) (ss:List Sh):Bool:=shB P eT 9 eT shExpr&&P.cellsOf eT==shExpr.length&&shB P eT 9 t ss&&(match P.underlying t with | some d=>isAggD d==agg | none=>false)
theorem arg_read {r:Reach} {b0:Nat} {eT t:TypeId} {agg:Bool} {ss:List Sh} (ht:argB P eT t agg ss=true) {v:Value} (hval:Value.okWide P w r b0 t v) {d:DataW H} {ps:List MemPlace} (h:DataW.Trod enc P w base spare held t v d ps)
  {g:Gh} (hI:g.I=Old w) (hw:g.w=w):∃x,ArgIs agg ss x/\RA ν g v x:=by
 obtain⟨n,hn⟩:=h;simp only[argB,Bool.and_eq_true,beq_iff_eq]at ht;obtain⟨⟨⟨hE,hcE⟩,hsh⟩,hagg⟩:=ht;obtain⟨xs,hx⟩:=reads_at (ν:=ν) hE hcE n 9 t ss _ _ hsh hn;unfold Value.okWide at hval;split at hagg
 ·rename_i dd hu;rw[beq_iff_eq]at hagg;subst hagg;have hcells:isAggD dd=true->∃cs,v = .agg cs:=by
   intro h;rw[hu]at hval;cases dd<;>simp[isAggD]at h<;>(obtain⟨cs,rfl,_⟩:=hval;exact⟨cs,rfl⟩)
  cases hd:isAggD dd with
  |true=>
   obtain⟨cs,rfl⟩:=hcells hd;refine⟨.agg (xs.map .iv),⟨xs,hx.2.1,by simp⟩,.agg (by have:=hx.1;simp[Value.cells]at this;simp[this]) (λj v hv=>?_) λj v c hv hc=>?_⟩
   ·have hj:j<xs.length:=by have:=(Array.getElem?_eq_some_iff.1 hv).1;have h2:=hx.1;simp[Value.cells]at h2;omega
    exact(hx.2.2 j v _ (by simpa[Value.cells]using hv) (List.getElem?_eq_getElem hj)).one
   ·simp only[List.getElem?_map,Option.map_eq_some_iff]at hc;obtain⟨y,hy,rfl⟩:=hc;refine .iv ?_;rw[hI,hw];exact hx.2.2 j v y (by simpa[Value.cells]using hv) hy
  |false=>
   have h1:v.cells.toList.length=1\/True:=.inr trivial;clear h1;have hone:∃c,v.cells.toList=[c]/\c=v:=by
    cases v<;>first | exact⟨_,rfl,rfl⟩|skip
    ·rename_i cs;exfalso;rw[hu]at hval;cases dd<;>simp[isAggD]at hd<;>simp[Cell.okWide,Cell.ok]at hval
   obtain⟨c,hc,rfl⟩:=hone;rw[hc]at hx;have hxl:=hx.1
   match xs,hxl with
   |[y],_=>
    refine⟨.iv y,⟨[y],hx.2.1,by simp⟩,.iv ?_⟩;rw[hI,hw];exact hx.2.2 0 c y rfl rfl
 ·cases hagg
end
end Arx
namespace Arb
open Go Go.RowKit Go.WideShapes
inductive Sh where
 |bool
 |int (k:IntKind)
 |str
 |sl (es:List Sh)
 deriving Inhabited
mutual
def Fits:Sh->IV->Prop
 |.bool,x=>∃b,x = .bool b
 |.int k,x=>∃n,x = .int k n/\(Lit.int k n).wf=true
 |.str,x=>∃s,x = .str s/\s.size<=maxLen
 |.sl es,x=>∃rows,x = .sl es.length rows/\rows.length<=maxLen/\∀r ∈ rows,FitsL es r
def FitsL:List Sh->List IV->Prop
 |[],[]=>True
 |s::ss,x::xs=>Fits s x/\FitsL ss xs
 |_,_=>False
end
theorem FitsL.append:∀{ss ts:List Sh} {xs ys:List IV},FitsL ss xs->FitsL ts ys->FitsL (ss++ts) (xs++ys)
 |[],_,[],_,_,h=>h
 |_::_,_,_::_,_,h,h'=>⟨h.1,FitsL.append h.2 h'⟩
 |[],_,_::_,_,h,_=>h.elim
 |_::_,_,[],_,h,_=>h.elim
section
variable {H:Type} {enc:TypeId×Value->H} {P:Program} {w:World} {base:Nat} {spare:Nat->Bool} {held:Bool} {ν:Nat->Nat}
def Old (w:World) (b:Nat):Prop:=b<w.heap.size
def Reads (ν:Nat->Nat) (w:World) (ss:List Sh) (cs:List Value) (xs:List IV):Prop:=
 xs.length=cs.length/\FitsL ss xs/\∀(j:Nat) (v:Value) (x:IV),cs[j]?=some v->xs[j]?=some x->RI ν (Old w) w v x
theorem Reads.one {s:Sh} {v:Value} {x:IV} (h:Fits s x) (hr:RI ν (Old w) w v x):Reads ν w [s] [v] [x]:=
 ⟨rfl,⟨h,trivial⟩,λj v' x' h1 h2=>by cases j with | zero=>simp at h1 h2;subst h1 h2;exact hr | succ j=>simp at h1⟩
theorem Reads.append {ss ts:List Sh} {cs ds:List Value} {xs ys:List IV} (h:Reads ν w ss cs xs) (h':Reads ν w ts ds ys):Reads ν w (ss++ts) (cs++ds) (xs++ys):=by
 refine⟨by simp[h.1,h'.1],h.2.1.append h'.2.1,λj v x h1 h2=>?_⟩;by_cases hj:j<cs.length
 ·rw[List.getElem?_append_left hj]at h1;rw[List.getElem?_append_left (by rw[h.1];exact hj)]at h2;exact h.2.2 j v x h1 h2
 ·rw[List.getElem?_append_right (by omega)]at h1;rw[List.getElem?_append_right (by rw[h.1];omega),h.1]at h2;exact h'.2.2 _ v x h1 h2
end
end Arb
namespace Arb
open Go Go.RowKit
section
variable {ν:Nat->Nat} {P:Program}
def TieAt (P:Program) (ν:Nat->Nat) (f:Nat) (ir:IFn):Prop:=∃fn c,P.funcs[ν f]?=some fn/\fn.body=some c/\(fn.name=="runtime.NumGoroutine")=false/\cFn P ν fn c ir=true/\SortOK P ν f ir
theorem tie_nil:Tie P ν (get []):=λf ir h=>by simp[get]at h
theorem tie_cons {f:Nat} {ir:IFn} {L:List (Nat×IFn)} (h:TieAt P ν f ir) (hL:Tie P ν (get L)):Tie P ν (get ((f,ir)::L)):=by
 intro f' ir' hg;simp only[get]at hg;split at hg
 ·rename_i h0;subst h0;simp only[Option.some.injEq]at hg;subst hg;exact h
 ·exact hL f' ir' hg
def soB (ir:IFn):Bool:=match ir.cl with | none=>true | some p=>Nat.blt p.1 1000000
theorem soB_ok {f:Nat} {ir:IFn} (h:soB ir=true):SortOK P ν f ir:=by
 unfold soB at h;unfold SortOK;split
 ·trivial
 ·rename_i p hp;rw[hp]at h;exact .inl h
def twoB (P:Program) (ν:Nat->Nat) (fn:Func) (ir:IFn):Bool:=(match fn.body with | some c=>cFn P ν fn c ir | none=>false)&&!(fn.name=="runtime.NumGoroutine")
def oneB (P:Program) (ν:Nat->Nat) (fn:Func) (ir:IFn):Bool:=twoB P ν fn ir&&soB ir
theorem tie_sort {f k:Nat} {ir:IFn} {fn:Func} (hk:P.funcs[k]?=some fn) (hν:ν f=k) (h:twoB P ν fn ir=true) (hs:SortOK P ν f ir):TieAt P ν f ir:=by
 simp only[twoB,Bool.and_eq_true,Bool.not_eq_true']at h;obtain⟨h1,h2⟩:=h;split at h1
 ·rename_i c hc;exact⟨fn,c,by rw[hν];exact hk,hc,h2,h1,hs⟩
 ·cases h1
theorem tie_at {f k:Nat} {ir:IFn} {fn:Func} (hk:P.funcs[k]?=some fn) (hν:ν f=k) (h:oneB P ν fn ir=true):TieAt P ν f ir:=by
 simp only[oneB,Bool.and_eq_true]at h;exact tie_sort hk hν h.1 (soB_ok h.2)
end
structure Rowed (w w':World) (b e:Nat) (rows:List (List Value)):Prop where
 size:w.heap.size<=w'.heap.size
 os:w'.os=w.os
 tape:w'.tape=w.tape
 output:w'.output=w.output
 old:∀x,x<w.heap.size->x≠b->w'.heap[x]?=w.heap[x]?
 cell:∀(i j:Nat) (r:List Value) (v:Value),rows[i]?=some r->r[j]?=some v->w'.cell? ⟨b,i*e+j,none⟩=some v
 some:∀o,(w.cell? ⟨b,o,none⟩).isSome=true->(w'.cell? ⟨b,o,none⟩).isSome=true
 soft:∀o,w'.frozen? ⟨b,o,none⟩=w.frozen? ⟨b,o,none⟩
def vR (p:Int×Int):List Value:=[.int .i64 p.1,.int .i64 p.2]
def vT (s:ByteArray):List Value:=[.string s]
def SortsR (P:Program) (kf kc:Nat):Prop:=
 ∀(b cap:Nat) (l:List (Int×Int)) (w:World),(∀(i j:Nat) (p:Int×Int) (v:Value),l[i]?=some p->(vR p)[j]?=some v->w.cell? ⟨b,i*2+j,none⟩=some v)->(∀o,w.frozen? ⟨b,o,none⟩=false)->b<w.heap.size->12<l.length->
  l.length<=1073741824->Calls P kf #[.slice (some ⟨b,0,none⟩) l.length cap,.func (.func kc) #[] #[]] w λe w'=>e = .returned (.tuple #[])/\Rowed w w' b 2 ((sortR l).map vR)
def SortsT (P:Program) (kf:Nat):Prop:=
 ∀(b cap:Nat) (l:List ByteArray) (w:World),(∀(i j:Nat) (p:ByteArray) (v:Value),l[i]?=some p->(vT p)[j]?=some v->w.cell? ⟨b,i*1+j,none⟩=some v)->(∀o,w.frozen? ⟨b,o,none⟩=false)->b<w.heap.size->12<l.length->
  l.length<=1073741824->Calls P kf #[.slice (some ⟨b,0,none⟩) l.length cap] w λe w'=>e = .returned (.tuple #[])/\Rowed w w' b 1 ((sortT l).map vT)
theorem swoLo:Sort.SWO ltLo where
 irrefl x:=by unfold ltLo;simp
 trans x y z h1 h2:=by unfold ltLo at *;simp at *;omega
 ntrans x y z h1 h2:=by unfold ltLo at *;simp at *;omega
theorem sortR_all (l:List (Int×Int)):(sortR l).Perm l/\(sortR l).Pairwise λa b=>ltLo b a=false:=by
 have h:=Sort.pdq_sorts ltLo swoLo l.toArray 0 l.length (Lib.bitLen l.length) true true (Nat.zero_le _) (by simp) (Or.inl rfl);unfold sortR;generalize Sort.pdq ltLo l.toArray 0 l.length (Lib.bitLen l.length) true true=d at h ⊢;obtain⟨⟨h1, -,h3⟩,h2⟩:=h;simp only[List.size_toArray]at h1;have e1:d.extract 0 l.length=d:=by rw[<-h1];simp
 have e2:l.toArray.extract 0 l.length=l.toArray:=by simp
 rw[e1,e2]at h3;refine⟨by simpa using h3,?_⟩;rw[List.pairwise_iff_getElem];intro i j hi hj hij;have hi':i<d.size:=by simpa using hi
 have hj':j<d.size:=by simpa using hj
 have:=h2 i j (Nat.zero_le _) hij (by omega);rw[getElem!_pos d i hi',getElem!_pos d j hj']at this;simpa using this
theorem sortR_len (l:List (Int×Int)):(sortR l).length=l.length:=(sortR_all l).1.length_eq
theorem sortT_perm (l:List ByteArray):(sortT l).Perm l:=by
 unfold sortT;have h:=(List.mergeSort_perm (l.map (·.data.toList)) λx y=>decide (x<=y)).map λb=>(⟨b.toArray⟩:ByteArray)
 have e:(l.map (·.data.toList)).map (λb=>(⟨b.toArray⟩:ByteArray))=l:=by
  rw[List.map_map]
  conv=>rhs;rw[<-List.map_id l]
  exact List.map_congr_left λx _=>by simp
 rw[e]at h;exact h
theorem sortT_len (l:List ByteArray):(sortT l).length=l.length:=(sortT_perm l).length_eq
theorem allSome_map {α β:Type} {f:α->Option β} {u:β->α} (hu:∀x y,f x=some y->x=u y):∀{l:List α} {r:List β},allSome f l=some r->l=r.map u
 |[],r,h=>by simp only[allSome,Option.some.injEq]at h;subst h;rfl
 |x::l,r,h=>by
  simp only[allSome]at h;split at h
  ·rename_i y r' h1 h2;simp only[Option.some.injEq]at h;subst h;rw[List.map_cons,<-hu _ _ h1,<-allSome_map hu h2]
  ·cases h
theorem rowR_un {x:List IV} {y:Int×Int} (h:rowR x=some y):x=unR y:=by
 unfold rowR at h;split at h
 ·simp only[Option.some.injEq]at h;subst h;rfl
 ·cases h
theorem rowT_un {x:List IV} {y:ByteArray} (h:rowT x=some y):x=unT y:=by
 unfold rowT at h;split at h
 ·simp only[Option.some.injEq]at h;subst h;rfl
 ·cases h
section
variable {ν:Nat->Nat} {P:Program}
theorem rowed_rel {k:Cx} {g:Gh} (r:Rel ν k g) {id v e b:Nat} {es es':List (List IV)} {vs:List (List Value)} {w':World} (hg:get g.h id=some (.buf v e es)) (hφ:g.φ id=some b) (hl:es'.length=es.length) (hc:∀c ∈ es',c.length=e)
  (hw:Rowed g.w w' b e vs) (hv:∀(i j:Nat) (c:List IV) (x:IV),es'[i]?=some c->c[j]?=some x->∃rr u,vs[i]?=some rr/\rr[j]?=some u/\∀I w,RI ν I w u x) :
  Rel ν k ⟨g.I,updφ g.φ id (g.φ id),w',set g.h id (.buf v e es')⟩/\Mono ν g ⟨g.I,updφ g.φ id (g.φ id),w',set g.h id (.buf v e es')⟩:=by
 rcases r.ob id _ hg with⟨h1,_⟩|⟨b',h1,hnI,hsoft,hrow⟩
 ·rw[hφ]at h1;cases h1
 rw[hφ]at h1;cases h1;refine r.turn (ob:=.buf v e es') (p:=g.φ id) (w':=w') (I':=g.I) hg (λx hx=>by rw[hφ]at hx;cases hx;exact hnI) hw.size hw.os hw.tape hw.output (λx hx hne=>hw.old x hx λe=>hne (by rw[e];exact hφ)) (λ_ h=>h) (λ_ h=>.inl h) (.inl rfl)
  (λu o n ver h=>?_) (λu ver i j h=>?_) λhRI hm=>.inr ⟨b,(updφ_same _ _ _).trans hφ,hnI,⟨Nat.lt_of_lt_of_le hsoft.1 hw.size,λo=>by rw[hw.soft];exact hsoft.2 o⟩,hc,λi j c x h1 h2=>?_⟩
 ·unfold OwnAt at h ⊢;rw[hg]at h;simp only[get_set_same,updφ_same]at h ⊢;refine⟨h.1,λhv'=>?_⟩;have:=h.2 hv';rw[hφ]at this ⊢;obtain⟨x,cap,q1,q2,q3,q4,q5⟩:=this;exact⟨x,cap,q1,by rw[hl];exact q2,q3,q4,λhx c hc=>hw.some _ (q5 hx c hc)⟩
 ·unfold RefAt at h ⊢;rw[hg]at h;simp only[get_set_same,updφ_same]at h ⊢;exact h
 ·obtain⟨rr,u,q1,q2,q3⟩:=hv i j c x h1 h2;exact⟨u,hw.cell i j rr u q1 q2,q3 _ _⟩
theorem vR_ri {p:Int×Int} {j:Nat} {x:IV} (h:(unR p)[j]?=some x):∃u,(vR p)[j]?=some u/\∀I w,RI ν I w u x:=by
 match j with
 |0=>cases h;exact⟨_,rfl,λ_ _=>.int _ _⟩
 |1=>cases h;exact⟨_,rfl,λ_ _=>.int _ _⟩
 |_+2=>simp[unR]at h
theorem vT_ri {p:ByteArray} {j:Nat} {x:IV} (h:(unT p)[j]?=some x):∃u,(vT p)[j]?=some u/\∀I w,RI ν I w u x:=by
 match j with
 |0=>cases h;exact⟨_,rfl,λ_ _=>.str _⟩
 |_+1=>simp[unT]at h
theorem ri_vR {p:Int×Int} {j:Nat} {v:Value} (h:(vR p)[j]?=some v):∃x,(unR p)[j]?=some x/\∀I w u,RI ν I w u x->u=v:=by
 match j with
 |0=>cases h;exact⟨_,rfl,λ_ _ _ h=>by cases h;rfl⟩
 |1=>cases h;exact⟨_,rfl,λ_ _ _ h=>by cases h;rfl⟩
 |_+2=>simp[vR]at h
theorem ri_vT {p:ByteArray} {j:Nat} {v:Value} (h:(vT p)[j]?=some v):∃x,(unT p)[j]?=some x/\∀I w u,RI ν I w u x->u=v:=by
 match j with
 |0=>cases h;exact⟨_,rfl,λ_ _ _ h=>by cases h;rfl⟩
 |_+1=>simp[vT]at h
theorem own_whole {k:Cx} {g:Gh} (r:Rel ν k g) {id n ver e:Nat} {es:List (List IV)} (hg:get g.h id=some (.buf ver e es)) (hn:many n es.length=true) {u:Value} (hv:RA ν g u (.own id 0 n ver)) :
  ∃b cap,u = .slice (some ⟨b,0,none⟩) es.length cap/\g.φ id=some b/\¬g.I b/\Soft g.w b/\Row ν g.I g.w b e es/\12<es.length/\es.length<=1073741824:=by
 simp only[many,Bool.and_eq_true,beq_iff_eq,roomy]at hn;obtain⟨⟨rfl,h12⟩,hmax⟩:=hn;have h12':12<es.length:=by simpa using h12
 cases hv with
 |own h1 ho=>
  unfold OwnAt at ho;rw[hg]at ho;have hs:=ho.2 rfl;rcases r.ob id _ hg with⟨_,h2⟩|⟨b,hb1,hnI,hsoft,hrow⟩
  ·subst h2;simp at h12'
  ·rw[hb1]at hs;obtain⟨x,cap,rfl,q2,q3,q4,q5⟩:=hs;have hx:x=0:=by
    rcases q4 with h | h
    ·simpa using h
    ·omega
   subst hx;exact⟨b,cap,rfl,hb1,hnI,hsoft,hrow,h12',by simpa using hmax⟩
theorem sortR_ok {f c:Nat} (H:SortsR P (ν f) (ν c)):∀args hp r hp',sortM (2000000+c) args hp=some (r,hp')->CallOK ν P f args hp r hp':=by
 intro args hp r hp' e k0 g0 cargs hh hkw hki r0 hRL;unfold sortM at e;split at e
 ·split at e
  ·split at e
   ·rename_i hq;simp only[Bool.and_eq_true,beq_iff_eq]at hq;omega
   ·cases e
  ·cases e
 ·rename_i id n ver c';split at e
  case h_2=>cases e
  rename_i v e' es hgp;split at e
  case isFalse=>cases e
  rename_i hq;simp only[Bool.and_eq_true,beq_iff_eq]at hq;obtain⟨⟨⟨hc',rfl⟩,rfl⟩,hmany⟩:=hq;obtain rfl:c=c':=by omega
  split at e
  case h_2=>cases e
  rename_i l hl;simp only[Option.some.injEq,Prod.mk.injEq]at e;obtain⟨rfl,rfl⟩:=e;obtain rfl:=allSome_map (u:=unR) (λ_ _=>rowR_un) hl;obtain⟨cu,fv,hca⟩:∃a b,cargs=#[a,b]:=by
   have:=hRL.1;simp only[List.length_cons,List.length_nil,Nat.zero_add,Array.length_toList]at this;obtain⟨l⟩:=cargs
   match l,this with
   |[a,b],_=>exact⟨a,b,rfl⟩
  subst hca;have h0:RA ν g0 cu (.own id 0 n v):=hRL.2 0 _ _ rfl rfl;have h1:RA ν g0 fv (.iv (.fn c [])):=hRL.2 1 _ _ rfl rfl;have hg0:get g0.h id=some (.buf v 2 (l.map unR)):=by rw[hh];exact hgp
  obtain⟨b,cap,rfl,hφ,hnI,hsoft,hrow,h12,hmax⟩:=own_whole r0 hg0 hmany h0;simp only[List.length_map]at h12 hmax;have hfv:fv = .func (.func (ν c)) #[] #[]:=by
   cases h1 with
   |iv h=>
    cases h with
    |fn f caps cs hn hr=>
     have:caps=#[]:=Array.eq_empty_of_size_eq_zero (by simpa using hn);rw[this]
  subst hfv;have hcells:∀(i j:Nat) (p:Int×Int) (v:Value),l[i]?=some p->(vR p)[j]?=some v->g0.w.cell? ⟨b,i*2+j,none⟩=some v:=by
   intro i j p u h1 h2;obtain⟨x,hx,hxu⟩:=ri_vR (ν:=ν) h2;obtain⟨u',hu',hr⟩:=hrow.2 i j (unR p) x (by simp[h1]) hx;rw[<-hxu _ _ _ hr];exact hu'
  have hcall:=H b cap l g0.w hcells hsoft.2 hsoft.1 h12 hmax;rw[List.length_map];refine hcall.mono ?_;rintro en w' ⟨rfl,hw⟩;have hrel:=rowed_rel (es':=(sortR l).map unR) r0 hg0 hφ (by simp[sortR_len]) (λc hc=>by
   obtain⟨p, -,rfl⟩:=List.mem_map.1 hc;rfl) hw (λi j c x h1 h2=>by
   simp only[List.getElem?_map,Option.map_eq_some_iff]at h1;obtain⟨p,hp,rfl⟩:=h1;obtain⟨u,hu,hr⟩:=vR_ri (ν:=ν) h2;exact⟨vR p,u,by simp[hp],hu,hr⟩)
  refine⟨_,_,rfl,rfl,by rw[<-hh],hrel.1,hrel.2.low,.tup rfl λj v c h=>by simp at h⟩
 ·cases e
theorem sortT_ok {f:Nat} (H:SortsT P (ν f)):∀args hp r hp',sortM 1000000 args hp=some (r,hp')->CallOK ν P f args hp r hp':=by
 intro args hp r hp' e k0 g0 cargs hh hkw hki r0 hRL;unfold sortM at e;split at e
 ·rename_i id n ver;split at e
  case h_2=>cases e
  rename_i v e' es hgp;split at e
  case isFalse=>cases e
  rename_i hq;simp only[Bool.and_eq_true,beq_iff_eq]at hq;obtain⟨⟨⟨-,rfl⟩,rfl⟩,hmany⟩:=hq;split at e
  case h_2=>cases e
  rename_i l hl;simp only[Option.some.injEq,Prod.mk.injEq]at e;obtain⟨rfl,rfl⟩:=e;obtain rfl:=allSome_map (u:=unT) (λ_ _=>rowT_un) hl;obtain⟨cu,hca⟩:∃a,cargs=#[a]:=by
   have:=hRL.1;simp only[List.length_cons,List.length_nil,Nat.zero_add,Array.length_toList]at this;obtain⟨l⟩:=cargs
   match l,this with
   |[a],_=>exact⟨a,rfl⟩
  subst hca;have h0:RA ν g0 cu (.own id 0 n v):=hRL.2 0 _ _ rfl rfl;have hg0:get g0.h id=some (.buf v 1 (l.map unT)):=by rw[hh];exact hgp
  obtain⟨b,cap,rfl,hφ,hnI,hsoft,hrow,h12,hmax⟩:=own_whole r0 hg0 hmany h0;simp only[List.length_map]at h12 hmax;have hcells:∀(i j:Nat) (p:ByteArray) (v:Value),l[i]?=some p->(vT p)[j]?=some v->g0.w.cell? ⟨b,i*1+j,none⟩=some v:=by
   intro i j p u h1 h2;obtain⟨x,hx,hxu⟩:=ri_vT (ν:=ν) h2;obtain⟨u',hu',hr⟩:=hrow.2 i j (unT p) x (by simp[h1]) hx;rw[<-hxu _ _ _ hr];exact hu'
  have hcall:=H b cap l g0.w hcells hsoft.2 hsoft.1 h12 hmax;rw[List.length_map];refine hcall.mono ?_;rintro en w' ⟨rfl,hw⟩;have hrel:=rowed_rel (es':=(sortT l).map unT) r0 hg0 hφ (by simp[sortT_len]) (λc hc=>by
   obtain⟨p, -,rfl⟩:=List.mem_map.1 hc;rfl) hw (λi j c x h1 h2=>by
   simp only[List.getElem?_map,Option.map_eq_some_iff]at h1;obtain⟨p,hp,rfl⟩:=h1;obtain⟨u,hu,hr⟩:=vT_ri (ν:=ν) h2;exact⟨vT p,u,by simp[hp],hu,hr⟩)
  refine⟨_,_,rfl,rfl,by rw[<-hh],hrel.1,hrel.2.low,.tup rfl λj v c h=>by simp at h⟩
 ·rename_i id n ver c';split at e
  case h_2=>cases e
  split at e
  ·rename_i hq;simp only[Bool.and_eq_true,beq_iff_eq]at hq;omega
  ·cases e
 ·cases e
end
end Arb
namespace Arb
open Go

structure S where
 a:Bool
 i:List (Int×Int)
 c:Bool
 s:List ByteArray
def rng (p:Int×Int):List IV:=[.int .i64 p.1,.int .i64 p.2]
def st1 (s:ByteArray):List IV:=[.str s]
def S.enc (x:S):List IV:=[.bool x.a,.sl 2 (x.i.map rng),.bool x.c,.sl 1 (x.s.map st1)]
def S.av (x:S):AV:=.agg [.iv (.bool x.a),.iv (.sl 2 (x.i.map rng)),.iv (.bool x.c),.iv (.sl 1 (x.s.map st1))]
structure B where
 s0:S
 s1:S
 s2:S
 s3:S
def B.enc (b:B):List IV:=b.s0.enc++(b.s1.enc++(b.s2.enc++b.s3.enc))
def filt (l:List B):AV:=.iv (.sl 16 (l.map B.enc))
def sets (l:List S):AV:=.iv (.sl 4 (l.map S.enc))
theorem ba_beq (x y:ByteArray):(x==y)=decide (x=y):=by
 cases x with
 |mk d=>
  cases y with
  |mk e=>
   show(d==e)=_
   rw[Bool.eq_iff_iff];simp
theorem wrap_succ {k N:Nat} (h:k<N) (hN:N<=maxLen):IntKind.i64.wrap ((k:Int)+1)=(k:Int)+1:=IntWalk.i64_in _ (by unfold maxLen at hN;omega)
theorem take_succ_all {α:Type} {l:List α} {i:Nat} {x:α} {f:α->Bool} (hx:l[i]?=some x):(l.take (i+1)).all f=((l.take i).all f&&f x):=by
 rw[List.take_add_one,hx];simp
theorem all_false {α:Type} {l:List α} {i:Nat} {x:α} {f:α->Bool} (hx:l[i]?=some x) (h:f x=false):l.all f=false:=by
 rw[List.all_eq_false];exact⟨x,List.mem_of_getElem? hx,by simp[h]⟩
theorem nrm_iv (n0:Nat) (h:Hp) (x:IV):nrm n0 h 8 (.iv x) = .iv x:=rfl
theorem nrm_ivs (n0:Nat) (h:Hp):∀l:List IV,(l.map AV.iv).map (nrm n0 h 8)=l.map .iv
 |[]=>rfl
 |x::r=>by rw[List.map_cons,List.map_cons,nrm_iv,nrm_ivs n0 h r]
theorem nrm_ivs7 (n0:Nat) (h:Hp):∀l:List IV,(l.map AV.iv).map (nrm n0 h 7)=l.map .iv
 |[]=>rfl
 |x::r=>by rw[List.map_cons,List.map_cons,show nrm n0 h 7 (.iv x) = .iv x from rfl,nrm_ivs7 n0 h r]
theorem nrm_agg (n0:Nat) (h:Hp) (l:List IV):nrm n0 h 8 (.agg (l.map .iv)) = .agg (l.map .iv):=by
 rw[show nrm n0 h 8 (.agg (l.map .iv)) = .agg ((l.map AV.iv).map (nrm n0 h 7)) from rfl,nrm_ivs7]
theorem WprangeZ {prog:Nat->Option IFn} {keep:List Nat} {b:IC} {s:St} {Q:Ex->St->Prop} (N:Nat) (σ:Nat->St) (G:Nat->Prop) (h0:({ s with fr:=keepFr keep s.fr }:St)=σ 0) (g0:G 0)
  (round:∀i,i<N->G i->Wp prog b (σ i) (Ex.then (λs2=>again keep s.nx s2=σ (i+1)/\G (i+1)) Q)) (stop:G N->Wp prog b (σ N) (Ex.then (λ_=>False) Q)):Wp prog (.loop keep b) s Q:=by
 refine WploopZ (λm s1=>∃i,i+m=N/\s1=σ i/\G i) (m:=N) ⟨0,by omega,h0,g0⟩ ?_;rintro m s1 ⟨i,hi,rfl,hg⟩;cases m with
 |zero=>
  obtain rfl:i=N:=by omega
  refine(stop hg).mono λe s2 h=>?_
  cases e with
  |norm=>exact h.elim
  |exit j=>exact h
  |ret=>exact h
 |succ m=>
  refine(round i (by omega) hg).mono λe s2 h=>?_
  cases e with
  |norm=>exact⟨m,by omega,i+1,by omega,h.1,h.2⟩
  |exit j=>exact h
  |ret=>exact h
end Arb
namespace Arb
open Go
attribute [local simp] evalRgn Option.map_some evalOps step wants osem Mrun_bindZ M.mapL M.run M.ok M.fresh M.write M.look M.lift putD Arb.set ev Arb.get keepFr bin intBin strBin mk params cellsM load obRead fadr fld isl iarr xarr idx len valid slc bound store splice nilc un eqs eq0 evalFeet footOf M.foot orderOk apartAll apart1 clash meets callM fcallM callee fz1 fzC fz flat flat1 flat0 flatI Option.bind_some putAll M.bind
section
variable {prog:Nat->Option IFn}
theorem take_succ_eq {α:Type} {a b:List α} {i:Nat} {x y:α} (hx:a[i]?=some x) (hy:b[i]?=some y) (h:a.take i=b.take i) (e:x=y):a.take (i+1)=b.take (i+1):=by
 rw[List.take_add_one,List.take_add_one,hx,hy,h,e]
theorem p_eqR (h:prog 32=some F32) (a b:List (Int×Int)) (hl:a.length<=maxLen):Ans prog 32 [.iv (.sl 2 (a.map rng)),.iv (.sl 2 (b.map rng))] (.bI (decide (a=b))):=by
 refine Ans.of h rfl rfl (WpsgZ ?_);refine ab (Wps0Z (s':=⟨[(0,.iv (.sl 2 (a.map rng))),(1,.iv (.sl 2 (b.map rng))),(10,.bI (a.length != b.length))],[],1384⟩) (by
  have:((a.length:Int) != b.length)=(a.length != b.length):=by rw[Bool.eq_iff_iff];simp;omega
  simp[this]) ?_)
 refine WpcondZ rfl ?_;cases hne:a.length != b.length with
 |true=>
  refine WpsgZ ?_;refine WpretZ ?_;have:decide (a=b)=false:=by simp at hne ⊢;exact λe=>hne (by rw[e])
  rw[this];rfl
 |false=>
  have heq:a.length=b.length:=by simpa using hne
  refine WpskipZ (ab (WpsgZ ?_));refine WpblockZ ?_;refine WprangeZ a.length (λi=>⟨[(0,.iv (.sl 2 (a.map rng))),(1,.iv (.sl 2 (b.map rng))),(12,.nI a.length),(13,.nI i)],[],1576⟩) (λi=>a.take i=b.take i) (by simp[keepFr,get]) (by simp) ?_ ?_
  ·intro i hi hg;obtain⟨x,hx⟩:∃x,a[i]?=some x:=⟨_,List.getElem?_eq_getElem hi⟩;obtain⟨y,hy⟩:∃y,b[i]?=some y:=⟨_,List.getElem?_eq_getElem (by omega)⟩;refine Wps0Z (by simp[hi];rfl) ?_;refine ab (WpcondZ rfl (WpskipZ (ab (WpblockZ (WpsgZ ?_)))));refine Wps0Z (s':=⟨[(0,.iv (.sl 2 (a.map rng))),(1,.iv (.sl 2 (b.map rng))),(12,.nI a.length),(13,.nI i),(24,.bI (!(x.1==y.1&&x.2==y.2)))],[],2344⟩) (by
    simp[hx,hy,rng]) ?_
   refine WpcondZ rfl ?_;cases hb:(x.1==y.1&&x.2==y.2)with
   |true=>
    refine WpskipZ ?_;refine WprgZ ?_;refine⟨by simp[again,keepFr,get,nrm,wrap_succ hi hl],take_succ_eq hx hy hg ?_⟩;simp at hb;exact Prod.ext hb.1 hb.2
   |false=>
    refine WpsgZ ?_;refine WpretZ ?_;have:decide (a=b)=false:=by
     simp at hb ⊢;intro e;rw[e,hy]at hx;cases hx;exact hb rfl rfl
    rw[this];rfl
  ·intro hg;refine WpsgZ ?_;refine ab (WpcondZ rfl (WpexitZ ?_));simp only[Ex.then,Ex.inBlock,if_true];refine WpsgZ ?_;refine WpretZ ?_;have:a=b:=by rw[List.take_length,heq,List.take_length]at hg;exact hg
   subst this;simp[FinS,resAll,resM,outA,ev,get,F32,fz1,fzC,fz,M.bind,M.run,shut,fzA]
theorem p_eqT (h:prog 33=some F33) (a b:List ByteArray) (hl:a.length<=maxLen):Ans prog 33 [.iv (.sl 1 (a.map st1)),.iv (.sl 1 (b.map st1))] (.bI (decide (a=b))):=by
 refine Ans.of h rfl rfl (WpsgZ ?_);refine ab (Wps0Z (s':=⟨[(0,.iv (.sl 1 (a.map st1))),(1,.iv (.sl 1 (b.map st1))),(10,.bI (a.length != b.length))],[],1384⟩) (by
  have:((a.length:Int) != b.length)=(a.length != b.length):=by rw[Bool.eq_iff_iff];simp;omega
  simp[this]) ?_)
 refine WpcondZ rfl ?_;cases hne:a.length != b.length with
 |true=>
  refine WpsgZ ?_;refine WpretZ ?_;have:decide (a=b)=false:=by simp at hne ⊢;exact λe=>hne (by rw[e])
  rw[this];rfl
 |false=>
  have heq:a.length=b.length:=by simpa using hne
  refine WpskipZ (ab (WpsgZ ?_));refine WpblockZ ?_;refine WprangeZ a.length (λi=>⟨[(0,.iv (.sl 1 (a.map st1))),(1,.iv (.sl 1 (b.map st1))),(12,.nI a.length),(13,.nI i)],[],1576⟩) (λi=>a.take i=b.take i) (by simp[keepFr,get]) (by simp) ?_ ?_
  ·intro i hi hg;obtain⟨x,hx⟩:∃x,a[i]?=some x:=⟨_,List.getElem?_eq_getElem hi⟩;obtain⟨y,hy⟩:∃y,b[i]?=some y:=⟨_,List.getElem?_eq_getElem (by omega)⟩;refine Wps0Z (by simp[hi];rfl) ?_;refine ab (WpcondZ rfl (WpskipZ (ab (WpblockZ (WpsgZ ?_)))));refine Wps0Z (s':=⟨[(0,.iv (.sl 1 (a.map st1))),(1,.iv (.sl 1 (b.map st1))),(12,.nI a.length),(13,.nI i),(24,.bI (!(x==y)))],[],2344⟩) (by
    simp[hx,hy,st1]) ?_
   refine WpcondZ rfl ?_;cases hb:(x==y)with
   |true=>
    refine WpskipZ ?_;refine WprgZ ?_;refine⟨by simp[again,keepFr,get,nrm,wrap_succ hi hl],take_succ_eq hx hy hg ?_⟩;rw[ba_beq,decide_eq_true_eq]at hb;exact hb
   |false=>
    refine WpsgZ ?_;refine WpretZ ?_;have:decide (a=b)=false:=by
     rw[decide_eq_false_iff_not];intro e;rw[e,hy]at hx;cases hx;simp[ba_beq]at hb
    rw[this];rfl
  ·intro hg;refine WpsgZ ?_;refine ab (WpcondZ rfl (WpexitZ ?_));simp only[Ex.then,Ex.inBlock,if_true];refine WpsgZ ?_;refine WpretZ ?_;have:a=b:=by rw[List.take_length,heq,List.take_length]at hg;exact hg
   subst this;simp[FinS,resAll,resM,outA,ev,get,F33,fz1,fzC,fz,M.bind,M.run,shut,fzA]
def sameS (x y:S):Bool:=x.a==y.a&&(x.c==y.c&&(decide (x.i=y.i)&&decide (x.s=y.s)))
theorem p_sameS (h32:prog 32=some F32) (h33:prog 33=some F33) (h:prog 17=some F17) (x y:S) (hi:x.i.length<=maxLen) (hs:x.s.length<=maxLen):Ans prog 17 [x.av,y.av] (.bI (sameS x y)):=by
 obtain⟨K1,h1⟩:=p_eqR h32 x.i y.i hi;obtain⟨K2,h2⟩:=p_eqT h33 x.s y.s hs;refine Ans.of h rfl rfl (Wps0Z (by simp[S.av];rfl) ?_);refine WpskZ (K:=max K1 K2) (s':=⟨[(4,.bI (sameS x y))],[(1000,.cells [.bI x.a,.iv (.sl 2 (x.i.map rng)),.bI x.c,.iv (.sl 1 (x.s.map st1))]),(1064,.cells [.bI y.a,.iv (.sl 2 (y.i.map rng)),.bI y.c,.iv (.sl 1 (y.s.map st1))])],2920⟩) (λn hn=>by
  have e1:=h1 n (by omega);have e2:=h2 n (by omega);cases b1:x.a==y.a<;>cases b2:x.c==y.c<;>cases b3:decide (x.i=y.i)<;>simp only[b3]at e1<;>simp[b1,b2,sameS,b3,e1,e2]) ?_
 exact WpretZ rfl
def smallS (x:S):Bool:=decide (x.i.length<=6)&&decide (x.s.length<=6)
theorem p_smallS (h:prog 24=some F24) (x:S):Ans prog 24 [x.av] (.bI (smallS x)):=by
 refine Ans.of h rfl rfl (Wps0Z (by simp[S.av];rfl) ?_);refine Wps0Z (s':=⟨[(2,.bI (smallS x))],[(1000,.cells [.bI x.a,.iv (.sl 2 (x.i.map rng)),.bI x.c,.iv (.sl 1 (x.s.map st1))])],1832⟩) (by
  have e1:decide ((x.i.length:Int)<=6)=decide (x.i.length<=6):=decide_eq_decide.2 (by omega);have e2:decide ((x.s.length:Int)<=6)=decide (x.s.length<=6):=decide_eq_decide.2 (by omega);cases b1:decide (x.i.length<=6)<;>simp[smallS,e1,e2,b1]) ?_
 exact WpretZ rfl
def emptyS (x:S):Bool:=!x.a&&(x.i.length==0&&(!x.c&&x.s.length==0))
theorem p_emptyS (h:prog 66=some F66) (x:S):Ans prog 66 [x.av] (.bI (emptyS x)):=by
 refine Ans.of h rfl rfl (Wps0Z (by simp[S.av];rfl) ?_);refine Wps0Z (s':=⟨[(2,.bI (emptyS x))],[(1000,.cells [.bI x.a,.iv (.sl 2 (x.i.map rng)),.bI x.c,.iv (.sl 1 (x.s.map st1))])],2472⟩) (by
  have e1:((x.i.length:Int)==0)=(x.i.length==0):=by rw[Bool.eq_iff_iff];simp
  have e2:((x.s.length:Int)==0)=(x.s.length==0):=by rw[Bool.eq_iff_iff];simp
  cases b0:x.a<;>cases b1:x.i.length==0<;>cases b2:x.c<;>simp[emptyS,e1,e2,b0,b1,b2]) ?_
 exact WpretZ rfl
end
end Arb

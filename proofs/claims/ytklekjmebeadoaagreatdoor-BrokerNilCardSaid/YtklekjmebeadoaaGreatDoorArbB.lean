/-
  A part of the proof: two abstract machines for the code, and what the program does on them. No condition.
-/
import Derived.Test.YtklekjmebeadoaaGreatDoorArbA
set_option linter.all false
namespace al
open Go Go.RowKit
def jA (ν:Nat->Nat) (I:Nat->Prop) (w:World) (v:Value) (x:AV):Prop:=RA ν ⟨I,λ_=>none,w,[]⟩ v x
theorem jA.up {ν:Nat->Nat} {I:Nat->Prop} {w:World} {v:Value} {x:AV} (h:jA ν I w v x) {g:Gh} (hR:∀v x,RI ν I w v x->RI ν g.I g.w v x):RA ν g v x:=
 RA.mono (g:=⟨I,λ_=>none,w,[]⟩) hR (λv id o n ai ho=>by simp[aH,get]at ho) (λv id ai i j hr=>by simp[aI,get]at hr) h
theorem jA.mono {ν:Nat->Nat} {I J:Nat->Prop} {w w':World} {v:Value} {x:AV} (h:jA ν I w v x) (hR:∀v x,RI ν I w v x->RI ν J w' v x):jA ν J w' v x:=h.up hR
theorem uv {w:Bool}:∀(cs:List AV) (h h':Hp) (l:List AV),(M.aN (gG w) cs).run h=some (l,h')->∃xs,(M.aN (fz w 8) cs).run h=some (xs,h')/\l=xs.map .iv:=by
 intro cs
 induction cs with
 |nil=>
  intro h h' l e;obtain⟨rfl,rfl⟩:=b9 e;exact⟨[],rfl,rfl⟩
 |cons c cs ih=>
  intro h h' l e;obtain⟨y,h1,zs,e1,e2,rfl⟩:=bU e;obtain⟨x,h2,e3,e4⟩:=ag e1;obtain⟨rfl,rfl⟩:=af e4;obtain⟨xs,e5,rfl⟩:=ih _ _ _ e2;refine⟨x::xs,?_,rfl⟩;simp only[M.aN,bc,e3,e5,M.run]
theorem mq {ν:Nat->Nat} {I:Nat->Prop} {w:World} {vs:Array Value} {xs:List IV} (hn:vs.size=xs.length) (hr:∀(j:Nat) (v:Value) (x:IV),vs[j]?=some v->xs[j]?=some x->RI ν I w v x) :
  jA ν I w (.agg vs) (.agg (xs.map .iv)):=by
 refine .agg (by simpa using hn) (λj v hv=>?_) λj v c hv hc=>?_
 ·have hj:=(Array.getElem?_eq_some_iff.1 hv).1;exact(hr j v _ hv (List.getElem?_eq_getElem (by omega))).one
 ·simp only[List.getElem?_map,Option.map_eq_some_iff]at hc;obtain⟨x,hx,rfl⟩:=hc;exact .iv (hr j v x hv hx)
section
variable {ν:Nat->Nat} {P:Program} {k:Cx} {g:Gh}
theorem lA (r:Rel ν k g) {a y:AV} {h':Hp} (e:(eu true a).run g.h=some (y,h')) {v:Value} (hv:RA ν g v a):∃I',cg ν k g h' I'/\jA ν I' g.w v y:=by
 have plain:∀{a:AV},(gG true a).run g.h=some (y,h')->RA ν g v a->∃I',cg ν k g h' I'/\jA ν I' g.w v y:=by
  intro a e hv;obtain⟨x,h1,e1,e2⟩:=ag e;obtain⟨rfl,rfl⟩:=af e2;obtain⟨I',f,hR⟩:=iU ν 8 k g a x _ e1 r v hv;exact⟨I',f,.iv hR⟩
 cases a with
 |agg cs=>
  obtain⟨l,h1,e1,e2⟩:=ag e;obtain⟨rfl,rfl⟩:=af e2;obtain⟨xs,e3,rfl⟩:=uv cs _ _ _ e1;obtain⟨vs,rfl⟩:=hv.dN;obtain⟨V,hV⟩:=pick λj c hc=>hv.dO j c hc
  obtain⟨I',f,hl,hx⟩:=(iU ν 8).list cs k g xs _ e3 r V λj c hc=>(hV j c hc).2
  refine⟨I',f,mq ?_ λj v x h1 h2=>?_⟩
  ·cases hv with
   |agg hn _ _=>omega
  ·have aV:=aA h2;have:=(hV j _ (List.getElem?_eq_getElem (show j<cs.length by omega))).1;rw[h1]at this;cases this;exact hx j x h2
 |undef=>exact plain e hv
 |iv x=>exact plain e hv
 |aR vs=>exact plain e hv
 |own id o n v=>exact plain e hv
 |ref id v i j=>exact plain e hv
 |bJ f ay=>exact plain e hv
theorem z6 (r:Rel ν k g) {a y:AV} {h':Hp} (e:(eu false a).run g.h=some (y,h')) {v:Value} (hv:RA ν g v a) :
  h'=g.h/\∀J:Nat->Prop,(∀b,g.I b->J b)->(∀id o b,get g.h id=some o->g.φ id=some b->J b)->jA ν J g.w v y:=by
 have plain:∀{a:AV},(gG false a).run g.h=some (y,h')->RA ν g v a->h'=g.h/\∀J:Nat->Prop,(∀b,g.I b->J b)->(∀id o b,get g.h id=some o->g.φ id=some b->J b)->jA ν J g.w v y:=by
  intro a e hv;obtain⟨x,h1,e1,e2⟩:=ag e;obtain⟨rfl,rfl⟩:=af e2;obtain⟨rfl,hR⟩:=lp ν 8 k g a x _ e1 r v hv;exact⟨rfl,λJ h1 h2=>.iv (hR J h1 h2)⟩
 cases a with
 |agg cs=>
  obtain⟨l,h1,e1,e2⟩:=ag e;obtain⟨rfl,rfl⟩:=af e2;obtain⟨xs,e3,rfl⟩:=uv cs _ _ _ e1;obtain⟨vs,rfl⟩:=hv.dN;obtain⟨V,hV⟩:=pick λj c hc=>hv.dO j c hc
  obtain⟨rfl,hl,hx⟩:=(lp ν 8).list k g r cs xs _ e3 V λj c hc=>(hV j c hc).2
  refine⟨rfl,λJ h1 h2=>mq ?_ λj v x h3 h4=>?_⟩
  ·cases hv with
   |agg hn _ _=>omega
  ·have aV:=aA h4;have:=(hV j _ (List.getElem?_eq_getElem (show j<cs.length by omega))).1;rw[h3]at this;cases this;exact hx J h1 h2 j x h4
 |undef=>exact plain e hv
 |iv x=>exact plain e hv
 |aR vs=>exact plain e hv
 |own id o n v=>exact plain e hv
 |ref id v i j=>exact plain e hv
 |bJ f ay=>exact plain e hv
def RL (ν:Nat->Nat) (g:Gh) (vs:List Value) (xs:List AV):Prop:=vs.length=xs.length/\∀(j:Nat) (v:Value) (x:AV),vs[j]?=some v->xs[j]?=some x->RA ν g v x
theorem RL.nil:RL ν g [] []:=⟨rfl,λj v x h=>by simp at h⟩
theorem RL.cons {v:Value} {x:AV} {vs:List Value} {xs:List AV} (h:RA ν g v x) (hl:RL ν g vs xs):RL ν g (v::vs) (x::xs):=
 ⟨by simp[hl.1],λj v' x' h1 h2=>by
  cases j with
  |zero=>simp at h1 h2;subst h1 h2;exact h
  |succ j=>exact hl.2 j v' x' (by simpa using h1) (by simpa using h2)⟩
theorem RL.tail {v:Value} {x:AV} {vs:List Value} {xs:List AV} (h:RL ν g (v::vs) (x::xs)):RA ν g v x/\RL ν g vs xs:=
 ⟨h.2 0 v x rfl rfl,by have:=h.1;simpa using this,λj v' x' h1 h2=>h.2 (j+1) v' x' (by simpa using h1) (by simpa using h2)⟩
theorem RL.mono {g':Gh} {vs:List Value} {xs:List AV} (h:RL ν g vs xs) (hm:∀v x,RA ν g v x->RA ν g' v x):RL ν g' vs xs:=⟨h.1,λj v x h1 h2=>hm _ _ (h.2 j v x h1 h2)⟩
theorem RL.append {vs us:List Value} {xs ys:List AV} (h:RL ν g vs xs) (h':RL ν g us ys):RL ν g (vs++us) (xs++ys):=
 ⟨by simp[h.1,h'.1],λj v x h1 h2=>by
  rw[List.getElem?_append]at h1 h2;rw[<-h.1]at h2;split at h1
  ·rename_i hj;rw[if_pos hj]at h2;exact h.2 j v x h1 h2
  ·rename_i hj;rw[if_neg hj]at h2;exact h'.2 _ v x h1 h2⟩
theorem kF:∀(U:List AV) (k:Cx) (g:Gh) (ys:List AV) (h':Hp),(M.aN (eu true) U).run g.h=some (ys,h')->Rel ν k g->∀vs:List Value,RL ν g vs U->
  ∃I',cg ν k g h' I'/\RL ν ⟨I',λ_=>none,g.w,[]⟩ vs ys:=by
 intro U
 induction U with
 |nil=>
  intro k g ys h' e r vs hv;obtain⟨rfl,rfl⟩:=b9 e;have:vs=[]:=List.eq_nil_of_length_eq_zero hv.1;subst this;exact⟨g.I,.refl r,.nil⟩
 |cons a U ih=>
  intro k g ys h' e r vs hv;cases vs with
  |nil=>have:=hv.1;simp at this
  |cons v vs=>
   obtain⟨y,h1,zs,e1,e2,rfl⟩:=bU e;obtain⟨I1,f1,hR⟩:=lA r e1 hv.tail.1;obtain⟨I2,f2,dn⟩:=ih k _ zs h' e2 f1.rel vs (hv.tail.2.mono f1.mono);exact⟨I2,f1.trans f2,.cons (hR.mono λv x h=>h.mono f2.sub λ_ _ _ _ h=>h) dn⟩
theorem oI (r:Rel ν k g):∀(U:List AV) (ys:List AV) (h':Hp),(M.aN (eu false) U).run g.h=some (ys,h')->∀vs:List Value,RL ν g vs U->
  h'=g.h/\∀J:Nat->Prop,(∀b,g.I b->J b)->(∀id o b,get g.h id=some o->g.φ id=some b->J b)->RL ν ⟨J,λ_=>none,g.w,[]⟩ vs ys:=by
 intro U
 induction U with
 |nil=>
  intro ys h' e vs hv;obtain⟨rfl,rfl⟩:=b9 e;have:vs=[]:=List.eq_nil_of_length_eq_zero hv.1;subst this;exact⟨rfl,λ_ _ _=>.nil⟩
 |cons a U ih=>
  intro ys h' e vs hv;cases vs with
  |nil=>have:=hv.1;simp at this
  |cons v vs=>
   obtain⟨y,h1,zs,e1,e2,rfl⟩:=bU e;obtain⟨rfl,hR⟩:=z6 r e1 hv.tail.1;obtain⟨rfl,dn⟩:=ih zs h' e2 vs hv.tail.2;exact⟨rfl,λJ h1 h2=>.cons (hR J h1 h2) (dn J h1 h2)⟩
theorem yz {x:IV} (hx:nD x=true) {v:Value} {I J:Nat->Prop} {w w':World} (h:RI ν I w v x):RI ν J w' v x:=by
 cases h with
 |bool b=>exact .bool b
 |int kk n=>exact .int kk n
 |str s=>exact .str s
 |bh=>exact .bh
 |_=>simp[nD]at hx
theorem tc {x:AV} (hx:ki x=true) {v:Value} {g':Gh} (h:RA ν g v x):RA ν g' v x:=by
 cases h with
 |iv h=>exact .iv (yz hx h)
 |_=>simp[ki]at hx
theorem oJ {x:AV} (hx:jr x=true) {v:Value} {g':Gh} (h:RA ν g v x):RA ν g' v x:=by
 cases h with
 |agg hn h1 hr=>
  simp only[jr,List.all_eq_true]at hx;exact .agg hn h1 λj v c hv hc=>tc (hx c (List.mem_of_getElem? hc)) (hr j v c hv hc)
 |iv h=>exact tc (by simpa[jr]using hx) (.iv h)
 |_=>simp[jr,ki]at hx
theorem qw {x:AV} (hx:flat x=true) {v:Value} {g':Gh} (h:RA ν g v x):RA ν g' v x:=by
 cases h with
 |aR hn hr=>
  simp only[flat,List.all_eq_true]at hx;exact .aR hn λj v c hv hc=>oJ (hx c (List.mem_of_getElem? hc)) (hr j v c hv hc)
 |agg hn h1 hr=>exact oJ (by simpa[flat]using hx) (.agg hn h1 hr)
 |iv h=>exact oJ (by simpa[flat]using hx) (.iv h)
 |_=>simp[flat,jr,ki]at hx
theorem uw:∀(vs:List AV) (k:Cx) (g:Gh) (ys:List AV) (h':Hp),(M.aN (eu true) vs).run g.h=some (ys,h')->Rel ν k g->∀us:Array Value,RA ν g (.tuple us) (.aR vs)->
  ∃I',cg ν k g h' I'/\jA ν I' g.w (.tuple us) (.aR ys):=by
 intro vs k g ys h' e r us hu;have dn:RL ν g us.toList vs:=by
  cases hu with
  |aR hn hr=>exact⟨by simpa using hn,λj v x h1 h2=>hr j v x (by simpa using h1) h2⟩
 obtain⟨I',f,hR⟩:=kF vs k g ys h' e r us.toList dn;exact⟨I',f,.aR (by have:=hR.1;simpa using this) λj v c h1 h2=>hR.2 j v c (by simpa using h1) h2⟩
theorem pG (r:Rel ν k g) {p y:AV} (e:shut (p,g.h)=some y) {v:Value} (hv:RA ν g v p):∃I' h',cg ν k g h' I'/\jA ν I' g.w v y:=by
 unfold shut at e;simp only[Option.map_eq_some_iff]at e;obtain⟨⟨y',h'⟩,e,rfl⟩:=e;cases p with
 |aR vs=>
  obtain⟨l,h1,e1,e2⟩:=ag e;obtain⟨rfl,rfl⟩:=af e2;obtain⟨us,rfl⟩:∃us,v = .tuple us:=by cases hv;exact⟨_,rfl⟩
  obtain⟨I',f,hR⟩:=uw vs k g l _ e1 r us hv;exact⟨I',_,f,hR⟩
 |undef=>obtain⟨I',f',hR⟩:=lA (a:=.undef) r e hv;exact⟨I',_,f',hR⟩
 |iv x=>obtain⟨I',f',hR⟩:=lA (a:=(.iv x)) r e hv;exact⟨I',_,f',hR⟩
 |agg cs=>obtain⟨I',f',hR⟩:=lA (a:=(.agg cs)) r e hv;exact⟨I',_,f',hR⟩
 |own id o n v=>obtain⟨I',f',hR⟩:=lA (a:=(.own id o n v)) r e hv;exact⟨I',_,f',hR⟩
 |ref id v i j=>obtain⟨I',f',hR⟩:=lA (a:=(.ref id v i j)) r e hv;exact⟨I',_,f',hR⟩
 |bJ f ay=>obtain⟨I',f',hR⟩:=lA (a:=(.bJ f ay)) r e hv;exact⟨I',_,f',hR⟩
structure gj (g g':Gh):Prop where
 own:∀v id o n ai,id<1000->v.oneCell'=true->aH g v id o n ai->aH g' v id o n ai
 ref:∀v id ai i j,id<1000->v.oneCell'=true->aI g v id ai i j->aI g' v id ai i j
theorem gj.refl (g:Gh):gj g g:=⟨λ_ _ _ _ _ _ _ h=>h,λ_ _ _ _ _ _ _ h=>h⟩
theorem gj.trans {a b c:Gh} (h:gj a b) (h':gj b c):gj a c:=⟨λ_ _ _ _ _ hi h1 x=>h'.own _ _ _ _ _ hi h1 (h.own _ _ _ _ _ hi h1 x),λ_ _ _ _ _ hi h1 x=>h'.ref _ _ _ _ _ hi h1 (h.ref _ _ _ _ _ hi h1 x)⟩
theorem aX.low {g g':Gh} (h:aX ν g g'):gj g g':=
 ⟨λv id o n ai _ h1 x=>by cases h v _ (.own h1 x)with | own _ y=>exact y,λv id ai i j _ h1 x=>by cases h v _ (.ref h1 x)with | ref _ y=>exact y⟩
theorem RA.Bn {g g':Gh} (hI:∀v x,RI ν g.I g.w v x->RI ν g'.I g'.w v x) (ho:∀v id o n ai,v.oneCell'=true->aH g v id o n ai->aH g' v id o n ai)
  (hr:∀v id ai i j,v.oneCell'=true->aI g v id ai i j->aI g' v id ai i j) {v:Value} {x:AV} (h:RA ν g v x):RA ν g' v x:=by
 induction h with
 |undef v=>exact .undef v
 |iv h=>exact .iv (hI _ _ h)
 |agg hn h1 _ ih=>exact .agg hn h1 ih
 |aR hn _ ih=>exact .aR hn ih
 |own h1 h=>exact .own h1 (ho _ _ _ _ _ h1 h)
 |ref h1 h=>exact .ref h1 (hr _ _ _ _ _ h1 h)
 |bJ hn _ ih=>exact .bJ hn ih
def gW (ν:Nat->Nat) (P:Program) (f:Nat) (args:List AV) (hp:Hp) (r:AV) (bN:Hp):Prop:=
 ∀(k0:Cx) (g0:Gh) (aT:Array Value),g0.h=hp->k0.w=g0.w->k0.I=g0.I->Rel ν k0 g0->RL ν g0 aT.toList args->
  Calls P (ν f) aT g0.w λe w'=>∃v g',e = .returned v/\g'.w=w'/\g'.h=bN/\Rel ν k0 g'/\gj g0 g'/\RA ν g' v r
def bp (ν:Nat->Nat) (P:Program) (call:Nat->List AV->Hp->Option (AV×Hp)):Prop:=
 ∀f args hp r bN,call f args hp=some (r,bN)->(∃fn,P.funcs[ν f]?=some fn/\fn.body.isSome=true/\(fn.name=="runtime.NumGoroutine")=false)/\gW ν P f args hp r bN
theorem eN {x:AV} {q:Nat×List AV} (e:callee x=some q) {v:Value} (hv:RA ν g v x):∃ay,v = .func (.func (ν q.1)) #[] ay/\RL ν g ay.toList q.2:=by
 unfold callee at e;split at e
 ·cases e;cases hv with
  |iv h=>
   cases h with
   |fn f ay cs hn hr=>
    refine⟨ay,rfl,by simpa using hn,λj v x h1 h2=>?_⟩;simp only[List.getElem?_map,Option.map_eq_some_iff]at h2;obtain⟨y,hy,rfl⟩:=h2;exact .iv (hr j v y (by simpa using h1) hy)
 ·cases e;cases hv with
  |bJ hn hr=>exact⟨_,rfl,by simpa using hn,λj v x h1 h2=>hr j v x (by simpa using h1) h2⟩
 ·cases e
theorem oK {ρ:Operand->Value} {o:Oper} {fo:Operand} {aT:Array Operand} {cC:Array TypeId} (ho:o.op = .call { callee:=.value fo,args:=aT,argTypes:=cC }) {f:Nat} {ay:Array Value}
  (hf:ρ fo = .func (.func (ν f)) #[] ay) {fn:Func} (dp:P.funcs[ν f]?=some fn) (hb:fn.body.isSome=true) (hn:(fn.name=="runtime.NumGoroutine")=false) (w:World) :
  (execOp ρ o).run P w = .ok (.enter (ν f) (aT.map ρ++ay)) w:=by
 have fT:¬fn.body=none:=λh=>by rw[h]at hb;cases hb
 have dJ:¬fn.name="runtime.NumGoroutine":=by simpa using hn
 simp[execOp,ho,resolve,hf,Deferred.ofValue,invoke,callFunc,dp,fT,dJ]
def fA (ν:Nat->Nat) (P:Program) (k:Cx) (g:Gh) (h':Hp) (y:AV) (fv:Value) (aT:Array Value):Prop:=
 ∃q ay fn,fv = .func (.func (ν q)) #[] ay/\P.funcs[ν q]?=some fn/\fn.body.isSome=true/\(fn.name=="runtime.NumGoroutine")=false/\
  Calls P (ν q) (aT++ay) g.w λe w'=>∃v g',e = .returned v/\g'.w=w'/\g'.h=h'/\Rel ν k g'/\aX ν g g'/\RA ν g' v y
theorem lE {J:Nat->Prop} (hs:∀b,J b->b<g.w.heap.size):Rel ν ⟨g.w,J,λ_=>False⟩ ⟨J,λ_=>none,g.w,[]⟩:=
 ⟨λid o h=>by simp[get]at h,λid bY o o' b h=>by simp[get]at h,hs,λ_ h=>h,λ_ h=>.inl h,λid o b h=>by simp[get]at h,Nat.le_refl _,rfl,rfl,rfl,λ_ _ _=>rfl⟩
theorem nN (r:Rel ν k g) {J:Nat->Prop} {g':Gh} (r':Rel ν ⟨g.w,J,λ_=>False⟩ g'):Rel ν k { g with w:=g'.w }/\aX ν g { g with w:=g'.w }:=
 r.world (I':=g.I) (λ_ h=>h) (λ_ h=>.inl h) r'.size r'.os r'.tape r'.output λb hb=>r'.cr b hb (.inl λh=>h)
theorem qx {call:Nat->List AV->Hp->Option (AV×Hp)} (hs:bp ν P call) (r:Rel ν k g) {f y:AV} {args:List AV} {h':Hp} (e:(fc call f args).run g.h=some (y,h')) {fv:Value} {aT:Array Value}
  (hf:RA ν g fv f) (ha:RL ν g aT.toList args):fA ν P k g h' y fv aT:=by
 obtain⟨q,hq,e2⟩:=M.lift_bind e;obtain⟨ay,rfl,eI⟩:=eN hq hf;obtain⟨U,h2,e3,e4⟩:=ag e2;obtain⟨rfl,hJ⟩:=oI r _ _ _ e3 (aT.toList++ay.toList) (ha.append eI);obtain⟨y',hc,e6⟩:=M.lift_bind e4;obtain⟨yA,e8⟩:=M.aj e6;obtain⟨rfl,rfl⟩:=af e8;obtain⟨⟨rr,hh⟩,eo,nO⟩:=Option.bind_eq_some_iff.1 hc;obtain⟨⟨fn,dp,hb,hn⟩,bt⟩:=hs _ _ _ _ _ eo;have CJ:∀b,(g.I b\/∃id o,get g.h id=some o/\g.φ id=some b)->b<g.w.heap.size:=by
  rintro b (h | ⟨id,o,ho,ah⟩)
  ·exact r.small b h
  ·exact(r.ob id o ho).block ah r.small
 have dn:=hJ (λb=>g.I b\/∃id o,get g.h id=some o/\g.φ id=some b) (λ_ h=>.inl h) λid o b h1 h2=>.inr ⟨id,o,h1,h2⟩
 refine⟨q.1,ay,fn,rfl,dp,hb,hn,(bt _ _ (aT++ay) rfl rfl rfl (lE CJ) (by simpa using dn)).mono ?_⟩;rintro e w' ⟨v,g',rfl,rfl,rfl,r', -,hR⟩;obtain⟨I',q8, -,kC⟩:=pG r' nO hR;obtain⟨r2,m2⟩:=nN r r';exact⟨v,{ g with w:=g'.w },rfl,rfl,rfl,r2,m2,qw yA kC⟩
theorem oL {call:Nat->List AV->Hp->Option (AV×Hp)} (hs:bp ν P call) (r:Rel ν k g) {f y:AV} {args:List AV} {h':Hp} (e:(gN call f args).run g.h=some (y,h')) {fv:Value} {aT:Array Value}
  (hf:RA ν g fv f) (ha:RL ν g aT.toList args):fA ν P k g h' y fv aT:=by
 obtain⟨q,hq,e2⟩:=M.lift_bind e;obtain⟨ay,rfl,eI⟩:=eN hq hf;obtain⟨U,h2,e3,e4⟩:=ag e2;obtain⟨I1,f1,dn⟩:=kF _ k g U _ e3 r (aT.toList++ay.toList) (ha.append eI);obtain⟨hc,rfl⟩:=dz e4;obtain⟨⟨rr,hh⟩,eo,nO⟩:=Option.bind_eq_some_iff.1 hc;obtain⟨⟨fn,dp,hb,hn⟩,bt⟩:=hs _ _ _ _ _ eo;refine⟨q.1,ay,fn,rfl,dp,hb,hn,(bt _ _ (aT++ay) rfl rfl rfl (lE f1.rel.small) (by simpa using dn)).mono ?_⟩;rintro e w' ⟨v,g',rfl,rfl,rfl,r', -,hR⟩;obtain⟨I2,q8,f2,kC⟩:=pG r' nO hR;have oM:∀b,I2 b->I1 b\/g.w.heap.size<=b/\b<g'.w.heap.size:=by
  intro b hb;have aV:=f2.rel.small b hb;rcases f2.rel.i1 b hb with h | h | h
  ·exact .inl h
  ·exact h.elim
  ·exact .inr ⟨h,aV⟩
 have hw:=f1.rel.world (w':=g'.w) (I':=I2) (λb h=>f2.sub b (r'.i0 b h)) oM r'.size r'.os r'.tape r'.output λb hb=>r'.cr b hb (.inl λh=>h)
 exact⟨v,⟨I2,g.φ,g'.w,_⟩,rfl,rfl,rfl,hw.1,f1.mono.trans hw.2,kC.up λv x h=>h⟩
theorem yB {call:Nat->List AV->Hp->Option (AV×Hp)} (hs:bp ν P call) (r:Rel ν k g) {slot:Nat} {f y:AV} {args:List AV} {h':Hp} (e:(xS call slot f args).run g.h=some (y,h')) {fv:Value} {aT:Array Value}
  (hf:RA ν g fv f) (ha:RL ν g aT.toList args):fA ν P k g h' y fv aT:=by
 obtain⟨q,hq,e2⟩:=M.lift_bind e;obtain⟨ay,rfl,eI⟩:=eN hq hf;obtain⟨U,h2,e3,e4⟩:=ag e2;obtain⟨I1,f1,dn⟩:=kF _ k g U _ e3 r (aT.toList++ay.toList) (ha.append eI);obtain⟨⟨rr,hh⟩,h3,e5,e6⟩:=ag e4;obtain⟨eo,rfl⟩:=dz e5;obtain⟨⟨fn,dp,hb,hn⟩,bt⟩:=hs _ _ _ _ _ eo;refine⟨q.1,ay,fn,rfl,dp,hb,hn,(bt _ _ (aT++ay) rfl rfl rfl (lE f1.rel.small) (by simpa using dn)).mono ?_⟩;rintro e w' ⟨v,g',rfl,rfl,rfl,r', -,hR⟩;have oM:∀b,g'.I b->I1 b\/g.w.heap.size<=b/\b<g'.w.heap.size:=by
  intro b hb;have aV:=r'.small b hb;rcases r'.i1 b hb with h | h | h
  ·exact .inl h
  ·exact h.elim
  ·exact .inr ⟨h,aV⟩
 have hw:=f1.rel.world (w':=g'.w) (I':=g'.I) (λb h=>r'.i0 b h) oM r'.size r'.os r'.tape r'.output λb hb=>r'.cr b hb (.inl λh=>h)
 unfold A4 at e6;split at e6
 case h_2=>exact(ae e6).elim
 rename_i i o n ai fF;simp only at fF;subst fF;obtain⟨ob,CK,e8⟩:=M.lift_bind e6;cases ob with
 |cells _=>exact(ae e8).elim
 |bb _ _ _=>exact(ae e8).elim
 |map _=>exact(ae e8).elim
 |buf v' e' es=>
  obtain⟨CL,dm⟩:=M.aj e8;obtain⟨_,h6,oz,lu⟩:=ag dm;obtain⟨v7,rfl⟩:=M.cq oz;obtain⟨_,h7,yC,rj⟩:=ag lu;obtain rfl:=aL yC;obtain⟨rfl,rfl⟩:=af rj;simp only[Bool.and_eq_true,beq_iff_eq]at CL;obtain⟨rfl,rfl⟩:=CL;cases hR with
  |own ed ho=>
   unfold aH at ho;simp only[CK]at ho;have s8:=ho.2 (by trivial);have nL:∀b,g'.φ i=some b->g.w.heap.size<=b:=λb hb=>(r'.own i _ b CK hb).resolve_left λh=>h
   have hn:=hw.1.w8 (s:=slot) (ob:=.buf 0 e' es) (p:=g'.φ i) (w':=g'.w) v7 (Nat.le_refl _) rfl rfl rfl (λ_ _=>rfl)
    (λb hb id o ho ah=>by have:=(f1.rel.ob id o ho).block ah f1.rel.small;have:=nL b hb;simp only[]at *;omega)
    (λb hb=>.inr (Nat.le_trans r.size (nL b hb))) λhm=>?_
   ·refine⟨v,⟨g'.I,bl g.φ slot (g'.φ i),g'.w,set _ slot (.buf 0 e' es)⟩,rfl,rfl,rfl,hn.1,(f1.mono.trans hw.2).trans hn.2,.own ed ?_⟩;unfold aH;simp only[aq,aw];exact⟨Nat.le_refl _,λ_=>s8⟩
   ·rcases r'.ob i _ CK with⟨h1,h2⟩|⟨b,h1,h2,h3,h4⟩
    ·exact .inl ⟨(aw _ _ _).trans h1,h2⟩
    ·exact .inr ⟨b,(aw _ _ _).trans h1,h2,h3,h4⟩
end
theorem fl:∀{ids:List Nat} {id i:Nat},place ids id=some i->ids[i]?=some id:=by
 intro ids
 induction ids with
 |nil=>intro id i h;simp[place]at h
 |cons x ids ih=>
  intro id i h;simp only[place]at h;split at h
  ·rename_i hx;cases h;simp[hx]
  ·simp only[Option.map_eq_some_iff]at h;obtain⟨j,hj,rfl⟩:=h;simpa using ih hj
theorem rA:∀{ids:List Nat} {id:Nat},place ids id=none->∀i:Nat,ids[i]?≠some id:=by
 intro ids
 induction ids with
 |nil=>intro id _ i h;simp at h
 |cons x ids ih=>
  intro id h i hi;simp only[place]at h;split at h
  ·cases h
  ·rename_i hx;cases i with
   |zero=>simp at hi;exact hx hi
   |succ i=>exact ih (by simpa using h) i (by simpa using hi)
theorem mJ:∀{ids:List Nat},fe ids=true->∀{i id:Nat},ids[i]?=some id->place ids id=some i:=by
 intro ids
 induction ids with
 |nil=>intro _ i id h;simp at h
 |cons x ids ih=>
  intro hn i id h;simp only[fe,Bool.and_eq_true,Bool.not_eq_true',List.contains_eq_mem,decide_eq_false_iff_not]at hn;simp only[place];cases i with
  |zero=>simp at h;rw[if_pos h]
  |succ i=>
   have h':ids[i]?=some id:=by simpa using h
   rw[if_neg (λe:x=id=>hn.1 (by rw[e];exact List.mem_of_getElem? h')),ih hn.2 h'];rfl
theorem j7 {α:Type}:∀(l:List α) (s i:Nat),get (cL l s) i=if s<=i then l[i - s]? else none:=by
 intro l
 induction l with
 |nil=>intro s i;simp[cL,get]
 |cons x l ih=>
  intro s i;simp only[cL,get,ih];by_cases h:s=i
  ·subst h;simp
  ·rw[if_neg h];by_cases h':s<=i
   ·rw[if_pos (by omega),if_pos h',show i - s=(i - (s+1))+1 by omega];simp
   ·rw[if_neg (by omega),if_neg h']
section
variable {ν:Nat->Nat} {P:Program} {k:Cx} {g:Gh}
inductive sG (ν:Nat->Nat) (g:Gh) (ids:List Nat) (v:Value):AV->Prop
 |own {id i o n ai:Nat} (h1:v.oneCell'=true) (h:aH g v id o n ai) (hi:place ids id=some i):sG ν g ids v (.own i o n ai)
 |ref {id p ai i j:Nat} (h1:v.oneCell'=true) (h:aI g v id ai i j) (hp:place ids id=some p):sG ν g ids v (.ref p ai i j)
 |shut {x:AV} (h:jA ν g.I g.w v x):sG ν g ids v x
theorem yD {ids:List Nat}:∀(U:List AV) (k:Cx) (g:Gh) (ys:List AV) (h':Hp),(M.aN (A2 ids) U).run g.h=some (ys,h')->Rel ν k g->∀vs:List Value,RL ν g vs U->
  ∃I',cg ν k g h' I'/\ys.length=vs.length/\∀(j:Nat) (v:Value) (y:AV),vs[j]?=some v->ys[j]?=some y->sG ν { g with I:=I',h:=h' } ids v y:=by
 intro U
 induction U with
 |nil=>
  intro k g ys h' e r vs hv;obtain⟨rfl,rfl⟩:=b9 e;have:vs=[]:=List.eq_nil_of_length_eq_zero hv.1;subst this;exact⟨g.I,.refl r,rfl,λj v y h=>by simp at h⟩
 |cons a U ih=>
  intro k g ys h' e r vs hv;cases vs with
  |nil=>have:=hv.1;simp at this
  |cons v vs=>
   obtain⟨y,h1,zs,e1,e2,rfl⟩:=bU e;have key:∃I1,cg ν k g h1 I1/\∀(g2:Gh),aX ν { g with I:=I1,h:=h1 } g2->(∀v x,RI ν I1 g.w v x->RI ν g2.I g2.w v x)->sG ν g2 ids v y:=by
    have ha:=hv.tail.1;have plain:∀{a:AV},(eu true a).run g.h=some (y,h1)->RA ν g v a->∃I1,cg ν k g h1 I1/\∀(g2:Gh),aX ν { g with I:=I1,h:=h1 } g2->(∀v x,RI ν I1 g.w v x->RI ν g2.I g2.w v x)->sG ν g2 ids v y:=by
     intro a e ha;obtain⟨I1,f1,hR⟩:=lA r e ha;exact⟨I1,f1,λg2 _ ck=>.shut (hR.mono ck)⟩
    cases a with
    |own id o n ai=>
     obtain⟨i,hi,e4⟩:=M.lift_bind e1;obtain⟨rfl,rfl⟩:=af e4;refine⟨g.I,.refl r,λg2 hm _=>?_⟩;have:=hm _ _ ha;cases this with
     |own h1 h=>exact .own h1 h hi
    |ref id ai i j=>
     obtain⟨p,hi,e4⟩:=M.lift_bind e1;obtain⟨rfl,rfl⟩:=af e4;refine⟨g.I,.refl r,λg2 hm _=>?_⟩;have:=hm _ _ ha;cases this with
     |ref h1 h=>exact .ref h1 h hi
    |undef=>exact plain (a:=.undef) e1 ha
    |iv x=>exact plain (a:=(.iv x)) e1 ha
    |agg cs=>exact plain (a:=(.agg cs)) e1 ha
    |aR vs=>exact plain (a:=(.aR vs)) e1 ha
    |bJ f ay=>exact plain (a:=(.bJ f ay)) e1 ha
   obtain⟨I1,f1,hS⟩:=key;obtain⟨I2,f2,hl,hR⟩:=ih k _ zs h' e2 f1.rel vs (hv.tail.2.mono f1.mono);refine⟨I2,f1.trans f2,by simp[hl],λj v' y' h1 h2=>?_⟩;cases j with
   |zero=>simp at h1 h2;subst h1 h2;exact hS _ f2.mono λv x h=>h.mono f2.sub λ_ _ _ _ h=>h
   |succ j=>exact hR j v' y' (by simpa using h1) (by simpa using h2)
theorem xg:∀(ids:List Nat) (os:List Ob) (h h':Hp),(M.aN (λid=>(M.look id).bind λo=>(M.ok (oo o)).bind λ_=>M.ret o) ids).run h=some (os,h')->
  h'=h/\os.length=ids.length/\∀(i id:Nat),ids[i]?=some id->∃v e es,os[i]?=some (.buf v e es)/\get h id=some (.buf v e es):=by
 intro ids
 induction ids with
 |nil=>
  intro os h h' e;obtain⟨rfl,rfl⟩:=b9 e;exact⟨rfl,rfl,λi id h=>by simp at h⟩
 |cons x ids ih=>
  intro os h h' e;obtain⟨y,h1,zs,e1,e2,rfl⟩:=bU e;obtain⟨o,hg,e4⟩:=M.aM e1;obtain⟨bt,e6⟩:=M.aj e4;obtain⟨rfl,rfl⟩:=af e6;obtain⟨rfl,hl,hr⟩:=ih zs _ _ e2;refine⟨rfl,by simp[hl],λi id hi=>?_⟩;cases i with
  |zero=>
   simp at hi;subst hi;cases o with
   |buf v ee es=>exact⟨v,ee,es,rfl,hg⟩
   |cells _=>simp[oo]at bt
   |bb _ _ _=>simp[oo]at bt
   |map _=>simp[oo]at bt
  |succ i=>simpa using hr i id (by simpa using hi)
theorem vK:∀(ids:List Nat) (s:Nat) (hc h h':Hp) (u:Unit),(si ids s hc).run h=some (u,h')->fe ids=true->
  (∀(i id:Nat),ids[i]?=some id->∃o,get hc (s+i)=some o/\get h' id=some o/\(∀cs,o≠.cells cs)/\∀aU,o≠.map aU)/\∀id,place ids id=none->get h' id=get h id:=by
 intro ids
 induction ids with
 |nil=>
  intro s hc h h' u e _;obtain⟨-,rfl⟩:=af e;exact⟨λi id h=>by simp at h,λ_ _=>rfl⟩
 |cons x ids ih=>
  intro s hc h h' u e hn;have dJ:=hn;simp only[fe,Bool.and_eq_true,Bool.not_eq_true',List.contains_eq_mem,decide_eq_false_iff_not]at hn;obtain⟨o,ho,e2⟩:=M.lift_bind e;obtain⟨bt,e4⟩:=M.aj e2;obtain⟨_,h3,e5,e6⟩:=ag e4;obtain rfl:=aL e5;obtain⟨q1,q2⟩:=ih (s+1) hc _ h' u e6 hn.2;have hx:place ids x=none:=by
   cases hp:place ids x with
   |none=>rfl
   |some i=>exact absurd (List.mem_of_getElem? (fl hp)) hn.1
  refine⟨λi id hi=>?_,λid bw=>?_⟩
  ·cases i with
   |zero=>
    simp at hi;subst hi;refine⟨o,ho,?_,⟨λcs iJ=>(by subst iJ;cases bt),λcs iJ=>(by subst iJ;cases bt)⟩⟩;rw[q2 _ hx];exact aq _ _ _
   |succ i=>
    have:=q1 i id (by simpa using hi)
    rwa [show s+1+i=s+(i+1) by omega]at this
  ·simp only[place]at bw;split at bw
   ·cases bw
   ·rename_i bG;rw[q2 id (by simpa using bw)];exact bF _ _ bG
theorem yE {call:Nat->List AV->Hp->Option (AV×Hp)} (hs:bp ν P call) (r:Rel ν k g) {f y:AV} {args:List AV} {h':Hp} (e:(xR call f args).run g.h=some (y,h')) {fv:Value} {aT:Array Value}
  (hf:RA ν g fv f) (ha:RL ν g aT.toList args):fA ν P k g h' y fv aT:=by
 obtain⟨q,hq,e2⟩:=M.lift_bind e;obtain⟨ay,rfl,eI⟩:=eN hq hf;simp only[]at e2;generalize xh:dedup ((args++q.2).flatMap A1) []=ids at e2;obtain⟨td,e4⟩:=M.aj e2;simp only[Bool.and_eq_true,Nat.ble_eq]at td;obtain⟨td,hlen⟩:=td;obtain⟨U,h3,e5,e6⟩:=ag e4;obtain⟨I1,f1,JP,Fa⟩:=yD (ids:=ids) _ k g U _ e5 r (aT.toList++ay.toList) (ha.append eI);obtain⟨os,h4,e7,e8⟩:=ag e6;obtain⟨rfl,iD,na⟩:=xg ids os _ _ e7;obtain⟨p,eo,dm⟩:=M.lift_bind e8;obtain⟨rr,h6,oz,lu⟩:=ag dm;obtain⟨fF,rfl⟩:=dz oz;obtain⟨_,h7,yC,rj⟩:=ag lu
 obtain⟨rfl,rfl⟩:=af rj;obtain⟨⟨fn,dp,hb,hn⟩,bt⟩:=hs _ _ _ _ _ eo;have r1:=f1.rel
 let oN:Nat->Option Nat:=λi=>(ids[i]?).bind g.φ
 let L:Nat->Prop:=λb=>∃(i id:Nat),ids[i]?=some id/\g.φ id=some b
 let g1:Gh:={ g with I:=I1,h:=h6 }
 let g0:Gh:=⟨I1,oN,g.w,cL os 0⟩
 have ux:∀i,get g0.h i=os[i]?:=λi=>by
  show get (cL os 0) i=_
  rw[j7,if_pos (Nat.zero_le _),Nat.sub_zero]
 have xj:∀i o,get g0.h i=some o->∃id,ids[i]?=some id/\get h6 id=some o/\(∃v e es,o = .buf v e es)/\oN i=g.φ id:=by
  intro i o ho;rw[ux]at ho;have hi:i<ids.length:=by have:=aA ho;omega
  have bw:ids[i]?=some ids[i]:=List.getElem?_eq_getElem hi;obtain⟨v,ee,es,q1,q2⟩:=na i _ bw;rw[ho]at q1;cases q1;exact⟨_,bw,q2,⟨v,ee,es,rfl⟩,by simp[oN,bw]⟩
 have JQ:∀b,L b->¬I1 b/\b<g.w.heap.size:=by
  rintro b ⟨i,id,bw,ah⟩;obtain⟨v,ee,es,q1,q2⟩:=na i id bw;rcases r1.ob id _ q2 with⟨h1,_⟩|⟨b',h1,h2,h3,_⟩
  ·simp only[ah]at h1;cases h1
  ·simp only[ah]at h1;cases h1;exact⟨h2,h3.1⟩
 have r0:Rel ν ⟨g.w,I1,L⟩ g0:=by
  refine⟨λi o ho=>?_,λi i' o o' b ho cb ah aO=>?_,r1.small,λ_ h=>h,λ_ h=>.inl h,λi o b ho ah=>?_,Nat.le_refl _,rfl,rfl,rfl,λ_ _ _=>rfl⟩
  ·obtain⟨id,bw,hg,⟨v,ee,es,rfl⟩,ah⟩:=xj i o ho;rcases r1.ob id _ hg with⟨h1,h2⟩|⟨b,h1,h2,h3,h4⟩
   ·exact .inl ⟨ah.trans h1,h2⟩
   ·exact .inr ⟨b,ah.trans h1,h2,h3,h4⟩
  ·obtain⟨id,bw,hg, -,qy⟩:=xj i o ho;obtain⟨bY,j8,dg, -,xl⟩:=xj i' o' cb;have:=r1.inj id bY o o' b hg dg (qy.symm.trans ah) (xl.symm.trans aO);subst this;have h1:=mJ td bw;have h2:=mJ td j8;rw[h1]at h2;exact Option.some.inj h2
  ·obtain⟨id,bw,hg, -,qy⟩:=xj i o ho;exact .inl ⟨i,id,bw,qy.symm.trans ah⟩
 have low:∀{i id:Nat},place ids id=some i->i<1000:=λh=>by have:=aA (fl h);omega
 have CM:∀{i id:Nat},place ids id=some i->get g0.h i=get h6 id/\oN i=g.φ id:=by
  intro i id h;have bw:=fl h;obtain⟨v,ee,es,q1,q2⟩:=na i id bw;exact⟨by rw[ux,q1,q2],by simp[oN,bw]⟩
 have CN:∀{i id o n ai:Nat} {v:Value},place ids id=some i->aH g1 v id o n ai->aH g0 v i o n ai:=by
  intro i id o n ai v hp ho;obtain⟨a1,a2⟩:=CM hp;unfold aH at ho ⊢;rw[a1,show g0.φ i=g.φ id from a2];exact ho
 have CO:∀{i id ai a b:Nat} {v:Value},place ids id=some i->aI g1 v id ai a b->aI g0 v i ai a b:=by
  intro i id ai a b v hp ho;obtain⟨a1,a2⟩:=CM hp;unfold aI at ho ⊢;rw[a1,show g0.φ i=g.φ id from a2];exact ho
 have dn:RL ν g0 (aT++ay).toList U:=by
  refine⟨by rw[JP];simp,λj v y h1 h2=>?_⟩;have hS:=Fa j v y (by simpa using h1) h2;cases hS with
  |own h1 h hp=>exact .own h1 (CN hp h)
  |ref h1 h hp=>exact .ref h1 (CO hp h)
  |shut h=>exact h.up λv x h=>h
 refine⟨q.1,ay,fn,rfl,dp,hb,hn,(bt ⟨g.w,I1,L⟩ g0 (aT++ay) rfl rfl rfl r0 dn).mono ?_⟩;rintro e w' ⟨v,g',rfl,rfl,CP,r',ml,hR⟩;obtain⟨q1,q2⟩:=vK ids 0 p.2 h6 h' _ yC td;simp only[Nat.zero_add]at q1
 let uy:Nat->Option Nat:=λid=>match place ids id with | some i=>g'.φ i | none=>g.φ id
 let g2:Gh:=⟨g'.I,uy,g'.w,h'⟩
 have eW:∀{i id:Nat},place ids id=some i->uy id=g'.φ i/\∃o,get g'.h i=some o/\get h' id=some o/\(∀cs,o≠.cells cs)/\∀aU,o≠.map aU:=by
  intro i id hp;obtain⟨o,a1,a2,a3⟩:=q1 i id (fl hp);exact⟨by simp[uy,hp],o,by rw[CP];exact a1,a2,a3⟩
 have gk:∀{id:Nat},place ids id=none->uy id=g.φ id/\get h' id=get h6 id:=λhp=>⟨by simp[uy,hp],q2 _ hp⟩
 have jB:∀{id:Nat} {o:Ob} {b:Nat},place ids id=none->get h6 id=some o->g.φ id=some b->¬L b:=by
  rintro id o b hp ho ah ⟨i,bY,j8,aO⟩;obtain⟨v,ee,es,q3,q4⟩:=na i bY j8;have:=r1.inj id bY o _ b ho q4 ah aO;subst this;exact rA hp i j8
 have ck:∀v x,RI ν I1 g.w v x->RI ν g'.I g'.w v x:=λv x h=>h.mono (λb hb=>r'.i0 b hb) λb off u hb hc=>by
  rw[bx (r'.cr b (r1.small b hb) (.inr hb))];exact hc
 have mr:∀b,b<g.w.heap.size->¬L b->g'.w.heap[b]?=g.w.heap[b]?:=λb hb hL=>r'.cr b hb (.inl hL)
 have m2:aX ν g1 g2:=by
  intro v x hx;refine hx.Bn ck ?_ ?_
  ·intro v id o n ai ed ho;cases hp:place ids id with
   |some i=>
    have h:=ml.own v i o n ai (low hp) ed (CN hp ho);obtain⟨a1,ob,a2,a3,_⟩:=eW hp;unfold aH at h ⊢;rw[a2]at h;rw[show get g2.h id=some ob from a3,show g2.φ id=g'.φ i from a1];exact h
   |none=>
    obtain⟨a1,a2⟩:=gk hp;obtain⟨ob,de⟩:=ho.alive;exact ho.other (g':=g2) a2 a1 λb ah=>mr b ((r1.ob id _ de).block ah r1.small) (jB hp de ah)
  ·intro v id ai a b ed hr;cases hp:place ids id with
   |some i=>
    have h:=ml.ref v i ai a b (low hp) ed (CO hp hr);obtain⟨a1,ob,a2,a3,_⟩:=eW hp;unfold aI at h ⊢;rw[a2]at h;rw[show get g2.h id=some ob from a3,show g2.φ id=g'.φ i from a1];exact h
   |none=>
    obtain⟨a1,a2⟩:=gk hp;exact hr.other (g':=g2) a2 a1
 have CQ:∀b,b<g.w.heap.size->g'.I b->I1 b\/L b:=by
  intro b hb h;rcases r'.i1 b h with h | h | h
  ·exact .inl h
  ·exact .inr h
  ·simp only[]at h;omega
 have r2:Rel ν k g2:=by
  refine⟨λid o ho=>?_,λid bY o o' b ho cb ah aO=>?_,r'.small,λb h=>r'.i0 b (r1.i0 b h),λb h=>?_,λid o b ho ah=>?_,Nat.le_trans r1.size r'.size,r'.os.trans r1.os,r'.tape.trans r1.tape,r'.output.trans r1.output,λb hb hk=>?_⟩
  ·cases hp:place ids id with
   |some i=>
    obtain⟨a1,ob,a2,a3,a4⟩:=eW hp;have:ob=o:=by rw[show get g2.h id=some ob from a3]at ho;exact Option.some.inj ho
    subst this;have cr:=r'.ob i _ a2;cases ob with
    |cells cs=>exact absurd rfl (a4.1 cs)
    |map cs=>exact absurd rfl (a4.2 cs)
    |buf v ee es=>
     rcases cr with⟨h1,h2⟩|⟨b,h1,h2,h3,h4⟩
     ·exact .inl ⟨a1.trans h1,h2⟩
     ·exact .inr ⟨b,a1.trans h1,h2,h3,h4⟩
    |bb v ee es=>
     rcases cr with⟨h1,h2⟩|⟨b,h1,h2,h3⟩
     ·exact .inl ⟨a1.trans h1,h2⟩
     ·exact .inr ⟨b,a1.trans h1,h2,h3⟩
   |none=>
    obtain⟨a1,a2⟩:=gk hp;have cb:get h6 id=some o:=a2.symm.trans ho;refine(r1.ob id o cb).other (g':=g2) a1 m2 ck r'.size (λb ah=>mr b ((r1.ob id _ cb).block ah r1.small) (jB hp cb ah)) λb ah=>?_
    have aV:=(r1.ob id _ cb).block ah r1.small;exact⟨λh=>(CQ b aV h).resolve_right (jB hp cb ah),λh=>r'.i0 b h⟩
  ·have rB:∀{a c:Nat} {oc:Ob},(∃i,place ids a=some i)->place ids c=none->get h' c=some oc->uy a=some b->uy c=some b->False:=by
    rintro a c oc ⟨i,hp⟩ bN CR h1 h2;obtain⟨a1,ob,a2,a3,_⟩:=eW hp;obtain⟨b1,b2⟩:=gk bN;have yF:get h6 c=some oc:=b2.symm.trans CR;have uz:g.φ c=some b:=b1.symm.trans h2;rcases r'.own i ob b a2 (a1.symm.trans h1)with h | h
    ·exact jB bN yF uz h
    ·have:=(r1.ob c _ yF).block uz r1.small;simp only[]at h this;omega
   cases hp:place ids id with
   |some i=>
    cases bN:place ids bY with
    |some i'=>
     obtain⟨a1,ob,a2,a3,_⟩:=eW hp;obtain⟨b1,jv,b2,b3,_⟩:=eW bN;have:=r'.inj i i' ob jv b a2 b2 (a1.symm.trans ah) (b1.symm.trans aO);subst this;have h1:=fl hp;rw[fl bN]at h1;exact(Option.some.inj h1).symm
    |none=>exact(rB ⟨i,hp⟩ bN cb ah aO).elim
   |none=>
    cases bN:place ids bY with
    |some i'=>exact(rB ⟨i',bN⟩ hp ho aO ah).elim
    |none=>
     obtain⟨a1,a2⟩:=gk hp;obtain⟨b1,b2⟩:=gk bN;exact r1.inj id bY o o' b (a2.symm.trans ho) (b2.symm.trans cb) (a1.symm.trans ah) (b1.symm.trans aO)
  ·rcases r'.i1 b h with h | ⟨i,id,bw,ah⟩|h
   ·exact r1.i1 b h
   ·obtain⟨v,ee,es,q3,q4⟩:=na i id bw;exact .inr (r1.own id _ b q4 ah)
   ·exact .inr (.inr (Nat.le_trans r1.size h))
  ·cases hp:place ids id with
   |some i=>
    obtain⟨a1,ob,a2,a3,_⟩:=eW hp;rcases r'.own i ob b a2 (a1.symm.trans ah)with⟨i',bY,j8,aO⟩|h
    ·obtain⟨v,ee,es,q3,q4⟩:=na i' bY j8;exact r1.own bY _ b q4 aO
    ·exact .inr (Nat.le_trans r1.size h)
   |none=>
    obtain⟨a1,a2⟩:=gk hp;exact r1.own id o b (a2.symm.trans ho) (a1.symm.trans ah)
  ·have aV:b<g.w.heap.size:=Nat.lt_of_lt_of_le hb r1.size;refine(mr b aV ?_).trans (r1.cr b hb hk);rintro⟨i,id,bw,ah⟩;obtain⟨v,ee,es,q3,q4⟩:=na i id bw;rcases hk with hk | hk
   ·rcases r1.own id _ b q4 ah with h | h
    ·exact hk h
    ·omega
   ·exact(JQ b ⟨i,id,bw,ah⟩).1 (r1.i0 b hk)
 refine⟨v,g2,rfl,rfl,rfl,r2,f1.mono.trans m2,?_⟩;unfold A3 at fF;split at fF
 ·rename_i i o n ai jf;simp only[Option.map_eq_some_iff]at fF;obtain⟨id,bw,rfl⟩:=fF;rw[jf]at hR;cases hR with
  |own ed ho=>
   obtain⟨a1,ob,a2,a3,_⟩:=eW (mJ td bw);refine .own ed ?_;unfold aH at ho ⊢;rw[a2]at ho;rw[show get g2.h id=some ob from a3,show g2.φ id=g'.φ i from a1];exact ho
 ·split at fF
  ·rename_i yA;cases fF;exact qw yA hR
  ·cases fF
end
section
variable {ν:Nat->Nat} {P:Program} {k:Cx} {g:Gh}
theorem uA {g g':Gh} {ρ:Nat->Option Nat} (hI:∀v x,RI ν g.I g.w v x->RI ν g'.I g'.w v x)
  (ho:∀id i,ρ id=some i->∀v o n ai,aH g v id o n ai->aH g' v i o n ai)
  (hr:∀id i,ρ id=some i->∀v ai a b,aI g v id ai a b->aI g' v i ai a b) :
  ∀(d:Nat) (v:Value) (x:AV),RA ν g v x->RA ν g' v (lj ρ d x)
 |0,v,_,_=>.undef v
 |d+1,v,x,h=>by
  have ih:=uA hI ho hr d;cases h with
  |undef=>exact .undef v
  |iv h=>exact .iv (hI _ _ h)
  |agg hn h1 fW=>
   refine .agg (by simpa using hn) h1 λj v c hv hc=>?_
   simp only[List.getElem?_map,Option.map_eq_some_iff]at hc;obtain⟨c',bH,rfl⟩:=hc;exact ih v c' (fW j v c' hv bH)
  |aR hn fW=>
   refine .aR (by simpa using hn) λj v c hv hc=>?_
   simp only[List.getElem?_map,Option.map_eq_some_iff]at hc;obtain⟨c',bH,rfl⟩:=hc;exact ih v c' (fW j v c' hv bH)
  |@own _ id o n ai h1 h=>
   simp only[lj];split
   ·rename_i i hi;exact .own h1 (ho id i hi _ _ _ _ h)
   ·exact .undef v
  |@ref _ id ai i j h1 h=>
   simp only[lj];split
   ·rename_i p hp;exact .ref h1 (hr id p hp _ _ _ _ h)
   ·exact .undef v
  |bJ hn fW=>
   refine .bJ (by simpa using hn) λj v c hv hc=>?_
   simp only[List.getElem?_map,Option.map_eq_some_iff]at hc;obtain⟨c',bH,rfl⟩:=hc;exact ih v c' (fW j v c' hv bH)
theorem pH {g g':Gh} {ρ:Nat->Option Nat} {id i:Nat} (hh:get g'.h i=(get g.h id).map (lk ρ)) (ah:g'.φ i=g.φ id) (hw:∀b,g.φ id=some b->g'.w.heap[b]?=g.w.heap[b]?) {v:Value} {o n ai:Nat} (h:aH g v id o n ai):aH g' v i o n ai:=by
 unfold aH at h ⊢;rw[hh,ah];cases hg:get g.h id with
 |none=>rw[hg]at h;exact h.elim
 |some ob=>
  rw[hg]at h;cases ob with
  |cells cs=>exact h.elim
  |buf v' e es=>exact⟨h.1,λhv=>(h.2 hv).same hw⟩
  |bb v' e es=>exact⟨h.1,λhv=>(h.2 hv).same hw⟩
  |map aU=>exact h.elim
theorem pI {g g':Gh} {ρ:Nat->Option Nat} {id i:Nat} (hh:get g'.h i=(get g.h id).map (lk ρ)) (ah:g'.φ i=g.φ id) {v:Value} {ai a b:Nat} (h:aI g v id ai a b):aI g' v i ai a b:=by
 unfold aI at h ⊢;rw[hh,ah];cases hg:get g.h id with
 |none=>rw[hg]at h;exact h.elim
 |some ob=>
  rw[hg]at h;cases ob<;>exact h
theorem yG {g g':Gh} {ρ:Nat->Option Nat} {i id:Nat} {o:Ob} (h:fu ν g i o) (ah:g'.φ id=g.φ i) (hI:g'.I=g.I) (hw:g'.w=g.w) (hR:∀v c,RA ν g v c->RA ν g' v (lj ρ 8 c)):fu ν g' id (lk ρ o):=by
 cases o with
 |cells cs=>
  obtain⟨b,e1,e2,e3,e4⟩:=h;refine⟨b,ah.trans e1,by rw[hI];exact e2,by rw[hw];exact e3,λj c hc=>?_⟩;simp only[List.getElem?_map,Option.map_eq_some_iff]at hc;obtain⟨c',bH,rfl⟩:=hc;obtain⟨v,c1,c2,c3⟩:=e4 j c' bH;exact⟨v,by rw[hw];exact c1,c2,hR v c' c3⟩
 |buf v e es=>
  rcases h with⟨h1,h2⟩|⟨b,e1,e2,e3,e4⟩
  ·exact .inl ⟨ah.trans h1,h2⟩
  ·exact .inr ⟨b,ah.trans e1,by rw[hI];exact e2,by rw[hw];exact e3,by rw[hI,hw];exact e4⟩
 |bb v e es=>
  rcases h with⟨h1,h2⟩|⟨b,e1,e2,e4⟩
  ·exact .inl ⟨ah.trans h1,h2⟩
  ·exact .inr ⟨b,ah.trans e1,by rw[hI];exact e2,by rw[hI,hw];exact e4⟩
 |map aU=>
  obtain⟨b,es,clock,e1,e2,e3,e4,e5,e6⟩:=h;refine⟨b,es,clock,ah.trans e1,by rw[hI];exact e2,by rw[hw];exact e3,by rw[hw];exact e4,by simpa using e5,λj e p h1 h2=>?_⟩;simp only[List.getElem?_map,Option.map_eq_some_iff]at h2;obtain⟨p',hp,rfl⟩:=h2;obtain⟨c1,c2⟩:=e6 j e p' h1 hp;exact⟨hR _ _ c1,hR _ _ c2⟩
theorem z7:∀(n:Nat) (todo:List Nat) (acc ps:List (Nat×Ob)) (h h':Hp),(ll n todo acc).run h=some (ps,h')->(∀p ∈ acc,get h p.1=some p.2)->h'=h/\∀p ∈ ps,get h p.1=some p.2:=by
 intro n
 induction n with
 |zero=>
  intro todo acc ps h h' e ha;obtain⟨rfl,rfl⟩:=af e;exact⟨rfl,λp hp=>ha p (by simpa using hp)⟩
 |succ n ih=>
  intro todo acc ps h h' e ha;cases todo with
  |nil=>
   obtain⟨rfl,rfl⟩:=af e;exact⟨rfl,λp hp=>ha p (by simpa using hp)⟩
  |cons id r=>
   simp only[ll]at e;split at e
   ·exact ih r acc ps h h' e ha
   ·simp only[M.run]at e;split at e
    ·rename_i o ho;exact ih _ _ ps h h' e λp hp=>by
      rcases List.mem_cons.1 hp with rfl | hp
      ·exact ho
      ·exact ha p hp
    ·exact ih r acc ps h h' e ha
theorem z8 (slot:Nat):∀(n:Nat) (h h':Hp) (u:Unit),(tL slot n).run h=some (u,h')->h'=h/\∀j,j<n->get h (slot+j)=none:=by
 intro n
 induction n with
 |zero=>
  intro h h' u e;obtain⟨-,rfl⟩:=af e;exact⟨rfl,λj hj=>absurd hj (Nat.not_lt_zero _)⟩
 |succ n ih=>
  intro h h' u e;obtain⟨_,h1,e1,e2⟩:=ag e;obtain⟨hf,rfl⟩:=M.cq e1;obtain⟨rfl,hr⟩:=ih _ _ _ e2;refine⟨rfl,λj hj=>?_⟩;by_cases he:j=n
  ·rw[he];exact hf
  ·exact hr j (by omega)
theorem mK {x:Nat} {l:List Nat} (h:fe (x::l)=true):x ∉ l/\fe l=true:=by
 simpa only[fe,Bool.and_eq_true,Bool.not_eq_true',List.contains_eq_mem,decide_eq_false_iff_not]using h
theorem v8 {T:List (Nat×Nat)} (hn:fe (T.map (·.1))=true) {a b:Nat} (h:(a,b) ∈ T):get T a=some b:=by
 induction T with
 |nil=>cases h
 |cons p T ih=>
  obtain⟨h1,h2⟩:=mK hn;simp only[get];rcases List.mem_cons.1 h with rfl | h
  ·rw[if_pos rfl]
  ·rw[if_neg (λe:p.1=a=>h1 (List.mem_map.2 ⟨_,h,e.symm⟩))];exact ih h2 h
theorem get_mem {T:List (Nat×Nat)} {a b:Nat} (h:get T a=some b):(a,b) ∈ T:=by
 induction T with
 |nil=>cases h
 |cons p T ih=>
  simp only[get]at h;split at h
  ·rename_i hp;cases h;subst hp;exact List.mem_cons_self
  ·exact List.mem_cons_of_mem _ (ih h)
theorem Aa {T:List (Nat×Nat)} {a b:Nat} (h:iP T b=some a):(a,b) ∈ T:=by
 induction T with
 |nil=>cases h
 |cons p T ih=>
  simp only[iP]at h;split at h
  ·rename_i hp;cases h;subst hp;exact List.mem_cons_self
  ·exact List.mem_cons_of_mem _ (ih h)
theorem BF {T:List (Nat×Nat)} (hn:fe (T.map (·.2))=true) {a a' b:Nat} (h:(a,b) ∈ T) (h':(a',b) ∈ T):a=a':=by
 induction T with
 |nil=>cases h
 |cons p T ih=>
  obtain⟨h1,h2⟩:=mK hn;rcases List.mem_cons.1 h with e | k1
  ·rcases List.mem_cons.1 h' with e' | k2
   ·rw[<-e']at e;exact(Prod.mk.inj e).1
   ·exact absurd (List.mem_map.2 ⟨(a',b),k2,by rw[<-e]⟩) h1
  ·rcases List.mem_cons.1 h' with e' | k2
   ·exact absurd (List.mem_map.2 ⟨(a,b),k1,by rw[<-e']⟩) h1
   ·exact ih h2 k1 k2
theorem ix {α:Type}:∀(l:List α) (s:Nat) (a:Nat) (b:α),(a,b) ∈ cL l s↔s<=a/\l[a - s]?=some b
 |[],s,a,b=>by simp[cL]
 |x::l,s,a,b=>by
  simp only[cL,List.mem_cons,Prod.mk.injEq,ix l (s+1) a b];by_cases h:a=s
  ·subst h;simp;constructor
   ·rintro(h | ⟨h,_⟩)
    ·exact h.symm
    ·omega
   ·intro h;exact .inl h.symm
  ·by_cases h':s<=a
   ·rw[show a - s=(a - (s+1))+1 by omega];simp[h];omega
   ·simp[h];omega
theorem yH {ids news:List Nat} {slot a b:Nat}:(a,b) ∈ kr ids news slot↔ids[b]?=some a\/slot<=a/\news[a - slot]?=some b:=by
 unfold kr;rw[List.mem_append,ix];refine or_congr ?_ Iff.rfl;rw[List.mem_map];constructor
 ·rintro⟨⟨i,x⟩,h,e⟩;cases e;simpa using(ix ids 0 _ _).1 h
 ·intro h;exact⟨(b,a),(ix ids 0 _ _).2 ⟨Nat.zero_le _,by simpa using h⟩,rfl⟩
theorem BG {σ:Nat->Option Nat} {hc:Hp}:∀(T:List (Nat×Nat)) (h h':Hp) (u:Unit),(wF σ hc T).run h=some (u,h')->fe (T.map (·.1))=true->
  (∀id s,get T id=some s->∃o,get hc s=some o/\get h' id=some (lk σ o))/\∀id,get T id=none->get h' id=get h id:=by
 intro T
 induction T with
 |nil=>
  intro h h' u e _;obtain⟨-,rfl⟩:=af e;exact⟨λid s h=>(by cases h),λ_ _=>rfl⟩
 |cons p T ih=>
  intro h h' u e hn;obtain⟨yI,wa⟩:=mK hn;obtain⟨o,ho,e2⟩:=M.lift_bind e;obtain⟨_,h2,e3,e4⟩:=ag e2;obtain rfl:=aL e3;obtain⟨q1,q2⟩:=ih _ _ _ e4 wa;have hp:get T p.1=none:=by
   cases hg:get T p.1 with
   |none=>rfl
   |some s=>exact absurd (List.mem_map.2 ⟨_,get_mem hg,rfl⟩) yI
  refine⟨λid s hs=>?_,λid hs=>?_⟩
  ·simp only[get]at hs;split at hs
   ·rename_i he;cases hs;subst he;exact⟨o,ho,by rw[q2 _ hp];exact aq _ _ _⟩
   ·exact q1 id s hs
  ·simp only[get]at hs;split at hs
   ·cases hs
   ·rename_i he;rw[q2 id hs];exact bF _ _ he
theorem yJ {call:Nat->List AV->Hp->Option (AV×Hp)} (hs:bp ν P call) (r:Rel ν k g) {slot:Nat} {f y:AV} {args:List AV} {h':Hp} (e:(xU call slot f args).run g.h=some (y,h')) {fv:Value} {aT:Array Value}
  (hf:RA ν g fv f) (ha:RL ν g aT.toList args):fA ν P k g h' y fv aT:=by
 obtain⟨q,hq,e2⟩:=M.lift_bind e;obtain⟨ay,rfl,eI⟩:=eN hq hf;obtain⟨ps,h2,e3,e4⟩:=ag e2;obtain⟨rfl,FK⟩:=z7 _ _ _ _ _ _ e3 (λp hp=>by cases hp);obtain⟨hlen,e6⟩:=M.aj e4;obtain⟨p,eo,e8⟩:=M.lift_bind e6;generalize xh:ps.map (·.1)=ids at eo e8;generalize xT p ps.length=news at e8;unfold A6 at e8;generalize hT:kr ids news slot=T at e8;obtain⟨CS,dm⟩:=M.aj e8;obtain⟨_,h6,oz,lu⟩:=ag dm;obtain⟨rfl,CT⟩:=z8 _ _ _ _ _ oz;obtain⟨_,h7,yC,rj⟩:=ag lu;obtain⟨rfl,rfl⟩:=af rj;simp only[Bool.and_eq_true,Nat.ble_eq]at CS hlen
 obtain⟨⟨CU,JR⟩, -⟩:=CS;obtain⟨⟨fn,dp,hb,hn⟩,bt⟩:=hs _ _ _ _ _ eo;have FL:∀{a b:Nat},(a,b) ∈ T↔ids[b]?=some a\/slot<=a/\news[a - slot]?=some b:=by rw[<-hT];exact yH
 have de:∀(i id:Nat),ids[i]?=some id->∃o,ps[i]?=some (id,o)/\get g.h id=some o:=by
  intro i id hi;rw[<-xh,List.getElem?_map,Option.map_eq_some_iff]at hi;obtain⟨⟨bY,o⟩,h1,rfl⟩:=hi;exact⟨o,h1,FK _ (List.mem_of_getElem? h1)⟩
 let oN:Nat->Option Nat:=λi=>(ids[i]?).bind g.φ
 let L:Nat->Prop:=λb=>∃(i id:Nat),ids[i]?=some id/\g.φ id=some b
 let yK:Hp:=cL (ps.map λp=>lk (place ids) p.2) 0
 let g0:Gh:=⟨g.I,oN,g.w,yK⟩
 have ux:∀i id o,ps[i]?=some (id,o)->get g0.h i=some (lk (place ids) o):=λi id o h=>by
  show get yK i=_
  rw[j7,if_pos (Nat.zero_le _),Nat.sub_zero,List.getElem?_map,h];rfl
 have xm:∀i o,get g0.h i=some o->∃id o',ids[i]?=some id/\get g.h id=some o'/\o=lk (place ids) o'/\oN i=g.φ id:=by
  intro i o ho;have cb:get yK i=some o:=ho;rw[j7,if_pos (Nat.zero_le _),Nat.sub_zero,List.getElem?_map,Option.map_eq_some_iff]at cb;obtain⟨⟨id,o'⟩,h1,rfl⟩:=cb;have bw:ids[i]?=some id:=by rw[<-xh,List.getElem?_map,h1];rfl
  exact⟨id,o',bw,FK _ (List.mem_of_getElem? h1),rfl,by simp[oN,bw]⟩
 have iE:∀id i,place ids id=some i->get g0.h i=(get g.h id).map (lk (place ids))/\oN i=g.φ id:=by
  intro id i h;have bw:=fl h;obtain⟨o,h1,h2⟩:=de i id bw;exact⟨by rw[ux i id o h1,h2];rfl,by simp[oN,bw]⟩
 have CV:∀(d:Nat) (v:Value) (x:AV),RA ν g v x->RA ν g0 v (lj (place ids) d x):=
  uA (g:=g) (g':=g0) (λ_ _ h=>h) (λid i hi v o n ai h=>pH (iE id i hi).1 (iE id i hi).2 (λ_ _=>rfl) h) λid i hi v ai a b h=>pI (iE id i hi).1 (iE id i hi).2 h
 have low:∀{i id:Nat},ids[i]?=some id->i<1000:=λh=>by
  have h1:=aA h;rw[<-xh,List.length_map]at h1;omega
 have yL:∀{i id:Nat},ids[i]?=some id->get T id=some i:=λh=>v8 CU (FL.2 (.inl h))
 have Lt:∀b,L b->b<g.w.heap.size:=by
  rintro b ⟨i,id,bw,ah⟩;obtain⟨o, -,ho⟩:=de i id bw;exact(r.ob id o ho).block ah r.small
 have r0:Rel ν ⟨g.w,g.I,L⟩ g0:=by
  refine⟨λi o ho=>?_,λi i' o o' b ho cb ah aO=>?_,r.small,λ_ h=>h,λ_ h=>.inl h,λi o b ho ah=>?_,Nat.le_refl _,rfl,rfl,rfl,λ_ _ _=>rfl⟩
  ·obtain⟨id,o',bw,hg,rfl,ah⟩:=xm i o ho;exact yG (g:=g) (g':=g0) (r.ob id o' hg) ah rfl rfl (CV 8)
  ·obtain⟨id,o1,bw,hg, -,qy⟩:=xm i o ho;obtain⟨bY,JS,j8,dg, -,xl⟩:=xm i' o' cb;have:=r.inj id bY o1 JS b hg dg (qy.symm.trans ah) (xl.symm.trans aO);subst this;have a1:=yL bw;rw[yL j8]at a1;exact(Option.some.inj a1).symm
  ·obtain⟨id,o1,bw,hg, -,qy⟩:=xm i o ho;exact .inl ⟨i,id,bw,qy.symm.trans ah⟩
 have dn:RL ν g0 (aT++ay).toList ((args++q.2).map (lj (place ids) 8)):=by
  have hA:=ha.append eI;refine⟨by have:=hA.1;simpa using this,λj v y h1 h2=>?_⟩;simp only[List.getElem?_map,Option.map_eq_some_iff]at h2;obtain⟨y',hy,rfl⟩:=h2;exact CV 8 v y' (hA.2 j v y' (by simpa using h1) hy)
 refine⟨q.1,ay,fn,rfl,dp,hb,hn,(bt ⟨g.w,g.I,L⟩ g0 (aT++ay) rfl rfl rfl r0 dn).mono ?_⟩;rintro e w' ⟨v,g',rfl,rfl,CP,r',ml,hR⟩;obtain⟨q1,q2⟩:=BG T _ _ _ yC CU
 let g2:Gh:=⟨g'.I,λid=>match get T id with | some s=>g'.φ s | none=>g.φ id,g'.w,h'⟩
 have eW:∀{id s:Nat},get T id=some s->g2.φ id=g'.φ s/\∃o,get g'.h s=some o/\get g2.h id=some (lk (iP T) o):=by
  intro id s uB;obtain⟨o,a1,a2⟩:=q1 id s uB;exact⟨by simp[g2,uB],o,by rw[CP];exact a1,a2⟩
 have gk:∀{id:Nat},get T id=none->g2.φ id=g.φ id/\get g2.h id=get g.h id:=λuB=>⟨by simp[g2,uB],q2 _ uB⟩
 have alive:∀{id s:Nat} {o:Ob},get T id=some s->get g.h id=some o->ids[s]?=some id:=by
  intro id s o uB ho;rcases FL.1 (get_mem uB)with h | ⟨h,dJ⟩
  ·exact h
  ·have:=CT (id - slot) (aA dJ);rw[show slot+(id - slot)=id by omega,ho]at this;cases this
 have jB:∀{id:Nat} {o:Ob} {b:Nat},get T id=none->get g.h id=some o->g.φ id=some b->¬L b:=by
  rintro id o b bN ho ah ⟨i,bY,j8,aO⟩;obtain⟨o', -,dg⟩:=de i bY j8;have:=r.inj id bY o o' b ho dg ah aO;subst this;rw[yL j8]at bN;cases bN
 have mr:∀b,b<g.w.heap.size->(¬L b\/g.I b)->g'.w.heap[b]?=g.w.heap[b]?:=λb fT h=>r'.cr b fT h
 have ck:∀v x,RI ν g.I g.w v x->RI ν g'.I g'.w v x:=λv x h=>h.mono (λb fT=>r'.i0 b fT) λb off u fT hc=>by
  rw[bx (mr b (r.small b fT) (.inr fT))];exact hc
 have CW:∀i id,iP T i=some id->get T id=some i:=λi id h=>v8 CU (Aa h)
 have CX:∀(d:Nat) (v:Value) (x:AV),RA ν g' v x->RA ν g2 v (lj (iP T) d x):=
  uA (g:=g') (g':=g2) (λ_ _ h=>h)
   (λi id hi v o n ai h=>by
    obtain⟨a1,ob,a2,a3⟩:=eW (CW i id hi);exact pH (ρ:=iP T) (by rw[a3,a2];rfl) a1 (λ_ _=>rfl) h)
   λi id hi v ai a b h=>by
    obtain⟨a1,ob,a2,a3⟩:=eW (CW i id hi);exact pI (ρ:=iP T) (by rw[a3,a2];rfl) a1 h
 have CY:∀{i id:Nat},ids[i]?=some id->place ids id=some i:=by
  intro i id h;cases bN:place ids id with
  |none=>exact absurd h (rA bN i)
  |some i'=>
   have a1:=yL (fl bN);rw[yL h]at a1;exact congrArg some (Option.some.inj a1).symm
 have m2:aX ν g g2:=by
  intro v x hx;refine hx.Bn (g':=g2) ck ?_ ?_
  ·intro v id o n ai ed ho;obtain⟨ob,ep⟩:=ho.alive;cases bN:get T id with
   |some i=>
    have bw:=alive bN ep;have yM:=iE id i (CY bw);have h:=ml.own v i o n ai (low bw) ed (pH yM.1 yM.2 (λ_ _=>rfl) ho);obtain⟨a1,JT,a2,a3⟩:=eW bN;exact pH (ρ:=iP T) (by rw[a3,a2];rfl) a1 (λ_ _=>rfl) h
   |none=>
    obtain⟨a1,a2⟩:=gk bN;exact ho.other (g':=g2) a2 a1 λb ah=>mr b ((r.ob id _ ep).block ah r.small) (.inl (jB bN ep ah))
  ·intro v id ai a b ed hr;obtain⟨ob,ep⟩:=hr.alive;cases bN:get T id with
   |some i=>
    have bw:=alive bN ep;have yM:=iE id i (CY bw);have h:=ml.ref v i ai a b (low bw) ed (pI yM.1 yM.2 hr);obtain⟨a1,JT,a2,a3⟩:=eW bN;exact pI (ρ:=iP T) (by rw[a3,a2];rfl) a1 h
   |none=>
    obtain⟨a1,a2⟩:=gk bN;exact hr.other (g':=g2) a2 a1
 have CQ:∀b,b<g.w.heap.size->g'.I b->g.I b\/L b:=by
  intro b fT h;rcases r'.i1 b h with h | h | h
  ·exact .inl h
  ·exact .inr h
  ·simp only[]at h;omega
 have r2:Rel ν k g2:=by
  refine⟨λid o ho=>?_,λid bY o o' b ho cb ah aO=>?_,r'.small,λb h=>r'.i0 b (r.i0 b h),λb h=>?_,λid o b ho ah=>?_,Nat.le_trans r.size r'.size,r'.os.trans r.os,r'.tape.trans r.tape,r'.output.trans r.output,λb fT hk=>?_⟩
  ·cases bN:get T id with
   |some s=>
    obtain⟨a1,ob,a2,a3⟩:=eW bN;rw[a3]at ho;cases ho;exact yG (g:=g') (g':=g2) (r'.ob s _ a2) a1 rfl rfl (CX 8)
   |none=>
    obtain⟨a1,a2⟩:=gk bN;have cb:get g.h id=some o:=a2.symm.trans ho;refine(r.ob id o cb).other (g':=g2) a1 m2 ck r'.size (λb ah=>mr b ((r.ob id _ cb).block ah r.small) (.inl (jB bN cb ah))) λb ah=>?_
    have aV:=(r.ob id _ cb).block ah r.small;exact⟨λh=>(CQ b aV h).resolve_right (jB bN cb ah),λh=>r'.i0 b h⟩
  ·have rB:∀{a c s:Nat} {oc:Ob},get T a=some s->get T c=none->get g2.h c=some oc->g2.φ a=some b->g2.φ c=some b->False:=by
    intro a c s oc jf bQ CR h1 h2;obtain⟨a1,ob,a2,a3⟩:=eW jf;obtain⟨b1,b2⟩:=gk bQ;have yF:get g.h c=some oc:=b2.symm.trans CR;have uz:g.φ c=some b:=b1.symm.trans h2;rcases r'.own s ob b a2 (a1.symm.trans h1)with h | h
    ·exact jB bQ yF uz h
    ·have:=(r.ob c _ yF).block uz r.small;simp only[]at h this;omega
   cases jf:get T id with
   |some s=>
    cases bQ:get T bY with
    |some s'=>
     obtain⟨a1,ob,a2,a3⟩:=eW jf;obtain⟨b1,jv,b2,b3⟩:=eW bQ;have:=r'.inj s s' ob jv b a2 b2 (a1.symm.trans ah) (b1.symm.trans aO);subst this;exact BF JR (get_mem jf) (get_mem bQ)
    |none=>exact(rB jf bQ cb ah aO).elim
   |none=>
    cases bQ:get T bY with
    |some s'=>exact(rB bQ jf ho aO ah).elim
    |none=>
     obtain⟨a1,a2⟩:=gk jf;obtain⟨b1,b2⟩:=gk bQ;exact r.inj id bY o o' b (a2.symm.trans ho) (b2.symm.trans cb) (a1.symm.trans ah) (b1.symm.trans aO)
  ·rcases r'.i1 b h with h | ⟨i,id,bw,ah⟩|h
   ·exact r.i1 b h
   ·obtain⟨o, -,hg⟩:=de i id bw;exact .inr (r.own id _ b hg ah)
   ·exact .inr (.inr (Nat.le_trans r.size h))
  ·cases jf:get T id with
   |some s=>
    obtain⟨a1,ob,a2,a3⟩:=eW jf;rcases r'.own s ob b a2 (a1.symm.trans ah)with⟨i',bY,j8,aO⟩|h
    ·obtain⟨o', -,dg⟩:=de i' bY j8;exact r.own bY _ b dg aO
    ·exact .inr (Nat.le_trans r.size h)
   |none=>
    obtain⟨a1,a2⟩:=gk jf;exact r.own id o b (a2.symm.trans ho) (a1.symm.trans ah)
  ·have aV:b<g.w.heap.size:=Nat.lt_of_lt_of_le fT r.size;refine(mr b aV ?_).trans (r.cr b fT hk);rcases hk with hk | hk
   ·refine .inl ?_;rintro⟨i,id,bw,ah⟩;obtain⟨o, -,hg⟩:=de i id bw;rcases r.own id _ b hg ah with h | h
    ·exact hk h
    ·omega
   ·exact .inr (r.i0 b hk)
 exact⟨v,g2,rfl,rfl,rfl,r2,m2,CX 8 v _ hR⟩
end
section
variable {ν:Nat->Nat} {P:Program} {k:Cx} {g:Gh}
theorem aB {o:Oper} {a:Act} {h':Hp} {y:AV} {s:Sem Value} (hx:execOp a.eval o=(do pure (.value (<-s)):Sem Next)) (d:bf ν k g h' y (s.run P g.w)) {next:Act->World->Prop} {Q:Exit->Act->World->Prop}
  (hn:∀g' v,g'.h=h'->Rel ν k g'->aX ν g g'->RA ν g' v y->next (a.put o.dst v) g'.w):o.wp P a g.w next Q:=by
 obtain⟨g',v,hr,hh,r',m,hR⟩:=d;unfold Oper.wp;rw[hx];simp only[Sem.run_bind,hr,Result.andThen_ok,Sem.run_pure];exact hn g' v hh r' m hR
theorem iy {o:Oper} {a:Act} {h':Hp} {y:AV} {fo:Operand} {aT:Array Operand} {cC:Array TypeId} (ho:o.op = .call { callee:=.value fo,args:=aT,argTypes:=cC })
  (d:fA ν P k g h' y (a.eval fo) (aT.map a.eval)) {next:Act->World->Prop} {Q:Exit->Act->World->Prop}
  (hn:∀g' v,g'.h=h'->Rel ν k g'->aX ν g g'->RA ν g' v y->next (a.put o.dst v) g'.w):o.wp P a g.w next Q:=by
 obtain⟨q,ay,fn,hf,dp,hb,rC,hc⟩:=d;unfold Oper.wp;rw[oK ho hf dp hb rC];rw[Oper.upon_enter];refine hc.mono ?_;rintro e w' ⟨v,g',rfl,rfl,hh,r',m,hR⟩;exact hn g' v hh r' m hR
theorem qz {a:Act} {x:Operand} (h:pW x=true):∃kk,a.eval x = .int kk 0:=by
 unfold pW at h;split at h
 ·rename_i kk n;have:=beq_iff_eq.1 h;subst this;exact⟨kk,rfl⟩
 ·cases h
theorem fP {a:Act} {fr:Fr} (hf:eU ν g a.tmps fr) {xs:Array Operand} {ys:List aK} (h:dE ν xs.toList ys=true):RL ν g (xs.map a.eval).toList (ys.map (ev fr)):=by
 obtain⟨h1,h2⟩:=lz hf h;exact⟨by simpa using h1,λj v x hv hx=>h2 j v x (by simpa using hv) hx⟩
theorem lF {a:Act} {fr:Fr} (hf:eU ν g a.tmps fr):∀{ps:List (Nat×Operand)} {qs:List (Nat×aK)},fO ν ps qs=true->
  (ps.map λp=>(p.1,a.eval p.2)).length=(qs.map λp=>(p.1,ev fr p.2)).length/\
  ∀(j:Nat) (q:Nat×Value) (p:Nat×AV),(ps.map λp=>(p.1,a.eval p.2))[j]?=some q->(qs.map λp=>(p.1,ev fr p.2))[j]?=some p->q.1=p.1/\RA ν g q.2 p.2
 |[],[],_=>⟨rfl,λj v x h=>by simp at h⟩
 |x::xs,y::ys,h=>by
  simp only[fO,Bool.and_eq_true,beq_iff_eq]at h;obtain⟨h1,h2⟩:=lF hf h.2;refine⟨by simpa using h1,λj v z hv hz=>?_⟩;cases j with
  |zero=>simp at hv hz;subst hv hz;exact⟨h.1.1,ak hf h.1.2⟩
  |succ j=>exact h2 j v z (by simpa using hv) (by simpa using hz)
 |[],_::_,h=>by simp[fO]at h
 |_::_,[],h=>by simp[fO]at h
set_option maxHeartbeats 4000000 in
theorem xn {call:Nat->List AV->Hp->Option (AV×Hp)} (hs:bp ν P call) {o:Oper} {a:Act} {fr:Fr} {io:js} {slot:Nat} (hc:ry P ν o.op io=true) (r:Rel ν k g) (hf:eU ν g a.tmps fr) {y:AV} {h':Hp}
  (e:(bn call slot (ev fr) io).run g.h=some (y,h')) {next:Act->World->Prop} {Q:Exit->Act->World->Prop}
  (hn:∀g' v,g'.h=h'->Rel ν k g'->aX ν g g'->RA ν g' v y->next (a.put o.dst v) g'.w):o.wp P a g.w next Q:=by
 unfold ry at hc;split at hc
 case h_1 y'=>
  obtain⟨rfl,rfl⟩:=af e;split at hc
  ·rename_i x ho;exact aB (s:=pure (a.eval x)) (by simp[execOp,ho]) (.same r rfl (ak hf hc)) hn
  ·rename_i x ho;exact aB (s:=pure (a.eval x)) (by simp[execOp,ho]) (.same r rfl (ak hf hc)) hn
  ·cases hc
 case h_2=>
  split at hc
  ·rename_i ho;exact aB (s:=pure (.slice none 0 0)) (by simp[execOp,ho,Act.eval]) (vY (a:=none) r e) hn
  ·rename_i ho;exact aB (s:=pure (.slice none 0 0)) (by simp[execOp,ho,Act.eval]) (vY (a:=none) r e) hn
  ·cases hc
 case h_3=>
  split at hc
  case h_2=>cases hc
  rename_i c x z ho;simp only[Bool.and_eq_true]at hc;simp only[bn]at e;split at e
  case h_2=>exact(ae e).elim
  rename_i t ht;obtain⟨rfl,rfl⟩:=af e;have h1:=ak hf hc.1.1;rw[ht]at h1;have hb:=h1.bool;refine aB (s:=do pure (if <-asBool (a.eval c) then a.eval x else a.eval z)) (by simp[execOp,ho]) (.same r (v:=if t then a.eval x else a.eval z) (by simp[hb,asBool]) ?_) hn;cases t
  ·exact ak hf hc.2
  ·exact ak hf hc.1.2
 case h_4=>
  split at hc
  case h_2=>cases hc
  rename_i t ho;exact aB (s:=Instr.alloc t true (.tuple #[])) (by simp[execOp,ho]) (ox r hc e) hn
 case h_5=>
  split at hc
  case h_2=>cases hc
  rename_i t x ho;exact aB (s:=Instr.box t (a.eval x)) (by simp[execOp,ho]) (tZ r (ak hf hc) e) hn
 case h_6=>
  split at hc
  case h_2=>cases hc
  rename_i t ps ho;simp only[Bool.and_eq_true]at hc;obtain⟨hz,hc⟩:=hc;split at hc
  case h_2=>cases hc
  rename_i pl iE;exact aB (s:=Instr.build t (ps.map fun(i,x)=>(i,a.eval x))) (by simp[execOp,ho]) (qv r hf hz iE hc e) hn
 case h_7 e0 z n' qs=>
  split at hc
  case h_2=>cases hc
  rename_i t n ps ho;simp only[Bool.and_eq_true,beq_iff_eq]at hc;obtain⟨⟨rfl,hb⟩,hq⟩:=hc;obtain⟨hl,hp⟩:=lF hf hq;refine aB (s:=Instr.buildSlice t n (ps.toList.map λp=>(p.1,a.eval p.2)).toArray) (by
   have:(ps.map fun(p:Nat×Operand)=>(p.1,a.eval p.2))=(ps.toList.map λp=>(p.1,a.eval p.2)).toArray:=by apply Array.ext';simp
   simp only[execOp,ho];rw[<-this]) (ud (slot:=slot) r hb hl hp ?_) hn
  rw[M.lv];exact e
 case h_8=>
  split at hc
  case h_2=>cases hc
  rename_i t x ho;simp only[Bool.and_eq_true]at hc;exact aB (s:=Instr.loadAt t (a.eval x)) (by simp[execOp,ho]) (sk r hc.1 (ak hf hc.2) e) hn
 case h_9=>
  split at hc
  case h_2=>cases hc
  rename_i t x z ho;simp only[Bool.and_eq_true]at hc;obtain⟨g',bd,rfl,hh,r',m⟩:=qo r hc.1.1 (ak hf hc.1.2) (ak hf hc.2) e;unfold Oper.wp;have hx:(execOp a.eval o).run P g.w = .ok .skip g'.w:=by simp[execOp,ho,bd]
  rw[hx];exact hn g' undef hh r' m (.aR rfl λj v c h=>by simp at h)
 case h_10=>
  split at hc
  case h_2=>cases hc
  rename_i t x f ho;simp only[Bool.and_eq_true]at hc;exact aB (s:=Instr.fieldAt t (a.eval x) f) (by simp[execOp,ho]) (sm r hc.1 (ak hf hc.2) e) hn
 case h_11=>
  split at hc
  case h_2=>cases hc
  rename_i t x f ho;simp only[Bool.and_eq_true]at hc;exact aB (s:=Instr.field t (a.eval x) f) (by simp[execOp,ho]) (tQ r hc.1 (ak hf hc.2) e) hn
 case h_12=>
  split at hc
  case h_2=>cases hc
  rename_i t x z ho;simp only[Bool.and_eq_true]at hc;exact aB (s:=Instr.indexAt t (a.eval x) (a.eval z)) (by simp[execOp,ho]) (sn r hc.1.1 (ak hf hc.1.2) (ak hf hc.2) e) hn
 case h_13=>
  split at hc
  case h_2=>cases hc
  rename_i t x z ho;simp only[Bool.and_eq_true]at hc;exact aB (s:=Instr.indexAt t (a.eval x) (a.eval z)) (by simp[execOp,ho]) (tP r hc.1.1 (ak hf hc.1.2) (ak hf hc.2) e) hn
 case h_14=>
  split at hc
  case h_2=>cases hc
  rename_i t x z ho;simp only[Bool.and_eq_true]at hc;exact aB (s:=Instr.index t (a.eval x) (a.eval z)) (by simp[execOp,ho]) (sr r hc.1.1 (ak hf hc.1.2) (ak hf hc.2) e) hn
 case h_15=>
  split at hc
  case h_2=>cases hc
  rename_i t x z ho;simp only[Bool.and_eq_true]at hc;exact aB (s:=Instr.index t (a.eval x) (a.eval z)) (by simp[execOp,ho]) (su r (dW hc.1.1) (ak hf hc.1.2) (ak hf hc.2) e) hn
 case h_16 bo q x' y'=>
  split at hc
  case h_2=>cases hc
  rename_i b t x z yt ho;simp only[Bool.and_eq_true,beq_iff_eq]at hc;obtain⟨⟨⟨rfl,hq⟩,hx⟩,hz⟩:=hc;obtain⟨w',hb,e2⟩:=M.lift_bind e;obtain⟨rfl,rfl⟩:=af e2;exact aB (s:=do eqGuard b t x z (a.eval x) (a.eval z);binOp b t (a.eval x) (a.eval z)) (by simp[execOp,ho]) (tS r hq (ak hf hx) (ak hf hz) hb) hn
 case h_17 neg qs x' y'=>
  split at hc
  case h_2=>cases hc
  rename_i b t x z yt ho;simp only[Bool.and_eq_true,beq_iff_eq]at hc;obtain⟨⟨⟨rfl,hq⟩,hx⟩,hz⟩:=hc;simp only[bn]at e;split at e
  case h_2=>exact(ae e).elim
  rename_i xs ys CZ oF;obtain⟨w',hb,e2⟩:=M.lift_bind e;obtain⟨rfl,rfl⟩:=af e2;have h1:=ak hf hx;have h2:=ak hf hz;rw[CZ]at h1;rw[oF]at h2;exact aB (s:=do eqGuard (if neg then .neq else .eql) t x z (a.eval x) (a.eval z);binOp (if neg then .neq else .eql) t (a.eval x) (a.eval z)) (by simp[execOp,ho]) (Co r hq neg h1 h2 hb) hn
 case h_18 uo x'=>
  split at hc
  case h_2=>cases hc
  rename_i u t x ho;simp only[Bool.and_eq_true,beq_iff_eq]at hc;obtain⟨rfl,hx⟩:=hc;obtain⟨w',hb,e2⟩:=M.lift_bind e;obtain⟨rfl,rfl⟩:=af e2;exact aB (s:=Op.unary u (a.eval x)) (by simp[execOp,ho]) (xb r (ak hf hx) hb) hn
 case h_19=>
  split at hc
  case h_2=>cases hc
  rename_i s d x ho;simp only[Bool.and_eq_true]at hc;obtain⟨n,h1,e1,e2⟩:=ag e;have hh:=(cQ e1).1;subst hh;obtain⟨rfl,rfl⟩:=af e2;exact aB (s:=convert s d (a.eval x)) (by simp[execOp,ho]) (tU r hc.1 (ak hf hc.2) e1) hn
 case h_20=>
  split at hc
  case h_2=>cases hc
  rename_i s d x ho;simp only[Bool.and_eq_true]at hc;simp only[bn]at e;split at e
  case h_2=>exact(ae e).elim
  rename_i t ht;obtain⟨rfl,rfl⟩:=af e;have h1:=ak hf hc.2;rw[ht]at h1;exact aB (s:=convert s d (a.eval x)) (by simp[execOp,ho]) (tV r (dW hc.1.1) (dW hc.1.2) h1) hn
 case h_21=>
  split at hc
  case h_2=>cases hc
  rename_i t x lo hi ho;simp only[Bool.and_eq_true]at hc;exact aB (s:=Instr.sliceAt t (a.eval x) (lo.map a.eval) (hi.map a.eval) none) (by simp[execOp,ho]) (tW r hc.1.1.1 (ak hf hc.1.1.2) (eV hf hc.1.2) (eV hf hc.2) e) hn
 case h_22=>
  split at hc
  case h_2=>cases hc
  rename_i t x lo hi ho;simp only[Bool.and_eq_true]at hc;exact aB (s:=Instr.sliceAt t (a.eval x) (lo.map a.eval) (hi.map a.eval) none) (by simp[execOp,ho]) (sw r (dW hc.1.1.1) (ak hf hc.1.1.2) (eV hf hc.1.2) (eV hf hc.2) e) hn
 case h_23=>
  split at hc
  case h_2=>cases hc
  rename_i t x lo hi mx ho;simp only[Bool.and_eq_true]at hc;obtain⟨⟨⟨⟨h1,h2⟩,h3⟩,h4⟩,h5⟩:=hc;obtain⟨k1,C0⟩:=qz (a:=a) h4;obtain⟨k2,C1⟩:=qz (a:=a) h5;have C2:lo.map a.eval=none\/∃k3,lo.map a.eval=some (.int k3 0):=by
   cases lo with
   |none=>exact .inl rfl
   |some l=>
    obtain⟨k3,C3⟩:=qz (a:=a) h3;exact .inr ⟨k3,by simp[C3]⟩
  exact aB (s:=Instr.sliceAt t (a.eval x) (lo.map a.eval) (some (.int k1 0)) (some (.int k2 0))) (by simp[execOp,ho,C0,C1]) (tX r h1 C2 (ak hf h2) e) hn
 case h_24=>
  split at hc
  case h_2=>cases hc
  rename_i args cC ho;split at hc
  case h_2=>cases hc
  rename_i x t hx ht;obtain rfl:args=#[x]:=Array.ext' hx;obtain rfl:cC=#[t]:=Array.ext' ht;simp only[Bool.and_eq_true]at hc;exact aB (s:=Builtin.clear_ #[t] o.type #[a.eval x]) (by simp[execOp,ho,resolve,invoke,builtin]) (uh r hc.1 (ak hf hc.2) e) hn
 case h_25=>
  split at hc
  case h_2=>cases hc
  rename_i args cC ho;split at hc
  case h_2=>cases hc
  rename_i x t hx ht;obtain rfl:args=#[x]:=Array.ext' hx;obtain rfl:cC=#[t]:=Array.ext' ht;simp only[Bool.and_eq_true]at hc;exact aB (s:=Builtin.len_ #[t] o.type #[a.eval x]) (by simp[execOp,ho,resolve,invoke,builtin]) (tY r hc.1 (ak hf hc.2) e) hn
 case h_26=>
  split at hc
  case h_2=>cases hc
  rename_i args cC ho;split at hc
  case h_2=>cases hc
  rename_i x z t u hx ht;obtain rfl:args=#[x,z]:=Array.ext' hx;obtain rfl:cC=#[t,u]:=Array.ext' ht;simp only[Bool.and_eq_true]at hc;exact aB (s:=Builtin.append_ #[t,u] o.type #[a.eval x,a.eval z]) (by simp[execOp,ho,resolve,invoke,builtin]) (ug r hc.1.1 (ak hf hc.1.2) (ak hf hc.2) e) hn
 case h_27 x' ys=>
  split at hc
  case h_2=>cases hc
  rename_i args cC ho;have hR:=fP hf hc;simp only[bn]at e;split at e
  case h_2=>exact(ae e).elim
  rename_i kk n hx;obtain⟨z,hz,e2⟩:=M.lift_bind e;obtain⟨rfl,rfl⟩:=af e2;simp only[List.map_cons]at hR;generalize eR:(args.map a.eval).toList=vs at hR;cases vs with
  |nil=>have:=hR.1;simp at this
  |cons v vs=>
   have h0:=hR.tail.1;rw[hx]at h0;obtain rfl:=h0.int;have bd:=xc P g.w (ys.map (ev fr)) vs n kk z hz hR.tail.2.1 hR.tail.2.2;exact aB (s:=Builtin.min_ cC o.type (args.map a.eval)) (by simp[execOp,ho,resolve,invoke,builtin]) (.same r (v:=.int kk z) (by simp only[Builtin.min_,eR];exact bd) mkInt) hn
 case h_28 x' ys=>
  split at hc
  case h_2=>cases hc
  rename_i args cC ho;have hR:=fP hf hc;simp only[bn]at e;split at e
  case h_2=>exact(ae e).elim
  rename_i kk n hx;obtain⟨z,hz,e2⟩:=M.lift_bind e;obtain⟨rfl,rfl⟩:=af e2;simp only[List.map_cons]at hR;generalize eR:(args.map a.eval).toList=vs at hR;cases vs with
  |nil=>have:=hR.1;simp at this
  |cons v vs=>
   have h0:=hR.tail.1;rw[hx]at h0;obtain rfl:=h0.int;have bd:=xd P g.w (ys.map (ev fr)) vs n kk z hz hR.tail.2.1 hR.tail.2.2;exact aB (s:=Builtin.max_ cC o.type (args.map a.eval)) (by simp[execOp,ho,resolve,invoke,builtin]) (.same r (v:=.int kk z) (by simp only[Builtin.max_,eR];exact bd) mkInt) hn
 case h_29 x' i'=>
  split at hc
  case h_2=>cases hc
  rename_i x i ho;simp only[Bool.and_eq_true,beq_iff_eq]at hc;obtain⟨rfl,hx⟩:=hc;simp only[bn]at e;split at e
  case h_2=>exact(ae e).elim
  rename_i vs eR;obtain⟨hy,rfl⟩:=dz e;have h1:=ak hf hx;rw[eR]at h1;obtain⟨us,C4,dJ,fW⟩:∃us,a.eval x = .tuple us/\us.size=vs.length/\∀(j:Nat) (v:Value) (c:AV),us[j]?=some v->vs[j]?=some c->RA ν g v c:=by
   generalize a.eval x=vv at h1;cases h1 with | aR h1 h2=>exact⟨_,rfl,h1,h2⟩
  have aV:=aA hy;have hu:us[i]?=some us[i]:=Array.getElem?_eq_getElem (by omega);exact aB (s:=Instr.extract (a.eval x) i) (by simp[execOp,ho]) (.same r (v:=us[i]) (by simp[C4,Instr.extract,hu]) (fW i _ _ hu hy)) hn
 case h_30=>
  split at hc
  case h_2=>cases hc
  rename_i x ho;have h1:=ak hf hc;simp only[bn]at e;split at e
  ·rename_i id ai i j hx;rw[hx]at h1;obtain⟨ob,hg,e2⟩:=M.aM e;obtain⟨ct,e4⟩:=M.aj e2;obtain⟨rfl,rfl⟩:=af e4;have hr:aI g (a.eval x) id ai i j:=by
    generalize a.eval x=vv at h1;cases h1 with | ref _ hr=>exact hr
   obtain⟨b,off,hv, -⟩:=hr.move hg ct 0;refine aB (s:=pure (a.eval x)) ?_ (.same r rfl h1) hn;simp[execOp,ho,hv]
  ·rename_i cs hx;rw[hx]at h1;obtain⟨rfl,rfl⟩:=af e;obtain⟨b,off,hv⟩:=h1.ptr;refine aB (s:=pure (a.eval x)) ?_ (.same r rfl h1) hn;simp[execOp,ho,hv]
  ·rename_i f cs hx;rw[hx]at h1;obtain⟨rfl,rfl⟩:=af e;have hv:∃ay,a.eval x = .func (.func (ν f)) #[] ay:=by
    generalize a.eval x=v at h1;cases h1 with | iv h=>cases h with | fn f ay cs h1 h2=>exact⟨ay,rfl⟩
   obtain⟨ay,hv⟩:=hv;refine aB (s:=pure (a.eval x)) ?_ (.same r rfl h1) hn;simp[execOp,ho,hv]
  ·rename_i f cs hx;rw[hx]at h1;obtain⟨rfl,rfl⟩:=af e;have hv:∃ay,a.eval x = .func (.func (ν f)) #[] ay:=by
    generalize a.eval x=v at h1;cases h1 with | bJ h1 h2=>exact⟨_,rfl⟩
   obtain⟨ay,hv⟩:=hv;refine aB (s:=pure (a.eval x)) ?_ (.same r rfl h1) hn;simp[execOp,ho,hv]
  ·exact(ae e).elim
 case h_31 f' rz=>
  split at hc
  case h_2=>cases hc
  rename_i f first ay ho
  simp only[Bool.and_eq_true,beq_iff_eq]at hc;obtain⟨⟨rfl,jC⟩,eI⟩:=hc;obtain⟨rfl,rfl⟩:=af e;have hR:=fP hf eI;have yN:first=#[]:=by simpa using jC
  subst yN;refine aB (s:=Instr.makeFunc (.func (ν f')) (Array.map a.eval #[]) (ay.map a.eval)) (by simp[execOp,ho]) (.same r (v:=.func (.func (ν f')) #[] (ay.map a.eval)) (by simp[Instr.makeFunc]) ?_) hn;exact .bJ (by have:=hR.1;simpa using this) λj v c h1 h2=>hR.2 j v c (by simpa using h1) h2
 case h_32 mode f' kl=>
  split at hc
  case h_2=>cases hc
  rename_i fo aT cC ho;simp only[Bool.and_eq_true]at hc;have mu:=ak hf hc.1;have hR:=fP hf hc.2;simp only[bn]at e;split at e
  ·exact iy ho (qx hs r e mu hR) hn
  ·exact iy ho (yE hs r e mu hR) hn
  ·exact iy ho (yB hs r e mu hR) hn
  ·exact iy ho (yJ hs r e mu hR) hn
  ·exact iy ho (oL hs r e mu hR) hn
 case h_33 x'=>
  split at hc
  case h_2=>cases hc
  rename_i s d x ho;simp only[Bool.and_eq_true]at hc;exact aB (s:=convert s d (a.eval x)) (by simp[execOp,ho]) (ur r hc.1.1 hc.1.2 (ak hf hc.2) e) hn
 case h_34=>
  split at hc
  case h_2=>cases hc
  rename_i t ho;exact aB (s:=Instr.makeMap t none) (by simp[execOp,ho]) (um r e) hn
 case h_35 ok agg qs z m' k'=>
  split at hc
  case h_2=>cases hc
  rename_i t m kk o ho;simp only[Bool.and_eq_true,beq_iff_eq]at hc;obtain⟨⟨⟨⟨rfl,h1⟩,h2⟩,h3⟩,h4⟩:=hc;exact aB (s:=Instr.lookup t (a.eval m) (a.eval kk) o) (by simp[execOp,ho]) (sC r h1 h2 (ak hf h3) (ak hf h4) e) hn
 case h_36 qs m' k' x'=>
  have key:∀{t:TypeId} {m kk x:Operand},(o.op = .mapUpdate t m kk x\/o.op = .insert t m kk x)->(iG P t qs&&aG ν m m'&&aG ν kk k'&&aG ν x x')=true->o.wp P a g.w next Q:=by
   intro t m kk x ho hc;simp only[Bool.and_eq_true]at hc;obtain⟨g',bd,rfl,hh,r',mm⟩:=sE r hc.1.1.1 (ak hf hc.1.1.2) (ak hf hc.1.2) (ak hf hc.2) e;unfold Oper.wp;have hx:(execOp a.eval o).run P g.w = .ok .skip g'.w:=by rcases ho with ho | ho<;>simp[execOp,ho,bd]
   rw[hx];exact hn g' undef hh r' mm (.aR rfl λj v c h=>by simp at h)
  split at hc
  ·rename_i ho;exact key (.inl ho) hc
  ·rename_i ho;exact key (.inr ho) hc
  ·cases hc
 case h_37 qs m' k'=>
  split at hc
  case h_2=>cases hc
  rename_i args cC ho;split at hc
  case h_2=>cases hc
  rename_i x z t u hx ht;obtain rfl:args=#[x,z]:=Array.ext' hx;obtain rfl:cC=#[t,u]:=Array.ext' ht;simp only[Bool.and_eq_true]at hc;exact aB (s:=Builtin.delete_ #[t,u] o.type #[a.eval x,a.eval z]) (by simp[execOp,ho,resolve,invoke,builtin]) (sF r hc.1.1 (ak hf hc.1.2) (ak hf hc.2) e) hn
 case h_38 m'=>
  split at hc
  case h_2=>cases hc
  rename_i args cC ho;split at hc
  case h_2=>cases hc
  rename_i x t hx ht;obtain rfl:args=#[x]:=Array.ext' hx;obtain rfl:cC=#[t]:=Array.ext' ht;simp only[Bool.and_eq_true]at hc;exact aB (s:=Builtin.len_ #[t] o.type #[a.eval x]) (by simp[execOp,ho,resolve,invoke,builtin]) (sD r hc.1 (ak hf hc.2) e) hn
end
end al
namespace al
open Go
def GE {α:Type} (h h':List (Nat×α)):Prop:=∀n,get h n=get h' n
theorem GE.refl {α:Type} (h:List (Nat×α)):GE h h:=λ_=>rfl
theorem GE.symm {α:Type} {h h':List (Nat×α)} (e:GE h h'):GE h' h:=λn=>(e n).symm
theorem GE.trans {α:Type} {a b c:List (Nat×α)} (e:GE a b) (f:GE b c):GE a c:=λn=>(e n).trans (f n)
theorem GE.set {α:Type} {h h':List (Nat×α)} (e:GE h h') (n:Nat) (x:α):GE (set h n x) (set h' n x):=λm=>by simp[aP,e m]
theorem M.frame {α:Type}:∀(m:M α) (h h' h1:Hp) (a:α),m.run h=some (a,h1)->(∀n ∈ (m.bA h).1,al.get h n=al.get h' n)->
  ∃kG,m.run h'=some (a,kG)/\m.bA h'=m.bA h/\(∀n ∈ (m.bA h).2,al.get kG n=al.get h1 n)/\∀n,n ∉ (m.bA h).2->al.get kG n=al.get h' n/\al.get h1 n=al.get h n
 |.ret x,h,h',h1,a,e,_=>by
  simp only[M.run,Option.some.injEq,Prod.mk.injEq]at e;obtain⟨rfl,rfl⟩:=e;exact⟨h',rfl,rfl,λn hn=>by simp[M.bA]at hn,λn _=>⟨rfl,rfl⟩⟩
 |.fail,h,h',h1,a,e,_=>by simp[M.run]at e
 |.get id k,h,h',h1,a,e,hr=>by
  simp only[M.run]at e;simp only[M.bA,List.mem_cons]at hr ⊢;have bw:=hr id (.inl rfl);obtain⟨kG,e1,e2,e3,e4⟩:=M.frame (k (al.get h id)) h h' h1 a e λn hn=>hr n (.inr hn)
  refine⟨kG,?_,?_,e3,e4⟩
  ·simp only[M.run,<-bw];exact e1
  ·simp only[<-bw];rw[e2]
 |.put id o k,h,h',h1,a,e,hr=>by
  simp only[M.run]at e;simp only[M.bA,List.mem_append,List.mem_singleton,not_or]at hr ⊢;obtain⟨kG,e1,e2,e3,e4⟩:=M.frame k (al.set h id o) (al.set h' id o) h1 a e λn hn=>by simp[aP,hr n hn]
  refine⟨kG,e1,by rw[e2],?_,?_⟩
  ·rintro n (hn | rfl)
   ·exact e3 n hn
   ·by_cases dT:n ∈ (k.bA (al.set h n o)).2
    ·exact e3 n dT
    ·obtain⟨a1,a2⟩:=e4 n dT;rw[a1,a2];simp[aP]
  ·intro n hn;obtain⟨a1,a2⟩:=e4 n hn.1;have bG:id≠n:=λh=>hn.2 h.symm
   exact⟨by rw[a1];simp[aP,bG],by rw[a2];simp[aP,bG]⟩
def b8:aK->List Nat
 |.t n=>[n]
 |.c _=>[]
def jb:Option aK->List Nat
 |some x=>b8 x
 |none=>[]
def fH:List aK->List Nat
 |[]=>[]
 |x::r=>b8 x++fH r
def iz {α:Type} (f:α->aK):List α->List Nat
 |[]=>[]
 |x::r=>b8 (f x)++iz f r
def gy:js->List Nat
 |.l9 x | .box x | .cU _ x | .fC _ _ _ x | .un _ x | .qT _ x | .tJ x | .sZ x | .lh _ x | .ko _ _ x | .len _ x | .ext x _ | .nE x | .load _ _ x=>b8 x
 |.wD _ | .alloc _ | .s7=>[]
 |.om x=>b8 x
 |.gB _ _ _ _ x y | .gD _ x y=>b8 x++b8 y
 |.gC _ x y z=>b8 x++(b8 y++b8 z)
 |.pick c a b=>b8 c++(b8 a++b8 b)
 |.build _ ps=>iz (λp=>p.2.2) ps
 |.nZ _ _ _ ps=>iz (λp=>p.2) ps
 |.store _ x y | .eD _ _ x y | .gL _ x y | .eP _ _ _ x y | .fK x y | .bin _ _ x y | .pU _ _ x y | .app _ x y=>b8 x++b8 y
 |.gM _ x lo hi | .fL x lo hi=>b8 x++(jb lo++jb hi)
 |.mn x ys | .mx x ys=>b8 x++fH ys
 |.oj _ cs=>fH cs
 |.call _ f U=>b8 f++fH U
def ey (o:ax):List Nat:=gy o.op++(match o.gd with | some (t,_)=>[t] | none=>[])
theorem dx {ρ fQ:aK->AV}:∀{l:List aK},(∀x:aK,(∀n ∈ b8 x,n ∈ fH l)->ρ x=fQ x)->l.map ρ=l.map fQ
 |[],_=>rfl
 |x::r,h=>by
  simp only[List.map_cons,h x λn hn=>by simp[fH,hn]];rw[dx (l:=r) λy hy=>h y λn hn=>by simp[fH,hy n hn]]
theorem gX {α β:Type} {f:α->aK} {ρ fQ:aK->AV} {F:α->AV->M β}:∀{l:List α},(∀x:aK,(∀n ∈ b8 x,n ∈ iz f l)->ρ x=fQ x)->
  M.aN (λp=>F p (ρ (f p))) l=M.aN (λp=>F p (fQ (f p))) l
 |[],_=>rfl
 |x::r,h=>by
  simp only[M.aN];rw[h (f x) λn hn=>by simp[iz,hn],gX (l:=r) λy hy=>h y λn hn=>by simp[iz,hy n hn]]
theorem nP {call:Nat->List AV->Hp->Option (AV×Hp)} {slot:Nat} {ρ fQ:aK->AV} {op:js} (h:∀x:aK,(∀n ∈ b8 x,n ∈ gy op)->ρ x=fQ x):bn call slot ρ op=bn call slot fQ op:=by
 cases op<;>simp only[gy]at h<;>simp only[bn]
 case pick c a b=>rw[h c λn hn=>by simp[hn],h a λn hn=>by simp[hn],h b λn hn=>by simp[hn]]
 case build z ps=>rw[gX (F:=λp v=>(bW v).bind λl=>(M.ok (l.length==p.2.1&&Nat.ble (p.1+p.2.1) z.length)).bind λ_=>.ret (p.1,l)) h]
 case nZ e z n ps=>rw[gX (F:=λp v=>(bW v).bind λxs=>(M.ok (xs.length==e&&Nat.blt p.1 n)).bind λ_=>(M.aN (fz true 8) xs).bind λl=>.ret (p.1,l)) h]
 case gM e x lo hi=>
  rw[h x λn hn=>by simp[hn]];have h1:lo.map ρ=lo.map fQ:=by cases lo with | none=>rfl | some l=>simp[h l λn hn=>by simp[jb,hn]]
  have h2:hi.map ρ=hi.map fQ:=by cases hi with | none=>rfl | some l=>simp[h l λn hn=>by simp[jb,hn]]
  rw[h1,h2]
 case fL x lo hi=>
  rw[h x λn hn=>by simp[hn]];have h1:lo.map ρ=lo.map fQ:=by cases lo with | none=>rfl | some l=>simp[h l λn hn=>by simp[jb,hn]]
  have h2:hi.map ρ=hi.map fQ:=by cases hi with | none=>rfl | some l=>simp[h l λn hn=>by simp[jb,hn]]
  rw[h1,h2]
 case mn x ys=>rw[h x λn hn=>by simp[hn],dx (l:=ys) λy hy=>h y λn hn=>by simp[hy n hn]]
 case mx x ys=>rw[h x λn hn=>by simp[hn],dx (l:=ys) λy hy=>h y λn hn=>by simp[hy n hn]]
 case oj f ys=>rw[dx (l:=ys) h]
 case call mode f ys=>rw[h f λn hn=>by simp[hn],dx (l:=ys) λy hy=>h y λn hn=>by simp[hy n hn]]
 case gC qs x y z=>rw[h x λn hn=>by simp[hn],h y λn hn=>by simp[hn],h z λn hn=>by simp[hn]]
 case gB ok agg qs z x y=>rw[h x λn hn=>by simp[hn],h y λn hn=>by simp[hn]]
 case gD qs x y=>rw[h x λn hn=>by simp[hn],h y λn hn=>by simp[hn]]
 case store sz x y=>rw[h x λn hn=>by simp[hn],h y λn hn=>by simp[hn]]
 case eD len e x y=>rw[h x λn hn=>by simp[hn],h y λn hn=>by simp[hn]]
 case gL e x y=>rw[h x λn hn=>by simp[hn],h y λn hn=>by simp[hn]]
 case eP a len e x y=>rw[h x λn hn=>by simp[hn],h y λn hn=>by simp[hn]]
 case fK x y=>rw[h x λn hn=>by simp[hn],h y λn hn=>by simp[hn]]
 case bin op q x y=>rw[h x λn hn=>by simp[hn],h y λn hn=>by simp[hn]]
 case pU neg qs x y=>rw[h x λn hn=>by simp[hn],h y λn hn=>by simp[hn]]
 case app e x y=>rw[h x λn hn=>by simp[hn],h y λn hn=>by simp[hn]]
 all_goals first | rfl | (rename_i x;rw[h x λn hn=>hn]) | (rename_i x _;rw[h x λn hn=>hn])
def SE (s s':St):Prop:=GE s.fr s'.fr/\GE s.hp s'.hp/\s.nx=s'.nx
theorem SE.refl (s:St):SE s s:=⟨.refl _,.refl _,rfl⟩
theorem SE.symm {s s':St} (h:SE s s'):SE s' s:=⟨h.1.symm,h.2.1.symm,h.2.2.symm⟩
theorem SE.trans {a b c:St} (h:SE a b) (h':SE b c):SE a c:=⟨h.1.trans h'.1,h.2.1.trans h'.2.1,h.2.2.trans h'.2.2⟩
theorem GE.bj {fr oO:Fr} (e:GE fr oO) (d:Option Nat) (v:AV):GE (bj fr d v) (bj oO d v):=by
 cases d with
 |none=>exact e
 |some d=>exact e.set d v
theorem iA {fr:Fr} {d:Option Nat} {v:AV} {n:Nat} (h:d≠some n):get (bj fr d v) n=get fr n:=by
 cases d with
 |none=>rfl
 |some d=>simp[al.bj,aP,show d≠n from λe=>h (by rw[e])]
theorem oP {fr:Fr} {d d':Option Nat} {v v':AV} (h:d≠d'\/d=none):GE (bj (bj fr d v) d' v') (bj (bj fr d' v') d v):=by
 intro n;cases d with
 |none=>rfl
 |some d=>
  cases d' with
  |none=>rfl
  |some d'=>
   have bG:d≠d':=λe=>by rcases h with h | h;exact h (by rw[e]);cases h
   simp only[al.bj,aP];by_cases h1:d'=n
   ·have:d≠n:=λe=>bG (e.trans h1.symm)
    simp[h1,this]
   ·simp[h1]
theorem sH {fr oO:Fr} {l:List Nat} (h:∀n ∈ l,get fr n=get oO n) (x:aK) (hx:∀n ∈ b8 x,n ∈ l):ev fr x=ev oO x:=by
 cases x with
 |c v=>rfl
 |t n=>simp only[ev];rw[h n (hx n (by simp[b8]))]
abbrev br:=List Nat×List Nat
section
variable {call:Nat->List AV->Hp->Option (AV×Hp)}
theorem gY {slot:Nat} {o:ax} {s s' s1:St} (e:step call slot o s=some s1) (hf:∀n ∈ ey o,get s.fr n=get s'.fr n)
  (hh:∀n ∈ (bz call slot o s).1,get s.hp n=get s'.hp n) :
  ∃ez v,step call slot o s'=some ez/\bz call slot o s'=bz call slot o s/\s1.fr=bj s.fr o.dst v/\ez.fr=bj s'.fr o.dst v/\s1.nx=s.nx/\ez.nx=s'.nx/\
   (∀n ∈ (bz call slot o s).2,get ez.hp n=get s1.hp n)/\∀n,n ∉ (bz call slot o s).2->get ez.hp n=get s'.hp n/\get s1.hp n=get s.hp n:=by
 have hw:bK s'.fr o.gd=bK s.fr o.gd:=by
  cases hg:o.gd with
  |none=>rfl
  |some g=>
   simp only[bK];rw[hf g.1 (by simp[ey,hg])]
 have ho:bn call slot (ev s'.fr) o.op=bn call slot (ev s.fr) o.op:=nP λx hx=>(sH hf x λn hn=>by simp[ey,hx n hn]).symm
 unfold step at e ⊢;unfold bz at hh ⊢;rw[hw,ho];cases yO:bK s.fr o.gd with
 |none=>rw[yO]at e;cases e
 |some b=>
  rw[yO]at e hh;cases b with
  |false=>
   simp only[Option.some.injEq]at e;subst e;exact⟨_,.aR [],rfl,rfl,rfl,rfl,rfl,rfl,λn h0=>by simp at h0,λn _=>⟨rfl,rfl⟩⟩
  |true=>
   simp only[]at e hh ⊢;cases hr:(bn call slot (ev s.fr) o.op).run s.hp with
   |none=>rw[hr]at e;cases e
   |some p=>
    obtain⟨v,h1⟩:=p;rw[hr]at e;simp only[Option.some.injEq]at e;subst e;obtain⟨kG,e1,e2,e3,e4⟩:=M.frame _ _ s'.hp _ _ hr hh;rw[e1];exact⟨_,v,rfl,e2,rfl,rfl,rfl,rfl,e3,e4⟩
theorem Ab {slot:Nat} {o:ax} {s s' s1:St} (e:step call slot o s=some s1) (h:SE s s') :
  ∃ez,step call slot o s'=some ez/\bz call slot o s'=bz call slot o s/\SE s1 ez:=by
 obtain⟨ez,v,e1,e2,e3,e4,e5,e6,e7,e8⟩:=gY e (λn _=>h.1 n) λn _=>h.2.1 n
 refine⟨ez,e1,e2,?_,?_,?_⟩
 ·rw[e3,e4];exact h.1.bj _ _
 ·intro n;by_cases hn:n ∈ (bz call slot o s).2
  ·exact(e7 n hn).symm
  ·rw[(e8 n hn).1,(e8 n hn).2];exact h.2.1 n
 ·rw[e5,e6];exact h.2.2
def fR (x y:ax):Bool:=
 (match x.dst with | some d=>!(ey y).contains d&&y.dst != some d | none=>true)&&(match y.dst with | some d=>!(ey x).contains d | none=>true)
theorem mL {x y:ax} (h:fR x y=true):(∀d,x.dst=some d->d ∉ ey y)/\(x.dst≠y.dst\/x.dst=none)/\∀d,y.dst=some d->d ∉ ey x:=by
 unfold fR at h;simp only[Bool.and_eq_true]at h;obtain⟨h1,h2⟩:=h;refine⟨λd hd=>?_,?_,λd hd=>?_⟩
 ·rw[hd]at h1;simp at h1;exact h1.1
 ·cases hx:x.dst with
  |none=>exact .inr rfl
  |some d=>
   rw[hx]at h1;simp at h1;exact .inl λe=>h1.2 e.symm
 ·rw[hd]at h2;simpa using h2
theorem jD {a b:List Nat} (h:meets a b=false):∀n ∈ a,n ∉ b:=by
 intro n hn hb;have:meets a b=true:=by simp only[meets,List.any_eq_true,List.contains_iff_mem];exact⟨n,hn,hb⟩
 rw[h]at this;cases this
theorem swap {sx sy:Nat} {x y:ax} {s s1 s2:St} (e1:step call sx x s=some s1) (e2:step call sy y s1=some s2) (hT:fR x y=true)
  (hc:di (bz call sx x s) (bz call sy y s1)=false) :
  ∃t1 t2,step call sy y s=some t1/\bz call sy y s=bz call sy y s1/\step call sx x t1=some t2/\bz call sx x t1=bz call sx x s/\SE s2 t2:=by
 obtain⟨a1,a2,a3⟩:=mL hT;simp only[di,Bool.or_eq_false_iff]at hc;have c1:=jD hc.1;have c2:=jD hc.2;obtain⟨_,v,_,_,f1,_,n1,_,_,w1⟩:=gY (s':=s) e1 (λn _=>rfl) λn _=>rfl
 obtain⟨t1,u,e3,e4,f2,f3,n2,n3,w2,w3⟩:=gY (s':=s) e2 (λn hn=>by
   rw[f1];exact iA λh=>a1 n h hn) (λn hn=>(w1 n λhm=>c1 n hm (by simp[hn])).2)
 obtain⟨t2,v',e5,e6,f4,f5,n4,n5,w4,w5⟩:=gY (s':=t1) e1 (λn hn=>by
   rw[f3];exact(iA λh=>a3 n h hn).symm) (λn hn=>((w3 n λhm=>c2 n hm (by simp[hn])).1).symm)
 refine⟨t1,t2,e3,e4,e5,e6,?_,?_,?_⟩
 ·have hv:bj (bj s.fr y.dst u) x.dst v'=bj (bj s.fr y.dst u) x.dst v\/x.dst=none:=by
   cases hx:x.dst with
   |none=>exact .inr rfl
   |some d=>
    rw[f1,hx]at f4;have:=congrArg (λl=>get l d) f4;simp[al.bj,aq]at this;exact .inl (by rw[this])
  rw[f2,f5,f1,f3];rcases hv with hv | hv
  ·rw[hv];exact oP a2
  ·rw[hv];exact .refl _
 ·intro n;by_cases hx:n ∈ (bz call sx x s).2
  ·have hy:n ∉ (bz call sy y s1).2:=λh=>c1 n hx (by simp[h])
   rw[w4 n hx,(w3 n hy).2]
  ·rw[(w5 n hx).1];by_cases hy:n ∈ (bz call sy y s1).2
   ·rw[w2 n hy]
   ·rw[(w3 n hy).1,(w3 n hy).2,(w1 n hx).2]
 ·rw[n2,n1,n5,n3]
inductive eA (call:Nat->List AV->Hp->Option (AV×Hp)) (s0:Nat):List (Nat×ax×br)->St->St->Prop
 |nil {s s':St} (h:SE s s'):eA call s0 [] s s'
 |cons {i:Nat} {o:ax} {f:br} {r:List (Nat×ax×br)} {s s1 s':St} (e:step call (s0+64*i) o s=some s1) (hf:bz call (s0+64*i) o s=f)
   (hr:eA call s0 r s1 s'):eA call s0 ((i,o,f)::r) s s'
theorem eA.ext {s0:Nat} {l:List (Nat×ax×br)} {s t s':St} (h:eA call s0 l s s') (e:SE s t):eA call s0 l t s':=by
 induction h generalizing t with
 |nil h=>exact .nil (e.symm.trans h)
 |cons e1 hf _ ih=>
  obtain⟨t1,e2,e3,e4⟩:=Ab e1 e;exact .cons e2 (e3.trans hf) (ih e4)
def rD (x y:Nat×ax×br):Prop:=fR x.2.1 y.2.1=true/\di x.2.2 y.2.2=false
theorem eA.front {s0:Nat} {x:Nat×ax×br} {l2:List (Nat×ax×br)} {s':St}:∀(l1:List (Nat×ax×br)) (s:St),eA call s0 (l1++x::l2) s s'->(∀y ∈ l1,rD y x)->
  ∃s1,step call (s0+64*x.1) x.2.1 s=some s1/\bz call (s0+64*x.1) x.2.1 s=x.2.2/\eA call s0 (l1++l2) s1 s'
 |[],s,h,_=>by
  cases h with
  |cons e hf hr=>exact⟨_,e,hf,hr⟩
 |y::l1,s,h,ha=>by
  cases h with
  |cons e hf hr=>
   obtain⟨t1,e2,f2,r2⟩:=eA.front l1 _ hr λz hz=>ha z (by simp[hz])
   obtain⟨h1,h2⟩:=ha _ (List.mem_cons_self ..);obtain⟨u1,u2,e3,e4,e5,e6,e7⟩:=swap e e2 h1 (by rw[hf,f2];exact h2);exact⟨u1,e3,e4.trans f2,.cons e5 (e6.trans hf) (r2.ext e7)⟩
end
section
variable {prog:Nat->Option an}
def Ev (prog:Nat->Option an) (f:Nat) (args:List AV) (hp:Hp) (p:AV×Hp):Prop:=∃K,∀n,K<=n->bg prog n f args hp=some p
def jV (prog:Nat->Option an) (f:Nat) (args:List AV) (y:AV):Prop:=∃K,∀n,K<=n->(bg prog n f args []).bind shut=some y
def Wp (prog:Nat->Option an) (c:IC) (s:St) (Q:Ex->St->Prop):Prop:=∃K ex s',(∀n,K<=n->aD (bg prog n) n c s=some (ex,s'))/\Q ex s'
def Ex.then (k:St->Prop) (Q:Ex->St->Prop):Ex->St->Prop
 |.norm,s=>k s
 |e,s=>Q e s
def Ex.inBlock (id:Nat) (Q:Ex->St->Prop):Ex->St->Prop
 |.exit i,s=>if i=id then Q .norm s else Q (.exit i) s
 |e,s=>Q e s
theorem Wp.mono {c:IC} {s:St} {Q Q':Ex->St->Prop} (h:Wp prog c s Q) (hq:∀e s,Q e s->Q' e s):Wp prog c s Q':=by
 obtain⟨K,ex,s',h,q⟩:=h;exact⟨K,ex,s',h,hq _ _ q⟩
theorem db {s:St} {Q:Ex->St->Prop} (h:Q .norm s):Wp prog .skip s Q:=⟨0,_,_,λ_ _=>rfl,h⟩
theorem ji {id:Nat} {s:St} {Q:Ex->St->Prop} (h:Q (.exit id) s):Wp prog (.exit id) s Q:=⟨0,_,_,λ_ _=>rfl,h⟩
theorem cw {s:St} {Q:Ex->St->Prop} (h:Q .ret s):Wp prog .ret s Q:=⟨0,_,_,λ_ _=>rfl,h⟩
theorem aS {a b:IC} {s:St} {Q:Ex->St->Prop} (h:Wp prog a s (Ex.then (λs'=>Wp prog b s' Q) Q)):Wp prog (.seq a b) s Q:=by
 obtain⟨K,ex,s',h,q⟩:=h;cases ex with
 |norm=>
  obtain⟨K2,uC,s2,h2,q2⟩:=q;exact⟨max K K2,uC,s2,λn hn=>by simp only[aD,h n (by omega),h2 n (by omega)],q2⟩
 |exit i=>exact⟨K,_,_,λn hn=>by simp only[aD,h n hn],q⟩
 |ret=>exact⟨K,_,_,λn hn=>by simp only[aD,h n hn],q⟩
theorem bM {c:aK} {a b:IC} {s:St} {Q:Ex->St->Prop} {t:Bool} (hc:ev s.fr c = .iv (.bool t)) (h:Wp prog (if t then a else b) s Q):Wp prog (.cond c a b) s Q:=by
 obtain⟨K,ex,s',h,q⟩:=h;refine⟨K,ex,s',λn hn=>?_,q⟩;have:=h n hn;cases t<;>simpa[aD,hc]using this
theorem dt {id:Nat} {b:IC} {s:St} {Q:Ex->St->Prop} (h:Wp prog b s (Ex.inBlock id Q)):Wp prog (.block id b) s Q:=by
 obtain⟨K,ex,s',h,q⟩:=h;cases ex with
 |norm=>exact⟨K,_,_,λn hn=>by simp only[aD,h n hn],q⟩
 |ret=>exact⟨K,_,_,λn hn=>by simp only[aD,h n hn],q⟩
 |exit i=>
  simp only[Ex.inBlock]at q;by_cases hi:i=id
  ·rw[if_pos hi]at q;exact⟨K,.norm,s',λn hn=>by simp only[aD,h n hn,if_pos hi],q⟩
  ·rw[if_neg hi]at q;exact⟨K,.exit i,s',λn hn=>by simp only[aD,h n hn,if_neg hi],q⟩
theorem bL {draw:Bool} {ops:List ax} {aF:List Nat} {s s':St} {Q:Ex->St->Prop} {K:Nat} (h:∀n,K<=n->aQ (bg prog n) draw ops aF s=some s') (q:Q .norm s'):Wp prog (.gm draw ops aF) s Q:=
 ⟨K,_,_,λn hn=>by simp only[aD,h n hn,Option.map_some],q⟩
theorem rE {draw:Bool} {ops:List ax} {aF:List Nat} {s s':St} {Q:Ex->St->Prop} (q:Q .norm s') (h:∀n,0<=n->aQ (bg prog n) draw ops aF s=some s':=by intro n hn;simp;rfl):Wp prog (.gm draw ops aF) s Q:=bL (K:=0) h q
theorem pJ {draw:Bool} {ops:List ax} {aF:List Nat} {s s':St} {Q:Ex->St->Prop} (h:∀{n:Nat},aQ (bg prog n) draw ops aF s=some s') (q:Q .norm s'):Wp prog (.gm draw ops aF) s Q:=bL (K:=0) (λ_ _=>h) q
theorem eJ {draw:Bool} {ops:List ax} {aF:List Nat} {b:IC} {s s':St} {Q:Ex->St->Prop} (h:∀{n:Nat},aQ (bg prog n) draw ops aF s=some s') (q:Wp prog b s' Q):Wp prog (.seq (.gm draw ops aF) b) s Q:=aS (bL (K:=0) (λ_ _=>h) q)
theorem c9 {draw:Bool} {ops:List ax} {aF:List Nat} {b:IC} {s s':St} {Q:Ex->St->Prop} (q:Wp prog b s' Q) (h:∀n,0<=n->aQ (bg prog n) draw ops aF s=some s':=by intro n hn;simp;rfl):Wp prog (.seq (.gm draw ops aF) b) s Q:=aS (bL (K:=0) h q)
theorem gl {draw:Bool} {ops:List ax} {aF:List Nat} {b:IC} {s s':St} {Q:Ex->St->Prop} {K:Nat} (h:∀n,K<=n->aQ (bg prog n) draw ops aF s=some s') (q:Wp prog b s' Q):Wp prog (.seq (.gm draw ops aF) b) s Q:=aS (bL h q)
theorem pK {aF:List Nat} {b:IC} {s:St} {Q:Ex->St->Prop} (I:Nat->St->Prop) {m:Nat} (h0:I m { s with fr:=aY aF s.fr })
  (round:∀m s1,I m s1->Wp prog b s1 (Ex.then (λs2=>∃j,j<m/\I j (again aF s.nx s2)) Q)):Wp prog (.loop aF b) s Q:=by
 have key:∀m s1,I m s1->∃K ex s',(∀n,K<=n->∀j,K<=j->iter (aD (bg prog n) n b) aF s.nx j s1=some (ex,s'))/\Q ex s':=by
  intro m
  induction m using Nat.strongRecOn with
  |_ m ih=>
   intro s1 hI;obtain⟨K,ex,s2,h,q⟩:=round m s1 hI;cases ex with
   |norm=>
    obtain⟨j,hj,C5⟩:=q;obtain⟨K2,uC,s3,h2,q2⟩:=ih j hj _ C5;refine⟨max K K2+1,uC,s3,λn hn i hi=>?_,q2⟩;obtain⟨i,rfl⟩:∃i',i=i'+1:=⟨i - 1,by omega⟩;simp only[iter,h n (by omega)];exact h2 n (by omega) i (by omega)
   |exit e=>
    refine⟨K+1,.exit e,s2,λn hn i hi=>?_,q⟩;obtain⟨i,rfl⟩:∃i',i=i'+1:=⟨i - 1,by omega⟩;simp only[iter,h n (by omega)]
   |ret=>
    refine⟨K+1,.ret,s2,λn hn i hi=>?_,q⟩;obtain⟨i,rfl⟩:∃i',i=i'+1:=⟨i - 1,by omega⟩;simp only[iter,h n (by omega)]
 obtain⟨K,ex,s',h,q⟩:=key m _ h0;exact⟨K,ex,s',λn hn=>by simp only[aD];exact h n hn n hn,q⟩
def Fin (res:List dY) (p:AV×Hp):Ex->St->Prop
 |.norm,s | .ret,s=>(dB s.fr res).run s.hp=some p
 |_,_=>False
theorem Ev.of {f:Nat} {fn:an} (hf:prog f=some fn) (cR:fn.cl=none) {args:List AV} (hn:args.length=fn.np) {hp:Hp} {p:AV×Hp} (h:Wp prog fn.body ⟨params args 0,hp,1000⟩ (Fin fn.res p)):Ev prog f args hp p:=by
 obtain⟨K,ex,s',h,q⟩:=h;refine⟨K+1,λn dJ=>?_⟩;obtain⟨n,rfl⟩:∃n',n=n'+1:=⟨n - 1,by omega⟩;simp only[bg,hf,cR,if_pos hn,h n (by omega)];cases ex with
 |norm=>exact q
 |ret=>exact q
 |exit i=>exact q.elim
def GX (res:List dY) (y:AV):Ex->St->Prop
 |.norm,s | .ret,s=>((dB s.fr res).run s.hp).bind shut=some y
 |_,_=>False
theorem jV.of {f:Nat} {fn:an} (hf:prog f=some fn) (cR:fn.cl=none) {args:List AV} (hn:args.length=fn.np) {y:AV} (h:Wp prog fn.body ⟨params args 0,[],1000⟩ (GX fn.res y)):jV prog f args y:=by
 obtain⟨K,ex,s',h,q⟩:=h;refine⟨K+1,λn dJ=>?_⟩;obtain⟨n,rfl⟩:∃n',n=n'+1:=⟨n - 1,by omega⟩;simp only[bg,hf,cR,if_pos hn,h n (by omega)];cases ex with
 |norm=>exact q
 |ret=>exact q
 |exit i=>exact q.elim
end
abbrev pL:=Nat->List AV->Hp->Option (AV×Hp)
def wb (c c':pL):Prop:=∀f U hp p,c f U hp=some p->c' f U hp=some p
def jE {α:Type} (m m':M α):Prop:=∀h p,m.run h=some p->m'.run h=some p/\m'.bA h=m.bA h
theorem jE.refl {α:Type} (m:M α):jE m m:=λ_ _ e=>⟨e,rfl⟩
theorem M.fm {α β:Type} (m:M α) (f:α->M β) (h:Hp):(m.bind f).bA h=match m.run h with
  |some (a,h1)=>((m.bA h).1++((f a).bA h1).1,((f a).bA h1).2++(m.bA h).2)
  |none=>m.bA h:=by
 induction m generalizing h with
 |ret a=>simp[M.bind,M.run,M.bA]
 |fail=>simp[M.bind,M.run,M.bA]
 |get id k ih=>
  simp only[M.bind,M.run,M.bA,ih];cases(k (al.get h id)).run h<;>simp
 |put id o k ih=>
  simp only[M.bind,M.run,M.bA,ih];cases k.run (al.set h id o)<;>simp
theorem jE.bind {α β:Type} {m m':M α} {f f':α->M β} (h:jE m m') (hf:∀a,jE (f a) (f' a)):jE (m.bind f) (m'.bind f'):=by
 intro g p e;obtain⟨a,h1,e1,e2⟩:=ag e;obtain⟨q1,q2⟩:=h _ _ e1;obtain⟨q3,q4⟩:=hf a _ _ e2;refine⟨by rw[bc,q1];exact q3,?_⟩;rw[M.fm,M.fm,q1,e1];simp only[q2,q4]
theorem jE.lift {α:Type} {x y:Option α} (h:∀a,x=some a->y=some a):jE (M.lift x) (M.lift y):=by
 cases x with
 |none=>intro g p e;exact(ae e).elim
 |some a=>rw[h a rfl];exact .refl _
theorem sI {c c':pL} (h:wb c c') {slot:Nat} {ρ:aK->AV} (op:js):jE (bn c slot ρ op) (bn c' slot ρ op):=by
 cases op<;>first | exact .refl _ | skip
 rename_i mode f args;simp only[bn]
 match mode with
 |0=>
  refine .bind (.refl _) λq=>.bind (.refl _) λU=>.bind (.lift λa ha=>?_) λr=>.refl _
  simp only[Option.bind_eq_some_iff]at ha ⊢;obtain⟨p,h1,h2⟩:=ha;exact⟨p,h _ _ _ _ h1,h2⟩
 |1=>exact .bind (.refl _) λq=>.bind (.refl _) λ_=>.bind (.refl _) λU=>.bind (.refl _) λos=>.bind (.lift λp hp=>h _ _ _ _ hp) λp=>.refl _
 |2=>exact .bind (.refl _) λq=>.bind (.refl _) λU=>.bind (.lift λp hp=>h _ _ _ _ hp) λp=>.refl _
 |4=>exact .bind (.refl _) λq=>.bind (.refl _) λ_=>.bind (.refl _) λ_=>.bind (.lift λp hp=>h _ _ _ _ hp) λp=>.refl _
 |3 | _+5=>
  refine .bind (.refl _) λq=>.bind (.refl _) λU=>.lift λa ha=>?_
  simp only[Option.bind_eq_some_iff]at ha ⊢;obtain⟨p,h1,h2⟩:=ha;exact⟨p,h _ _ _ _ h1,h2⟩
theorem pM {c c':pL} (h:wb c c') {slot:Nat} {o:ax} {s s1:St} (e:step c slot o s=some s1):step c' slot o s=some s1/\bz c' slot o s=bz c slot o s:=by
 unfold step at e ⊢;unfold bz;split at e
 ·rename_i hw;cases hr:(bn c slot (ev s.fr) o.op).run s.hp with
  |none=>rw[hr]at e;cases e
  |some p=>
   obtain⟨q1,q2⟩:=sI h o.op _ _ hr;rw[hr]at e;rw[hw,q1];exact⟨e,q2⟩
 ·rename_i hw;rw[hw];exact⟨e,rfl⟩
 ·cases e
theorem oQ {c c':pL} (h:wb c c'):∀(ops:List ax) (slot:Nat) (s s1:St),aW c ops slot s=some s1->aW c' ops slot s=some s1/\bE c' ops slot s=bE c ops slot s
 |[],slot,s,s1,e=>⟨e,rfl⟩
 |o::r,slot,s,s1,e=>by
  simp only[aW,bE]at e ⊢;cases h1:step c slot o s with
  |none=>rw[h1]at e;cases e
  |some s2=>
   obtain⟨q1,q2⟩:=pM h h1;rw[h1]at e;rw[q1];obtain⟨q3,q4⟩:=oQ h r _ _ _ e;exact⟨q3,by simp only[q2,q4]⟩
theorem uD {c c':pL} (h:wb c c') {draw:Bool} {ops:List ax} {aF:List Nat} {s s1:St} (e:aQ c draw ops aF s=some s1):aQ c' draw ops aF s=some s1:=by
 unfold aQ at e ⊢;cases h1:aW c ops s.nx s with
 |none=>rw[h1]at e;cases e
 |some s2=>
  obtain⟨q1,q2⟩:=oQ h ops _ _ _ h1;rw[h1]at e;rw[q1,q2];exact e
theorem nb {f f':St->Option (Ex×St)} (h:∀s r,f s=some r->f' s=some r) {aF:List Nat} {n0:Nat}:∀(m m':Nat) (s:St) (r:Ex×St),m<=m'->iter f aF n0 m s=some r->iter f' aF n0 m' s=some r
 |0,_,s,r,_,e=>by simp[iter]at e
 |m+1,m',s,r,hm,e=>by
  obtain⟨m',rfl⟩:∃k,m'=k+1:=⟨m' - 1,by omega⟩;simp only[iter]at e ⊢;cases h1:f s with
  |none=>rw[h1]at e;cases e
  |some p=>
   obtain⟨ex,s1⟩:=p;rw[h1]at e;rw[h _ _ h1];cases ex with
   |norm=>exact nb h m m' _ r (by omega) e
   |exit i=>exact e
   |ret=>exact e
theorem lf {c c':pL} (h:wb c c') {n n':Nat} (hn:n<=n'):∀(ic:IC) (s:St) (r:Ex×St),aD c n ic s=some r->aD c' n' ic s=some r:=by
 intro ic
 induction ic with
 |skip=>exact λs r e=>e
 |exit id=>exact λs r e=>e
 |ret=>exact λs r e=>e
 |gm draw ops aF=>
  intro s r e;simp only[aD,Option.map_eq_some_iff]at e ⊢;obtain⟨s1,h1,h2⟩:=e;exact⟨s1,uD h h1,h2⟩
 |seq a b oR oS=>
  intro s r e;simp only[aD]at e ⊢;cases h1:aD c n a s with
  |none=>rw[h1]at e;cases e
  |some p=>
   obtain⟨ex,s1⟩:=p;rw[h1]at e;rw[oR _ _ h1];cases ex with
   |norm=>exact oS _ _ e
   |exit i=>exact e
   |ret=>exact e
 |cond d a b oR oS=>
  intro s r e;simp only[aD]at e ⊢;generalize ev s.fr d=v at e;split at e
  ·rename_i t;cases t with
   |true=>exact oR _ _ e
   |false=>exact oS _ _ e
  ·cases e
 |block id b ih=>
  intro s r e;simp only[aD]at e ⊢;cases h1:aD c n b s with
  |none=>rw[h1]at e;cases e
  |some p=>
   rw[h1]at e;rw[ih _ _ h1];exact e
 |loop aF b ih=>
  intro s r e;simp only[aD]at e ⊢;exact nb ih n n' _ r hn e
theorem qA {prog:Nat->Option an}:∀(n n':Nat),n<=n'->wb (bg prog n) (bg prog n')
 |0,_,_=>λf U hp p e=>by simp[bg]at e
 |n+1,n',hn=>by
  obtain⟨n',rfl⟩:∃k,n'=k+1:=⟨n' - 1,by omega⟩;have ih:=qA (prog:=prog) n n' (by omega);intro f U hp p e;simp only[bg]at e ⊢;cases hf:prog f with
  |none=>rw[hf]at e;cases e
  |some fn=>
   rw[hf]at e;simp only[]at e ⊢;cases cR:fn.cl with
   |some q=>
    rw[cR]at e;simp only[]at e ⊢;split at e
    ·rename_i hb;rw[if_pos hb];exact e
    ·rename_i hb;rw[if_neg hb];cases hs:qV q.1 U hp with
     |some r=>rw[hs]at e;exact e
     |none=>
      rw[hs]at e;simp only[]at e ⊢;split at e
      ·rename_i hl;rw[if_pos hl];cases h1:aD (bg prog n) n fn.body ⟨params U 0,hp,1000⟩with
       |none=>rw[h1]at e;cases e
       |some q=>
        rw[h1]at e;rw[lf ih (by omega) _ _ _ h1];exact e
      ·cases e
   |none=>
    rw[cR]at e;simp only[]at e ⊢;split at e
    ·rename_i hl;rw[if_pos hl];cases h1:aD (bg prog n) n fn.body ⟨params U 0,hp,1000⟩with
     |none=>rw[h1]at e;cases e
     |some q=>
      rw[h1]at e;rw[lf ih (by omega) _ _ _ h1];exact e
    ·cases e
theorem Ev.at {prog:Nat->Option an} {n f:Nat} {args:List AV} {hp:Hp} {p:AV×Hp} (e:bg prog n f args hp=some p):Ev prog f args hp p:=⟨n,λm hm=>qA n m hm _ _ _ _ e⟩
def NP {α:Type} (m:M α):Prop:=∀h,(m.bA h).2=[]
theorem NP.ret {α:Type} (a:α):NP (M.ret a):=λ_=>rfl
theorem NP.fail {α:Type}:NP (M.fail:M α):=λ_=>rfl
theorem NP.bind {α β:Type} {m:M α} {f:α->M β} (h:NP m) (hf:∀a,NP (f a)):NP (m.bind f):=by
 intro g;rw[M.fm];cases hr:m.run g with
 |none=>exact h g
 |some p=>simp[h g,hf p.1 p.2]
theorem NP.ok (b:Bool):NP (M.ok b):=by cases b<;>exact λ_=>rfl
theorem NP.lift {α:Type} (x:Option α):NP (M.lift x):=by cases x<;>exact λ_=>rfl
theorem NP.look (id:Nat):NP (M.look id):=by
 intro h;simp only[M.look,M.bA];cases get h id<;>rfl
theorem NP.aN {α β:Type} {f:α->M β} (hf:∀a,NP (f a)):∀l:List α,NP (M.aN f l)
 |[]=>.ret _
 |x::r=>.bind (hf x) λ_=>.bind (NP.aN hf r) λ_=>.ret _
theorem NP.fz:∀(n:Nat) (a:AV),NP (fz false n a)
 |0,a=>.fail
 |n+1,a=>by
  have ih:=NP.fz n;unfold al.fz;cases a with
  |iv x=>cases x<;>exact .ret _
  |own id o m ai=>
   refine .bind (.look id) λob=>?_
   cases ob with
   |cells cs=>exact .fail
   |buf v e es=>exact .bind (.ok _) λ_=>.ret _
   |bb v e es=>exact .bind (.ok _) λ_=>.ret _
   |map _=>exact .fail
  |ref id ai i j=>
   refine .bind (.look id) λob=>?_
   cases ob with
   |cells cs=>exact .bind (.ok _) λ_=>.bind (.aN ih _) λ_=>.ret _
   |buf v e es=>exact .bind (.ok _) λ_=>.bind (.lift _) λ_=>.ret _
   |bb v e es=>exact .bind (.ok _) λ_=>.bind (.lift _) λ_=>.ret _
   |map _=>exact .fail
  |bJ f ay=>exact .bind (.aN ih _) λ_=>.ret _
  |undef=>exact .fail
  |agg cs=>exact .fail
  |aR vs=>exact .fail
theorem NP.gG (a:AV):NP (gG false a):=.bind (NP.fz 8 a) λ_=>.ret _
theorem NP.eu (a:AV):NP (eu false a):=by
 cases a with
 |agg cs=>exact .bind (.aN NP.gG _) λ_=>.ret _
 |iv x=>exact NP.gG _
 |own id o n v=>exact NP.gG _
 |ref id v i j=>exact NP.gG _
 |bJ f c=>exact NP.gG _
 |undef=>exact NP.gG _
 |aR vs=>exact NP.gG _
theorem NP.mk (agg:Bool) (l:List AV):NP (mk agg l):=by
 unfold al.mk;cases agg
 ·match l with
  |[]=>exact .fail
  |[x]=>exact .ret _
  |_::_::_=>exact .fail
 ·exact .ret _
theorem NP.load (agg:Bool) (sz:Nat) (a:AV):NP (load agg sz a):=by
 unfold al.load;split
 ·exact .bind (.look _) λo=>.bind (.lift _) λ_=>.bind (.ok _) λ_=>.mk _ _
 ·exact .bind (.ok _) λ_=>.mk _ _
 ·exact .fail
theorem NP.idx (a:AV):NP (idx a):=by unfold al.idx;split<;>first | exact .ret _ | exact .fail
theorem NP.bound (y:Nat) (a:Option AV):NP (bound y a):=by unfold al.bound;split<;>first | exact .ret _ | exact .fail | exact .bind (.ok _) λ_=>.ret _
theorem NP.fC (agg:Bool) (off sz:Nat) (a:AV):NP (fC agg off sz a):=by
 unfold al.fC;split
 ·exact .bind (.ok _) λ_=>.mk _ _
 ·exact .fail
end al
namespace al
open Go Go.RowKit
section
variable {ν:Nat->Nat} {P:Program} {k:Cx}
theorem Rel.he {g:Gh} (r:Rel ν k g) {h':Hp} (e:GE g.h h'):Rel ν k { g with h:=h' }/\aX ν g { g with h:=h' }:=by
 have hm:aX ν g { g with h:=h' }:=λv x hx=>RA.mono (g:=g) (g':={ g with h:=h' }) (λ_ _ h=>h)
  (λv id o n ai h=>by unfold aH at h ⊢;rw[e id]at h;exact h) (λv id ai i j h=>by unfold aI at h ⊢;rw[e id]at h;exact h) hx
 refine⟨⟨λid o ho=>?_,λid bY o o' b h1 h2=>r.inj id bY o o' b ((e id).trans h1) ((e bY).trans h2),r.small,r.i0,r.i1,λid o b h=>r.own id o b ((e id).trans h),r.size,r.os,r.tape,r.output,r.cr⟩,hm⟩;have cr:=r.ob id o ((e id).trans ho);cases o with
 |cells cs=>
  obtain⟨b,e1,e2,e3,e4⟩:=cr;exact⟨b,e1,e2,e3,λj c hc=>let⟨v,c1,c2,c3⟩:=e4 j c hc;⟨v,c1,c2,hm _ _ c3⟩⟩
 |buf v e es=>exact cr
 |bb v e es=>exact cr
 |map aU=>
  obtain⟨b,es,clock,e1,e2,e3,e4,e5,e6⟩:=cr;exact⟨b,es,clock,e1,e2,e3,e4,e5,λj e p h1 h2=>let⟨c1,c2⟩:=e6 j e p h1 h2;⟨hm _ _ c1,hm _ _ c2⟩⟩
structure cc (ν:Nat->Nat) (k:Cx) (nt:Nat) (g:Gh) (a:Act) (s:St):Prop where
 h:g.h=s.hp
 r:Rel ν k g
 f:eU ν g a.tmps s.fr
 n:nt<=a.tmps.size
 d:a.defers=[]
theorem cc.jc {nt:Nat} {g:Gh} {a:Act} {s s':St} (m:cc ν k nt g a s) (e:SE s s'):cc ν k nt { g with h:=s'.hp } a s'/\aX ν g { g with h:=s'.hp }:=by
 have he:GE g.h s'.hp:=by rw[m.h];exact e.2.1
 obtain⟨r,hm⟩:=m.r.he he;exact⟨⟨rfl,r,λt x ht=>let⟨v,h1,h2⟩:=m.f t x ((e.1 t).trans ht);⟨v,h1,hm _ _ h2⟩,m.n,m.d⟩,hm⟩
theorem cc.put {nt:Nat} {g g':Gh} {a:Act} {s:St} (m:cc ν k nt g a s) {h':Hp} {v:Value} {y:AV} {d:Option Nat} (hd:∀t,d=some t->t<nt) (hh:g'.h=h') (r':Rel ν k g') (hm:aX ν g g')
  (hv:RA ν g' v y):cc ν k nt g' (a.put d v) { s with fr:=bj s.fr d y,hp:=h' }:=by
 refine⟨hh,r',?_,?_,?_⟩
 ·cases d with
  |none=>exact m.f.mono hm
  |some d=>
   intro t x ht;simp only[al.bj,aP]at ht;have aV:d<a.tmps.size:=Nat.lt_of_lt_of_le (hd d rfl) m.n;by_cases uE:d=t
   ·subst uE;simp only[if_true,Option.some.injEq]at ht;subst ht;exact⟨v,by simp[Act.put,aV],hv⟩
   ·rw[if_neg uE]at ht;obtain⟨u,h1,h2⟩:=m.f t x ht;exact⟨u,by simp[Act.put,Array.getElem?_setIfInBounds_ne uE,h1],hm _ _ h2⟩
 ·cases d with
  |none=>exact m.n
  |some d=>simpa[Act.put]using m.n
 ·cases d with
  |none=>exact m.d
  |some d=>exact m.d
def fI (P:Program) (ν:Nat->Nat) (nt:Nat) (ops:Array Oper) (o:Oper) (io:ax):Bool:=
 o.dst==io.dst&&(match io.dst with | some d=>Nat.blt d nt | none=>true) &&
 (match o.guard,io.gd with | none,none=>true | some (j,b),some (t,c)=>b==c&&(ops[j]?).bind (·.dst)==some t | _,_=>false)&&ry P ν o.op io.op
theorem iM {g:Gh} {a:Act} {s:St} {nt:Nat} (m:cc ν k nt g a s) {ops:Array Oper} {o:Oper} {io:ax} (hc:fI P ν nt ops o io=true) {b:Bool} (h:bK s.fr io.gd=some b) :
  Region.wanted o (yielded ops a.tmps)=b:=by
 simp only[fI,Bool.and_eq_true]at hc;obtain⟨⟨_,hg⟩,_⟩:=hc;unfold Region.wanted;split at hg
 ·rename_i h1 h2;rw[h2]at h;simp only[bK,Option.some.injEq]at h;rw[h1];exact h
 ·rename_i j want t c h1 h2;simp only[Bool.and_eq_true,beq_iff_eq]at hg;obtain⟨rfl,hj⟩:=hg;rw[h2]at h;simp only[h1,yielded,hj,Option.bind_some];simp only[bK]at h;split at h
  ·rename_i c' cf;obtain⟨v,hv,hR⟩:=m.f _ _ cf;cases hR with
   |iv hI=>cases hI with
    |bool=>simp only[Option.some.injEq]at h;subst h;rw[hv];cases c'<;>cases want<;>rfl
  ·rename_i cf;obtain⟨v,hv,hR⟩:=m.f _ _ cf;cases hR with
   |aR hn _=>simp only[Option.some.injEq]at h;subst h;rw[hv];rfl
  ·cases h
 ·cases hg
theorem j9 {call:Nat->List AV->Hp->Option (AV×Hp)} (hs:bp ν P call) {nt:Nat} {ops:Array Oper} {o:Oper} {io:ax} (hc:fI P ν nt ops o io=true) {g:Gh} {a:Act} {s s1:St} (m:cc ν k nt g a s)
  {slot:Nat} (e:step call slot io s=some s1) {next:Act->World->Prop} {Q:Exit->Act->World->Prop} (hn:∀g' a',cc ν k nt g' a' s1->aX ν g g'->next a' g'.w) :
  if Region.wanted o (yielded ops a.tmps) then o.wp P a g.w next Q else next (a.put o.dst undef) g.w:=by
 have bH:=hc;simp only[fI,Bool.and_eq_true,beq_iff_eq]at bH;obtain⟨⟨⟨hd,aV⟩, -⟩,mv⟩:=bH;have og:∀t,io.dst=some t->t<nt:=by
  intro t ht;rw[ht]at aV;simpa[Nat.blt_eq]using aV
 unfold step at e;split at e
 ·rename_i hw;rw[iM m hc hw,if_pos rfl];cases hr:(bn call slot (ev s.fr) io.op).run s.hp with
  |none=>rw[hr]at e;cases e
  |some p=>
   obtain⟨y,h1⟩:=p;rw[hr]at e;simp only[Option.some.injEq]at e;subst e;refine xn hs mv m.r m.f (slot:=slot) (y:=y) (h':=h1) (by rw[m.h];exact hr) λg' v hh r' hm hR=>?_
   rw[hd];exact hn g' _ (m.put og hh r' hm hR) hm
 ·rename_i hw;rw[iM m hc hw,if_neg (by simp)];simp only[Option.some.injEq]at e;subst e;rw[hd];exact hn g _ (m.put og m.h m.r (.refl ν g) (.aR rfl λj v c h=>by simp at h)) (.refl ν g)
 ·cases e
def cS (P:Program) (ν:Nat->Nat) (nt:Nat) (ops:Array Oper):List Oper->List ax->Bool
 |[],[]=>true
 |o::r,io::ir=>fI P ν nt ops o io&&cS P ν nt ops r ir
 |_,_=>false
theorem fp {nt:Nat} {ops:Array Oper}:∀{l:List Oper} {il:List ax},cS P ν nt ops l il=true->l.length=il.length/\∀(i:Nat) (o:Oper) (io:ax),l[i]?=some o->il[i]?=some io->fI P ν nt ops o io=true
 |[],[],_=>⟨rfl,λi o io h=>by simp at h⟩
 |o::r,io::ir,h=>by
  simp only[cS,Bool.and_eq_true]at h;obtain⟨h1,h2⟩:=fp h.2;refine⟨by simp[h1],λi o' yP e1 e2=>?_⟩;cases i with
  |zero=>simp at e1 e2;subst e1 e2;exact h.1
  |succ i=>exact h2 i o' yP (by simpa using e1) (by simpa using e2)
 |[],_::_,h=>by simp[cS]at h
 |_::_,[],h=>by simp[cS]at h
theorem lG {call:Nat->List AV->Hp->Option (AV×Hp)} (hs:bp ν P call) {nt:Nat} {ops:Array Oper} {Q:Exit->Act->World->Prop}:∀(l:List Oper) (il:List ax) (slot:Nat) (g:Gh) (a:Act) (s s':St),
  cS P ν nt ops l il=true->aW call il slot s=some s'->cc ν k nt g a s->(∀g' a',cc ν k nt g' a' s'->aX ν g g'->Q .normal a' g'.w)->wpList P ops Q l a g.w
 |[],[],slot,g,a,s,s',_,e,m,hQ=>by
  simp only[aW,Option.some.injEq]at e;subst e;exact wpList_nil (hQ g a m (.refl ν g))
 |o::r,io::ir,slot,g,a,s,s',hc,e,m,hQ=>by
  simp only[cS,Bool.and_eq_true]at hc;simp only[aW]at e;cases h1:step call slot io s with
  |none=>rw[h1]at e;cases e
  |some s1=>
   rw[h1]at e;exact wpList_step λK hK=>j9 hs hc.1 m h1 λg' a' m' hm=>hK _ _ (lG hs r ir _ g' a' s1 s' hc.2 e m' λdF oT oU c8=>hQ dF oT oU (hm.trans c8))
 |[],_::_,_,_,_,_,_,hc,_,_,_=>by simp[cS]at hc
 |_::_,[],_,_,_,_,_,hc,_,_,_=>by simp[cS]at hc
def tag:Nat->List ax->List br->List (Nat×ax×br)
 |i,o::r,f::fs=>(i,o,f)::tag (i+1) r fs
 |_,_,_=>[]
theorem eA.nc {call:Nat->List AV->Hp->Option (AV×Hp)} {s0:Nat}:∀(il:List ax) (i:Nat) (s s':St),aW call il (s0+64*i) s=some s'->
  eA call s0 (tag i il (bE call il (s0+64*i) s)) s s'/\(bE call il (s0+64*i) s).length=il.length
 |[],i,s,s',e=>by
  simp only[aW,Option.some.injEq]at e;subst e;exact⟨.nil (.refl _),rfl⟩
 |o::r,i,s,s',e=>by
  simp only[aW]at e;simp only[bE];cases h1:step call (s0+64*i) o s with
  |none=>rw[h1]at e;cases e
  |some s1=>
   rw[h1]at e;obtain⟨q1,q2⟩:=eA.nc (s0:=s0) r (i+1) s1 s' e;exact⟨.cons h1 rfl q1,by simp only[List.length_cons];exact congrArg (·+ 1) q2⟩
theorem ka:∀{il:List ax} {fs:List br} {i:Nat} {x:Nat×ax×br},x ∈ tag i il fs->i<=x.1/\il[x.1 - i]?=some x.2.1/\fs[x.1 - i]?=some x.2.2
 |[],fs,i,x,h=>by simp[tag]at h
 |_::_,[],i,x,h=>by simp[tag]at h
 |o::r,f::fs,i,x,h=>by
  simp only[tag,List.mem_cons]at h;rcases h with rfl | h
  ·simp
  ·obtain⟨h1,h2,h3⟩:=ka h;have:x.1 - i=(x.1 - (i+1))+1:=by omega
   exact⟨by omega,by rw[this];simpa using h2,by rw[this];simpa using h3⟩
theorem nd:∀{il:List ax} {fs:List br} {i j:Nat} {o:ax},fs.length=il.length->il[j]?=some o->∃x ∈ tag i il fs,x.1=i+j
 |[],fs,i,j,o,_,h=>by simp at h
 |_::_,[],i,j,o,hl,_=>by simp at hl
 |o'::r,f::fs,i,j,o,hl,h=>by
  cases j with
  |zero=>exact⟨_,List.mem_cons_self ..,rfl⟩
  |succ j=>
   obtain⟨x,h1,h2⟩:=nd (i:=i+1) (fs:=fs) (by simpa using hl) (by simpa using h);exact⟨x,List.mem_cons_of_mem _ h1,by omega⟩
def iB (x:ax) (i:Nat):List ax->Bool
 |[]=>true
 |y::r=>(y.iH.contains i||fR x y)&&iB x i r
def fq:Nat->List ax->Bool
 |_,[]=>true
 |i,x::r=>iB x i r&&fq (i+1) r
theorem gZ {x:ax} {i:Nat}:∀{r:List ax},iB x i r=true->∀y ∈ r,i ∉ y.iH->fR x y=true
 |[],_,y,hy,_=>by simp at hy
 |z::r,h,y,hy,hi=>by
  simp only[iB,Bool.and_eq_true,Bool.or_eq_true,List.contains_iff_mem]at h;rcases List.mem_cons.1 hy with rfl | hy
  ·exact h.1.resolve_left hi
  ·exact gZ h.2 y hy hi
theorem iN {x:br} {i:Nat}:∀{fs:List br} {cs:List (List Nat)},ew x i fs cs=true->∀(j:Nat) (f:br) (c:List Nat),fs[j]?=some f->cs[j]?=some c->i ∉ c->di x f=false
 |[],cs,_,j,f,c,h,_,_=>by simp at h
 |_::_,[],_,j,f,c,_,h,_=>by simp at h
 |f'::fs,c'::cs,h,j,f,c,h1,h2,hi=>by
  simp only[ew,Bool.and_eq_true,Bool.or_eq_true,Bool.not_eq_true',List.contains_iff_mem]at h;cases j with
  |zero=>simp at h1 h2;subst h1 h2;exact h.1.resolve_right hi
  |succ j=>exact iN h.2 j f c (by simpa using h1) (by simpa using h2) hi
def PW (x y:Nat×ax×br):Prop:=x.1<y.1/\(x.1 ∉ y.2.1.iH->rD x y)
theorem oV:∀(il:List ax) (fs:List br) (i:Nat),fq i il=true->(cJ fs i (il.map (·.iH))=true\/∀f ∈ fs,f.2=[])->(tag i il fs).Pairwise PW
 |[],fs,i,_,_=>by simp[tag]
 |_::_,[],i,_,_=>by simp[tag]
 |o::r,f::fs,i,hT,hF=>by
  simp only[fq,Bool.and_eq_true]at hT;simp only[tag,List.pairwise_cons];refine⟨λy hy=>?_,oV r fs (i+1) hT.2 ?_⟩
  ·obtain⟨h1,h2,h3⟩:=ka hy;refine⟨by show i<y.1;omega,λhi=>⟨gZ hT.1 _ (List.mem_of_getElem? h2) hi,?_⟩⟩;rcases hF with hF | hF
   ·simp only[List.map_cons,cJ,Bool.and_eq_true]at hF;exact iN hF.1 _ _ y.2.1.iH h3 (by simp[h2]) hi
   ·have e1:=hF f (List.mem_cons_self ..);have e2:=hF _ (List.mem_cons_of_mem _ (List.mem_of_getElem? h3));simp[di,meets,e1,e2]
  ·rcases hF with hF | hF
   ·simp only[List.map_cons,cJ,Bool.and_eq_true]at hF;exact .inl hF.2
   ·exact .inr λf' C6=>hF f' (List.mem_cons_of_mem _ C6)
def nQ (bB:List ax) (i:Nat) (o:Oper) (io:ax):Bool:=
 o.after.toList.all (λe=>!Region.binds .any e||Nat.blt e.on i) &&
 io.iH.all λa=>o.after.toList.any λe=>Region.binds .any e&&(e.on==a||(match bB[e.on]? with | some x=>x.iH.contains a | none=>false))
def jF (bB:List ax):Nat->List Oper->List ax->Bool
 |i,o::r,io::ir=>nQ bB i o io&&jF bB (i+1) r ir
 |_,_,_=>true
theorem hG {bB:List ax}:∀{l:List Oper} {il:List ax} {i:Nat},jF bB i l il=true->∀(j:Nat) (o:Oper) (io:ax),l[j]?=some o->il[j]?=some io->nQ bB (i+j) o io=true
 |[],_,_,_,j,o,io,h,_=>by simp at h
 |_::_,[],_,_,j,o,io,_,h=>by simp at h
 |o'::r,yP::ir,i,h,j,o,io,h1,h2=>by
  simp only[jF,Bool.and_eq_true]at h;cases j with
  |zero=>simp at h1 h2;subst h1 h2;exact h.1
  |succ j=>have:=hG h.2 j o io (by simpa using h1) (by simpa using h2);rwa [show i+1+j=i+(j+1) by omega]at this
structure Rest (ops:Array Oper) (bB:List ax) (L:List (Nat×ax×br)) (listed:Array Bool):Prop where
 size:listed.size=ops.size
 left:∀x ∈ L,x.1<ops.size/\listed[x.1]?=some false/\bB[x.1]?=some x.2.1
 all:∀(i:Nat),listed[i]?=some false->∃x ∈ L,x.1=i
 down:∀(i:Nat) (io:ax),bB[i]?=some io->listed[i]?=some true->∀a ∈ io.iH,listed[a]?=some true
 pw:L.Pairwise PW
theorem sJ {call:Nat->List AV->Hp->Option (AV×Hp)} (hs:bp ν P call) {nt:Nat} {ops:Array Oper} {bB:List ax} {Q:Exit->Act->World->Prop} {s0:Nat} {s':St}
  (hc:cS P ν nt ops ops.toList bB=true) (uF:jF bB 0 ops.toList bB=true):∀(n:Nat) (L:List (Nat×ax×br)) (listed:Array Bool) (g:Gh) (a:Act) (s:St),L.length=n->Rest ops bB L listed->
  eA call s0 L s s'->cc ν k nt g a s->(∀g' a',cc ν k nt g' a' s'->aX ν g g'->Q .normal a' g'.w)->wpAny P .any ops Q n listed a g.w:=by
 intro n
 induction n with
 |zero=>
  intro L listed g a s hn hl hr m hQ;cases L with
  |cons=>simp at hn
  |nil=>
   refine⟨?_,?_⟩
   ·refine List.eq_nil_iff_forall_not_mem.2 λj hj=>?_
    obtain⟨h1,o,ho, -⟩:=mem_ready.1 hj;have yQ:j<listed.size:=by rw[hl.size];exact(Array.getElem?_eq_some_iff.1 ho).1
    obtain⟨x,hx, -⟩:=hl.all j (by simp[Array.getD,yQ]at h1;simp[yQ,h1]);cases hx
   ·cases hr with
    |nil h=>
     obtain⟨m',hm⟩:=m.jc h;exact hQ { g with h:=s'.hp } a m' hm
 |succ n ih=>
  intro L listed g a s hn hl hr m hQ;have gV:∀{j:Nat} {b:Bool} {d:Bool},listed.getD j d=b->b≠d->listed[j]?=some b:=by
   intro j b d h hb;by_cases hj:j<listed.size
   ·simp[Array.getD,hj]at h;simp[hj,h]
   ·simp[Array.getD,hj]at h;exact absurd h.symm hb
  obtain⟨hlen,cf⟩:=fp hc;refine⟨λh0=>?_,λj hj=>?_⟩
  ·exfalso;cases L with
   |nil=>simp at hn
   |cons x r=>
    obtain⟨h1,h2,h3⟩:=hl.left x (List.mem_cons_self ..);have:x.1 ∈ Region.ready .any ops listed:=by
     have ho:ops[x.1]?=some ops[x.1]:=by simp[h1]
     refine mem_ready.2 ⟨by simp[Array.getD_eq_getD_getElem?,h2],_,ho,λe he hb=>?_⟩;have hA:=hG uF x.1 ops[x.1] x.2.1 (by simp[h1]) h3;simp only[nQ,Bool.and_eq_true,List.all_eq_true,Nat.zero_add]at hA;have aV:=hA.1 e (by simpa using he);simp only[hb,Bool.not_true,Bool.false_or,Nat.blt_eq]at aV;have uG:e.on<listed.size:=by rw[hl.size];omega
     cases hv:listed[e.on]with
     |true=>simp[uG,hv]
     |false=>
      obtain⟨y,hy,mW⟩:=hl.all e.on (by simp[uG,hv]);rcases List.mem_cons.1 hy with rfl | hy
      ·omega
      ·have:=(List.pairwise_cons.1 hl.pw).1 y hy;have:=this.1;omega
    rw[h0]at this;cases this
  ·obtain⟨h1,o,ho,xo⟩:=mem_ready.1 hj;obtain⟨x,hx,rfl⟩:=hl.all j (gV h1 (by simp));obtain⟨L1,L2,rfl⟩:=List.append_of_mem hx;obtain⟨aV,oW,uH⟩:=hl.left x hx;have hA:=hG uF x.1 o x.2.1 (by simpa using ho) uH;simp only[nQ,Bool.and_eq_true,List.all_eq_true,List.any_eq_true,Nat.zero_add]at hA;have og:∀b ∈ x.2.1.iH,listed[b]?=some true:=by
    intro b hb;obtain⟨e,he,h2,h3⟩:=hA.2 b hb;have iF:=gV (xo e (by simpa using he) h2) (by simp);simp only[Bool.or_eq_true,beq_iff_eq]at h3;rcases h3 with h3 | h3
    ·subst h3;exact iF
    ·split at h3
     ·rename_i y hy;exact hl.down e.on y hy iF b (by simpa using h3)
     ·cases h3
   have kH:=List.pairwise_append.1 hl.pw;have uI:=List.pairwise_cons.1 kH.2.1;obtain⟨s1,e1, -,r1⟩:=eA.front L1 s hr λy hy=>by
    obtain⟨q1,q2⟩:=kH.2.2 y hy x (List.mem_cons_self ..);refine q2 λhb=>?_
    have:=og _ hb;rw[(hl.left y (by simp[hy])).2.1]at this;cases this
   have jx:Rest ops bB (L1++L2) (listed.setIfInBounds x.1 true):=by
    have bG:∀y ∈ L1++L2,x.1≠y.1:=by
     intro y hy;rcases List.mem_append.1 hy with hy | hy
     ·have:=(kH.2.2 y hy x (List.mem_cons_self ..)).1;omega
     ·have:=(uI.1 y hy).1;omega
    have oX:x.1<listed.size:=by rw[hl.size];exact aV
    refine⟨by simpa using hl.size,λy hy=>?_,λi hi=>?_,λi io rF hi b hb=>?_,List.pairwise_append.2 ⟨kH.1,uI.2,λy hy z hz=>kH.2.2 y hy z (List.mem_cons_of_mem _ hz)⟩⟩
    ·obtain⟨q1,q2,q3⟩:=hl.left y (by rcases List.mem_append.1 hy with h | h<;>simp[h]);exact⟨q1,by rw[Array.getElem?_setIfInBounds_ne (bG y hy)];exact q2,q3⟩
    ·by_cases lH:x.1=i
     ·subst lH;simp[oX]at hi
     ·rw[Array.getElem?_setIfInBounds_ne lH]at hi;obtain⟨y,hy,yR⟩:=hl.all i hi;refine⟨y,?_,yR⟩;simp only[List.mem_append,List.mem_cons]at hy ⊢;rcases hy with h | rfl | h
      ·exact .inl h
      ·exact absurd yR lH
      ·exact .inr h
    ·have oM:∀{b:Nat},listed[b]?=some true->(listed.setIfInBounds x.1 true)[b]?=some true:=by
      intro b hb;by_cases yS:x.1=b
      ·subst yS;simp[oX]
      ·rw[Array.getElem?_setIfInBounds_ne yS];exact hb
     by_cases lH:x.1=i
     ·subst lH;rw[uH]at rF;cases rF;exact oM (og b hb)
     ·rw[Array.getElem?_setIfInBounds_ne lH]at hi;exact oM (hl.down i io rF hi b hb)
   unfold wpOp;simp only[ho];have hw:=j9 (Q:=Q) hs (cf x.1 o x.2.1 (by simpa using ho) uH) m e1 (next:=wpAny P .any ops Q n (listed.setIfInBounds x.1 true)) λg' a' m' hm=>
    ih (L1++L2) _ g' a' s1 (by simp at hn ⊢;omega) jx r1 m' λdF oT oU c8=>hQ dF oT oU (hm.trans c8)
   split
   ·rename_i h;rw[if_pos h]at hw;exact .inl hw
   ·rename_i h;rw[if_neg h]at hw;exact hw
def jG (P:Program) (ν:Nat->Nat) (nt:Nat) (draw:Bool) (ops:Array Oper) (bB:List ax):Bool:=
 cS P ν nt ops ops.toList bB&&(!draw||(jF bB 0 ops.toList bB&&fq 0 bB))
theorem ft:∀(aF:List Nat) (fr:Fr) (t:Nat) (x:AV),get (aY aF fr) t=some x->get fr t=some x
 |[],fr,t,x,h=>by simp[aY,get]at h
 |k::r,fr,t,x,h=>by
  simp only[aY]at h;cases hk:get fr k with
  |none=>rw[hk]at h;exact ft r fr t x h
  |some y=>
   rw[hk]at h;simp only[get]at h;split at h
   ·rename_i h0;subst h0;rw[hk];exact h
   ·exact ft r fr t x h
theorem cc.aF {nt:Nat} {g:Gh} {a:Act} {s:St} (m:cc ν k nt g a s) (aF:List Nat) (nx:Nat):cc ν k nt g a { fr:=aY aF s.fr,hp:=s.hp,nx:=nx }:=
 ⟨m.h,m.r,λt x ht=>m.f t x (ft aF s.fr t x ht),m.n,m.d⟩
theorem jH {call:Nat->List AV->Hp->Option (AV×Hp)} (hs:bp ν P call) (er:P.follows .mixedOrders=true) {nt id:Nat} {draw:Bool} {ops:Array Oper} {bB:List ax} {aF:List Nat}
  (hc:jG P ν nt draw ops bB=true) {g:Gh} {a:Act} {s s':St} (e:aQ call draw bB aF s=some s') (m:cc ν k nt g a s) {Q:Exit->Act->World->Prop}
  (hQ:∀g' a',cc ν k nt g' a' s'->aX ν g g'->Q .normal a' g'.w):(Code.region id ops draw).wp P Q a g.w:=by
 unfold aQ at e;cases h1:aW call bB s.nx s with
 |none=>rw[h1]at e;cases e
 |some s1=>
  rw[h1]at e;simp only[jG,Bool.and_eq_true]at hc;simp only[]at e;split at e
  ·rename_i oY;simp only[Option.some.injEq]at e;subst e;cases draw with
   |false=>exact wp_region_list (lG hs ops.toList bB s.nx g a s s1 hc.1 h1 m λg' a' m' hm=>hQ g' a' (m'.aF aF _) hm)
   |true=>
    simp only[Bool.not_true,Bool.false_or,Bool.and_eq_true]at oY hc;refine wp_region_any er ?_;obtain⟨r',hm⟩:=m.r.world (w':={ g.w with drawn:=g.w.drawn+1 }) (I':=g.I) (λ_ h=>h) (λ_ h=>.inl h) (Nat.le_refl _) rfl rfl rfl λ_ _=>rfl
    obtain⟨bd,hlen⟩:=eA.nc (s0:=s.nx) bB 0 s s1 (by simpa using h1);have hn:=(fp hc.1).1;simp only[Array.length_toList]at hn;have kH:=oV bB (bE call bB (s.nx+64*0) s) 0 hc.2.2 (by
     simp only[gx,Bool.or_eq_true,List.all_eq_true,List.isEmpty_iff]at oY;exact oY.symm)
    have aV:(tag 0 bB (bE call bB (s.nx+64*0) s)).length=ops.size:=by
     rw[hn];generalize bE call bB (s.nx+64*0) s=fs at hlen;generalize 0=i;clear bd kH oY h1 hc hn hQ
     induction bB generalizing fs i with
     |nil=>simp[tag]
     |cons o r ih=>
      cases fs with
      |nil=>simp at hlen
      |cons f fs=>simp only[tag,List.length_cons];rw[ih fs (by simpa using hlen)]
    refine sJ hs hc.1 hc.2.1 ops.size _ _ { g with w:={ g.w with drawn:=g.w.drawn+1 } } a s aV ?_ bd ⟨m.h,r',m.f.mono hm,m.n,m.d⟩ λg' a' m' c8=>hQ g' a' (m'.aF aF _) (hm.trans c8)
    refine⟨by simp,λx hx=>?_,λi hi=>?_,λi io _ hi=>?_,kH⟩
    ·obtain⟨q1,q2,q3⟩:=ka hx;simp only[Nat.sub_zero]at q2;have:x.1<ops.size:=by rw[hn];exact(List.getElem?_eq_some_iff.1 q2).1
     exact⟨this,by simp[this],q2⟩
    ·have bX:i<ops.size:=by
      have:=(Array.getElem?_eq_some_iff.1 hi).1;simpa using this
     obtain⟨x,hx,lH⟩:=nd (i:=0) (j:=i) (il:=bB) hlen (List.getElem?_eq_getElem (by omega));exact⟨x,hx,by omega⟩
    ·have bX:=(Array.getElem?_eq_some_iff.1 hi);obtain⟨q1,q2⟩:=bX;simp at q2
  ·cases e
end
section
variable {ν:Nat->Nat} {P:Program} {k:Cx}
theorem get_map {α β:Type} (f:Nat->α->β):∀(l:List (Nat×α)) (n:Nat),get (l.map λp=>(p.1,f p.1 p.2)) n=(get l n).map (f n)
 |[],_=>rfl
 |p::r,n=>by
  simp only[List.map_cons,get];by_cases h:p.1=n
  ·subst h;simp
  ·rw[if_neg h,if_neg h];exact get_map f r n
theorem get_filter {α:Type} (q:Nat->Bool):∀(l:List (Nat×α)) (n:Nat),get (l.filter λp=>q p.1) n=if q n then get l n else none
 |[],n=>by simp[get]
 |p::r,n=>by
  simp only[List.filter_cons];by_cases hq:q p.1=true
  ·rw[if_pos hq];simp only[get];by_cases h:p.1=n
   ·subst h;simp[hq]
   ·rw[if_neg h,if_neg h];exact get_filter q r n
  ·rw[if_neg hq,get_filter q r n];simp only[get];by_cases h:p.1=n
   ·subst h;simp[hq]
   ·rw[if_neg h]
theorem lJ (kp:List Nat) (n0:Nat) (s:St) (id:Nat):get (again kp n0 s).hp id=if id<1000\/id<n0 then(get s.hp id).map (fM n0 s.hp id) else none:=by
 show get (List.map (λp=>(p.1,fM n0 s.hp p.1 p.2)) (List.filter (λp=>decide (p.1<1000)||decide (p.1<n0)) s.hp)) id=_
 rw[get_map (λn=>fM n0 s.hp n),get_filter (λn=>decide (n<1000)||decide (n<n0))];by_cases h:id<1000\/id<n0
 ·rw[if_pos h,if_pos (by simpa using h)]
 ·rw[if_neg h,if_neg (by simpa using h)];rfl
section
variable {kp:List Nat} {n0:Nat} {g:Gh} {s:St}
theorem te (hh:g.h=s.hp) {v:Value} {id o n ai:Nat} (bw:id<1000) (h:aH g v id o n ai):aH { g with h:=(again kp n0 s).hp } v id o n ai:=by
 unfold aH at h ⊢;rw[hh]at h;rw[show get (again kp n0 s).hp id=(get s.hp id).map (fM n0 s.hp id) by rw[lJ,if_pos (.inl bw)]];cases hg:get s.hp id with
 |none=>rw[hg]at h;exact h
 |some ob=>
  rw[hg]at h;cases ob with
  |cells cs=>exact h
  |buf v' e es=>simp only[Option.map_some,fM,if_pos bw];exact h
  |bb v' e es=>simp only[Option.map_some,fM,if_pos bw];exact h
  |map aU=>exact h
theorem tf (hh:g.h=s.hp) {v:Value} {id ai i j:Nat} (bw:id<1000) (h:aI g v id ai i j):aI { g with h:=(again kp n0 s).hp } v id ai i j:=by
 unfold aI at h ⊢;rw[hh]at h;rw[show get (again kp n0 s).hp id=(get s.hp id).map (fM n0 s.hp id) by rw[lJ,if_pos (.inl bw)]];cases hg:get s.hp id with
 |none=>rw[hg]at h;exact h
 |some ob=>
  rw[hg]at h;cases ob with
  |cells cs=>exact h
  |buf v' e es=>simp only[Option.map_some,fM,if_pos bw];exact h
  |bb v' e es=>simp only[Option.map_some,fM,if_pos bw];exact h
  |map aU=>exact h
theorem lK (hh:g.h=s.hp):∀(d:Nat) (v:Value) (x:AV),RA ν g v x->RA ν { g with h:=(again kp n0 s).hp } v (nrm n0 s.hp d x)
 |0,v,x,_=>.undef v
 |d+1,v,x,hx=>by
  cases hx with
  |undef=>exact .undef v
  |iv h=>exact .iv h
  |agg hn h1 hr=>
   refine .agg (by simpa using hn) h1 λj v c hv hc=>?_
   simp only[List.getElem?_map,Option.map_eq_some_iff]at hc;obtain⟨c',bH,rfl⟩:=hc;exact lK hh d v c' (hr j v c' hv bH)
  |aR hn hr=>
   refine .aR (by simpa using hn) λj v c hv hc=>?_
   simp only[List.getElem?_map,Option.map_eq_some_iff]at hc;obtain⟨c',bH,rfl⟩:=hc;exact lK hh d v c' (hr j v c' hv bH)
  |bJ hn hr=>
   refine .bJ (by simpa using hn) λj v c hv hc=>?_
   simp only[List.getElem?_map,Option.map_eq_some_iff]at hc;obtain⟨c',bH,rfl⟩:=hc;exact lK hh d v c' (hr j v c' hv bH)
  |@own _ id o n ai h1 h=>
   simp only[nrm];by_cases bw:id<1000
   ·rw[if_pos bw];exact .own h1 (te hh bw h)
   ·rw[if_neg bw];by_cases hn:id<n0
    ·rw[if_pos hn];have dg:get (again kp n0 s).hp id=(get s.hp id).map (fM n0 s.hp id):=by rw[lJ,if_pos (.inr hn)]
     unfold aH at h;rw[hh]at h;split
     ·rename_i v' e es hg;rw[hg]at h;split
      ·rename_i hv;refine .own h1 ?_;unfold aH;rw[dg,hg];simp only[Option.map_some,fM,if_neg bw];exact⟨Nat.le_refl _,λ_=>h.2 hv⟩
      ·exact .undef v
     ·rename_i v' e es hg;rw[hg]at h;split
      ·rename_i hv;refine .own h1 ?_;unfold aH;rw[dg,hg];simp only[Option.map_some,fM,if_neg bw];exact⟨Nat.le_refl _,λ_=>h.2 hv⟩
      ·exact .undef v
     ·exact .undef v
    ·rw[if_neg hn];exact .undef v
  |@ref _ id ai i j h1 h=>
   simp only[nrm];by_cases bw:id<1000
   ·rw[if_pos bw];exact .ref h1 (tf hh bw h)
   ·rw[if_neg bw];by_cases hn:id<n0
    ·rw[if_pos hn];have dg:get (again kp n0 s).hp id=(get s.hp id).map (fM n0 s.hp id):=by rw[lJ,if_pos (.inr hn)]
     unfold aI at h;rw[hh]at h;split
     ·rename_i v' e es hg;rw[hg]at h;split
      ·rename_i hv;refine .ref h1 ?_;unfold aI;rw[dg,hg];simp only[Option.map_some,fM,if_neg bw];exact⟨Nat.le_refl _,λ_=>h.2 hv⟩
      ·exact .undef v
     ·rename_i v' e es hg;rw[hg]at h;split
      ·rename_i hv;refine .ref h1 ?_;unfold aI;rw[dg,hg];simp only[Option.map_some,fM,if_neg bw];exact⟨Nat.le_refl _,λ_=>h.2 hv⟩
      ·exact .undef v
     ·rename_i cs hg;rw[hg]at h;refine .ref h1 ?_;unfold aI;rw[dg,hg];exact h
     ·rename_i aU hg;rw[hg]at h;refine .ref h1 ?_;unfold aI;rw[dg,hg];exact h
     ·exact .undef v
    ·rw[if_neg hn];exact .undef v
theorem Ac {nt:Nat} {a:Act} (m:cc ν k nt g a s):cc ν k nt { g with h:=(again kp n0 s).hp } a (again kp n0 s)/\gj g { g with h:=(again kp n0 s).hp }:=by
 have cf:∀{id:Nat} {o:Ob},get (again kp n0 s).hp id=some o->∃o',get g.h id=some o'/\o=fM n0 s.hp id o':=by
  intro id o ho;rw[lJ]at ho;split at ho
  ·simp only[Option.map_eq_some_iff]at ho;obtain⟨o',h1,rfl⟩:=ho;exact⟨o',by rw[m.h];exact h1,rfl⟩
  ·cases ho
 refine⟨⟨rfl,⟨λid o ho=>?_,λid bY o o' b h1 h2 h3 h4=>?_,m.r.small,m.r.i0,m.r.i1,λid o b ho ah=>?_,m.r.size,m.r.os,m.r.tape,m.r.output,m.r.cr⟩,λt x ht=>?_,m.n,m.d⟩,
  ⟨λv id o n ai bw _ h=>te m.h bw h,λv id ai i j bw _ h=>tf m.h bw h⟩⟩
 ·obtain⟨o',h1,rfl⟩:=cf ho;have cr:=m.r.ob id o' h1;cases o' with
  |cells cs=>
   obtain⟨b,e1,e2,e3,e4⟩:=cr;refine⟨b,e1,e2,e3,λj c hc=>?_⟩;simp only[List.getElem?_map,Option.map_eq_some_iff]at hc;obtain⟨c',bH,rfl⟩:=hc;obtain⟨v,c1,c2,c3⟩:=e4 j c' bH;exact⟨v,c1,c2,lK m.h 8 v c' c3⟩
  |buf v e es=>exact cr
  |bb v e es=>exact cr
  |map aU=>
   obtain⟨b,es,clock,e1,e2,e3,e4,e5,e6⟩:=cr;refine⟨b,es,clock,e1,e2,e3,e4,by simpa using e5,λj e p h1 h2=>?_⟩;simp only[List.getElem?_map,Option.map_eq_some_iff]at h2;obtain⟨p',hp,rfl⟩:=h2;obtain⟨c1,c2⟩:=e6 j e p' h1 hp;exact⟨lK m.h 8 _ _ c1,lK m.h 8 _ _ c2⟩
 ·obtain⟨p,q1, -⟩:=cf h1;obtain⟨p',JU, -⟩:=cf h2;exact m.r.inj id bY p p' b q1 JU h3 h4
 ·obtain⟨p,q1, -⟩:=cf ho;exact m.r.own id p b q1 ah
 ·have:get (again kp n0 s).fr t=(get (aY kp s.fr) t).map (nrm n0 s.hp 8):=get_map (λ_=>nrm n0 s.hp 8) (aY kp s.fr) t;rw[this]at ht;simp only[Option.map_eq_some_iff]at ht;obtain⟨y,hy,rfl⟩:=ht;obtain⟨v,h1,h2⟩:=m.f t y (ft _ _ _ _ hy);exact⟨v,h1,lK m.h 8 v y h2⟩
end
def Ex.U:Ex->Exit
 |.norm=>.normal
 |.exit i=>.exit i
 |.ret=>.ret
def cj (P:Program) (ν:Nat->Nat) (nt:Nat):Code->IC->Bool
 |.skip,.skip=>true
 |.label _,.skip=>true
 |.region _ ops draw,.gm d bB _=>draw==d&&jG P ν nt draw ops bB
 |.seq a b,.seq x y=>cj P ν nt a x&&cj P ν nt b y
 |.cond c a b,.cond d x y=>aG ν c d&&cj P ν nt a x&&cj P ν nt b y
 |.block id a,.block jd x=>id==jd&&cj P ν nt a x
 |.loop a,.loop _ x=>cj P ν nt a x
 |.exit id,.exit jd=>id==jd
 |.ret,.ret=>true
 |_,_=>false
theorem tg {c:Code} {Q:Exit->Act->World->Prop} (I:Nat->Act->World->Prop) (h0:∀a w,¬I 0 a w)
  (round:∀n a w,I (n+1) a w->c.wp P (Exit.then (I n) Q) a w) {n:Nat} {a:Act} {w:World} (h:I n a w):(Code.loop c).wp P Q a w:=by
 intro b kk cs;have key:∀n a w,I n a w->∃e a' w',Q e a' w'/\Arrives P (lone (b.at a (.code c::.inLoop c::kk)) cs w) b kk cs e a' w':=by
  intro n
  induction n with
  |zero=>exact λa w h=>(h0 a w h).elim
  |succ n ih=>
   intro a w hI;obtain⟨e,sK,sL,hq,oZ⟩:=round n a w hI b (.inLoop c::kk) cs;cases e with
   |normal=>
    obtain⟨GY,GZ,G0,Fb,BH⟩:=ih sK sL hq;exact⟨GY,GZ,G0,Fb,.of_steps (Steps.trans oZ (.one step_inLoop)) BH⟩
   |exit id=>exact⟨_,sK,sL,hq,.pass (x:=.inLoop c) rfl (λ_ _=>.inl (by simp)) oZ⟩
   |goto l=>exact⟨_,sK,sL,hq,.pass (x:=.inLoop c) rfl (λ_ _=>.inl (by simp)) oZ⟩
   |ret=>exact⟨_,sK,sL,hq,.pass (x:=.inLoop c) rfl (λ_ _=>.inl (by simp)) oZ⟩
   |panic ch=>exact⟨_,sK,sL,hq,.pass (x:=.inLoop c) rfl (λ_ _=>.inl (by simp)) oZ⟩
   |outgrown=>exact⟨_,sK,sL,hq,.pass (x:=.inLoop c) rfl (λ_ _=>.inl (by simp)) oZ⟩
 obtain⟨e,a',w',hq,oZ⟩:=key n a w h;exact⟨e,a',w',hq,.of_steps (.one step_loop) oZ⟩
theorem sM {call:Nat->List AV->Hp->Option (AV×Hp)} (hs:bp ν P call) (er:P.follows .mixedOrders=true) {nt n:Nat}:∀(ic:IC) (c:Code),cj P ν nt c ic=true->
  ∀(g:Gh) (a:Act) (s:St) (r:Ex) (s':St),aD call n ic s=some (r,s')->cc ν k nt g a s->∀Q:Exit->Act->World->Prop,(∀g' a',cc ν k nt g' a' s'->gj g g'->Q r.U a' g'.w)->c.wp P Q a g.w:=by
 intro ic
 induction ic with
 |skip=>
  intro c hc g a s r s' e m Q hQ;simp only[aD,Option.some.injEq,Prod.mk.injEq]at e;obtain⟨rfl,rfl⟩:=e;cases c<;>simp only[cj,Bool.false_eq_true]at hc
  ·exact wp_skip (hQ g a m (.refl g))
  ·exact wp_label (hQ g a m (.refl g))
 |gm draw ops aF=>
  intro c hc g a s r s' e m Q hQ;cases c<;>simp only[cj,Bool.false_eq_true]at hc;rename_i id G1 Fc;simp only[Bool.and_eq_true,beq_iff_eq]at hc;obtain⟨rfl,hc⟩:=hc;simp only[aD,Option.map_eq_some_iff,Prod.mk.injEq]at e;obtain⟨s1,e1,rfl,rfl⟩:=e;exact jH hs er hc e1 m λg' a' m' hm=>hQ g' a' m' hm.low
 |seq x y uJ uK=>
  intro c hc g a s r s' e m Q hQ;cases c<;>simp only[cj,Bool.false_eq_true]at hc;simp only[Bool.and_eq_true]at hc;refine wp_seq ?_;simp only[aD]at e;cases h1:aD call n x s with
  |none=>rw[h1]at e;cases e
  |some p=>
   obtain⟨r1,s1⟩:=p;rw[h1]at e;refine uJ _ hc.1 g a s r1 s1 h1 m _ λg' a' m' hm=>?_
   cases r1 with
   |norm=>exact uK _ hc.2 g' a' s1 r s' e m' Q λdF oT oU c8=>hQ dF oT oU (hm.trans c8)
   |exit i=>simp only[Option.some.injEq,Prod.mk.injEq]at e;obtain⟨rfl,rfl⟩:=e;exact hQ g' a' m' hm
   |ret=>simp only[Option.some.injEq,Prod.mk.injEq]at e;obtain⟨rfl,rfl⟩:=e;exact hQ g' a' m' hm
 |cond d x y uJ uK=>
  intro c hc g a s r s' e m Q hQ;cases c<;>simp only[cj,Bool.false_eq_true]at hc;rename_i cd cx cy;simp only[Bool.and_eq_true]at hc;simp only[aD]at e;split at e
  ·rename_i t ht;have hR:=ak m.f hc.1.1;rw[ht]at hR;generalize hv:a.eval cd=v at hR;cases hR with
   |iv h=>
    cases h with
    |bool=>
     refine wp_cond hv ?_;cases t with
     |true=>exact uJ _ hc.1.2 g a s r s' e m Q hQ
     |false=>exact uK _ hc.2 g a s r s' e m Q hQ
  ·cases e
 |block id x ih=>
  intro c hc g a s r s' e m Q hQ;cases c<;>simp only[cj,Bool.false_eq_true]at hc;simp only[Bool.and_eq_true,beq_iff_eq]at hc;obtain⟨rfl,hc⟩:=hc;refine wp_block ?_;simp only[aD]at e;cases h1:aD call n x s with
  |none=>rw[h1]at e;cases e
  |some p=>
   obtain⟨r1,s1⟩:=p;rw[h1]at e;refine ih _ hc g a s r1 s1 h1 m _ λg' a' m' hm=>?_
   cases r1 with
   |norm=>simp only[Option.some.injEq,Prod.mk.injEq]at e;obtain⟨rfl,rfl⟩:=e;exact hQ g' a' m' hm
   |ret=>simp only[Option.some.injEq,Prod.mk.injEq]at e;obtain⟨rfl,rfl⟩:=e;exact hQ g' a' m' hm
   |exit i=>
    simp only[Ex.U,Exit.inBlock];simp only[]at e;split at e
    ·rename_i hi;simp only[Option.some.injEq,Prod.mk.injEq]at e;obtain⟨rfl,rfl⟩:=e;rw[if_pos hi];exact hQ g' a' m' hm
    ·rename_i hi;simp only[Option.some.injEq,Prod.mk.injEq]at e;obtain⟨rfl,rfl⟩:=e;rw[if_neg hi];exact hQ g' a' m' hm
 |loop aF x ih=>
  intro c hc g a s r s' e m Q hQ;cases c<;>simp only[cj,Bool.false_eq_true]at hc;rename_i cx;simp only[aD]at e;generalize gu:s.nx=n0 at e;subst gu;refine tg (λj a w=>∃g1 s1,g1.w=w/\cc ν k nt g1 a s1/\gj g g1/\iter (aD call n x) aF s.nx j s1=some (r,s')) ?_ ?_ (n:=n) ⟨g,_,rfl,m.aF aF s.nx,.refl g,e⟩
  ·rintro a w ⟨g1,s1, -, -, -,h⟩;simp[iter]at h
  ·rintro j a w ⟨g1,s1,rfl,m1,gS,h⟩;simp only[iter]at h;cases h1:aD call n x s1 with
   |none=>rw[h1]at h;cases h
   |some p=>
    obtain⟨r2,s2⟩:=p;rw[h1]at h;refine ih _ hc g1 a s1 r2 s2 h1 m1 _ λg' a' m' hm=>?_
    cases r2 with
    |norm=>
     obtain⟨m2,gT⟩:=Ac (kp:=aF) (n0:=s.nx) m';exact⟨{ g' with h:=(again aF s.nx s2).hp },_,rfl,m2,(gS.trans hm).trans gT,h⟩
    |exit i=>simp only[Option.some.injEq,Prod.mk.injEq]at h;obtain⟨rfl,rfl⟩:=h;exact hQ g' a' m' (gS.trans hm)
    |ret=>simp only[Option.some.injEq,Prod.mk.injEq]at h;obtain⟨rfl,rfl⟩:=h;exact hQ g' a' m' (gS.trans hm)
 |exit id=>
  intro c hc g a s r s' e m Q hQ;cases c<;>simp only[cj,Bool.false_eq_true]at hc;simp only[aD,Option.some.injEq,Prod.mk.injEq]at e;obtain⟨rfl,rfl⟩:=e;rw[beq_iff_eq]at hc;subst hc;exact wp_exit (hQ g a m (.refl g))
 |ret=>
  intro c hc g a s r s' e m Q hQ;cases c<;>simp only[cj,Bool.false_eq_true]at hc;simp only[aD,Option.some.injEq,Prod.mk.injEq]at e;obtain⟨rfl,rfl⟩:=e;exact wp_ret (hQ g a m (.refl g))
end
section
variable {ν:Nat->Nat} {P:Program} {k:Cx}
theorem wc {g:Gh} (r:Rel ν k g) {x y:AV} {h':Hp} (e:(wG x).run g.h=some (y,h')) {v:Value} (hv:RA ν g v x):∃I',cg ν k g h' I'/\RA ν { g with I:=I',h:=h' } v y:=by
 have rest:∀{x:AV},(eu true x).run g.h=some (y,h')->RA ν g v x->∃I',cg ν k g h' I'/\RA ν { g with I:=I',h:=h' } v y:=by
  intro x e hv;obtain⟨I',f,hR⟩:=lA r e hv;exact⟨I',f,hR.up λ_ _ h=>h⟩
 cases x with
 |own id o n ai=>
  obtain⟨ob,hg,e2⟩:=M.aM e;cases hv with
  |own ed ho=>
   cases ob with
   |cells cs=>exact(ae e2).elim
   |buf v' ee es=>
    obtain⟨_,e4⟩:=M.aj e2;obtain⟨rfl,rfl⟩:=af e4;exact⟨g.I,.refl r,.own ed ho⟩
   |bb v' ee es=>
    obtain⟨hb,e4⟩:=M.aj e2;obtain⟨rfl,rfl⟩:=af e4;refine⟨g.I,.refl r,.iv (gP r hg rfl ?_)⟩;unfold aH at ho;rw[hg]at ho;exact ho.2 (beq_iff_eq.1 hb)
   |map _=>exact(ae e2).elim
 |undef=>exact rest (x:=.undef) e hv
 |iv x=>exact rest (x:=.iv x) e hv
 |aR vs=>exact rest (x:=.aR vs) e hv
 |agg cs=>exact rest (x:=.agg cs) e hv
 |ref id v i j=>exact rest (x:=.ref id v i j) e hv
 |bJ f ay=>exact rest (x:=.bJ f ay) e hv
def iO (tmps:Array Value):ResultVar->Sem Value
 |.tmp t=>pure (tmps.getD t undef)
 |.cell a t=>do loadVar t (<-asAddr (tmps.getD a undef))
def hP (P:Program):ResultVar->dY->Bool
 |.tmp t,.t n=>t==n
 |.cell a t,.cell n agg sz=>a==n&&fE P t sz agg
 |.tmp t,.aF n=>t==n
 |.cell a t,.wE n agg sz=>a==n&&fE P t sz agg
 |_,_=>false
def cP (P:Program):List ResultVar->List dY->Bool
 |[],[]=>true
 |r::rs,x::xs=>hP P r x&&cP P rs xs
 |_,_=>false
theorem sN {t:TypeId} {v u:Value} {w w':World} (h:(Instr.loadAt t v).run P w = .ok u w'):(do loadVar t (<-asAddr v):Sem Value).run P w = .ok u w':=by
 unfold Instr.loadAt at h;cases v with
 |pointer a=>
  cases a with
  |none=>simp[Instr.sureAddr]at h
  |some a=>simpa[Instr.sureAddr,asAddr]using h
 |_=>simp[Instr.sureAddr]at h
theorem nf {g:Gh} (r:Rel ν k g) {a:Act} {fr:Fr} (hf:eU ν g a.tmps fr) {rv:ResultVar} {x:dY} (hc:hP P rv x=true) {y:AV} {h':Hp} (e:(jX fr x).run g.h=some (y,h')) :
  ∃v g',(iO a.tmps rv).run P g.w = .ok v g.w/\g'.w=g.w/\g'.h=h'/\Rel ν k g'/\aX ν g g'/\RA ν g' v y:=by
 cases x with
 |t n=>
  cases rv with
  |cell=>simp[hP]at hc
  |tmp t=>
   obtain⟨I',f,hR⟩:=wc r e (ak (ν:=ν) (x:=.tmp t) hf (by simpa[aG,hP]using hc));exact⟨_,{ g with I:=I',h:=h' },by simp[iO,Act.eval],rfl,rfl,f.rel,f.mono,hR⟩
 |cell n agg sz=>
  cases rv with
  |tmp=>simp[hP]at hc
  |cell t ty=>
   simp only[hP,Bool.and_eq_true]at hc;obtain⟨z,h1,e1,e2⟩:=ag e;obtain⟨rfl,u,hu,yT⟩:=la r hc.2 (ak (ν:=ν) (x:=.tmp t) hf (by simpa[aG]using hc.1)) e1;obtain⟨I',f,hR⟩:=wc r e2 yT;exact⟨u,{ g with I:=I',h:=h' },sN hu,rfl,rfl,f.rel,f.mono,hR⟩
 |aF n=>
  cases rv with
  |cell=>simp[hP]at hc
  |tmp t=>
   obtain⟨rfl,rfl⟩:=af e;exact⟨_,g,by simp[iO,Act.eval],rfl,rfl,r,.refl ν g,ak (ν:=ν) (x:=.tmp t) (a:=a) hf (by simpa[aG,hP]using hc)⟩
 |wE n agg sz=>
  cases rv with
  |tmp=>simp[hP]at hc
  |cell t ty=>
   simp only[hP,Bool.and_eq_true]at hc;obtain⟨rfl,u,hu,yT⟩:=la r hc.2 (ak (ν:=ν) (x:=.tmp t) hf (by simpa[aG]using hc.1)) e;exact⟨u,g,sN hu,rfl,rfl,r,.refl ν g,yT⟩
theorem kI:∀(eB:List ResultVar) (xs:List dY) (g:Gh) (a:Act) (fr:Fr) (ys:List AV) (h':Hp),cP P eB xs=true->Rel ν k g->eU ν g a.tmps fr->(M.aN (jX fr) xs).run g.h=some (ys,h')->
  ∃vs g',vs.length=eB.length/\(∀(j:Nat) (rv:ResultVar) (v:Value),eB[j]?=some rv->vs[j]?=some v->(iO a.tmps rv).run P g.w = .ok v g.w)/\g'.w=g.w/\g'.h=h'/\Rel ν k g'/\aX ν g g'/\RL ν g' vs ys
 |[],[],g,a,fr,ys,h',_,r,_,e=>by
  obtain⟨rfl,rfl⟩:=b9 e;exact⟨[],g,rfl,λj rv v h=>by simp at h,rfl,rfl,r,.refl ν g,.nil⟩
 |rv::eB,x::xs,g,a,fr,ys,h',hc,r,hf,e=>by
  simp only[cP,Bool.and_eq_true]at hc;obtain⟨y,h1,zs,e1,e2,rfl⟩:=bU e;obtain⟨v,g1,q1,q2,q3,q4,q5,q6⟩:=nf r hf hc.1 e1;obtain⟨vs,g2,p1,p2,p3,p4,p5,p6,p7⟩:=kI eB xs g1 a fr zs h' hc.2 q4 (hf.mono q5) (by rw[q3];exact e2);refine⟨v::vs,g2,by simp[p1],λj yU v' hj hv=>?_,p3.trans q2,p4,p5,q5.trans p6,.cons (p6 _ _ q6) p7⟩;cases j with
  |zero=>simp at hj hv;subst hj hv;exact q1
  |succ j=>have:=p2 j yU v' (by simpa using hj) (by simpa using hv);rwa [q2]at this
 |[],_::_,_,_,_,_,_,hc,_,_,_=>by simp[cP]at hc
 |_::_,[],_,_,_,_,_,hc,_,_,_=>by simp[cP]at hc
def sO:List Value->Value
 |[v]=>v
 |vs=>.tuple vs.toArray
theorem km {fn:Func} {tmps:Array Value} {w:World} {eB:List ResultVar} (FM:fn.results=eB.toArray) (h4:eB.length<=4) {vs:List Value} (hl:vs.length=eB.length)
  (h:∀(j:Nat) (rv:ResultVar) (v:Value),eB[j]?=some rv->vs[j]?=some v->(iO tmps rv).run P w = .ok v w) :
  (results fn tmps).run P w = .ok (sO vs) w:=by
 have hd:(results fn tmps)=(do
   let vs <-fn.results.mapM (iO tmps)
   pure (if h:vs.size=1 then vs[0] else .tuple vs)):=by
  have hf:iO tmps=λrv=>(match rv with | .tmp t=>pure (tmps.getD t undef) | .cell a t=>do loadVar t (<-asAddr (tmps.getD a undef)):Sem Value):=by
   funext rv;cases rv<;>rfl
  rw[hf];rfl
 rw[hd,FM];clear FM
 match eB,vs,hl,h4,h with
 |[],[],_,_,_=>simp[sO]
 |[a],[v],_,_,h=>simp[sO,h 0 a v rfl rfl]
 |[a,b],[v,u],_,_,h=>simp[sO,h 0 a v rfl rfl,h 1 b u rfl rfl]
 |[a,b,c],[v,u,x],_,_,h=>simp[sO,h 0 a v rfl rfl,h 1 b u rfl rfl,h 2 c x rfl rfl]
 |[a,b,c,d],[v,u,x,y],_,_,h=>simp[sO,h 0 a v rfl rfl,h 1 b u rfl rfl,h 2 c x rfl rfl,h 3 d y rfl rfl]
 |_::_::_::_::_::_,_,_,h4,_=>simp at h4
theorem kJ {g:Gh} (r:Rel ν k g) {a:Act} {fr:Fr} (hf:eU ν g a.tmps fr) {fn:Func} {xs:List dY} (hc:cP P fn.results.toList xs=true) (h4:xs.length<=4) {y:AV} {h':Hp} (e:(dB fr xs).run g.h=some (y,h')) :
  ∃v g',(results fn a.tmps).run P g.w = .ok v g.w/\g'.w=g.w/\g'.h=h'/\Rel ν k g'/\aX ν g g'/\RA ν g' v y:=by
 have hlen:∀{eB:List ResultVar} {xs:List dY},cP P eB xs=true->eB.length=xs.length:=by
  intro eB
  induction eB with
  |nil=>intro xs h;cases xs with | nil=>rfl | cons=>simp[cP]at h
  |cons a r ih=>intro xs h;cases xs with | nil=>simp[cP]at h | cons x xs=>simp only[cP,Bool.and_eq_true]at h;simp[ih h.2]
 have hn:=hlen hc;have many:∀{ys:List AV},(M.aN (jX fr) xs).run g.h=some (ys,h')->xs.length≠1->∃v g',(results fn a.tmps).run P g.w = .ok v g.w/\g'.w=g.w/\g'.h=h'/\Rel ν k g'/\aX ν g g'/\RA ν g' v (.aR ys):=by
  intro ys e bG;obtain⟨vs,g',p1,p2,p3,p4,p5,p6,p7⟩:=kI fn.results.toList xs g a fr ys h' hc r hf e;refine⟨.tuple vs.toArray,g',?_,p3,p4,p5,p6,.aR (by simpa using p7.1) λj v c h1 h2=>p7.2 j v c (by simpa using h1) h2⟩;rw[km (eB:=fn.results.toList) (by simp) (by omega) p1 p2];rcases vs with _ | ⟨v,_ | ⟨u,vs⟩⟩
  ·rfl
  ·exact absurd (hn.symm.trans p1.symm) (by simpa using bG)
  ·rfl
 rcases xs with _ | ⟨x,_ | ⟨x2,xs⟩⟩
 ·obtain⟨l,h1,e1,e2⟩:=ag e;obtain⟨rfl,rfl⟩:=af e2;exact many e1 (by simp)
 ·rcases hl:fn.results.toList with _ | ⟨rv,_ | ⟨JV,eB⟩⟩
  ·rw[hl]at hn;simp at hn
  ·rw[hl]at hc;simp only[cP,Bool.and_true]at hc;obtain⟨v,g',q1,q2,q3,q4,q5,q6⟩:=nf r hf hc e;refine⟨v,g',?_,q2,q3,q4,q5,q6⟩;refine km (eB:=[rv]) (vs:=[v]) (by rw[<-hl]) (by simp) rfl λj yU v' hj hv=>?_
   cases j with
   |zero=>simp at hj hv;subst hj hv;exact q1
   |succ j=>simp at hj
  ·rw[hl]at hn;simp at hn
 ·obtain⟨l,h1,e1,e2⟩:=ag e;obtain⟨rfl,rfl⟩:=af e2;exact many e1 (by simp)
end
def eK (d:Nat) (x:aK):ax:=⟨some d,.l9 x,none,[]⟩
def nR (e:Nat) (z:List IV):List ax:=[⟨some 5,.nZ e z 0 [],none,[]⟩,eK 6 (.t 0),⟨some 7,.app e (.t 5) (.t 6),none,[]⟩,eK 2 (.t 7)]
def rG (P:Program) (nt e:Nat) (b:Oper):Bool:=
 b.dst==some 4&&Nat.blt 4 nt&&(match b.guard with | none=>true | _=>false)&&(match b.op with | .binOp .eql t (.tmp 3) (.const (.slice none 0 0)) _=>sliceB P t e | _=>false)
def lL (P:Program) (ν:Nat->Nat) (nt:Nat) (c:Code) (e:Nat) (z:List IV):Bool:=
 match c with
 |.seq (.region _ o1 false) (.seq (.seq (.region _ o2 false) (.cond (.tmp 4) (.seq (.region _ o3 false) .ret) .skip)) (.seq (.region _ o4 false) .ret))=>
  jG P ν nt false o1 [eK 2 (.c (.az e))]&&(match o2.toList with | [a,b]=>fI P ν nt o2 a (eK 3 (.t 0))&&rG P nt e b | _=>false) &&
  jG P ν nt false o3 [eK 2 (.c (.az e))]&&jG P ν nt false o4 (nR e z)
 |_=>false
section
variable {ν:Nat->Nat} {P:Program} {k:Cx}
def hU:Nat->List AV->Hp->Option (AV×Hp):=λ_ _ _=>none
theorem dG:bp ν P hU:=λf args hp r bN e=>by simp[hU]at e
theorem xp (h:Hp) (n:Nat) (x y:Ob):GE (set h n y) (set (set h n x) n y):=λm=>by
 by_cases hm:n=m<;>simp[aP,hm]
theorem cc.nx {nt:Nat} {g:Gh} {a:Act} {s:St} (m:cc ν k nt g a s) {fr:Fr} (hf:fr=s.fr) {hp:Hp} (hh:hp=s.hp) (n:Nat):cc ν k nt g a ⟨fr,hp,n⟩:=by
 subst hf hh;exact⟨m.h,m.r,m.f,m.n,m.d⟩
theorem uL (e:Nat) (x:AV) (hp:Hp):aQ hU false [eK 2 (.c (.az e))] [0] ⟨[(0,x)],hp,1000⟩=some ⟨[(0,x)],hp,1064⟩:=rfl
theorem uM (e:Nat) (fr:Fr) (hp:Hp):aQ hU false [eK 2 (.c (.az e))] [2] ⟨fr,hp,1000⟩=some ⟨aY [2] (set fr 2 (.iv (.az e))),hp,1064⟩:=rfl
theorem uN {e:Nat} {z:List IV} (hz:z.length=e) {es:List (List IV)} {hp:Hp} (hf:get hp 1000=none) (hr:roomy es.length=true) :
  aQ hU false (nR e z) [2] ⟨[(0,.iv (.sl e es))],hp,1000⟩=some ⟨[(2,.own 1000 0 es.length 1)],set (set hp 1000 (.buf 0 e [])) 1000 (.buf 1 e es),1256⟩:=by
 simp[aQ,nR,eK,aW,step,bK,bn,bc,M.aN,M.run,M.ok,M.fresh,M.write,hz,hf,bj,al.set,ev,get,app,elems,M.look,aP,ec,hr,aY]
theorem qB {f:Nat} {fn:Func} {c:Code} (dp:P.funcs[ν f]?=some fn) (hb:fn.body=some c) (er:P.follows .mixedOrders=true) {e:Nat} {z:List IV} (hc:lL P ν fn.ntmps c e z=true)
  (Ad:cP P fn.results.toList [.t 2]=true) {args:List AV} {hp:Hp} {r:AV} {bN:Hp} (he:(tN e args).run hp=some (r,bN)):gW ν P f args hp r bN:=by
 intro k0 g0 aT hh FN FO r0 dn;unfold tN at he;split at he
 case h_2=>exact(ae he).elim
 rename_i e' es;obtain⟨_,h1,e1,e2⟩:=ag he;obtain⟨hk,rfl⟩:=mb e1;simp only[Bool.and_eq_true,beq_iff_eq]at hk;obtain⟨rfl,dk⟩:=hk;obtain⟨_,h2,e3,e4⟩:=ag e2;obtain⟨v7,rfl⟩:=M.cq e3;obtain⟨_,h3,e5,e6⟩:=ag e4;obtain rfl:=aL e5;obtain⟨_,h4,e7,e8⟩:=ag e6;obtain rfl:=aL e7;obtain⟨rfl,rfl⟩:=af e8;clear he e1 e2 e3 e4 e5 e6 e7 e8;obtain⟨cv,fV⟩:∃cv,aT=#[cv]:=by
  have:=dn.1;simp only[List.length_cons,List.length_nil,Nat.zero_add,Array.length_toList]at this;obtain⟨l⟩:=aT
  match l,this with
  |[v],_=>exact⟨v,rfl⟩
 subst fV;have ru:RA ν g0 cv (.iv (.sl e' es)):=dn.2 0 _ _ rfl rfl;refine calls_of_wp dp hb ?_;have m0:cc ν k0 fn.ntmps g0 { tmps:=#[cv]++Array.replicate (fn.ntmps - 1) undef,defers:=[] } ⟨[(0,.iv (.sl e' es))],h2,1000⟩:=by
  refine⟨hh,r0,λt x ht=>?_,by simp;omega,rfl⟩;simp only[get]at ht;split at ht
  ·rename_i h0;subst h0;simp only[Option.some.injEq]at ht;subst ht;exact⟨cv,by simp[Array.getElem?_append],ru⟩
  ·cases ht
 unfold lL at hc;split at hc
 case h_2=>cases hc
 rename_i i1 o1 i2 o2 i3 o3 i4 o4;simp only[Bool.and_eq_true]at hc;obtain⟨⟨⟨uO,o0⟩,yV⟩,uP⟩:=hc;split at o0
 case h_2=>cases o0
 rename_i oa ob hl;simp only[Bool.and_eq_true]at o0;obtain⟨C7,de⟩:=o0;simp only[rG,Bool.and_eq_true,beq_iff_eq]at de;obtain⟨⟨⟨th,C8⟩,yW⟩,uQ⟩:=de;have Ae:ob.guard=none:=by
  split at yW
  ·assumption
  ·cases yW
 split at uQ
 case h_2=>cases uQ
 rename_i t yt Af;obtain⟨el,ti,gH, -, -⟩:=dh uQ;refine wp_seq (jH dG er uO (uL e' (.iv (.sl e' es)) h2) m0 λg1 a1 m1 gS=>?_);refine wp_seq (wp_seq (wp_region_list ?_));rw[hl];refine wpList_step λK hK=>j9 (slot:=0) (s1:=⟨[(0,.iv (.sl e' es)),(3,.iv (.sl e' es))],h2,1064⟩) dG C7 m1 rfl λg2 a2 m2 gT=>hK _ _ ?_
 refine wpList_step λK2 rH=>?_
 simp only[Region.wanted,Ae,if_true];obtain⟨v3,yX,C9⟩:=m2.f 3 _ rfl;have uR:a2.eval (.tmp 3)=v3:=by simp[Act.eval,Array.getD,(Array.getElem?_eq_some_iff.1 yX).1,(Array.getElem?_eq_some_iff.1 yX).2]
 obtain⟨aa,n,cap,eR,mG⟩:∃aa n cap,v3 = .slice aa n cap/\(aa=none->es=[]):=by
  cases C9 with
  |iv h=>
   cases h with
   |dS a cap e=>exact⟨a,0,cap,rfl,λ_=>rfl⟩
   |sl b off n cap e es f=>exact⟨_,n,cap,rfl,λh=>by cases h⟩
 subst eR;have bd:(execOp a2.eval ob).run P g2.w = .ok (.value (.bool aa.isNone)) g2.w:=by
  have hg:eqGuard .eql t (.tmp 3) (.const (.slice none 0 0)) (.slice aa n cap) (.slice none 0 0)=pure ():=rfl;have:=Lib.run_eql_slice_nil g2.w t el aa n cap 0 0 gH;simp only[execOp,Af,uR,show a2.eval (.const (.slice none 0 0)) = .slice none 0 0 from rfl,hg];simp only[Sem.run_bind,Sem.run_pure,Result.andThen_ok,this]
 unfold Oper.wp;rw[bd,Oper.upon_value];refine rH _ _ (wpList_nil ?_);have m3:=m2.put (d:=some 4) (v:=.bool aa.isNone) (y:=.iv (.bool aa.isNone)) (λt ht=>by cases ht;simpa using C8) m2.h m2.r (.refl ν g2) (.iv (.bool _));rw[<-th]at m3;simp only[Exit.then];have jI:(a2.put ob.dst (.bool aa.isNone)).eval (.tmp 4) = .bool aa.isNone:=by
  have:=ak (ν:=ν) (x:=.tmp 4) (y:=.t 4) m3.f (by rfl);have Ag:ev (bj [(0,AV.iv (.sl e' es)),(3,.iv (.sl e' es))] ob.dst (.iv (.bool aa.isNone))) (.t 4) = .iv (.bool aa.isNone):=by rw[th];rfl
  rw[Ag]at this;generalize(a2.put ob.dst (.bool aa.isNone)).eval (.tmp 4)=u at this;cases this with
  |iv h=>cases h;rfl
 refine wp_cond jI ?_;have fin:∀(g':Gh) (a':Act),cc ν k0 fn.ntmps g' a' ⟨[(2,.own 1000 0 es.length 1)],set (set h2 1000 (.buf 0 e' [])) 1000 (.buf 1 e' es),1256⟩->gj g0 g'->
   a'.defers=[]/\∃v,(results fn a'.tmps).run P g'.w = .ok v g'.w/\∃u dF,Ending.returned v = .returned u/\dF.w=g'.w/\dF.h=set (set h2 1000 (.buf 0 e' [])) 1000 (.buf 1 e' es)/\Rel ν k0 dF/\gj g0 dF/\
    RA ν dF u (.own 1000 0 es.length 1):=by
  intro g' a' m' hm;obtain⟨v,dF,q1,q2,q3,q4,q5,q6⟩:=kJ (y:=.own 1000 0 es.length 1) (h':=set (set h2 1000 (.buf 0 e' [])) 1000 (.buf 1 e' es)) m'.r m'.f Ad (by simp) (by
   rw[m'.h];simp[dB,jX,wG,ev,get,M.look,M.bind,M.run,aP,M.ok])
  exact⟨m'.d,v,q1,v,dF,rfl,q2,q3,q4,hm.trans q5.low,q6⟩
 cases aa with
 |none=>
  obtain rfl:=mG rfl;simp only[Option.isNone_none,if_true]at m3 ⊢;refine wp_seq (jH dG er yV (uM e' _ h2) (m3.nx rfl rfl 1000) λg4 a4 m4 uS=>wp_ret ?_);have nL:=m4.r.new (s:=1000) (ob:=.buf 1 e' []) (p:=none) (w':=g4.w) (by rw[m4.h];exact v7) (Nat.le_refl _) rfl rfl rfl (λ_ _=>rfl) (λb h=>by cases h) λ_=>.inl ⟨aw g4.φ 1000 none,rfl⟩
  have pV:GE (set g4.h 1000 (.buf 1 e' [])) (set (set h2 1000 (.buf 0 e' [])) 1000 (.buf 1 e' [])):=by rw[m4.h];exact xp _ _ _ _
  obtain⟨r5,JW⟩:=Rel.he nL.1 pV;refine fin { g4 with φ:=bl g4.φ 1000 none,h:=set (set h2 1000 (.buf 0 e' [])) 1000 (.buf 1 e' []) } a4 ⟨rfl,r5,λt x ht=>?_,m4.n,m4.d⟩ ((((gS.trans gT).trans uS).trans nL.2).trans JW).low;simp only[get]at ht;split at ht
  ·rename_i Da;subst Da;simp only[Option.some.injEq]at ht;subst ht;obtain⟨u,hu,JX⟩:=m4.f 2 (.iv (.az e')) (by rw[th];rfl);refine⟨u,hu,?_⟩;cases JX with
   |iv h=>
    cases h with
    |az a e=>
     refine .own rfl ?_;unfold aH;simp only[aq,aw];exact⟨Nat.le_refl _,λ_=>⟨⟨a,rfl⟩,rfl⟩⟩
  ·cases ht
 |some ad=>
  simp only[Option.isNone_some,Bool.false_eq_true,if_false]at m3 ⊢;refine wp_skip ?_;simp only[Exit.then];have JY:cc ν k0 fn.ntmps g2 (a2.put ob.dst (.bool false)) ⟨[(0,.iv (.sl e' es))],h2,1000⟩:=⟨m3.h,m3.r,λt x ht=>m3.f t x (by
   simp only[get]at ht;split at ht
   ·rename_i h0;subst h0;rw[th];exact ht
   ·cases ht),m3.n,m3.d⟩
  have hz:z.length=e':=by
   simp only[jG,Bool.and_eq_true]at uP;have:=(fp uP.1);have hlen:=this.1;have h0:=this.2 0 (o4.toList[0]'(by rw[hlen];simp[nR])) _ (List.getElem?_eq_getElem _) rfl;simp only[fI,Bool.and_eq_true]at h0;have h1:=h0.2;simp only[ry]at h1;split at h1
   ·simp only[Bool.and_eq_true,xf]at h1;have h2:=h1.1.2;split at h2
    ·simp only[Bool.and_eq_true,beq_iff_eq]at h2;exact h2.1.2
    ·cases h2
   ·cases h1
  refine wp_seq (jH dG er uP (uN hz v7 dk) JY λg4 a4 m4 uS=>wp_ret ?_);exact fin g4 a4 m4 ((gS.trans gT).trans uS).low
end
section
variable {ν:Nat->Nat} {P:Program} {k:Cx}
def pZ (P:Program) (ν:Nat->Nat) (fn:Func) (c:Code) (ir:an):Bool:=
 (match ir.cl with | some p=>(if Nat.blt p.1 1000000 then lL P ν fn.ntmps c p.1 p.2&&cP P fn.results.toList [.t 2] else cj P ν fn.ntmps c ir.body) | none=>cj P ν fn.ntmps c ir.body)&&cP P fn.results.toList ir.res&&Nat.ble ir.res.length 4
def ng (P:Program) (ν:Nat->Nat) (f:Nat) (ir:an):Prop:=
 match ir.cl with
 |none=>True
 |some p=>Nat.blt p.1 1000000=true\/∀args hp r bN,qV p.1 args hp=some (r,bN)->gW ν P f args hp r bN
def jW (P:Program) (ν:Nat->Nat) (prog:Nat->Option an):Prop:=
 ∀f ir,prog f=some ir->∃fn c,P.funcs[ν f]?=some fn/\fn.body=some c/\(fn.name=="runtime.NumGoroutine")=false/\pZ P ν fn c ir=true/\ng P ν f ir
theorem jJ:∀(l:List AV) (i t:Nat),get (params l i) t=if i<=t then l[t - i]? else none
 |[],i,t=>by simp[params,get]
 |x::r,i,t=>by
  simp only[params,get];by_cases h:i=t
  ·subst h;simp
  ·rw[if_neg h,jJ r (i+1) t];by_cases h':i+1<=t
   ·rw[if_pos h',if_pos (by omega)];have:t - i=(t - (i+1))+1:=by omega
    rw[this];simp
   ·rw[if_neg h',if_neg (by omega)]
theorem sound (er:P.follows .mixedOrders=true) {prog:Nat->Option an} (tie:jW P ν prog):∀n,bp ν P (bg prog n):=by
 intro n
 induction n with
 |zero=>intro f args hp r bN e;simp[bg]at e
 |succ n ih=>
  intro f args hp r bN e;simp only[bg]at e;cases hf:prog f with
  |none=>rw[hf]at e;cases e
  |some ir=>
   rw[hf]at e;simp only[]at e;obtain⟨fn,c,dp,hb,rC,jj,Bp⟩:=tie f ir hf;refine⟨⟨fn,dp,by simp[hb],rC⟩,?_⟩;simp only[pZ,Bool.and_eq_true,Nat.ble_eq]at jj;have main:cj P ν fn.ntmps c ir.body=true->(if args.length=ir.np then
     match aD (bg prog n) n ir.body ⟨params args 0,hp,1000⟩with
     |some (.norm,s) | some (.ret,s)=>(dB s.fr ir.res).run s.hp
     |_=>none
    else none)=some (r,bN)->gW ν P f args hp r bN:=by
    intro oA e;split at e
    ·rename_i hlen;intro k0 g0 aT hh FN FO r0 dn;refine calls_of_wp dp hb ?_;have m0:cc ν k0 fn.ntmps g0 { tmps:=aT++Array.replicate (fn.ntmps - aT.size) undef,defers:=[] } ⟨params args 0,hp,1000⟩:=by
      refine⟨hh,r0,λt x ht=>?_,by simp;omega,rfl⟩;simp only[jJ,Nat.zero_le,if_true,Nat.sub_zero]at ht;have aV:t<aT.size:=by have:=dn.1;have:=aA ht;simp only[Array.length_toList]at *;omega
      refine⟨aT[t],by simp[Array.getElem?_append,aV],dn.2 t _ _ (by simp[aV]) ht⟩
     cases he:aD (bg prog n) n ir.body ⟨params args 0,hp,1000⟩with
     |none=>rw[he]at e;cases e
     |some p=>
      obtain⟨ex,s⟩:=p;rw[he]at e;have fin:∀(g':Gh) (a':Act),cc ν k0 fn.ntmps g' a' s->gj g0 g'->(dB s.fr ir.res).run s.hp=some (r,bN)->a'.defers=[]/\∃v,(results fn a'.tmps).run P g'.w = .ok v g'.w/\
        ∃u dF,Ending.returned v = .returned u/\dF.w=g'.w/\dF.h=bN/\Rel ν k0 dF/\gj g0 dF/\RA ν dF u r:=by
       intro g' a' m' hm hr;obtain⟨v,dF,q1,q2,q3,q4,q5,q6⟩:=kJ m'.r m'.f jj.1.2 jj.2 (by rw[m'.h];exact hr);exact⟨m'.d,v,q1,v,dF,rfl,q2,q3,q4,hm.trans q5.low,q6⟩
      refine sM ih er ir.body c oA g0 _ _ ex s he m0 _ λg' a' m' hm=>?_
      cases ex with
      |norm=>exact fin g' a' m' hm e
      |ret=>exact fin g' a' m' hm e
      |exit i=>cases e
    ·cases e
   cases cR:ir.cl with
   |some p=>
    unfold ng at Bp;rw[cR]at e jj Bp;simp only[]at e jj Bp;split at e
    ·rename_i hq;rw[if_pos hq]at jj;simp only[Bool.and_eq_true]at jj;exact qB dp hb er jj.1.1.1 jj.1.1.2 e
    ·rename_i hq;rw[if_neg hq]at jj;split at e
     ·rename_i r' hr;cases e;exact(Bp.resolve_left hq) _ _ _ _ hr
     ·exact main jj.1.1 e
   |none=>
   rw[cR]at e jj;exact main jj.1.1 e
end
end al
class au (H:Type) (α:outParam Type) where make::
 get:H->Nat->Option α
 set:H->Nat->α->H
 law:∀(h:H) (n m:Nat) (x:α),get (set h n x) m=if n=m then some x else get h m
namespace au
open Go al
theorem aP {H α:Type} [au H α] (h:H) (n m:Nat) (x:α):get (set h n x) m=if n=m then some x else get h m:=au.law h n m x
theorem aq {H α:Type} [au H α] (h:H) (n:Nat) (x:α):get (set h n x) n=some x:=by simp[aP]
theorem bF {H α:Type} [au H α] (h:H) {n m:Nat} (x:α) (bG:n≠m):get (set h n x) m=get h m:=by simp[aP,bG]
inductive Tr (α:Type) where
 |nil
 |node (v:Option α) (l r:Tr α)
 deriving Inhabited
def Tr.look {α:Type}:Tr α->Nat->Option α
 |.nil,_=>none
 |.node v _ _,0=>v
 |.node _ l r,n+1=>if n % 2=0 then l.look (n / 2) else r.look (n / 2)
def Tr.put {α:Type}:Nat->Nat->α->Tr α->Tr α
 |0,_,_,t=>t
 |_+1,0,x,.nil=>.node (some x) .nil .nil
 |_+1,0,x,.node _ l r=>.node (some x) l r
 |f+1,n+1,x,.nil=>if n % 2=0 then .node none (Tr.put f (n / 2) x .nil) .nil else .node none .nil (Tr.put f (n / 2) x .nil)
 |f+1,n+1,x,.node v l r=>if n % 2=0 then .node v (Tr.put f (n / 2) x l) r else .node v l (Tr.put f (n / 2) x r)
theorem Tr.look_nil {α:Type} (n:Nat):(Tr.nil:Tr α).look n=none:=by cases n<;>rfl
theorem Tr.Ah {α:Type} (x:α):∀(f n m:Nat) (t:Tr α),n<f->(Tr.put f n x t).look m=if n=m then some x else t.look m:=by
 intro f
 induction f with
 |zero=>intro n m t h;omega
 |succ f ih=>
  intro n m t h;have key:∀{n m:Nat},n % 2=m % 2->(n / 2=m / 2↔n=m):=λh=>by omega
  cases n with
  |zero=>cases t<;>cases m<;>simp[Tr.put,Tr.look]
  |succ n=>
   have hn:n / 2<f:=by omega
   cases t with
   |nil=>
    cases m with
    |zero=>simp only[Tr.put];split<;>simp[Tr.look]
    |succ m=>
     simp only[Tr.put];by_cases h1:n % 2=0<;>by_cases h2:m % 2=0<;>simp only[h1,h2,if_true,if_false,Tr.look,ih _ _ _ hn,Nat.add_right_cancel_iff]
     ·simp only[key (h1.trans h2.symm)]
     ·rw[if_neg (by omega)]
     ·rw[if_neg (by omega)]
     ·simp only[key (show n % 2=m % 2 by omega)]
   |node v l r=>
    cases m with
    |zero=>simp only[Tr.put];split<;>simp[Tr.look]
    |succ m=>
     simp only[Tr.put];by_cases h1:n % 2=0<;>by_cases h2:m % 2=0<;>simp only[h1,h2,if_true,if_false,Tr.look,ih _ _ _ hn,Nat.add_right_cancel_iff]
     ·simp only[key (h1.trans h2.symm)]
     ·rw[if_neg (by omega)]
     ·rw[if_neg (by omega)]
     ·simp only[key (show n % 2=m % 2 by omega)]
instance {α:Type}:au (Tr α) α where
 get:=Tr.look
 set t n x:=Tr.put (n+1) n x t
 law _ n _ x:=Tr.Ah x _ _ _ _ (Nat.lt_succ_self n)
instance {α:Type}:au (List (Nat×α)) α where
 get:=al.get
 set:=al.set
 law:=al.aP
theorem eC {α:Type} (n:Nat):get ([]:List (Nat×α)) n=none:=rfl
theorem bV {α:Type} (p:Nat×α) (r:List (Nat×α)) (n:Nat):get (p::r) n=if p.1=n then some p.2 else get r n:=rfl
theorem lM {α:Type} (n:Nat):get (Tr.nil:Tr α) n=none:=Tr.look_nil n
inductive AV where
 |undef
 |iv (x:IV)
 |cI (q:Nat)
 |agg (cs:List AV)
 |aR (vs:List AV)
 |own (id o n v:Nat)
 |ref (id v i j:Nat)
 |bJ (f:Nat) (fs ay:List AV)
 deriving Inhabited
abbrev AV.nI (n:Int):AV:=.iv (.int .i64 n)
abbrev AV.bI (b:Bool):AV:=.iv (.bool b)
inductive Ob where
 |cells (cs:List AV)
 |buf (v e:Nat) (es:List (List AV))
 |bb (v e:Nat) (es:List (List IV))
 |da (xs:List IV)
 |map (aU:List (AV×AV))
 deriving Inhabited
mutual
def kV:IV->IV->Bool
 |.bool a,.bool b=>a==b
 |.int k a,.int j b=>k==j&&a==b
 |.str a,.str b=>a.data.toList==b.data.toList
 |.az a,.az b=>a==b
 |.sl a x,.sl b y=>a==b&&mw x y
 |.bh,.bh=>true
 |.ptr x,.ptr y=>mM x y
 |.fn f x,.fn g y=>f==g&&mM x y
 |.junk,.junk=>true
 |_,_=>false
def mM:List IV->List IV->Bool
 |[],[]=>true
 |x::xs,y::ys=>kV x y&&mM xs ys
 |_,_=>false
def mw:List (List IV)->List (List IV)->Bool
 |[],[]=>true
 |x::xs,y::ys=>mM x y&&mw xs ys
 |_,_=>false
end
mutual
theorem yY:∀{x y:IV},kV x y=true->x=y
 |.bool a,y,h=>by cases y<;>simp_all [kV]
 |.int k a,y,h=>by cases y<;>simp_all [kV]
 |.str a,y,h=>by
  cases y<;>simp[kV]at h;rename_i b;obtain⟨⟨a⟩⟩:=a;obtain⟨⟨b⟩⟩:=b;simp at h;rw[h]
 |.az a,y,h=>by cases y<;>simp_all [kV]
 |.sl a x,y,h=>by
  cases y<;>simp[kV]at h;rw[h.1,qC h.2]
 |.bh,y,h=>by cases y<;>simp_all [kV]
 |.ptr x,y,h=>by
  cases y<;>simp[kV]at h;rw[nh h]
 |.fn f x,y,h=>by
  cases y<;>simp[kV]at h;rw[h.1,nh h.2]
 |.junk,y,h=>by cases y<;>simp_all [kV]
theorem nh:∀{x y:List IV},mM x y=true->x=y
 |[],y,h=>by cases y<;>simp_all [mM]
 |x::xs,y,h=>by
  cases y<;>simp[mM]at h;rw[yY h.1,nh h.2]
theorem qC:∀{x y:List (List IV)},mw x y=true->x=y
 |[],y,h=>by cases y<;>simp_all [mw]
 |x::xs,y,h=>by
  cases y<;>simp[mw]at h;rw[nh h.1,qC h.2]
end
mutual
theorem uT:∀x:IV,kV x x=true
 |.bool _ | .int _ _ | .str _ | .az _ | .bh | .junk=>by simp[kV]
 |.sl _ x=>by simp[kV,rI x]
 |.ptr x | .fn _ x=>by simp[kV,o5 x]
theorem o5:∀x:List IV,mM x x=true
 |[]=>rfl
 |x::xs=>by simp[mM,uT x,o5 xs]
theorem rI:∀x:List (List IV),mw x x=true
 |[]=>rfl
 |x::xs=>by simp[mw,o5 x,rI xs]
end
mutual
def jK:AV->AV->Bool
 |.undef,.undef=>true
 |.iv x,.iv y=>kV x y
 |.cI a,.cI b=>a==b
 |.agg x,.agg y=>kb x y
 |.aR x,.aR y=>kb x y
 |.own a b c d,.own a' b' c' d'=>a==a'&&b==b'&&c==c'&&d==d'
 |.ref a b c d,.ref a' b' c' d'=>a==a'&&b==b'&&c==c'&&d==d'
 |.bJ f x y,.bJ g x' y'=>f==g&&kb x x'&&kb y y'
 |_,_=>false
def kb:List AV->List AV->Bool
 |[],[]=>true
 |x::xs,y::ys=>jK x y&&kb xs ys
 |_,_=>false
end
mutual
theorem rJ:∀{x y:AV},jK x y=true->x=y
 |.undef,y,h=>by cases y<;>simp_all [jK]
 |.iv x,y,h=>by
  cases y<;>simp[jK]at h;rw[yY h]
 |.cI a,y,h=>by cases y<;>simp_all [jK]
 |.agg x,y,h=>by
  cases y<;>simp[jK]at h;rw[jk h]
 |.aR x,y,h=>by
  cases y<;>simp[jK]at h;rw[jk h]
 |.own a b c d,y,h=>by cases y<;>simp_all [jK]
 |.ref a b c d,y,h=>by cases y<;>simp_all [jK]
 |.bJ f x z,y,h=>by
  cases y<;>simp[jK]at h;rw[h.1.1,jk h.1.2,jk h.2]
theorem jk:∀{x y:List AV},kb x y=true->x=y
 |[],y,h=>by cases y<;>simp_all [kb]
 |x::xs,y,h=>by
  cases y<;>simp[kb]at h;rw[rJ h.1,jk h.2]
end
mutual
theorem Ai:∀x:AV,jK x x=true
 |.undef | .cI _ | .own _ _ _ _ | .ref _ _ _ _=>by simp[jK]
 |.iv x=>by simp[jK,uT x]
 |.agg x | .aR x=>by simp[jK,my x]
 |.bJ _ x y=>by simp[jK,my x,my y]
theorem my:∀x:List AV,kb x x=true
 |[]=>rfl
 |x::xs=>by simp[kb,Ai x,my xs]
end
def rK:List (List AV)->List (List AV)->Bool
 |[],[]=>true
 |x::xs,y::ys=>kb x y&&rK xs ys
 |_,_=>false
theorem uU:∀{x y:List (List AV)},rK x y=true->x=y
 |[],y,h=>by cases y<;>simp_all [rK]
 |x::xs,y,h=>by
  cases y<;>simp[rK]at h;rw[jk h.1,uU h.2]
def uV:List (AV×AV)->List (AV×AV)->Bool
 |[],[]=>true
 |x::xs,y::ys=>jK x.1 y.1&&jK x.2 y.2&&uV xs ys
 |_,_=>false
theorem we:∀{x y:List (AV×AV)},uV x y=true->x=y
 |[],y,h=>by cases y<;>simp_all [uV]
 |x::xs,y,h=>by
  cases y<;>simp[uV]at h;rename_i y ys;obtain⟨x1,x2⟩:=x;obtain⟨y1,y2⟩:=y;rw[show x1=y1 from rJ h.1.1,show x2=y2 from rJ h.1.2,we h.2]
def yZ:Option Ob->Option Ob->Bool
 |none,none=>true
 |some (.cells x),some (.cells y)=>kb x y
 |some (.buf v e x),some (.buf v' e' y)=>v==v'&&e==e'&&rK x y
 |some (.bb v e x),some (.bb v' e' y)=>v==v'&&e==e'&&mw x y
 |some (.da x),some (.da y)=>mM x y
 |some (.map x),some (.map y)=>uV x y
 |_,_=>false
theorem uW {x y:Option Ob} (h:yZ x y=true):x=y:=by
 unfold yZ at h;split at h
 ·rfl
 ·rw[jk h]
 ·simp at h;rw[h.1.1,h.1.2,uU h.2]
 ·simp at h;rw[h.1.1,h.1.2,qC h.2]
 ·rw[nh h]
 ·rw[we h]
 ·cases h
abbrev Hp:=Tr Ob
abbrev Fr:=List (Nat×AV)
inductive M (α:Type) where
 |ret (a:α)
 |fail
 |get (id:Nat) (k:Option Ob->M α)
 |put (id:Nat) (o:Ob) (k:M α)
namespace M
def bind {α β:Type}:M α->(α->M β)->M β
 |.ret a,f=>f a
 |.fail,_=>.fail
 |.get id k,f=>.get id λo=>(k o).bind f
 |.put id o k,f=>.put id o (k.bind f)
def run {α:Type}:M α->Hp->Option (α×Hp)
 |.ret a,h=>some (a,h)
 |.fail,_=>none
 |.get id k,h=>(k (au.get h id)).run h
 |.put id o k,h=>k.run (au.set h id o)
def bA {α:Type}:M α->Hp->List Nat×List Nat
 |.ret _,_=>([],[])
 |.fail,_=>([],[])
 |.get id k,h=>let r:=(k (au.get h id)).bA h;(id::r.1,r.2)
 |.put id o k,h=>let r:=k.bA (au.set h id o);(r.1,r.2++[id])
def ok (b:Bool):M Unit:=if b then .ret () else .fail
def lift {α:Type}:Option α->M α
 |some a=>.ret a
 |none=>.fail
def look (id:Nat):M Ob:=.get id fun | some o=>.ret o | none=>.fail
def fresh (id:Nat):M Unit:=.get id fun | some _=>.fail | none=>.ret ()
def write (id:Nat) (o:Ob):M Unit:=.put id o (.ret ())
def aN {α β:Type} (f:α->M β):List α->M (List β)
 |[]=>.ret []
 |x::r=>(f x).bind λy=>(aN f r).bind λys=>.ret (y::ys)
end M
def bW:AV->M (List AV)
 |.agg cs=>.ret cs
 |.undef=>.fail
 |.aR _=>.fail
 |x=>.ret [x]
def mk (agg:Bool) (l:List AV):M AV:=
 if agg then .ret (.agg l) else match l with
  |[x]=>.ret x
  |_=>.fail
def fz (w:Bool):Nat->AV->M IV
 |0,_=>.fail
 |n+1,a=>match a with
  |.iv (.az e)=>.ret (.sl e [])
  |.iv x=>.ret x
  |.own id o m ai=>(M.look id).bind fun
   |.buf v e es=>(M.ok (v==ai)).bind λ_=>if w then
     (M.aN (M.aN (fz w n)) es).bind λxs=>(M.look id).bind fun
      |.buf _ _ _=>(M.write id (.bb v e xs)).bind λ_=>.ret (.sl e ((xs.drop o).take m))
      |_=>.fail
    else(M.aN (M.aN (fz w n)) ((es.drop o).take m)).bind λxs=>.ret (.sl e xs)
   |.bb v e es=>(M.ok (v==ai)).bind λ_=>.ret (.sl e ((es.drop o).take m))
   |_=>.fail
  |.ref id ai i j=>(M.look id).bind fun
   |.buf v e es=>(M.ok (v==ai)).bind λ_=>if w then
     (M.aN (M.aN (fz w n)) es).bind λxs=>(M.look id).bind fun
      |.buf _ _ _=>(M.lift xs[i]?).bind λc=>(M.write id (.bb v e xs)).bind λ_=>.ret (.ptr (c.drop j))
      |_=>.fail
    else(M.lift es[i]?).bind λc=>(M.aN (fz w n) c).bind λxs=>.ret (.ptr (xs.drop j))
   |.bb v _ es=>(M.ok (v==ai)).bind λ_=>(M.lift es[i]?).bind λc=>.ret (.ptr (c.drop j))
   |.cells cs=>(M.ok (ai==0&&i==0)).bind λ_=>(M.aN (fz w n) cs).bind λxs=>if w then(M.look id).bind fun
    |.cells _=>(M.write id (.da xs)).bind λ_=>.ret (.ptr (xs.drop j))
    |_=>.fail
    else .ret (.ptr (xs.drop j))
   |.da xs=>(M.ok (ai==0&&i==0)).bind λ_=>.ret (.ptr (xs.drop j))
   |.map _=>.fail
  |.bJ f [] ay=>(M.aN (fz w n) ay).bind λxs=>.ret (.fn f xs)
  |_=>.fail
def eu (w:Bool) (a:AV):M al.AV:=match a with
 |.agg cs=>(M.aN (fz w 8) cs).bind λl=>.ret (.agg (l.map .iv))
 |a=>(fz w 8 a).bind λx=>.ret (.iv x)
def jL:List al.AV->Option (List IV)
 |[]=>some []
 |.iv x::r=>(jL r).map (x::·)
 |_=>none
def wg:al.AV->Option AV
 |.iv x=>some (.iv x)
 |.agg cs=>(jL cs).map λxs=>.agg (xs.map .iv)
 |_=>none
def y0:List al.AV->Option (List AV)
 |[]=>some []
 |x::r=>(wg x).bind λy=>(y0 r).map (y::·)
def y3:al.AV->Option AV
 |.aR vs=>(y0 vs).map .aR
 |x=>wg x
inductive aK where
 |t (n:Nat)
 |c (v:AV)
 deriving Inhabited
inductive js where
 |l9 (x:aK)
 |pick (c a b:aK)
 |alloc (tag:Nat) (z:List AV)
 |box (tag:Nat) (x:aK)
 |build (z:List AV) (ps:List (Nat×Nat×aK))
 |nZ (e:Nat) (z:List AV) (len:Nat) (ps:List (Nat×aK))
 |load (agg:Bool) (sz:Nat) (a:aK)
 |store (sz:Nat) (a x:aK)
 |cU (off:Nat) (x:aK)
 |fC (agg:Bool) (off sz:Nat) (x:aK)
 |eD (len e:Nat) (x i:aK)
 |gL (e:Nat) (x i:aK)
 |eP (agg:Bool) (len e:Nat) (x i:aK)
 |fK (x i:aK)
 |bin (op:BinOp) (q:Nat) (x y:aK)
 |pU (neg:Bool) (qs:List Nat) (x y:aK)
 |un (op:UnOp) (x:aK)
 |qT (k:IntKind) (x:aK)
 |tJ (x:aK)
 |gM (e:Nat) (x:aK) (lo hi:Option aK)
 |fL (x:aK) (lo hi:Option aK)
 |lh (e:Nat) (x:aK)
 |o6 (len:Nat) (x:aK) (lo hi:Option aK)
 |ko (e:Nat) (z:List AV) (x:aK)
 |len (str:Bool) (x:aK)
 |app (e:Nat) (byte:Bool) (x y:aK)
 |mn (x:aK) (ys:List aK)
 |mx (x:aK) (ys:List aK)
 |ext (x:aK) (i:Nat)
 |nE (x:aK)
 |oj (f:Nat) (fs ay:List aK)
 |call (mode:Nat) (f:aK) (args:List aK)
 |k6 (f:aK) (args:List aK)
 |sZ (x:aK)
 |s7
 |gB (ok agg:Bool) (qs:List Nat) (z:List AV) (m k:aK)
 |gC (qs:List Nat) (m k v:aK)
 |gD (qs:List Nat) (m k:aK)
 |om (m:aK)
 |dead
 |mN (x:aK)
 |lN (e:Nat) (z:List AV) (x n:aK)
 |fJ (k:IntKind) (x:aK)
 |rL (x y:aK)
 |lP (k:IntKind) (x y:aK)
 |mO (k:IntKind) (x o y:aK)
 |p8 (x:aK)
 |tG (x:aK)
 |p9 (x:aK)
 |qa (x:aK)
 |lQ (p n:aK)
 |Bq (e:Nat)
 |rM (e:Nat) (z:List AV) (n:aK)
 |qb (e:Nat) (x lo hi mx:aK)
 deriving Inhabited
structure ax where
 dst:Option Nat
 op:js
 gd:Option (Nat×Bool):=none
 iH:List Nat:=[]
 deriving Inhabited
inductive IC where
 |skip
 |gm (draw:Bool) (ops:List ax) (aF:List Nat)
 |seq (a b:IC)
 |cond (c:aK) (a b:IC)
 |block (id:Nat) (b:IC)
 |loop (aF:List Nat) (b:IC)
 |exit (id:Nat)
 |ret
 |scope (b:IC)
 |stop
 deriving Inhabited
inductive dY where
 |t (n:Nat)
 |cell (n:Nat) (agg:Bool) (sz:Nat)
 deriving Inhabited
structure St where
 fr:Fr
 hp:Hp
 nx:Nat
def ev (fr:Fr):aK->AV
 |.t n=>(get fr n).getD .undef
 |.c v=>v
def dc (o:Ob) (ai i j sz:Nat):Option (List AV):=
 match o with
 |.cells cs=>if ai=0/\i=0 then some ((cs.drop j).take sz) else none
 |.buf v _ es=>if v=ai then(es[i]?).map λc=>(c.drop j).take sz else none
 |.bb v _ es=>if v=ai then(es[i]?).map λc=>((c.drop j).take sz).map .iv else none
 |.da xs=>if ai=0/\i=0 then some (((xs.drop j).take sz).map .iv) else none
 |.map _=>none
def load (agg:Bool) (sz:Nat):AV->M AV
 |.ref id ai i j=>(M.look id).bind λo=>(M.lift (dc o ai i j sz)).bind λl=>(M.ok (l.length==sz)).bind λ_=>mk agg l
 |.iv (.ptr cs)=>(M.ok ((cs.take sz).length==sz)).bind λ_=>mk agg ((cs.take sz).map .iv)
 |_=>.fail
def store (sz:Nat) (a x:AV):M AV:=
 (bW x).bind λxs=>(M.ok (xs.length==sz)).bind λ_=>
 match a with
 |.ref id ai i j=>(M.look id).bind fun
  |.cells cs=>(M.ok (Nat.ble (j+sz) cs.length)).bind λ_=>(M.write id (.cells (cn cs j xs))).bind λ_=>.ret (.aR [])
  |.buf v e es=>(M.ok (v==ai&&Nat.ble (j+sz) e)).bind λ_=>(M.lift es[i]?).bind λc=>(M.write id (.buf v e (es.set i (cn c j xs)))).bind λ_=>.ret (.aR [])
  |_=>.fail
 |_=>.fail
def valid (o:Ob) (ai i:Nat):Bool:=
 match o with
 |.cells _=>ai==0&&i==0
 |.da _=>ai==0&&i==0
 |.buf v _ _=>v==ai
 |.bb v _ _=>v==ai
 |.map _=>false
def cU (off:Nat):AV->M AV
 |.ref id ai i j=>(M.look id).bind λo=>(M.ok (valid o ai i)).bind λ_=>.ret (.ref id ai i (j+off))
 |.iv (.ptr cs)=>(M.ok (Nat.ble off cs.length)).bind λ_=>.ret (.iv (.ptr (cs.drop off)))
 |_=>.fail
def fC (agg:Bool) (off sz:Nat):AV->M AV
 |.agg cs=>(M.ok (((cs.drop off).take sz).length==sz)).bind λ_=>mk agg ((cs.drop off).take sz)
 |_=>.fail
def idx:AV->M Int
 |.iv (.int _ n)=>.ret n
 |_=>.fail
def eD (len e:Nat) (x i:AV):M AV:=
 (idx i).bind λn=>(M.ok (decide (0<=n/\n<len))).bind λ_=>
 match x with
 |.ref id ai i j=>(M.look id).bind λo=>(M.ok (valid o ai i)).bind λ_=>.ret (.ref id ai i (j+n.toNat*e))
 |.iv (.ptr cs)=>(M.ok (Nat.ble (n.toNat*e) cs.length)).bind λ_=>.ret (.iv (.ptr (cs.drop (n.toNat*e))))
 |_=>.fail
def gL (e:Nat) (x i:AV):M AV:=
 (idx i).bind λn=>(M.ok (decide (0<=n))).bind λ_=>
 match x with
 |.own id o m ai=>(M.ok (decide (n<m))).bind λ_=>(M.look id).bind fun
  |.buf v e' _=>(M.ok (v==ai&&e'==e)).bind λ_=>.ret (.ref id ai (o+n.toNat) 0)
  |.bb v e' _=>(M.ok (v==ai&&e'==e)).bind λ_=>.ret (.ref id ai (o+n.toNat) 0)
  |.cells _=>(M.ok (ai==0&&e==1)).bind λ_=>.ret (.ref id 0 0 (o+n.toNat))
  |.da _=>(M.ok (ai==0&&e==1)).bind λ_=>.ret (.ref id 0 0 (o+n.toNat))
  |_=>.fail
 |.iv (.sl e' es)=>(M.ok (e'==e)).bind λ_=>(M.lift es[n.toNat]?).bind λc=>.ret (.iv (.ptr c))
 |_=>.fail
def eP (agg:Bool) (len e:Nat) (x i:AV):M AV:=
 (idx i).bind λn=>(M.ok (decide (0<=n/\n<len))).bind λ_=>fC agg (n.toNat*e) e x
def fK:AV->AV->M AV
 |.iv (.str s),.iv (.int _ n)=>(M.ok (decide (0<=n))).bind λ_=>match s[n.toNat]? with
  |some b=>.ret (.iv (.int .u8 b.toNat))
  |none=>.fail
 |_,_=>.fail
def bin (op:BinOp) (q:Nat) (x y:AV):Option IV:=
 match q,x,y with
 |0,.iv (.int k a),.iv (.int k' b)=>dZ op k k' a b
 |0,.iv (.str a),.iv (.str b)=>iI op a b
 |1,.iv (.bool a),.iv (.bool b)=>match op with
  |.eql=>some (.bool (a==b))
  |.neq=>some (.bool (!(a==b)))
  |_=>none
 |2,.iv .bh,.iv .bh=>match op with
  |.eql=>some (.bool true)
  |.neq=>some (.bool false)
  |_=>none
 |2,.iv (.ptr _),.iv .bh | 2,.iv .bh,.iv (.ptr _)=>match op with
  |.eql=>some (.bool false)
  |.neq=>some (.bool true)
  |_=>none
 |3,.cI 0,.cI 0=>match op with
  |.eql=>some (.bool true)
  |.neq=>some (.bool false)
  |_=>none
 |3,.bJ _ _ _,.cI 0 | 3,.iv (.fn _ _),.cI 0=>match op with
  |.eql=>some (.bool false)
  |.neq=>some (.bool true)
  |_=>none
 |_,_,_=>none
def o7 (op:BinOp) (q:Nat) (x y:AV):M AV:=
 match q,x,y with
 |2,.ref id ai i _,.iv .bh | 2,.iv .bh,.ref id ai i _=>(M.look id).bind λo=>(M.ok (valid o ai i)).bind λ_=>match op with
  |.eql=>.ret (.iv (.bool false))
  |.neq=>.ret (.iv (.bool true))
  |_=>.fail
 |2,.ref id ai i j,.ref bY Db i' j'=>(M.look id).bind λo=>(M.ok (valid o ai i&&id==bY&&ai==Db&&i==i'&&j==j')).bind λ_=>match op with
  |.eql=>.ret (.iv (.bool true))
  |.neq=>.ret (.iv (.bool false))
  |_=>.fail
 |q,x,y=>(M.lift (bin op q x y)).bind λv=>.ret (.iv v)
def jt (q:Nat) (x y:AV):Option Bool:=
 match q,x,y with
 |0,.iv (.int k a),.iv (.int k' b)=>if k=k' then some (a==b) else none
 |1,.iv (.bool a),.iv (.bool b)=>some (a==b)
 |2,.iv (.str a),.iv (.str b)=>some (a==b)
 |_,_,_=>none
def eqs:List Nat->List AV->List AV->Option Bool
 |[],[],[]=>some true
 |q::qs,x::xs,y::ys=>(jt q x y).bind λb=>(eqs qs xs ys).bind λc=>some (b&&c)
 |_,_,_=>none
def un (op:UnOp):AV->Option IV
 |.iv (.int k a)=>match op with
  |.neg=>some (.int k (k.wrap (0 - a)))
  |.xor=>some (.int k (bits .xor k (if k.signed then -1 else k.max) a))
  |_=>none
 |.iv (.bool b)=>match op with
  |.not=>some (.bool !b)
  |_=>none
 |_=>none
def bound (y:Nat):Option AV->M (Option Nat)
 |none=>.ret none
 |some (.iv (.int _ n))=>(M.ok (decide (0<=n/\n<=y))).bind λ_=>.ret (some n.toNat)
 |some _=>.fail
def kK (o:Ob) (ai e:Nat):Option Nat:=
 match o with
 |.buf v e' es=>if v=ai/\e'=e then some es.length else none
 |.bb v e' es=>if v=ai/\e'=e then some es.length else none
 |.cells cs=>if ai=0/\e=1 then some cs.length else none
 |.da cs=>if ai=0/\e=1 then some cs.length else none
 |.map _=>none
def gM (e:Nat) (x:AV) (lo hi:Option AV):M AV:=
 match x with
 |.own id o m ai=>(M.look id).bind λob=>(M.lift (kK ob ai e)).bind λL=>(bound (L - o) hi).bind λh=>(bound (h.getD m) lo).bind λl=>
   .ret (.own id (o+l.getD 0) (h.getD m - l.getD 0) ai)
 |.iv (.sl e' es)=>(M.ok (e'==e)).bind λ_=>(bound es.length hi).bind λh=>(bound (h.getD es.length) lo).bind λl=>.ret (.iv (.sl e ((es.take (h.getD es.length)).drop (l.getD 0))))
 |.iv (.az _)=>(bound 0 hi).bind λh=>(bound (h.getD 0) lo).bind λ_=>.ret (.iv (.az e))
 |_=>.fail
def fL (x:AV) (lo hi:Option AV):M AV:=
 match x with
 |.iv (.str s)=>(bound s.size hi).bind λh=>(bound (h.getD s.size) lo).bind λl=>.ret (.iv (.str (s.extract (l.getD 0) (h.getD s.size))))
 |_=>.fail
def lh (e:Nat):AV->M AV
 |.own id _ _ ai=>(M.look id).bind λo=>(M.lift (kK o ai e)).bind λ_=>.ret (.iv (.az e))
 |.iv (.sl _ _)=>.ret (.iv (.az e))
 |.iv (.az _)=>.ret (.iv (.az e))
 |_=>.fail
def uX (n:Nat) (lo hi mx:AV):M AV:=(idx lo).bind λl=>(idx hi).bind λh=>(idx mx).bind λc=>(M.ok (decide (0<=l/\l<=h/\h<=c/\c<=n))).bind λ_=>.ret .undef
def qb (e:Nat) (x lo hi mx:AV):M AV:=
 match x with
 |.own id _ m ai=>(M.look id).bind λob=>(M.lift (kK ob ai e)).bind λ_=>uX m lo hi mx
 |.iv (.sl e' es)=>(M.ok (e'==e)).bind λ_=>uX es.length lo hi mx
 |.iv (.az _)=>uX 0 lo hi mx
 |_=>.fail
def o6 (n:Nat) (x:AV) (lo hi:Option AV):M AV:=
 match x with
 |.ref id 0 0 0=>(M.look id).bind fun
  |.cells cs=>(M.ok (cs.length==n)).bind λ_=>(bound n hi).bind λh=>(bound (h.getD n) lo).bind λl=>.ret (.own id (l.getD 0) (h.getD n - l.getD 0) 0)
  |_=>.fail
 |_=>.fail
def ko (e:Nat) (z:List AV):AV->M AV
 |.own id o n ai=>(M.look id).bind fun
  |.buf v e' es=>(M.ok (v==ai&&e'==e&&z.length==e)).bind λ_=>(M.write id (.buf v e (es.take o++List.replicate n z++es.drop (o+n)))).bind λ_=>.ret (.aR [])
  |_=>.fail
 |.iv (.az _)=>.ret (.aR [])
 |_=>.fail
def len (str:Bool) (x:AV):M AV:=
 match str,x with
 |false,.own id _ n ai=>(M.look id).bind fun
  |.buf v _ _=>(M.ok (v==ai)).bind λ_=>.ret (.iv (.int .i64 n))
  |.bb v _ _=>(M.ok (v==ai)).bind λ_=>.ret (.iv (.int .i64 n))
  |.cells _=>(M.ok (ai==0)).bind λ_=>.ret (.iv (.int .i64 n))
  |.da _=>(M.ok (ai==0)).bind λ_=>.ret (.iv (.int .i64 n))
  |.map _=>.fail
 |false,.iv (.sl _ es)=>.ret (.iv (.int .i64 es.length))
 |false,.iv (.az _)=>.ret (.iv (.int .i64 0))
 |true,.iv (.str s)=>.ret (.iv (.int .i64 s.size))
 |_,_=>.fail
def jl (s:ByteArray):List (List AV):=s.data.toList.map λb=>[.iv (.int .u8 b.toNat)]
def elems (e:Nat):AV->M (List (List AV))
 |.own id o n ai=>(M.look id).bind fun
  |.buf v e' es=>(M.ok (v==ai&&e'==e)).bind λ_=>.ret ((es.drop o).take n)
  |.bb v e' es=>(M.ok (v==ai&&e'==e)).bind λ_=>.ret (((es.drop o).take n).map λr=>r.map .iv)
  |.cells cs=>(M.ok (ai==0&&e==1)).bind λ_=>.ret (((cs.drop o).take n).map λc=>[c])
  |.da cs=>(M.ok (ai==0&&e==1)).bind λ_=>.ret (((cs.drop o).take n).map λc=>[.iv c])
  |_=>.fail
 |.iv (.sl e' es)=>(M.ok (e'==e)).bind λ_=>.ret (es.map λr=>r.map .iv)
 |.iv (.az _)=>.ret []
 |_=>.fail
def lR (e:Nat):AV->M (List (List AV))
 |.iv (.str s)=>(M.ok (e==1)).bind λ_=>.ret (jl s)
 |x=>elems e x
def app (e slot:Nat) (byte:Bool) (x y:AV):M AV:=
 (lR e y).bind λys=>
 match x with
 |.iv (.az _)=>if ys.isEmpty then .ret (.iv (.az e)) else(M.ok (roomy ys.length)).bind λ_=>(M.fresh (4*slot+if byte then 2 else 0)).bind λ_=>
   (M.write (4*slot+if byte then 2 else 0) (.buf 0 e ys)).bind λ_=>.ret (.own (4*slot+if byte then 2 else 0) 0 ys.length 0)
 |.own id o n ai=>(M.look id).bind fun
  |.buf v e' es=>(M.ok (v==ai&&e'==e)).bind λ_=>
   if o+n+ys.length<=es.length then(M.write id (.buf v e (cn es (o+n) ys))).bind λ_=>.ret (.own id o (n+ys.length) v)
   else(M.ok (o==0&&roomy (n+ys.length)&&(id % 4==0||id % 4==2&&byte))).bind λ_=>(M.write id (.buf (v+1) e (es.take n++ys))).bind λ_=>.ret (.own id 0 (n+ys.length) (v+1))
  |_=>.fail
 |_=>.fail
def mN:AV->M AV
 |.iv (.az _)=>.ret (.iv (.int .i64 0))
 |_=>.fail
def lN (e slot:Nat) (z:List AV) (x n:AV):M AV:=
 match x with
 |.iv (.az _)=>(idx n).bind λm=>(M.ok (decide (0<=m)&&roomy m.toNat&&z.length==e)).bind λ_=>
  if m=0 then .ret (.iv (.az e)) else(M.fresh (4*slot)).bind λ_=>(M.write (4*slot) (.buf 0 e (List.replicate m.toNat z))).bind λ_=>.ret (.own (4*slot) 0 m.toNat 0)
 |_=>.fail
def rM (e slot:Nat) (z:List AV) (n:AV):M AV:=
 (idx n).bind λm=>(M.ok (decide (0<=m)&&roomy m.toNat&&z.length==e)).bind λ_=>
 (M.fresh (4*slot)).bind λ_=>(M.write (4*slot) (.buf 0 e (List.replicate m.toNat z))).bind λ_=>.ret (.own (4*slot) 0 m.toNat 0)
def mT:Int->List AV->IntKind->Option Int
 |a,[],_=>some a
 |a,.iv (.int k b)::r,k'=>if k=k' then mT (if b<a then b else a) r k' else none
 |_,_,_=>none
def od:Int->List AV->IntKind->Option Int
 |a,[],_=>some a
 |a,.iv (.int k b)::r,k'=>if k=k' then od (if b > a then b else a) r k' else none
 |_,_,_=>none
def callee:AV->Option (Nat×List AV×List AV)
 |.iv (.fn f ay)=>some (f,[],ay.map .iv)
 |.bJ f fs ay=>some (f,fs,ay)
 |_=>none
abbrev bR:=Nat->List al.AV->al.Hp->Option (al.AV×al.Hp)
def fc (call:bR) (f:AV) (args:List AV):M AV:=
 (M.lift (callee f)).bind λq=>
 (M.aN (eu false) (q.2.1++(args++q.2.2))).bind λU=>(M.lift ((call q.1 U []).bind shut)).bind λr=>
 (M.ok (flat r)).bind λ_=>M.lift (y3 r)
def gN (call:bR) (f:AV) (args:List AV):M AV:=
 (M.lift (callee f)).bind λq=>
 (M.aN (eu true) (q.2.1++(args++q.2.2))).bind λU=>(M.lift ((call q.1 U []).bind shut)).bind λr=>M.lift (y3 r)
def fX (qs:List Nat):AV->Bool
 |.agg xs=>xs.length==qs.length&&qs.length != 1
 |.iv _=>qs.length==1
 |_=>false
def ku (qs:List Nat):AV->AV->Option Bool
 |.agg xs,.agg ys=>if qs.length=1 then none else eqs qs xs ys
 |.iv x,.iv y=>if qs.length=1 then eqs qs [.iv x] [.iv y] else none
 |_,_=>none
def cM (qs:List Nat) (k:AV):List (AV×AV)->Nat->Option (Option (Nat×AV))
 |[],_=>some none
 |p::r,i=>match ku qs k p.1 with
  |some true=>some (some (i,p.2))
  |some false=>cM qs k r (i+1)
  |none=>none
def du:AV->M (Nat×List (AV×AV))
 |.ref id 0 0 0=>(M.look id).bind fun
  |.map aU=>.ret (id,aU)
  |_=>.fail
 |_=>.fail
def gB (ok agg:Bool) (qs:List Nat) (z:List AV) (m k:AV):M AV:=
 (M.ok (fX qs k)).bind λ_=>(du m).bind λx=>(M.lift (cM qs k x.2 0)).bind fun
  |some p=>.ret (if ok then .aR [p.2,.iv (.bool true)] else p.2)
  |none=>(mk agg z).bind λv=>.ret (if ok then .aR [v,.iv (.bool false)] else v)
def gC (qs:List Nat) (m k v:AV):M AV:=
 (M.ok (fX qs k)).bind λ_=>(du m).bind λx=>(M.ok (x.1 % 4==0)).bind λ_=>(M.lift (cM qs k x.2 0)).bind fun
  |some p=>(M.write x.1 (.map (x.2.set p.1 (k,v)))).bind λ_=>.ret (.aR [])
  |none=>(M.write x.1 (.map (x.2++[(k,v)]))).bind λ_=>.ret (.aR [])
def gD (qs:List Nat) (m k:AV):M AV:=
 (M.ok (fX qs k)).bind λ_=>(du m).bind λx=>(M.ok (x.1 % 4==0)).bind λ_=>(M.lift (cM qs k x.2 0)).bind fun
  |some p=>(M.write x.1 (.map (x.2.eraseIdx p.1))).bind λ_=>.ret (.aR [])
  |none=>(M.write x.1 (.map x.2)).bind λ_=>.ret (.aR [])
def bytesOf:List (List AV)->Option (List Int)
 |[]=>some []
 |[.iv (.int .u8 n)]::r=>(bytesOf r).map (n::·)
 |_=>none
def fJ (k:IntKind) (a:AV):M Int:=(load false 1 a).bind fun
 |.iv (.int k' n)=>(M.ok (k'==k)).bind λ_=>.ret n
 |_=>.fail
def uY:AV->Bool
 |.iv (.int _ _)=>true
 |_=>false
def lP (k:IntKind) (a d:AV):M AV:=
 match d with
 |.iv (.int k' m)=>(M.ok (k'==k)).bind λ_=>(fJ k a).bind λn=>(store 1 a (.iv (.int k (k.wrap (n+m))))).bind λ_=>.ret (.iv (.int k (k.wrap (n+m))))
 |_=>.fail
def mO (k:IntKind) (a o y:AV):M AV:=
 match o,y with
 |.iv (.int k' cr),.iv (.int yr _)=>(M.ok (k'==k&&yr==k)).bind λ_=>(fJ k a).bind λn=>
  if n=cr then(store 1 a y).bind λ_=>.ret (.iv (.bool true)) else(store 1 a (.iv (.int k n))).bind λ_=>.ret (.iv (.bool false))
 |_,_=>.fail
def p8:AV->M AV
 |.ref id ai i j=>(M.look id).bind fun
  |.cells cs=>(M.ok (ai==0&&i==0&&Nat.blt j cs.length)).bind λ_=>.ret (.ref id ai i j)
  |_=>.fail
 |_=>.fail
def p9:AV->M AV
 |.ref id ai i j=>(M.look id).bind fun
  |.cells _=>(M.ok (ai==0&&i==0&&j==0&&id % 4==1)).bind λ_=>.ret (.ref id 0 0 0)
  |_=>.fail
 |_=>.fail
def qa:AV->M AV
 |.own id o n ai=>(M.look id).bind fun
  |.buf v e _=>(M.ok (v==ai&&e==1&&o==0&&Nat.blt 0 n)).bind λ_=>.ret (.ref id ai 0 0)
  |_=>.fail
 |_=>.fail
def wh (b:List Int):List (List IV):=b.map λx=>[.int .u8 x]
def lQ (p n:AV):M AV:=
 match p,n with
 |.ref id ai i j,.iv (.int k m)=>(M.look id).bind fun
  |.buf v e es=>(M.ok (v==ai&&e==1&&i==0&&j==0&&id % 4==2&&k == .i64&&m==(es.length:Int)&&Nat.blt 0 es.length&&roomy es.length)).bind λ_=>
   (M.lift (bytesOf es)).bind λb=>(M.ok (b.all λx=>decide (0<=x/\x<256))).bind λ_=>(M.write id (.bb v 1 (wh b))).bind λ_=>.ret (.iv (.str (ql b)))
  |_=>.fail
 |_,_=>.fail
def bn (call:bR) (slot:Nat) (ρ:aK->AV):js->M AV
 |.l9 x=>.ret (ρ x)
 |.pick c a b=>match ρ c with
  |.iv (.bool t)=>.ret (if t then ρ a else ρ b)
  |_=>.fail
 |.alloc tag z=>(M.ok (Nat.ble tag 1)).bind λ_=>(M.fresh (4*slot+tag)).bind λ_=>(M.write (4*slot+tag) (.cells z)).bind λ_=>.ret (.ref (4*slot+tag) 0 0 0)
 |.box tag x=>(bW (ρ x)).bind λxs=>(M.ok (tag==0||tag==1&&xs.length==2)).bind λ_=>(M.fresh (4*slot+tag)).bind λ_=>(M.write (4*slot+tag) (.cells xs)).bind λ_=>.ret (.ref (4*slot+tag) 0 0 0)
 |.build z ps=>(M.aN (λp=>(bW (ρ p.2.2)).bind λl=>(M.ok (l.length==p.2.1&&Nat.ble (p.1+p.2.1) z.length)).bind λ_=>.ret (p.1,l)) ps).bind λl=>.ret (.agg (gn z l))
 |.nZ e z n ps=>(M.ok (z.length==e)).bind λ_=>
   (M.aN (λp=>(bW (ρ p.2)).bind λxs=>(M.ok (xs.length==e&&Nat.blt p.1 n)).bind λ_=>.ret (p.1,xs)) ps).bind λl=>
   (M.fresh (4*slot)).bind λ_=>(M.write (4*slot) (.buf 0 e (ec (List.replicate n z) l))).bind λ_=>.ret (.own (4*slot) 0 n 0)
 |.load agg sz a=>load agg sz (ρ a)
 |.store sz a x=>store sz (ρ a) (ρ x)
 |.cU off x=>cU off (ρ x)
 |.fC agg off sz x=>fC agg off sz (ρ x)
 |.eD len e x i=>eD len e (ρ x) (ρ i)
 |.gL e x i=>gL e (ρ x) (ρ i)
 |.eP agg len e x i=>eP agg len e (ρ x) (ρ i)
 |.fK x i=>fK (ρ x) (ρ i)
 |.bin op q x y=>o7 op q (ρ x) (ρ y)
 |.pU neg qs x y=>match ρ x,ρ y with
  |.agg xs,.agg ys=>(M.lift (eqs qs xs ys)).bind λb=>.ret (.iv (.bool (if neg then !b else b)))
  |_,_=>.fail
 |.un op x=>(M.lift (un op (ρ x))).bind λv=>.ret (.iv v)
 |.qT k x=>(idx (ρ x)).bind λn=>.ret (.iv (.int k (k.wrap n)))
 |.tJ x=>match ρ x with
  |.iv (.str s)=>.ret (.iv (.str s))
  |_=>.fail
 |.gM e x lo hi=>gM e (ρ x) (lo.map ρ) (hi.map ρ)
 |.fL x lo hi=>fL (ρ x) (lo.map ρ) (hi.map ρ)
 |.lh e x=>lh e (ρ x)
 |.o6 n x lo hi=>o6 n (ρ x) (lo.map ρ) (hi.map ρ)
 |.ko e z x=>ko e z (ρ x)
 |.len str x=>len str (ρ x)
 |.app e byte x y=>app e slot byte (ρ x) (ρ y)
 |.mn x ys=>match ρ x with
  |.iv (.int k a)=>(M.lift (mT a (ys.map ρ) k)).bind λn=>.ret (.iv (.int k n))
  |_=>.fail
 |.mx x ys=>match ρ x with
  |.iv (.int k a)=>(M.lift (od a (ys.map ρ) k)).bind λn=>.ret (.iv (.int k n))
  |_=>.fail
 |.ext x i=>match ρ x with
  |.aR vs=>M.lift vs[i]?
  |_=>.fail
 |.nE x=>match ρ x with
  |.ref id ai i j=>(M.look id).bind λo=>(M.ok (valid o ai i)).bind λ_=>.ret (.ref id ai i j)
  |.iv (.ptr cs)=>.ret (.iv (.ptr cs))
  |.iv (.fn f cs)=>.ret (.iv (.fn f cs))
  |.bJ f fs cs=>.ret (.bJ f fs cs)
  |_=>.fail
 |.oj f fs ay=>.ret (.bJ f (fs.map ρ) (ay.map ρ))
 |.call mode f args=>match mode with
  |0=>fc call (ρ f) (args.map ρ)
  |_=>gN call (ρ f) (args.map ρ)
 |.k6 _ _=>.fail
 |.sZ x=>(elems 1 (ρ x)).bind λys=>(M.lift (bytesOf ys)).bind λb=>.ret (.iv (.str (ql b)))
 |.s7=>(M.fresh (4*slot)).bind λ_=>(M.write (4*slot) (.map [])).bind λ_=>.ret (.ref (4*slot) 0 0 0)
 |.gB ok agg qs z m k=>gB ok agg qs z (ρ m) (ρ k)
 |.gC qs m k v=>gC qs (ρ m) (ρ k) (ρ v)
 |.gD qs m k=>gD qs (ρ m) (ρ k)
 |.om m=>(du (ρ m)).bind λx=>.ret (.iv (.int .i64 x.2.length))
 |.dead=>.fail
 |.mN x=>mN (ρ x)
 |.lN e z x n=>lN e slot z (ρ x) (ρ n)
 |.rM e z n=>rM e slot z (ρ n)
 |.fJ k x=>(fJ k (ρ x)).bind λn=>.ret (.iv (.int k n))
 |.rL x y=>(M.ok (uY (ρ y))).bind λ_=>store 1 (ρ x) (ρ y)
 |.lP k x y=>lP k (ρ x) (ρ y)
 |.mO k x o y=>mO k (ρ x) (ρ o) (ρ y)
 |.Bq e=>.ret (.iv (.az e))
 |.p8 x=>p8 (ρ x)
 |.tG x=>.ret (ρ x)
 |.p9 x=>p9 (ρ x)
 |.qa x=>qa (ρ x)
 |.lQ p n=>lQ (ρ p) (ρ n)
 |.qb e x lo hi mx=>qb e (ρ x) (ρ lo) (ρ hi) (ρ mx)
def bK (fr:Fr):Option (Nat×Bool)->Option Bool
 |none=>some true
 |some (t,b)=>match get fr t with
  |some (.iv (.bool c))=>some (c==b)
  |some (.aR [])=>some false
  |_=>none
def bj (fr:Fr) (d:Option Nat) (v:AV):Fr:=match d with
 |some d=>set fr d v
 |none=>fr
abbrev cA:=Nat->List AV->Hp->Nat->Option (AV×Hp×Nat)
def dD:js->Option (aK×List aK)
 |.k6 f args=>some (f,args)
 |_=>none
def step (c1:bR) (cx:cA) (slot:Nat) (o:ax) (s:St):Option St:=
 match bK s.fr o.gd with
 |some true=>match dD o.op with
  |some fa=>match callee (ev s.fr fa.1)with
   |some q=>match cx q.1 (q.2.1++(fa.2.map (ev s.fr)++q.2.2)) s.hp s.nx with
    |some (v,h,n)=>some { fr:=bj s.fr o.dst v,hp:=h,nx:=n }
    |none=>none
   |none=>none
  |none=>match(bn c1 slot (ev s.fr) o.op).run s.hp with
   |some (v,h)=>some { s with fr:=bj s.fr o.dst v,hp:=h }
   |none=>none
 |some false=>some { s with fr:=bj s.fr o.dst (.aR []) }
 |none=>none
inductive br where
 |m (x:List Nat×List Nat)
 |c (h0 h1:Hp)
def bz (c1:bR) (slot:Nat) (o:ax) (s:St) (h:Hp):br:=
 match bK s.fr o.gd with
 |some true=>match dD o.op with
  |some _=>.c s.hp h
  |none=>.m ((bn c1 slot (ev s.fr) o.op).bA s.hp)
 |_=>.m ([],[])
def aW (c1:bR) (cx:cA):List ax->Nat->St->Option St
 |[],_,s=>some s
 |o::r,slot,s=>match step c1 cx slot o s with
  |some s'=>aW c1 cx r (slot+1) s'
  |none=>none
def bE (c1:bR) (cx:cA):List ax->Nat->St->Option (St×List br)
 |[],_,s=>some (s,[])
 |o::r,slot,s=>match step c1 cx slot o s with
  |some s'=>match bE c1 cx r (slot+1) s' with
   |some p=>some (p.1,bz c1 slot o s s'.hp::p.2)
   |none=>none
  |none=>none
def meets (a b:List Nat):Bool:=a.any b.contains
def di:br->br->Bool
 |.m x,.m y=>meets x.2 (y.1++y.2)||meets y.2 (x.1++x.2)
 |.c h0 h1,.m y=>!((y.2.isEmpty&&y.1.all λn=>yZ (get h0 n) (get h1 n))||(y.1++y.2).all λn=>(get h1 n).isNone)
 |.m x,.c h0 h1=>!(x.2.isEmpty&&x.1.all λn=>yZ (get h0 n) (get h1 n))
 |.c _ _,.c _ _=>true
def ew (x:br) (i:Nat):List br->List (List Nat)->Bool
 |y::ys,c::cs=>(!di x y||c.contains i)&&ew x i ys cs
 |_,_=>true
def cJ:List br->Nat->List (List Nat)->Bool
 |x::xs,i,_::cs=>ew x i xs cs&&cJ xs (i+1) cs
 |_,_,_=>true
def lS:br->Bool
 |.m x=>x.2.isEmpty
 |.c _ _=>false
def gx (ops:List ax) (tM:List br):Bool:=tM.all lS||cJ tM 0 (ops.map (·.iH))
def aY:List Nat->Fr->Fr
 |[],_=>[]
 |t::r,fr=>match get fr t with
  |some x=>(t,x)::aY r fr
  |none=>aY r fr
def aQ (c1:bR) (cx:cA) (draw:Bool) (ops:List ax) (aF:List Nat) (s:St):Option St:=
 if draw then match bE c1 cx ops s.nx { s with nx:=s.nx+ops.length } with
  |some p=>if gx ops p.2 then some { p.1 with fr:=aY aF p.1.fr } else none
  |none=>none
 else match aW c1 cx ops s.nx { s with nx:=s.nx+ops.length } with
  |some s'=>some { s' with fr:=aY aF s'.fr }
  |none=>none
def iter (f:St->Option (Ex×St)) (aF:List Nat):Nat->St->Option (Ex×St)
 |0,_=>none
 |m+1,s=>match f s with
  |some (.norm,s')=>iter f aF m { s' with fr:=aY aF s'.fr }
  |r=>r
def aD (c1:bR) (cx:cA) (n:Nat):IC->St->Option (Ex×St)
 |.skip,s=>some (.norm,s)
 |.gm draw ops aF,s=>(aQ c1 cx draw ops aF s).map λs'=>(.norm,s')
 |.seq a b,s=>match aD c1 cx n a s with
  |some (.norm,s')=>aD c1 cx n b s'
  |r=>r
 |.cond c a b,s=>match ev s.fr c with
  |.iv (.bool t)=>if t then aD c1 cx n a s else aD c1 cx n b s
  |_=>none
 |.block id b,s=>match aD c1 cx n b s with
  |some (.exit i,s')=>if i=id then some (.norm,s') else some (.exit i,s')
  |r=>r
 |.loop aF b,s=>iter (aD c1 cx n b) aF n { s with fr:=aY aF s.fr }
 |.exit id,s=>some (.exit id,s)
 |.ret,s=>some (.ret,s)
 |.scope b,s=>aD c1 cx n b s
 |.stop,_=>none
structure an where
 np:Nat
 res:List dY
 body:IC
 gF:Option (bR->cA->List AV->Hp->Nat->Option (AV×Hp×Nat)):=none
 deriving Inhabited
def jX (fr:Fr):dY->M AV
 |.t n=>.ret (ev fr (.t n))
 |.cell n agg sz=>load agg sz (ev fr (.t n))
def dB (fr:Fr):List dY->M AV
 |[r]=>jX fr r
 |rs=>(M.aN (jX fr) rs).bind λl=>.ret (.aR l)
def params:List AV->Nat->Fr
 |[],_=>[]
 |a::r,i=>(i,a)::params r (i+1)
def bg (c1:bR) (prog:Nat->Option an):Nat->cA
 |0,_,_,_,_=>none
 |k+1,g,args,hp,nx=>match prog g with
  |none=>none
  |some fn=>match fn.gF with
   |some p=>p c1 (bg c1 prog k) args hp nx
   |none=>if args.length=fn.np then
     match aD c1 (bg c1 prog k) k fn.body ⟨params args 0,hp,nx⟩with
     |some (.norm,s) | some (.ret,s)=>match(dB s.fr fn.res).run s.hp with
      |some (v,h)=>some (v,h,s.nx)
      |none=>none
     |_=>none
    else none
end au
namespace au
open Go Go.RowKit al
structure Gh where
 I:Nat->Prop
 φ:Nat->Option Nat
 w:World
 h:Hp
def cF (w:World) (p:Option Nat) (e L o n:Nat) (v:Value):Prop:=
 match p with
 |none=>(∃a,v = .slice a 0 0)/\n=0/\o=0/\L=0
 |some b=>∃x cap,v = .slice (some ⟨b,x,none⟩) n cap/\o+n<=L/\L<=o+cap/\n<=cap/\(x=o*e\/n=0/\o≠0/\L<=o)/\(x=o*e->∀c,c<(o+cap)*e->(w.cell? ⟨b,c,none⟩).isSome=true)
def aH (g:Gh) (v:Value) (id o n ai:Nat):Prop:=
 match get g.h id with
 |some (.buf v' e es)=>ai<=v'/\(v'=ai->cF g.w (g.φ id) e es.length o n v)
 |some (.bb v' e es)=>ai<=v'/\(v'=ai->cF g.w (g.φ id) e es.length o n v)
 |some (.cells cs)=>ai=0/\cF g.w (g.φ id) 1 cs.length o n v
 |some (.da cs)=>ai=0/\cF g.w (g.φ id) 1 cs.length o n v
 |_=>False
def aI (g:Gh) (v:Value) (id ai i j:Nat):Prop:=
 match get g.h id with
 |some (.cells _)=>ai=0/\i=0/\∃b,g.φ id=some b/\v = .pointer (some ⟨b,j,none⟩)
 |some (.da _)=>ai=0/\i=0/\∃b,g.φ id=some b/\v = .pointer (some ⟨b,j,none⟩)
 |some (.buf v' e _)=>ai<=v'/\(v'=ai->∃b,g.φ id=some b/\v = .pointer (some ⟨b,i*e+j,none⟩))
 |some (.bb v' e _)=>ai<=v'/\(v'=ai->∃b,g.φ id=some b/\v = .pointer (some ⟨b,i*e+j,none⟩))
 |some (.map _)=>ai=0/\i=0/\j=0/\∃b,g.φ id=some b/\v = .map (some b)
 |none=>False
def Aj:Nat->Value
 |0=>.nilFunc
 |1=>.nilIface
 |_=>.map none
inductive RA (ν:Nat->Nat) (g:Gh):Value->AV->Prop
 |undef (v:Value):RA ν g v .undef
 |iv {v:Value} {x:IV} (h:RI ν g.I g.w v x):RA ν g v (.iv x)
 |cI {v:Value} {q:Nat} (h:v=Aj q):RA ν g v (.cI q)
 |agg {vs:Array Value} {cs:List AV} (hn:vs.size=cs.length) (h1:∀(j:Nat) (v:Value),vs[j]?=some v->v.oneCell'=true)
   (hr:∀(j:Nat) (v:Value) (c:AV),vs[j]?=some v->cs[j]?=some c->RA ν g v c):RA ν g (.agg vs) (.agg cs)
 |aR {vs:Array Value} {cs:List AV} (hn:vs.size=cs.length) (hr:∀(j:Nat) (v:Value) (c:AV),vs[j]?=some v->cs[j]?=some c->RA ν g v c):RA ν g (.tuple vs) (.aR cs)
 |own {v:Value} {id o n ai:Nat} (h1:v.oneCell'=true) (h:aH g v id o n ai):RA ν g v (.own id o n ai)
 |ref {v:Value} {id ai i j:Nat} (h1:v.oneCell'=true) (h:aI g v id ai i j):RA ν g v (.ref id ai i j)
 |bJ {f:Nat} {first ay:Array Value} {fs cs:List AV} (hm:first.size=fs.length) (hs:∀(j:Nat) (v:Value) (c:AV),first[j]?=some v->fs[j]?=some c->RA ν g v c)
   (hn:ay.size=cs.length) (hr:∀(j:Nat) (v:Value) (c:AV),ay[j]?=some v->cs[j]?=some c->RA ν g v c) :
   RA ν g (.func (.func (ν f)) first ay) (.bJ f fs cs)
theorem Ak (q:Nat):(Aj q).oneCell'=true:=by unfold Aj;split<;>rfl
theorem RA.mono {ν:Nat->Nat} {g g':Gh} (hI:∀v x,RI ν g.I g.w v x->RI ν g'.I g'.w v x) (ho:∀v id o n ai,aH g v id o n ai->aH g' v id o n ai)
  (hr:∀v id ai i j,aI g v id ai i j->aI g' v id ai i j) {v:Value} {x:AV} (h:RA ν g v x):RA ν g' v x:=by
 induction h with
 |undef v=>exact .undef v
 |iv h=>exact .iv (hI _ _ h)
 |cI h=>exact .cI h
 |agg hn h1 _ ih=>exact .agg hn h1 ih
 |aR hn _ ih=>exact .aR hn ih
 |own h1 h=>exact .own h1 (ho _ _ _ _ _ h)
 |ref h1 h=>exact .ref h1 (hr _ _ _ _ _ h)
 |bJ hm _ hn _ JZ ih=>exact .bJ hm JZ hn ih
def mP (ν:Nat->Nat) (g:Gh) (b e:Nat) (es:List (List AV)):Prop:=
 (∀c ∈ es,c.length=e)/\∀(i j:Nat) (c:List AV) (x:AV),es[i]?=some c->c[j]?=some x->∃v,g.w.cell? ⟨b,i*e+j,none⟩=some v/\v.oneCell'=true/\RA ν g v x
def iT (es:Array MapEntry) (clock:Nat):Prop:=(es.toList.map (·.born)).Nodup/\∀x ∈ es.toList,x.born<clock
def fu (ν:Nat->Nat) (g:Gh) (id:Nat):Ob->Prop
 |.cells cs=>∃b,g.φ id=some b/\¬g.I b/\qm g.w b/\∀(j:Nat) (c:AV),cs[j]?=some c->∃v,g.w.cell? ⟨b,j,none⟩=some v/\v.oneCell'=true/\RA ν g v c
 |.buf _ e es=>∃b,g.φ id=some b/\¬g.I b/\qm g.w b/\mP ν g b e es
 |.bb _ e es=>∃b,g.φ id=some b/\g.I b/\Row ν g.I g.w b e es
 |.da xs=>∃b,g.φ id=some b/\g.I b/\∀(j:Nat) (x:IV),xs[j]?=some x->∃v,g.w.cell? ⟨b,j,none⟩=some v/\RI ν g.I g.w v x
 |.map aU=>∃b es clock,g.φ id=some b/\¬g.I b/\b<g.w.heap.size/\g.w.heap[b]?=some (.map es clock)/\es.size=aU.length/\iT es clock/\
   ∀(j:Nat) (e:MapEntry) (p:AV×AV),es[j]?=some e->aU[j]?=some p->RA ν g e.key p.1/\RA ν g e.val p.2
structure Cx where
 w:World
 I:Nat->Prop
abbrev pN:Nat:=1000001
abbrev lT:Nat:=1000002
def kc (ν:Nat->Nat) (w:World) (id b:Nat):Prop:=(id % 4=1->w.shape? b=some (ν pN,2))/\(id % 4=2->∃n,w.shape? b=some (ν lT,n))/\id % 4≠3
theorem kc.zero {ν:Nat->Nat} {w:World} {id b:Nat} (h:id % 4=0):kc ν w id b:=⟨by omega,by omega,by omega⟩
theorem kc.same {ν:Nat->Nat} {w w':World} {id b:Nat} (h:kc ν w id b) (hs:w'.shape? b=w.shape? b):kc ν w' id b:=by unfold kc at *;rw[hs];exact h
theorem kR {w w':World} {b:Nat} (h:w'.heap[b]?=w.heap[b]?):w'.shape? b=w.shape? b:=by simp[World.shape?,h]
structure Rel (ν:Nat->Nat) (k:Cx) (g:Gh):Prop where
 ob:∀id o,get g.h id=some o->fu ν g id o
 inj:∀id bY o o' b,get g.h id=some o->get g.h bY=some o'->g.φ id=some b->g.φ bY=some b->id=bY
 small:∀b,g.I b->b<g.w.heap.size
 i0:∀b,k.I b->g.I b
 i1:∀b,g.I b->k.I b\/k.w.heap.size<=b
 own:∀id o b,get g.h id=some o->g.φ id=some b->k.w.heap.size<=b
 size:k.w.heap.size<=g.w.heap.size
 os:g.w.os=k.w.os
 tape:g.w.tape=k.w.tape
 output:g.w.output=k.w.output
 cr:∀b,b<k.w.heap.size->g.w.heap[b]?=k.w.heap[b]?
 ty:∀id o b,get g.h id=some o->g.φ id=some b->kc ν g.w id b
def aX (ν:Nat->Nat) (g g':Gh):Prop:=∀v x,RA ν g v x->RA ν g' v x
theorem aX.refl (ν:Nat->Nat) (g:Gh):aX ν g g:=λ_ _ h=>h
theorem aX.trans {ν:Nat->Nat} {a b c:Gh} (h:aX ν a b) (k:aX ν b c):aX ν a c:=λv x hx=>k v x (h v x hx)
theorem mP.mono {ν:Nat->Nat} {g g':Gh} {b e:Nat} {es:List (List AV)} (h:mP ν g b e es) (hm:aX ν g g') (hb:∀off v,g.w.cell? ⟨b,off,none⟩=some v->g'.w.cell? ⟨b,off,none⟩=some v):mP ν g' b e es:=
 ⟨h.1,λi j c x h1 h2=>let⟨v,hc,h3,hr⟩:=h.2 i j c x h1 h2;⟨v,hb _ _ hc,h3,hm _ _ hr⟩⟩
theorem fu.block {ν:Nat->Nat} {g:Gh} {id:Nat} {o:Ob} (h:fu ν g id o) {b:Nat} (hb:g.φ id=some b) (hs:∀b,g.I b->b<g.w.heap.size):b<g.w.heap.size:=by
 cases o with
 |cells cs=>obtain⟨b',h1,_,h3,_⟩:=h;rw[hb]at h1;cases h1;exact h3.1
 |buf v e es=>obtain⟨b',h1,_,h3,_⟩:=h;rw[hb]at h1;cases h1;exact h3.1
 |bb v e es=>obtain⟨b',h1,h2,_⟩:=h;rw[hb]at h1;cases h1;exact hs _ h2
 |da xs=>obtain⟨b',h1,h2,_⟩:=h;rw[hb]at h1;cases h1;exact hs _ h2
 |map aU=>obtain⟨b',_,_,h1,_,h3,_⟩:=h;rw[hb]at h1;cases h1;exact h3
theorem cF.same {w w':World} {p:Option Nat} {e L o n:Nat} {v:Value} (h:cF w p e L o n v)
  (hw:∀b,p=some b->∀c,(w.cell? ⟨b,c,none⟩).isSome=true->(w'.cell? ⟨b,c,none⟩).isSome=true):cF w' p e L o n v:=by
 cases p with
 |none=>exact h
 |some b=>
  obtain⟨x,cap,e1,e2,e3,e4,e5,e6⟩:=h;exact⟨x,cap,e1,e2,e3,e4,e5,λhx c hc=>hw b rfl c (e6 hx c hc)⟩
theorem aH.alive {g:Gh} {v:Value} {id o n ai:Nat} (h:aH g v id o n ai):∃ob,get g.h id=some ob:=by
 unfold aH at h;cases hg:get g.h id with
 |none=>rw[hg]at h;exact h.elim
 |some ob=>exact⟨ob,rfl⟩
theorem aI.alive {g:Gh} {v:Value} {id ai i j:Nat} (h:aI g v id ai i j):∃ob,get g.h id=some ob:=by
 unfold aI at h;cases hg:get g.h id with
 |none=>rw[hg]at h;exact h.elim
 |some ob=>exact⟨ob,rfl⟩
theorem aH.other {g g':Gh} {v:Value} {id o n ai:Nat} (h:aH g v id o n ai) (hh:get g'.h id=get g.h id) (ah:g'.φ id=g.φ id)
  (hw:∀b,g.φ id=some b->g'.w.heap[b]?=g.w.heap[b]?):aH g' v id o n ai:=by
 have rN:∀b,g.φ id=some b->∀c,(g.w.cell? ⟨b,c,none⟩).isSome=true->(g'.w.cell? ⟨b,c,none⟩).isSome=true:=λb hb c hc=>by rw[bx (hw b hb)];exact hc
 unfold aH at h ⊢;rw[hh,ah];cases hg:get g.h id with
 |none=>rw[hg]at h;exact h.elim
 |some ob=>
  rw[hg]at h;cases ob with
  |cells cs=>exact⟨h.1,h.2.same rN⟩
  |da cs=>exact⟨h.1,h.2.same rN⟩
  |buf v' e es=>exact⟨h.1,λhv=>(h.2 hv).same rN⟩
  |bb v' e es=>exact⟨h.1,λhv=>(h.2 hv).same rN⟩
  |map aU=>exact h.elim
theorem aI.other {g g':Gh} {v:Value} {id ai i j:Nat} (h:aI g v id ai i j) (hh:get g'.h id=get g.h id) (ah:g'.φ id=g.φ id):aI g' v id ai i j:=by
 unfold aI at h ⊢;rw[hh,ah];exact h
theorem fu.other {ν:Nat->Nat} {g g':Gh} {id:Nat} {o:Ob} (h:fu ν g id o) (ah:g'.φ id=g.φ id) (hm:aX ν g g') (ck:∀v x,RI ν g.I g.w v x->RI ν g'.I g'.w v x)
  (bC:g.w.heap.size<=g'.w.heap.size) (hw:∀b,g.φ id=some b->g'.w.heap[b]?=g.w.heap[b]?) (hI:∀b,g.φ id=some b->(g'.I b↔g.I b)):fu ν g' id o:=by
 cases o with
 |cells cs=>
  obtain⟨b,e1,e2,e3,e4⟩:=h;refine⟨b,ah.trans e1,λhi=>e2 ((hI b e1).1 hi),⟨Nat.lt_of_lt_of_le e3.1 bC,λo=>by rw[eO (hw b e1)];exact e3.2 o⟩,λj c hc=>?_⟩;obtain⟨v,c1,c2,c3⟩:=e4 j c hc;exact⟨v,by rw[bx (hw b e1)];exact c1,c2,hm _ _ c3⟩
 |buf v e es=>
  obtain⟨b,e1,e2,e3,e4⟩:=h;exact⟨b,ah.trans e1,λhi=>e2 ((hI b e1).1 hi),⟨Nat.lt_of_lt_of_le e3.1 bC,λo=>by rw[eO (hw b e1)];exact e3.2 o⟩,e4.mono hm λoff v hc=>by rw[bx (hw b e1)];exact hc⟩
 |bb v e es=>
  obtain⟨b,e1,e2,e4⟩:=h;exact⟨b,ah.trans e1,(hI b e1).2 e2,e4.mono ck λoff v hc=>by rw[bx (hw b e1)];exact hc⟩
 |da xs=>
  obtain⟨b,e1,e2,e4⟩:=h;refine⟨b,ah.trans e1,(hI b e1).2 e2,λj x hx=>?_⟩;obtain⟨v,c1,c2⟩:=e4 j x hx;exact⟨v,by rw[bx (hw b e1)];exact c1,ck _ _ c2⟩
 |map aU=>
  obtain⟨b,es,clock,e1,e2,e3,e4,e5,e7,e6⟩:=h;refine⟨b,es,clock,ah.trans e1,λhi=>e2 ((hI b e1).1 hi),Nat.lt_of_lt_of_le e3 bC,(hw b e1).trans e4,e5,e7,λj e p h1 h2=>?_⟩;obtain⟨c1,c2⟩:=e6 j e p h1 h2;exact⟨hm _ _ c1,hm _ _ c2⟩
theorem Rel.world {ν:Nat->Nat} {k:Cx} {g:Gh} (r:Rel ν k g) {w':World} {I':Nat->Prop} (hI:∀b,g.I b->I' b) (kx:∀b,I' b->g.I b\/g.w.heap.size<=b/\b<w'.heap.size)
  (hs:g.w.heap.size<=w'.heap.size) (h1:w'.os=g.w.os) (h2:w'.tape=g.w.tape) (h3:w'.output=g.w.output) (hb:∀b,b<g.w.heap.size->w'.heap[b]?=g.w.heap[b]?) :
  Rel ν k { g with I:=I',w:=w' }/\aX ν g { g with I:=I',w:=w' }:=by
 have ck:∀v x,RI ν g.I g.w v x->RI ν I' w' v x:=λv x h=>h.mono hI λb off v hi hc=>by rw[bx (hb b (r.small b hi))];exact hc
 have hblk:∀id o b,get g.h id=some o->g.φ id=some b->b<g.w.heap.size:=λid o b ho ah=>(r.ob id o ho).block ah r.small
 have hm:aX ν g { g with I:=I',w:=w' }:=by
  intro v x hx;refine hx.mono ck ?_ ?_
  ·intro v id o n ai ho;obtain⟨ob,de⟩:=ho.alive;exact ho.other rfl rfl λb ah=>hb b (hblk id _ b de ah)
  ·intro v id ai i j hr;exact hr
 refine⟨⟨?_,r.inj,?_,λb h=>hI b (r.i0 b h),?_,r.own,Nat.le_trans r.size hs,h1.trans r.os,h2.trans r.tape,h3.trans r.output,λb h=>(hb b (Nat.lt_of_lt_of_le h r.size)).trans (r.cr b h),λid o b ho ah=>(r.ty id o b ho ah).same (kR (hb b (hblk id o b ho ah)))⟩,hm⟩
 ·intro id o ho;exact(r.ob id o ho).other rfl hm ck hs (λb ah=>hb b (hblk id _ b ho ah)) λb ah=>⟨λhi=>(kx b hi).resolve_right λh=>by have:=hblk id _ b ho ah;omega,hI b⟩
 ·intro b hi;rcases kx b hi with h | h
  ·exact Nat.lt_of_lt_of_le (r.small b h) hs
  ·exact h.2
 ·intro b hi;rcases kx b hi with h | h
  ·exact r.i1 b h
  ·exact .inr (Nat.le_trans r.size h.1)
theorem Rel.w8 {ν:Nat->Nat} {k:Cx} {g:Gh} (r:Rel ν k g) {s:Nat} {ob:Ob} {p:Option Nat} {w':World} (hs:get g.h s=none)
  (bC:g.w.heap.size<=w'.heap.size) (h1:w'.os=g.w.os) (h2:w'.tape=g.w.tape) (h3:w'.output=g.w.output) (hb:∀b,b<g.w.heap.size->w'.heap[b]?=g.w.heap[b]?)
  (hp:∀b,p=some b->∀id o,get g.h id=some o->g.φ id≠some b) (bQ:∀b,p=some b->k.w.heap.size<=b) (gq:∀b,p=some b->kc ν w' s b)
  (de:aX ν g { g with φ:=bl g.φ s p,w:=w',h:=set g.h s ob }->fu ν { g with φ:=bl g.φ s p,w:=w',h:=set g.h s ob } s ob) :
  Rel ν k { g with φ:=bl g.φ s p,w:=w',h:=set g.h s ob }/\aX ν g { g with φ:=bl g.φ s p,w:=w',h:=set g.h s ob }:=by
 have ck:∀v x,RI ν g.I g.w v x->RI ν g.I w' v x:=λv x h=>h.mono (λ_ h=>h) λb off v hi hc=>by rw[bx (hb b (r.small b hi))];exact hc
 have hblk:∀id o b,get g.h id=some o->g.φ id=some b->b<g.w.heap.size:=λid o b ho ah=>(r.ob id o ho).block ah r.small
 have hm:aX ν g { g with φ:=bl g.φ s p,w:=w',h:=set g.h s ob }:=by
  intro v x hx;refine hx.mono ck ?_ ?_
  ·intro v id o n ai ho;obtain⟨jv,ep⟩:=ho.alive;have bG:s≠id:=λe=>by rw[<-e,hs]at ep;cases ep
   exact ho.other (bF _ _ bG) (dM _ _ (Ne.symm bG)) λb ah=>hb b (hblk id _ b ep ah)
  ·intro v id ai i j hr;obtain⟨jv,ep⟩:=hr.alive;have bG:s≠id:=λe=>by rw[<-e,hs]at ep;cases ep
   exact hr.other (bF _ _ bG) (dM _ _ (Ne.symm bG))
 refine⟨⟨?_,?_,λb hi=>Nat.lt_of_lt_of_le (r.small b hi) bC,r.i0,r.i1,?_,Nat.le_trans r.size bC,h1.trans r.os,h2.trans r.tape,h3.trans r.output,λb h=>(hb b (Nat.lt_of_lt_of_le h r.size)).trans (r.cr b h),?_⟩,hm⟩
 ·intro id o ho;by_cases he:s=id
  ·subst he;have:ob=o:=by simpa[aq]using ho
   subst this;exact de hm
  ·have cb:get g.h id=some o:=by rwa [show get (set g.h s ob) id=get g.h id from bF _ _ he]at ho
   exact(r.ob id o cb).other (dM _ _ (Ne.symm he)) hm ck bC (λb ah=>hb b (hblk id _ b cb ah)) λ_ _=>Iff.rfl
 ·intro id bY o o' b ho cb ah aO;simp only[aP]at ho cb;simp only[bl]at ah aO;by_cases he:id=s
  ·by_cases cB:bY=s
   ·rw[he,cB]
   ·rw[if_pos he]at ah;rw[if_neg cB]at aO;rw[if_neg (Ne.symm cB)]at cb;exact absurd aO (hp b ah bY _ cb)
  ·rw[if_neg he]at ah;rw[if_neg (Ne.symm he)]at ho;by_cases cB:bY=s
   ·rw[if_pos cB]at aO;exact absurd ah (hp b aO id _ ho)
   ·rw[if_neg cB]at aO;rw[if_neg (Ne.symm cB)]at cb;exact r.inj id bY o o' b ho cb ah aO
 ·intro id o b ho ah;simp only[aP]at ho;simp only[bl]at ah;by_cases he:id=s
  ·rw[if_pos he]at ah;exact bQ b ah
  ·rw[if_neg he]at ah;rw[if_neg (Ne.symm he)]at ho;exact r.own id o b ho ah
 ·intro id o b ho ah;simp only[aP]at ho;simp only[bl]at ah;by_cases he:id=s
  ·rw[if_pos he]at ah;rw[he];exact gq b ah
  ·rw[if_neg he]at ah;rw[if_neg (Ne.symm he)]at ho;exact(r.ty id o b ho ah).same (kR (hb b (hblk id o b ho ah)))
theorem Rel.new {ν:Nat->Nat} {k:Cx} {g:Gh} (r:Rel ν k g) {s:Nat} {ob:Ob} {p:Option Nat} {w':World} (hs:get g.h s=none)
  (bC:g.w.heap.size<=w'.heap.size) (h1:w'.os=g.w.os) (h2:w'.tape=g.w.tape) (h3:w'.output=g.w.output) (hb:∀b,b<g.w.heap.size->w'.heap[b]?=g.w.heap[b]?)
  (hp:∀b,p=some b->g.w.heap.size<=b) (gq:∀b,p=some b->kc ν w' s b)
  (de:aX ν g { g with φ:=bl g.φ s p,w:=w',h:=set g.h s ob }->fu ν { g with φ:=bl g.φ s p,w:=w',h:=set g.h s ob } s ob) :
  Rel ν k { g with φ:=bl g.φ s p,w:=w',h:=set g.h s ob }/\aX ν g { g with φ:=bl g.φ s p,w:=w',h:=set g.h s ob }:=
 r.w8 hs bC h1 h2 h3 hb (λb fT id o ho ah=>by have:=(r.ob id o ho).block ah r.small;have:=hp b fT;omega) (λb fT=>Nat.le_trans r.size (hp b fT)) gq de
theorem Rel.gO {ν:Nat->Nat} {k:Cx} {g:Gh} (r:Rel ν k g) {s:Nat} {yp ob:Ob} {p:Option Nat} {w':World} {I':Nat->Prop} (hs:get g.h s=some yp)
  (bZ:∀b,g.φ s=some b->¬g.I b)
  (bC:g.w.heap.size<=w'.heap.size) (h1:w'.os=g.w.os) (h2:w'.tape=g.w.tape) (h3:w'.output=g.w.output) (hb:∀b,b<g.w.heap.size->g.φ s≠some b->w'.heap[b]?=g.w.heap[b]?)
  (hI:∀b,g.I b->I' b) (kx:∀b,I' b->g.I b\/g.φ s=some b)
  (hp:p=g.φ s\/∃b,p=some b/\g.w.heap.size<=b) (gq:∀b,p=some b->kc ν w' s b)
  (hO:∀v o n ai,aH g v s o n ai->aH ⟨I',bl g.φ s p,w',set g.h s ob⟩ v s o n ai)
  (hR:∀v ai i j,aI g v s ai i j->aI ⟨I',bl g.φ s p,w',set g.h s ob⟩ v s ai i j)
  (de:(∀v x,RI ν g.I g.w v x->RI ν I' w' v x)->aX ν g ⟨I',bl g.φ s p,w',set g.h s ob⟩->fu ν ⟨I',bl g.φ s p,w',set g.h s ob⟩ s ob) :
  Rel ν k ⟨I',bl g.φ s p,w',set g.h s ob⟩/\aX ν g ⟨I',bl g.φ s p,w',set g.h s ob⟩:=by
 have ck:∀v x,RI ν g.I g.w v x->RI ν I' w' v x:=λv x h=>h.mono hI λb off v hi hc=>by
  rw[bx (hb b (r.small b hi) λe=>bZ b e hi)];exact hc
 have hblk:∀id o b,get g.h id=some o->g.φ id=some b->b<g.w.heap.size:=λid o b ho ah=>(r.ob id o ho).block ah r.small
 have cW:∀id o b,s≠id->get g.h id=some o->g.φ id=some b->g.φ s≠some b:=λid o b bG ho ah e=>bG (r.inj s id yp o b hs ho e ah)
 have hm:aX ν g ⟨I',bl g.φ s p,w',set g.h s ob⟩:=by
  intro v x hx;refine hx.mono ck ?_ ?_
  ·intro v id o n ai ho;by_cases he:s=id
   ·subst he;exact hO _ _ _ _ ho
   ·obtain⟨jv,ep⟩:=ho.alive;exact ho.other (bF _ _ he) (dM _ _ (Ne.symm he)) λb ah=>hb b (hblk id _ b ep ah) (cW id _ b he ep ah)
  ·intro v id ai i j hr;by_cases he:s=id
   ·subst he;exact hR _ _ _ _ hr
   ·exact hr.other (bF _ _ he) (dM _ _ (Ne.symm he))
 refine⟨⟨?_,?_,?_,λb h=>hI b (r.i0 b h),?_,?_,Nat.le_trans r.size bC,h1.trans r.os,h2.trans r.tape,h3.trans r.output,?_,?_⟩,hm⟩
 ·intro id o ho;by_cases he:s=id
  ·subst he;have:ob=o:=by simpa[aq]using ho
   subst this;exact de ck hm
  ·have cb:get g.h id=some o:=by rwa [show get (set g.h s ob) id=get g.h id from bF _ _ he]at ho
   exact(r.ob id o cb).other (dM _ _ (Ne.symm he)) hm ck bC (λb ah=>hb b (hblk id _ b cb ah) (cW id _ b he cb ah))
    λb ah=>⟨λhi=>(kx b hi).resolve_right (cW id _ b he cb ah),hI b⟩
 ·intro id bY o o' b ho cb ah aO;simp only[aP]at ho cb;simp only[bl]at ah aO;by_cases he:id=s
  ·by_cases cB:bY=s
   ·rw[he,cB]
   ·rw[if_pos he]at ah;rw[if_neg cB]at aO;rw[if_neg (Ne.symm cB)]at cb;have aV:=hblk bY _ b cb aO;rcases hp with hp | ⟨b',hp,pV⟩
    ·exact absurd (hp▸ah) (cW bY _ b (Ne.symm cB) cb aO)
    ·rw[hp]at ah;cases ah;omega
  ·rw[if_neg he]at ah;rw[if_neg (Ne.symm he)]at ho;by_cases cB:bY=s
   ·rw[if_pos cB]at aO;have aV:=hblk id _ b ho ah;rcases hp with hp | ⟨b',hp,pV⟩
    ·exact absurd (hp▸aO) (cW id _ b (Ne.symm he) ho ah)
    ·rw[hp]at aO;cases aO;omega
   ·rw[if_neg cB]at aO;rw[if_neg (Ne.symm cB)]at cb;exact r.inj id bY o o' b ho cb ah aO
 ·intro b hi;rcases kx b hi with h | h
  ·exact Nat.lt_of_lt_of_le (r.small b h) bC
  ·exact Nat.lt_of_lt_of_le (hblk s _ b hs h) bC
 ·intro b hi;rcases kx b hi with h | h
  ·exact r.i1 b h
  ·exact .inr (r.own s _ b hs h)
 ·intro id o b ho ah;simp only[aP]at ho;simp only[bl]at ah;by_cases he:id=s
  ·rw[if_pos he]at ah;rcases hp with hp | ⟨b',hp,pV⟩
   ·exact r.own s _ b hs (hp▸ah)
   ·rw[hp]at ah;cases ah;exact Nat.le_trans r.size pV
  ·rw[if_neg he]at ah;rw[if_neg (Ne.symm he)]at ho;exact r.own id o b ho ah
 ·intro b h;have aV:=Nat.lt_of_lt_of_le h r.size;refine(hb b aV λe=>?_).trans (r.cr b h);have:=r.own s _ b hs e;omega
 ·intro id o b ho ah;simp only[aP]at ho;simp only[bl]at ah;by_cases he:id=s
  ·rw[if_pos he]at ah;rw[he];exact gq b ah
  ·rw[if_neg he]at ah;rw[if_neg (Ne.symm he)]at ho;exact(r.ty id o b ho ah).same (kR (hb b (hblk id o b ho ah) (cW id o b (Ne.symm he) ho ah)))
theorem bc {α β:Type} (m:M α) (f:α->M β) (h:Hp):(m.bind f).run h=match m.run h with
  |some (a,h')=>(f a).run h'
  |none=>none:=by
 induction m generalizing h with
 |ret a=>rfl
 |fail=>rfl
 |get id k ih=>simp only[M.bind,M.run];exact ih _ _
 |put id o k ih=>simp only[M.bind,M.run];exact ih _
theorem ag {α β:Type} {m:M α} {f:α->M β} {h q8:Hp} {b:β} (e:(m.bind f).run h=some (b,q8)) :
  ∃a h',m.run h=some (a,h')/\(f a).run h'=some (b,q8):=by
 rw[bc]at e;cases hm:m.run h with
 |none=>rw[hm]at e;cases e
 |some p=>rw[hm]at e;exact⟨p.1,p.2,rfl,e⟩
theorem mb {b:Bool} {h h':Hp} {u:Unit} (e:(M.ok b).run h=some (u,h')):b=true/\h'=h:=by
 unfold M.ok at e;cases b with
 |true=>simp[M.run]at e;exact⟨rfl,e.symm⟩
 |false=>simp[M.run]at e
theorem kj {id:Nat} {h h':Hp} {o:Ob} (e:(M.look id).run h=some (o,h')):au.get h id=some o/\h'=h:=by
 simp only[M.look,M.run]at e;cases hg:au.get h id with
 |none=>simp[hg,M.run]at e
 |some x=>simp[hg,M.run]at e;exact⟨by rw[e.1],e.2.symm⟩
theorem M.cq {id:Nat} {h h':Hp} {u:Unit} (e:(M.fresh id).run h=some (u,h')):au.get h id=none/\h'=h:=by
 simp only[M.fresh,M.run]at e;cases hg:au.get h id with
 |none=>simp[hg,M.run]at e;exact⟨rfl,e.symm⟩
 |some x=>simp[hg,M.run]at e
theorem aL {id:Nat} {o:Ob} {h h':Hp} {u:Unit} (e:(M.write id o).run h=some (u,h')):h'=set h id o:=by
 simp[M.write,M.run]at e;exact e.symm
theorem dz {α:Type} {x:Option α} {h h':Hp} {a:α} (e:(M.lift x).run h=some (a,h')):x=some a/\h'=h:=by
 cases x with
 |none=>simp[M.lift,M.run]at e
 |some y=>simp[M.lift,M.run]at e;exact⟨by rw[e.1],e.2.symm⟩
theorem af {α:Type} {x a:α} {h h':Hp} (e:(M.ret x).run h=some (a,h')):x=a/\h'=h:=by
 simp[M.run]at e;exact⟨e.1,e.2.symm⟩
theorem ae {α:Type} {a:α} {h h':Hp} (e:(M.fail:M α).run h=some (a,h')):False:=by simp[M.run]at e
theorem M.aj {α:Type} {b:Bool} {f:Unit->M α} {h:Hp} {r:α×Hp} (e:((M.ok b).bind f).run h=some r):b=true/\(f ()).run h=some r:=by
 obtain⟨a,g⟩:=r;obtain⟨_,h1,e1,e2⟩:=ag e;obtain⟨hb,rfl⟩:=mb e1;exact⟨hb,e2⟩
theorem M.lift_bind {α β:Type} {x:Option β} {f:β->M α} {h:Hp} {r:α×Hp} (e:((M.lift x).bind f).run h=some r):∃a,x=some a/\(f a).run h=some r:=by
 obtain⟨a,g⟩:=r;obtain⟨y,h1,e1,e2⟩:=ag e;obtain⟨hb,rfl⟩:=dz e1;exact⟨y,hb,e2⟩
theorem M.aM {α:Type} {id:Nat} {f:Ob->M α} {h:Hp} {r:α×Hp} (e:((M.look id).bind f).run h=some r):∃o,au.get h id=some o/\(f o).run h=some r:=by
 obtain⟨a,g⟩:=r;obtain⟨y,h1,e1,e2⟩:=ag e;obtain⟨hb,rfl⟩:=kj e1;exact⟨y,hb,e2⟩
theorem bU {α β:Type} {f:α->M β} {x:α} {r:List α} {h h':Hp} {ys:List β} (e:(M.aN f (x::r)).run h=some (ys,h')) :
  ∃y h1 zs,(f x).run h=some (y,h1)/\(M.aN f r).run h1=some (zs,h')/\ys=y::zs:=by
 obtain⟨y,h1,e1,e2⟩:=ag e;obtain⟨zs,h2,e3,e4⟩:=ag e2;obtain⟨rfl,rfl⟩:=af e4;exact⟨y,h1,zs,e1,e3,rfl⟩
theorem b9 {α β:Type} {f:α->M β} {h h':Hp} {ys:List β} (e:(M.aN f []).run h=some (ys,h')):ys=[]/\h'=h:=by
 obtain⟨rfl,rfl⟩:=af e;exact⟨rfl,rfl⟩
structure cg (ν:Nat->Nat) (k:Cx) (g:Gh) (h':Hp) (I':Nat->Prop):Prop where
 rel:Rel ν k { g with I:=I',h:=h' }
 mono:aX ν g { g with I:=I',h:=h' }
 sub:∀b,g.I b->I' b
 up:∀b,I' b->g.I b\/∃id o,get g.h id=some o/\g.φ id=some b
 stay:∀id o,get h' id=some o->get g.h id=some o\/(∃v e es,o = .bb v e es)\/∃xs,o = .da xs
 alive:∀id,(get h' id).isSome=(get g.h id).isSome
theorem cg.refl {ν:Nat->Nat} {k:Cx} {g:Gh} (r:Rel ν k g):cg ν k g g.h g.I:=⟨r,.refl ν g,λ_ h=>h,λ_ h=>.inl h,λ_ _ h=>.inl h,λ_=>rfl⟩
theorem cg.trans {ν:Nat->Nat} {k:Cx} {g:Gh} {h1 h2:Hp} {I1 I2:Nat->Prop} (a:cg ν k g h1 I1) (b:cg ν k { g with I:=I1,h:=h1 } h2 I2):cg ν k g h2 I2:=
 ⟨b.rel,a.mono.trans b.mono,λx hx=>b.sub x (a.sub x hx),λx hx=>by
  rcases b.up x hx with h | ⟨id,o,ho,ah⟩
  ·exact a.up x h
  ·have ha:=a.alive id;simp only[]at ho ah;rw[ho]at ha;cases hg:get g.h id with
   |none=>rw[hg]at ha;simp at ha
   |some o'=>exact .inr ⟨id,o',hg,ah⟩,
  λid o h=>by
  rcases b.stay id o h with h | h
  ·exact a.stay id o h
  ·exact .inr h,λid=>(b.alive id).trans (a.alive id)⟩
theorem jM {φ:Nat->Option Nat} {id:Nat}:bl φ id (φ id)=φ:=by funext i;simp only[bl];split<;>simp_all
theorem mc {ν:Nat->Nat} {k:Cx} {g:Gh} (r:Rel ν k g) {id v e b:Nat} {es:List (List AV)} {xs:List (List IV)} (hg:get g.h id=some (.buf v e es)) (ah:g.φ id=some b) (hn:xs.length=es.length)
  (hl:∀c ∈ xs,c.length=e) (hx:∀(i j:Nat) (c:List IV) (x:IV),xs[i]?=some c->c[j]?=some x->∃u,g.w.cell? ⟨b,i*e+j,none⟩=some u/\RI ν g.I g.w u x) :
  cg ν k g (set g.h id (.bb v e xs)) (λb=>g.I b\/g.φ id=some b):=by
 have bZ:∀b,g.φ id=some b->¬g.I b:=by
  intro b' aO;obtain⟨Cl,h1,h2,_⟩:=r.ob id _ hg;rw[aO]at h1;cases h1;exact h2
 have ht:=r.gO (s:=id) (ob:=.bb v e xs) (p:=g.φ id) (w':=g.w) (I':=λb=>g.I b\/g.φ id=some b) hg bZ (Nat.le_refl _) rfl rfl rfl (λ_ _ _=>rfl) (λ_ h=>.inl h) (λ_ h=>h) (.inl rfl) (λb' h=>r.ty id _ b' hg h)
  (λu o n ai ho=>by
   unfold aH at ho ⊢;rw[hg]at ho;simp only[aq,aw];rw[hn];exact ho)
  (λu ai i j hr=>by
   unfold aI at hr ⊢;rw[hg]at hr;simp only[aq,aw];exact hr)
  (λck _=>⟨b,(aw _ _ _).trans ah,.inr ah,hl,λi j c x h1 h2=>let⟨u,c1,c2⟩:=hx i j c x h1 h2;⟨u,c1,ck _ _ c2⟩⟩)
 rw[jM]at ht;refine⟨ht.1,ht.2,λ_ h=>.inl h,λb h=>h.imp _root_.id λh=>⟨id,_,hg,h⟩,λbY o h=>?_,λbY=>?_⟩
 ·rw[aP]at h;split at h
  ·cases h;exact .inr (.inl ⟨_,_,_,rfl⟩)
  ·exact .inl h
 ·rw[aP];split
  ·rename_i he;subst he;rw[hg];rfl
  ·rfl
theorem mF {ν:Nat->Nat} {k:Cx} {g:Gh} (r:Rel ν k g) {id b:Nat} {cs:List AV} {xs:List IV} (hg:get g.h id=some (.cells cs)) (ah:g.φ id=some b) (hn:xs.length=cs.length)
  (hx:∀(j:Nat) (x:IV),xs[j]?=some x->∃u,g.w.cell? ⟨b,j,none⟩=some u/\RI ν g.I g.w u x) :
  cg ν k g (set g.h id (.da xs)) (λb=>g.I b\/g.φ id=some b):=by
 have bZ:∀b,g.φ id=some b->¬g.I b:=by
  intro b' aO;obtain⟨Cl,h1,h2,_⟩:=r.ob id _ hg;rw[aO]at h1;cases h1;exact h2
 have ht:=r.gO (s:=id) (ob:=.da xs) (p:=g.φ id) (w':=g.w) (I':=λb=>g.I b\/g.φ id=some b) hg bZ (Nat.le_refl _) rfl rfl rfl (λ_ _ _=>rfl) (λ_ h=>.inl h) (λ_ h=>h) (.inl rfl) (λb' h=>r.ty id _ b' hg h)
  (λu o n ai ho=>by
   unfold aH at ho ⊢;rw[hg]at ho;simp only[aq,aw];rw[hn];exact ho)
  (λu ai i j hr=>by
   unfold aI at hr ⊢;rw[hg]at hr;simp only[aq,aw];exact hr)
  (λck _=>⟨b,(aw _ _ _).trans ah,.inr ah,λj x h2=>let⟨u,c1,c2⟩:=hx j x h2;⟨u,c1,ck _ _ c2⟩⟩)
 rw[jM]at ht;refine⟨ht.1,ht.2,λ_ h=>.inl h,λb h=>h.imp _root_.id λh=>⟨id,_,hg,h⟩,λbY o h=>?_,λbY=>?_⟩
 ·rw[aP]at h;split at h
  ·cases h;exact .inr (.inr ⟨_,rfl⟩)
  ·exact .inl h
 ·rw[aP];split
  ·rename_i he;subst he;rw[hg];rfl
  ·rfl
theorem ky {ν:Nat->Nat} {J:Nat->Prop} {w:World} {p:Option Nat} {e o m L:Nat} {xs:List (List IV)} (hn:xs.length=m)
  (aC:∀b,p=some b->J b/\(∀c ∈ xs,c.length=e)/\∀(i j:Nat) (c:List IV) (x:IV),xs[i]?=some c->c[j]?=some x->∃u,w.cell? ⟨b,(o+i)*e+j,none⟩=some u/\RI ν J w u x) {v:Value}
  (h:cF w p e L o m v):RI ν J w v (.sl e xs):=by
 by_cases hm:m=0
 ·subst hm;have:xs=[]:=List.eq_nil_of_length_eq_zero hn;subst this;cases hp:p with
  |none=>rw[hp]at h;obtain⟨⟨a,rfl⟩,_⟩:=h;exact .dS a 0 e
  |some b=>rw[hp]at h;obtain⟨x,cap,rfl,_⟩:=h;exact .dS _ cap e
 ·cases hp:p with
  |none=>rw[hp]at h;obtain⟨_,h0,_⟩:=h;exact absurd h0 hm
  |some b=>
   rw[hp]at h;obtain⟨x,cap,rfl,h2,h3,h4,h5,_⟩:=h;obtain⟨hI,hl,hc⟩:=aC b hp;have hx:x=o*e:=h5.resolve_right λh=>hm h.1
   subst hx;have w9:∀(i:Nat) (c:List IV),xs[i]?=some c->∃f:Nat->Value,∀(j:Nat) (x:IV),c[j]?=some x->w.cell? ⟨b,(o+i)*e+j,none⟩=some (f j)/\RI ν J w (f j) x:=
    λi c hi=>pick λj x hj=>hc i j c x hi hj
   obtain⟨F,hF⟩:=q9 w9;refine .sl b (o*e) m cap e xs F hI hn.symm h4 hl (λi j c x h1 h2=>?_) λi j c x h1 h2=>(hF i c h1 j x h2).2
   have:=(hF i c h1 j x h2).1
   rwa [Nat.add_mul]at this
theorem fY {ν:Nat->Nat} {J:Nat->Prop} {w:World} {off j b:Nat} {c:List IV} (hJ:J b) (hc:∀(l:Nat) (x:IV),c[l]?=some x->∃u,w.cell? ⟨b,off+l,none⟩=some u/\RI ν J w u x) :
  RI ν J w (.pointer (some ⟨b,off+j,none⟩)) (.ptr (c.drop j)):=by
 obtain⟨F,hF⟩:=pick (cs:=c) hc;refine .ptr b (off+j) _ (λl=>F (j+l)) hJ (λl x h=>?_) λl x h=>?_
 ·rw[List.getElem?_drop]at h;have:=(hF _ x h).1
  rwa [<-Nat.add_assoc]at this
 ·rw[List.getElem?_drop]at h;exact(hF _ x h).2
theorem jm {α:Type} {es:List α} {o m i:Nat} {c:α} (h:((es.drop o).take m)[i]?=some c):i<m/\es[o+i]?=some c:=by
 rw[List.getElem?_take]at h;split at h
 ·rename_i hi;rw[List.getElem?_drop]at h;exact⟨hi,h⟩
 ·cases h
theorem cF.fits {w:World} {p:Option Nat} {e L o n:Nat} {v:Value} (h:cF w p e L o n v):o+n<=L:=by
 cases p with
 |none=>obtain⟨_,rfl,rfl,rfl⟩:=h;exact Nat.le_refl _
 |some b=>obtain⟨x,cap,_,h,_⟩:=h;exact h
theorem gP {ν:Nat->Nat} {k:Cx} {g:Gh} (r:Rel ν k g) {id v' e o m:Nat} {es:List (List IV)} (hg:get g.h id=some (.bb v' e es)) {v:Value}
  (h:cF g.w (g.φ id) e es.length o m v):RI ν g.I g.w v (.sl e ((es.drop o).take m)):=by
 have hf:=h.fits;refine ky (by simp;omega) (λb hp=>?_) h;obtain⟨b',h1,hI,aC⟩:=r.ob id _ hg;rw[hp]at h1;cases h1;refine⟨hI,λc hc=>aC.1 c (List.mem_of_mem_drop (List.mem_of_mem_take hc)),λi j c x h1 h2=>aC.2 _ j c x (jm h1).2 h2⟩
theorem gQ {ν:Nat->Nat} {k:Cx} {g:Gh} (r:Rel ν k g) {id v' e i j:Nat} {es:List (List IV)} {c:List IV} (hg:get g.h id=some (.bb v' e es)) (hc:es[i]?=some c) {v:Value}
  (h:∃b,g.φ id=some b/\v = .pointer (some ⟨b,i*e+j,none⟩)):RI ν g.I g.w v (.ptr (c.drop j)):=by
 obtain⟨b,ah,rfl⟩:=h;obtain⟨b',h1,hI,aC⟩:=r.ob id _ hg;rw[ah]at h1;cases h1;exact fY hI λl x h=>aC.2 i l c x hc h
theorem o8 {ν:Nat->Nat} {k:Cx} {g:Gh} (r:Rel ν k g) {id j:Nat} {xs:List IV} (hg:get g.h id=some (.da xs)) {v:Value} (h:∃b,g.φ id=some b/\v = .pointer (some ⟨b,j,none⟩)) :
  RI ν g.I g.w v (.ptr (xs.drop j)):=by
 obtain⟨b,ah,rfl⟩:=h;obtain⟨b',h1,hI,aC⟩:=r.ob id _ hg;rw[ah]at h1;cases h1;have:=fY (off:=0) (j:=j) hI (c:=xs) λl x h=>by have:=aC l x h;rwa [Nat.zero_add]
 rwa [Nat.zero_add]at this
def ra (ν:Nat->Nat) (f:AV->M IV):Prop:=
 ∀(k:Cx) (g:Gh) (a:AV) (x:IV) (h':Hp),(f a).run g.h=some (x,h')->Rel ν k g->∀v,RA ν g v a->∃I',cg ν k g h' I'/\RI ν I' g.w v x
theorem ra.list {ν:Nat->Nat} {f:AV->M IV} (hf:ra ν f):∀(cs:List AV) (k:Cx) (g:Gh) (xs:List IV) (h':Hp),(M.aN f cs).run g.h=some (xs,h')->Rel ν k g->
  ∀V:Nat->Value,(∀(j:Nat) (c:AV),cs[j]?=some c->RA ν g (V j) c)->∃I',cg ν k g h' I'/\xs.length=cs.length/\∀(j:Nat) (x:IV),xs[j]?=some x->RI ν I' g.w (V j) x:=by
 intro cs
 induction cs with
 |nil=>
  intro k g xs h' e r V _;obtain⟨rfl,rfl⟩:=b9 e;exact⟨g.I,.refl r,rfl,λj x h=>by simp at h⟩
 |cons c cs ih=>
  intro k g xs h' e r V hV;obtain⟨y,h1,zs,e1,e2,rfl⟩:=bU e;obtain⟨I1,f1,r1⟩:=hf k g c y h1 e1 r (V 0) (hV 0 c rfl);obtain⟨I2,f2,hl,r2⟩:=ih k { g with I:=I1,h:=h1 } zs h' e2 f1.rel (λj=>V (j+1)) λj c' hc=>f1.mono _ _ (hV (j+1) c' (by simpa using hc))
  refine⟨I2,f1.trans f2,by simp[hl],λj x hx=>?_⟩;cases j with
  |zero=>simp at hx;subst hx;exact r1.mono f2.sub λ_ _ _ _ h=>h
  |succ j=>exact r2 j x (by simpa using hx)
theorem ra.rows {ν:Nat->Nat} {f:AV->M IV} (hf:ra ν f):∀(es:List (List AV)) (k:Cx) (g:Gh) (xs:List (List IV)) (h':Hp),(M.aN (M.aN f) es).run g.h=some (xs,h')->Rel ν k g->
  ∀V:Nat->Nat->Value,(∀(i j:Nat) (c:List AV) (x:AV),es[i]?=some c->c[j]?=some x->RA ν g (V i j) x)->
  ∃I',cg ν k g h' I'/\xs.length=es.length/\(∀(i:Nat) (c:List AV) (c':List IV),es[i]?=some c->xs[i]?=some c'->c'.length=c.length)/\
   ∀(i j:Nat) (c:List IV) (x:IV),xs[i]?=some c->c[j]?=some x->RI ν I' g.w (V i j) x:=by
 intro es
 induction es with
 |nil=>
  intro k g xs h' e r V _;obtain⟨rfl,rfl⟩:=b9 e;exact⟨g.I,.refl r,rfl,λi c c' h=>by simp at h,λi j c x h=>by simp at h⟩
 |cons c es ih=>
  intro k g xs h' e r V hV;obtain⟨y,h1,zs,e1,e2,rfl⟩:=bU e;obtain⟨I1,f1,l1,r1⟩:=hf.list c k g y h1 e1 r (V 0) λj x h=>hV 0 j c x rfl h
  obtain⟨I2,f2,hl,kU,r2⟩:=ih k { g with I:=I1,h:=h1 } zs h' e2 f1.rel (λi=>V (i+1)) λi j c' x h h'=>f1.mono _ _ (hV (i+1) j c' x (by simpa using h) h')
  refine⟨I2,f1.trans f2,by simp[hl],λi a b ha hb=>?_,λi j a x ha hx=>?_⟩
  ·cases i with
   |zero=>simp at ha hb;subst ha hb;exact l1
   |succ i=>exact kU i a b (by simpa using ha) (by simpa using hb)
  ·cases i with
   |zero=>simp at ha;subst ha;exact(r1 j x hx).mono f2.sub λ_ _ _ _ h=>h
   |succ i=>exact r2 i j a x (by simpa using ha) hx
theorem nS {ν:Nat->Nat} {g:Gh} {b e:Nat} {es:List (List AV)} (h:mP ν g b e es):∃V:Nat->Nat->Value,∀(i j:Nat) (c:List AV) (x:AV),es[i]?=some c->c[j]?=some x->
  g.w.cell? ⟨b,i*e+j,none⟩=some (V i j)/\(V i j).oneCell'=true/\RA ν g (V i j) x:=by
 obtain⟨F,hF⟩:=q9 (cs:=es) (P:=λi (f:Nat->Value) c=>∀(j:Nat) (x:AV),c[j]?=some x->g.w.cell? ⟨b,i*e+j,none⟩=some (f j)/\(f j).oneCell'=true/\RA ν g (f j) x)
  λi c hc=>pick λj x hx=>h.2 i j c x hc hx
 exact⟨F,λi j c x h1 h2=>hF i c h1 j x h2⟩
theorem iU (ν:Nat->Nat):∀n,ra ν (fz true n):=by
 intro n
 induction n with
 |zero=>intro k g a x h' e;exact(ae e).elim
 |succ n ih=>
  intro k g a x h' e r v ha;have row:∀{id v' e' b:Nat} {es:List (List AV)} {xs:List (List IV)} {h1:Hp},get g.h id=some (.buf v' e' es)->g.φ id=some b->(M.aN (M.aN (fz true n)) es).run g.h=some (xs,h1)->(∃v e es,get h1 id=some (.buf v e es))->
    ∃I',cg ν k g (set h1 id (.bb v' e' xs)) I'/\xs.length=es.length:=by
   intro id v' e' b es xs h1 hg ah e1 hb;obtain⟨b',kG,bZ,ca,aC⟩:=r.ob id _ hg;rw[ah]at kG;cases kG;obtain⟨V,hV⟩:=nS aC;obtain⟨I1,f1,hl,kU,hx⟩:=ih.rows es k g xs h1 e1 r V λi j c x h1 h2=>(hV i j c x h1 h2).2.2
   have fU:get h1 id=some (.buf v' e' es):=by
    obtain⟨a1,a2,a3,ha⟩:=hb;rcases f1.stay id _ ha with h | h | h
    ·rw[hg]at h;cases h;exact ha
    ·obtain⟨_,_,_,h⟩:=h;cases h
    ·obtain⟨_,h⟩:=h;cases h
   have hlen:∀(i:Nat) (c:List IV),xs[i]?=some c->∃c',es[i]?=some c'/\c.length=c'.length:=λi c h=>by
    have h':=aA h;exact⟨_,List.getElem?_eq_getElem (by omega),kU i _ c (List.getElem?_eq_getElem (by omega)) h⟩
   have hf:=mc (xs:=xs) f1.rel fU ah hl (λc hc=>by
     obtain⟨i,hi⟩:=List.getElem?_of_mem hc;obtain⟨c',h1,h2⟩:=hlen i c hi;rw[h2];exact aC.1 c' (List.mem_of_getElem? h1)) λi j c x h1 h2=>by
    obtain⟨c',h3,h4⟩:=hlen i c h1;have hj:=aA h2;exact⟨V i j,(hV i j c' _ h3 (List.getElem?_eq_getElem (by omega))).1,hx i j c x h1 h2⟩
   exact⟨_,f1.trans hf,hl⟩
  cases ha with
  |undef=>exact(ae e).elim
  |agg=>exact(ae e).elim
  |aR=>exact(ae e).elim
  |cI=>exact(ae e).elim
  |iv hr=>
   cases hr with
   |az a e'=>obtain⟨rfl,rfl⟩:=af e;exact⟨g.I,.refl r,.dS _ _ _⟩
   |bool b=>obtain⟨rfl,rfl⟩:=af e;exact⟨g.I,.refl r,.bool _⟩
   |int k' n'=>obtain⟨rfl,rfl⟩:=af e;exact⟨g.I,.refl r,.int _ _⟩
   |str s=>obtain⟨rfl,rfl⟩:=af e;exact⟨g.I,.refl r,.str _⟩
   |dS a c e'=>obtain⟨rfl,rfl⟩:=af e;exact⟨g.I,.refl r,.dS _ _ _⟩
   |sl b off n' cap e' es f h1 h2 h3 h4 h5 h6=>obtain⟨rfl,rfl⟩:=af e;exact⟨g.I,.refl r,.sl b off n' cap e' es f h1 h2 h3 h4 h5 h6⟩
   |bh=>obtain⟨rfl,rfl⟩:=af e;exact⟨g.I,.refl r,.bh⟩
   |ptr b off cs f h1 h2 h3=>obtain⟨rfl,rfl⟩:=af e;exact⟨g.I,.refl r,.ptr b off cs f h1 h2 h3⟩
   |fn f ay cs h1 h2=>obtain⟨rfl,rfl⟩:=af e;exact⟨g.I,.refl r,.fn f ay cs h1 h2⟩
   |junk v h1=>obtain⟨rfl,rfl⟩:=af e;exact⟨g.I,.refl r,.junk _ h1⟩
  |@own _ id o m ai jU ho=>
   obtain⟨ob,hg,e2⟩:=M.aM e;cases ob with
   |cells cs=>exact(ae e2).elim
   |da cs=>exact(ae e2).elim
   |map _=>exact(ae e2).elim
   |buf v' e' es=>
    obtain⟨hv,e4⟩:=M.aj e2;simp only[if_true]at e4;obtain⟨xs,h3,e5,e6⟩:=ag e4;obtain⟨jv,dg,e8⟩:=M.aM e6;cases jv with
    |cells cs=>exact(ae e8).elim
    |da cs=>exact(ae e8).elim
    |map _=>exact(ae e8).elim
    |bb _ _ _=>exact(ae e8).elim
    |buf v2 Dc J0=>
     obtain⟨_,h5,e9,dm⟩:=ag e8;obtain rfl:=aL e9;obtain⟨rfl,rfl⟩:=af dm;have df:v'=ai:=by simpa using hv
     obtain⟨b,ah, -⟩:=r.ob id _ hg;obtain⟨I',hf,hl⟩:=row hg ah e5 ⟨_,_,_,dg⟩;refine⟨I',hf,?_⟩;unfold aH at ho;rw[hg]at ho;have hs:=ho.2 df;rw[<-hl]at hs;exact gP hf.rel (id:=id) (aq _ _ _) hs
   |bb v' e' es=>
    obtain⟨hv,e4⟩:=M.aj e2;obtain⟨rfl,rfl⟩:=af e4;have df:v'=ai:=by simpa using hv
    unfold aH at ho;rw[hg]at ho;exact⟨g.I,.refl r,gP r hg (ho.2 df)⟩
  |@ref _ id ai i j kz hr=>
   obtain⟨ob,hg,e2⟩:=M.aM e;unfold aI at hr;rw[hg]at hr;cases ob with
   |map _=>exact(ae e2).elim
   |da xs=>
    obtain⟨rfl,rfl,hb⟩:=hr;obtain⟨-,e4⟩:=M.aj e2;obtain⟨rfl,rfl⟩:=af e4;exact⟨g.I,.refl r,o8 r hg hb⟩
   |cells cs=>
    obtain⟨rfl,rfl,b,ah,rfl⟩:=hr;obtain⟨-,e4⟩:=M.aj e2;obtain⟨xs,h3,e5,e6⟩:=ag e4;simp only[if_true]at e6;obtain⟨jv,dg,e8⟩:=M.aM e6;obtain⟨b',aO,bZ,_,hc⟩:=r.ob id _ hg;rw[ah]at aO;cases aO;obtain⟨V,hV⟩:=pick hc;obtain⟨I1,f1,hl,hx⟩:=ih.list cs k g xs _ e5 r V λj c h=>(hV j c h).2.2
    cases jv with
    |buf _ _ _=>exact(ae e8).elim
    |bb _ _ _=>exact(ae e8).elim
    |da _=>exact(ae e8).elim
    |map _=>exact(ae e8).elim
    |cells Cm=>
     have iJ:get g.h id=some (.cells Cm):=by
      rcases f1.stay id _ dg with h | h | h
      ·exact h
      ·obtain⟨_,_,_,h⟩:=h;cases h
      ·obtain⟨_,h⟩:=h;cases h
     rw[hg]at iJ;cases iJ;obtain⟨_,h5,e9,dm⟩:=ag e8;obtain rfl:=aL e9;obtain⟨rfl,rfl⟩:=af dm;have hlen:∀(j:Nat) (x:IV),xs[j]?=some x->∃c,cs[j]?=some c:=λj x h=>by
      have:=aA h;exact⟨_,List.getElem?_eq_getElem (by omega)⟩
     have hf:=mF (xs:=xs) f1.rel dg ah hl λj x h=>let⟨c,bH⟩:=hlen j x h;⟨V j,(hV j c bH).1,hx j x h⟩
     exact⟨_,f1.trans hf,o8 hf.rel (id:=id) (aq _ _ _) ⟨b,ah,rfl⟩⟩
   |buf v' e' es=>
    obtain⟨hv,e4⟩:=M.aj e2;simp only[if_true]at e4;obtain⟨xs,h3,e5,e6⟩:=ag e4;obtain⟨jv,dg,e8⟩:=M.aM e6;cases jv with
    |cells cs=>exact(ae e8).elim
    |da cs=>exact(ae e8).elim
    |map _=>exact(ae e8).elim
    |bb _ _ _=>exact(ae e8).elim
    |buf v2 Dc J0=>
     obtain⟨c,hc,dm⟩:=M.lift_bind e8;obtain⟨_,h6,oz,lu⟩:=ag dm;obtain rfl:=aL oz;obtain⟨rfl,rfl⟩:=af lu;have df:v'=ai:=by simpa using hv
     obtain⟨b,ah, -⟩:=r.ob id _ hg;obtain⟨I',hf,hl⟩:=row hg ah e5 ⟨_,_,_,dg⟩;exact⟨I',hf,gQ hf.rel (id:=id) (v':=v') (es:=xs) (aq _ _ _) hc (hr.2 df)⟩
   |bb v' e' es=>
    obtain⟨hv,e4⟩:=M.aj e2;obtain⟨c,hc,e6⟩:=M.lift_bind e4;obtain⟨rfl,rfl⟩:=af e6;have df:v'=ai:=by simpa using hv
    exact⟨g.I,.refl r,gQ r hg hc (hr.2 df)⟩
  |@bJ f first ay fs cs hm hs hn hr=>
   cases fs with
   |cons=>exact(ae e).elim
   |nil=>
    have:first=#[]:=Array.eq_empty_of_size_eq_zero hm
    subst this;obtain⟨xs,h1,e1,e2⟩:=ag e;obtain⟨rfl,rfl⟩:=af e2;obtain⟨I1,f1,hl,hx⟩:=ih.list cs k g xs _ e1 r (λj=>ay.getD j (.bool true)) λj c h=>by
     have:=aA h;exact hr j _ c (by simp[Array.getD,show j<ay.size by omega]) h
    refine⟨I1,f1,.fn f ay xs (by omega) λj v x h1 h2=>?_⟩;have:=hx j x h2
    rwa [show ay.getD j (.bool true)=v from by
     obtain⟨hj,he⟩:=Array.getElem?_eq_some_iff.1 h1;simp[Array.getD,hj,he]]at this
def rb (ν:Nat->Nat) (f:AV->M IV):Prop:=
 ∀(k:Cx) (g:Gh) (a:AV) (x:IV) (h':Hp),(f a).run g.h=some (x,h')->Rel ν k g->∀v,RA ν g v a->
  h'=g.h/\∀J:Nat->Prop,(∀b,g.I b->J b)->(∀id o b,get g.h id=some o->g.φ id=some b->J b)->RI ν J g.w v x
theorem rb.list {ν:Nat->Nat} {f:AV->M IV} (hf:rb ν f) (k:Cx) (g:Gh) (r:Rel ν k g):∀(cs:List AV) (xs:List IV) (h':Hp),(M.aN f cs).run g.h=some (xs,h')->
  ∀V:Nat->Value,(∀(j:Nat) (c:AV),cs[j]?=some c->RA ν g (V j) c)->h'=g.h/\xs.length=cs.length/\
   ∀J:Nat->Prop,(∀b,g.I b->J b)->(∀id o b,get g.h id=some o->g.φ id=some b->J b)->∀(j:Nat) (x:IV),xs[j]?=some x->RI ν J g.w (V j) x:=by
 intro cs
 induction cs with
 |nil=>
  intro xs h' e V _;obtain⟨rfl,rfl⟩:=b9 e;exact⟨rfl,rfl,λ_ _ _ j x h=>by simp at h⟩
 |cons c cs ih=>
  intro xs h' e V hV;obtain⟨y,h1,zs,e1,e2,rfl⟩:=bU e;obtain⟨rfl,r1⟩:=hf k g c y h1 e1 r (V 0) (hV 0 c rfl);obtain⟨rfl,hl,r2⟩:=ih zs h' e2 (λj=>V (j+1)) λj c' hc=>hV (j+1) c' (by simpa using hc)
  refine⟨rfl,by simp[hl],λJ hJ fD j x hx=>?_⟩;cases j with
  |zero=>simp at hx;subst hx;exact r1 J hJ fD
  |succ j=>exact r2 J hJ fD j x (by simpa using hx)
theorem rb.rows {ν:Nat->Nat} {f:AV->M IV} (hf:rb ν f) (k:Cx) (g:Gh) (r:Rel ν k g):∀(es:List (List AV)) (xs:List (List IV)) (h':Hp),(M.aN (M.aN f) es).run g.h=some (xs,h')->
  ∀V:Nat->Nat->Value,(∀(i j:Nat) (c:List AV) (x:AV),es[i]?=some c->c[j]?=some x->RA ν g (V i j) x)->h'=g.h/\xs.length=es.length/\
   (∀(i:Nat) (c:List AV) (c':List IV),es[i]?=some c->xs[i]?=some c'->c'.length=c.length)/\
   ∀J:Nat->Prop,(∀b,g.I b->J b)->(∀id o b,get g.h id=some o->g.φ id=some b->J b)->∀(i j:Nat) (c:List IV) (x:IV),xs[i]?=some c->c[j]?=some x->RI ν J g.w (V i j) x:=by
 intro es
 induction es with
 |nil=>
  intro xs h' e V _;obtain⟨rfl,rfl⟩:=b9 e;exact⟨rfl,rfl,λi c c' h=>by simp at h,λ_ _ _ i j c x h=>by simp at h⟩
 |cons c es ih=>
  intro xs h' e V hV;obtain⟨y,h1,zs,e1,e2,rfl⟩:=bU e;obtain⟨rfl,l1,r1⟩:=hf.list k g r c y h1 e1 (V 0) λj x h=>hV 0 j c x rfl h
  obtain⟨rfl,hl,kU,r2⟩:=ih zs h' e2 (λi=>V (i+1)) λi j c' x h h'=>hV (i+1) j c' x (by simpa using h) h'
  refine⟨rfl,by simp[hl],λi a b ha hb=>?_,λJ hJ fD i j a x ha hx=>?_⟩
  ·cases i with
   |zero=>simp at ha hb;subst ha hb;exact l1
   |succ i=>exact kU i a b (by simpa using ha) (by simpa using hb)
  ·cases i with
   |zero=>simp at ha;subst ha;exact r1 J hJ fD j x hx
   |succ i=>exact r2 J hJ fD i j a x (by simpa using ha) hx
theorem lp (ν:Nat->Nat):∀n,rb ν (fz false n):=by
 intro n
 induction n with
 |zero=>intro k g a x h' e;exact(ae e).elim
 |succ n ih=>
  intro k g a x h' e r v ha;have up:∀{J:Nat->Prop},(∀b,g.I b->J b)->∀{v:Value} {x:IV},RI ν g.I g.w v x->RI ν J g.w v x:=λhJ _ _ h=>h.mono hJ λ_ _ _ _ h=>h
  cases ha with
  |undef=>exact(ae e).elim
  |agg=>exact(ae e).elim
  |aR=>exact(ae e).elim
  |cI=>exact(ae e).elim
  |iv hr=>
   have key:∀y:IV,(M.ret y).run g.h=some (x,h')->RI ν g.I g.w v y->h'=g.h/\∀J:Nat->Prop,(∀b,g.I b->J b)->(∀id o b,get g.h id=some o->g.φ id=some b->J b)->RI ν J g.w v x:=by
    intro y e hy;obtain⟨rfl,rfl⟩:=af e;exact⟨rfl,λJ hJ _=>up hJ hy⟩
   cases hr with
   |az a e'=>exact key _ e (.dS _ _ _)
   |bool b=>exact key _ e (.bool _)
   |int k' n'=>exact key _ e (.int _ _)
   |str s=>exact key _ e (.str _)
   |dS a c e'=>exact key _ e (.dS _ _ _)
   |sl b off n' cap e' es f h1 h2 h3 h4 h5 h6=>exact key _ e (.sl b off n' cap e' es f h1 h2 h3 h4 h5 h6)
   |bh=>exact key _ e .bh
   |ptr b off cs f h1 h2 h3=>exact key _ e (.ptr b off cs f h1 h2 h3)
   |fn f ay cs h1 h2=>exact key _ e (.fn f ay cs h1 h2)
   |junk v h1=>exact key _ e (.junk _ h1)
  |@own _ id o m ai jU ho=>
   obtain⟨ob,hg,e2⟩:=M.aM e;unfold aH at ho;rw[hg]at ho;cases ob with
   |cells cs=>exact(ae e2).elim
   |da cs=>exact(ae e2).elim
   |map _=>exact(ae e2).elim
   |buf v' e' es=>
    obtain⟨hv,e4⟩:=M.aj e2;simp only[Bool.false_eq_true,if_false]at e4;obtain⟨xs,h3,e5,e6⟩:=ag e4;obtain⟨rfl,rfl⟩:=af e6;have df:v'=ai:=by simpa using hv
    have hs:=ho.2 df;have cK:=hs.fits;obtain⟨b,ah,bZ,ca,aC⟩:=r.ob id _ hg;obtain⟨V,hV⟩:=nS aC;obtain⟨rfl,hl,kU,hx⟩:=ih.rows k g r _ xs _ e5 (λi j=>V (o+i) j) λi j c x h1 h2=>(hV _ j c x (jm h1).2 h2).2.2
    have oX:xs.length=m:=by rw[hl];simp;omega
    have gV:∀(i:Nat) (c:List IV),xs[i]?=some c->∃c',es[o+i]?=some c'/\c.length=c'.length:=λi c h=>by
     have h':=aA h;have aV:i<((es.drop o).take m).length:=by omega
     have h2:=List.getElem?_eq_getElem aV;exact⟨_,(jm h2).2,kU i _ c h2 h⟩
    refine⟨rfl,λJ hJ fD=>ky oX (λb' hp=>?_) hs⟩;rw[ah]at hp;cases hp;refine⟨fD id _ b hg ah,λc hc=>?_,λi j c x h1 h2=>?_⟩
    ·obtain⟨i,hi⟩:=List.getElem?_of_mem hc;obtain⟨c',h1,h2⟩:=gV i c hi;rw[h2];exact aC.1 c' (List.mem_of_getElem? h1)
    ·obtain⟨c',h3,h4⟩:=gV i c h1;have hj:=aA h2;exact⟨_,(hV (o+i) j c' _ h3 (List.getElem?_eq_getElem (by omega))).1,hx J hJ fD i j c x h1 h2⟩
   |bb v' e' es=>
    obtain⟨hv,e4⟩:=M.aj e2;obtain⟨rfl,rfl⟩:=af e4;have df:v'=ai:=by simpa using hv
    exact⟨rfl,λJ hJ _=>up hJ (gP r hg (ho.2 df))⟩
  |@ref _ id ai i j kz hr=>
   obtain⟨ob,hg,e2⟩:=M.aM e;unfold aI at hr;rw[hg]at hr;cases ob with
   |map _=>exact(ae e2).elim
   |da xs=>
    obtain⟨rfl,rfl,hb⟩:=hr;obtain⟨-,e4⟩:=M.aj e2;obtain⟨rfl,rfl⟩:=af e4;exact⟨rfl,λJ hJ _=>up hJ (o8 r hg hb)⟩
   |cells cs=>
    obtain⟨rfl,rfl,b,ah,rfl⟩:=hr;obtain⟨-,e4⟩:=M.aj e2;obtain⟨xs,h3,e5,e6⟩:=ag e4;simp only[Bool.false_eq_true,if_false]at e6;obtain⟨rfl,rfl⟩:=af e6;obtain⟨b',aO,bZ,_,hc⟩:=r.ob id _ hg;rw[ah]at aO;cases aO;obtain⟨V,hV⟩:=pick hc;obtain⟨rfl,hl,hx⟩:=ih.list k g r cs xs _ e5 V λj c h=>(hV j c h).2.2
    refine⟨rfl,λJ hJ fD=>?_⟩;have:=fY (off:=0) (j:=j) (fD id _ b hg ah) (c:=xs) λl x h=>by
     have:=aA h;exact⟨V l,by rw[Nat.zero_add];exact(hV l _ (List.getElem?_eq_getElem (by omega))).1,hx J hJ fD l x h⟩
    rwa [Nat.zero_add]at this
   |buf v' e' es=>
    obtain⟨hv,e4⟩:=M.aj e2;simp only[Bool.false_eq_true,if_false]at e4;obtain⟨c,hc,e6⟩:=M.lift_bind e4;obtain⟨xs,h4,e7,e8⟩:=ag e6;obtain⟨rfl,rfl⟩:=af e8;have df:v'=ai:=by simpa using hv
    obtain⟨b,ah,rfl⟩:=hr.2 df;obtain⟨b',aO,bZ,_,aC⟩:=r.ob id _ hg;rw[ah]at aO;cases aO;obtain⟨V,hV⟩:=nS aC;obtain⟨rfl,hl,hx⟩:=ih.list k g r c xs _ e7 (V i) λj x h=>(hV i j c x hc h).2.2
    refine⟨rfl,λJ hJ fD=>fY (fD id _ b hg ah) λl x h=>?_⟩;have:=aA h;exact⟨V i l,(hV i l c _ hc (List.getElem?_eq_getElem (by omega))).1,hx J hJ fD l x h⟩
   |bb v' e' es=>
    obtain⟨hv,e4⟩:=M.aj e2;obtain⟨c,hc,e6⟩:=M.lift_bind e4;obtain⟨rfl,rfl⟩:=af e6;have df:v'=ai:=by simpa using hv
    exact⟨rfl,λJ hJ _=>up hJ (gQ r hg hc (hr.2 df))⟩
  |@bJ f first ay fs cs hm hs hn hr=>
   cases fs with
   |cons=>exact(ae e).elim
   |nil=>
    have:first=#[]:=Array.eq_empty_of_size_eq_zero hm
    subst this;obtain⟨xs,h1,e1,e2⟩:=ag e;obtain⟨rfl,rfl⟩:=af e2;obtain⟨rfl,hl,hx⟩:=ih.list k g r cs xs _ e1 (λj=>ay.getD j (.bool true)) λj c h=>by
     have:=aA h;exact hr j _ c (by simp[Array.getD,show j<ay.size by omega]) h
    refine⟨rfl,λJ hJ fD=>.fn f ay xs (by omega) λj v x h1 h2=>?_⟩;have:=hx J hJ fD j x h2
    rwa [show ay.getD j (.bool true)=v from by
     obtain⟨hj,he⟩:=Array.getElem?_eq_some_iff.1 h1;simp[Array.getD,hj,he]]at this
def bf (ν:Nat->Nat) (k:Cx) (g:Gh) (h':Hp) (r:AV) (res:Result Value):Prop:=
 ∃g' v,res = .ok v g'.w/\g'.h=h'/\Rel ν k g'/\aX ν g g'/\RA ν g' v r
theorem bf.same {ν:Nat->Nat} {k:Cx} {g:Gh} (r:Rel ν k g) {v:Value} {x:AV} {res:Result Value} (hr:res = .ok v g.w) (h:RA ν g v x):bf ν k g g.h x res:=
 ⟨g,v,hr,rfl,r,.refl ν g,h⟩
theorem ij {agg:Bool} {l:List AV} {h h':Hp} {r:AV} (e:(mk agg l).run h=some (r,h')):h'=h/\(agg=true/\r = .agg l\/agg=false/\l=[r]):=by
 unfold mk at e;cases agg with
 |true=>simp only[if_true]at e;obtain⟨rfl,rfl⟩:=af e;exact⟨rfl,.inl ⟨rfl,rfl⟩⟩
 |false=>
  simp only[Bool.false_eq_true,if_false]at e
  match l with
  |[]=>exact(ae e).elim
  |[x]=>obtain⟨rfl,rfl⟩:=af e;exact⟨rfl,.inr ⟨rfl,rfl⟩⟩
  |_::_::_=>exact(ae e).elim
theorem jw {ν:Nat->Nat} {P:Program} {g:Gh} {t:TypeId} {sz:Nat} {agg:Bool} (ht:fE P t sz agg=true) {b off:Nat} {l:List AV} (hl:l.length=sz)
  (hc:∀(i:Nat) (x:AV),l[i]?=some x->∃v,g.w.cell? ⟨b,off+i,none⟩=some v/\v.oneCell'=true/\RA ν g v x) {r:AV} (hr:agg=true/\r = .agg l\/agg=false/\l=[r]) :
  ∃v,(loadVar t ⟨b,off,none⟩).run P g.w = .ok v g.w/\RA ν g v r:=by
 obtain⟨d,i,hu,hi,ha,hs,h1⟩:=cZ ht;obtain⟨V,hV⟩:=pick hc;rcases hr with⟨dq,rfl⟩|⟨dq,rfl⟩
 ·have dI:(loadCells ⟨b,off,none⟩ i.size).run P g.w = .ok ((List.range i.size).map V).toArray g.w:=run_loadCells g.w _ _ V λj hj=>by
   have:=(hV j (l[j]'(by omega)) (List.getElem?_eq_getElem (by omega))).1
   rwa [Addr.add_lit]
  refine⟨.agg ((List.range i.size).map V).toArray,?_,.agg (by simp;omega) (λj v h=>?_) λj v c h1 h2=>?_⟩
  ·simp[loadVar,cH hu,ha,dq,run_sizeOf hi,dI]
  ·obtain⟨hj,rfl⟩:j<i.size/\V j=v:=by
    have hj:j<i.size:=by
     rcases Nat.lt_or_ge j i.size with h' | h'
     ·exact h'
     ·simp[List.getElem?_eq_none (show(List.range i.size).length<=j by simpa using h')]at h
    exact⟨hj,by simpa[hj]using h⟩
   exact(hV j (l[j]'(by omega)) (List.getElem?_eq_getElem (by omega))).2.1
  ·have hj:j<l.length:=by
    rcases Nat.lt_or_ge j l.length with h' | h'
    ·exact h'
    ·rw[List.getElem?_eq_none h']at h2;cases h2
   obtain rfl:V j=v:=by simpa[show j<i.size by omega]using h1
   exact(hV j c h2).2.2
 ·have h0:=hV 0 r rfl;refine⟨V 0,?_,h0.2.2⟩;have:=h0.1;simp only[Nat.add_zero]at this;simp[loadVar,cH hu,ha,dq,this]
theorem me {ν:Nat->Nat} {k:Cx} {g:Gh} (r:Rel ν k g) {id ai i j sz:Nat} {ob:Ob} {l:List AV} (hg:get g.h id=some ob) (hl:dc ob ai i j sz=some l) {v:Value}
  (h:aI g v id ai i j):∃b off,v = .pointer (some ⟨b,off,none⟩)/\∀(m:Nat) (x:AV),l[m]?=some x->∃v,g.w.cell? ⟨b,off+m,none⟩=some v/\v.oneCell'=true/\RA ν g v x:=by
 unfold aI at h;rw[hg]at h;have cr:=r.ob id _ hg;have sub:∀{α:Type} {cs:List α} {m:Nat} {x:α},((cs.drop j).take sz)[m]?=some x->cs[j+m]?=some x:=λh=>(jm h).2
 cases ob with
 |cells cs=>
  obtain⟨rfl,rfl,b,ah,rfl⟩:=h;obtain⟨b',aO,_,_,hc⟩:=cr;rw[ah]at aO;cases aO;simp only[dc,true_and,if_true,Option.some.injEq]at hl;subst hl;exact⟨b,j,rfl,λm x hx=>hc _ _ (sub hx)⟩
 |da cs=>
  obtain⟨rfl,rfl,b,ah,rfl⟩:=h;obtain⟨b',aO,_,hc⟩:=cr;rw[ah]at aO;cases aO;simp only[dc,true_and,if_true,Option.some.injEq]at hl;subst hl;refine⟨b,j,rfl,λm x hx=>?_⟩;simp only[List.getElem?_map,Option.map_eq_some_iff]at hx;obtain⟨y,hy,rfl⟩:=hx;obtain⟨v,h1,h2⟩:=hc _ _ (sub hy);exact⟨v,h1,h2.one,.iv h2⟩
 |buf v' e es=>
  simp only[dc]at hl;split at hl
  ·rename_i hv;obtain⟨b,ah,rfl⟩:=h.2 hv;simp only[Option.map_eq_some_iff]at hl;obtain⟨c,hc,rfl⟩:=hl;obtain⟨b',h1,_,_,aC⟩:=cr;rw[ah]at h1;cases h1;refine⟨b,_,rfl,λm x hx=>?_⟩;obtain⟨v,h1,h2⟩:=aC.2 i (j+m) c x hc (sub hx);exact⟨v,by rw[Nat.add_assoc];exact h1,h2⟩
  ·cases hl
 |bb v' e es=>
  simp only[dc]at hl;split at hl
  ·rename_i hv;obtain⟨b,ah,rfl⟩:=h.2 hv;simp only[Option.map_eq_some_iff]at hl;obtain⟨c,hc,rfl⟩:=hl;obtain⟨b',h1,_,aC⟩:=cr;rw[ah]at h1;cases h1;refine⟨b,_,rfl,λm x hx=>?_⟩;simp only[List.getElem?_map,Option.map_eq_some_iff]at hx;obtain⟨y,hy,rfl⟩:=hx;obtain⟨v,h1,h2⟩:=aC.2 i (j+m) c y hc (sub hy);exact⟨v,by rw[Nat.add_assoc];exact h1,h2.one,.iv h2⟩
  ·cases hl
 |map _=>simp[dc]at hl
theorem la {ν:Nat->Nat} {P:Program} {k:Cx} {g:Gh} (r:Rel ν k g) {t:TypeId} {sz:Nat} {agg:Bool} (ht:fE P t sz agg=true) {v:Value} {x y:AV} {h':Hp} (hv:RA ν g v x)
  (e:(load agg sz x).run g.h=some (y,h')):h'=g.h/\∃u,(Instr.loadAt t v).run P g.w = .ok u g.w/\RA ν g u y:=by
 cases hv with
 |undef=>exact(ae e).elim
 |cI=>exact(ae e).elim
 |agg=>exact(ae e).elim
 |aR=>exact(ae e).elim
 |own=>exact(ae e).elim
 |bJ=>exact(ae e).elim
 |iv hr=>
  cases hr with
  |ptr b off cs f hI hc hr=>
   obtain⟨hl,e2⟩:=M.aj e;obtain⟨rfl,hm⟩:=ij e2;have jx:((cs.take sz).map AV.iv).length=sz:=by simpa using hl
   obtain⟨u,hu,hR⟩:=jw (ν:=ν) (g:=g) ht (b:=b) (off:=off) jx (λi x hx=>by
    simp only[List.getElem?_map,Option.map_eq_some_iff,List.getElem?_take]at hx;obtain⟨y,hy,rfl⟩:=hx;split at hy
    ·exact⟨f i,hc i y hy,(hr i y hy).one,.iv (hr i y hy)⟩
    ·cases hy) hm
   exact⟨rfl,u,by simp[Instr.loadAt,Instr.sureAddr,hu],hR⟩
  |_=>exact(ae e).elim
 |ref kz hr=>
  obtain⟨ob,hg,e2⟩:=M.aM e;obtain⟨l,hl,e4⟩:=M.lift_bind e2;obtain⟨jx,e6⟩:=M.aj e4;obtain⟨rfl,hm⟩:=ij e6;obtain⟨b,off,rfl,hc⟩:=me r hg hl hr;obtain⟨u,hu,hR⟩:=jw (ν:=ν) (g:=g) ht (b:=b) (off:=off) (by simpa using jx) hc hm;exact⟨rfl,u,by simp[Instr.loadAt,Instr.sureAddr,hu],hR⟩
theorem sk {ν:Nat->Nat} {P:Program} {k:Cx} {g:Gh} (r:Rel ν k g) {t:TypeId} {sz:Nat} {agg:Bool} (ht:fE P t sz agg=true) {v:Value} {x y:AV} {h':Hp} (hv:RA ν g v x)
  (e:(load agg sz x).run g.h=some (y,h')):bf ν k g h' y ((Instr.loadAt t v).run P g.w):=by
 obtain⟨rfl,u,hu,hR⟩:=la r ht hv e;exact .same r hu hR
theorem aI.move {g:Gh} {v:Value} {id ai i j:Nat} {ob:Ob} (hg:get g.h id=some ob) (hv:valid ob ai i=true) (h:aI g v id ai i j) (n:Nat) :
  ∃b off,v = .pointer (some ⟨b,off,none⟩)/\aI g (.pointer (some ⟨b,off+n,none⟩)) id ai i (j+n):=by
 unfold aI at h ⊢;rw[hg]at h ⊢;cases ob with
 |cells cs=>
  obtain⟨rfl,rfl,b,ah,rfl⟩:=h;exact⟨b,j,rfl,rfl,rfl,b,ah,rfl⟩
 |da cs=>
  obtain⟨rfl,rfl,b,ah,rfl⟩:=h;exact⟨b,j,rfl,rfl,rfl,b,ah,rfl⟩
 |buf v' e es=>
  obtain⟨b,ah,rfl⟩:=h.2 (by simpa[valid]using hv);exact⟨b,_,rfl,h.1,λ_=>⟨b,ah,by rw[Nat.add_assoc]⟩⟩
 |bb v' e es=>
  obtain⟨b,ah,rfl⟩:=h.2 (by simpa[valid]using hv);exact⟨b,_,rfl,h.1,λ_=>⟨b,ah,by rw[Nat.add_assoc]⟩⟩
 |map _=>simp[valid]at hv
theorem sm {ν:Nat->Nat} {P:Program} {k:Cx} {g:Gh} (r:Rel ν k g) {s:TypeId} {f off:Nat} (ht:pD P s f off=true) {v:Value} {x y:AV} {h':Hp} (hv:RA ν g v x)
  (e:(cU off x).run g.h=some (y,h')):bf ν k g h' y ((Instr.fieldAt s v f).run P g.w):=by
 unfold pD at ht;split at ht
 ·rename_i fs hu;split at ht
  ·rename_i fd hf;simp only[Bool.and_eq_true,beq_iff_eq]at ht;obtain⟨rfl,bC⟩:=ht;split at bC
   ·rename_i i hi;have bG:¬i.size=0:=by simpa using bC
    have key:∀(b o:Nat),(Instr.fieldAt s (.pointer (some ⟨b,o,none⟩)) f).run P g.w = .ok (.pointer (some ⟨b,o+fd.offset,none⟩)) g.w:=by
     intro b o;simp[Instr.fieldAt,run_underlying hu,hf,Instr.sureAddr,fieldPlace,run_sizeOf hi,bG,Addr.add_lit]
    cases hv with
    |undef=>exact(ae e).elim
    |cI=>exact(ae e).elim
    |agg=>exact(ae e).elim
    |aR=>exact(ae e).elim
    |own=>exact(ae e).elim
    |bJ=>exact(ae e).elim
    |iv hr=>
     cases hr with
     |ptr b o cs f' hI hc hr=>
      obtain⟨-,e2⟩:=M.aj e;obtain⟨rfl,rfl⟩:=af e2;exact .same r (key _ _) (.iv (RI.drop (.ptr b o cs f' hI hc hr)))
     |_=>exact(ae e).elim
    |ref kz hr=>
     obtain⟨ob,hg,e2⟩:=M.aM e;obtain⟨ct,e4⟩:=M.aj e2;obtain⟨rfl,rfl⟩:=af e4;obtain⟨b,o,rfl,hR⟩:=hr.move hg ct fd.offset;exact .same r (key _ _) (.ref rfl hR)
   ·cases bC
  ·cases ht
 ·cases ht
theorem cQ {x:AV} {n:Int} {h h':Hp} (e:(idx x).run h=some (n,h')):h'=h/\∃k,x = .iv (.int k n):=by
 unfold idx at e;split at e
 ·obtain⟨rfl,rfl⟩:=af e;exact⟨rfl,_,rfl⟩
 ·exact(ae e).elim
theorem sn {ν:Nat->Nat} {P:Program} {k:Cx} {g:Gh} (r:Rel ν k g) {t:TypeId} {len e:Nat} (ht:pE P t len e=true) {v u:Value} {x z y:AV} {h':Hp} (hv:RA ν g v x) (hu:RA ν g u z)
  (e':(eD len e x z).run g.h=some (y,h')):bf ν k g h' y ((Instr.indexAt t v u).run P g.w):=by
 obtain⟨el,i,dv,hi,rfl⟩:=re ht;obtain⟨n,h1,e1,e2⟩:=ag e';obtain⟨rfl,kk,rfl⟩:=cQ e1;cases hu with
 |iv hz=>
  cases hz;obtain⟨hn,e4⟩:=M.aj e2;have dJ:0<=n/\n<len:=by simpa using hn
  have key:∀(b o:Nat),(Instr.indexAt t (.pointer (some ⟨b,o,none⟩)) (.int kk n)).run P g.w = .ok (.pointer (some ⟨b,o+n.toNat*i.size,none⟩)) g.w:=by
   intro b o;simp[Instr.indexAt,run_underlying dv,Instr.sureAddr,asIntOf,dJ,run_sizeOf hi,Addr.add_lit]
  cases hv with
  |undef=>exact(ae e4).elim
  |cI=>exact(ae e4).elim
  |agg=>exact(ae e4).elim
  |aR=>exact(ae e4).elim
  |own=>exact(ae e4).elim
  |bJ=>exact(ae e4).elim
  |iv hr=>
   cases hr with
   |ptr b o cs f' hI hc hr=>
    obtain⟨-,e2⟩:=M.aj e4;obtain⟨rfl,rfl⟩:=af e2;exact .same r (key _ _) (.iv (RI.drop (.ptr b o cs f' hI hc hr)))
   |_=>exact(ae e4).elim
  |ref kz hr=>
   obtain⟨ob,hg,e2⟩:=M.aM e4;obtain⟨ct,e4⟩:=M.aj e2;obtain⟨rfl,rfl⟩:=af e4;obtain⟨b,o,rfl,hR⟩:=hr.move hg ct (n.toNat*i.size);exact .same r (key _ _) (.ref rfl hR)
theorem tP {ν:Nat->Nat} {P:Program} {k:Cx} {g:Gh} (r:Rel ν k g) {t:TypeId} {e:Nat} (ht:sliceB P t e=true) {v u:Value} {x z y:AV} {h':Hp} (hv:RA ν g v x) (hu:RA ν g u z)
  (e':(gL e x z).run g.h=some (y,h')):bf ν k g h' y ((Instr.indexAt t v u).run P g.w):=by
 obtain⟨el,i,dv,hi,rfl⟩:=dh ht;obtain⟨n,h1,e1,e2⟩:=ag e';obtain⟨rfl,kk,rfl⟩:=cQ e1;cases hu with
 |iv hz=>
  cases hz;obtain⟨hn,e4⟩:=M.aj e2;have dJ:0<=n:=by simpa using hn
  have key:∀(b o len cap:Nat),n<(len:Int)->(Instr.indexAt t (.slice (some ⟨b,o,none⟩) len cap) (.int kk n)).run P g.w = .ok (.pointer (some ⟨b,o+n.toNat*i.size,none⟩)) g.w:=by
   intro b o len cap aV;simp[Instr.indexAt,run_underlying dv,asIntOf,dJ,aV,run_sizeOf hi,Addr.add_lit]
  cases hv with
  |undef=>exact(ae e4).elim
  |cI=>exact(ae e4).elim
  |agg=>exact(ae e4).elim
  |aR=>exact(ae e4).elim
  |ref=>exact(ae e4).elim
  |bJ=>exact(ae e4).elim
  |iv hr=>
   cases hr with
   |dS a cap aJ=>
    obtain⟨-,e2⟩:=M.aj e4;obtain⟨c,hc,e6⟩:=M.lift_bind e2;simp at hc
   |sl b off m cap aJ es f hI hm eF hl hc hr=>
    obtain⟨he,e2⟩:=M.aj e4;obtain⟨c,bH,e6⟩:=M.lift_bind e2;obtain⟨rfl,rfl⟩:=af e6;have cB:aJ=i.size:=by simpa using he
    subst cB;have aV:n.toNat<es.length:=by
     rcases Nat.lt_or_ge n.toNat es.length with h | h
     ·exact h
     ·rw[List.getElem?_eq_none h]at bH;cases bH
    refine .same r (key b off m cap (by omega)) (.iv (.ptr b _ c (λj=>f n.toNat j) hI (λj x hx=>?_) λj x hx=>hr _ _ _ _ bH hx));exact hc _ _ _ _ bH hx
   |_=>exact(ae e4).elim
  |@own _ id o m ai jU ho=>
   obtain⟨hm,e2⟩:=M.aj e4;obtain⟨ob,hg,e5⟩:=M.aM e2;have c8:n<(m:Int):=by simpa using hm
   unfold aH at ho;rw[hg]at ho;have fin:∀{v' aJ L:Nat} {ob:Ob},get g.h id=some ob->(∃es,ob = .buf v' aJ es\/∃xs,ob = .bb v' aJ xs)->v'=ai->aJ=i.size->cF g.w (g.φ id) aJ L o m v->
     bf ν k g g.h (.ref id ai (o+n.toNat) 0) ((Instr.indexAt t v (.int kk n)).run P g.w):=by
    intro v' aJ L ob dg de hv he hs;cases ah:g.φ id with
    |none=>rw[ah]at hs;obtain⟨_,rfl,_⟩:=hs;omega
    |some b=>
     rw[ah]at hs;obtain⟨x,cap,rfl,h2,_,h3,h4,_⟩:=hs;have hx:x=o*aJ:=h4.resolve_right λh=>by have:=h.1;omega
     subst hx he;refine .same r (key b _ m cap c8) (.ref rfl ?_);unfold aI;rw[dg];obtain⟨es,rfl | ⟨xs,rfl⟩⟩:=de<;>exact⟨Nat.le_of_eq hv.symm,λ_=>⟨b,ah,by rw[Nat.add_mul];rfl⟩⟩
   have Dd:∀{L:Nat} {ob:Ob},get g.h id=some ob->(∃cs,ob = .cells cs\/∃xs,ob = .da xs)->1=i.size->cF g.w (g.φ id) 1 L o m v->
     bf ν k g g.h (.ref id 0 0 (o+n.toNat)) ((Instr.indexAt t v (.int kk n)).run P g.w):=by
    intro L ob dg de he hs;cases ah:g.φ id with
    |none=>rw[ah]at hs;obtain⟨_,rfl,_⟩:=hs;omega
    |some b=>
     rw[ah]at hs;obtain⟨x,cap,rfl,h2,_,h3,h4,_⟩:=hs;have hx:x=o*1:=h4.resolve_right λh=>by have:=h.1;omega
     subst hx;refine .same r (key b _ m cap c8) (.ref rfl ?_);unfold aI;rw[dg];rw[<-he];obtain⟨es,rfl | ⟨xs,rfl⟩⟩:=de<;>exact⟨rfl,rfl,b,ah,by simp⟩
   cases ob with
   |cells cs=>
    obtain⟨cz,e7⟩:=M.aj e5;obtain⟨rfl,rfl⟩:=af e7;simp only[Bool.and_eq_true,beq_iff_eq]at cz;exact Dd hg ⟨cs,.inl rfl⟩ cz.2.symm ho.2
   |da cs=>
    obtain⟨cz,e7⟩:=M.aj e5;obtain⟨rfl,rfl⟩:=af e7;simp only[Bool.and_eq_true,beq_iff_eq]at cz;exact Dd hg ⟨[],.inr ⟨cs,rfl⟩⟩ cz.2.symm ho.2
   |buf v' aJ es=>
    obtain⟨cz,e7⟩:=M.aj e5;obtain⟨rfl,rfl⟩:=af e7;simp only[Bool.and_eq_true,beq_iff_eq]at cz;exact fin hg ⟨es,.inl rfl⟩ cz.1 cz.2 (ho.2 cz.1)
   |bb v' aJ es=>
    obtain⟨cz,e7⟩:=M.aj e5;obtain⟨rfl,rfl⟩:=af e7;simp only[Bool.and_eq_true,beq_iff_eq]at cz;exact fin hg ⟨[],.inr ⟨es,rfl⟩⟩ cz.1 cz.2 (ho.2 cz.1)
   |map _=>exact ho.elim
end au

/-
  A part of the proof: two abstract machines for the code, and what the program does on them. No condition.
-/
import Derived.Test.YtklekjmebeadoaaGreatDoorArbB
set_option linter.all false
namespace au
open Go Go.RowKit al
section
variable {ν:Nat->Nat} {P:Program} {k:Cx} {g:Gh}
theorem RA.int {v:Value} {kk:IntKind} {n:Int} (h:RA ν g v (.iv (.int kk n))):v = .int kk n:=by cases h with | iv h=>cases h;rfl
theorem RA.bool {v:Value} {b:Bool} (h:RA ν g v (.iv (.bool b))):v = .bool b:=by cases h with | iv h=>cases h;rfl
theorem RA.str {v:Value} {s:ByteArray} (h:RA ν g v (.iv (.str s))):v = .string s:=by cases h with | iv h=>cases h;rfl
theorem RA.bh {v:Value} (h:RA ν g v (.iv .bh)):v = .pointer none:=by cases h with | iv h=>cases h;rfl
theorem RA.ptr {v:Value} {cs:List IV} (h:RA ν g v (.iv (.ptr cs))):∃b off,v = .pointer (some ⟨b,off,none⟩):=by cases h with | iv h=>cases h;exact⟨_,_,rfl⟩
theorem mkInt {kk:IntKind} {n:Int}:RA ν g (.int kk n) (.iv (.int kk n)):=.iv (.int _ _)
theorem bO {b:Bool}:RA ν g (.bool b) (.iv (.bool b)):=.iv (.bool _)
theorem mkStr {s:ByteArray}:RA ν g (.string s) (.iv (.str s)):=.iv (.str _)
theorem jZ {t:TypeId} {sz off:Nat} {agg:Bool} (ht:fE P t sz agg=true) {vs:Array Value} {cs:List AV} (hv:RA ν g (.agg vs) (.agg cs)) (hl:((cs.drop off).take sz).length=sz)
  {r:AV} (hr:agg=true/\r = .agg ((cs.drop off).take sz)\/agg=false/\(cs.drop off).take sz=[r]) (w:World):∃v,(part t vs off).run P w = .ok v w/\RA ν g v r:=by
 obtain⟨d,i,hu,hi,ha,hs,h1⟩:=cZ ht;subst hs;cases hv with
 |agg hn ho fF=>
  have cK:off+i.size<=cs.length\/i.size=0:=by simp only[List.length_take,List.length_drop]at hl;omega
  rcases hr with⟨dq,rfl⟩|⟨dq,hr⟩
  ·have key:∀(j:Nat) (v:Value),(vs.extract off (off+i.size))[j]?=some v->vs[off+j]?=some v/\j<i.size:=by
    intro j v h;rw[Array.getElem?_extract]at h;split at h
    ·exact⟨h,by omega⟩
    ·cases h
   refine⟨.agg (vs.extract off (off+i.size)),by simp[part,cH hu,ha,dq,run_sizeOf hi],.agg (by simp only[Array.size_extract,hl];omega) (λj v h=>ho _ v (key j v h).1) λj v c h h2=>?_⟩;obtain⟨h',aV⟩:=key j v h;rw[List.getElem?_take,if_pos aV,List.getElem?_drop]at h2;exact fF _ v c h' h2
  ·have hz:i.size=1:=h1 dq;have hc:cs[off]?=some r:=by
    have:((cs.drop off).take i.size)[0]?=some r:=by rw[hr];rfl
    rw[List.getElem?_take,if_pos (by omega),List.getElem?_drop]at this;simpa using this
   have aV:off<vs.size:=by omega
   refine⟨vs[off],by simp[part,cH hu,ha,dq,Array.getElem?_eq_getElem aV],fF off _ r (Array.getElem?_eq_getElem aV) hc⟩
theorem mV {agg:Bool} {off sz:Nat} {x y:AV} {h h':Hp} (e:(fC agg off sz x).run h=some (y,h')) :
  h'=h/\∃cs,x = .agg cs/\((cs.drop off).take sz).length=sz/\(agg=true/\y = .agg ((cs.drop off).take sz)\/agg=false/\(cs.drop off).take sz=[y]):=by
 unfold fC at e;split at e
 ·rename_i cs;obtain⟨hl,e2⟩:=M.aj e;obtain⟨rfl,hm⟩:=ij e2;exact⟨rfl,cs,rfl,by simpa using hl,hm⟩
 ·exact(ae e).elim
theorem RA.dN {v:Value} {cs:List AV} (h:RA ν g v (.agg cs)):∃vs,v = .agg vs:=by cases h;exact⟨_,rfl⟩
theorem tQ (r:Rel ν k g) {s:TypeId} {f off sz:Nat} {agg:Bool} (ht:sq P s f agg off sz=true) {v:Value} {x y:AV} {h':Hp} (hv:RA ν g v x)
  (e:(fC agg off sz x).run g.h=some (y,h')):bf ν k g h' y ((Instr.field s v f).run P g.w):=by
 unfold sq at ht;split at ht
 ·rename_i fs hu;split at ht
  ·rename_i fd hf;simp only[Bool.and_eq_true,beq_iff_eq]at ht;obtain⟨rfl,ht⟩:=ht;obtain⟨rfl,cs,rfl,hl,hm⟩:=mV e;obtain⟨vs,rfl⟩:=hv.dN;obtain⟨u,dv,hR⟩:=jZ ht hv hl hm g.w;exact .same r (by simp[Instr.field,run_underlying hu,hf,asAgg,dv]) hR
  ·cases ht
 ·cases ht
theorem sr (r:Rel ν k g) {t:TypeId} {len e:Nat} {agg:Bool} (ht:pF P t agg len e=true) {v u:Value} {x z y:AV} {h':Hp} (hv:RA ν g v x) (hu:RA ν g u z)
  (e':(eP agg len e x z).run g.h=some (y,h')):bf ν k g h' y ((Instr.index t v u).run P g.w):=by
 unfold pF at ht;split at ht
 ·rename_i n el dv;simp only[Bool.and_eq_true,beq_iff_eq]at ht;obtain⟨rfl,ht⟩:=ht;obtain⟨m,h1,e1,e2⟩:=ag e';obtain⟨rfl,kk,rfl⟩:=cQ e1;obtain rfl:=hu.int;obtain⟨hm,e4⟩:=M.aj e2;have c8:0<=m/\m<n:=by simpa using hm
  obtain⟨rfl,cs,rfl,hl,tR⟩:=mV e4;obtain⟨vs,rfl⟩:=hv.dN;obtain⟨d,i,_,hi,_,hs,_⟩:=cZ ht;obtain⟨u,zR,hR⟩:=jZ ht hv hl tR g.w;exact .same r (by simp[Instr.index,run_underlying dv,asIntOf,c8,run_sizeOf hi,hs,zR]) hR
 ·cases ht
theorem su (r:Rel ν k g) {t:TypeId} (ht:P.underlying t=some .string) {v u:Value} {x z y:AV} {h':Hp} (hv:RA ν g v x) (hu:RA ν g u z)
  (e:(fK x z).run g.h=some (y,h')):bf ν k g h' y ((Instr.index t v u).run P g.w):=by
 unfold fK at e;split at e
 ·rename_i s kk n;obtain rfl:=hv.str;obtain rfl:=hu.int;obtain⟨hn,e2⟩:=M.aj e;have dJ:0<=n:=by simpa using hn
  split at e2
  ·rename_i b hb;obtain⟨rfl,rfl⟩:=af e2;exact .same r (by simp[Instr.index,run_underlying ht,asIntOf,dJ,hb]) mkInt
  ·exact(ae e2).elim
 ·exact(ae e).elim
theorem oq {op:BinOp} {t:TypeId} {kk k':IntKind} {a b:Int} {z:IV} (h:dZ op kk k' a b=some z) (w:World) :
  ∃v,(binOp op t (.int kk a) (.int k' b)).run P w = .ok v w/\RI ν g.I g.w v z:=by
 cases op
 case shl=>
  simp only[dZ]at h;split at h
  ·cases h
  ·rename_i hb;cases h;exact⟨_,by simp[binOp,Op.shift,hb],.int _ _⟩
 case shr=>
  simp only[dZ]at h;split at h
  ·cases h
  ·rename_i hb;cases h;exact⟨_,by simp[binOp,Op.shift,hb],.int _ _⟩
 all_goals
  simp only[dZ]at h;split at h
  case isFalse=>cases h
  rename_i hk;subst hk
 case quo=>
  split at h
  ·cases h
  ·rename_i hb;cases h;exact⟨_,by simp[binOp,Op.intDiv,hb],.int _ _⟩
 case rem=>
  split at h
  ·cases h
  ·rename_i hb;cases h;exact⟨_,by simp[binOp,Op.intDiv,hb],.int _ _⟩
 all_goals cases h
 case add | sub | mul=>exact⟨_,by simp[binOp,Op.intArith],.int _ _⟩
 case and | or | xor | andNot=>exact⟨_,by simp[binOp];rfl,.int _ _⟩
 all_goals exact⟨_,by simp[binOp,Op.intCmp],.bool _⟩
theorem ot {op:BinOp} {t:TypeId} {a b:ByteArray} {z:IV} (h:iI op a b=some z) (w:World) :
  ∃v,(binOp op t (.string a) (.string b)).run P w = .ok v w/\RI ν g.I g.w v z:=by
 cases op<;>simp only[iI]at h<;>(try cases h)
 case add=>
  split at h
  ·rename_i hb;cases h;refine⟨.string (a++b),?_,.str _⟩;have:¬(9223372036854775807:Int)<((a.size:Int)+b.size):=by omega
   simp[binOp,Op.stringOp,this]
  ·cases h
 all_goals exact⟨_,by simp[binOp,Op.stringOp,pB,beq_toListBytes],.bool _⟩
theorem RA.G2 {v:Value} {f:Nat} {fs cs:List AV} (h:RA ν g v (.bJ f fs cs)):∃f c1 c2,v = .func f c1 c2:=by cases h;exact⟨_,_,_,rfl⟩
theorem RA.J1 {v:Value} {f:Nat} {cs:List IV} (h:RA ν g v (.iv (.fn f cs))):∃f c1 c2,v = .func f c1 c2:=by cases h with | iv h=>cases h;exact⟨_,_,_,rfl⟩
def qD (P:Program) (t:TypeId) (q:Nat):Bool:=
 match q with
 |0=>true
 |1=>(match P.underlying t with | some .bool=>true | _=>false)
 |2=>(match P.underlying t with | some (.pointer el)=>(P.info? el).isSome | _=>false)
 |3=>(match P.underlying t with | some (.func _ _ _)=>true | _=>false)
 |_=>true
theorem tS (r:Rel ν k g) {op:BinOp} {t:TypeId} {q:Nat} (ht:qD P t q=true) {a b:Operand} {v u:Value} {x z:AV} {y:IV} (hv:RA ν g v x) (hu:RA ν g u z) (e:bin op q x z=some y) :
  bf ν k g g.h (.iv y) ((do eqGuard op t a b v u;binOp op t v u:Sem Value).run P g.w):=by
 unfold bin at e;split at e
 ·obtain rfl:=hv.int;obtain rfl:=hu.int;obtain⟨w',h1,h2⟩:=oq (ν:=ν) (P:=P) (g:=g) (t:=t) e g.w;exact .same r (by simp[eqGuard_at_int,h1]) (.iv h2)
 ·obtain rfl:=hv.str;obtain rfl:=hu.str;obtain⟨w',h1,h2⟩:=ot (ν:=ν) (P:=P) (g:=g) (t:=t) e g.w;exact .same r (by simp[eqGuard_at_string,h1]) (.iv h2)
 ·obtain rfl:=hv.bool;obtain rfl:=hu.bool;have dC:P.underlying t=some .bool:=by
   simp only[qD]at ht;split at ht
   ·assumption
   ·cases ht
  split at e
  ·cases e;exact .same r (by simp only[Sem.run_bind,eqGuard_at_bool,Sem.run_pure,Result.andThen_ok];exact run_eql_bool _ _ _ _ dC) bO
  ·cases e;refine .same r (v:=.bool (!_)) ?_ bO;simp only[Sem.run_bind,eqGuard_at_bool,Sem.run_pure,Result.andThen_ok,binOp];simp[run_equal_bool g.w t _ _ dC]
  ·cases e
 case h_10=>cases e
 case h_4 | h_5 | h_6=>
  have dC:∃el,P.underlying t=some (.pointer el):=by
   simp only[qD]at ht;split at ht
   ·exact⟨_,by assumption⟩
   ·cases ht
  obtain⟨el,dC⟩:=dC
  first
  |obtain rfl:=hv.bh
   obtain rfl:=hu.bh;have key:=ik (P:=P) (λd w=>mf d dC w) a b g.w;split at e
   ·cases e;exact .same r key.1 bO
   ·cases e;exact .same r key.2 bO
   ·cases e
  |obtain⟨b',off,rfl⟩:=hv.ptr
   obtain rfl:=hu.bh;have key:=ik (P:=P) (λd w=>iV d dC ⟨b',off,none⟩ w) a b g.w;split at e
   ·cases e;exact .same r key.1 bO
   ·cases e;exact .same r key.2 bO
   ·cases e
  |obtain rfl:=hv.bh
   obtain⟨b',off,rfl⟩:=hu.ptr;have key:=ik (P:=P) (λd w=>iW d dC ⟨b',off,none⟩ w) a b g.w;split at e
   ·cases e;exact .same r key.1 bO
   ·cases e;exact .same r key.2 bO
   ·cases e
 all_goals
  have dC:∃p1 p2 p3,P.underlying t=some (.func p1 p2 p3):=by
   simp only[qD]at ht;split at ht
   ·exact⟨_,_,_,by assumption⟩
   ·cases ht
  obtain⟨p1,p2,p3,dC⟩:=dC;have nn:∀(d:Nat) (w:World),(Op.equalIn (d+1) t .nilFunc .nilFunc).run P w = .ok true w:=λd w=>by simp[Op.equalIn,run_underlying dC]
  have fn:∀(f:Fn) (c1 c2:Array Value) (d:Nat) (w:World),(Op.equalIn (d+1) t (.func f c1 c2) .nilFunc).run P w = .ok false w:=λf c1 c2 d w=>by simp[Op.equalIn,run_underlying dC]
  have key:∀{c d:Value} {z:Bool},(∀(d':Nat) (w:World),(Op.equalIn (d'+1) t c d).run P w = .ok z w)->(eqGuard .eql t a b c d).run P g.w = .ok () g.w->(eqGuard .neq t a b c d).run P g.w = .ok () g.w->
    (binOp .eql t c d=(do pure (.bool (<-Op.equal t c d)):Sem Value))->(binOp .neq t c d=(do pure (.bool (!(<-Op.equal t c d))):Sem Value))->
    ((do eqGuard .eql t a b c d;binOp .eql t c d:Sem Value).run P g.w = .ok (.bool z) g.w)/\((do eqGuard .neq t a b c d;binOp .neq t c d:Sem Value).run P g.w = .ok (.bool (!z)) g.w):=by
   intro c d z h g1 g2 b1 b2;have h':(Op.equal t c d).run P g.w = .ok z g.w:=h 9999 g.w;constructor
   ·simp only[Sem.run_bind,g1,Result.andThen_ok,b1,h',Sem.run_pure]
   ·simp only[Sem.run_bind,g2,Result.andThen_ok,b2,h',Sem.run_pure]
  first
  |obtain rfl:v = .nilFunc:=by cases hv with | cI h=>exact h
   obtain rfl:u = .nilFunc:=by cases hu with | cI h=>exact h
   have key:=key nn (by simp[eqGuard]) (by simp[eqGuard]) rfl rfl;split at e
   ·cases e;exact .same r key.1 bO
   ·cases e;exact .same r key.2 bO
   ·cases e
  |obtain⟨f,c1,c2,rfl⟩:∃f c1 c2,v = .func f c1 c2:=hv.G2
   obtain rfl:u = .nilFunc:=by cases hu with | cI h=>exact h
   have key:=key (fn f c1 c2) (by simp[eqGuard]) (by simp[eqGuard]) rfl rfl;split at e
   ·cases e;exact .same r key.1 bO
   ·cases e;exact .same r key.2 bO
   ·cases e
  |obtain⟨f,c1,c2,rfl⟩:∃f c1 c2,v = .func f c1 c2:=hv.J1
   obtain rfl:u = .nilFunc:=by cases hu with | cI h=>exact h
   have key:=key (fn f c1 c2) (by simp[eqGuard]) (by simp[eqGuard]) rfl rfl;split at e
   ·cases e;exact .same r key.1 bO
   ·cases e;exact .same r key.2 bO
   ·cases e
theorem sP {id ai i j:Nat} {ob:Ob} (hg:get g.h id=some ob) (hv:valid ob ai i=true) {v:Value} (h:aI g v id ai i j):∃b off,v = .pointer (some ⟨b,off,none⟩)/\∀v',aI g v' id ai i j->v'=v:=by
 unfold aI at h;rw[hg]at h;have key:∀v',aI g v' id ai i j->_:=λv' h'=>by unfold aI at h';rw[hg]at h';exact h'
 cases ob with
 |cells cs=>
  obtain⟨rfl,rfl,b,ah,rfl⟩:=h;refine⟨b,j,rfl,λv' h'=>?_⟩;obtain⟨_,_,b',aO,rfl⟩:=key v' h';rw[ah]at aO;cases aO;rfl
 |da cs=>
  obtain⟨rfl,rfl,b,ah,rfl⟩:=h;refine⟨b,j,rfl,λv' h'=>?_⟩;obtain⟨_,_,b',aO,rfl⟩:=key v' h';rw[ah]at aO;cases aO;rfl
 |buf v' e es=>
  have df:v'=ai:=by simpa[valid]using hv
  obtain⟨b,ah,rfl⟩:=h.2 df;refine⟨b,_,rfl,λv' h'=>?_⟩;obtain⟨b',aO,rfl⟩:=(key v' h').2 df;rw[ah]at aO;cases aO;rfl
 |bb v' e es=>
  have df:v'=ai:=by simpa[valid]using hv
  obtain⟨b,ah,rfl⟩:=h.2 df;refine⟨b,_,rfl,λv' h'=>?_⟩;obtain⟨b',aO,rfl⟩:=(key v' h').2 df;rw[ah]at aO;cases aO;rfl
 |map _=>simp[valid]at hv
theorem qE (d:Nat) {t el:TypeId} {i:TypeInfo} (h:P.underlying t=some (.pointer el)) (hi:P.info? el=some i) (b off:Nat) (w:World):(Op.equalIn (d+1) t (.pointer (some ⟨b,off,none⟩)) (.pointer (some ⟨b,off,none⟩))).run P w = .ok true w:=by
 simp[Op.equalIn,run_underlying h,run_sizeOf hi,sameAddr]
theorem BI (r:Rel ν k g) {op:BinOp} {t:TypeId} {q:Nat} (ht:qD P t q=true) {a b:Operand} {v u:Value} {x z y:AV} {h':Hp} (hv:RA ν g v x) (hu:RA ν g u z) (e:(o7 op q x z).run g.h=some (y,h')) :
  bf ν k g h' y ((do eqGuard op t a b v u;binOp op t v u:Sem Value).run P g.w):=by
 have tp:q=2->∃el i,P.underlying t=some (.pointer el)/\P.info? el=some i:=by
  rintro rfl;simp only[qD]at ht;split at ht
  ·obtain⟨i,hi⟩:=Option.isSome_iff_exists.1 ht;exact⟨_,i,by assumption,hi⟩
  ·cases ht
 unfold o7 at e;split at e
 ·obtain⟨el,ii,dC,oB⟩:=tp rfl;obtain⟨ob,hg,e2⟩:=M.aM e;obtain⟨ct,e4⟩:=M.aj e2;obtain rfl:=hu.bh;cases hv with
  |ref _ hr=>
   obtain⟨b',off,rfl, -⟩:=sP hg ct hr;have key:=ik (P:=P) (λd w=>iV d dC ⟨b',off,none⟩ w) a b g.w;split at e4
   ·obtain⟨rfl,rfl⟩:=af e4;exact .same r key.1 bO
   ·obtain⟨rfl,rfl⟩:=af e4;exact .same r key.2 bO
   ·exact(ae e4).elim
 ·obtain⟨el,ii,dC,oB⟩:=tp rfl;obtain⟨ob,hg,e2⟩:=M.aM e;obtain⟨ct,e4⟩:=M.aj e2;obtain rfl:=hv.bh;cases hu with
  |ref _ hr=>
   obtain⟨b',off,rfl, -⟩:=sP hg ct hr;have key:=ik (P:=P) (λd w=>iW d dC ⟨b',off,none⟩ w) a b g.w;split at e4
   ·obtain⟨rfl,rfl⟩:=af e4;exact .same r key.1 bO
   ·obtain⟨rfl,rfl⟩:=af e4;exact .same r key.2 bO
   ·exact(ae e4).elim
 ·rename_i id ai i j bY Db i' j';obtain⟨el,ii,dC,oB⟩:=tp rfl;obtain⟨ob,hg,e2⟩:=M.aM e;obtain⟨ct,e4⟩:=M.aj e2;simp only[Bool.and_eq_true,beq_iff_eq]at ct;obtain⟨⟨⟨⟨ct,rfl⟩,rfl⟩,rfl⟩,rfl⟩:=ct;cases hv with
  |ref _ hr=>
   obtain⟨b',off,rfl,xq⟩:=sP hg ct hr;cases hu with
   |ref _ fW=>
    obtain rfl:=xq _ fW;have key:=ik (P:=P) (λd w=>qE d dC oB b' off w) a b g.w;split at e4
    ·obtain⟨rfl,rfl⟩:=af e4;exact .same r key.1 bO
    ·obtain⟨rfl,rfl⟩:=af e4;exact .same r key.2 bO
    ·exact(ae e4).elim
 ·obtain⟨y',hb,e2⟩:=M.lift_bind e;obtain⟨rfl,rfl⟩:=af e2;exact tS r ht hv hu hb
theorem lq {q:Nat} {t:TypeId} {x y:AV} {b:Bool} (e:jt q x y=some b) (ht:dy q (P.underlying t)=true) {v u:Value} (hv:RA ν g v x) (hu:RA ν g u y) (d:Nat) (w:World) :
  (Op.equalIn (d+1) t v u).run P w = .ok b w:=by
 unfold jt at e;split at e
 ·obtain rfl:=hv.int;obtain rfl:=hu.int;obtain⟨kk,h1⟩:=nH ht;simp only[Option.ite_none_right_eq_some,Option.some.injEq]at e;obtain⟨hk,rfl⟩:=e;subst hk;exact run_equalIn_int w d t _ _ _ _ h1
 ·cases e;obtain rfl:=hv.bool;obtain rfl:=hu.bool;exact run_equalIn_bool w d t _ _ (mg ht)
 ·cases e;obtain rfl:=hv.str;obtain rfl:=hu.str;rw[run_equalIn_string w d t _ _ (nJ ht),beq_toListBytes]
 ·cases e
theorem RA.dO {vs:Array Value} {cs:List AV} (h:RA ν g (.agg vs) (.agg cs)) (j:Nat) (c:AV) (hc:cs[j]?=some c):∃v,vs[j]?=some v/\RA ν g v c:=by
 cases h with
 |agg hn _ hr=>
  have hj:j<cs.length:=by
   rcases Nat.lt_or_ge j cs.length with h' | h'
   ·exact h'
   ·rw[List.getElem?_eq_none h']at hc;cases hc
  exact⟨vs[j],Array.getElem?_eq_getElem (by omega),hr j _ c (Array.getElem?_eq_getElem (by omega)) hc⟩
theorem xb (r:Rel ν k g) {op:UnOp} {v:Value} {x:AV} {y:IV} (hv:RA ν g v x) (e:un op x=some y):bf ν k g g.h (.iv y) ((Op.unary op v).run P g.w):=by
 unfold un at e;split at e
 ·obtain rfl:=hv.int;split at e
  ·cases e;exact .same r (by simp[Op.unary,Op.intArith]) mkInt
  ·cases e;exact .same r (v:=.int _ _) (by simp only[Op.unary,intBits_xor];rfl) mkInt
  ·cases e
 ·obtain rfl:=hv.bool;split at e
  ·cases e;exact .same r (by simp[Op.unary]) bO
  ·cases e
 ·cases e
theorem tU (r:Rel ν k g) {s d:TypeId} {kk:IntKind} (ht:sv P s d kk=true) {v:Value} {x:AV} {n:Int} {h':Hp} (hv:RA ν g v x) (e:(idx x).run g.h=some (n,h')) :
  bf ν k g g.h (.iv (.int kk (kk.wrap n))) ((convert s d v).run P g.w):=by
 obtain⟨_,k',rfl⟩:=cQ e;obtain rfl:=hv.int;unfold sv at ht;simp only[Bool.and_eq_true]at ht;obtain⟨h1,h2⟩:=ht;obtain⟨sd,hs⟩:=Option.isSome_iff_exists.1 h1;split at h2
 ·rename_i yr hd;have:yr=kk:=by simpa using h2
  subst this;exact .same r (by simp[convert,run_underlying hs,run_underlying hd,Conv.intToInt]) mkInt
 ·cases h2
theorem tV (r:Rel ν k g) {s d:TypeId} (hs:P.underlying s=some .string) (hd:P.underlying d=some .string) {v:Value} {t:ByteArray} (hv:RA ν g v (.iv (.str t))) :
  bf ν k g g.h (.iv (.str t)) ((convert s d v).run P g.w):=by
 obtain rfl:=hv.str;exact .same r (by simp[convert,run_underlying hs,run_underlying hd]) mkStr
end
section
variable {ν:Nat->Nat} {P:Program} {k:Cx} {g:Gh}
def RO (ν:Nat->Nat) (g:Gh):Option Value->Option AV->Prop
 |none,none=>True
 |some v,some x=>RA ν g v x
 |_,_=>False
theorem gR {y:Nat} {o:Option AV} {n:Option Nat} {h h':Hp} (e:(bound y o).run h=some (n,h')) {c:Option Value} (hc:RO ν g c o) :
  h'=h/\(o=none/\n=none/\c=none\/∃(kk:IntKind) (m:Nat),c=some (.int kk m)/\m<=y/\n=some m):=by
 unfold bound at e;split at e
 ·obtain⟨rfl,rfl⟩:=af e;cases c with
  |none=>exact⟨rfl,.inl ⟨rfl,rfl,rfl⟩⟩
  |some v=>exact hc.elim
 ·rename_i kk m;obtain⟨hm,e2⟩:=M.aj e;obtain⟨rfl,rfl⟩:=af e2;have c8:0<=m/\m<=y:=by simpa using hm
  cases c with
  |none=>exact hc.elim
  |some v=>
   obtain rfl:=RA.int hc;exact⟨rfl,.inr ⟨kk,m.toNat,by rw[Int.toNat_of_nonneg c8.1],by omega,rfl⟩⟩
 ·exact(ae e).elim
theorem cV {n y cap:Nat} (hy:n<=y) (eF:y<=cap) {lo hi:Option AV} {cl ch:Option Value} {l h:Option Nat} {g0 g1 g2:Hp} (dD:Bool)
  (eh:(bound y hi).run g0=some (h,g1)) (el:(bound (h.getD n) lo).run g1=some (l,g2)) (hh:RO ν g ch hi) (hl:RO ν g cl lo) (w:World) :
  g2=g0/\l.getD 0<=h.getD n/\h.getD n<=y/\(Instr.sliceBounds dD n cap cl ch none).run P w = .ok (l.getD 0,h.getD n,cap) w:=by
 obtain⟨rfl,h1⟩:=gR eh hh;obtain⟨rfl,h2⟩:=gR el hl;refine⟨rfl,?_⟩;rcases h1 with⟨-,rfl,rfl⟩|⟨k1,m1,rfl,gS,rfl⟩
 ·rcases h2 with⟨-,rfl,rfl⟩|⟨k2,m2,rfl,gT,rfl⟩
  ·simp[Instr.sliceBounds,hy]
  ·simp only[Option.getD_none]at gT;have:(Instr.sliceBound (.int k2 m2) n .sliceB).run P w = .ok m2 w:=by simp[Instr.sliceBound,asIntOf,gT]
   simp[Instr.sliceBounds,this,gT,hy]
 ·have hs:∀c,(Instr.sliceBound (.int k1 m1) cap c).run P w = .ok m1 w:=λc=>by
   have:m1<=cap:=by omega
   simp[Instr.sliceBound,asIntOf,this]
  rcases h2 with⟨-,rfl,rfl⟩|⟨k2,m2,rfl,gT,rfl⟩
  ·simp[Instr.sliceBounds,hs,gS]
  ·simp only[Option.getD_some]at gT;have:(Instr.sliceBound (.int k2 m2) m1 .sliceB).run P w = .ok m2 w:=by simp[Instr.sliceBound,asIntOf,gT]
   simp[Instr.sliceBounds,hs,this,gT,gS]
theorem aH.row {id o n ai e L:Nat} {ob:Ob} (hg:get g.h id=some ob) (hl:kK ob ai e=some L) {v:Value} (h:aH g v id o n ai) :
  cF g.w (g.φ id) e L o n v/\∀v' o' n',cF g.w (g.φ id) e L o' n' v'->aH g v' id o' n' ai:=by
 unfold aH at h;rw[hg]at h;cases ob with
 |buf v' e' es=>
  simp only[kK]at hl;split at hl
  ·rename_i hh;cases hl;obtain⟨rfl,rfl⟩:=hh;exact⟨h.2 rfl,λv2 o' n' hs=>by unfold aH;rw[hg];exact⟨Nat.le_refl _,λ_=>hs⟩⟩
  ·cases hl
 |bb v' e' es=>
  simp only[kK]at hl;split at hl
  ·rename_i hh;cases hl;obtain⟨rfl,rfl⟩:=hh;exact⟨h.2 rfl,λv2 o' n' hs=>by unfold aH;rw[hg];exact⟨Nat.le_refl _,λ_=>hs⟩⟩
  ·cases hl
 |cells cs=>
  simp only[kK]at hl;split at hl
  ·rename_i hh;cases hl;obtain⟨rfl,rfl⟩:=hh;exact⟨h.2,λv2 o' n' hs=>by unfold aH;rw[hg];exact⟨rfl,hs⟩⟩
  ·cases hl
 |da cs=>
  simp only[kK]at hl;split at hl
  ·rename_i hh;cases hl;obtain⟨rfl,rfl⟩:=hh;exact⟨h.2,λv2 o' n' hs=>by unfold aH;rw[hg];exact⟨rfl,hs⟩⟩
  ·cases hl
 |map _=>exact h.elim
theorem dA {t el:TypeId} {i:TypeInfo} (hu:P.underlying t=some (.slice el)) (hi:P.info? el=some i) {a:Option Addr} {n cap l h:Nat} {cl ch:Option Value} {w:World}
  (hb:(Instr.sliceBounds true n cap cl ch none).run P w = .ok (l,h,cap) w) :
  (Instr.sliceAt t (.slice a n cap) cl ch none).run P w = .ok (.slice (if cap=l then a else a.map (·.add (l*i.size))) (h - l) (cap - l)) w:=by
 have:(Instr.slice t (.slice a n cap) cl ch none).run P w = .ok (.slice (if cap=l then a else a.map (·.add (l*i.size))) (h - l) (cap - l)) w:=by
  simp[Instr.slice,run_underlying hu,hb,run_sizeOf hi]
 simp[Instr.sliceAt,run_underlying hu,this]
theorem tW (r:Rel ν k g) {t:TypeId} {e:Nat} (ht:sliceB P t e=true) {v:Value} {cl ch:Option Value} {x y:AV} {lo hi:Option AV} {h':Hp} (hv:RA ν g v x) (hl:RO ν g cl lo) (hh:RO ν g ch hi)
  (e':(gM e x lo hi).run g.h=some (y,h')):bf ν k g h' y ((Instr.sliceAt t v cl ch none).run P g.w):=by
 obtain⟨el,i,hu,bX,rfl⟩:=dh ht;cases hv with
 |undef=>exact(ae e').elim
 |cI=>exact(ae e').elim
 |agg=>exact(ae e').elim
 |aR=>exact(ae e').elim
 |ref=>exact(ae e').elim
 |bJ=>exact(ae e').elim
 |iv hr=>
  cases hr with
  |az a aJ=>
   obtain⟨hb,h2,e3,e4⟩:=ag e';obtain⟨lb,h3,e5,e6⟩:=ag e4;obtain⟨rfl,h4,h5,h6⟩:=cV (ν:=ν) (g:=g) (P:=P) (n:=0) (y:=0) (cap:=0) (Nat.le_refl _) (Nat.le_refl _) true e3 e5 hh hl g.w;obtain⟨rfl,rfl⟩:=af e6;have hz:hb.getD 0=0:=by omega
   have ov:lb.getD 0=0:=by omega
   refine .same r (dA hu bX h6) (.iv ?_);simp only[hz,ov,Nat.sub_zero,if_true];exact .az _ _
  |dS a cap aJ=>
   obtain⟨-,e2⟩:=M.aj e';obtain⟨hb,h2,e3,e4⟩:=ag e2;obtain⟨lb,h3,e5,e6⟩:=ag e4;obtain⟨rfl,h4,h5,h6⟩:=cV (ν:=ν) (g:=g) (P:=P) (n:=0) (y:=0) (cap:=cap) (Nat.le_refl _) (Nat.zero_le _) true e3 e5 hh hl g.w;obtain⟨rfl,rfl⟩:=af e6;simp only[List.length_nil]at *;have hz:hb.getD 0=0:=by omega
   have ov:lb.getD 0=0:=by omega
   refine .same r (dA hu bX h6) (.iv ?_);simp only[hz,ov,List.take_nil,List.drop_nil,Nat.sub_zero];exact .dS _ _ _
  |sl b off n cap aJ es f hI hn eF lr hc hr=>
   obtain⟨he,e2⟩:=M.aj e';obtain⟨hb,h2,e3,e4⟩:=ag e2;obtain⟨lb,h3,e5,e6⟩:=ag e4;subst hn;obtain⟨rfl,h4,h5,h6⟩:=cV (ν:=ν) (g:=g) (P:=P) (Nat.le_refl _) eF true e3 e5 hh hl g.w;obtain⟨rfl,rfl⟩:=af e6;have cB:aJ=i.size:=by simpa using he
   subst cB;refine .same r (dA hu bX h6) (.iv ?_);generalize lb.getD 0=l at *;generalize hb.getD es.length=h at *;by_cases Cp:l=h
   ·subst Cp;have:(es.take l).drop l=[]:=by simp
    rw[this,Nat.sub_self];exact .dS _ _ _
   ·have bG:¬cap=l:=by omega
    rw[if_neg bG];simp only[Option.map_some,Addr.add_lit];have eG:∀(j:Nat) (c:List IV),((es.take h).drop l)[j]?=some c->es[l+j]?=some c:=by
     intro j c hj;rw[List.getElem?_drop,List.getElem?_take]at hj;split at hj
     ·exact hj
     ·cases hj
    refine .sl b _ _ _ i.size _ (λa b=>f (l+a) b) hI (by simp;omega) (by omega) (λc bH=>lr c (List.mem_of_mem_take (List.mem_of_mem_drop bH))) (λa j c x h1 h2=>?_) λa j c x h1 h2=>hr _ _ _ _ (eG a c h1) h2
    have:=hc _ _ _ _ (eG a c h1) h2
    rwa [Nat.add_mul,<-Nat.add_assoc]at this
  |_=>exact(ae e').elim
 |@own _ id o m ai jU ho=>
  obtain⟨ob,hg,e8⟩:=M.aM e';obtain⟨L,hL,dm⟩:=M.lift_bind e8;obtain⟨hb,h2,e3,e4⟩:=ag dm;obtain⟨lb,h3,e5,e6⟩:=ag e4;obtain⟨hs,Br⟩:=ho.row hg hL;have cK:=hs.fits;cases ah:g.φ id with
  |none=>
   rw[ah]at hs;obtain⟨⟨a,rfl⟩,rfl,rfl,rfl⟩:=hs;obtain⟨rfl,h4,h5,h6⟩:=cV (ν:=ν) (g:=g) (P:=P) (n:=0) (y:=0) (cap:=0) (Nat.le_refl _) (Nat.le_refl _) true e3 e5 hh hl g.w;obtain⟨rfl,rfl⟩:=af e6;refine .same r (dA hu bX h6) (.own rfl (Br _ _ _ ?_));rw[ah];have h1:hb.getD 0=0:=by omega
   have h2:lb.getD 0=0:=by omega
   exact⟨⟨a,by simp[h1,h2]⟩,by omega,by omega,rfl⟩
  |some b=>
   rw[ah]at hs;obtain⟨x,cap,rfl,q2,qL,q3,q4,q5⟩:=hs;obtain⟨rfl,h4,h5,h6⟩:=cV (ν:=ν) (g:=g) (P:=P) (n:=m) (y:=L - o) (cap:=cap) (by omega) (by omega) true e3 e5 hh hl g.w;obtain⟨rfl,rfl⟩:=af e6;refine .same r (dA hu bX h6) (.own rfl (Br _ _ _ ?_));rw[ah];generalize lb.getD 0=l at *;generalize hb.getD m=h at *;by_cases cR:cap=l
   ·rw[if_pos cR];refine⟨x,cap - l,rfl,by omega,by omega,by omega,?_,λhx c hc=>?_⟩
    ·rcases q4 with q4 | q4
     ·by_cases rf:l=0
      ·left;subst rf;simpa using q4
      ·right;omega
     ·right;omega
    ·by_cases ow:x=o*i.size
     ·exact q5 ow c (Nat.lt_of_lt_of_le hc (Nat.mul_le_mul_right _ (by omega)))
     ·have:=q4.resolve_left ow;have rf:l=0:=by omega
      subst rf;exact absurd (by simpa using hx) ow
   ·rw[if_neg cR];refine⟨x+l*i.size,cap - l,by simp[Addr.add_lit],by omega,by omega,by omega,?_,λhx c hc=>?_⟩
    ·rcases q4 with q4 | q4
     ·left;rw[q4,Nat.add_mul]
     ·right;omega
    ·have ow:x=o*i.size:=by rw[Nat.add_mul]at hx;omega
     exact q5 ow c (Nat.lt_of_lt_of_le hc (Nat.mul_le_mul_right _ (by omega)))
def xr (P:Program) (t:TypeId) (n:Nat):Bool:=
 match P.underlying t with
 |some (.array m e)=>m==n&&iS P e 1
 |some (.pointer a)=>(match P.underlying a with
  |some (.array m e)=>m==n&&iS P e 1
  |_=>false)
 |_=>false
theorem y4 {t n:Nat} (h:xr P t n=true):∃el i,P.info? el=some i/\i.size=1/\∀{b l h:Nat} {cl ch:Option Value} {w:World},(Instr.sliceBounds false n n cl ch none).run P w = .ok (l,h,n) w->
  (Instr.sliceAt t (.pointer (some ⟨b,0,none⟩)) cl ch none).run P w = .ok (.slice (some (if n=l then⟨b,0,none⟩ else⟨b,l*i.size,none⟩)) (h - l) (n - l)) w:=by
 unfold xr at h;split at h
 ·rename_i m el hu;simp only[Bool.and_eq_true,beq_iff_eq]at h;obtain⟨rfl,bC⟩:=h;obtain⟨i,hi,y5⟩:=fi bC;refine⟨el,i,hi,y5,λhb=>?_⟩;simp[Instr.sliceAt,run_underlying hu,hb,run_sizeOf hi,Instr.sureAddr,Addr.add_lit]
 ·rename_i a hu;split at h
  ·rename_i m el ha;simp only[Bool.and_eq_true,beq_iff_eq]at h;obtain⟨rfl,bC⟩:=h;obtain⟨i,hi,y5⟩:=fi bC;refine⟨el,i,hi,y5,λhb=>?_⟩;simp[Instr.sliceAt,Instr.slice,run_underlying hu,run_underlying ha,asAddr,hb,run_sizeOf hi,Addr.add_lit]
  ·cases h
 ·cases h
theorem De (r:Rel ν k g) {t:TypeId} {n:Nat} (ht:xr P t n=true) {v:Value} {cl ch:Option Value} {x y:AV} {lo hi:Option AV} {h':Hp} (hv:RA ν g v x) (hl:RO ν g cl lo) (hh:RO ν g ch hi)
  (e':(o6 n x lo hi).run g.h=some (y,h')):bf ν k g h' y ((Instr.sliceAt t v cl ch none).run P g.w):=by
 obtain⟨el,i,bX,y5,bd⟩:=y4 ht;unfold o6 at e';split at e'
 case h_2=>exact(ae e').elim
 rename_i id;obtain⟨ob,hg,e2⟩:=M.aM e';cases ob with
 |buf _ _ _=>exact(ae e2).elim
 |bb _ _ _=>exact(ae e2).elim
 |da _=>exact(ae e2).elim
 |map _=>exact(ae e2).elim
 |cells cs=>
  obtain⟨hlen,e4⟩:=M.aj e2;have Lg:cs.length=n:=by simpa using hlen
  obtain⟨hb,h3,e5,e6⟩:=ag e4;obtain⟨lb,h4,e7,e8⟩:=ag e6;cases hv with
  |ref _ hr=>
   unfold aI at hr;rw[hg]at hr;obtain⟨-, -,b,ah,rfl⟩:=hr;obtain⟨rfl,q4,q5,q6⟩:=cV (ν:=ν) (g:=g) (P:=P) (n:=n) (y:=n) (cap:=n) (Nat.le_refl _) (Nat.le_refl _) false e5 e7 hh hl g.w;obtain⟨rfl,rfl⟩:=af e8;refine .same r (bd q6) (.own rfl ?_);unfold aH;rw[hg];refine⟨rfl,?_⟩;rw[ah];generalize lb.getD 0=l at *;generalize hb.getD n=h at *;obtain⟨b',aO,_,_,hc⟩:=r.ob id _ hg;rw[ah]at aO;cases aO;have ek:∀c,c<n->(g.w.cell? ⟨b,c,none⟩).isSome=true:=λc Lu=>by
    obtain⟨u,dv,_⟩:=hc c _ (List.getElem?_eq_getElem (by omega));rw[dv];rfl
   by_cases FP:n=l
   ·rw[if_pos FP];refine⟨0,n - l,rfl,by omega,by omega,by omega,?_,λhx c bH=>ek c (by simp at bH;omega)⟩;by_cases h0:l=0
    ·left;simp[h0]
    ·right;omega
   ·rw[if_neg FP];exact⟨l*i.size,n - l,rfl,by omega,by omega,by omega,.inl (by rw[y5]),λhx c bH=>ek c (by simp at bH;omega)⟩
theorem sw (r:Rel ν k g) {t:TypeId} (ht:P.underlying t=some .string) {v:Value} {cl ch:Option Value} {x y:AV} {lo hi:Option AV} {h':Hp} (hv:RA ν g v x) (hl:RO ν g cl lo) (hh:RO ν g ch hi)
  (e:(fL x lo hi).run g.h=some (y,h')):bf ν k g h' y ((Instr.sliceAt t v cl ch none).run P g.w):=by
 unfold fL at e;split at e
 ·rename_i s;obtain rfl:=hv.str;obtain⟨hb,h2,e3,e4⟩:=ag e;obtain⟨lb,h3,e5,e6⟩:=ag e4;obtain⟨rfl,h4,h5,h6⟩:=cV (ν:=ν) (g:=g) (P:=P) (n:=s.size) (y:=s.size) (cap:=s.size) (Nat.le_refl _) (Nat.le_refl _) false e3 e5 hh hl g.w;obtain⟨rfl,rfl⟩:=af e6;refine .same r (v:=.string (s.extract (lb.getD 0) (hb.getD s.size))) ?_ mkStr;simp[Instr.sliceAt,Instr.slice,run_underlying ht,h6]
 ·exact(ae e).elim
theorem tX (r:Rel ν k g) {t:TypeId} {e:Nat} (ht:sliceB P t e=true) {v:Value} {cl:Option Value} {k1 k2:IntKind} (cR:cl=none\/∃k3,cl=some (.int k3 0)) {x y:AV} {h':Hp} (hv:RA ν g v x)
  (e':(lh e x).run g.h=some (y,h')):bf ν k g h' y ((Instr.sliceAt t v cl (some (.int k1 0)) (some (.int k2 0))).run P g.w):=by
 obtain⟨el,i,hu,hi,rfl⟩:=dh ht;have key:∀a n cap,bf ν k g g.h (.iv (.az i.size)) ((Instr.sliceAt t (.slice a n cap) cl (some (.int k1 0)) (some (.int k2 0))).run P g.w):=by
  intro a n cap;obtain⟨a',h⟩:=vW (k1:=k1) (k2:=k2) hu hi (a:=a) (n:=n) (cap:=cap) cR g.w;exact .same r h (.iv (.az _ _))
 cases hv with
 |undef=>exact(ae e').elim
 |cI=>exact(ae e').elim
 |agg=>exact(ae e').elim
 |aR=>exact(ae e').elim
 |ref=>exact(ae e').elim
 |bJ=>exact(ae e').elim
 |iv hr=>
  cases hr with
  |az a aJ=>obtain⟨rfl,rfl⟩:=af e';exact key _ _ _
  |dS a cap aJ=>obtain⟨rfl,rfl⟩:=af e';exact key _ _ _
  |sl b off n cap aJ es f hI hn eF lr hc hr=>obtain⟨rfl,rfl⟩:=af e';exact key _ _ _
  |_=>exact(ae e').elim
 |@own _ id o m ai jU ho=>
  obtain⟨ob,hg,e2⟩:=M.aM e';obtain⟨L,hL,e4⟩:=M.lift_bind e2;obtain⟨rfl,rfl⟩:=af e4;obtain⟨hs, -⟩:=ho.row hg hL;cases ah:g.φ id with
  |none=>rw[ah]at hs;obtain⟨⟨a,rfl⟩,_⟩:=hs;exact key _ _ _
  |some b=>rw[ah]at hs;obtain⟨x,cap,rfl,_⟩:=hs;exact key _ _ _
theorem tY (r:Rel ν k g) {t ty:TypeId} {str:Bool} (ht:sA P t str=true) {v:Value} {x y:AV} {h':Hp} (hv:RA ν g v x) (e:(len str x).run g.h=some (y,h')) :
  bf ν k g h' y ((Builtin.len_ #[t] ty #[v]).run P g.w):=by
 unfold sA at ht;split at ht
 ·rename_i el hu;have:str=false:=by simpa using ht
  subst this;have key:∀(a:Option Addr) (n cap:Nat),bf ν k g g.h (.iv (.int .i64 n)) ((Builtin.len_ #[t] ty #[.slice a n cap]).run P g.w):=λa n cap=>
   .same r (v:=.int .i64 n) (by simp[Builtin.len_,run_underlying hu,goInt]) mkInt
  cases hv with
  |undef=>exact(ae e).elim
  |cI=>exact(ae e).elim
  |agg=>exact(ae e).elim
  |aR=>exact(ae e).elim
  |ref=>exact(ae e).elim
  |bJ=>exact(ae e).elim
  |iv hr=>
   cases hr with
   |az a aJ=>obtain⟨rfl,rfl⟩:=af e;exact key _ _ _
   |dS a cap aJ=>obtain⟨rfl,rfl⟩:=af e;exact key _ 0 _
   |sl b off n cap aJ es f hI hn eF lr hc hr=>obtain⟨rfl,rfl⟩:=af e;rw[hn];exact key _ _ _
   |_=>exact(ae e).elim
  |@own _ id o m ai jU ho=>
   obtain⟨ob,hg,e2⟩:=M.aM e;unfold aH at ho;rw[hg]at ho;have fin:∀{aJ L:Nat},cF g.w (g.φ id) aJ L o m v->bf ν k g g.h (.iv (.int .i64 m)) ((Builtin.len_ #[t] ty #[v]).run P g.w):=by
    intro aJ L hs;cases ah:g.φ id with
    |none=>rw[ah]at hs;obtain⟨⟨a,rfl⟩,rfl,_⟩:=hs;exact key _ _ _
    |some b=>rw[ah]at hs;obtain⟨x,cap,rfl,_⟩:=hs;exact key _ _ _
   cases ob with
   |cells cs=>
    obtain⟨ct,e4⟩:=M.aj e2;obtain⟨rfl,rfl⟩:=af e4;exact fin ho.2
   |da cs=>
    obtain⟨ct,e4⟩:=M.aj e2;obtain⟨rfl,rfl⟩:=af e4;exact fin ho.2
   |buf v' aJ es=>
    obtain⟨ct,e4⟩:=M.aj e2;obtain⟨rfl,rfl⟩:=af e4;exact fin (ho.2 (by simpa using ct))
   |bb v' aJ es=>
    obtain⟨ct,e4⟩:=M.aj e2;obtain⟨rfl,rfl⟩:=af e4;exact fin (ho.2 (by simpa using ct))
   |map _=>exact ho.elim
 ·rename_i hu;have:str=true:=ht;subst this;unfold len at e;split at e
  ·rename_i h;cases h
  ·rename_i h;cases h
  ·rename_i h;cases h
  ·obtain⟨rfl,rfl⟩:=af e;obtain rfl:=hv.str;exact .same r (v:=.int .i64 _) (by simp[Builtin.len_,run_underlying hu,goInt]) mkInt
  ·exact(ae e).elim
 ·cases ht
theorem xc (P:Program) (w:World):∀(xs:List AV) (vs:List Value) (a:Int) (kk:IntKind) (z:Int),mT a xs kk=some z->vs.length=xs.length->(∀(j:Nat) (v:Value) (x:AV),vs[j]?=some v->xs[j]?=some x->RA ν g v x)->
  (vs.foldlM Builtin.min2 (.int kk a)).run P w = .ok (.int kk z) w:=by
 intro xs
 induction xs with
 |nil=>
  intro vs a kk z h hl _;have:vs=[]:=List.eq_nil_of_length_eq_zero hl;subst this;simp[mT]at h;subst h;rfl
 |cons x xs ih=>
  intro vs a kk z h hl hr;cases vs with
  |nil=>simp at hl
  |cons v vs=>
   have h0:=hr 0 v x rfl rfl;unfold mT at h;split at h
   ·rename_i heq;cases heq
   ·rename_i Cr b r heq;cases heq;split at h
    ·rename_i hk;subst hk;obtain rfl:=h0.int;simp only[List.foldlM_cons,Sem.run_bind,Builtin.min2,Sem.run_pure,Result.andThen_ok];exact ih vs _ _ _ h (by simpa using hl) λj v' x' h1 h2=>hr (j+1) v' x' (by simpa using h1) (by simpa using h2)
    ·cases h
   ·cases h
theorem xd (P:Program) (w:World):∀(xs:List AV) (vs:List Value) (a:Int) (kk:IntKind) (z:Int),od a xs kk=some z->vs.length=xs.length->(∀(j:Nat) (v:Value) (x:AV),vs[j]?=some v->xs[j]?=some x->RA ν g v x)->
  (vs.foldlM Builtin.max2 (.int kk a)).run P w = .ok (.int kk z) w:=by
 intro xs
 induction xs with
 |nil=>
  intro vs a kk z h hl _;have:vs=[]:=List.eq_nil_of_length_eq_zero hl;subst this;simp[od]at h;subst h;rfl
 |cons x xs ih=>
  intro vs a kk z h hl hr;cases vs with
  |nil=>simp at hl
  |cons v vs=>
   have h0:=hr 0 v x rfl rfl;unfold od at h;split at h
   ·rename_i heq;cases heq
   ·rename_i Cr b r heq;cases heq;split at h
    ·rename_i hk;subst hk;obtain rfl:=h0.int;simp only[List.foldlM_cons,Sem.run_bind,Builtin.max2,Sem.run_pure,Result.andThen_ok];exact ih vs _ _ _ h (by simpa using hl) λj v' x' h1 h2=>hr (j+1) v' x' (by simpa using h1) (by simpa using h2)
    ·cases h
   ·cases h
theorem fh {x:AV} {l:List AV} {h h':Hp} (e:(bW x).run h=some (l,h')) {v:Value} (hv:RA ν g v x) :
  h'=h/\v.cells.size=l.length/\∀(j:Nat) (c:AV),l[j]?=some c->∃u,v.cells[j]?=some u/\u.oneCell'=true/\RA ν g u c:=by
 have one:∀{z:AV},(M.ret [z]).run h=some (l,h')->RA ν g v z->v.oneCell'=true->h'=h/\v.cells.size=l.length/\∀(j:Nat) (c:AV),l[j]?=some c->∃u,v.cells[j]?=some u/\u.oneCell'=true/\RA ν g u c:=by
  intro z e hz h1;obtain⟨rfl,rfl⟩:=af e;have hc:v.cells=#[v]:=by cases v<;>first | rfl | simp[Value.oneCell']at h1
  refine⟨rfl,by rw[hc];rfl,λj c hj=>?_⟩;cases j with
  |zero=>simp at hj;subst hj;exact⟨v,by rw[hc];rfl,h1,hz⟩
  |succ j=>simp at hj
 cases hv with
 |undef=>exact(ae e).elim
 |cI h=>exact one e (.cI h) (by rw[h];exact Ak _)
 |aR=>exact(ae e).elim
 |agg hn h1 hr=>
  obtain⟨rfl,rfl⟩:=af e;refine⟨rfl,hn,λj c hj=>?_⟩;obtain⟨u,hu,hR⟩:=RA.dO (.agg hn h1 hr) j c hj;exact⟨u,hu,h1 j u hu,hR⟩
 |iv hr=>exact one e (.iv hr) hr.one
 |own h1 h2=>exact one e (.own h1 h2) h1
 |ref h1 h2=>exact one e (.ref h1 h2) h1
 |bJ hm hs hn hr=>exact one e (.bJ hm hs hn hr) rfl
def RC (ν:Nat->Nat) (g:Gh) (vs:Array Value) (cs:List AV):Prop:=
 vs.size=cs.length/\∀(j:Nat) (c:AV),cs[j]?=some c->∃u,vs[j]?=some u/\u.oneCell'=true/\RA ν g u c
theorem RC.agg {vs:Array Value} {cs:List AV} (h:RC ν g vs cs):RA ν g (.agg vs) (.agg cs):=by
 have key:∀(j:Nat) (v:Value),vs[j]?=some v->∃c,cs[j]?=some c/\v.oneCell'=true/\RA ν g v c:=by
  intro j v hv;have hj:j<vs.size:=(Array.getElem?_eq_some_iff.1 hv).1;have hc:cs[j]?=some (cs[j]'(by have:=h.1;omega)):=List.getElem?_eq_getElem _;obtain⟨u,hu,h1,hR⟩:=h.2 j _ hc;rw[hv]at hu;cases hu;exact⟨_,hc,h1,hR⟩
 exact .agg h.1 (λj v hv=>let⟨_,_,h1,_⟩:=key j v hv;h1) λj v c hv hc=>by
  obtain⟨c',bH,_,hR⟩:=key j v hv;rw[hc]at bH;cases bH;exact hR
theorem RC.cn {vs us:Array Value} {cs l:List AV} {o:Nat} (h:RC ν g vs cs) (hu:RC ν g us l) (cK:o+l.length<=cs.length) :
  RC ν g ((us.toList.zipIdx).foldl (λcs (p:Value×Nat)=>cs.setIfInBounds (o+p.2) p.1) vs) (cn cs o l):=by
 have hs:=iQ o us.toList 0 vs (by have:=h.1;have:=hu.1;simp;omega);simp only[Nat.add_zero,Array.length_toList]at hs;refine⟨by rw[hs.1,dj _ _ _ cK,h.1],λj c hc=>?_⟩;rw[fZ _ _ _ cK]at hc;rw[hs.2 j];have:=hu.1;by_cases hj:o<=j/\j<o+l.length
 ·rw[if_pos hj]at hc;rw[if_pos (by omega)];simpa using hu.2 _ c hc
 ·rw[if_neg hj]at hc;rw[if_neg (by omega)];exact h.2 j c hc
theorem BJ {t el:TypeId} {i:TypeInfo} (hu:P.underlying t=some (.slice el)) (hi:P.info? el=some i) {a:Option Addr} {n cap l h m:Nat} {k1 k2 k3:IntKind} (h1:l<=h) (h2:h<=m) (h3:m<=cap) (w:World) :
  ∃v,(Instr.sliceAt t (.slice a n cap) (some (.int k1 l)) (some (.int k2 h)) (some (.int k3 m))).run P w = .ok v w:=by
 have s1:∀c,(Instr.sliceBound (.int k3 m) cap c).run P w = .ok m w:=λc=>by simp[Instr.sliceBound,asIntOf,h3]
 have s2:∀c,(Instr.sliceBound (.int k2 h) m c).run P w = .ok h w:=λc=>by simp[Instr.sliceBound,asIntOf,h2]
 have s3:∀c,(Instr.sliceBound (.int k1 l) h c).run P w = .ok l w:=λc=>by simp[Instr.sliceBound,asIntOf,h1]
 have hb:(Instr.sliceBounds true n cap (some (.int k1 l)) (some (.int k2 h)) (some (.int k3 m))).run P w = .ok (l,h,m) w:=by
  simp[Instr.sliceBounds,s1,s2,s3]
 exact⟨_,by simp[Instr.sliceAt,Instr.slice,run_underlying hu,hb,run_sizeOf hi];rfl⟩
theorem Df (r:Rel ν k g) {t:TypeId} {e:Nat} (ht:sliceB P t e=true) {v c1 c2 c3:Value} {x lo hi mx y:AV} {h':Hp} (hv:RA ν g v x) (hl:RA ν g c1 lo) (hh:RA ν g c2 hi) (hm:RA ν g c3 mx)
  (e':(qb e x lo hi mx).run g.h=some (y,h')):bf ν k g h' y ((Instr.sliceAt t v (some c1) (some c2) (some c3)).run P g.w):=by
 obtain⟨el,i,hu,bX,rfl⟩:=dh ht;have key:∀a n cap m,(uX m lo hi mx).run g.h=some (y,h')->m<=cap->bf ν k g h' y ((Instr.sliceAt t (.slice a n cap) (some c1) (some c2) (some c3)).run P g.w):=by
  intro a n cap m e1 hc;obtain⟨l,g1,e2,e3⟩:=ag e1;obtain⟨rfl,k1,rfl⟩:=cQ e2;obtain⟨h,g2,e4,e5⟩:=ag e3;obtain⟨rfl,k2,rfl⟩:=cQ e4;obtain⟨q,g3,e6,e7⟩:=ag e5;obtain⟨rfl,k3,rfl⟩:=cQ e6;obtain⟨hd,e8⟩:=M.aj e7;obtain⟨rfl,rfl⟩:=af e8;simp only[decide_eq_true_eq]at hd;rw[hl.int,hh.int,hm.int];obtain⟨l,rfl⟩:=Int.eq_ofNat_of_zero_le hd.1;obtain⟨h,rfl⟩:=Int.eq_ofNat_of_zero_le (show 0<=h by omega);obtain⟨q,rfl⟩:=Int.eq_ofNat_of_zero_le (show 0<=q by omega);obtain⟨v,hv⟩:=BJ (a:=a) (n:=n) (cap:=cap) (k1:=k1) (k2:=k2) (k3:=k3) (l:=l) (h:=h) (m:=q) hu bX (by omega) (by omega) (by omega) g.w
  exact .same r hv (.undef _)
 cases hv with
 |undef=>exact(ae e').elim
 |cI=>exact(ae e').elim
 |agg=>exact(ae e').elim
 |aR=>exact(ae e').elim
 |ref=>exact(ae e').elim
 |bJ=>exact(ae e').elim
 |iv hr=>
  cases hr with
  |az a aJ=>exact key _ _ _ 0 e' (Nat.zero_le _)
  |dS a cap aJ=>
   obtain⟨-,e2⟩:=M.aj e';exact key _ _ _ _ e2 (by simp)
  |sl b off n cap aJ es f hI hn eF lr hc hr=>
   obtain⟨-,e2⟩:=M.aj e';exact key _ _ _ _ e2 (by omega)
  |_=>exact(ae e').elim
 |@own _ id o m ai jU ho=>
  obtain⟨ob,hg,e2⟩:=M.aM e';obtain⟨L,hL,e4⟩:=M.lift_bind e2;obtain⟨hs, -⟩:=ho.row hg hL;cases ah:g.φ id with
  |none=>
   rw[ah]at hs;obtain⟨⟨a,rfl⟩,rfl,_⟩:=hs;exact key _ _ _ _ e4 (Nat.le_refl _)
  |some b=>
   rw[ah]at hs;obtain⟨x,cap,rfl,_,_,q3,_⟩:=hs;exact key _ _ _ _ e4 q3
end
section
variable {ν:Nat->Nat} {P:Program} {k:Cx} {g:Gh}
theorem RC.mono {g':Gh} {vs:Array Value} {cs:List AV} (h:RC ν g vs cs) (hm:aX ν g g'):RC ν g' vs cs:=
 ⟨h.1,λj c hc=>let⟨u,h1,h2,h3⟩:=h.2 j c hc;⟨u,h1,h2,hm _ _ h3⟩⟩
theorem kA (r:Rel ν k g) {slot:Nat} {t:TypeId} {vs:Array Value} {cs:List AV} (hv:RC ν g vs cs) (gq:kc ν (g.w.alloc (.cells vs t)) slot g.w.heap.size) {h':Hp} {y:AV}
  (e:((M.fresh slot).bind λ_=>(M.write slot (.cells cs)).bind λ_=>M.ret (.ref slot 0 0 0)).run g.h=some (y,h')) :
  bf ν k g h' y (.ok (.pointer (some ⟨g.w.heap.size,0,none⟩)) (g.w.alloc (.cells vs t))):=by
 obtain⟨_,h1,e1,e2⟩:=ag e;obtain⟨hf,rfl⟩:=M.cq e1;obtain⟨_,h3,e5,e6⟩:=ag e2;obtain rfl:=aL e5;obtain⟨rfl,rfl⟩:=af e6;have hn:=r.new (s:=slot) (ob:=.cells cs) (p:=some g.w.heap.size) (w':=g.w.alloc (.cells vs t)) hf (by simp) rfl rfl rfl (λb hb=>alloc_old _ _ _ hb)
  (λb h=>by cases h;exact Nat.le_refl _) (λb h=>by cases h;exact gq) λhm=>by
   refine⟨g.w.heap.size,aw _ _ _,λhi=>?_,⟨by simp,λo=>World.frozen?_alloc_new _ _ _ _⟩,λj c hc=>?_⟩
   ·exact Nat.lt_irrefl _ (r.small _ hi)
   ·obtain⟨u,h1,h2,h3⟩:=hv.2 j c hc;exact⟨u,by rw[World.cell?_alloc_new];exact h1,h2,hm _ _ h3⟩
 refine⟨_,_,rfl,rfl,hn.1,hn.2,.ref rfl ?_⟩;unfold aI;simp only[aq,aw];exact⟨trivial,trivial,_,rfl,rfl⟩
theorem gI (w:World) (vs:Array Value) (t:TypeId):(w.alloc (.cells vs t)).shape? w.heap.size=some (t,vs.size):=by
 unfold World.shape?;rw[heap_alloc_new]
theorem tZ (r:Rel ν k g) {slot tag:Nat} {t:TypeId} (uZ:(tag==0||tag==1&&t==ν pN)=true) {v:Value} {x y:AV} (hv:RA ν g v x) {h':Hp}
  (e:((bW x).bind λxs=>(M.ok (tag==0||tag==1&&xs.length==2)).bind λ_=>(M.fresh (4*slot+tag)).bind λ_=>(M.write (4*slot+tag) (.cells xs)).bind λ_=>M.ret (.ref (4*slot+tag) 0 0 0)).run g.h=some (y,h')) :
  bf ν k g h' y ((Instr.box t v).run P g.w):=by
 obtain⟨xs,h1,e1,e2⟩:=ag e;obtain⟨rfl,hs,hc⟩:=fh e1 hv;obtain⟨bt,e4⟩:=M.aj e2;have gq:kc ν (g.w.alloc (.cells v.cells t)) (4*slot+tag) g.w.heap.size:=by
  simp only[Bool.or_eq_true,Bool.and_eq_true,beq_iff_eq]at uZ bt;by_cases h0:tag=0
  ·subst h0;exact .zero (by omega)
  ·obtain⟨rfl,rfl⟩:=uZ.resolve_left h0;have h2:=(bt.resolve_left h0).2;exact⟨λ_=>by rw[gI,hs,h2],by omega,by omega⟩
 have:=kA (t:=t) r ⟨hs,hc⟩ gq e4;simpa[Instr.box,newVar,newRow]using this
def sQ:Value->AV->Bool
 |v,.iv x=>sB v x
 |.nilFunc,.cI 0=>true
 |.nilIface,.cI 1=>true
 |.map none,.cI 2=>true
 |_,_=>false
theorem ke {v:Value} {x:AV} (h:sQ v x=true) (g:Gh):v.oneCell'=true/\RA ν g v x:=by
 unfold sQ at h;split at h
 ·have hR:RI ν g.I g.w v _:=j0 h _ _;exact⟨hR.one,.iv hR⟩
 ·exact⟨rfl,.cI rfl⟩
 ·exact⟨rfl,.cI rfl⟩
 ·exact⟨rfl,.cI rfl⟩
 ·cases h
def gJ:List Value->List AV->Bool
 |[],[]=>true
 |v::vs,x::xs=>sQ v x&&gJ vs xs
 |_,_=>false
theorem hY:∀{vs:List Value} {xs:List AV},gJ vs xs=true->vs.length=xs.length/\∀(j:Nat) (x:AV),xs[j]?=some x->∃v,vs[j]?=some v/\sQ v x=true
 |[],[],_=>⟨rfl,λj x h=>by simp at h⟩
 |v::vs,x::xs,h=>by
  simp only[gJ,Bool.and_eq_true]at h;obtain⟨h1,h2⟩:=hY h.2;refine⟨by simp[h1],λj y hj=>?_⟩;cases j with
  |zero=>simp at hj;subst hj;exact⟨v,rfl,h.1⟩
  |succ j=>simpa using h2 j y (by simpa using hj)
 |[],_::_,h=>by simp[gJ]at h
 |_::_,[],h=>by simp[gJ]at h
theorem qF {vs:Array Value} {xs:List AV} (h:gJ vs.toList xs=true):RC ν g vs xs:=by
 obtain⟨h1,h2⟩:=hY h;refine⟨by simpa using h1,λj c hc=>?_⟩;obtain⟨v,hv,fV⟩:=h2 j c hc;obtain⟨h3,h4⟩:=ke (ν:=ν) fV g;exact⟨v,by simpa using hv,h3,h4⟩
def k7 (P:Program) (t:TypeId) (z:List AV):Bool:=
 match P.info? t with
 |some i=>(match i.zero with | some v=>gJ v.cells.toList z | none=>false)
 |none=>false
theorem jN {t:TypeId} {z:List AV} (h:k7 P t z=true):∃i v,P.info? t=some i/\i.zero=some v/\gJ v.cells.toList z=true:=by
 unfold k7 at h;split at h
 ·rename_i i hi;split at h
  ·rename_i v hv;exact⟨i,v,hi,hv,h⟩
  ·cases h
 ·cases h
def Al (ν:Nat->Nat) (t:TypeId) (tag:Nat) (z:List AV):Bool:=tag==0||(tag==1&&t==ν pN&&z.length==2)
theorem ox (r:Rel ν k g) {slot tag:Nat} {t:TypeId} {z:List AV} (ht:k7 P t z=true) (uZ:Al ν t tag z=true) {y:AV} {h':Hp}
  (e:((M.ok (Nat.ble tag 1)).bind λ_=>(M.fresh (4*slot+tag)).bind λ_=>(M.write (4*slot+tag) (.cells z)).bind λ_=>M.ret (.ref (4*slot+tag) 0 0 0)).run g.h=some (y,h')) :
  bf ν k g h' y ((Instr.alloc t true (.tuple #[])).run P g.w):=by
 obtain⟨i,v,hi,hz,hc⟩:=jN ht;obtain⟨-,e2⟩:=M.aj e;have gq:kc ν (g.w.alloc (.cells v.cells t)) (4*slot+tag) g.w.heap.size:=by
  simp only[Al,Bool.or_eq_true,Bool.and_eq_true,beq_iff_eq]at uZ;rcases uZ with rfl | ⟨⟨rfl,rfl⟩,h2⟩
  ·exact .zero (by omega)
  ·have:=(hY hc).1;simp only[Array.length_toList]at this;exact⟨λ_=>by rw[gI,this,h2],by omega,by omega⟩
 have:=kA (t:=t) r (qF hc) gq e2;simpa[Instr.alloc,zeroValue,typeInfo,hi,hz,newVar,newRow]using this
end
section
variable {ν:Nat->Nat} {P:Program} {k:Cx} {g:Gh}
theorem cF.put {w w':World} {b e o n L L':Nat} {v:Value} (h:cF w (some b) e L o n v) (hl:L=L')
  (hc:∀c,(w.cell? ⟨b,c,none⟩).isSome=true->(w'.cell? ⟨b,c,none⟩).isSome=true):cF w' (some b) e L' o n v:=by
 subst hl;obtain⟨x,cap,e1,e2,eL,e3,e4,e5⟩:=h;exact⟨x,cap,e1,e2,eL,e3,e4,λhx c h'=>hc c (e5 hx c h')⟩
theorem ni (w:World) (b:Nat):∀(vs:List Value) (o c:Nat),(w.setCells b o vs).shape? c=w.shape? c:=by
 intro vs
 induction vs generalizing w with
 |nil=>intro o c;rfl
 |cons v vs ih=>
  intro o c;rw[World.setCells,ih];simp only[World.shape?,World.setCell,Array.getElem?_modify];by_cases h:b=c
  ·subst h;cases hb:w.heap[b]? with
   |none=>simp
   |some ob=>cases ob<;>simp
  ·simp[h]
theorem Rel.put (r:Rel ν k g) {id v e b off v':Nat} {es es':List (List AV)} {vs:List Value} (hg:get g.h id=some (.buf v e es)) (ah:g.φ id=some b)
  (dI:∀j,j<vs.length->(g.w.cell? ⟨b,off+j,none⟩).isSome=true) (hv:v'=v/\es.length=es'.length\/v'=v+1)
  (aC:∀g':Gh,g'.w=g.w.setCells b off vs->aX ν g g'->mP ν g' b e es') :
  Rel ν k { g with w:=g.w.setCells b off vs,h:=set g.h id (.buf v' e es') }/\aX ν g { g with w:=g.w.setCells b off vs,h:=set g.h id (.buf v' e es') }:=by
 obtain⟨bZ,ca⟩:¬g.I b/\qm g.w b:=by
  obtain⟨b',h1,h2,h3,_⟩:=r.ob id _ hg;rw[ah]at h1;cases h1;exact⟨h2,h3⟩
 have cO:=iR g.w b vs off;have ht:=r.gO (s:=id) (ob:=.buf v' e es') (p:=g.φ id) (w':=g.w.setCells b off vs) (I':=g.I) hg (λb' h=>by rw[ah]at h;cases h;exact bZ) (by rw[dH];exact Nat.le_refl _) cO.1 cO.2.1 cO.2.2
  (λb' _ bG=>iq _ _ _ _ _ λhe=>bG (by rw[he];exact ah)) (λ_ h=>h) (λ_ h=>.inl h) (.inl rfl) (λb' h=>(r.ty id _ b' hg h).same (ni _ _ _ _ _))
  (λu o n ai ho=>by
   unfold aH at ho ⊢;rw[hg]at ho;simp only[aq,aw];obtain⟨h1,h2⟩:=ho;rcases hv with⟨rfl,hl⟩|rfl
   ·refine⟨h1,λhe=>?_⟩;have:=h2 he;rw[ah]at this ⊢;exact this.put hl λc hc=>fb _ _ _ _ dI _ hc
   ·exact⟨by omega,λhe=>by omega⟩)
  (λu ai i j hr=>by
   unfold aI at hr ⊢;rw[hg]at hr;simp only[aq,aw];obtain⟨h1,h2⟩:=hr;rcases hv with⟨rfl,hl⟩|rfl
   ·exact⟨h1,h2⟩
   ·exact⟨by omega,λhe=>by omega⟩)
  (λ_ hm=>⟨b,(aw _ _ _).trans ah,bZ,⟨by rw[dH];exact ca.1,λo=>by rw[World.frozen?_setCells];exact ca.2 o⟩,aC _ rfl hm⟩)
 rw[jM]at ht;exact ht
theorem mP.len {b e:Nat} {es:List (List AV)} (h:mP ν g b e es) {i j:Nat} {c:List AV} {x:AV} (h1:es[i]?=some c) (h2:c[j]?=some x):j<e:=by
 have:=aA h2
 rwa [h.1 c (List.mem_of_getElem? h1)]at this
theorem BK {g':Gh} {b e i j:Nat} {es:List (List AV)} {c l:List AV} {vs:List Value} (aC:mP ν g b e es) (hc:es[i]?=some c) (cK:j+l.length<=e) (hl:vs.length=l.length)
  (hv:∀(m:Nat) (x:AV),l[m]?=some x->∃u,vs[m]?=some u/\u.oneCell'=true/\RA ν g u x) (hex:∀m,m<vs.length->(g.w.cell? ⟨b,i*e+j+m,none⟩).isSome=true)
  (hw:g'.w=g.w.setCells b (i*e+j) vs) (hm:aX ν g g'):mP ν g' b e (es.set i (cn c j l)):=by
 have Bk:c.length=e:=aC.1 c (List.mem_of_getElem? hc);have hi:=aA hc;refine⟨λc' bH=>?_,λi2 j2 c' x' h1 h2=>?_⟩
 ·rcases List.mem_or_eq_of_mem_set bH with h | h
  ·exact aC.1 c' h
  ·rw[h,dj _ _ _ (by omega)];exact Bk
 ·rw[hw,cT _ _ _ _ hex];rw[List.getElem?_set]at h1;by_cases ua:i=i2
  ·subst ua;rw[if_pos rfl,if_pos hi]at h1;cases h1;rw[fZ _ _ _ (by omega)]at h2;by_cases dT:j<=j2/\j2<j+l.length
   ·rw[if_pos dT]at h2;rw[if_pos (by omega)];obtain⟨u,hu,h3,h4⟩:=hv _ x' h2;exact⟨u,by rw[show i*e+j2 - (i*e+j)=j2 - j by omega];exact hu,h3,hm _ _ h4⟩
   ·rw[if_neg dT]at h2;rw[if_neg (by omega)];obtain⟨u,h3,h4,h5⟩:=aC.2 i j2 c x' hc h2;exact⟨u,h3,h4,hm _ _ h5⟩
  ·rw[if_neg ua]at h1;have Bi:=aC.len h1 h2;have cW:¬(i*e+j<=i2*e+j2/\i2*e+j2<i*e+j+vs.length):=by
    intro⟨ha,hb⟩;rcases Nat.lt_or_gt_of_ne ua with aV | aV
    ·have:i*e+e<=i2*e:=by rw[<-Nat.succ_mul];exact Nat.mul_le_mul_right _ aV
     omega
    ·have:i2*e+e<=i*e:=by rw[<-Nat.succ_mul];exact Nat.mul_le_mul_right _ aV
     omega
   rw[if_neg cW];obtain⟨u,h3,h4,h5⟩:=aC.2 i2 j2 c' x' h1 h2;exact⟨u,h3,h4,hm _ _ h5⟩
theorem u0 (r:Rel ν k g) {sz:Nat} {va vx:Value} {a x y:AV} (ct:RA ν g va a) (oy:RA ν g vx x) {h':Hp}
  (e':(store sz a x).run g.h=some (y,h')) :
  ∃b off g',va = .pointer (some ⟨b,off,none⟩)/\y = .aR []/\g'.w=g.w.setCells b off vx.cells.toList/\vx.cells.size=sz/\(∀o,g.w.frozen? ⟨b,o,none⟩=false)/\(∀m,m<sz->(g.w.cell? ⟨b,off+m,none⟩).isSome=true)/\
   g'.h=h'/\Rel ν k g'/\aX ν g g'/\∀u ∈ vx.cells.toList,u.oneCell'=true:=by
 obtain⟨xs,h1,e1,e2⟩:=ag e';obtain⟨rfl,hs,hc⟩:=fh e1 oy;obtain⟨hl,e4⟩:=M.aj e2;have jx:xs.length=sz:=by simpa using hl
 have ed:∀u ∈ vx.cells.toList,u.oneCell'=true:=by
  intro u hu;obtain⟨j,hj,rfl⟩:=List.getElem_of_mem hu;simp only[Array.length_toList]at hj;obtain⟨u',h1,h2,_⟩:=hc j _ (List.getElem?_eq_getElem (by omega));rw[Array.getElem?_eq_getElem hj]at h1;cases h1;simpa using h2
 split at e4
 case h_2=>exact(ae e4).elim
 rename_i id ai i' j;cases ct with
 |ref kz hr=>
  obtain⟨ob,hg,e6⟩:=M.aM e4;unfold aI at hr;rw[hg]at hr;cases ob with
  |bb _ _ _=>exact(ae e6).elim
  |da _=>exact(ae e6).elim
  |map _=>exact(ae e6).elim
  |cells cs=>
   obtain⟨rfl,rfl,b,ah,rfl⟩:=hr;obtain⟨cK,e8⟩:=M.aj e6;have rh:j+sz<=cs.length:=by simpa using cK
   obtain⟨_,h6,oz,lu⟩:=ag e8;obtain rfl:=aL oz;obtain⟨rfl,rfl⟩:=af lu;obtain⟨b',aO,bZ,ca,oA⟩:=r.ob id _ hg;rw[ah]at aO;cases aO;have hex:∀m,m<vx.cells.toList.length->(g.w.cell? ⟨b,j+m,none⟩).isSome=true:=by
    intro m hm;simp only[Array.length_toList]at hm;obtain⟨u,hu,_⟩:=oA (j+m) _ (List.getElem?_eq_getElem (by omega));rw[hu];rfl
   have cO:=iR g.w b vx.cells.toList j;have ht:=r.gO (s:=id) (ob:=.cells (cn cs j xs)) (p:=g.φ id) (w':=g.w.setCells b j vx.cells.toList) (I':=g.I) hg (λb' h=>by rw[ah]at h;cases h;exact bZ)
    (by rw[dH];exact Nat.le_refl _) cO.1 cO.2.1 cO.2.2
    (λb' _ bG=>iq _ _ _ _ _ λhe=>bG (by rw[he];exact ah)) (λ_ h=>h) (λ_ h=>.inl h) (.inl rfl) (λb' h=>(r.ty id _ b' hg h).same (ni _ _ _ _ _))
    (λu o n ai ho=>by
     unfold aH at ho ⊢;rw[hg]at ho;simp only[aq,aw];refine⟨ho.1,?_⟩;have:=ho.2;rw[ah]at this ⊢;exact this.put (by rw[dj _ _ _ (by omega)]) λc hc=>fb _ _ _ _ hex _ hc)
    (λu ai m n hr=>by
     unfold aI at hr ⊢;rw[hg]at hr;simp only[aq,aw];exact hr)
    (λ_ hm=>by
     refine⟨b,(aw _ _ _).trans ah,bZ,⟨by rw[dH];exact ca.1,λo=>by rw[World.frozen?_setCells];exact ca.2 o⟩,λm c c8=>?_⟩;rw[fZ _ _ _ (by omega)]at c8;simp only[];rw[cT _ _ _ _ hex];simp only[Array.length_toList,hs,jx];by_cases dT:j<=m/\m<j+sz
     ·rw[if_pos (by omega)]at c8;rw[if_pos dT];obtain⟨u,h1,h2,h3⟩:=hc _ c c8;exact⟨u,by simpa using h1,h2,hm _ _ h3⟩
     ·rw[if_neg (by omega)]at c8;rw[if_neg dT];obtain⟨u,h1,h2,h3⟩:=oA m c c8;exact⟨u,h1,h2,hm _ _ h3⟩)
   rw[jM]at ht;exact⟨b,j,_,rfl,rfl,rfl,by omega,ca.2,by simpa[hs,jx]using hex,rfl,ht.1,ht.2,ed⟩
  |buf v e es=>
   obtain⟨bt,lu⟩:=M.aj e6;simp only[Bool.and_eq_true,beq_iff_eq,Nat.ble_eq]at bt;obtain⟨hv,cK⟩:=bt;obtain⟨c,kT,rj⟩:=M.lift_bind lu;obtain⟨_,h8,Ct,Cu⟩:=ag rj;obtain rfl:=aL Ct;obtain⟨rfl,rfl⟩:=af Cu;obtain⟨b,ah,rfl⟩:=hr.2 hv;obtain⟨b',h1,bZ,ca,aC⟩:=r.ob id _ hg;rw[ah]at h1;cases h1;have Bk:c.length=e:=aC.1 c (List.mem_of_getElem? kT);have hex:∀m,m<vx.cells.toList.length->(g.w.cell? ⟨b,i'*e+j+m,none⟩).isSome=true:=by
    intro m hm;simp only[Array.length_toList]at hm;obtain⟨u,hu,_⟩:=aC.2 i' (j+m) c _ kT (List.getElem?_eq_getElem (by omega));rw[Nat.add_assoc,hu];rfl
   have ef:=r.put (id:=id) (v:=v) (e:=e) (b:=b) (off:=i'*e+j) (v':=v) (es:=es) (es':=es.set i' (cn c j xs)) (vs:=vx.cells.toList) hg ah hex (.inl ⟨rfl,by simp⟩)
    (λg' hw hm=>BK aC kT (by omega) (by simp;omega) (λm x h=>by obtain⟨u,h1,h2,h3⟩:=hc m x h;exact⟨u,by simpa using h1,h2,h3⟩) hex hw hm)
   exact⟨b,i'*e+j,_,rfl,rfl,rfl,by omega,ca.2,by simpa[hs,jx]using hex,rfl,ef.1,ef.2,ed⟩
theorem qo (r:Rel ν k g) {t:TypeId} {sz:Nat} (ht:iS P t sz=true) {va vx:Value} {a x y:AV} (ct:RA ν g va a) (oy:RA ν g vx x) {h':Hp}
  (e':(store sz a x).run g.h=some (y,h')) :
  ∃g',(Instr.storeAt t va vx).run P g.w = .ok () g'.w/\y = .aR []/\g'.h=h'/\Rel ν k g'/\aX ν g g':=by
 obtain⟨i,hi,rfl⟩:=fi ht;obtain⟨b,off,g',rfl,h1,h2,h3,h4,h5,h6,h7,h8,h9⟩:=u0 r ct oy e';exact⟨g',by rw[h2];exact mH hi h3 (by simpa using h5) h4 h9,h1,h6,h7,h8⟩
end
section
variable {ν:Nat->Nat} {P:Program} {k:Cx} {g:Gh}
def j1 (ν:Nat->Nat) (g:Gh) (vs:Array Value) (e:Nat) (es:List (List AV)):Prop:=
 vs.size=es.length*e/\(∀c ∈ es,c.length=e)/\∀(i j:Nat) (c:List AV) (x:AV),es[i]?=some c->c[j]?=some x->∃u,vs[i*e+j]?=some u/\u.oneCell'=true/\RA ν g u x
theorem j1.step {vs us:Array Value} {e i0:Nat} {es:List (List AV)} {l:List AV} (h:j1 ν g vs e es) (hi:i0<es.length) (hu:us.size=e) (hl:l.length=e)
  (hr:∀(m:Nat) (x:AV),l[m]?=some x->∃u,us[m]?=some u/\u.oneCell'=true/\RA ν g u x) :
  j1 ν g ((us.toList.zipIdx).foldl (λcs (p:Value×Nat)=>cs.setIfInBounds (i0*e+p.2) p.1) vs) e (es.set i0 l):=by
 have cK:i0*e+e<=vs.size:=by rw[h.1,<-Nat.succ_mul];exact Nat.mul_le_mul_right _ hi
 have hs:=iQ (i0*e) us.toList 0 vs (by simp;omega);simp only[Nat.add_zero,Array.length_toList,hu]at hs;refine⟨by rw[hs.1,h.1];simp,λc hc=>?_,λi j c x h1 h2=>?_⟩
 ·rcases List.mem_or_eq_of_mem_set hc with h' | h'
  ·exact h.2.1 c h'
  ·rw[h',hl]
 ·rw[hs.2,List.getElem?_set]at *;by_cases oB:i0=i
  ·subst oB;rw[if_pos rfl,if_pos hi]at h1;cases h1;have hj:=aA h2;rw[if_pos (by omega),show i0*e+j - i0*e=j by omega];simpa using hr j x h2
  ·rw[if_neg oB]at h1;have hj:j<e:=by have:=aA h2;rw[h.2.1 c (List.mem_of_getElem? h1)]at this;exact this
   have cW:¬(i0*e<=i*e+j/\i*e+j<i0*e+e):=by
    intro⟨ha,hb⟩;rcases Nat.lt_or_gt_of_ne oB with aV | aV
    ·have:i0*e+e<=i*e:=by rw[<-Nat.succ_mul];exact Nat.mul_le_mul_right _ aV
     omega
    ·have:i*e+e<=i0*e:=by rw[<-Nat.succ_mul];exact Nat.mul_le_mul_right _ aV
     omega
   rw[if_neg cW];exact h.2.2 i j c x h1 h2
theorem y6 {e n:Nat}:∀(ps:List (Nat×AV)) (h h':Hp) (out:List (Nat×List AV)),
  (M.aN (λp:Nat×AV=>(bW p.2).bind λxs=>(M.ok (xs.length==e&&Nat.blt p.1 n)).bind λ_=>M.ret (p.1,xs)) ps).run h=some (out,h')->
  ∀vs:List (Nat×Value),vs.length=ps.length->(∀(j:Nat) (q:Nat×Value) (p:Nat×AV),vs[j]?=some q->ps[j]?=some p->q.1=p.1/\RA ν g q.2 p.2)->
  h'=h/\out.length=vs.length/\∀(j:Nat) (p:Nat×List AV) (q:Nat×Value),out[j]?=some p->vs[j]?=some q->
   q.1=p.1/\p.1<n/\q.2.cells.size=e/\p.2.length=e/\∀(m:Nat) (x:AV),p.2[m]?=some x->∃u,q.2.cells[m]?=some u/\u.oneCell'=true/\RA ν g u x:=by
 intro ps
 induction ps with
 |nil=>
  intro h h' out e' vs hl _;obtain⟨rfl,rfl⟩:=b9 e';have:vs=[]:=List.eq_nil_of_length_eq_zero hl;subst this;exact⟨rfl,rfl,λj p q h=>by simp at h⟩
 |cons p ps ih=>
  intro h h' out e' vs hl hv;obtain⟨y,h1,zs,e1,e2,rfl⟩:=bU e';cases vs with
  |nil=>simp at hl
  |cons q vs=>
   obtain⟨hq,Cv⟩:=hv 0 q p rfl rfl;obtain⟨xs,h2,e3,e4⟩:=ag e1;obtain⟨rfl,hs,hc⟩:=fh e3 Cv;obtain⟨bt,e6⟩:=M.aj e4;simp only[Bool.and_eq_true,beq_iff_eq,Nat.blt_eq]at bt;obtain⟨rfl,rfl⟩:=af e6;obtain⟨rfl,kU,ub⟩:=ih _ h' zs e2 vs (by simpa using hl) λj q' p' h1 h2=>hv (j+1) q' p' (by simpa using h1) (by simpa using h2)
   refine⟨rfl,by simp[kU],λj p' q' h1 h2=>?_⟩;cases j with
   |zero=>
    simp at h1 h2;subst h1 h2;exact⟨hq,bt.2,by omega,bt.1,hc⟩
   |succ j=>exact ub j p' q' (by simpa using h1) (by simpa using h2)
theorem qp {e:Nat}:∀(out:List (Nat×List AV)) (vs:List (Nat×Value)) (cells:Array Value) (es:List (List AV)),out.length=vs.length->j1 ν g cells e es->
  (∀(j:Nat) (p:Nat×List AV) (q:Nat×Value),out[j]?=some p->vs[j]?=some q->
   q.1=p.1/\p.1<es.length/\q.2.cells.size=e/\p.2.length=e/\∀(m:Nat) (x:AV),p.2[m]?=some x->∃u,q.2.cells[m]?=some u/\u.oneCell'=true/\RA ν g u x)->
  ∃eQ,Instr.fill (λi=>some (i*e,e)) cells vs=some eQ/\j1 ν g eQ e (ec es out):=by
 intro out
 induction out with
 |nil=>
  intro vs cells es hl aC _;have:vs=[]:=List.eq_nil_of_length_eq_zero hl.symm;subst this;exact⟨cells,rfl,aC⟩
 |cons p out ih=>
  intro vs cells es hl aC hh;cases vs with
  |nil=>simp at hl
  |cons q vs=>
   obtain⟨h1,h2,h3,h4,h5⟩:=hh 0 p q rfl rfl;have xe:=aC.step (i0:=p.1) (us:=q.2.cells) (l:=p.2) h2 h3 h4 h5;obtain⟨c',bH,fW⟩:=ih vs _ (es.set p.1 p.2) (by simpa using hl) xe λj p' q' a b=>by
    obtain⟨x1,x2,x3⟩:=hh (j+1) p' q' (by simpa using a) (by simpa using b);exact⟨x1,by simpa using x2,x3⟩
   refine⟨c',?_,fW⟩;rw[<-bH];have cK:¬(cells.size<q.1*e+e):=by
    have:p.1*e+e<=es.length*e:=by rw[<-Nat.succ_mul];exact Nat.mul_le_mul_right _ h2
    rw[aC.1,h1];omega
   obtain⟨i,v⟩:=q;simp only at h1 h3 cK;subst h1;simp only[Instr.fill,h3];rw[if_neg (by simp;omega)];congr 1;rw[<-Array.foldl_toList,Array.toList_zipIdx]
def Am (P:Program) (t:TypeId) (len e:Nat) (z:List AV):Bool:=
 match P.underlying t with
 |some (.slice el)=>iS P el e&&k7 P el z&&Nat.ble (len*e) 16777216&&z.length==e&&Nat.blt 0 e
 |_=>false
theorem mi {zs:Array Value} {z:List AV} (hz:gJ zs.toList z=true) (n:Nat) :
  j1 ν g ((Array.range (n*zs.size)).map (zs[· % zs.size]!)) zs.size (List.replicate n z):=by
 obtain⟨h1,h2⟩:=hY hz;refine⟨by simp,λc hc=>by rw[List.eq_of_mem_replicate hc];simpa using h1.symm,λi j c x hi hj=>?_⟩;have bX:=aA hi;simp only[List.length_replicate]at bX;rw[List.getElem?_replicate,if_pos bX]at hi;cases hi;have Bl:=aA hj;obtain⟨v,hv,hc⟩:=h2 j x hj;have uc:j<zs.size:=by simp at h1;omega
 have aV:i*zs.size+j<n*zs.size:=by
  have:i*zs.size+zs.size<=n*zs.size:=by rw[<-Nat.succ_mul];exact Nat.mul_le_mul_right _ bX
  omega
 obtain⟨k1,k2⟩:=ke (ν:=ν) hc g;refine⟨v,?_,k1,k2⟩;have qq:(i*zs.size+j) % zs.size=j:=by rw[Nat.add_comm,Nat.add_mul_mod_self_right,Nat.mod_eq_of_lt uc]
 simp only[Array.getElem?_map,Array.getElem?_range,if_pos aV,Option.map_some,qq];rw[getElem!_pos zs j uc];have:zs[j]?=some v:=by simpa using hv
 rw[Array.getElem?_eq_getElem uc]at this;exact this
theorem mz (r:Rel ν k g) {slot e n cap:Nat} {el:TypeId} {es:List (List AV)} {cells:Array Value} {w0:World} (hw:w0=g.w\/w0=g.w.drew) (hf:get g.h slot=none) (gq:slot % 4=0\/slot % 4=2/\el=ν lT) (hn:es.length=n) (hl:∀c ∈ es,c.length=e) (eF:n<=cap)
  (bC:cells.size=cap*e) (aC:∀(i j:Nat) (c:List AV) (x:AV),es[i]?=some c->c[j]?=some x->∃u,cells[i*e+j]?=some u/\u.oneCell'=true/\RA ν g u x) :
  bf ν k g (set g.h slot (.buf 0 e es)) (.own slot 0 n 0) (.ok (.slice (some ⟨g.w.heap.size,0,none⟩) n cap) (w0.alloc (.cells cells el))):=by
 have tj:w0.heap=g.w.heap:=by rcases hw with rfl | rfl<;>rfl
 have An:(w0.alloc (.cells cells el)).os=g.w.os/\(w0.alloc (.cells cells el)).tape=g.w.tape/\(w0.alloc (.cells cells el)).output=g.w.output:=by rcases hw with rfl | rfl<;>exact⟨rfl,rfl,rfl⟩
 have dJ:=r.new (s:=slot) (ob:=.buf 0 e es) (p:=some g.w.heap.size) (w':=w0.alloc (.cells cells el)) hf (by simp[tj]) An.1 An.2.1 An.2.2 (λb hb=>by rw[alloc_old w0 _ _ (by rw[tj];exact hb),tj])
  (λb h=>by cases h;exact Nat.le_refl _) (λb h=>by
   cases h;rcases gq with h | ⟨h,rfl⟩
   ·exact .zero h
   ·exact⟨by omega,λ_=>⟨cells.size,by rw[<-tj];exact gI _ _ _⟩,by omega⟩) λhm=>by
   refine⟨g.w.heap.size,aw _ _ _,λbX=>Nat.lt_irrefl _ (r.small _ bX),⟨by simp[tj],λo=>by rw[<-tj];exact World.frozen?_alloc_new _ _ _ _⟩,hl,λa b c x h1 h2=>?_⟩;obtain⟨u,dv,h3,hR⟩:=aC a b c x h1 h2;exact⟨u,by simp only[];rw[<-tj,World.cell?_alloc_new];exact dv,h3,hm _ _ hR⟩
 refine⟨_,_,rfl,rfl,dJ.1,dJ.2,.own rfl ?_⟩;unfold aH;simp only[aq,aw];refine⟨Nat.le_refl _,λ_=>⟨0,cap,rfl,by omega,by omega,eF,.inl (by simp),λ_ c hc=>?_⟩⟩;rw[<-tj,World.cell?_alloc_new,Array.getElem?_eq_getElem (by rw[bC];simpa using hc)];rfl
theorem ud (r:Rel ν k g) {slot:Nat} {t:TypeId} {n e:Nat} {z:List AV} (ht:Am P t n e z=true) {ps:List (Nat×AV)} {vs:List (Nat×Value)} (hl:vs.length=ps.length)
  (hv:∀(j:Nat) (q:Nat×Value) (p:Nat×AV),vs[j]?=some q->ps[j]?=some p->q.1=p.1/\RA ν g q.2 p.2) {y:AV} {h':Hp}
  (e':((M.ok (z.length==e)).bind λ_=>
   (M.aN (λp:Nat×AV=>(bW p.2).bind λxs=>(M.ok (xs.length==e&&Nat.blt p.1 n)).bind λ_=>M.ret (p.1,xs)) ps).bind λl=>
   (M.fresh (4*slot)).bind λ_=>(M.write (4*slot) (.buf 0 e (ec (List.replicate n z) l))).bind λ_=>M.ret (.own (4*slot) 0 n 0)).run g.h=some (y,h')) :
  bf ν k g h' y ((Instr.buildSlice t n vs.toArray).run P g.w):=by
 unfold Am at ht;split at ht
 case h_2=>cases ht
 rename_i el hu;simp only[Bool.and_eq_true,beq_iff_eq,Nat.ble_eq,Nat.blt_eq]at ht;obtain⟨⟨⟨⟨bC,hz⟩,GW⟩,ta⟩,dK⟩:=ht;obtain⟨i,hi,rk⟩:=fi bC;obtain⟨i',v,bX,oC,fV⟩:=jN hz;rw[hi]at bX;cases bX;subst rk;have eR:v.cells.size=i.size:=by have:=(hY fV).1;simp at this;omega
 obtain⟨-,e2⟩:=M.aj e';obtain⟨out,h2,e3,e4⟩:=ag e2;obtain⟨rfl,iD,zW⟩:=y6 ps _ _ out e3 vs hl hv;obtain⟨_,h3,e5,e6⟩:=ag e4;obtain⟨hf,rfl⟩:=M.cq e5;obtain⟨_,h4,e7,e8⟩:=ag e6;obtain rfl:=aL e7;obtain⟨rfl,rfl⟩:=af e8;have rl:=mi (ν:=ν) (g:=g) fV n;rw[eR]at rl;obtain⟨cells,fj,aC⟩:=qp out vs _ _ iD rl λj p q a b=>by
  obtain⟨x1,x2,x3⟩:=zW j p q a b;exact⟨x1,by simpa using x2,x3⟩
 have hlen:(ec (List.replicate n z) out).length=n:=by
  have:∀(o:List (Nat×List AV)) (l:List (List AV)),(ec l o).length=l.length:=by
   intro o
   induction o with
   |nil=>intro l;rfl
   |cons a o ih=>intro l;simp[ec,ih]
  rw[this];simp
 have bd:(Instr.buildSlice t n vs.toArray).run P g.w = .ok (.slice (some ⟨g.w.heap.size,0,none⟩) n n) (g.w.alloc (.cells cells el)):=by
  have Cw:¬(2 ^ 24<n*i.size):=by omega
  by_cases gu:n=0
  ·subst gu;simp only[Nat.zero_mul,Array.range_zero',List.map_toArray]at fj;simp only[Instr.buildSlice,Sem.run_bind,run_underlying hu,Result.andThen_ok,run_sizeOf hi];simp at fj;simp[fj,newRow,Array.range_zero']
  ·simp only[Instr.buildSlice,Sem.run_bind,run_underlying hu,Result.andThen_ok,run_sizeOf hi];have Cy:¬n*i.size=0:=Nat.mul_ne_zero gu (by omega);simp[Cw,Cy,zeroValue,typeInfo,hi,oC,eR,fj,newRow]
 rw[bd];exact mz r (.inl rfl) hf (.inl (by omega)) hlen aC.2.1 (Nat.le_refl _) (by rw[aC.1,hlen]) aC.2.2
theorem Dg (r:Rel ν k g) {t:TypeId} {e:Nat} (ht:sliceB P t e=true):bf ν k g g.h (.iv (.az e)) ((Instr.buildSlice t 0 #[]).run P g.w):=by
 obtain⟨el,i,hu,hi,rfl⟩:=dh ht;have bd:(Instr.buildSlice t 0 #[]).run P g.w = .ok (.slice (some ⟨g.w.heap.size,0,none⟩) 0 0) (g.w.alloc (.cells #[] el)):=by
  simp only[Instr.buildSlice,Sem.run_bind,run_underlying hu,Result.andThen_ok,run_sizeOf hi];simp[newRow,Array.range_zero',Instr.fill]
 obtain⟨r',m⟩:=r.world (w':=g.w.alloc (.cells #[] el)) (I':=g.I) (λ_ h=>h) (λ_ h=>.inl h) (by simp) rfl rfl rfl λb hb=>alloc_old _ _ _ hb
 exact⟨{ g with I:=g.I,w:=g.w.alloc (.cells #[] el) },_,bd,rfl,r',m,.iv (.az _ _)⟩
end
section
variable {ν:Nat->Nat} {P:Program} {k:Cx} {g:Gh}
def xt (ν:Nat->Nat) (P:Program) (g:Gh) (v:Value) (e:Nat) (ys:List (List AV)) (news:List Value):Prop:=
 (∀w:World,(∀b off u,g.w.cell? ⟨b,off,none⟩=some u->w.cell? ⟨b,off,none⟩=some u)->(Builtin.lenOf v).run P w = .ok ys.length w/\(Builtin.firstCells e ys.length v).run P w = .ok news.toArray w)/\
 news.length=ys.length*e/\(∀c ∈ ys,c.length=e)/\
 ∀(i j:Nat) (c:List AV) (x:AV),ys[i]?=some c->c[j]?=some x->∃u,news[i*e+j]?=some u/\u.oneCell'=true/\RA ν g u x
def j3 (ν:Nat->Nat) (g:Gh) (v:Value) (e:Nat) (ys:List (List AV)) (news:List Value):Prop:=
 (∃a c,v = .slice a ys.length c/\(ys.length=0\/∃b off,a=some ⟨b,off,none⟩/\∀(p:Nat) (u:Value),news[p]?=some u->g.w.cell? ⟨b,off+p,none⟩=some u))/\
 news.length=ys.length*e/\(∀c ∈ ys,c.length=e)/\
 ∀(i j:Nat) (c:List AV) (x:AV),ys[i]?=some c->c[j]?=some x->∃u,news[i*e+j]?=some u/\u.oneCell'=true/\RA ν g u x
theorem j3.Fe {v:Value} {e:Nat} {ys:List (List AV)} {news:List Value} (h:j3 ν g v e ys news):xt ν P g v e ys news:=by
 obtain⟨⟨a,c,rfl,ha⟩,hn,hr⟩:=h;refine⟨λw hw=>⟨by simp[Builtin.lenOf],?_⟩,hn,hr⟩;rcases ha with h0 | ⟨b,off,rfl,hc⟩
 ·have:news=[]:=List.eq_nil_of_length_eq_zero (by rw[hn,h0];simp);subst this;cases a with
  |none=>simp[Builtin.firstCells]
  |some a=>simp[Builtin.firstCells,h0,loadCells,loadCellsFrom]
 ·exact run_firstCells_some w e ys.length _ _ _ news hn λj u hu=>by rw[Addr.add_lit];exact hw _ _ _ (hc j u hu)
theorem j4 {b off e m cap:Nat} {ys:List (List AV)} (hm:m=ys.length) (hl:∀c ∈ ys,c.length=e)
  (hc:∀(i j:Nat) (c:List AV) (x:AV),ys[i]?=some c->c[j]?=some x->∃u,g.w.cell? ⟨b,off+i*e+j,none⟩=some u/\u.oneCell'=true/\RA ν g u x) :
  ∃news,j3 ν g (.slice (some ⟨b,off,none⟩) m cap) e ys news:=by
 subst hm;obtain⟨F,hF⟩:=q9 (cs:=ys) (P:=λi (f:Nat->Value) c=>∀(j:Nat) (x:AV),c[j]?=some x->g.w.cell? ⟨b,off+i*e+j,none⟩=some (f j)/\(f j).oneCell'=true/\RA ν g (f j) x)
  λi c kT=>pick λj x hx=>hc i j c x kT hx
 obtain⟨news,hn,rm⟩:=oD (e:=e) (m:=ys.length) (f:=F);refine⟨news,⟨_,cap,rfl,.inr ⟨b,off,rfl,λp u hu=>?_⟩⟩,hn,hl,λi j c x h1 h2=>?_⟩
 ·have hp:=aA hu;rw[hn]at hp;obtain⟨i,j,hi,hj,rfl⟩:=kY hp;rw[rm i j hi hj]at hu;cases hu;have hle:=hl _ (List.getElem_mem hi);rw[<-Nat.add_assoc];exact(hF i _ (List.getElem?_eq_getElem hi) j _ (List.getElem?_eq_getElem (by omega))).1
 ·have hi:=aA h1;have hj:j<e:=by have:=aA h2;rwa [hl c (List.mem_of_getElem? h1)]at this
  exact⟨_,rm i j hi hj,(hF i c h1 j x h2).2⟩
theorem ga {v:Value} {e:Nat} {a:Option Addr} {c:Nat} (hv:v = .slice a 0 c):j3 ν g v e [] []:=
 ⟨⟨a,c,hv,.inl rfl⟩,by simp,λc h=>by simp at h,λi j c x h=>by simp at h⟩
theorem j5 (r:Rel ν k g) {e:Nat} {x:AV} {ys:List (List AV)} {h':Hp} (e':(elems e x).run g.h=some (ys,h')) {v:Value} (hv:RA ν g v x):h'=g.h/\∃news,j3 ν g v e ys news:=by
 cases hv with
 |undef=>exact(ae e').elim
 |cI=>exact(ae e').elim
 |agg=>exact(ae e').elim
 |aR=>exact(ae e').elim
 |ref=>exact(ae e').elim
 |bJ=>exact(ae e').elim
 |iv hr=>
  cases hr with
  |az a _=>obtain⟨rfl,rfl⟩:=af e';exact⟨rfl,_,ga rfl⟩
  |dS a cap _=>
   obtain⟨-,e2⟩:=M.aj e';obtain⟨rfl,rfl⟩:=af e2;exact⟨rfl,_,ga rfl⟩
  |sl b off n cap aJ es f hI hn eF lr hc hr=>
   obtain⟨he,e2⟩:=M.aj e';obtain⟨rfl,rfl⟩:=af e2;have cB:aJ=e:=by simpa using he
   subst cB;refine⟨rfl,j4 (by simpa using hn) (λc bH=>?_) (λi j c x h1 h2=>?_)⟩
   ·simp only[List.mem_map]at bH;obtain⟨c',bH,rfl⟩:=bH;simpa using lr c' bH
   ·simp only[List.getElem?_map,Option.map_eq_some_iff]at h1;obtain⟨c',h1,rfl⟩:=h1;simp only[List.getElem?_map,Option.map_eq_some_iff]at h2;obtain⟨x',h2,rfl⟩:=h2;exact⟨_,hc i j c' x' h1 h2,(hr i j c' x' h1 h2).one,.iv (hr i j c' x' h1 h2)⟩
  |_=>exact(ae e').elim
 |@own _ id o m ai jU ho=>
  obtain⟨ob,hg,e2⟩:=M.aM e';have fin:∀{L:Nat} {ys:List (List AV)},ys.length=m->(∀c ∈ ys,c.length=e)->
    (∀b,g.φ id=some b->∀(i j:Nat) (c:List AV) (x:AV),ys[i]?=some c->c[j]?=some x->∃u,g.w.cell? ⟨b,(o+i)*e+j,none⟩=some u/\u.oneCell'=true/\RA ν g u x)->
    cF g.w (g.φ id) e L o m v->∃news,j3 ν g v e ys news:=by
   intro L ys FQ mW J2 hs;by_cases hm:m=0
   ·subst hm;have:ys=[]:=List.eq_nil_of_length_eq_zero FQ;subst this;cases ah:g.φ id with
    |none=>rw[ah]at hs;obtain⟨⟨a,rfl⟩,_⟩:=hs;exact⟨[],ga rfl⟩
    |some b=>rw[ah]at hs;obtain⟨x,cap,rfl,_⟩:=hs;exact⟨[],ga rfl⟩
   ·cases ah:g.φ id with
    |none=>rw[ah]at hs;obtain⟨_,h0,_⟩:=hs;exact absurd h0 hm
    |some b=>
     rw[ah]at hs;obtain⟨x,cap,rfl,h2,_,h3,h4,_⟩:=hs;have hx:x=o*e:=h4.resolve_right λh=>hm h.1
     subst hx;exact j4 FQ.symm mW λi j c y h1 h2=>by
      obtain⟨u,hu,hR⟩:=J2 b ah i j c y h1 h2;exact⟨u,by rwa [Nat.add_mul]at hu,hR⟩
  unfold aH at ho;rw[hg]at ho;cases ob with
  |map _=>exact ho.elim
  |buf v' aJ es=>
   obtain⟨cz,dm⟩:=M.aj e2;obtain⟨rfl,rfl⟩:=af dm;simp only[Bool.and_eq_true,beq_iff_eq]at cz;obtain⟨rfl,rfl⟩:=cz;have hs:=ho.2 rfl;have hf:=hs.fits;obtain⟨b',h1,_,_,aC⟩:=r.ob id _ hg;exact⟨rfl,fin (by simp;omega) (λc hc=>aC.1 c (List.mem_of_mem_drop (List.mem_of_mem_take hc))) (λb hb i j c x h2 h3=>by
    rw[hb]at h1;cases h1;exact aC.2 _ j c x (jm h2).2 h3) hs⟩
  |bb v' aJ es=>
   obtain⟨cz,dm⟩:=M.aj e2;obtain⟨rfl,rfl⟩:=af dm;simp only[Bool.and_eq_true,beq_iff_eq]at cz;obtain⟨rfl,rfl⟩:=cz;have hs:=ho.2 rfl;have hf:=hs.fits;obtain⟨b',h1,_,aC⟩:=r.ob id _ hg;refine⟨rfl,fin (by simp;omega) (λc hc=>?_) (λb hb i j c x h2 h3=>?_) hs⟩
   ·simp only[List.mem_map]at hc;obtain⟨c',bH,rfl⟩:=hc;simpa using aC.1 c' (List.mem_of_mem_drop (List.mem_of_mem_take bH))
   ·rw[hb]at h1;cases h1;simp only[List.getElem?_map,Option.map_eq_some_iff]at h2;obtain⟨c',h2,rfl⟩:=h2;simp only[List.getElem?_map,Option.map_eq_some_iff]at h3;obtain⟨x',h3,rfl⟩:=h3;obtain⟨u,hu,hR⟩:=aC.2 _ j c' x' (jm h2).2 h3;exact⟨u,hu,hR.one,.iv hR⟩
  |cells cs=>
   obtain⟨cz,dm⟩:=M.aj e2;obtain⟨rfl,rfl⟩:=af dm;simp only[Bool.and_eq_true,beq_iff_eq]at cz;obtain⟨-,rfl⟩:=cz;have hf:=ho.2.fits;obtain⟨b',h1,_,_,aC⟩:=r.ob id _ hg;refine⟨rfl,fin (by simp;omega) (λc hc=>?_) (λb hb i j c x h2 h3=>?_) ho.2⟩
   ·simp only[List.mem_map]at hc;obtain⟨c',bH,rfl⟩:=hc;rfl
   ·rw[hb]at h1;cases h1;simp only[List.getElem?_map,Option.map_eq_some_iff]at h2;obtain⟨c',h2,rfl⟩:=h2;cases j with
    |succ j=>simp at h3
    |zero=>
     simp at h3;subst h3;have:=aC _ _ (jm h2).2;simpa using this
  |da cs=>
   obtain⟨cz,dm⟩:=M.aj e2;obtain⟨rfl,rfl⟩:=af dm;simp only[Bool.and_eq_true,beq_iff_eq]at cz;obtain⟨-,rfl⟩:=cz;have hf:=ho.2.fits;obtain⟨b',h1,_,aC⟩:=r.ob id _ hg;refine⟨rfl,fin (by simp;omega) (λc hc=>?_) (λb hb i j c x h2 h3=>?_) ho.2⟩
   ·simp only[List.mem_map]at hc;obtain⟨c',bH,rfl⟩:=hc;rfl
   ·rw[hb]at h1;cases h1;simp only[List.getElem?_map,Option.map_eq_some_iff]at h2;obtain⟨c',h2,rfl⟩:=h2;cases j with
    |succ j=>simp at h3
    |zero=>
     simp at h3;subst h3;obtain⟨u,hu,hR⟩:=aC _ _ (jm h2).2;exact⟨u,by simpa using hu,hR.one,.iv hR⟩
theorem y7 (r:Rel ν k g) {e:Nat} {x:AV} {ys:List (List AV)} {h':Hp} (e':(lR e x).run g.h=some (ys,h')) {v:Value} (hv:RA ν g v x):h'=g.h/\∃news,xt ν P g v e ys news:=by
 unfold lR at e';split at e'
 ·rename_i s;obtain⟨he,e2⟩:=M.aj e';obtain⟨rfl,rfl⟩:=af e2;have cB:e=1:=by simpa using he
  subst cB;obtain rfl:=hv.str;refine⟨rfl,s.data.toList.map λb=>.int .u8 b.toNat,λw _=>⟨by simp[Builtin.lenOf,jl],?_⟩,by simp[jl],λc hc=>?_,λi j c x h1 h2=>?_⟩
  ·have hx:s.extract 0 (jl s).length=s:=by
    have:(jl s).length=s.size:=by simp[jl]
    rw[this];apply ByteArray.ext;simp
   simp only[Builtin.firstCells,hx];simp[Array.ext_iff]
  ·simp only[jl,List.mem_map]at hc;obtain⟨b,_,rfl⟩:=hc;rfl
  ·simp only[jl,List.getElem?_map,Option.map_eq_some_iff]at h1;obtain⟨b,hb,rfl⟩:=h1;cases j with
   |succ j=>simp at h2
   |zero=>
    simp at h2;subst h2;exact⟨.int .u8 b.toNat,by simp[hb],rfl,.iv (.int _ _)⟩
 ·obtain⟨h1,news,h2⟩:=j5 r e' hv;exact⟨h1,news,h2.Fe⟩
theorem fk {t u ty:TypeId} {e:Nat} (ht:oE P t u e=true) {base:Option Addr} {n cap:Nat} {olds:List Value} (iD:olds.length=n*e)
  (ho:n=0\/∃b x,base=some ⟨b,x,none⟩/\∀(p:Nat) (u:Value),olds[p]?=some u->g.w.cell? ⟨b,x+p,none⟩=some u) {y:Value} {ys:List (List AV)} {news:List Value} (hy:xt ν P g y e ys news)
  (dk:cap<n+ys.length->n+ys.length<=1073741824) :
  (n+ys.length<=cap/\∀R,(match base with | some a=>(storeCells (a.add (n*e)) news).run P g.w | none=>.ok () g.w) = .ok () R->
    (Builtin.append_ #[t,u] ty #[.slice base n cap,y]).run P g.w = .ok (.slice base (n+ys.length) cap) R)\/
  (cap<n+ys.length/\∃(el dw:Nat) (arr:Array Value),P.underlying t=some (.slice el)/\n+ys.length<=dw/\arr.size=dw*e/\(∀(p:Nat) (x:Value),(olds++news)[p]?=some x->arr[p]?=some x)/\
    (Builtin.append_ #[t,u] ty #[.slice base n cap,y]).run P g.w = .ok (.slice (some ⟨g.w.heap.size,0,none⟩) (n+ys.length) dw) (g.w.drew.alloc (.cells arr el))):=by
 obtain⟨el,d,i,z,hu,hd,JN,hi,rfl,hb,hz,kB,dK⟩:=tb ht;obtain⟨f1,f2⟩:=hy.1 g.w λ_ _ _ h=>h
 by_cases hc:n+ys.length<=cap
 ·refine .inl ⟨hc,λR hR=>?_⟩;cases base with
  |none=>
   simp only[Result.ok.injEq,true_and]at hR;subst hR;simp[Builtin.append_,run_underlying hu,run_underlying hd,run_sizeOf hi,f1,f2,hc]
  |some a=>
   simp only[]at hR;simp[Builtin.append_,run_underlying hu,run_underlying hd,run_sizeOf hi,f1,f2,hc,hR]
 ·have dk:=dk (by omega);refine .inr ⟨by omega,el,grownCap g.w (n+ys.length) cap el,olds.toArray++news.toArray++Builtin.zeroCells z.cells (grownCap g.w (n+ys.length) cap el - (n+ys.length)),hu,grownCap_ge _ _ _ _,?_,?_,?_⟩
  ·have:=grownCap_ge g.w (n+ys.length) cap el;simp only[Array.size_append,List.size_toArray];rw[size_zeroCells,kB,iD,hy.2.1,<-Nat.add_mul,<-Nat.add_mul];congr 1;omega
  ·intro p x hx;have hp:=aA hx;rw[Array.getElem?_append_left (by simpa using hp)];simpa using hx
  ·obtain⟨-,Cz⟩:=hy.1 g.w.drew λ_ _ _ h=>h
   have hold:(Builtin.firstCells i.size n (.slice base n cap)).run P g.w.drew = .ok olds.toArray g.w.drew:=by
    rcases ho with h0 | ⟨b,x,rfl,ek⟩
    ·have:olds=[]:=List.eq_nil_of_length_eq_zero (by rw[iD,h0];simp);subst this;cases base with
     |none=>simp[Builtin.firstCells]
     |some a=>simp[Builtin.firstCells,h0,loadCells,loadCellsFrom]
    ·exact run_firstCells_some g.w.drew i.size n _ _ _ olds iD λj x hx=>by rw[Addr.add_lit];exact ek j x hx
   have eF:=lx (need:=n+ys.length) (cap:=cap) (bytes:=i.bytes) (by omega) dk hb;have uf:¬(281474976710656<Builtin.nextslicecap (n+ys.length) cap*i.bytes):=by omega
   have CA:¬((9223372036854775807:Int)<(n:Int)+ys.length):=by omega
   simp[Builtin.append_,run_underlying hu,run_underlying hd,run_sizeOf hi,f1,hc,CA,typeInfo,hi,uf,Question.forced,hold,Cz,zeroValue,hz,newRow,grownCap];congr 2;apply Array.ext';simp
theorem ug (r:Rel ν k g) {slot:Nat} {t u ty:TypeId} {e:Nat} (ht:oE P t u e=true) {byte:Bool} (Bs:byte=true->P.underlying t=some (.slice (ν lT))) {v yv:Value} {x y z:AV} (hv:RA ν g v x) (yu:RA ν g yv y) {h':Hp}
  (e':(app e slot byte x y).run g.h=some (z,h')):bf ν k g h' z ((Builtin.append_ #[t,u] ty #[v,yv]).run P g.w):=by
 obtain⟨ys,h1,e1,e2⟩:=ag e';obtain⟨rfl,news,hy⟩:=y7 (P:=P) r e1 yu;have oF:=hy.2.1;have mW:=hy.2.2.1;have rn:=hy.2.2.2;have Bt:∀u ∈ news,u.oneCell'=true:=by
  intro u hu;obtain⟨p,hp⟩:=List.getElem?_of_mem hu;have aV:=aA hp;rw[oF]at aV;obtain⟨i,j,hi,hj,rfl⟩:=kY aV;have hle:=mW _ (List.getElem_mem hi);obtain⟨u',dv,h1,_⟩:=rn i j _ _ (List.getElem?_eq_getElem hi) (List.getElem?_eq_getElem (by omega));rw[hp]at dv;cases dv;exact h1
 cases hv with
 |undef=>exact(ae e2).elim
 |cI=>exact(ae e2).elim
 |agg=>exact(ae e2).elim
 |aR=>exact(ae e2).elim
 |ref=>exact(ae e2).elim
 |bJ=>exact(ae e2).elim
 |iv hr=>
  cases hr with
  |az a _=>
   simp only[]at e2;split at e2
   ·rename_i h0;have h0:ys=[]:=by simpa using h0
    subst h0;obtain⟨rfl,rfl⟩:=af e2;have gu:news=[]:=List.eq_nil_of_length_eq_zero (by simpa using oF);subst gu;rcases fk (ty:=ty) (base:=a) (n:=0) (cap:=0) (olds:=[]) ht (by simp) (.inl rfl) hy (by simp)with⟨hc,bd⟩|⟨hc,_⟩
    ·exact .same r (bd g.w (by cases a<;>simp[storeCells])) (.iv (.az _ _))
    ·simp at hc
   ·rename_i h0;obtain⟨dk,e4⟩:=M.aj e2;obtain⟨_,h3,e5,e6⟩:=ag e4;obtain⟨hf,rfl⟩:=M.cq e5;obtain⟨_,h4,e7,e8⟩:=ag e6;obtain rfl:=aL e7;obtain⟨rfl,rfl⟩:=af e8;have fN:0+ys.length<=1073741824:=by simpa[roomy]using dk
    rcases fk (ty:=ty) (base:=a) (n:=0) (cap:=0) (olds:=[]) ht (by simp) (.inl rfl) hy (λ_=>fN)with⟨hc,_⟩|⟨hc,el,dw,arr,iF,h1,h2,h3,bd⟩
    ·exact absurd (List.eq_nil_of_length_eq_zero (show ys.length=0 by omega)) (by simpa using h0)
    ·simp only[Nat.zero_add,List.nil_append]at *;rw[bd];exact mz r (.inr rfl) hf (by
      cases byte with
      |false=>left;simp
      |true=>
       right;have:=Bs rfl;rw[iF]at this;refine⟨by simp,?_⟩;cases this;rfl) rfl mW h1 h2 λi j c x hi hj=>by
      obtain⟨u,hu,h4,h5⟩:=rn i j c x hi hj;exact⟨u,h3 _ _ hu,h4,h5⟩
  |_=>exact(ae e2).elim
 |@own _ id o n ai jU ho=>
  obtain⟨ob,hg,e4⟩:=M.aM e2;unfold aH at ho;rw[hg]at ho;cases ob with
  |cells _=>exact(ae e4).elim
  |da _=>exact(ae e4).elim
  |bb _ _ _=>exact(ae e4).elim
  |map _=>exact(ae e4).elim
  |buf v' aJ es=>
   obtain⟨bt,e6⟩:=M.aj e4;simp only[Bool.and_eq_true,beq_iff_eq]at bt;obtain⟨rfl,rfl⟩:=bt;have hs:=ho.2 rfl;obtain⟨b,ah,bZ,ca,aC⟩:=r.ob id _ hg;rw[ah]at hs;obtain⟨x,cap,rfl,q2,qL,q3,q4,q5⟩:=hs;obtain⟨V,hV⟩:=nS aC;obtain⟨olds,iD,holds⟩:=oD (e:=aJ) (m:=n) (f:=λi j=>V (o+i) j);have dI:n=0\/∃b' x',some (⟨b,x,none⟩:Addr)=some ⟨b',x',none⟩/\∀(p:Nat) (u:Value),olds[p]?=some u->g.w.cell? ⟨b',x'+p,none⟩=some u:=by
    by_cases hn:n=0
    ·exact .inl hn
    ·have hx:x=o*aJ:=q4.resolve_right λh=>hn h.1
     refine .inr ⟨b,x,rfl,λp u hp=>?_⟩;have aV:=aA hp;rw[iD]at aV;obtain⟨i,j,hi,hj,rfl⟩:=kY aV;rw[holds i j hi hj]at hp;cases hp;have kT:es[o+i]?=some es[o+i]:=List.getElem?_eq_getElem (by omega);have hle:=aC.1 _ (List.getElem_mem (show o+i<es.length by omega));have:=(hV (o+i) j _ _ kT (List.getElem?_eq_getElem (by omega))).1;rw[hx,<-Nat.add_assoc,<-Nat.add_mul];exact this
   split at e6
   ·
    rename_i cK;obtain⟨_,h4,e7,e8⟩:=ag e6;obtain rfl:=aL e7;obtain⟨rfl,rfl⟩:=af e8;rcases fk (ty:=ty) (base:=some ⟨b,x,none⟩) (n:=n) (cap:=cap) (olds:=olds) ht iD dI hy (λh=>by omega)with⟨hc,bd⟩|⟨hc,_⟩
    ·by_cases hk:ys.length=0
     ·have h0:ys=[]:=List.eq_nil_of_length_eq_zero hk;subst h0;have gu:news=[]:=List.eq_nil_of_length_eq_zero (by simpa using oF);subst gu;have kZ:=bd g.w (by simp[storeCells]);have yx:cn es (o+n) []=es:=by simp[cn]
      rw[yx];have ef:=r.put (id:=id) (v:=v') (e:=aJ) (b:=b) (off:=0) (v':=v') (es:=es) (es':=es) (vs:=[]) hg ah (λj hj=>by simp at hj) (.inl ⟨rfl,rfl⟩) (λg' hw hm=>aC.mono hm λoff v hc=>by rw[hw];exact hc);refine⟨{ g with w:=g.w.setCells b 0 [],h:=set g.h id (.buf v' aJ es) },_,kZ,rfl,ef.1,ef.2,.own rfl ?_⟩;unfold aH;simp only[aq,ah];exact⟨Nat.le_refl _,λ_=>⟨x,cap,rfl,q2,qL,q3,q4,q5⟩⟩
     ·have hx:x=o*aJ:=q4.resolve_right λh=>by have:=h.2.2;omega
      subst hx;have q5:=q5 rfl;have hex:∀j,j<news.length->(g.w.cell? ⟨b,(o+n)*aJ+j,none⟩).isSome=true:=λj hj=>q5 _ (by
       have:(o+n)*aJ+ys.length*aJ<=(o+cap)*aJ:=by rw[<-Nat.add_mul];exact Nat.mul_le_mul_right _ (by omega)
       omega)
      have fU:=run_storeCells_cells (P:=P) b ((o+n)*aJ) news 0 g.w (by simpa using hex) (λ_ _=>ca.2 _) Bt;have kZ:=bd (g.w.setCells b ((o+n)*aJ) news) (by simp only[Addr.add_lit,<-Nat.add_mul];simpa using fU);have ef:=r.put (id:=id) (v:=v') (e:=aJ) (b:=b) (off:=(o+n)*aJ) (v':=v') (es:=es) (es':=cn es (o+n) ys) (vs:=news) hg ah hex (.inl ⟨rfl,(dj _ _ _ cK).symm⟩) (λg' hw hm=>by
       refine⟨λc hc=>?_,λi j c x hi hj=>?_⟩
       ·simp only[cn,List.mem_append]at hc;rcases hc with(h | h) | h
        ·exact aC.1 c (List.mem_of_mem_take h)
        ·exact mW c h
        ·exact aC.1 c (List.mem_of_mem_drop h)
       ·rw[hw,cT _ _ _ _ hex];rw[fZ _ _ _ cK]at hi;split at hi
        ·rename_i dT;obtain⟨w,rN,h5,hR⟩:=rn (i - (o+n)) j c x hi hj;have aV:=aA rN;have:(o+n)*aJ+(i - (o+n))*aJ=i*aJ:=by rw[<-Nat.add_mul];congr 1;omega
         rw[if_pos (by omega),show i*aJ+j - (o+n)*aJ=(i - (o+n))*aJ+j by omega];exact⟨w,rN,h5,hm _ _ hR⟩
        ·rename_i dT;have mX:=aC.len hi hj;have cW:¬((o+n)*aJ<=i*aJ+j/\i*aJ+j<(o+n)*aJ+news.length):=by
          intro⟨ha,hb⟩;rw[oF]at hb;rcases Nat.lt_or_ge i (o+n)with aV | pV
          ·have:i*aJ+aJ<=(o+n)*aJ:=by rw[<-Nat.succ_mul];exact Nat.mul_le_mul_right _ aV
           omega
          ·have:(o+n)*aJ+ys.length*aJ<=i*aJ:=by rw[<-Nat.add_mul];exact Nat.mul_le_mul_right _ (by omega)
           omega
         rw[if_neg cW];obtain⟨w,rN,h5,hR⟩:=aC.2 i j c x hi hj;exact⟨w,rN,h5,hm _ _ hR⟩)
      refine⟨_,_,kZ,rfl,ef.1,ef.2,.own rfl ?_⟩;unfold aH;simp only[aq,ah];rw[dj _ _ _ cK];exact⟨Nat.le_refl _,λ_=>⟨_,cap,rfl,by omega,by omega,by omega,.inl rfl,λ_ c hc=>fb _ _ _ _ hex _ (q5 c hc)⟩⟩
    ·omega
   ·
    rename_i cK;obtain⟨bt,e8⟩:=M.aj e6;obtain⟨_,h5,e9,dm⟩:=ag e8;obtain rfl:=aL e9;obtain⟨rfl,rfl⟩:=af dm;simp only[Bool.and_eq_true,beq_iff_eq,Bool.or_eq_true]at bt;obtain⟨⟨rfl,dk⟩,Ff⟩:=bt;have fN:n+ys.length<=1073741824:=by simpa[roomy]using dk
    have hx:x=0:=by
     rcases q4 with h | h
     ·simpa using h
     ·exact absurd rfl h.2.1
    subst hx;have q5:=q5 (by simp);have rp:(es.take n).length=n:=by simp;omega
    rcases fk (ty:=ty) (base:=some ⟨b,0,none⟩) (n:=n) (cap:=cap) (olds:=olds) ht iD dI hy (λ_=>fN)with⟨hc,bd⟩|⟨hc,el,dw,arr,iF,h1,h2,h3,bd⟩
    ·
     have hex:∀j,j<news.length->(g.w.cell? ⟨b,n*aJ+j,none⟩).isSome=true:=λj hj=>q5 _ (by
      have:n*aJ+ys.length*aJ<=cap*aJ:=by rw[<-Nat.add_mul];exact Nat.mul_le_mul_right _ hc
      rw[Nat.zero_add];omega)
     have fU:=run_storeCells_cells (P:=P) b (n*aJ) news 0 g.w (by simpa using hex) (λ_ _=>ca.2 _) Bt;have kZ:=bd (g.w.setCells b (n*aJ) news) (by simpa[Addr.add_lit]using fU);have ef:=r.put (id:=id) (v:=v') (e:=aJ) (b:=b) (off:=n*aJ) (v':=v'+1) (es:=es) (es':=es.take n++ys) (vs:=news) hg ah hex (.inr rfl) (λg' hw hm=>by
      refine⟨λc hc=>?_,λi j c x hi hj=>?_⟩
      ·rcases List.mem_append.1 hc with h | h
       ·exact aC.1 c (List.mem_of_mem_take h)
       ·exact mW c h
      ·rw[hw,cT _ _ _ _ hex];rw[List.getElem?_append]at hi;simp only[rp]at hi;split at hi
       ·rename_i dT;rw[List.getElem?_take,if_pos dT]at hi;have mX:=aC.len hi hj;have:i*aJ+aJ<=n*aJ:=by rw[<-Nat.succ_mul];exact Nat.mul_le_mul_right _ dT
        rw[if_neg (by omega)];obtain⟨w,hw,h5,hR⟩:=aC.2 i j c x hi hj;exact⟨w,hw,h5,hm _ _ hR⟩
       ·rename_i dT;obtain⟨w,hw,h5,hR⟩:=rn (i - n) j c x hi hj;have aV:=aA hw;have:n*aJ+(i - n)*aJ=i*aJ:=by rw[<-Nat.add_mul];congr 1;omega
        rw[if_pos (by omega),show i*aJ+j - n*aJ=(i - n)*aJ+j by omega];exact⟨w,hw,h5,hm _ _ hR⟩)
     refine⟨_,_,kZ,rfl,ef.1,ef.2,.own rfl ?_⟩;unfold aH;simp only[aq,ah];refine⟨Nat.le_refl _,λ_=>⟨0,cap,rfl,by simp;omega,by simp;omega,hc,.inl (by simp),λ_ c hc=>fb _ _ _ _ hex _ (q5 c hc)⟩⟩
    ·
     have ht:=r.gO (s:=id) (ob:=.buf (v'+1) aJ (es.take n++ys)) (p:=some g.w.heap.size) (w':=g.w.drew.alloc (.cells arr el)) (I':=g.I) hg (λb' h=>by rw[ah]at h;cases h;exact bZ) (by simp) rfl rfl rfl
      (λb hb _=>alloc_old g.w.drew _ _ hb) (λ_ h=>h) (λ_ h=>.inl h) (.inr ⟨_,rfl,Nat.le_refl _⟩)
      (λb h=>by
       cases h;rcases Ff with h | ⟨h,hb⟩
       ·exact .zero h
       ·have:=Bs hb;rw[iF]at this;cases this;exact⟨by omega,λ_=>⟨_,gI g.w.drew _ _⟩,by omega⟩)
      (λw o n ai h=>by
       unfold aH at h ⊢;rw[hg]at h;simp only[aq,aw];have:=h.1;exact⟨by omega,λhe=>by omega⟩)
      (λw ai i j h=>by
       unfold aI at h ⊢;rw[hg]at h;simp only[aq,aw];have:=h.1;exact⟨by omega,λhe=>by omega⟩)
      (λ_ hm=>by
       refine⟨g.w.heap.size,aw _ _ _,λbX=>Nat.lt_irrefl _ (r.small _ bX),⟨by simp,λo=>World.frozen?_alloc_new g.w.drew _ _ _⟩,λc hc=>?_,λi j c x hi hj=>?_⟩
       ·rcases List.mem_append.1 hc with h | h
        ·exact aC.1 c (List.mem_of_mem_take h)
        ·exact mW c h
       ·have key:∃u,(olds++news)[i*aJ+j]?=some u/\u.oneCell'=true/\RA ν g u x:=by
         rw[List.getElem?_append]at hi;simp only[rp]at hi;split at hi
         ·rename_i dT;rw[List.getElem?_take,if_pos dT]at hi;have mX:=aC.len hi hj;have:i*aJ+aJ<=n*aJ:=by rw[<-Nat.succ_mul];exact Nat.mul_le_mul_right _ dT
          refine⟨V i j,?_,(hV i j c x hi hj).2⟩;rw[List.getElem?_append_left (by omega),holds i j dT mX,Nat.zero_add]
         ·rename_i dT;obtain⟨w,hw,h5,hR⟩:=rn (i - n) j c x hi hj;have:n*aJ+(i - n)*aJ=i*aJ:=by rw[<-Nat.add_mul];congr 1;omega
          refine⟨w,?_,h5,hR⟩;rw[List.getElem?_append_right (by omega),iD,show i*aJ+j - n*aJ=(i - n)*aJ+j by omega];exact hw
        obtain⟨u,hu,h5,hR⟩:=key;exact⟨u,by simp only[];rw[show(g.w.drew.alloc (.cells arr el)).cell? ⟨g.w.heap.size,i*aJ+j,none⟩=arr[i*aJ+j]? from World.cell?_alloc_new g.w.drew _ _ _];exact h3 _ _ hu,h5,hm _ _ hR⟩)
     refine⟨_,_,bd,rfl,ht.1,ht.2,.own rfl ?_⟩;unfold aH;simp only[aq,aw];refine⟨Nat.le_refl _,λ_=>⟨0,dw,rfl,by simp;omega,by simp;omega,h1,.inl (by simp),λ_ c hc=>?_⟩⟩;rw[show(g.w.drew.alloc (.cells arr el)).cell? ⟨g.w.heap.size,c,none⟩=arr[c]? from World.cell?_alloc_new g.w.drew _ _ _,Array.getElem?_eq_getElem (by rw[h2];simpa using hc)];rfl
end
section
variable {ν:Nat->Nat} {P:Program} {k:Cx} {g:Gh}
def Ao (P:Program) (t:TypeId) (e:Nat) (z:List AV):Bool:=
 match P.underlying t with
 |some (.slice el)=>iS P el e&&k7 P el z
 |_=>false
theorem uh (r:Rel ν k g) {t ty:TypeId} {e:Nat} {z:List AV} (ht:Ao P t e z=true) {v:Value} {x y:AV} (hv:RA ν g v x) {h':Hp} (e':(ko e z x).run g.h=some (y,h')) :
  bf ν k g h' y ((Builtin.clear_ #[t] ty #[v]).run P g.w):=by
 unfold Ao at ht;split at ht
 case h_2=>cases ht
 rename_i el hu;simp only[Bool.and_eq_true]at ht;obtain⟨bC,hz⟩:=ht;obtain⟨i,hi,rfl⟩:=fi bC;obtain⟨i',zv,bX,oC,fV⟩:=jN hz;rw[hi]at bX;cases bX;have yw:∀g:Gh,RA ν g (.tuple #[]) (.aR []):=λg=>.aR rfl λj v c h=>by simp at h
 cases hv with
 |undef=>exact(ae e').elim
 |cI=>exact(ae e').elim
 |agg=>exact(ae e').elim
 |aR=>exact(ae e').elim
 |ref=>exact(ae e').elim
 |bJ=>exact(ae e').elim
 |iv hr=>
  cases hr with
  |az a _=>
   obtain⟨rfl,rfl⟩:=af e';exact .same r (v:=.tuple #[]) (by cases a<;>simp[Builtin.clear_,run_underlying hu]) (yw g)
  |_=>exact(ae e').elim
 |@own _ id o n ai jU ho=>
  obtain⟨ob,hg,e4⟩:=M.aM e';unfold aH at ho;rw[hg]at ho;cases ob with
  |cells _=>exact(ae e4).elim
  |da _=>exact(ae e4).elim
  |bb _ _ _=>exact(ae e4).elim
  |map _=>exact(ae e4).elim
  |buf v' aJ es=>
   obtain⟨bt,e6⟩:=M.aj e4;simp only[Bool.and_eq_true,beq_iff_eq]at bt;obtain⟨⟨rfl,rfl⟩,ta⟩:=bt;obtain⟨_,h4,e7,e8⟩:=ag e6;obtain rfl:=aL e7;obtain⟨rfl,rfl⟩:=af e8;have hs:=ho.2 rfl;have kB:zv.cells.size=i.size:=by have:=(hY fV).1;simp at this;omega
   obtain⟨b,ah,bZ,ca,aC⟩:=r.ob id _ hg;rw[ah]at hs;obtain⟨x,cap,rfl,q2,qL,q3,q4,q5⟩:=hs;generalize eR:(Builtin.zeroCells zv.cells n).toList=vs;have ui:vs.length=n*i.size:=by rw[<-eR];simp[size_zeroCells,kB]
   obtain⟨J3,eS⟩:=hY fV;have gV:∀(p:Nat),p<zv.cells.size->∃y,z[p]?=some y/\sQ zv.cells[p]! y=true:=by
    intro p hp;have FR:p<z.length:=by simp at J3;omega
    obtain⟨w,hw,hc⟩:=eS p _ (List.getElem?_eq_getElem FR);refine⟨_,List.getElem?_eq_getElem FR,?_⟩;have:w=zv.cells[p]!:=by
     have h':zv.cells[p]?=some w:=by simpa using hw
     rw[Array.getElem?_eq_getElem hp]at h';rw[getElem!_pos zv.cells p hp];exact(Option.some.inj h').symm
    rw[<-this];exact hc
   have ed:∀u ∈ vs,u.oneCell'=true:=by
    intro u dv;rw[<-eR]at dv;simp only[Builtin.zeroCells,Array.toList_map,List.mem_map]at dv;obtain⟨p,hp,rfl⟩:=dv;simp only[Array.toList_range,List.mem_range]at hp;have aV:p % zv.cells.size<zv.cells.size:=Nat.mod_lt _ (by
     rcases Nat.eq_zero_or_pos zv.cells.size with h0 | h0
     ·rw[h0]at hp;simp at hp
     ·exact h0)
    obtain⟨y, -,hc⟩:=gV _ aV;exact(ke (ν:=ν) hc g).1
   have hex:∀j,j<vs.length->(g.w.cell? ⟨b,o*i.size+j,none⟩).isSome=true:=by
    intro j hj;have gu:n≠0:=λh=>by rw[ui,h]at hj;simp at hj
    have hx:x=o*i.size:=q4.resolve_right λh=>gu h.1
    refine q5 hx _ ?_;have:n*i.size<=cap*i.size:=Nat.mul_le_mul_right _ q3;rw[Nat.add_mul];omega
   have bd:(Builtin.clear_ #[t] ty #[.slice (some ⟨b,x,none⟩) n cap]).run P g.w = .ok (.tuple #[]) (g.w.setCells b (o*i.size) vs):=by
    by_cases gu:n=0
    ·subst gu;have:vs=[]:=List.eq_nil_of_length_eq_zero (by simpa using ui);subst this;simp[Builtin.clear_,run_underlying hu,World.setCells]
    ·have hx:x=o*i.size:=q4.resolve_right λh=>gu h.1
     subst hx;have fU:=run_storeCells_cells (P:=P) b (o*i.size) vs 0 g.w (by simpa using hex) (λ_ _=>ca.2 _) ed;simp only[Nat.add_zero]at fU;have tR:∀m,n=m+1->(Builtin.clear_ #[t] ty #[.slice (some ⟨b,o*i.size,none⟩) n cap]).run P g.w = .ok (.tuple #[]) (g.w.setCells b (o*i.size) vs):=by
      intro m hm;subst hm;simp[Builtin.clear_,run_underlying hu,zeroValue,typeInfo,hi,oC,eR,fU]
     exact tR (n - 1) (by omega)
   have ef:=r.put (id:=id) (v:=v') (e:=i.size) (b:=b) (off:=o*i.size) (v':=v') (es:=es) (es':=es.take o++List.replicate n z++es.drop (o+n)) (vs:=vs) hg ah hex (.inl ⟨rfl,by simp;omega⟩) (λg' hw hm=>by
    have CC:(es.take o).length=o:=by simp;omega
    refine⟨λc hc=>?_,λa j c y ha hj=>?_⟩
    ·simp only[List.mem_append]at hc;rcases hc with(h | h) | h
     ·exact aC.1 c (List.mem_of_mem_take h)
     ·rw[List.eq_of_mem_replicate h];exact ta
     ·exact aC.1 c (List.mem_of_mem_drop h)
    ·rw[hw,cT _ _ _ _ hex,ui];rw[List.getElem?_append,List.getElem?_append]at ha;simp only[List.length_append,List.length_replicate,CC]at ha;have uj:∀{p q:Nat},p<q->p*i.size+i.size<=q*i.size:=λh=>by rw[<-Nat.succ_mul];exact Nat.mul_le_mul_right _ h
     split at ha
     ·rename_i h1;split at ha
      ·rename_i h2;rw[List.getElem?_take,if_pos h2]at ha;have mX:=aC.len ha hj;have:=uj h2;rw[if_neg (by omega)];obtain⟨w,hw,h5,hR⟩:=aC.2 a j c y ha hj;exact⟨w,hw,h5,hm _ _ hR⟩
      ·rename_i h2;rw[List.getElem?_replicate,if_pos (by omega)]at ha;cases ha;have mX:j<i.size:=by have:=aA hj;omega
       have e1:o*i.size+(a - o)*i.size=a*i.size:=by rw[<-Nat.add_mul];congr 1;omega
       have e2:(a - o)*i.size+i.size<=n*i.size:=uj (by omega);rw[if_pos (by omega),show a*i.size+j - o*i.size=(a - o)*i.size+j by omega];obtain⟨y',FT,hc⟩:=gV j (by omega);rw[hj]at FT;cases FT;obtain⟨k1,k2⟩:=ke (ν:=ν) hc g';refine⟨zv.cells[j]!,?_,k1,k2⟩;rw[<-eR];have hp:(a - o)*i.size+j<n*i.size:=by omega
       have qq:((a - o)*i.size+j) % i.size=j:=by rw[Nat.add_comm,Nat.add_mul_mod_self_right,Nat.mod_eq_of_lt mX]
       simp only[Builtin.zeroCells,Array.getElem?_toList,Array.getElem?_map,Array.getElem?_range,if_pos hp,Option.map_some,kB,qq]
     ·rename_i h1;rw[List.getElem?_drop,show o+n+(a - (o+n))=a by omega]at ha;have mX:=aC.len ha hj;have:o*i.size+n*i.size<=a*i.size:=by rw[<-Nat.add_mul];exact Nat.mul_le_mul_right _ (by omega)
      rw[if_neg (by omega)];obtain⟨w,hw,h5,hR⟩:=aC.2 a j c y ha hj;exact⟨w,hw,h5,hm _ _ hR⟩)
   exact⟨_,_,bd,rfl,ef.1,ef.2,yw _⟩
theorem BL (r:Rel ν k g) {t ty:TypeId} {e:Nat} (ht:sliceB P t e=true) {v:Value} {x y:AV} {h':Hp} (hv:RA ν g v x) (e':(mN x).run g.h=some (y,h')):bf ν k g h' y ((Builtin.cap_ #[t] ty #[v]).run P g.w):=by
 obtain⟨el,i,hu,hi,rfl⟩:=dh ht;unfold mN at e';split at e'
 ·obtain⟨rfl,rfl⟩:=af e';cases hv with
  |iv hr=>
   cases hr with
   |az a _=>exact .same r (v:=.int .i64 0) (by simp[Builtin.cap_,run_underlying hu,goInt]) mkInt
 ·exact(ae e').elim
theorem u4 (z:Array Value) (n i j:Nat) (v:Value) (hi:i<n) (hj:z[j]?=some v):(Builtin.zeroCells z n)[i*z.size+j]?=some v:=by
 have Bl:j<z.size:=(Array.getElem?_eq_some_iff.1 hj).1;have aV:i*z.size+j<n*z.size:=by
  have:(i+1)*z.size<=n*z.size:=Nat.mul_le_mul_right _ hi;rw[Nat.add_mul,Nat.one_mul]at this;omega
 unfold Builtin.zeroCells;rw[Array.getElem?_map,Array.getElem?_eq_getElem (by simpa using aV)];simp only[Array.getElem_range,Option.map_some];have:(i*z.size+j) % z.size=j:=by rw[Nat.add_comm,Nat.add_mul_mod_self_right,Nat.mod_eq_of_lt Bl]
 rw[this];simp[Bl,(Array.getElem?_eq_some_iff.1 hj).2]
def pO (P:Program) (t:TypeId) (e:Nat) (z:List AV):Bool:=
 match P.underlying t with
 |some (.slice el)=>Nat.blt 0 e&&(match P.info? el with
  |some i=>i.size==e&&Nat.ble i.bytes 4096&&(match i.zero with | some z=>z.cells.size==e | none=>false)
  |none=>false)&&k7 P el z
 |_=>false
theorem rO {t:TypeId} {e:Nat} {z:List AV} (h:pO P t e z=true):∃el i z0,P.underlying t=some (.slice el)/\P.info? el=some i/\i.size=e/\i.bytes<=4096/\i.zero=some z0/\z0.cells.size=e/\0<e/\gJ z0.cells.toList z=true:=by
 unfold pO at h;split at h
 case h_2=>cases h
 rename_i el hu;simp only[Bool.and_eq_true,Nat.blt_eq]at h;obtain⟨⟨dK,h3⟩,hz⟩:=h;split at h3
 case h_2=>cases h3
 rename_i i hi;simp only[Bool.and_eq_true,beq_iff_eq,Nat.ble_eq]at h3;obtain⟨⟨h4,hb⟩,h6⟩:=h3;split at h6
 case h_2=>cases h6
 rename_i z0 mo;obtain⟨i',z1,bX,FU,y8⟩:=jN hz;rw[hi]at bX;cases bX;rw[mo]at FU;cases FU;exact⟨el,i,z0,hu,hi,h4,hb,mo,by simpa using h6,dK,y8⟩
theorem wrap_small {m:Int} (h0:0<=m) (h1:m.toNat<=1073741824):IntKind.i64.wrap m=m:=by
 have:m<=1073741824:=by omega
 unfold IntKind.wrap;simp[IntKind.bits,IntKind.signed];omega
theorem BM (r:Rel ν k g) {slot:Nat} {t u ty:TypeId} {e:Nat} {z:List AV} {kd:IntKind} (ht:pO P t e z=true) (hd:P.underlying u=some (.int kd)) {v yv:Value} {x n y:AV} (hv:RA ν g v x) (yu:RA ν g yv n) {h':Hp}
  (e':(lN e slot z x n).run g.h=some (y,h')):bf ν k g h' y ((Builtin.append_ #[t,u] ty #[v,yv]).run P g.w):=by
 obtain⟨el,i,z0,hu,hi,rfl,hb,mo,kB,dK,y8⟩:=rO ht;unfold lN at e';split at e'
 case h_2=>exact(ae e').elim
 rename_i ee;obtain⟨m,h1,e1,e2⟩:=ag e';obtain⟨rfl,kk,rfl⟩:=cQ e1;obtain⟨bt,e4⟩:=M.aj e2;simp only[Bool.and_eq_true,decide_eq_true_eq,beq_iff_eq]at bt;obtain⟨⟨h0,dk⟩,ta⟩:=bt;have fN:m.toNat<=1073741824:=by simpa[roomy]using dk
 obtain rfl:=yu.int;have hw:=wrap_small h0 fN;obtain⟨a,rfl⟩:∃a,v = .slice a 0 0:=by
  cases hv with
  |iv hr=>cases hr with | az a _=>exact⟨a,rfl⟩
 have uf:¬(281474976710656<m*(i.bytes:Int)):=by
  have h1:m*(i.bytes:Int)<=1073741824*4096:=Int.mul_le_mul (by omega) (by omega) (by omega) (by omega);omega
 split at e4
 ·rename_i y9;subst y9;obtain⟨rfl,rfl⟩:=af e4;refine .same r (v:=.slice a 0 0) ?_ (.iv (.az _ _));cases a<;>simp[Builtin.append_,run_underlying hu,run_underlying hd,run_sizeOf hi,asInt,asIntOf,typeInfo,hi,hw,storeCells]
 ·rename_i y9;obtain⟨_,h4,e5,e6⟩:=ag e4;obtain⟨hf,rfl⟩:=M.cq e5;obtain⟨_,h5,e7,e8⟩:=ag e6;obtain rfl:=aL e7;obtain⟨rfl,rfl⟩:=af e8;have nT:0<m.toNat:=by omega
  have eF:=lx (need:=m.toNat) (cap:=0) (bytes:=i.bytes) nT fN hb;have G3:¬(281474976710656<Builtin.nextslicecap m.toNat 0*i.bytes):=by omega
  have bG:¬(m.toNat*i.size=0):=by
   intro h;rcases Nat.mul_eq_zero.1 h with h | h<;>omega
  have J4:m.toNat<=grownCap g.w m.toNat 0 el:=grownCap_ge _ _ _ _;have hold:(Builtin.firstCells i.size 0 (.slice a 0 0)).run P g.w.drew = .ok #[] g.w.drew:=by
   cases a<;>simp[Builtin.firstCells,loadCells,loadCellsFrom]
  have bd:(Builtin.append_ #[t,u] ty #[.slice a 0 0,.int kk m]).run P g.w = .ok (.slice (some ⟨g.w.heap.size,0,none⟩) m.toNat (grownCap g.w m.toNat 0 el))
    (g.w.drew.alloc (.cells ((#[]:Array Value)++Builtin.zeroCells z0.cells m.toNat++Builtin.zeroCells z0.cells (grownCap g.w m.toNat 0 el - m.toNat)) el)):=by
   have gS:¬m<0:=by omega
   have G4:¬m<=0:=by omega
   have J5:¬((9223372036854775807:Int)<max m 0):=by omega
   simp[Builtin.append_,run_underlying hu,run_underlying hd,run_sizeOf hi,asInt,asIntOf,typeInfo,hi,hw,gS,G4,uf,J5,G3,Question.forced,hold,bG,zeroValue,mo,newRow,grownCap]
  rw[bd];refine mz r (.inr rfl) hf (.inl (by omega)) (by simp) (λc hc=>by rw[List.eq_of_mem_replicate hc];exact ta) J4 ?_ λa b c x ha fT=>?_
  ·simp only[Array.size_append,List.size_toArray,List.length_nil,size_zeroCells,kB];rw[Nat.zero_add,<-Nat.add_mul];congr 1;omega
  ·rw[List.getElem?_replicate]at ha;split at ha
   ·rename_i Dh;cases ha;obtain⟨-,eS⟩:=hY y8;obtain⟨v,Di,J6⟩:=eS b x fT;have Di:z0.cells[b]?=some v:=by simpa using Di
    obtain⟨k1,k2⟩:=ke (ν:=ν) J6 g;have gV:=u4 z0.cells m.toNat a b v Dh Di;rw[kB]at gV;refine⟨v,?_,k1,k2⟩;rw[Array.empty_append,Array.getElem?_append_left]
    ·exact gV
    ·exact(Array.getElem?_eq_some_iff.1 gV).1
   ·cases ha
theorem Dj (r:Rel ν k g) {slot:Nat} {t:TypeId} {e:Nat} {z:List AV} (ht:pO P t e z=true) {nv:Value} {n y:AV} (hn:RA ν g nv n) {h':Hp}
  (e':(rM e slot z n).run g.h=some (y,h')):bf ν k g h' y ((Instr.makeSlice t nv nv).run P g.w):=by
 obtain⟨el,i,z0,hu,hi,rfl,hb,mo,kB,dK,y8⟩:=rO ht;obtain⟨m,h1,e1,e2⟩:=ag e';obtain⟨rfl,kk,rfl⟩:=cQ e1;obtain⟨bt,e4⟩:=M.aj e2;simp only[Bool.and_eq_true,decide_eq_true_eq,beq_iff_eq]at bt;obtain⟨⟨h0,dk⟩,ta⟩:=bt;have fN:m.toNat<=1073741824:=by simpa[roomy]using dk
 obtain rfl:=hn.int;have hw:=wrap_small h0 fN;have uf:¬(281474976710656<(i.bytes:Int)*m):=by
  have h1:(i.bytes:Int)*m<=4096*1073741824:=Int.mul_le_mul (by omega) (by omega) (by omega) (by omega);omega
 obtain⟨_,h4,e5,e6⟩:=ag e4;obtain⟨hf,rfl⟩:=M.cq e5;obtain⟨_,h5,e7,e8⟩:=ag e6;obtain rfl:=aL e7;obtain⟨rfl,rfl⟩:=af e8;have gS:¬m<0:=by omega
 have aC:=mi (ν:=ν) (g:=g) y8 m.toNat;rw[kB]at aC;have bd:(Instr.makeSlice t (.int kk m) (.int kk m)).run P g.w = .ok (.slice (some ⟨g.w.heap.size,0,none⟩) m.toNat m.toNat)
   (g.w.alloc (.cells ((Array.range (m.toNat*i.size)).map (z0.cells[· % i.size]!)) el)):=by
  by_cases y9:m.toNat*i.size=0
  ·have Lv:m.toNat=0:=by rcases Nat.mul_eq_zero.1 y9 with h | h<;>omega
   have G5:m=0:=by omega
   subst G5;simp[Instr.makeSlice,run_underlying hu,asInt,asIntOf,typeInfo,hi,hw,run_sizeOf hi,newRow,Array.range_zero']
  ·simp[Instr.makeSlice,run_underlying hu,asInt,asIntOf,typeInfo,hi,hw,gS,uf,run_sizeOf hi,y9,zeroValue,mo,newRow,kB]
 rw[bd];exact mz r (.inl rfl) hf (.inl (by omega)) (by simp) aC.2.1 (Nat.le_refl _) (by simp) aC.2.2
end
section
variable {ν:Nat->Nat} {P:Program} {k:Cx} {g:Gh}
theorem gg {t:TypeId} {qs:List Nat} (h:jy P t qs=true):(∃n e,P.underlying t=some (.array n e)/\qs.length=n/\qs.length≠1/\fE P e 1 false=true/\∀q ∈ qs,dy q (P.underlying e)=true)\/∃q,qs=[q]/\dy q (P.underlying t)=true:=by
 unfold jy at h;split at h
 ·rename_i n e hu;simp only[Bool.and_eq_true,beq_iff_eq,bne_iff_ne,ne_eq,List.all_eq_true]at h;exact .inl ⟨n,e,hu,h.1.1.1,h.1.1.2,h.1.2,h.2⟩
 ·split at h
  ·rename_i q;exact .inr ⟨q,rfl,h⟩
  ·cases h
theorem qt {e:TypeId} (he:fE P e 1 false=true) {xs ys:Array Value} (d:Nat) (w:World):∀(qs:List Nat) (i:Nat) (cs ds:List AV) (b:Bool),(∀q ∈ qs,dy q (P.underlying e)=true)->eqs qs cs ds=some b->
  (∀(j:Nat) (c:AV),cs[j]?=some c->∃v,xs[i+j]?=some v/\RA ν g v c)->(∀(j:Nat) (c:AV),ds[j]?=some c->∃v,ys[i+j]?=some v/\RA ν g v c)->
  (Op.eqItems (d+1) e 1 xs ys (List.range' i qs.length)).run P w = .ok b w:=by
 intro qs
 induction qs with
 |nil=>
  intro i cs ds b _ h2 _ _;cases cs<;>cases ds<;>simp[eqs]at h2;subst h2;simp[Op.eqItems]
 |cons q qs ih=>
  intro i cs ds b h1 h2 hx hy;cases cs with
  |nil=>simp[eqs]at h2
  |cons c cs=>
   cases ds with
   |nil=>simp[eqs]at h2
   |cons d' ds=>
    simp only[eqs,Option.bind_eq_some_iff]at h2;obtain⟨b1,e1,b2,e2,e3⟩:=h2;cases e3;obtain⟨v,hv,yq⟩:=hx 0 c rfl;obtain⟨u,hu,s9⟩:=hy 0 d' rfl;obtain⟨dd,ii,h3,h4,h5,h6,_⟩:=cZ he;have jf:(part e xs (i*1)).run P w = .ok v w:=by simp[part,cH h3,h5,show xs[i]?=some v from hv]
    have bQ:(part e ys (i*1)).run P w = .ok u w:=by simp[part,cH h3,h5,show ys[i]?=some u from hu]
    have dK:=lq (P:=P) e1 (h1 q (by simp)) yq s9 d w;have hr:=ih (i+1) cs ds b2 (λq hq=>h1 q (by simp[hq])) e2 (λj c hc=>by have:=hx (j+1) c (by simpa using hc);rwa [show i+1+j=i+(j+1) by omega]) (λj c hc=>by
     have:=hy (j+1) c (by simpa using hc);rwa [show i+1+j=i+(j+1) by omega])
    simp only[List.length_cons,List.range'_succ,Op.eqItems,Sem.run_bind,jf,bQ,dK,Result.andThen_ok,Sem.run_ite];cases b1
    ·simp
    ·simp[hr]
theorem iK {e:TypeId} (he:fE P e 1 false=true):P.cellsOf e=1/\∃i,P.info? e=some i/\i.size=1:=by
 obtain⟨dd,ii,h3,h4,h5,h6,_⟩:=cZ he;exact⟨by simp[Program.cellsOf,h4,h6],ii,h4,h6⟩
theorem oG {t:TypeId} {qs:List Nat} (h:jy P t qs=true) {x y:AV} {b:Bool} (e:ku qs x y=some b) {v u:Value} (hv:RA ν g v x) (hu:RA ν g u y) (w:World):(Op.equal t v u).run P w = .ok b w:=by
 unfold ku at e;split at e
 ·split at e
  ·cases e
  rename_i cs ds h1;rcases gg h with⟨n,el,gH,rfl,_,he,hq⟩|⟨q,rfl,_⟩
  ·obtain⟨xs,rfl⟩:=hv.dN;obtain⟨ys,rfl⟩:=hu.dN;obtain⟨hc,i,hi,_⟩:=iK he
   show(Op.equalIn (9999+1) t (.agg xs) (.agg ys)).run P w=_
   rw[run_equalIn_array w 9999 xs ys gH hi,hc,List.range_eq_range'];exact qt he 9998 w qs 0 cs ds b hq e (λj c hc=>by simpa using hv.dO j c hc) (λj c hc=>by simpa using hu.dO j c hc)
  ·simp at h1
 ·split at e
  case isFalse=>cases e
  rename_i x y h1;rcases gg h with⟨n,el,gH,rfl,bG,_⟩|⟨q,rfl,hq⟩
  ·exact absurd h1 bG
  ·simp only[eqs,Option.bind_eq_some_iff]at e;obtain⟨b1,e1,b2,e2,e3⟩:=e;cases e2;cases e3;have:=lq (P:=P) e1 hq hv hu 9999 w;simpa[Op.equal,Op.maxDepth]using this
 ·cases e
def iu (es:List MapEntry) (i:Nat):Option (Nat×AV)->Option (Nat×Value)->Prop
 |none,r=>r=none
 |some p,r=>∃e,i<=p.1/\es[p.1 - i]?=some e/\r=some (p.1,e.val)
theorem iu.up {es:List MapEntry} {e:MapEntry} {i:Nat} {a:Option (Nat×AV)} {r:Option (Nat×Value)} (h:iu es (i+1) a r):iu (e::es) i a r:=by
 cases a with
 |none=>exact h
 |some p=>
  obtain⟨e',h1,h2,h3⟩:=h;refine⟨e',by omega,?_,h3⟩;rw[show p.1 - i=(p.1 - (i+1))+1 by omega];simpa using h2
theorem iY {qs:List Nat} {kk:AV}:∀{aU:List (AV×AV)} {i:Nat} {p:Nat×AV},cM qs kk aU i=some (some p)->∃y,i<=p.1/\aU[p.1 - i]?=some (y,p.2)/\ku qs kk y=some true
 |[],i,p,h=>by simp[cM]at h
 |kv::aU,i,p,h=>by
  unfold cM at h;split at h
  ·rename_i hk;cases h;exact⟨kv.1,Nat.le_refl _,by simp,hk⟩
  ·obtain⟨y,h1,h2,h3⟩:=iY h;refine⟨y,by omega,?_,h3⟩;rw[show p.1 - i=(p.1 - (i+1))+1 by omega];simpa using h2
  ·cases h
def gh (ν:Nat->Nat) (g:Gh) (es:List MapEntry) (aU:List (AV×AV)):Prop:=es.length=aU.length/\∀(j:Nat) (e:MapEntry) (p:AV×AV),es[j]?=some e->aU[j]?=some p->RA ν g e.key p.1
theorem gh.cons {e:MapEntry} {es:List MapEntry} {p:AV×AV} {aU:List (AV×AV)} (h:gh ν g (e::es) (p::aU)):RA ν g e.key p.1/\gh ν g es aU:=
 ⟨h.2 0 e p rfl rfl,by have:=h.1;simpa using this,λj e p h1 h2=>h.2 (j+1) e p (by simpa using h1) (by simpa using h2)⟩
theorem kQ {t:TypeId} {qs:List Nat} (h:jy P t qs=true) {x:AV} {v:Value} (hv:RA ν g v x) (w:World):∀(es:List MapEntry) (aU:List (AV×AV)) (i:Nat) (a:Option (Nat×AV)),gh ν g es aU->cM qs x aU i=some a->
  ∃r,(Instr.findAsking t v es i).run P w = .ok r w/\iu es i a r:=by
 intro es
 induction es with
 |nil=>
  intro aU i a hR hf;obtain rfl:aU=[]:=List.eq_nil_of_length_eq_zero hR.1.symm;simp[cM]at hf;subst hf;exact⟨none,by simp[Instr.findAsking],rfl⟩
 |cons e es ih=>
  intro aU i a hR hf;cases aU with
  |nil=>have:=hR.1;simp at this
  |cons p aU=>
   obtain⟨h0,kC⟩:=hR.cons;unfold cM at hf;split at hf
   ·rename_i hk;cases hf;have:=oG h hk hv h0 w;exact⟨some (i,e.val),by simp[Instr.findAsking,this],e,Nat.le_refl _,by simp,rfl⟩
   ·rename_i hk;have:=oG h hk hv h0 w;obtain⟨r,h1,h2⟩:=ih aU (i+1) a kC hf;exact⟨r,by simp[Instr.findAsking,this,h1],h2.up⟩
   ·cases hf
theorem uk {q:Nat} {d:TypeDesc} (hq:dy q (some d)=true) {x y:AV} {b:Bool} (e:jt q x y=some b) {v u:Value} (hv:RA ν g v x) (hu:RA ν g u y):Instr.sameNow d v u=some b:=by
 unfold jt at e;split at e
 ·obtain rfl:=hv.int;obtain rfl:=hu.int;obtain⟨kk,h1⟩:=nH hq;cases h1;simp only[Option.ite_none_right_eq_some,Option.some.injEq]at e;obtain⟨hk,rfl⟩:=e;simp[Instr.sameNow,hk]
 ·cases e;obtain rfl:=hv.bool;obtain rfl:=hu.bool;have:=mg hq;cases this;rfl
 ·cases e;obtain rfl:=hv.str;obtain rfl:=hu.str;have:=nJ hq;cases this;rfl
 ·cases e
theorem nK {q:Nat} {d:TypeDesc} (hq:dy q (some d)=true) {x:AV} {v:Value} (hv:RA ν g v x):∀(es:List MapEntry) (aU:List (AV×AV)) (i:Nat) (a:Option (Nat×AV)),gh ν g es aU->cM [q] x aU i=some a->
  ∃r,Instr.findNow d v es i=some r/\iu es i a r:=by
 intro es
 induction es with
 |nil=>
  intro aU i a hR hf;obtain rfl:aU=[]:=List.eq_nil_of_length_eq_zero hR.1.symm;simp[cM]at hf;subst hf;exact⟨none,by simp[Instr.findNow],rfl⟩
 |cons e es ih=>
  intro aU i a hR hf;cases aU with
  |nil=>have:=hR.1;simp at this
  |cons p aU=>
   obtain⟨h0,kC⟩:=hR.cons;have key:∀{b:Bool},ku [q] x p.1=some b->Instr.sameNow d v e.key=some b:=by
    intro b hk;unfold ku at hk;split at hk
    ·simp at hk
    ·simp only[List.length_singleton,if_true,eqs,Option.bind_eq_some_iff]at hk;obtain⟨b1,e1,b2,e2,e3⟩:=hk;rename_i hp;cases e2;cases e3;rw[<-hp]at e1;simpa using uk hq e1 hv h0
    ·cases hk
   unfold cM at hf;split at hf
   ·rename_i hk;cases hf;exact⟨some (i,e.val),by simp[Instr.findNow,key hk],e,Nat.le_refl _,by simp,rfl⟩
   ·rename_i hk;obtain⟨r,h1,h2⟩:=ih aU (i+1) a kC hf;exact⟨r,by simp[Instr.findNow,key hk,h1],h2.up⟩
   ·cases hf
theorem j6 {t:TypeId} {qs:List Nat} (h:jy P t qs=true) {x:AV} {v:Value} (hv:RA ν g v x) (w:World) {es:List MapEntry} {aU:List (AV×AV)} {a:Option (Nat×AV)} (hR:gh ν g es aU) (hf:cM qs x aU 0=some a) :
  ∃r,(Instr.findKey t v es).run P w = .ok r w/\iu es 0 a r:=by
 rcases gg h with⟨n,el,gH,_⟩|⟨q,rfl,hq⟩
 ·rw[run_findKey_eq w (by rw[gH])];exact kQ h hv w es aU 0 a hR hf
 ·cases hd:P.underlying t with
  |none=>rw[hd]at hq;simp[dy]at hq
  |some d=>
   rw[hd]at hq;obtain⟨r,h1,h2⟩:=nK hq hv es aU 0 a hR hf;exact⟨r,Go.MapKept.run_findKey hd h1,h2⟩
theorem iL {q:Nat} {e:TypeId} (hq:dy q (P.underlying e)=true) (em:Bool) (n:Nat) (v:Value) (w:World):(Instr.checkKey em (n+1) e v).run P w = .ok () w:=by
 cases hd:P.underlying e with
 |none=>rw[hd]at hq;simp[dy]at hq
 |some d=>
  rw[hd]at hq;unfold Instr.checkKey;simp only[Sem.run_bind,run_underlying hd,Result.andThen_ok];cases d<;>first | (simp[dy]at hq;done) | (cases v<;>rfl)
theorem iZ {t:TypeId} {qs:List Nat} (h:jy P t qs=true) {x:AV} (hx:fX qs x=true) {v:Value} (hv:RA ν g v x) (em:Bool) (w:World):(Instr.checkKey em 10000 t v).run P w = .ok () w:=by
 rcases gg h with⟨n,el,gH,hn,bG,he,hq⟩|⟨q,rfl,hq⟩
 ·cases x with
  |agg cs=>
   simp only[fX,Bool.and_eq_true,beq_iff_eq]at hx;obtain⟨xs,rfl⟩:=hv.dN;obtain⟨hc,i,hi,CD⟩:=iK he
   show(Instr.checkKey em (9999+1) t (.agg xs)).run P w=_
   rw[Instr.checkKey];simp only[Sem.run_bind,run_underlying gH,Result.andThen_ok];simp only[Std.Legacy.Range.forIn_eq_forIn_range',Std.Legacy.Range.size,Nat.sub_zero,Nat.add_one_sub_one,Nat.div_one];have all:∀j ∈ List.range' 0 n,∃c,xs[j]?=some c:=by
    intro j hj;simp only[List.mem_range'_1]at hj;obtain⟨v,df,_⟩:=hv.dO j cs[j] (List.getElem?_eq_getElem (by omega));exact⟨v,df⟩
   cases qs with
   |nil=>simp only[List.length_nil]at hn;subst hn;simp
   |cons q qs=>
   have CE:∀v,(Instr.checkKey em 9999 el v).run P w = .ok () w:=λv=>iL (hq q (by simp)) em 9998 v w
   clear hn hx hv;generalize List.range' 0 n=is at all
   induction is with
   |nil=>simp
   |cons j is ih=>
    obtain⟨c,CF⟩:=all j (by simp);obtain⟨dd,ii,h3,h4,h5,h6,_⟩:=cZ he;have hp:(part el xs (j*1)).run P w = .ok c w:=by simp[part,cH h3,h5,CF]
    simp only[List.forIn_cons,Sem.run_bind,run_sizeOf hi,CD,Result.andThen_ok,hp,CE,Sem.run_pure];exact ih λy hy=>all y (by simp[hy])
  |iv y=>simp only[fX,beq_iff_eq]at hx;exact absurd hx bG
  |_=>simp[fX]at hx
 ·exact iL hq em 9999 v w
end
def Dk (P:Program) (t:TypeId) (agg:Bool) (z:List AV):Bool:=match P.underlying t with
 |some (.map _ et)=>(match P.info? et with
  |some i=>(match i.zero with
   |some (.agg cs)=>agg&&gJ cs.toList z
   |some (.tuple _)=>false
   |some v=>!agg&&gJ [v] z
   |none=>false)
  |none=>false)
 |_=>false
section
variable {ν:Nat->Nat} {P:Program} {k:Cx} {g:Gh}
theorem eH {x:AV} {q:Nat×List (AV×AV)} {h':Hp} (r:Rel ν k g) (e:(du x).run g.h=some (q,h')) {v:Value} (hv:RA ν g v x) :
  h'=g.h/\∃b es clock,x = .ref q.1 0 0 0/\get g.h q.1=some (.map q.2)/\g.φ q.1=some b/\v = .map (some b)/\¬g.I b/\b<g.w.heap.size/\g.w.heap[b]?=some (.map es clock)/\es.size=q.2.length/\iT es clock/\
   ∀(j:Nat) (e:MapEntry) (p:AV×AV),es[j]?=some e->q.2[j]?=some p->RA ν g e.key p.1/\RA ν g e.val p.2:=by
 unfold du at e;split at e
 case h_2=>exact(ae e).elim
 rename_i id;obtain⟨ob,hg,e2⟩:=M.aM e;cases ob with
 |cells _=>exact(ae e2).elim
 |buf _ _ _=>exact(ae e2).elim
 |bb _ _ _=>exact(ae e2).elim
 |da _=>exact(ae e2).elim
 |map aU=>
  obtain⟨rfl,rfl⟩:=af e2;refine⟨rfl,?_⟩;cases hv with
  |ref h1 h=>
   unfold aI at h;simp only[hg]at h;obtain⟨-, -, -,b,ah,rfl⟩:=h;obtain⟨b',es,clock,e1,e2,e3,e4,e5,e7,e6⟩:=r.ob id _ hg;rw[ah]at e1;cases e1;exact⟨b,es,clock,rfl,hg,ah,rfl,e2,e3,e4,e5,e7,e6⟩
theorem um (r:Rel ν k g) {slot:Nat} {t:TypeId} {y:AV} {h':Hp} (e:((M.fresh (4*slot)).bind λ_=>(M.write (4*slot) (.map [])).bind λ_=>M.ret (.ref (4*slot) 0 0 0)).run g.h=some (y,h')):bf ν k g h' y ((Instr.makeMap t none).run P g.w):=by
 obtain⟨_,h1,e1,e2⟩:=ag e;obtain⟨hf,rfl⟩:=M.cq e1;obtain⟨_,h2,e3,e4⟩:=ag e2;obtain rfl:=aL e3;obtain⟨rfl,rfl⟩:=af e4;have nL:(g.w.heap.push (.map #[] 0))[g.w.heap.size]?=some (.map #[] 0):=by simp
 have hold:∀b,b<g.w.heap.size->(g.w.heap.push (.map #[] 0))[b]?=g.w.heap[b]?:=λb h=>by simp[Array.getElem?_push,Nat.ne_of_lt h]
 have hn:=r.new (s:=4*slot) (ob:=.map []) (p:=some g.w.heap.size) (w':={ g.w with heap:=g.w.heap.push (.map #[] 0) }) hf (by simp) rfl rfl rfl hold (λb h=>by cases h;exact Nat.le_refl _) (λb h=>.zero (by omega))
  λ_=>⟨g.w.heap.size,#[],0,aw _ _ _,λhi=>absurd (r.small _ hi) (Nat.lt_irrefl _),by simp,nL,rfl,⟨by simp,λx hx=>by simp at hx⟩,λj e p h=>by simp at h⟩
 refine⟨_,.map (some g.w.heap.size),rfl,rfl,hn.1,hn.2,.ref rfl ?_⟩;unfold aI;simp only[aq,aw];exact⟨trivial,trivial,trivial,_,rfl,rfl⟩
theorem nM {es:Array MapEntry} {aU:List (AV×AV)} (h:es.size=aU.length) (hr:∀(j:Nat) (e:MapEntry) (p:AV×AV),es[j]?=some e->aU[j]?=some p->RA ν g e.key p.1/\RA ν g e.val p.2):gh ν g es.toList aU:=
 ⟨by simpa using h,λj e p h1 h2=>(hr j e p (by simpa using h1) h2).1⟩
theorem sC (r:Rel ν k g) {t:TypeId} {ok agg:Bool} {qs:List Nat} {z:List AV} (hq:iG P t qs=true) (hz:Dk P t agg z=true) {m kk y:AV} {vm vk:Value} {h':Hp} (hm:RA ν g vm m) (hk:RA ν g vk kk)
  (e:(gB ok agg qs z m kk).run g.h=some (y,h')):bf ν k g h' y ((Instr.lookup t vm vk ok).run P g.w):=by
 obtain⟨bt,e2⟩:=M.aj e;obtain⟨⟨id,aU⟩,h2,e3,e4⟩:=ag e2;obtain⟨rfl,b,es,clock, -,hg,ah,rfl,bZ,aV,hb,bC,nU,hr⟩:=eH r e3 hm;obtain⟨a,hf,e6⟩:=M.lift_bind e4;obtain⟨kt,et,hu,kD⟩:=jh hq;obtain⟨rr,dV,kE⟩:=j6 kD hk g.w (nM bC hr) hf;have fw:=iZ kD bt hk es.isEmpty g.w;have cf:=MapKept.run_getObj_map (P:=P) hb;cases a with
 |some p=>
  obtain⟨e0, -,dK,rfl⟩:=kE;obtain⟨yk, -,hp, -⟩:=iY hf;simp only[Nat.sub_zero]at dK hp;have gE:=(hr p.1 e0 _ (by simpa using dK) hp).2;cases ok with
  |true=>
   simp only[if_true]at e6;obtain⟨rfl,rfl⟩:=af e6;refine .same r (v:=.tuple #[e0.val,.bool true]) (by simp[Instr.lookup,run_underlying hu,cf,fw,dV]) ?_;refine .aR rfl λj v c h1 h2=>?_
   match j with
   |0=>simp at h1 h2;subst h1 h2;exact gE
   |1=>simp at h1 h2;subst h1 h2;exact bO
   |j+2=>simp at h1
  |false=>
   simp only[Bool.false_eq_true,if_false]at e6;obtain⟨rfl,rfl⟩:=af e6;exact .same r (v:=e0.val) (by simp[Instr.lookup,run_underlying hu,cf,fw,dV]) gE
 |none=>
  have fF:rr=none:=kE;subst fF;obtain⟨zv,h4,e7,e8⟩:=ag e6;have key:∃v0,(zeroValue et).run P g.w = .ok v0 g.w/\h4=g.h/\RA ν g v0 zv:=by
   unfold Dk at hz;rw[hu]at hz;simp only at hz;cases hi:P.info? et with
   |none=>rw[hi]at hz;cases hz
   |some i=>
    rw[hi]at hz;simp only at hz;cases mo:i.zero with
    |none=>rw[mo]at hz;cases hz
    |some v0=>
     rw[mo]at hz;have bd:(zeroValue et).run P g.w = .ok v0 g.w:=by simp[zeroValue,typeInfo,hi,mo]
     have one:∀{v:Value},gJ [v] z=true->agg=false->(mk agg z).run g.h=some (zv,h4)->h4=g.h/\RA ν g v zv:=by
      intro v hc ha em;subst ha;unfold mk at em;simp only[Bool.false_eq_true,if_false]at em;cases z with
      |nil=>exact(ae em).elim
      |cons z0 zr=>
       cases zr with
       |cons _ _=>exact(ae em).elim
       |nil=>
        obtain⟨rfl,rfl⟩:=af em;simp only[gJ,Bool.and_true]at hc;exact⟨rfl,(ke hc g).2⟩
     cases v0 with
     |agg cs=>
      simp only[Bool.and_eq_true]at hz;obtain⟨ha,hc⟩:=hz;subst ha;unfold mk at e7;simp only[if_true]at e7;obtain⟨rfl,rfl⟩:=af e7;exact⟨_,bd,rfl,(qF hc).agg⟩
     |tuple vs=>cases hz
     |_=>
      simp only[Bool.and_eq_true,Bool.not_eq_true']at hz;exact⟨_,bd,one hz.2 hz.1 e7⟩
  obtain⟨v0,bd,rfl,ru⟩:=key;cases ok with
  |true=>
   simp only[if_true]at e8;obtain⟨rfl,rfl⟩:=af e8;refine .same r (v:=.tuple #[v0,.bool false]) (by simp[Instr.lookup,run_underlying hu,cf,fw,dV,bd]) ?_;refine .aR rfl λj v c h1 h2=>?_
   match j with
   |0=>simp at h1 h2;subst h1 h2;exact ru
   |1=>simp at h1 h2;subst h1 h2;exact bO
   |j+2=>simp at h1
  |false=>
   simp only[Bool.false_eq_true,if_false]at e8;obtain⟨rfl,rfl⟩:=af e8;exact .same r (v:=v0) (by simp[Instr.lookup,run_underlying hu,cf,fw,dV,bd]) ru
theorem sD (r:Rel ν k g) {t ty:TypeId} (ht:isMap P t=true) {m y:AV} {vm:Value} {h':Hp} (hm:RA ν g vm m) (e:((du m).bind λx=>M.ret (.iv (.int .i64 x.2.length))).run g.h=some (y,h')) :
  bf ν k g h' y ((Builtin.len_ #[t] ty #[vm]).run P g.w):=by
 obtain⟨⟨id,aU⟩,h2,e3,e4⟩:=ag e;obtain⟨rfl,b,es,clock, -,hg,ah,rfl,bZ,aV,hb,bC,nU,hr⟩:=eH r e3 hm;obtain⟨rfl,rfl⟩:=af e4;obtain⟨kt,et,hu⟩:=rq ht;exact .same r (v:=.int .i64 aU.length) (by simp[Builtin.len_,run_underlying hu,MapKept.run_getObj_map (P:=P) hb,goInt,bC]) mkInt
theorem iT.modify {es:Array MapEntry} {clock:Nat} (h:iT es clock) (i:Nat) (f:MapEntry->MapEntry) (hf:∀e,(f e).born=e.born):iT (es.modify i f) clock:=by
 have hb:(es.modify i f).toList.map (·.born)=es.toList.map (·.born):=by
  apply List.ext_getElem?;intro j;simp only[List.getElem?_map,Array.getElem?_toList,Array.getElem?_modify];split
  ·cases es[j]?<;>simp[hf]
  ·rfl
 refine⟨by rw[hb];exact h.1,λx hx=>?_⟩;have:x.born ∈ es.toList.map (·.born):=by rw[<-hb];exact List.mem_map_of_mem hx
 obtain⟨y,hy,J7⟩:=List.mem_map.1 this;rw[<-J7];exact h.2 y hy
theorem iT.push {es:Array MapEntry} {clock:Nat} (h:iT es clock) (e:MapEntry) (he:e.born=clock):iT (es.push e) (clock+1):=by
 refine⟨?_,λx hx=>?_⟩
 ·simp only[Array.toList_push,List.map_append,List.map_cons,List.map_nil];refine List.nodup_append.2 ⟨h.1,by simp,λa ha b hb=>?_⟩;obtain⟨y,hy,rfl⟩:=List.mem_map.1 ha;simp at hb;have:=h.2 y hy;omega
 ·simp only[Array.toList_push,List.mem_append,List.mem_singleton]at hx;rcases hx with hx | rfl
  ·exact Nat.lt_succ_of_lt (h.2 x hx)
  ·omega
theorem iT.erase {es:Array MapEntry} {clock:Nat} (h:iT es clock) (i:Nat):iT (es.eraseIdxIfInBounds i) clock:=by
 by_cases hi:i<es.size
 ·have he:es.eraseIdxIfInBounds i=es.eraseIdx i hi:=by simp[Array.eraseIdxIfInBounds,hi]
  rw[he];have hl:(es.eraseIdx i hi).toList=es.toList.eraseIdx i:=by simp
  have eG:(es.toList.eraseIdx i).Sublist es.toList:=List.eraseIdx_sublist ..;refine⟨by rw[hl];exact h.1.sublist (eG.map _),λx hx=>h.2 x (by rw[hl]at hx;exact eG.subset hx)⟩
 ·have he:es.eraseIdxIfInBounds i=es:=by simp[Array.eraseIdxIfInBounds,hi]
  rw[he];exact h
theorem gi (r:Rel ν k g) {id b:Nat} {aU gU:List (AV×AV)} {es':Array MapEntry} {clock':Nat} (hg:get g.h id=some (.map aU)) (ah:g.φ id=some b) (bZ:¬g.I b) (aV:b<g.w.heap.size) (bw:id % 4=0) (bC:es'.size=gU.length) (nU:iT es' clock')
  (hr:∀(g':Gh),aX ν g g'->∀(j:Nat) (e:MapEntry) (p:AV×AV),es'[j]?=some e->gU[j]?=some p->RA ν g' e.key p.1/\RA ν g' e.val p.2) :
  ∃g',g'.w={ g.w with heap:=g.w.heap.setIfInBounds b (.map es' clock') }/\g'.h=set g.h id (.map gU)/\Rel ν k g'/\aX ν g g':=by
 have ht:=r.gO (s:=id) (ob:=.map gU) (p:=g.φ id) (w':={ g.w with heap:=g.w.heap.setIfInBounds b (.map es' clock') }) (I':=g.I) hg (λb' h=>by rw[ah]at h;cases h;exact bZ) (by simp) rfl rfl rfl
  (λb' _ bG=>by
   have:b≠b':=λe=>bG (by rw[ah,e])
   simp[this])
  (λ_ h=>h) (λ_ h=>.inl h) (.inl rfl) (λ_ _=>.zero bw)
  (λv o n ai ho=>by unfold aH at ho;rw[hg]at ho;exact ho.elim)
  (λv ai i j h=>by
   unfold aI at h ⊢;rw[hg]at h;simp only[aq,aw];exact h)
  (λ_ hm=>⟨b,es',clock',(aw _ _ _).trans ah,bZ,by simpa using aV,by simp[aV],bC,nU,hr _ hm⟩)
 exact⟨_,rfl,rfl,ht.1,ht.2⟩
theorem ly {q:Nat} {x y:AV} (e:jt q x y=some true) {v u:Value} (hv:RA ν g v x) (hu:RA ν g u y) (n:Nat):Instr.sameBits n u v=true:=by
 unfold jt at e;split at e
 ·obtain rfl:=hv.int;obtain rfl:=hu.int;simp only[Option.ite_none_right_eq_some,Option.some.injEq,beq_iff_eq]at e;obtain⟨rfl,rfl⟩:=e;simp[Instr.sameBits]
 ·obtain rfl:=hv.bool;obtain rfl:=hu.bool;simp only[Option.some.injEq,beq_iff_eq]at e;subst e;simp[Instr.sameBits]
 ·obtain rfl:=hv.str;obtain rfl:=hu.str;simp only[Option.some.injEq]at e;simp only[Instr.sameBits];rw[beq_toListBytes]at e ⊢;exact BEq.symm e
 ·cases e
theorem jz:∀(qs:List Nat) (cs ds:List AV) (xs ys:List Value),eqs qs cs ds=some true->xs.length=cs.length->ys.length=ds.length->(∀(j:Nat) (v:Value) (c:AV),xs[j]?=some v->cs[j]?=some c->RA ν g v c)->
  (∀(j:Nat) (v:Value) (c:AV),ys[j]?=some v->ds[j]?=some c->RA ν g v c)->((ys.zip xs).all fun(x,y)=>Instr.sameBits 9999 x y)=true/\ys.length=xs.length
 |[],[],[],xs,ys,_,hx,hy,_,_=>by
  obtain rfl:=List.eq_nil_of_length_eq_zero hx;obtain rfl:=List.eq_nil_of_length_eq_zero hy;exact⟨rfl,rfl⟩
 |q::qs,c::cs,d::ds,xs,ys,e,hx,hy,h1,h2=>by
  cases xs with
  |nil=>simp at hx
  |cons v xs=>
   cases ys with
   |nil=>simp at hy
   |cons u ys=>
    simp only[eqs,Option.bind_eq_some_iff]at e;obtain⟨b1,e1,b2,e2,e3⟩:=e;simp only[Option.some.injEq,Bool.and_eq_true]at e3;obtain⟨rfl,rfl⟩:=e3;obtain⟨i1,i2⟩:=jz qs cs ds xs ys e2 (by simpa using hx) (by simpa using hy) (λj v c a b=>h1 (j+1) v c (by simpa using a) (by simpa using b)) λj v c a b=>h2 (j+1) v c (by simpa using a) (by simpa using b)
    have hv:=h1 0 v c rfl rfl;have hu:=h2 0 u d rfl rfl;refine⟨?_,by simp[i2]⟩;simp only[List.zip_cons_cons,List.all_cons,Bool.and_eq_true];refine⟨?_,i1⟩;exact ly e1 hv hu 9999
 |[],_::_,_,_,_,e,_,_,_,_=>by simp[eqs]at e
 |[],[],_::_,_,_,e,_,_,_,_=>by simp[eqs]at e
 |_::_,[],_,_,_,e,_,_,_,_=>by simp[eqs]at e
 |_::_,_::_,[],_,_,e,_,_,_,_=>by simp[eqs]at e
theorem qu {qs:List Nat} {x y:AV} (e:ku qs x y=some true) {v u:Value} (hv:RA ν g v x) (hu:RA ν g u y) (w:World):(Instr.keyThatStays u v).run P w = .ok v w:=by
 have hs:Instr.sameBits 10000 u v=true:=by
  unfold ku at e;split at e
  ·split at e
   ·cases e
   rename_i cs ds _;obtain⟨xs,rfl⟩:=hv.dN;obtain⟨ys,rfl⟩:=hu.dN;have n1:xs.size=cs.length:=by cases hv;assumption
   have n2:ys.size=ds.length:=by cases hu;assumption
   have r1:∀(j:Nat) (v:Value) (c:AV),xs[j]?=some v->cs[j]?=some c->RA ν g v c:=by cases hv;assumption
   have r2:∀(j:Nat) (v:Value) (c:AV),ys[j]?=some v->ds[j]?=some c->RA ν g v c:=by cases hu;assumption
   obtain⟨i1,i2⟩:=jz qs cs ds xs.toList ys.toList e (by simpa using n1) (by simpa using n2) (λj v c a b=>r1 j v c (by simpa using a) b) λj v c a b=>r2 j v c (by simpa using a) b
   show Instr.sameBits (9999+1) (.agg ys) (.agg xs)=true
   simp only[Instr.sameBits,Bool.and_eq_true,beq_iff_eq];exact⟨by simpa using i2,i1⟩
  ·split at e
   case isFalse=>cases e
   rename_i h1;obtain⟨q,rfl⟩:=List.length_eq_one_iff.1 h1;simp only[eqs,Option.bind_eq_some_iff]at e;obtain⟨b1,e1,b2,e2,e3⟩:=e;cases e2;simp only[Bool.and_true,Option.some.injEq]at e3;subst e3;exact ly e1 hv hu 10000
  ·cases e
 simp[Instr.keyThatStays,hs]
theorem sE (r:Rel ν k g) {t:TypeId} {qs:List Nat} (hq:iG P t qs=true) {m kk x y:AV} {vm vk vx:Value} {h':Hp} (hm:RA ν g vm m) (hk:RA ν g vk kk) (hx:RA ν g vx x) (e:(gC qs m kk x).run g.h=some (y,h')) :
  ∃g',(Instr.mapUpdate t vm vk vx).run P g.w = .ok () g'.w/\y = .aR []/\g'.h=h'/\Rel ν k g'/\aX ν g g':=by
 obtain⟨bt,e2⟩:=M.aj e;obtain⟨⟨id,aU⟩,h2,e3,e4⟩:=ag e2;obtain⟨rfl,b,es,clock, -,hg,ah,rfl,bZ,aV,hb,bC,nU,hr⟩:=eH r e3 hm;obtain⟨bw,Dl⟩:=M.aj e4;have bw:id % 4=0:=by simpa using bw
 obtain⟨a,hf,e6⟩:=M.lift_bind Dl;obtain⟨kt,et,hu,kD⟩:=jh hq;obtain⟨rr,dV,kE⟩:=j6 kD hk g.w (nM bC hr) hf;have fw:=iZ kD bt hk false g.w;have cf:=MapKept.run_getObj_map (P:=P) hb;simp only at bC hr hg;cases a with
 |some p=>
  obtain⟨e0, -,dK,rfl⟩:=kE;obtain⟨yk, -,hp,CH⟩:=iY hf;simp only[Nat.sub_zero]at dK hp;simp only[Array.getElem?_toList]at dK;have fU:=qu (P:=P) CH hk (hr p.1 e0 _ dK hp).1 g.w;obtain⟨_,h4,e7,e8⟩:=ag e6;obtain rfl:=aL e7;obtain⟨rfl,rfl⟩:=af e8;obtain⟨g',q1,q2,q3,q4⟩:=gi (es':=es.modify p.1 λe=>{ e with key:=vk,val:=vx }) (clock':=clock) (gU:=aU.set p.1 (kk,x)) r hg ah bZ aV bw (by simpa using bC) (nU.modify p.1 _ λ_=>rfl) λg' ei j e q h1 h2=>by
   by_cases hj:p.1=j
   ·subst hj;rw[Array.getElem?_modify,if_pos rfl,dK]at h1;have hl:p.1<aU.length:=aA hp;simp[hl]at h2;cases h1;rw[<-h2];exact⟨ei _ _ hk,ei _ _ hx⟩
   ·rw[Array.getElem?_modify,if_neg hj]at h1;rw[List.getElem?_set_ne hj]at h2;obtain⟨c1,c2⟩:=hr j e q h1 h2;exact⟨ei _ _ c1,ei _ _ c2⟩
  exact⟨g',by simp[Instr.mapUpdate,run_underlying hu,cf,fw,dV,dK,fU,MapKept.run_setObj_map (P:=P) _ hb,q1],rfl,q2,q3,q4⟩
 |none=>
  have fF:rr=none:=kE;subst fF;obtain⟨_,h4,e7,e8⟩:=ag e6;obtain rfl:=aL e7;obtain⟨rfl,rfl⟩:=af e8;obtain⟨g',q1,q2,q3,q4⟩:=gi (es':=es.push { key:=vk,val:=vx,born:=clock }) (clock':=clock+1) (gU:=aU++[(kk,x)]) r hg ah bZ aV bw (by simpa using bC) (nU.push _ rfl) λg' ei j e q h1 h2=>by
   rw[Array.getElem?_push]at h1;split at h1
   ·rename_i hj;cases h1;rw[hj,bC]at h2;simp at h2;rw[<-h2];exact⟨ei _ _ hk,ei _ _ hx⟩
   ·have hl:j<es.size:=(Array.getElem?_eq_some_iff.1 h1).1;rw[List.getElem?_append_left (by omega)]at h2;obtain⟨c1,c2⟩:=hr j e q h1 h2;exact⟨ei _ _ c1,ei _ _ c2⟩
  exact⟨g',by simp[Instr.mapUpdate,run_underlying hu,cf,fw,dV,MapKept.run_setObj_map (P:=P) _ hb,q1],rfl,q2,q3,q4⟩
theorem sF (r:Rel ν k g) {t u ty:TypeId} {qs:List Nat} (hq:iG P t qs=true) {m kk y:AV} {vm vk:Value} {h':Hp} (hm:RA ν g vm m) (hk:RA ν g vk kk) (e:(gD qs m kk).run g.h=some (y,h')) :
  bf ν k g h' y ((Builtin.delete_ #[t,u] ty #[vm,vk]).run P g.w):=by
 obtain⟨bt,e2⟩:=M.aj e;obtain⟨⟨id,aU⟩,h2,e3,e4⟩:=ag e2;obtain⟨rfl,b,es,clock, -,hg,ah,rfl,bZ,aV,hb,bC,nU,hr⟩:=eH r e3 hm;obtain⟨bw,Dl⟩:=M.aj e4;have bw:id % 4=0:=by simpa using bw
 obtain⟨a,hf,e6⟩:=M.lift_bind Dl;obtain⟨kt,et,hu,kD⟩:=jh hq;obtain⟨rr,dV,kE⟩:=j6 kD hk g.w (nM bC hr) hf;have fw:=iZ kD bt hk es.isEmpty g.w;have cf:=MapKept.run_getObj_map (P:=P) hb;simp only at bC hr hg;cases a with
 |some p=>
  obtain⟨e0, -,dK,rfl⟩:=kE;simp only[Nat.sub_zero]at dK;simp only[Array.getElem?_toList]at dK;have iE:p.1<es.size:=(Array.getElem?_eq_some_iff.1 dK).1;obtain⟨_,h4,e7,e8⟩:=ag e6;obtain rfl:=aL e7;obtain⟨rfl,rfl⟩:=af e8;have cB:es.eraseIdxIfInBounds p.1=es.eraseIdx p.1 iE:=by simp[Array.eraseIdxIfInBounds,iE]
  obtain⟨g',q1,q2,q3,q4⟩:=gi (es':=es.eraseIdxIfInBounds p.1) (clock':=clock) (gU:=aU.eraseIdx p.1) r hg ah bZ aV bw (by rw[cB,Array.size_eraseIdx,List.length_eraseIdx,if_pos (by omega)];omega) (nU.erase _) λg' ei j e q h1 h2=>by
   rw[cB,Array.getElem?_eraseIdx]at h1;rw[List.getElem?_eraseIdx]at h2;split at h1
   ·rename_i hj;rw[if_pos hj]at h2;obtain⟨c1,c2⟩:=hr j e q h1 h2;exact⟨ei _ _ c1,ei _ _ c2⟩
   ·rename_i hj;rw[if_neg hj]at h2;obtain⟨c1,c2⟩:=hr (j+1) e q h1 h2;exact⟨ei _ _ c1,ei _ _ c2⟩
  refine⟨g',.tuple #[],?_,q2,q3,q4,.aR rfl λj v c h=>by simp at h⟩;simp[Builtin.delete_,run_underlying hu,cf,fw,dV,MapKept.run_setObj_map (P:=P) _ hb,q1]
 |none=>
  have fF:rr=none:=kE;subst fF;obtain⟨_,h4,e7,e8⟩:=ag e6;obtain rfl:=aL e7;obtain⟨rfl,rfl⟩:=af e8;obtain⟨g',q1,q2,q3,q4⟩:=gi (es':=es) (clock':=clock) (gU:=aU) r hg ah bZ aV bw bC nU λg' ei j e q h1 h2=>by
   obtain⟨c1,c2⟩:=hr j e q h1 h2;exact⟨ei _ _ c1,ei _ _ c2⟩
  refine⟨g',.tuple #[],?_,q2,q3,q4,.aR rfl λj v c h=>by simp at h⟩;simp[Builtin.delete_,run_underlying hu,cf,fw,dV,MapKept.run_setObj_map (P:=P) _ hb,q1]
end
def jO (P:Program) (t:TypeId):Bool:=match P.underlying t with | some d=>gp d | none=>false
def lV (P:Program) (r:TypeId->List Nat->Bool):List Field->List Nat->Nat->Bool
 |[],qs,_=>qs.isEmpty
 |f::fs,qs,off=>f.name != "_"&&f.offset==off&&Nat.blt 0 (P.cellsOf f.type)&&Nat.ble (P.cellsOf f.type) qs.length&&r f.type (qs.take (P.cellsOf f.type))&&lV P r fs (qs.drop (P.cellsOf f.type)) (off+P.cellsOf f.type)
def lg (r:List Nat->Bool) (c:Nat):Nat->List Nat->Bool
 |0,qs=>qs.isEmpty
 |n+1,qs=>Nat.blt 0 c&&Nat.ble c qs.length&&r (qs.take c)&&lg r c n (qs.drop c)
def qc (P:Program):Nat->TypeId->List Nat->Bool
 |0,_,_=>false
 |d+1,t,qs=>fE P t qs.length (jO P t)&&(match P.underlying t with
  |some (.struct fs)=>!P.stoodInHeld t&&lV P (qc P d) fs.toList qs 0
  |some (.array n e)=>Nat.blt 0 n&&lg (qc P d e) (P.cellsOf e) n qs
  |dd=>(match qs with | [q]=>dy q dd | _=>false))
section
variable {ν:Nat->Nat} {P:Program} {k:Cx} {g:Gh}
theorem o9:∀(m:Nat) (qs:List Nat) (cs ds:List AV) (b:Bool),eqs qs cs ds=some b->m<=qs.length->
  ∃b1 b2,eqs (qs.take m) (cs.take m) (ds.take m)=some b1/\eqs (qs.drop m) (cs.drop m) (ds.drop m)=some b2/\b=(b1&&b2)
 |0,qs,cs,ds,b,h,_=>⟨true,b,by simp[eqs],by simpa using h,by simp⟩
 |m+1,[],cs,ds,b,h,hm=>by simp at hm
 |m+1,q::qs,[],ds,b,h,_=>by simp[eqs]at h
 |m+1,q::qs,c::cs,[],b,h,_=>by simp[eqs]at h
 |m+1,q::qs,c::cs,d::ds,b,h,hm=>by
  simp only[eqs,Option.bind_eq_some_iff]at h;obtain⟨b0,h0,b',h',hb⟩:=h;cases hb;obtain⟨b1,b2,h1,h2,h3⟩:=o9 m qs cs ds b' h' (by simpa using hm);exact⟨b0&&b1,b2,by simp[eqs,h0,h1],by simpa using h2,by rw[h3,Bool.and_assoc]⟩
theorem nj:∀{qs:List Nat} {cs ds:List AV} {b:Bool},eqs qs cs ds=some b->cs.length=qs.length/\ds.length=qs.length
 |[],[],[],b,_=>⟨rfl,rfl⟩
 |[],_::_,_,b,h=>by simp[eqs]at h
 |[],[],_::_,b,h=>by simp[eqs]at h
 |q::qs,[],ds,b,h=>by simp[eqs]at h
 |q::qs,c::cs,[],b,h=>by simp[eqs]at h
 |q::qs,c::cs,d::ds,b,h=>by
  simp only[eqs,Option.bind_eq_some_iff]at h;obtain⟨b0,h0,b',h',hb⟩:=h;obtain⟨h1,h2⟩:=nj h';exact⟨by simp[h1],by simp[h2]⟩
def Is (agg:Bool) (x:AV) (cs:List AV):Prop:=agg=true/\x = .agg cs\/agg=false/\cs=[x]
theorem rP {d:Nat} {t:TypeId} {qs:List Nat} (h:qc P d t qs=true):fE P t qs.length (jO P t)=true:=by
 cases d with
 |zero=>cases h
 |succ d=>simp only[qc,Bool.and_eq_true]at h;exact h.1
def u5 (ν:Nat->Nat) (P:Program) (g:Gh) (d:Nat):Prop:=
 ∀(t:TypeId) (qs:List Nat),qc P d t qs=true->∀(cs ds:List AV) (b:Bool),eqs qs cs ds=some b->∀(v u:Value) (x y:AV),Is (jO P t) x cs->Is (jO P t) y ds->RA ν g v x->RA ν g u y->
  ∀D,d<=D->∀w:World,(Op.equalIn D t v u).run P w = .ok b w
theorem pP {t:TypeId} {sz off:Nat} (ht:fE P t sz (jO P t)=true) {vs:Array Value} {cs:List AV} (hv:RA ν g (.agg vs) (.agg cs)) (hl:off+sz<=cs.length) (w:World) :
  ∃v x,(part t vs off).run P w = .ok v w/\RA ν g v x/\Is (jO P t) x ((cs.drop off).take sz):=by
 have hlen:((cs.drop off).take sz).length=sz:=by simp;omega
 cases ha:jO P t with
 |true=>
  rw[ha]at ht;obtain⟨v,h1,h2⟩:=jZ ht hv hlen (r:=.agg ((cs.drop off).take sz)) (.inl ⟨rfl,rfl⟩) w;exact⟨v,_,h1,h2,.inl ⟨rfl,rfl⟩⟩
 |false=>
  rw[ha]at ht;obtain⟨_,_,_,_,_,_,h1⟩:=cZ ht;have bC:=h1 rfl;obtain⟨x,hx⟩:∃x,(cs.drop off).take sz=[x]:=by
   match hc:(cs.drop off).take sz,hlen with
   |[x],_=>exact⟨x,rfl⟩
   |[],h=>simp at h;omega
   |_::_::_,h=>simp at h;omega
  obtain⟨v,h1,h2⟩:=jZ ht hv hlen (r:=x) (.inr ⟨rfl,hx⟩) w;exact⟨v,x,h1,h2,.inr ⟨rfl,hx⟩⟩
theorem vL {d:Nat} (ih:u5 ν P g d) {D:Nat} (hD:d<=D) {vs us:Array Value} {U bs:List AV} (hv:RA ν g (.agg vs) (.agg U)) (hu:RA ν g (.agg us) (.agg bs)):∀(fs:List Field) (qs:List Nat) (off:Nat) (b:Bool) (w:World),
  lV P (qc P d) fs qs off=true->eqs qs (U.drop off) (bs.drop off)=some b->(Op.eqFields D vs us fs).run P w = .ok b w:=by
 intro fs
 induction fs with
 |nil=>
  intro qs off b w h e;simp only[lV,List.isEmpty_iff]at h;subst h;obtain⟨h1,h2⟩:=nj e;rw[List.eq_nil_of_length_eq_zero h1,List.eq_nil_of_length_eq_zero h2]at e;simp[eqs]at e;subst e;simp[Op.eqFields]
 |cons f fs J8=>
  intro qs off b w h e;simp only[lV,Bool.and_eq_true,beq_iff_eq,Nat.ble_eq,Nat.blt_eq]at h;obtain⟨⟨⟨⟨⟨hn,tT⟩,nT⟩,cK⟩,hq⟩,cO⟩:=h;obtain⟨b1,b2,e1,e2,rfl⟩:=o9 (P.cellsOf f.type) qs _ _ b e cK;obtain⟨l1,l2⟩:=nj e;simp only[List.length_drop]at l1 l2;have gq:=rP hq;have bC:(qs.take (P.cellsOf f.type)).length=P.cellsOf f.type:=by simp;omega
  rw[bC]at gq;obtain⟨v1,x1,p1,r1,i1⟩:=pP gq hv (off:=off) (by omega) w;obtain⟨v2,x2,p2,r2,i2⟩:=pP gq hu (off:=off) (by omega) w;have he:=ih f.type _ hq _ _ b1 e1 v1 v2 x1 x2 i1 i2 r1 r2 D hD w;rw[List.drop_drop,List.drop_drop]at e2;have hr:=J8 _ _ b2 w cO e2;have dJ:f.name≠"_":=by simpa using hn
  simp only[Op.eqFields,if_pos dJ,Sem.run_bind,tT,p1,p2,he,Result.andThen_ok,Sem.run_ite];cases b1
  ·simp
  ·simp[hr]
theorem xu {d:Nat} (ih:u5 ν P g d) {D:Nat} (hD:d<=D) {e:TypeId} {vs us:Array Value} {U bs:List AV} (hv:RA ν g (.agg vs) (.agg U)) (hu:RA ν g (.agg us) (.agg bs)):∀(n i:Nat) (qs:List Nat) (b:Bool) (w:World),
  lg (qc P d e) (P.cellsOf e) n qs=true->eqs qs (U.drop (i*P.cellsOf e)) (bs.drop (i*P.cellsOf e))=some b->(Op.eqItems D e (P.cellsOf e) vs us (List.range' i n)).run P w = .ok b w:=by
 intro n
 induction n with
 |zero=>
  intro i qs b w h e';simp only[lg,List.isEmpty_iff]at h;subst h;obtain⟨h1,h2⟩:=nj e';rw[List.eq_nil_of_length_eq_zero h1,List.eq_nil_of_length_eq_zero h2]at e';simp[eqs]at e';subst e';simp[Op.eqItems]
 |succ n J9=>
  intro i qs b w h e';simp only[lg,Bool.and_eq_true,Nat.ble_eq,Nat.blt_eq]at h;obtain⟨⟨⟨nT,cK⟩,hq⟩,cO⟩:=h;obtain⟨b1,b2,e1,e2,rfl⟩:=o9 (P.cellsOf e) qs _ _ b e' cK;obtain⟨l1,l2⟩:=nj e';simp only[List.length_drop]at l1 l2;have gq:=rP hq;have bC:(qs.take (P.cellsOf e)).length=P.cellsOf e:=by simp;omega
  rw[bC]at gq;obtain⟨v1,x1,p1,r1,i1⟩:=pP gq hv (off:=i*P.cellsOf e) (by omega) w;obtain⟨v2,x2,p2,r2,i2⟩:=pP gq hu (off:=i*P.cellsOf e) (by omega) w;have he:=ih e _ hq _ _ b1 e1 v1 v2 x1 x2 i1 i2 r1 r2 D hD w;rw[List.drop_drop,List.drop_drop,<-Nat.succ_mul]at e2;have hr:=J9 (i+1) _ b2 w cO e2;simp only[List.range'_succ,Op.eqItems,Sem.run_bind,p1,p2,he,Result.andThen_ok,Sem.run_ite];cases b1
  ·simp
  ·simp[hr]
theorem sR (ν:Nat->Nat) (P:Program) (g:Gh):∀d,u5 ν P g d
 |0=>λt qs h=>by simp[qc]at h
 |d+1=>by
  intro t qs h cs ds b e v u x y hx hy hv hu D hD w;obtain⟨D,rfl⟩:∃D',D=D'+1:=⟨D - 1,by omega⟩;have hD:d<=D:=by omega
  have gq:=rP h;obtain⟨dd,i,gH,hi,ha,hs,h1⟩:=cZ gq;simp only[qc,Bool.and_eq_true]at h;have h:=h.2;split at h
  ·rename_i fs dv;simp only[Bool.and_eq_true,Bool.not_eq_true']at h;have dq:jO P t=true:=by simp[jO,dv,gp]
   rcases hx with⟨-,rfl⟩|⟨h0,_⟩
   case inr=>rw[dq]at h0;cases h0
   rcases hy with⟨-,rfl⟩|⟨h0,_⟩
   case inr=>rw[dq]at h0;cases h0
   obtain⟨vs,rfl⟩:=hv.dN;obtain⟨us,rfl⟩:=hu.dN;have ou:P.fieldsOf t=fs:=by simp[Program.fieldsOf,dv]
   rw[run_equalIn_struct w D t vs us (by rw[ou];exact dv) h.1,ou];exact vL (sR ν P g d) hD hv hu fs.toList qs 0 b w h.2 (by simpa using e)
  ·rename_i n el dv;have dq:jO P t=true:=by simp[jO,dv,gp]
   rcases hx with⟨-,rfl⟩|⟨h0,_⟩
   case inr=>rw[dq]at h0;cases h0
   rcases hy with⟨-,rfl⟩|⟨h0,_⟩
   case inr=>rw[dq]at h0;cases h0
   obtain⟨vs,rfl⟩:=hv.dN;obtain⟨us,rfl⟩:=hu.dN;cases n with
   |zero=>simp[Nat.blt]at h
   |succ n=>
    have Fg:∃ie,P.info? el=some ie:=by
     simp only[lg,Bool.and_eq_true]at h;obtain⟨_,ie,_,rk,_⟩:=cZ (rP h.2.1.2);exact⟨ie,rk⟩
    obtain⟨ie,rk⟩:=Fg;rw[run_equalIn_array w D vs us dv rk,List.range_eq_range'];exact xu (sR ν P g d) hD hv hu (n+1) 0 qs b w (by simp only[Bool.and_eq_true]at h;exact h.2) (by simpa using e)
  ·rename_i Ka Kb;split at h
   ·rename_i q;have dq:jO P t=false:=by
     unfold jO;rw[gH];cases dd with
     |struct fs=>exact absurd gH (Ka fs)
     |array n el=>exact absurd gH (Kb n el)
     |_=>rfl
    rcases hx with⟨h0,_⟩|⟨-,rfl⟩
    ·rw[dq]at h0;cases h0
    rcases hy with⟨h0,_⟩|⟨-,rfl⟩
    ·rw[dq]at h0;cases h0
    simp only[eqs,Option.bind_eq_some_iff]at e;obtain⟨b1,e1,b2,e2,e3⟩:=e;cases e2;cases e3;have:=lq (P:=P) e1 h hv hu D w;simpa using this
   ·cases h
def Ap (P:Program) (t:TypeId) (qs:List Nat):Bool:=qc P 9 t qs&&jO P t&&!P.eqGuardType P.depth t
theorem Dm (r:Rel ν k g) {t:TypeId} {qs:List Nat} (ht:Ap P t qs=true) {a b:Operand} {v u:Value} {cs ds:List AV} {z:Bool} (neg:Bool) (hv:RA ν g v (.agg cs)) (hu:RA ν g u (.agg ds)) (e:eqs qs cs ds=some z) :
  bf ν k g g.h (.iv (.bool (if neg then !z else z))) ((do eqGuard (if neg then .neq else .eql) t a b v u;binOp (if neg then .neq else .eql) t v u:Sem Value).run P g.w):=by
 simp only[Ap,Bool.and_eq_true,Bool.not_eq_true']at ht;obtain⟨⟨h1,h2⟩,h3⟩:=ht;obtain⟨xs,rfl⟩:=hv.dN;obtain⟨ys,rfl⟩:=hu.dN;have bd:=sR ν P g 9 t qs h1 cs ds z e _ _ _ _ (.inl ⟨h2,rfl⟩) (.inl ⟨h2,rfl⟩) hv hu 10000 (by omega) g.w;cases neg
 ·refine .same r ?_ bO;simp only[Bool.false_eq_true,if_false,Sem.run_bind,run_eqGuard_agg _ _ _ _ _ _ _ h3,Result.andThen_ok,run_eql_struct,bd]
 ·refine .same r ?_ bO;simp only[if_true,Sem.run_bind,run_eqGuard_agg _ _ _ _ _ _ _ h3,Result.andThen_ok,run_neq_struct,bd]
end
def za (P:Program) (nm:String) (f:Nat):Bool:=
 match P.funcs[f]? with
 |some fn=>fn.name==nm&&fn.origin==""&&fn.body.isNone
 |none=>false
def Bu:IntKind->String
 |.i32=>"Int32" | .i64=>"Int64" | .u32=>"Uint32" | .u64=>"Uint64" | _=>"?"
def FV:IntKind->Bool
 |.i32 | .i64 | .u32 | .u64=>true
 |_=>false
def kL (P:Program) (xv:String) (k:IntKind) (f:Nat):Bool:=FV k&&za P (xv++Bu k) f
theorem bP {fn:Func} {nm:String} (h:fn.name=nm) (h0:fn.origin="") (hl:(Extern.allNextRows.lookup nm).isNone=true) (rf:(Extern.allNextRows.lookup "").isNone=true):Extern.findNext fn=none:=by
 have h1:Extern.allNextRows.lookup nm=none:=by simpa using hl
 have h2:Extern.allNextRows.lookup ""=none:=by simpa using rf
 simp[Extern.findNext,h,h0,h1,h2]
theorem cG {fn:Func} {nm:String} {e:Array Value->Sem Value} (h:fn.name=nm) (Bv:(Extern.allGenericRows.lookup nm).isNone=true) (kU:(Extern.allTypedRows.lookup nm).isNone=true)
  (hl:Extern.allRows.lookup nm=some e):Extern.find fn=some e:=by
 have h1:Extern.allGenericRows.lookup nm=none:=by simpa using Bv
 have h2:Extern.allTypedRows.lookup nm=none:=by simpa using kU
 simp[Extern.find,h,h1,h2,hl]
section
variable {ν:Nat->Nat} {P:Program} {k:Cx} {g:Gh}
theorem u6 {nm:String} {f:Nat} (h:za P nm f=true):∃fn,P.funcs[f]?=some fn/\fn.name=nm/\fn.origin=""/\fn.body.isNone=true:=by
 unfold za at h;split at h
 ·rename_i fn dp;simp only[Bool.and_eq_true,beq_iff_eq]at h;exact⟨fn,dp,h.1.1,h.1.2,h.2⟩
 ·cases h
theorem dX:(Extern.allNextRows.lookup "").isNone=true:=by kernel_rfl
theorem lW {xv:String} {k:IntKind} {f:Nat} (h:kL P xv k f=true):FV k=true/\∃fn,P.funcs[f]?=some fn/\fn.name=xv++Bu k/\fn.origin=""/\fn.body.isNone=true:=by
 simp only[kL,Bool.and_eq_true]at h;exact⟨h.1,u6 h.2⟩
theorem Aq {k:IntKind} {f:Nat} (h:kL P "sync/atomic.Load" k f=true) {a:Addr} {x:Int} {w:World} (hc:w.cell? a=some (.int k x)) :
  (callFunc f #[.pointer (some a)]).run P w = .ok (.value (.int k x)) w:=by
 obtain⟨hk,fn,hf,h1,h0,hb⟩:=lW h;cases k with
 |i32=>exact run_call_load hf (by rw[h1];kernel_rfl) hb (bP h1 h0 (by kernel_rfl) dX) _ (cG h1 (by kernel_rfl) (by kernel_rfl) (by kernel_rfl)) hc
 |i64=>exact run_call_load hf (by rw[h1];kernel_rfl) hb (bP h1 h0 (by kernel_rfl) dX) _ (cG h1 (by kernel_rfl) (by kernel_rfl) (by kernel_rfl)) hc
 |u32=>exact run_call_load hf (by rw[h1];kernel_rfl) hb (bP h1 h0 (by kernel_rfl) dX) _ (cG h1 (by kernel_rfl) (by kernel_rfl) (by kernel_rfl)) hc
 |u64=>exact run_call_load hf (by rw[h1];kernel_rfl) hb (bP h1 h0 (by kernel_rfl) dX) _ (cG h1 (by kernel_rfl) (by kernel_rfl) (by kernel_rfl)) hc
 |_=>cases hk
theorem zb {k:IntKind} {f:Nat} (h:kL P "sync/atomic.Store" k f=true) {a:Addr} {j:IntKind} {y:Int} {u:Value} {w:World} (hc:w.cell? a=some u) (hz:w.frozen? a=false) :
  (callFunc f #[.pointer (some a),.int j y]).run P w = .ok (.value (.tuple #[])) (w.setCell a (.int j y)):=by
 obtain⟨hk,fn,hf,h1,h0,hb⟩:=lW h;cases k with
 |i32=>exact run_call_store hf (by rw[h1];kernel_rfl) hb (bP h1 h0 (by kernel_rfl) dX) (cG h1 (by kernel_rfl) (by kernel_rfl) (by kernel_rfl)) hc hz
 |i64=>exact run_call_store hf (by rw[h1];kernel_rfl) hb (bP h1 h0 (by kernel_rfl) dX) (cG h1 (by kernel_rfl) (by kernel_rfl) (by kernel_rfl)) hc hz
 |u32=>exact run_call_store hf (by rw[h1];kernel_rfl) hb (bP h1 h0 (by kernel_rfl) dX) (cG h1 (by kernel_rfl) (by kernel_rfl) (by kernel_rfl)) hc hz
 |u64=>exact run_call_store hf (by rw[h1];kernel_rfl) hb (bP h1 h0 (by kernel_rfl) dX) (cG h1 (by kernel_rfl) (by kernel_rfl) (by kernel_rfl)) hc hz
 |_=>cases hk
theorem BN {k:IntKind} {f:Nat} (h:kL P "sync/atomic.Add" k f=true) {a:Addr} {x y:Int} {w:World} (hc:w.cell? a=some (.int k x)) (hz:w.frozen? a=false) :
  (callFunc f #[.pointer (some a),.int k y]).run P w = .ok (.value (.int k (k.wrap (x+y)))) (w.setCell a (.int k (k.wrap (x+y)))):=by
 obtain⟨hk,fn,hf,h1,h0,hb⟩:=lW h;have hs:∀k,(Op.intArith .add k x y).run P w = .ok (.int k (k.wrap (x+y))) w:=λk=>by simp[Op.intArith]
 cases k with
 |i32=>exact run_call_add hf (by rw[h1];kernel_rfl) hb (bP h1 h0 (by kernel_rfl) dX) _ (cG h1 (by kernel_rfl) (by kernel_rfl) (by kernel_rfl)) hc hz (hs _)
 |i64=>exact run_call_add hf (by rw[h1];kernel_rfl) hb (bP h1 h0 (by kernel_rfl) dX) _ (cG h1 (by kernel_rfl) (by kernel_rfl) (by kernel_rfl)) hc hz (hs _)
 |u32=>exact run_call_add hf (by rw[h1];kernel_rfl) hb (bP h1 h0 (by kernel_rfl) dX) _ (cG h1 (by kernel_rfl) (by kernel_rfl) (by kernel_rfl)) hc hz (hs _)
 |u64=>exact run_call_add hf (by rw[h1];kernel_rfl) hb (bP h1 h0 (by kernel_rfl) dX) _ (cG h1 (by kernel_rfl) (by kernel_rfl) (by kernel_rfl)) hc hz (hs _)
 |_=>cases hk
theorem BO {k:IntKind} {f:Nat} (h:kL P "sync/atomic.CompareAndSwap" k f=true) {a:Addr} {x y:Int} {w:World} (hc:w.cell? a=some (.int k x)) (hz:w.frozen? a=false) :
  (callFunc f #[.pointer (some a),.int k x,.int k y]).run P w = .ok (.value (.bool true)) (w.setCell a (.int k y)):=by
 obtain⟨hk,fn,hf,h1,h0,hb⟩:=lW h;cases k with
 |i32=>exact run_call_cas_hit hf (by rw[h1];kernel_rfl) hb (bP h1 h0 (by kernel_rfl) dX) _ (cG h1 (by kernel_rfl) (by kernel_rfl) (by kernel_rfl)) hc hz
 |i64=>exact run_call_cas_hit hf (by rw[h1];kernel_rfl) hb (bP h1 h0 (by kernel_rfl) dX) _ (cG h1 (by kernel_rfl) (by kernel_rfl) (by kernel_rfl)) hc hz
 |u32=>exact run_call_cas_hit hf (by rw[h1];kernel_rfl) hb (bP h1 h0 (by kernel_rfl) dX) _ (cG h1 (by kernel_rfl) (by kernel_rfl) (by kernel_rfl)) hc hz
 |u64=>exact run_call_cas_hit hf (by rw[h1];kernel_rfl) hb (bP h1 h0 (by kernel_rfl) dX) _ (cG h1 (by kernel_rfl) (by kernel_rfl) (by kernel_rfl)) hc hz
 |_=>cases hk
theorem Ar {k:IntKind} {f:Nat} (h:kL P "sync/atomic.CompareAndSwap" k f=true) {a:Addr} {x o y:Int} {w:World} (hc:w.cell? a=some (.int k x)) (hz:w.frozen? a=false) (bG:¬x=o) :
  (callFunc f #[.pointer (some a),.int k o,.int k y]).run P w = .ok (.value (.bool false)) w:=by
 obtain⟨hk,fn,hf,h1,h0,hb⟩:=lW h;cases k with
 |i32=>exact run_call_cas_miss hf (by rw[h1];kernel_rfl) hb (bP h1 h0 (by kernel_rfl) dX) _ (cG h1 (by kernel_rfl) (by kernel_rfl) (by kernel_rfl)) hc hz bG
 |i64=>exact run_call_cas_miss hf (by rw[h1];kernel_rfl) hb (bP h1 h0 (by kernel_rfl) dX) _ (cG h1 (by kernel_rfl) (by kernel_rfl) (by kernel_rfl)) hc hz bG
 |u32=>exact run_call_cas_miss hf (by rw[h1];kernel_rfl) hb (bP h1 h0 (by kernel_rfl) dX) _ (cG h1 (by kernel_rfl) (by kernel_rfl) (by kernel_rfl)) hc hz bG
 |u64=>exact run_call_cas_miss hf (by rw[h1];kernel_rfl) hb (bP h1 h0 (by kernel_rfl) dX) _ (cG h1 (by kernel_rfl) (by kernel_rfl) (by kernel_rfl)) hc hz bG
 |_=>cases hk
def sS (ν:Nat->Nat) (P:Program) (k:Cx) (g:Gh) (h':Hp) (r:AV) (f:Nat) (args:Array Value):Prop:=
 ∃g' v,(callFunc f args).run P g.w = .ok (.value v) g'.w/\g'.h=h'/\Rel ν k g'/\aX ν g g'/\RA ν g' v r
theorem je (r:Rel ν k g) {kk:IntKind} {va:Value} {a:AV} {n:Int} {h':Hp} (ct:RA ν g va a) (e:(fJ kk a).run g.h=some (n,h')) :
  h'=g.h/\∃b off,va = .pointer (some ⟨b,off,none⟩)/\g.w.cell? ⟨b,off,none⟩=some (.int kk n):=by
 obtain⟨x,h1,e1,e2⟩:=ag e;split at e2
 case h_2=>exact(ae e2).elim
 rename_i k' n';obtain⟨hk,e4⟩:=M.aj e2;obtain⟨rfl,rfl⟩:=af e4;obtain rfl:=beq_iff_eq.1 hk;cases ct with
 |undef=>exact(ae e1).elim
 |cI=>exact(ae e1).elim
 |agg=>exact(ae e1).elim
 |aR=>exact(ae e1).elim
 |own=>exact(ae e1).elim
 |bJ=>exact(ae e1).elim
 |iv hr=>
  cases hr with
  |ptr b off cs f hI hc hr=>
   obtain⟨hl,e2⟩:=M.aj e1;obtain⟨rfl,hm⟩:=ij e2;rcases hm with⟨h,_⟩|⟨_,hm⟩
   ·cases h
   obtain⟨c,rest,rfl⟩:∃c rest,cs=c::rest:=by
    cases cs with
    |nil=>simp at hm
    |cons c rest=>exact⟨c,rest,rfl⟩
   simp at hm;subst hm;refine⟨rfl,b,off,rfl,?_⟩;have h0:=hc 0 _ rfl;have h2:=hr 0 _ rfl;simp only[Nat.add_zero]at h0;rw[h0];generalize f 0=u at h2;cases h2;rfl
  |_=>exact(ae e1).elim
 |ref kz hr=>
  obtain⟨ob,hg,e2⟩:=M.aM e1;obtain⟨l,hl,e4⟩:=M.lift_bind e2;obtain⟨jx,e6⟩:=M.aj e4;obtain⟨rfl,hm⟩:=ij e6;rcases hm with⟨h,_⟩|⟨_,rfl⟩
  ·cases h
  obtain⟨b,off,rfl,hc⟩:=me r hg hl hr;obtain⟨v,h1,_,hR⟩:=hc 0 _ rfl;refine⟨rfl,b,off,rfl,?_⟩;rw[Nat.add_zero]at h1;rw[h1,hR.int]
theorem u7 {w:World} {b off:Nat} {v:Value} (h:w.cell? ⟨b,off,none⟩=some v):w.setCell ⟨b,off,none⟩ v=w:=by
 unfold World.cell? at h;unfold World.setCell;have:(w.heap.modify b fun
   |.cells c elem frozen=>.cells (if((none:Option Nat).isSome)=true then c else c.setIfInBounds off v) elem frozen
   |o=>o)=w.heap:=by
  refine Array.ext_getElem? λi=>?_
  rw[Array.getElem?_modify];by_cases hi:b=i
  ·subst hi;simp only[if_true];cases hb:w.heap[b]? with
   |none=>rfl
   |some ob=>
    simp only[hb]at h;cases ob with
    |cells c el fr=>
     simp only[Option.isSome_none,Bool.false_eq_true,if_false]at h;simp only[Option.map_some,Option.isSome_none,Bool.false_eq_true,if_false];congr 2;refine Array.ext_getElem? λm=>?_
     rw[Array.getElem?_setIfInBounds];by_cases hm:off=m
     ·subst hm;rw[h];have:=(Array.getElem?_eq_some_iff.1 h).1;simp[this]
     ·simp[hm]
    |_=>rfl
  ·simp[hi]
 exact congrArg (λh=>({ w with heap:=h }:World)) this
theorem lX (r:Rel ν k g) {va:Value} {a x y:AV} {j:IntKind} {n:Int} (ct:RA ν g va a) (hx:x = .iv (.int j n)) {h':Hp} (e:(store 1 a x).run g.h=some (y,h')) :
  ∃b off g' u,va = .pointer (some ⟨b,off,none⟩)/\y = .aR []/\g'.w=g.w.setCell ⟨b,off,none⟩ (.int j n)/\g.w.cell? ⟨b,off,none⟩=some u/\g.w.frozen? ⟨b,off,none⟩=false/\g'.h=h'/\Rel ν k g'/\aX ν g g':=by
 subst hx;obtain⟨b,off,g',h1,h2,h3,_,h5,h6,h7,h8,h9,_⟩:=u0 r ct (mkInt (ν:=ν) (g:=g) (kk:=j) (n:=n)) e;obtain⟨u,hu⟩:=Option.isSome_iff_exists.1 (h6 0 (by omega));exact⟨b,off,g',u,h1,h2,h3.trans rfl,by simpa using hu,h5 _,h7,h8,h9⟩
theorem As (r:Rel ν k g) {kk:IntKind} {f:Nat} (hf:kL P "sync/atomic.Load" kk f=true) {va:Value} {a y:AV} {h':Hp} (ct:RA ν g va a)
  (e:((fJ kk a).bind λn=>M.ret (.iv (.int kk n))).run g.h=some (y,h')):sS ν P k g h' y f #[va]:=by
 obtain⟨n,h1,e1,e2⟩:=ag e;obtain⟨rfl,rfl⟩:=af e2;obtain⟨rfl,b,off,rfl,hc⟩:=je r ct e1;exact⟨g,_,Aq hf hc,rfl,r,.refl ν g,mkInt⟩
theorem zc (r:Rel ν k g) {kk:IntKind} {f:Nat} (hf:kL P "sync/atomic.Store" kk f=true) {va vx:Value} {a x y:AV} {h':Hp} (ct:RA ν g va a) (oy:RA ν g vx x)
  (e:((M.ok (uY x)).bind λ_=>store 1 a x).run g.h=some (y,h')):sS ν P k g h' y f #[va,vx]:=by
 obtain⟨hi,e2⟩:=M.aj e;unfold uY at hi;split at hi
 case h_2=>cases hi
 rename_i j n;obtain rfl:=oy.int;obtain⟨b,off,g',u,rfl,rfl,h3,h4,h5,h6,h7,h8⟩:=lX r ct rfl e2;exact⟨g',_,by rw[h3];exact zb hf h4 h5,h6,h7,h8,.aR (by simp) λj v c h=>by simp at h⟩
theorem BP (r:Rel ν k g) {kk:IntKind} {f:Nat} (hf:kL P "sync/atomic.Add" kk f=true) {va vx:Value} {a x y:AV} {h':Hp} (ct:RA ν g va a) (oy:RA ν g vx x)
  (e:(lP kk a x).run g.h=some (y,h')):sS ν P k g h' y f #[va,vx]:=by
 unfold lP at e;split at e
 case h_2=>exact(ae e).elim
 rename_i j m;obtain⟨hk,e2⟩:=M.aj e;obtain rfl:=beq_iff_eq.1 hk;obtain⟨n,h2,e3,e4⟩:=ag e2;obtain⟨rfl,b,off,rfl,hc⟩:=je r ct e3;obtain⟨_,h3,e5,e6⟩:=ag e4;obtain⟨rfl,rfl⟩:=af e6;obtain rfl:=oy.int;obtain⟨b',nV,g',u,h0,_,h3,h4,h5,h6,h7,h8⟩:=lX r ct rfl e5;simp only[Value.pointer.injEq,Option.some.injEq,Addr.mk.injEq,and_true]at h0;obtain⟨rfl,rfl⟩:=h0;exact⟨g',_,by rw[h3];exact BN hf hc h5,h6,h7,h8,mkInt⟩
theorem BQ (r:Rel ν k g) {kk:IntKind} {f:Nat} (hf:kL P "sync/atomic.CompareAndSwap" kk f=true) {va vo vx:Value} {a o x y:AV} {h':Hp} (ct:RA ν g va a) (Kc:RA ν g vo o) (oy:RA ν g vx x)
  (e:(mO kk a o x).run g.h=some (y,h')):sS ν P k g h' y f #[va,vo,vx]:=by
 unfold mO at e;split at e
 case h_2=>exact(ae e).elim
 rename_i j cr j' m;obtain⟨hk,e2⟩:=M.aj e;simp only[Bool.and_eq_true,beq_iff_eq]at hk;obtain⟨rfl,rfl⟩:=hk;obtain⟨n,h2,e3,e4⟩:=ag e2;obtain⟨rfl,b,off,rfl,hc⟩:=je r ct e3;obtain rfl:=oy.int;obtain rfl:=Kc.int;split at e4
 ·rename_i hn;subst hn;obtain⟨_,h3,e5,e6⟩:=ag e4;obtain⟨rfl,rfl⟩:=af e6;obtain⟨b',nV,g',u,h0,_,h3,h4,h5,h6,h7,h8⟩:=lX r ct rfl e5;simp only[Value.pointer.injEq,Option.some.injEq,Addr.mk.injEq,and_true]at h0;obtain⟨rfl,rfl⟩:=h0;exact⟨g',_,by rw[h3];exact BO hf hc h5,h6,h7,h8,bO⟩
 ·rename_i hn;obtain⟨_,h3,e5,e6⟩:=ag e4;obtain⟨rfl,rfl⟩:=af e6;obtain⟨b',nV,g',u,h0,_,h3,h4,h5,h6,h7,h8⟩:=lX r ct rfl e5;simp only[Value.pointer.injEq,Option.some.injEq,Addr.mk.injEq,and_true]at h0;obtain⟨rfl,rfl⟩:=h0;rw[u7 hc]at h3;exact⟨g',_,by rw[h3];exact Ar hf hc h5 hn,h6,h7,h8,bO⟩
end
def Au (P:Program) (s d:TypeId):Bool:=match P.underlying s,P.underlying d with
 |some (.pointer t),some .unsafePointer=>(match P.info? t with | some i=>i.size != 0 | none=>false)
 |_,_=>false
def Av (P:Program) (ν:Nat->Nat) (s d:TypeId):Bool:=match P.underlying s,P.underlying d with
 |some .unsafePointer,some (.pointer u)=>u==ν pN&&(P.info? u).isSome&&liesAt P P.depth u (2 / P.cellsOf u) 0 u 1
 |_,_=>false
def xw (P:Program) (ν:Nat->Nat) (pt:TypeId):Bool:=match P.underlying pt with
 |some (.pointer e)=>e==ν lT&&P.cellsOf e==1
 |_=>false
section
variable {ν:Nat->Nat} {P:Program} {k:Cx} {g:Gh}
theorem Dn (r:Rel ν k g) {s d:TypeId} (ht:Au P s d=true) {v:Value} {x y:AV} {h':Hp} (hv:RA ν g v x) (e:(p8 x).run g.h=some (y,h')):bf ν k g h' y ((convert s d v).run P g.w):=by
 unfold p8 at e;split at e
 case h_2=>exact(ae e).elim
 rename_i id ai i j;obtain⟨ob,hg,e2⟩:=M.aM e;cases ob with
 |cells cs=>
  obtain⟨bt,e4⟩:=M.aj e2;obtain⟨rfl,rfl⟩:=af e4;simp only[Bool.and_eq_true,beq_iff_eq,Nat.blt_eq]at bt;unfold Au at ht;split at ht
  case h_2=>cases ht
  rename_i t hs hd;cases hi:P.info? t with
  |none=>rw[hi]at ht;cases ht
  |some ti=>
   rw[hi]at ht;cases hv with
   |ref h1 hr=>
    have fW:=hr;unfold aI at fW;rw[hg]at fW;obtain⟨-, -,b,ah,rfl⟩:=fW;obtain⟨b',aO,_,_,hc⟩:=r.ob id _ hg;rw[ah]at aO;cases aO;obtain⟨u,hu,_⟩:=hc j _ (List.getElem?_eq_getElem bt.2);exact .same r (run_convert_to_unsafe hs hd (by rw[hi];simpa using ht) hu) (.ref h1 hr)
 |buf=>exact(ae e2).elim
 |bb=>exact(ae e2).elim
 |da=>exact(ae e2).elim
 |map=>exact(ae e2).elim
theorem Dp (r:Rel ν k g) {s d:TypeId} (ht:Av P ν s d=true) {v:Value} {x y:AV} {h':Hp} (hv:RA ν g v x) (e:(p9 x).run g.h=some (y,h')):bf ν k g h' y ((convert s d v).run P g.w):=by
 unfold p9 at e;split at e
 case h_2=>exact(ae e).elim
 rename_i id ai i j;obtain⟨ob,hg,e2⟩:=M.aM e;cases ob with
 |cells cs=>
  obtain⟨bt,e4⟩:=M.aj e2;obtain⟨rfl,rfl⟩:=af e4;simp only[Bool.and_eq_true,beq_iff_eq]at bt;obtain⟨⟨⟨rfl,rfl⟩,rfl⟩,bw⟩:=bt;unfold Av at ht;split at ht
  case h_2=>cases ht
  rename_i u hs hd;simp only[Bool.and_eq_true,beq_iff_eq]at ht;obtain⟨⟨rfl,hi⟩,hl⟩:=ht;obtain⟨ti,hi⟩:=Option.isSome_iff_exists.1 hi;cases hv with
  |ref h1 hr=>
   have fW:=hr;unfold aI at fW;rw[hg]at fW;obtain⟨-, -,b,ah,rfl⟩:=fW;have tl:=(r.ty id _ b hg ah).1 bw;exact .same r (Lib.run_from_unsafe g.w ⟨b,0,none⟩ hs hd hi tl hl) (.ref h1 hr)
 |buf=>exact(ae e2).elim
 |bb=>exact(ae e2).elim
 |da=>exact(ae e2).elim
 |map=>exact(ae e2).elim
theorem Dq (r:Rel ν k g) {ts:Array TypeId} {ty:TypeId} {v:Value} {x y:AV} {h':Hp} (hv:RA ν g v x) (e:(qa x).run g.h=some (y,h')) :
  bf ν k g h' y ((Builtin.unsafeSliceData_ ts ty #[v]).run P g.w):=by
 unfold qa at e;split at e
 case h_2=>exact(ae e).elim
 rename_i id o n ai;obtain⟨ob,hg,e2⟩:=M.aM e;cases ob with
 |buf v' e' es=>
  obtain⟨bt,e4⟩:=M.aj e2;obtain⟨rfl,rfl⟩:=af e4;simp only[Bool.and_eq_true,beq_iff_eq,Nat.blt_eq]at bt;obtain⟨⟨⟨rfl,rfl⟩,rfl⟩,hn⟩:=bt;cases hv with
  |own h1 ho=>
   unfold aH at ho;rw[hg]at ho;have hs:=ho.2 rfl;obtain⟨b,ah,bZ,ca,aC⟩:=r.ob id _ hg;rw[ah]at hs;obtain⟨x,cap,rfl,h2,h3,h4,h5,h6⟩:=hs;have hx:x=0:=by rcases h5 with h | h<;>omega
   subst hx;refine .same r (Lib.run_unsafeSliceData_row g.w _ _ _ _ _ (by omega)) (.ref h1 ?_);unfold aI;rw[hg];exact⟨Nat.le_refl _,λ_=>⟨b,ah,rfl⟩⟩
 |cells=>exact(ae e2).elim
 |bb=>exact(ae e2).elim
 |da=>exact(ae e2).elim
 |map=>exact(ae e2).elim
theorem Aw (r:Rel ν k g) {f:Nat} (hf:za P "internal/abi.NoEscape" f=true) {v:Value} {x:AV} (hv:RA ν g v x):sS ν P k g g.h x f #[v]:=by
 obtain⟨fn,hf,h1,h0,hb⟩:=u6 hf;refine⟨g,v,?_,rfl,r,.refl ν g,hv⟩;rw[run_callFunc_extern hf (by rw[h1];kernel_rfl) hb (bP h1 h0 (by kernel_rfl) dX) (cG h1 (by kernel_rfl) (by kernel_rfl) (by kernel_rfl):Extern.find fn=some Extern.AbiNoEscape.same)];simp[Lib.run_noEscape,Result.andThen]
theorem qd (w:World) (a:Addr) (n:Nat) (x:Addr):(w.freeze a n).cell? x=w.cell? x:=by
 unfold World.freeze;split
 ·rfl
 ·simp only[World.cell?,Array.getElem?_modify];by_cases h:a.block=x.block
  ·rw[h];cases hb:w.heap[x.block]? with
   |none=>simp
   |some ob=>cases ob<;>simp
  ·simp[h]
theorem u9 (w:World) (a:Addr) (n:Nat) (x:Nat):(w.freeze a n).shape? x=w.shape? x:=by
 unfold World.freeze;split
 ·rfl
 ·simp only[World.shape?,Array.getElem?_modify];by_cases h:a.block=x
  ·rw[h];cases hb:w.heap[x]? with
   |none=>simp
   |some ob=>cases ob<;>simp
  ·simp[h]
theorem vb (w:World) (a:Addr) (n x:Nat) (h:a.block≠x):(w.freeze a n).heap[x]?=w.heap[x]?:=by
 unfold World.freeze;split
 ·rfl
 ·simp[Array.getElem?_modify,h]
theorem vM (w:World) (a:Addr) (n:Nat):(w.freeze a n).heap.size=w.heap.size:=by
 unfold World.freeze;split<;>simp
theorem vN (w:World) (a:Addr) (n:Nat):(w.freeze a n).os=w.os/\(w.freeze a n).tape=w.tape/\(w.freeze a n).output=w.output:=by
 unfold World.freeze;split<;>simp
theorem iw:∀{ys:List (List AV)} {b:List Int},bytesOf ys=some b->b.length=ys.length/\∀i,i<ys.length->ys[i]?=some [.iv (.int .u8 (b.getD i 0))]
 |[],b,h=>by simp[bytesOf]at h;subst h;exact⟨rfl,λi hi=>absurd hi (Nat.not_lt_zero _)⟩
 |y::ys,b,h=>by
  unfold bytesOf at h;split at h
  ·rename_i heq;cases heq
  ·rename_i n r heq;cases heq;simp only[Option.map_eq_some_iff]at h;obtain⟨b',hb,rfl⟩:=h;obtain⟨h1,h2⟩:=iw hb;refine⟨by simp[h1],λi hi=>?_⟩;cases i with
   |zero=>rfl
   |succ i=>simpa using h2 i (by simpa using hi)
  ·cases h
theorem BR (r:Rel ν k g) {pt it ty:TypeId} (ht:xw P ν pt=true) {vp vn:Value} {p n y:AV} {h':Hp} (Kd:RA ν g vp p) (Ke:RA ν g vn n) (e:(lQ p n).run g.h=some (y,h')) :
  bf ν k g h' y ((Builtin.unsafeString_ #[pt,it] ty #[vp,vn]).run P g.w):=by
 unfold lQ at e;split at e
 case h_2=>exact(ae e).elim
 rename_i id ai i j kk m;obtain⟨ob,hg,e2⟩:=M.aM e;cases ob with
 |buf v' e' es=>
  obtain⟨bt,e4⟩:=M.aj e2;obtain⟨bs,zd,e6⟩:=M.lift_bind e4;obtain⟨eS,e8⟩:=M.aj e6;obtain⟨_,h5,e9,dm⟩:=ag e8;obtain rfl:=aL e9;obtain⟨rfl,rfl⟩:=af dm;simp only[Bool.and_eq_true,beq_iff_eq,Nat.blt_eq]at bt;obtain⟨⟨⟨⟨⟨⟨⟨⟨rfl,rfl⟩,rfl⟩,rfl⟩,bw⟩,rfl⟩,rfl⟩,nT⟩,dk⟩:=bt;simp only[List.all_eq_true,decide_eq_true_eq]at eS;unfold xw at ht;split at ht
  case h_2=>cases ht
  rename_i et hp;simp only[Bool.and_eq_true,beq_iff_eq]at ht;obtain⟨rfl,uO⟩:=ht;obtain rfl:=Ke.int;obtain⟨vZ,uu⟩:=iw zd;cases Kd with
  |ref Lw hr=>
   unfold aI at hr;rw[hg]at hr;obtain⟨b,ah,rfl⟩:=hr.2 rfl;obtain⟨b',aO,bZ,ca,aC⟩:=r.ob id _ hg;rw[ah]at aO;cases aO;obtain⟨cells,tl⟩:=(r.ty id _ b hg ah).2.1 bw;have gV:∀m,m<es.length->g.w.cell? ⟨b,m,none⟩=some (.int .u8 (bs.getD m 0)):=by
    intro m hm;obtain⟨u,hu,_,hR⟩:=aC.2 m 0 _ _ (uu m hm) rfl;rw[hR.int]at hu;simpa using hu
   have hlen:es.length<=cells:=by
    have:=gV (es.length - 1) (by omega);obtain⟨e2,n2,mZ,aV,_⟩:=World.shape?_of_cell? this;simp only[]at mZ aV;rw[tl]at mZ;cases mZ;omega
   have bC:es.length<9223372036854775807:=by
    simp only[roomy,Nat.ble_eq]at dk;omega
   have hl:(bs.map λn=>UInt8.ofNat n.toNat).length=es.length:=by simp[vZ]
   have bd:=Lib.run_unsafeString_row (P:=P) g.w pt it ty (ν lT) hp uO b cells tl (bs.map λn=>UInt8.ofNat n.toNat) (by intro h;rw[h]at hl;simp at hl;omega) (by omega) (by omega) λj x hx=>by
    simp only[List.getElem?_map,Option.map_eq_some_iff]at hx;obtain⟨z,hz,rfl⟩:=hx;have hj:=aA hz;have ov:bs.getD j 0=z:=by simp[List.getD,hz]
    have hb:=eS z (List.mem_of_getElem? hz);have:=gV j (by omega);rw[ov]at this;have Kf:((UInt8.ofNat z.toNat).toNat:Int)=z:=by
     simp only[UInt8.toNat_ofNat'];omega
    have ha:(⟨b,0,none⟩:Addr).add j=⟨b,j,none⟩:=by
     simp only[Addr.add,Nat.zero_add];split
     ·rename_i h0;rw[h0]
     ·rfl
    rw[ha,this,Kf]
   rw[hl]at bd;have cO:=vN g.w ⟨b,0,none⟩ es.length;have rp:=r.gO (s:=id) (ob:=.bb v' 1 (wh bs)) (p:=g.φ id) (w':=g.w.freeze ⟨b,0,none⟩ es.length) (I':=λc=>g.I c\/c=b) hg (λb' h=>by rw[ah]at h;cases h;exact bZ)
    (by rw[vM];exact Nat.le_refl _) cO.1 cO.2.1 cO.2.2 (λb' _ bG=>vb _ _ _ _ λhe=>bG (by rw[ah];exact congrArg some he)) (λ_ h=>.inl h)
    (λc h=>h.elim .inl λh=>.inr (by rw[h];exact ah)) (.inl rfl) (λb' h=>(r.ty id _ b' hg h).same (u9 _ _ _ _))
    (λu o n ai ho=>by
     unfold aH at ho ⊢;rw[hg]at ho;simp only[aq,aw];refine⟨ho.1,λhv=>?_⟩;have:=ho.2 hv;rw[show(wh bs).length=es.length by simp[wh,vZ]];exact this.same λb' _ c hc=>by rw[qd];exact hc)
    (λu ai i j hr=>by
     unfold aI at hr ⊢;rw[hg]at hr;simp only[aq,aw];exact hr)
    (λck hm=>⟨b,(aw _ _ _).trans ah,.inr rfl,λc hc=>by
      simp only[wh,List.mem_map]at hc;obtain⟨z,_,rfl⟩:=hc;rfl,λi j c x h1 h2=>by
     simp only[wh,List.getElem?_map,Option.map_eq_some_iff]at h1;obtain⟨z,hz,rfl⟩:=h1;have hi:=aA hz;have hj:=aA h2;simp only[List.length_cons,List.length_nil,Nat.zero_add]at hj;obtain rfl:j=0:=by omega
     simp at h2;subst h2;have:=gV i (by omega);have ov:bs.getD i 0=z:=by simp[List.getD,hz]
     rw[ov]at this;refine⟨_,?_,.int _ _⟩;simp only[Nat.mul_one,Nat.add_zero];rw[qd];exact this⟩)
   rw[jM]at rp;exact⟨_,_,bd,rfl,rp.1,rp.2,mkStr⟩
 |cells=>exact(ae e2).elim
 |bb=>exact(ae e2).elim
 |da=>exact(ae e2).elim
 |map=>exact(ae e2).elim
end
def aG (ν:Nat->Nat):Operand->aK->Bool
 |.tmp t,.t n=>t==n
 |.const v,.c x=>sQ v x
 |.func f,.c (.iv (.fn h []))=>f==ν h
 |_,_=>false
def dE (ν:Nat->Nat):List Operand->List aK->Bool
 |[],[]=>true
 |x::xs,y::ys=>aG ν x y&&dE ν xs ys
 |_,_=>false
def ja (ν:Nat->Nat):Option Operand->Option aK->Bool
 |none,none=>true
 |some x,some y=>aG ν x y
 |_,_=>false
def fO (ν:Nat->Nat):List (Nat×Operand)->List (Nat×aK)->Bool
 |[],[]=>true
 |x::xs,y::ys=>x.1==y.1&&aG ν x.2 y.2&&fO ν xs ys
 |_,_=>false
def dP (ν:Nat->Nat) (pl:Nat->Option (Nat×Nat)):List (Nat×Operand)->List (Nat×Nat×aK)->Bool
 |[],[]=>true
 |x::xs,y::ys=>pl x.1==some (y.1,y.2.1)&&aG ν x.2 y.2.2&&dP ν pl xs ys
 |_,_=>false
def isInt (P:Program) (t:TypeId):Bool:=match P.underlying t with | some (.int _)=>true | _=>false
theorem xx {P:Program} {t:TypeId} (h:isInt P t=true):∃kd,P.underlying t=some (.int kd):=by
 unfold isInt at h;split at h<;>first | exact⟨_,by assumption⟩|cases h
def ry (P:Program) (ν:Nat->Nat) (op:Op) (io:js):Bool:=
 match io with
 |.l9 y=>(match op with | .move x | .assign x=>aG ν x y | _=>false)
 |.pick c' a' b'=>(match op with | .pick c a b=>aG ν c c'&&aG ν a a'&&aG ν b b' | _=>false)
 |.alloc tag z=>(match op with | .alloc t=>k7 P t z&&Al ν t tag z | _=>false)
 |.box tag y=>(match op with | .box t x=>(tag==0||tag==1&&t==ν pN)&&aG ν x y | _=>false)
 |.build z qs=>(match op with | .build t ps=>k7 P t z&&(match placesOf P t with | some pl=>dP ν pl ps.toList qs | none=>false) | _=>false)
 |.nZ e z n' qs=>(match op with | .buildSlice t n ps=>n==n'&&Am P t n e z&&fO ν ps.toList qs | _=>false)
 |.load agg sz a'=>(match op with | .load t a=>fE P t sz agg&&aG ν a a' | _=>false)
 |.store sz a' x'=>(match op with | .store t a x=>iS P t sz&&aG ν a a'&&aG ν x x' | _=>false)
 |.cU off x'=>(match op with | .fieldAddr s x f=>pD P s f off&&aG ν x x' | _=>false)
 |.fC agg off sz x'=>(match op with | .field s x f=>sq P s f agg off sz&&aG ν x x' | _=>false)
 |.eD len e x' i'=>(match op with | .indexAddr t x i=>pE P t len e&&aG ν x x'&&aG ν i i' | _=>false)
 |.gL e x' i'=>(match op with | .indexAddr t x i=>sliceB P t e&&aG ν x x'&&aG ν i i' | _=>false)
 |.eP agg len e x' i'=>(match op with | .index t x i=>pF P t agg len e&&aG ν x x'&&aG ν i i' | _=>false)
 |.fK x' i'=>(match op with | .index t x i=>isStr P t&&aG ν x x'&&aG ν i i' | _=>false)
 |.bin bo q x' y'=>(match op with | .binOp b t x y _=>b==bo&&qD P t q&&aG ν x x'&&aG ν y y' | _=>false)
 |.pU neg qs x' y'=>(match op with | .binOp b t x y _=>b==(if neg then .neq else .eql)&&Ap P t qs&&aG ν x x'&&aG ν y y' | _=>false)
 |.un uo x'=>(match op with | .unOp u _ x=>u==uo&&aG ν x x' | _=>false)
 |.qT kk x'=>(match op with | .convert s d x=>sv P s d kk&&aG ν x x' | _=>false)
 |.tJ x'=>(match op with | .convert s d x=>isStr P s&&isStr P d&&aG ν x x' | _=>false)
 |.gM e x' oH bX=>(match op with | .slice t x lo hi none=>sliceB P t e&&aG ν x x'&&ja ν lo oH&&ja ν hi bX | _=>false)
 |.fL x' oH bX=>(match op with | .slice t x lo hi none=>isStr P t&&aG ν x x'&&ja ν lo oH&&ja ν hi bX | _=>false)
 |.lh e x'=>(match op with | .slice t x lo (some hi) (some mx)=>sliceB P t e&&aG ν x x'&&(match lo with | none=>true | some l=>pW l)&&pW hi&&pW mx | _=>false)
 |.o6 n x' oH bX=>(match op with | .slice t x lo hi none=>xr P t n&&aG ν x x'&&ja ν lo oH&&ja ν hi bX | _=>false)
 |.ko e z x'=>(match op with | .call { callee:=.builtin .clear,args,argTypes }=>(match args.toList,argTypes.toList with | [x],[t]=>Ao P t e z&&aG ν x x' | _,_=>false) | _=>false)
 |.len str x'=>(match op with | .call { callee:=.builtin .len,args,argTypes }=>(match args.toList,argTypes.toList with | [x],[t]=>sA P t str&&aG ν x x' | _,_=>false) | _=>false)
 |.app e byte x' y'=>(match op with | .call { callee:=.builtin .append,args,argTypes }=>(match args.toList,argTypes.toList with | [x,y],[t,u]=>oE P t u e&&(!byte||(match P.underlying t with | some (.slice el)=>el==ν lT | _=>false))&&aG ν x x'&&aG ν y y' | _,_=>false) | _=>false)
 |.mn x' ys=>(match op with | .call { callee:=.builtin .min,args,.. }=>dE ν args.toList (x'::ys) | _=>false)
 |.mx x' ys=>(match op with | .call { callee:=.builtin .max,args,.. }=>dE ν args.toList (x'::ys) | _=>false)
 |.ext x' i'=>(match op with | .extract x i=>i==i'&&aG ν x x' | _=>false)
 |.nE x'=>(match op with | .nilCheck x=>aG ν x x' | _=>false)
 |.oj f' FW rz=>(match op with | .makeFunc (.func f) first ay=>f==ν f'&&dE ν first.toList FW&&dE ν ay.toList rz | _=>false)
 |.call _ f' kl=>(match op with | .call { callee:=.value f,args,.. }=>aG ν f f'&&dE ν args.toList kl | _=>false)
 |.k6 f' kl=>(match op with | .call { callee:=.value f,args,.. }=>aG ν f f'&&dE ν args.toList kl | _=>false)
 |.sZ x'=>(match op with | .convert s d x=>mY P s&&isStr P d&&aG ν x x' | _=>false)
 |.s7=>(match op with | .makeMap _ none=>true | _=>false)
 |.gB ok agg qs z m' k'=>(match op with | .lookup t m k o=>o==ok&&iG P t qs&&Dk P t agg z&&aG ν m m'&&aG ν k k' | _=>false)
 |.gC qs m' k' x'=>(match op with | .mapUpdate t m k x | .insert t m k x=>iG P t qs&&aG ν m m'&&aG ν k k'&&aG ν x x' | _=>false)
 |.gD qs m' k'=>(match op with | .call { callee:=.builtin .delete,args,argTypes }=>(match args.toList,argTypes.toList with | [m,k],[t,_]=>iG P t qs&&aG ν m m'&&aG ν k k' | _,_=>false) | _=>false)
 |.om m'=>(match op with | .call { callee:=.builtin .len,args,argTypes }=>(match args.toList,argTypes.toList with | [m],[t]=>isMap P t&&aG ν m m' | _,_=>false) | _=>false)
 |.dead=>true
 |.mN x'=>(match op with | .call { callee:=.builtin .cap,args,argTypes }=>(match args.toList,argTypes.toList with | [x],[t]=>(match P.underlying t with | some (.slice el)=>(P.info? el).isSome | _=>false)&&aG ν x x' | _,_=>false) | _=>false)
 |.lN e z x' y'=>(match op with | .call { callee:=.builtin .append,args,argTypes }=>(match args.toList,argTypes.toList with | [x,y],[t,u]=>pO P t e z&&isInt P u&&aG ν x x'&&aG ν y y' | _,_=>false) | _=>false)
 |.fJ kk x'=>(match op with | .call { callee:=.value (.func f),args,.. }=>(match args.toList with | [x]=>kL P "sync/atomic.Load" kk f&&aG ν x x' | _=>false) | _=>false)
 |.rL x' y'=>(match op with | .call { callee:=.value (.func f),args,.. }=>(match args.toList with | [x,y]=>(kL P "sync/atomic.Store" .u32 f||kL P "sync/atomic.Store" .i64 f||kL P "sync/atomic.Store" .i32 f)&&aG ν x x'&&aG ν y y' | _=>false) | _=>false)
 |.lP kk x' y'=>(match op with | .call { callee:=.value (.func f),args,.. }=>(match args.toList with | [x,y]=>kL P "sync/atomic.Add" kk f&&aG ν x x'&&aG ν y y' | _=>false) | _=>false)
 |.mO kk x' o' y'=>(match op with | .call { callee:=.value (.func f),args,.. }=>(match args.toList with | [x,o,y]=>kL P "sync/atomic.CompareAndSwap" kk f&&aG ν x x'&&aG ν o o'&&aG ν y y' | _=>false) | _=>false)
 |.Bq e=>(match op with | .buildSlice t n ps=>n==0&&ps.isEmpty&&sliceB P t e | _=>false)
 |.p8 x'=>(match op with | .convert s d x=>Au P s d&&aG ν x x' | _=>false)
 |.tG x'=>(match op with | .call { callee:=.value (.func f),args,.. }=>(match args.toList with | [x]=>za P "internal/abi.NoEscape" f&&aG ν x x' | _=>false) | _=>false)
 |.p9 x'=>(match op with | .convert s d x=>Av P ν s d&&aG ν x x' | _=>false)
 |.qa x'=>(match op with | .call { callee:=.builtin .unsafeSliceData,args,.. }=>(match args.toList with | [x]=>aG ν x x' | _=>false) | _=>false)
 |.lQ p' n'=>(match op with | .call { callee:=.builtin .unsafeString,args,argTypes }=>(match args.toList,argTypes.toList with | [p,n],[pt,_]=>xw P ν pt&&aG ν p p'&&aG ν n n' | _,_=>false) | _=>false)
 |.rM e z n'=>(match op with | .makeSlice t l c=>pO P t e z&&aG ν l n'&&aG ν c n' | _=>false)
 |.qb e x' oH bX Kg=>(match op with | .slice t x (some lo) (some hi) (some mx)=>sliceB P t e&&aG ν x x'&&aG ν lo oH&&aG ν hi bX&&aG ν mx Kg | _=>false)
def eU (ν:Nat->Nat) (g:Gh) (tmps:Array Value) (fr:Fr):Prop:=∀(t:Nat) (x:AV),get fr t=some x->∃v,tmps[t]?=some v/\RA ν g v x
theorem eU.mono {ν:Nat->Nat} {g g':Gh} {tmps:Array Value} {fr:Fr} (h:eU ν g tmps fr) (hm:aX ν g g'):eU ν g' tmps fr:=
 λt x ht=>let⟨v,h1,h2⟩:=h t x ht;⟨v,h1,hm _ _ h2⟩
section
variable {ν:Nat->Nat} {P:Program} {k:Cx} {g:Gh}
theorem ak {a:Act} {fr:Fr} (hf:eU ν g a.tmps fr) {x:Operand} {y:aK} (h:aG ν x y=true):RA ν g (a.eval x) (ev fr y):=by
 unfold aG at h;split at h
 ·rename_i t n;have:=beq_iff_eq.1 h;subst this;simp only[ev];cases hg:get fr t with
  |none=>exact .undef _
  |some z=>
   obtain⟨v,hv,hR⟩:=hf t z hg;have:a.eval (.tmp t)=v:=by simp[Act.eval,Array.getD,(Array.getElem?_eq_some_iff.1 hv).1,(Array.getElem?_eq_some_iff.1 hv).2]
   rw[this];exact hR
 ·rename_i v x;exact(ke h g).2
 ·rename_i f h';have:=beq_iff_eq.1 h;subst this;exact .iv (.fn h' #[] [] rfl λj v x h=>by simp at h)
 ·cases h
theorem lz {a:Act} {fr:Fr} (hf:eU ν g a.tmps fr):∀{xs:List Operand} {ys:List aK},dE ν xs ys=true->
  (xs.map a.eval).length=(ys.map (ev fr)).length/\∀(j:Nat) (v:Value) (x:AV),(xs.map a.eval)[j]?=some v->(ys.map (ev fr))[j]?=some x->RA ν g v x
 |[],[],_=>⟨rfl,λj v x h=>by simp at h⟩
 |x::xs,y::ys,h=>by
  simp only[dE,Bool.and_eq_true]at h;obtain⟨h1,h2⟩:=lz hf h.2;refine⟨by simpa using h1,λj v z hv hz=>?_⟩;cases j with
  |zero=>simp at hv hz;subst hv hz;exact ak hf h.1
  |succ j=>exact h2 j v z (by simpa using hv) (by simpa using hz)
 |[],_::_,h=>by simp[dE]at h
 |_::_,[],h=>by simp[dE]at h
theorem eV {a:Act} {fr:Fr} (hf:eU ν g a.tmps fr) {x:Option Operand} {y:Option aK} (h:ja ν x y=true):RO ν g (x.map a.eval) (y.map (ev fr)):=by
 cases x<;>cases y<;>simp[ja]at h
 ·trivial
 ·exact ak hf h
theorem mI {a:Act} {fr:Fr} (hf:eU ν g a.tmps fr) {pl:Nat->Option (Nat×Nat)}:∀(ps:List (Nat×Operand)) (qs:List (Nat×Nat×aK)) (cells:Array Value) (cs:List AV) (n:Nat) (l:List (Nat×List AV)) (h h':Hp),
  dP ν pl ps qs=true->RC ν g cells cs->cs.length=n->
  (M.aN (λp:Nat×Nat×aK=>(bW (ev fr p.2.2)).bind λl=>(M.ok (l.length==p.2.1&&Nat.ble (p.1+p.2.1) n)).bind λ_=>M.ret (p.1,l)) qs).run h=some (l,h')->
  h'=h/\∃eQ,Instr.fill pl cells (ps.map λp=>(p.1,a.eval p.2))=some eQ/\RC ν g eQ (gn cs l):=by
 intro ps
 induction ps with
 |nil=>
  intro qs cells cs n l h h' hc hr _ e;cases qs with
  |cons=>simp[dP]at hc
  |nil=>
   obtain⟨rfl,rfl⟩:=b9 e;exact⟨rfl,cells,rfl,hr⟩
 |cons p ps ih=>
  intro qs cells cs n l h h' hc hr hn e;cases qs with
  |nil=>simp[dP]at hc
  |cons q qs=>
   simp only[dP,Bool.and_eq_true,beq_iff_eq]at hc;obtain⟨⟨iE,hq⟩,cO⟩:=hc;obtain⟨y,h1,zs,e1,e2,rfl⟩:=bU e;obtain⟨xs,h2,e3,e4⟩:=ag e1;obtain⟨rfl,hs,oA⟩:=fh e3 (ak hf hq);obtain⟨bt,e6⟩:=M.aj e4;obtain⟨rfl,rfl⟩:=af e6;simp only[Bool.and_eq_true,beq_iff_eq,Nat.ble_eq]at bt;have cK:q.1+xs.length<=cs.length:=by omega
   have yx:=hr.cn (us:=(a.eval p.2).cells) (l:=xs) (o:=q.1) ⟨hs,oA⟩ cK;obtain⟨rfl,c',fj,hR⟩:=ih qs _ _ n zs h1 h' cO yx (by rw[dj _ _ _ cK];exact hn) e2;refine⟨rfl,c',?_,hR⟩;rw[<-fj];simp only[List.map_cons,Instr.fill,iE];have rh:¬(((a.eval p.2).cells.size≠q.2.1||q.1+(a.eval p.2).cells.size > cells.size)=true):=by
    have:=hr.1;simp;omega
   rw[if_neg rh,<-Array.foldl_toList,Array.toList_zipIdx]
theorem qv (r:Rel ν k g) {a:Act} {fr:Fr} (hf:eU ν g a.tmps fr) {t:TypeId} {z:List AV} {ps:Array (Nat×Operand)} {qs:List (Nat×Nat×aK)} {pl:Nat->Option (Nat×Nat)}
  (hz:k7 P t z=true) (hp:placesOf P t=some pl) (hc:dP ν pl ps.toList qs=true) {y:AV} {h':Hp}
  (e:((M.aN (λp:Nat×Nat×aK=>(bW (ev fr p.2.2)).bind λl=>(M.ok (l.length==p.2.1&&Nat.ble (p.1+p.2.1) z.length)).bind λ_=>M.ret (p.1,l)) qs).bind λl=>M.ret (.agg (gn z l))).run g.h=some (y,h')) :
  bf ν k g h' y ((Instr.build t (ps.map fun(i,x)=>(i,a.eval x))).run P g.w):=by
 obtain⟨l,h1,e1,e2⟩:=ag e;obtain⟨rfl,rfl⟩:=af e2;obtain⟨i,v,hi,oC,fV⟩:=jN hz;have CI:=qF (ν:=ν) (g:=g) fV;obtain⟨rfl,eQ,fj,hR⟩:=mI hf ps.toList qs v.cells z z.length l _ _ hc CI rfl e1;refine .same r (run_build g.w t _ eQ ?_) hR.agg;rw[uq hp hi oC rfl];simpa using fj
theorem ur (r:Rel ν k g) {s d:TypeId} (hs:mY P s=true) (hd:isStr P d=true) {v:Value} {x y:AV} {h':Hp} (hv:RA ν g v x)
  (e:((elems 1 x).bind λys=>(M.lift (bytesOf ys)).bind λb=>M.ret (.iv (.str (ql b)))).run g.h=some (y,h')):bf ν k g h' y ((convert s d v).run P g.w):=by
 obtain⟨ys,h1,e1,e2⟩:=ag e;obtain⟨rfl,news,⟨a,c,ct,zZ⟩,hlen,E9,gV⟩:=j5 r e1 hv;obtain⟨b,hb,e4⟩:=M.lift_bind e2;obtain⟨rfl,rfl⟩:=af e4;obtain⟨vZ,uu⟩:=iw hb;obtain⟨el,oe,mZ⟩:=pX hs;have pY:=dW hd;subst ct;refine .same r (v:=.string (ql b)) ?_ mkStr;rcases zZ with h0 | ⟨yy,off,rfl,dI⟩
 ·have:b=[]:=List.eq_nil_of_length_eq_zero (by omega);subst this;rw[h0];cases a with
  |none=>rw[run_convert_bytes_nil g.w s el oe mZ 0 c d pY];rfl
  |some a=>
   rw[run_convert_bytes_string g.w s d el _ 0 c oe mZ pY,run_bytesToString g.w a 0 c [] (by simp[loadCells,loadCellsFrom])];rfl
 ·refine run_convert_bytes_arg g.w s el oe mZ yy off ys.length c b vZ (λi hi=>?_) d pY;obtain⟨u,hu, -,hR⟩:=gV i 0 _ _ (uu i hi) rfl;have:=dI (i*1+0) u hu;rw[Nat.mul_one,Nat.add_zero]at this;rw[this,hR.int]
end
def RL (ν:Nat->Nat) (g:Gh) (vs:List Value) (xs:List AV):Prop:=vs.length=xs.length/\∀(j:Nat) (v:Value) (x:AV),vs[j]?=some v->xs[j]?=some x->RA ν g v x
section
variable {ν:Nat->Nat} {P:Program} {k:Cx} {g:Gh}
theorem RL.nil:RL ν g [] []:=⟨rfl,λj v x h=>by simp at h⟩
theorem RL.cons {v:Value} {x:AV} {vs:List Value} {xs:List AV} (h:RA ν g v x) (hl:RL ν g vs xs):RL ν g (v::vs) (x::xs):=
 ⟨by simp[hl.1],λj v' x' h1 h2=>by
  cases j with
  |zero=>simp at h1 h2;subst h1 h2;exact h
  |succ j=>exact hl.2 j v' x' (by simpa using h1) (by simpa using h2)⟩
theorem RL.tail {v:Value} {x:AV} {vs:List Value} {xs:List AV} (h:RL ν g (v::vs) (x::xs)):RA ν g v x/\RL ν g vs xs:=
 ⟨h.2 0 v x rfl rfl,by have:=h.1;simpa using this,λj v' x' h1 h2=>h.2 (j+1) v' x' (by simpa using h1) (by simpa using h2)⟩
theorem RL.mono {g':Gh} {vs:List Value} {xs:List AV} (h:RL ν g vs xs) (hm:∀v x,RA ν g v x->RA ν g' v x):RL ν g' vs xs:=⟨h.1,λj v x h1 h2=>hm _ _ (h.2 j v x h1 h2)⟩
theorem RL.append {vs us:List Value} {xs ys:List AV} (h:RL ν g vs xs) (h':RL ν g us ys):RL ν g (vs++us) (xs++ys):=
 ⟨by simp[h.1,h'.1],λj v x h1 h2=>by
  rw[List.getElem?_append]at h1 h2;rw[<-h.1]at h2;split at h1
  ·rename_i hj;rw[if_pos hj]at h2;exact h.2 j v x h1 h2
  ·rename_i hj;rw[if_neg hj]at h2;exact h'.2 _ v x h1 h2⟩
theorem lA (r:Rel ν k g) {a:AV} {y:al.AV} {h':Hp} (e:(eu true a).run g.h=some (y,h')) {v:Value} (hv:RA ν g v a):∃I',cg ν k g h' I'/\jA ν I' g.w v y:=by
 have plain:∀{a:AV},((fz true 8 a).bind λx=>M.ret (al.AV.iv x)).run g.h=some (y,h')->RA ν g v a->∃I',cg ν k g h' I'/\jA ν I' g.w v y:=by
  intro a e hv;obtain⟨x,h1,e1,e2⟩:=ag e;obtain⟨rfl,rfl⟩:=af e2;obtain⟨I',f,hR⟩:=iU ν 8 k g a x _ e1 r v hv;exact⟨I',f,.iv hR⟩
 cases a with
 |agg cs=>
  obtain⟨xs,h1,e1,e2⟩:=ag e;obtain⟨rfl,rfl⟩:=af e2;obtain⟨vs,rfl⟩:=hv.dN;obtain⟨V,hV⟩:=pick λj c hc=>hv.dO j c hc
  obtain⟨I',f,hl,hx⟩:=(iU ν 8).list cs k g xs _ e1 r V λj c hc=>(hV j c hc).2
  refine⟨I',f,mq ?_ λj v x h1 h2=>?_⟩
  ·cases hv with
   |agg hn _ _=>omega
  ·have aV:=aA h2;have:=(hV j _ (List.getElem?_eq_getElem (show j<cs.length by omega))).1;rw[h1]at this;cases this;exact hx j x h2
 |undef=>exact plain e hv
 |cI q=>exact plain e hv
 |iv x=>exact plain e hv
 |aR vs=>exact plain e hv
 |own id o n v=>exact plain e hv
 |ref id v i j=>exact plain e hv
 |bJ f fs ay=>exact plain e hv
theorem z6 (r:Rel ν k g) {a:AV} {y:al.AV} {h':Hp} (e:(eu false a).run g.h=some (y,h')) {v:Value} (hv:RA ν g v a) :
  h'=g.h/\∀J:Nat->Prop,(∀b,g.I b->J b)->(∀id o b,get g.h id=some o->g.φ id=some b->J b)->jA ν J g.w v y:=by
 have plain:∀{a:AV},((fz false 8 a).bind λx=>M.ret (al.AV.iv x)).run g.h=some (y,h')->RA ν g v a->
   h'=g.h/\∀J:Nat->Prop,(∀b,g.I b->J b)->(∀id o b,get g.h id=some o->g.φ id=some b->J b)->jA ν J g.w v y:=by
  intro a e hv;obtain⟨x,h1,e1,e2⟩:=ag e;obtain⟨rfl,rfl⟩:=af e2;obtain⟨rfl,hR⟩:=lp ν 8 k g a x _ e1 r v hv;exact⟨rfl,λJ h1 h2=>.iv (hR J h1 h2)⟩
 cases a with
 |agg cs=>
  obtain⟨xs,h1,e1,e2⟩:=ag e;obtain⟨rfl,rfl⟩:=af e2;obtain⟨vs,rfl⟩:=hv.dN;obtain⟨V,hV⟩:=pick λj c hc=>hv.dO j c hc
  obtain⟨rfl,hl,hx⟩:=(lp ν 8).list k g r cs xs _ e1 V λj c hc=>(hV j c hc).2
  refine⟨rfl,λJ h1 h2=>mq ?_ λj v x h3 h4=>?_⟩
  ·cases hv with
   |agg hn _ _=>omega
  ·have aV:=aA h4;have:=(hV j _ (List.getElem?_eq_getElem (show j<cs.length by omega))).1;rw[h3]at this;cases this;exact hx J h1 h2 j x h4
 |undef=>exact plain e hv
 |cI q=>exact plain e hv
 |iv x=>exact plain e hv
 |aR vs=>exact plain e hv
 |own id o n v=>exact plain e hv
 |ref id v i j=>exact plain e hv
 |bJ f fs ay=>exact plain e hv
theorem kF:∀(U:List AV) (k:Cx) (g:Gh) (ys:List al.AV) (h':Hp),(M.aN (eu true) U).run g.h=some (ys,h')->Rel ν k g->∀vs:List Value,RL ν g vs U->
  ∃I',cg ν k g h' I'/\al.RL ν ⟨I',λ_=>none,g.w,[]⟩ vs ys:=by
 intro U
 induction U with
 |nil=>
  intro k g ys h' e r vs hv;obtain⟨rfl,rfl⟩:=b9 e;have:vs=[]:=List.eq_nil_of_length_eq_zero hv.1;subst this;exact⟨g.I,.refl r,al.RL.nil⟩
 |cons a U ih=>
  intro k g ys h' e r vs hv;cases vs with
  |nil=>have:=hv.1;simp at this
  |cons v vs=>
   obtain⟨y,h1,zs,e1,e2,rfl⟩:=bU e;obtain⟨I1,f1,hR⟩:=lA r e1 hv.tail.1;obtain⟨I2,f2,dn⟩:=ih k _ zs h' e2 f1.rel vs (hv.tail.2.mono f1.mono);exact⟨I2,f1.trans f2,al.RL.cons (hR.mono λv x h=>h.mono f2.sub λ_ _ _ _ h=>h) dn⟩
theorem oI (r:Rel ν k g):∀(U:List AV) (ys:List al.AV) (h':Hp),(M.aN (eu false) U).run g.h=some (ys,h')->∀vs:List Value,RL ν g vs U->
  h'=g.h/\∀J:Nat->Prop,(∀b,g.I b->J b)->(∀id o b,get g.h id=some o->g.φ id=some b->J b)->al.RL ν ⟨J,λ_=>none,g.w,[]⟩ vs ys:=by
 intro U
 induction U with
 |nil=>
  intro ys h' e vs hv;obtain⟨rfl,rfl⟩:=b9 e;have:vs=[]:=List.eq_nil_of_length_eq_zero hv.1;subst this;exact⟨rfl,λ_ _ _=>al.RL.nil⟩
 |cons a U ih=>
  intro ys h' e vs hv;cases vs with
  |nil=>have:=hv.1;simp at this
  |cons v vs=>
   obtain⟨y,h1,zs,e1,e2,rfl⟩:=bU e;obtain⟨rfl,hR⟩:=z6 r e1 hv.tail.1;obtain⟨rfl,dn⟩:=ih zs h' e2 vs hv.tail.2;exact⟨rfl,λJ h1 h2=>al.RL.cons (hR J h1 h2) (dn J h1 h2)⟩
theorem vd:∀{cs:List al.AV} {xs:List IV},jL cs=some xs->cs=xs.map .iv
 |[],xs,h=>by simp[jL]at h;subst h;rfl
 |.iv x::r,xs,h=>by
  simp only[jL,Option.map_eq_some_iff]at h;obtain⟨ys,h1,rfl⟩:=h;rw[vd h1];rfl
 |.undef::_,_,h=>by simp[jL]at h
 |.agg _::_,_,h=>by simp[jL]at h
 |.aR _::_,_,h=>by simp[jL]at h
 |.own _ _ _ _::_,_,h=>by simp[jL]at h
 |.ref _ _ _ _::_,_,h=>by simp[jL]at h
 |.bJ _ _::_,_,h=>by simp[jL]at h
theorem ve {I:Nat->Prop} {w:World} {v:Value} {a:al.AV} {y:AV} (h:jA ν I w v a) (e:wg a=some y) (hR:∀v x,RI ν I w v x->RI ν g.I g.w v x):RA ν g v y:=by
 cases a with
 |iv x=>
  simp[wg]at e;subst e;cases h with
  |iv h=>exact .iv (hR _ _ h)
 |agg cs=>
  simp only[wg,Option.map_eq_some_iff]at e;obtain⟨xs,h1,rfl⟩:=e;obtain rfl:=vd h1;cases h with
  |agg hn h1 hr=>
   refine .agg (by simpa using hn) h1 λj v c hv hc=>?_
   simp only[List.getElem?_map,Option.map_eq_some_iff]at hc;obtain⟨x,hx,rfl⟩:=hc;have:=hr j v (.iv x) hv (by simp[hx]);cases this with
   |iv h=>exact .iv (hR _ _ h)
 |undef=>cases e
 |aR _=>cases e
 |own _ _ _ _=>cases e
 |ref _ _ _ _=>cases e
 |bJ _ _=>cases e
theorem ze:∀{U:List al.AV} {ys:List AV},y0 U=some ys->U.length=ys.length/\∀(j:Nat) (a:al.AV) (y:AV),U[j]?=some a->ys[j]?=some y->wg a=some y
 |[],ys,h=>by simp[y0]at h;subst h;exact⟨rfl,λj a y h=>by simp at h⟩
 |a::U,ys,h=>by
  simp only[y0,Option.bind_eq_some_iff,Option.map_eq_some_iff]at h;obtain⟨y,h1,zs,h2,rfl⟩:=h;obtain⟨q1,q2⟩:=ze h2;refine⟨by simp[q1],λj a' y' ha hy=>?_⟩;cases j with
  |zero=>simp at ha hy;subst ha hy;exact h1
  |succ j=>exact q2 j a' y' (by simpa using ha) (by simpa using hy)
theorem zf {I:Nat->Prop} {w:World} {v:Value} {a:al.AV} {y:AV} (h:jA ν I w v a) (e:y3 a=some y) (hR:∀v x,RI ν I w v x->RI ν g.I g.w v x):RA ν g v y:=by
 cases a with
 |aR vs=>
  simp only[y3,Option.map_eq_some_iff]at e;obtain⟨ys,h1,rfl⟩:=e;obtain⟨q1,q2⟩:=ze h1;cases h with
  |aR hn hr=>
   refine .aR (by omega) λj v c hv hc=>?_
   have hj:j<vs.length:=by have:=aA hc;omega
   exact ve (hr j v _ hv (List.getElem?_eq_getElem hj)) (q2 j _ c (List.getElem?_eq_getElem hj) hc) hR
 |iv x=>exact ve h e hR
 |agg cs=>exact ve h e hR
 |undef=>cases e
 |own _ _ _ _=>cases e
 |ref _ _ _ _=>cases e
 |bJ _ _=>cases e
def gW (ν:Nat->Nat) (P:Program) (f:Nat) (args:List AV) (hp:Hp) (r:AV) (bN:Hp):Prop:=
 ∀(k0:Cx) (g0:Gh) (aT:Array Value),g0.h=hp->Rel ν k0 g0->RL ν g0 aT.toList args->
  Calls P (ν f) aT g0.w λe w'=>∃v g',e = .returned v/\g'.w=w'/\g'.h=bN/\Rel ν k0 g'/\aX ν g0 g'/\RA ν g' v r
def bp (ν:Nat->Nat) (P:Program) (call:cA):Prop:=
 ∀f args hp nx r bN dL,call f args hp nx=some (r,bN,dL)->(∃fn,P.funcs[ν f]?=some fn/\fn.body.isSome=true/\(fn.name=="runtime.NumGoroutine")=false)/\gW ν P f args hp r bN
theorem eN {x:AV} {q:Nat×List AV×List AV} (e:callee x=some q) {v:Value} (hv:RA ν g v x):∃first ay,v = .func (.func (ν q.1)) first ay/\RL ν g first.toList q.2.1/\RL ν g ay.toList q.2.2:=by
 unfold callee at e;split at e
 ·cases e;cases hv with
  |iv h=>
   cases h with
   |fn f ay cs hn hr=>
    refine⟨#[],ay,rfl,.nil,by simpa using hn,λj v x h1 h2=>?_⟩;simp only[List.getElem?_map,Option.map_eq_some_iff]at h2;obtain⟨y,hy,rfl⟩:=h2;exact .iv (hr j v y (by simpa using h1) hy)
 ·cases e;cases hv with
  |bJ hm hs hn hr=>exact⟨_,_,rfl,⟨by simpa using hm,λj v x h1 h2=>hs j v x (by simpa using h1) h2⟩,by simpa using hn,λj v x h1 h2=>hr j v x (by simpa using h1) h2⟩
 ·cases e
theorem oK {ρ:Operand->Value} {o:Oper} {fo:Operand} {aT:Array Operand} {cC:Array TypeId} (ho:o.op = .call { callee:=.value fo,args:=aT,argTypes:=cC }) {f:Nat} {first ay:Array Value}
  (hf:ρ fo = .func (.func (ν f)) first ay) {fn:Func} (dp:P.funcs[ν f]?=some fn) (hb:fn.body.isSome=true) (hn:(fn.name=="runtime.NumGoroutine")=false) (w:World) :
  (execOp ρ o).run P w = .ok (.enter (ν f) (first++aT.map ρ++ay)) w:=by
 have fT:¬fn.body=none:=λh=>by rw[h]at hb;cases hb
 have dJ:¬fn.name="runtime.NumGoroutine":=by simpa using hn
 simp[execOp,ho,resolve,hf,Deferred.ofValue,invoke,callFunc,dp,fT,dJ]
def fA (ν:Nat->Nat) (P:Program) (k:Cx) (g:Gh) (h':Hp) (y:AV) (fv:Value) (aT:Array Value):Prop:=
 ∃q first ay fn,fv = .func (.func (ν q)) first ay/\P.funcs[ν q]?=some fn/\fn.body.isSome=true/\(fn.name=="runtime.NumGoroutine")=false/\
  Calls P (ν q) (first++aT++ay) g.w λe w'=>∃v g',e = .returned v/\g'.w=w'/\g'.h=h'/\Rel ν k g'/\aX ν g g'/\RA ν g' v y
theorem qG {q:Nat×List AV×List AV} {first ay aT:Array Value} {args:List AV} (h1:RL ν g first.toList q.2.1) (h2:RL ν g ay.toList q.2.2) (ha:RL ν g aT.toList args) :
  RL ν g (first++aT++ay).toList (q.2.1++(args++q.2.2)):=by
 have:=h1.append (ha.append h2);simpa using this
theorem nN (r:Rel ν k g) {J:Nat->Prop} {g':al.Gh} (r':al.Rel ν ⟨g.w,J,λ_=>False⟩ g'):Rel ν k { g with w:=g'.w }/\aX ν g { g with w:=g'.w }:=
 r.world (I':=g.I) (λ_ h=>h) (λ_ h=>.inl h) r'.size r'.os r'.tape r'.output λb hb=>r'.cr b hb (.inl λh=>h)
theorem qx {call:bR} (hs:al.bp ν P call) (r:Rel ν k g) {f y:AV} {args:List AV} {h':Hp} (e:(fc call f args).run g.h=some (y,h')) {fv:Value} {aT:Array Value}
  (hf:RA ν g fv f) (ha:RL ν g aT.toList args):fA ν P k g h' y fv aT:=by
 obtain⟨q,hq,e2⟩:=M.lift_bind e;obtain⟨first,ay,rfl,jC,eI⟩:=eN hq hf;obtain⟨U,h2,e3,e4⟩:=ag e2;obtain⟨rfl,hJ⟩:=oI r _ _ _ e3 _ (qG jC eI ha);obtain⟨y',hc,e6⟩:=M.lift_bind e4;obtain⟨yA,e8⟩:=M.aj e6;obtain⟨Dr,rfl⟩:=dz e8;obtain⟨⟨rr,hh⟩,eo,nO⟩:=Option.bind_eq_some_iff.1 hc;obtain⟨⟨fn,dp,hb,hn⟩,bt⟩:=hs _ _ _ _ _ eo;have CJ:∀b,(g.I b\/∃id o,get g.h id=some o/\g.φ id=some b)->b<g.w.heap.size:=by
  rintro b (h | ⟨id,o,ho,ah⟩)
  ·exact r.small b h
  ·exact(r.ob id o ho).block ah r.small
 have dn:=hJ (λb=>g.I b\/∃id o,get g.h id=some o/\g.φ id=some b) (λ_ h=>.inl h) λid o b h1 h2=>.inr ⟨id,o,h1,h2⟩
 refine⟨q.1,first,ay,fn,rfl,dp,hb,hn,(bt ⟨g.w,_,λ_=>False⟩ ⟨_,λ_=>none,g.w,[]⟩ _ rfl rfl rfl (al.lE (g:=⟨λ_=>False,λ_=>none,g.w,[]⟩) CJ) dn).mono ?_⟩;rintro e w' ⟨v,g',rfl,rfl,rfl,r', -,hR⟩;obtain⟨I',q8, -,kC⟩:=pG r' nO hR;obtain⟨r2,m2⟩:=nN r r';exact⟨v,{ g with w:=g'.w },rfl,rfl,rfl,r2,m2,zf (I:=g.I) (w:=g'.w) (qw yA kC) Dr λ_ _ h=>h⟩
theorem oL {call:bR} (hs:al.bp ν P call) (r:Rel ν k g) {f y:AV} {args:List AV} {h':Hp} (e:(gN call f args).run g.h=some (y,h')) {fv:Value} {aT:Array Value}
  (hf:RA ν g fv f) (ha:RL ν g aT.toList args):fA ν P k g h' y fv aT:=by
 obtain⟨q,hq,e2⟩:=M.lift_bind e;obtain⟨first,ay,rfl,jC,eI⟩:=eN hq hf;obtain⟨U,h2,e3,e4⟩:=ag e2;obtain⟨I1,f1,dn⟩:=kF _ k g U _ e3 r _ (qG jC eI ha);obtain⟨y',hc,e6⟩:=M.lift_bind e4;obtain⟨Dr,rfl⟩:=dz e6;obtain⟨⟨rr,hh⟩,eo,nO⟩:=Option.bind_eq_some_iff.1 hc;obtain⟨⟨fn,dp,hb,hn⟩,bt⟩:=hs _ _ _ _ _ eo;refine⟨q.1,first,ay,fn,rfl,dp,hb,hn,(bt ⟨g.w,_,λ_=>False⟩ ⟨_,λ_=>none,g.w,[]⟩ _ rfl rfl rfl (al.lE (g:=⟨λ_=>False,λ_=>none,g.w,[]⟩) f1.rel.small) dn).mono ?_⟩;rintro e w' ⟨v,g',rfl,rfl,rfl,r', -,hR⟩;obtain⟨I2,q8,f2,kC⟩:=pG r' nO hR
 have oM:∀b,I2 b->I1 b\/g.w.heap.size<=b/\b<g'.w.heap.size:=by
  intro b hb;have aV:=f2.rel.small b hb;rcases f2.rel.i1 b hb with h | h | h
  ·exact .inl h
  ·exact h.elim
  ·exact .inr ⟨h,aV⟩
 have hw:=f1.rel.world (w':=g'.w) (I':=I2) (λb h=>f2.sub b (r'.i0 b h)) oM r'.size r'.os r'.tape r'.output λb hb=>r'.cr b hb (.inl λh=>h)
 exact⟨v,⟨I2,g.φ,g'.w,_⟩,rfl,rfl,rfl,hw.1,f1.mono.trans hw.2,zf kC Dr λv x h=>h⟩
end
theorem M.lv {α β γ:Type} (f:β->M γ) (h:α->β):∀l:List α,M.aN f (l.map h)=M.aN (λx=>f (h x)) l
 |[]=>rfl
 |x::r=>by simp only[List.map_cons,M.aN,M.lv f h r]
section
variable {ν:Nat->Nat} {P:Program} {k:Cx} {g:Gh}
theorem aB {o:Oper} {a:Act} {h':Hp} {y:AV} {s:Sem Value} (hx:execOp a.eval o=(do pure (.value (<-s)):Sem Next)) (d:bf ν k g h' y (s.run P g.w)) {next:Act->World->Prop} {Q:Exit->Act->World->Prop}
  (hn:∀g' v,g'.h=h'->Rel ν k g'->aX ν g g'->RA ν g' v y->next (a.put o.dst v) g'.w):o.wp P a g.w next Q:=by
 obtain⟨g',v,hr,hh,r',m,hR⟩:=d;unfold Oper.wp;rw[hx];simp only[Sem.run_bind,hr,Result.andThen_ok,Sem.run_pure];exact hn g' v hh r' m hR
theorem iy {o:Oper} {a:Act} {h':Hp} {y:AV} {fo:Operand} {aT:Array Operand} {cC:Array TypeId} (ho:o.op = .call { callee:=.value fo,args:=aT,argTypes:=cC })
  (d:fA ν P k g h' y (a.eval fo) (aT.map a.eval)) {next:Act->World->Prop} {Q:Exit->Act->World->Prop}
  (hn:∀g' v,g'.h=h'->Rel ν k g'->aX ν g g'->RA ν g' v y->next (a.put o.dst v) g'.w):o.wp P a g.w next Q:=by
 obtain⟨q,first,ay,fn,hf,dp,hb,rC,hc⟩:=d;unfold Oper.wp;rw[oK ho hf dp hb rC];rw[Oper.upon_enter];refine hc.mono ?_;rintro e w' ⟨v,g',rfl,rfl,hh,r',m,hR⟩;exact hn g' v hh r' m hR
theorem nk {o:Oper} {a:Act} {h':Hp} {y:AV} {f:Nat} {aT:Array Operand} {cC:Array TypeId} (ho:o.op = .call { callee:=.value (.func f),args:=aT,argTypes:=cC })
  (d:sS ν P k g h' y f (aT.map a.eval)) {next:Act->World->Prop} {Q:Exit->Act->World->Prop}
  (hn:∀g' v,g'.h=h'->Rel ν k g'->aX ν g g'->RA ν g' v y->next (a.put o.dst v) g'.w):o.wp P a g.w next Q:=by
 obtain⟨g',v,hr,hh,r',m,hR⟩:=d;have hx:(execOp a.eval o).run P g.w = .ok (.value v) g'.w:=by
  have:a.eval (.func f) = .func (.func f) #[] #[]:=rfl;simp[execOp,ho,resolve,this,Deferred.ofValue,invoke,hr]
 unfold Oper.wp;rw[hx];exact hn g' v hh r' m hR
theorem pb {a:Act} {x:Operand} (h:pW x=true):∃kk,a.eval x = .int kk 0:=by
 unfold pW at h;split at h
 ·rename_i kk n;have:=beq_iff_eq.1 h;subst this;exact⟨kk,rfl⟩
 ·cases h
theorem fP {a:Act} {fr:Fr} (hf:eU ν g a.tmps fr) {xs:Array Operand} {ys:List aK} (h:dE ν xs.toList ys=true):RL ν g (xs.map a.eval).toList (ys.map (ev fr)):=by
 obtain⟨h1,h2⟩:=lz hf h;exact⟨by simpa using h1,λj v x hv hx=>h2 j v x (by simpa using hv) hx⟩
theorem lF {a:Act} {fr:Fr} (hf:eU ν g a.tmps fr):∀{ps:List (Nat×Operand)} {qs:List (Nat×aK)},fO ν ps qs=true->
  (ps.map λp=>(p.1,a.eval p.2)).length=(qs.map λp=>(p.1,ev fr p.2)).length/\
  ∀(j:Nat) (q:Nat×Value) (p:Nat×AV),(ps.map λp=>(p.1,a.eval p.2))[j]?=some q->(qs.map λp=>(p.1,ev fr p.2))[j]?=some p->q.1=p.1/\RA ν g q.2 p.2
 |[],[],_=>⟨rfl,λj v x h=>by simp at h⟩
 |x::xs,y::ys,h=>by
  simp only[fO,Bool.and_eq_true,beq_iff_eq]at h;obtain⟨h1,h2⟩:=lF hf h.2;refine⟨by simpa using h1,λj v z hv hz=>?_⟩;cases j with
  |zero=>simp at hv hz;subst hv hz;exact⟨h.1.1,ak hf h.1.2⟩
  |succ j=>exact h2 j v z (by simpa using hv) (by simpa using hz)
 |[],_::_,h=>by simp[fO]at h
 |_::_,[],h=>by simp[fO]at h
set_option maxHeartbeats 4000000 in
theorem xn {call:bR} (hs:al.bp ν P call) {o:Oper} {a:Act} {fr:Fr} {io:js} {slot:Nat} (hc:ry P ν o.op io=true) (r:Rel ν k g) (hf:eU ν g a.tmps fr) {y:AV} {h':Hp}
  (e:(bn call slot (ev fr) io).run g.h=some (y,h')) {next:Act->World->Prop} {Q:Exit->Act->World->Prop}
  (hn:∀g' v,g'.h=h'->Rel ν k g'->aX ν g g'->RA ν g' v y->next (a.put o.dst v) g'.w):o.wp P a g.w next Q:=by
 unfold ry at hc;split at hc
 case h_1 y'=>
  obtain⟨rfl,rfl⟩:=af e;split at hc
  ·rename_i x ho;exact aB (s:=pure (a.eval x)) (by simp[execOp,ho]) (.same r rfl (ak hf hc)) hn
  ·rename_i x ho;exact aB (s:=pure (a.eval x)) (by simp[execOp,ho]) (.same r rfl (ak hf hc)) hn
  ·cases hc
 case h_2=>
  split at hc
  case h_2=>cases hc
  rename_i c x z ho;simp only[Bool.and_eq_true]at hc;simp only[bn]at e;split at e
  case h_2=>exact(ae e).elim
  rename_i t ht;obtain⟨rfl,rfl⟩:=af e;have h1:=ak hf hc.1.1;rw[ht]at h1;have hb:=h1.bool;refine aB (s:=do pure (if <-asBool (a.eval c) then a.eval x else a.eval z)) (by simp[execOp,ho]) (.same r (v:=if t then a.eval x else a.eval z) (by simp[hb,asBool]) ?_) hn;cases t
  ·exact ak hf hc.2
  ·exact ak hf hc.1.2
 case h_3=>
  split at hc
  case h_2=>cases hc
  rename_i t ho;simp only[Bool.and_eq_true]at hc;exact aB (s:=Instr.alloc t true (.tuple #[])) (by simp[execOp,ho]) (ox r hc.1 hc.2 e) hn
 case h_4=>
  split at hc
  case h_2=>cases hc
  rename_i t x ho;rw[Bool.and_eq_true]at hc;exact aB (s:=Instr.box t (a.eval x)) (by simp[execOp,ho]) (tZ r hc.1 (ak hf hc.2) e) hn
 case h_5=>
  split at hc
  case h_2=>cases hc
  rename_i t ps ho;simp only[Bool.and_eq_true]at hc;obtain⟨hz,hc⟩:=hc;split at hc
  case h_2=>cases hc
  rename_i pl iE;exact aB (s:=Instr.build t (ps.map fun(i,x)=>(i,a.eval x))) (by simp[execOp,ho]) (qv r hf hz iE hc e) hn
 case h_6 e0 z n' qs=>
  split at hc
  case h_2=>cases hc
  rename_i t n ps ho;simp only[Bool.and_eq_true,beq_iff_eq]at hc;obtain⟨⟨rfl,hb⟩,hq⟩:=hc;obtain⟨hl,hp⟩:=lF hf hq;refine aB (s:=Instr.buildSlice t n (ps.toList.map λp=>(p.1,a.eval p.2)).toArray) (by
   have:(ps.map fun(p:Nat×Operand)=>(p.1,a.eval p.2))=(ps.toList.map λp=>(p.1,a.eval p.2)).toArray:=by apply Array.ext';simp
   simp only[execOp,ho];rw[<-this]) (ud (slot:=slot) r hb hl hp ?_) hn
  rw[M.lv];exact e
 case h_7=>
  split at hc
  case h_2=>cases hc
  rename_i t x ho;simp only[Bool.and_eq_true]at hc;exact aB (s:=Instr.loadAt t (a.eval x)) (by simp[execOp,ho]) (sk r hc.1 (ak hf hc.2) e) hn
 case h_8=>
  split at hc
  case h_2=>cases hc
  rename_i t x z ho;simp only[Bool.and_eq_true]at hc;obtain⟨g',bd,rfl,hh,r',m⟩:=qo r hc.1.1 (ak hf hc.1.2) (ak hf hc.2) e;unfold Oper.wp;have hx:(execOp a.eval o).run P g.w = .ok .skip g'.w:=by simp[execOp,ho,bd]
  rw[hx];exact hn g' undef hh r' m (.aR rfl λj v c h=>by simp at h)
 case h_9=>
  split at hc
  case h_2=>cases hc
  rename_i t x f ho;simp only[Bool.and_eq_true]at hc;exact aB (s:=Instr.fieldAt t (a.eval x) f) (by simp[execOp,ho]) (sm r hc.1 (ak hf hc.2) e) hn
 case h_10=>
  split at hc
  case h_2=>cases hc
  rename_i t x f ho;simp only[Bool.and_eq_true]at hc;exact aB (s:=Instr.field t (a.eval x) f) (by simp[execOp,ho]) (tQ r hc.1 (ak hf hc.2) e) hn
 case h_11=>
  split at hc
  case h_2=>cases hc
  rename_i t x z ho;simp only[Bool.and_eq_true]at hc;exact aB (s:=Instr.indexAt t (a.eval x) (a.eval z)) (by simp[execOp,ho]) (sn r hc.1.1 (ak hf hc.1.2) (ak hf hc.2) e) hn
 case h_12=>
  split at hc
  case h_2=>cases hc
  rename_i t x z ho;simp only[Bool.and_eq_true]at hc;exact aB (s:=Instr.indexAt t (a.eval x) (a.eval z)) (by simp[execOp,ho]) (tP r hc.1.1 (ak hf hc.1.2) (ak hf hc.2) e) hn
 case h_13=>
  split at hc
  case h_2=>cases hc
  rename_i t x z ho;simp only[Bool.and_eq_true]at hc;exact aB (s:=Instr.index t (a.eval x) (a.eval z)) (by simp[execOp,ho]) (sr r hc.1.1 (ak hf hc.1.2) (ak hf hc.2) e) hn
 case h_14=>
  split at hc
  case h_2=>cases hc
  rename_i t x z ho;simp only[Bool.and_eq_true]at hc;exact aB (s:=Instr.index t (a.eval x) (a.eval z)) (by simp[execOp,ho]) (su r (dW hc.1.1) (ak hf hc.1.2) (ak hf hc.2) e) hn
 case h_15 bo q x' y'=>
  split at hc
  case h_2=>cases hc
  rename_i b t x z yt ho;simp only[Bool.and_eq_true,beq_iff_eq]at hc;obtain⟨⟨⟨rfl,hq⟩,hx⟩,hz⟩:=hc;exact aB (s:=do eqGuard b t x z (a.eval x) (a.eval z);binOp b t (a.eval x) (a.eval z)) (by simp[execOp,ho]) (BI r hq (ak hf hx) (ak hf hz) e) hn
 case h_16 neg qs x' y'=>
  split at hc
  case h_2=>cases hc
  rename_i b t x z yt ho;simp only[Bool.and_eq_true,beq_iff_eq]at hc;obtain⟨⟨⟨rfl,hq⟩,hx⟩,hz⟩:=hc;simp only[bn]at e;split at e
  case h_2=>exact(ae e).elim
  rename_i xs ys CZ oF;obtain⟨w',hb,e2⟩:=M.lift_bind e;obtain⟨rfl,rfl⟩:=af e2;have h1:=ak hf hx;have h2:=ak hf hz;rw[CZ]at h1;rw[oF]at h2;exact aB (s:=do eqGuard (if neg then .neq else .eql) t x z (a.eval x) (a.eval z);binOp (if neg then .neq else .eql) t (a.eval x) (a.eval z)) (by simp[execOp,ho]) (Dm r hq neg h1 h2 hb) hn
 case h_17 uo x'=>
  split at hc
  case h_2=>cases hc
  rename_i u t x ho;simp only[Bool.and_eq_true,beq_iff_eq]at hc;obtain⟨rfl,hx⟩:=hc;obtain⟨w',hb,e2⟩:=M.lift_bind e;obtain⟨rfl,rfl⟩:=af e2;exact aB (s:=Op.unary u (a.eval x)) (by simp[execOp,ho]) (xb r (ak hf hx) hb) hn
 case h_18=>
  split at hc
  case h_2=>cases hc
  rename_i s d x ho;simp only[Bool.and_eq_true]at hc;obtain⟨n,h1,e1,e2⟩:=ag e;have hh:=(cQ e1).1;subst hh;obtain⟨rfl,rfl⟩:=af e2;exact aB (s:=convert s d (a.eval x)) (by simp[execOp,ho]) (tU r hc.1 (ak hf hc.2) e1) hn
 case h_19=>
  split at hc
  case h_2=>cases hc
  rename_i s d x ho;simp only[Bool.and_eq_true]at hc;simp only[bn]at e;split at e
  case h_2=>exact(ae e).elim
  rename_i t ht;obtain⟨rfl,rfl⟩:=af e;have h1:=ak hf hc.2;rw[ht]at h1;exact aB (s:=convert s d (a.eval x)) (by simp[execOp,ho]) (tV r (dW hc.1.1) (dW hc.1.2) h1) hn
 case h_20=>
  split at hc
  case h_2=>cases hc
  rename_i t x lo hi ho;simp only[Bool.and_eq_true]at hc;exact aB (s:=Instr.sliceAt t (a.eval x) (lo.map a.eval) (hi.map a.eval) none) (by simp[execOp,ho]) (tW r hc.1.1.1 (ak hf hc.1.1.2) (eV hf hc.1.2) (eV hf hc.2) e) hn
 case h_21=>
  split at hc
  case h_2=>cases hc
  rename_i t x lo hi ho;simp only[Bool.and_eq_true]at hc;exact aB (s:=Instr.sliceAt t (a.eval x) (lo.map a.eval) (hi.map a.eval) none) (by simp[execOp,ho]) (sw r (dW hc.1.1.1) (ak hf hc.1.1.2) (eV hf hc.1.2) (eV hf hc.2) e) hn
 case h_22=>
  split at hc
  case h_2=>cases hc
  rename_i t x lo hi mx ho;simp only[Bool.and_eq_true]at hc;obtain⟨⟨⟨⟨h1,h2⟩,h3⟩,h4⟩,h5⟩:=hc;obtain⟨k1,C0⟩:=pb (a:=a) h4;obtain⟨k2,C1⟩:=pb (a:=a) h5;have C2:lo.map a.eval=none\/∃k3,lo.map a.eval=some (.int k3 0):=by
   cases lo with
   |none=>exact .inl rfl
   |some l=>
    obtain⟨k3,C3⟩:=pb (a:=a) h3;exact .inr ⟨k3,by simp[C3]⟩
  exact aB (s:=Instr.sliceAt t (a.eval x) (lo.map a.eval) (some (.int k1 0)) (some (.int k2 0))) (by simp[execOp,ho,C0,C1]) (tX r h1 C2 (ak hf h2) e) hn
 case h_23=>
  split at hc
  case h_2=>cases hc
  rename_i t x lo hi ho;simp only[Bool.and_eq_true]at hc;exact aB (s:=Instr.sliceAt t (a.eval x) (lo.map a.eval) (hi.map a.eval) none) (by simp[execOp,ho]) (De r hc.1.1.1 (ak hf hc.1.1.2) (eV hf hc.1.2) (eV hf hc.2) e) hn
 case h_24=>
  split at hc
  case h_2=>cases hc
  rename_i args cC ho;split at hc
  case h_2=>cases hc
  rename_i x t hx ht;obtain rfl:args=#[x]:=Array.ext' hx;obtain rfl:cC=#[t]:=Array.ext' ht;simp only[Bool.and_eq_true]at hc;exact aB (s:=Builtin.clear_ #[t] o.type #[a.eval x]) (by simp[execOp,ho,resolve,invoke,builtin]) (uh r hc.1 (ak hf hc.2) e) hn
 case h_25=>
  split at hc
  case h_2=>cases hc
  rename_i args cC ho;split at hc
  case h_2=>cases hc
  rename_i x t hx ht;obtain rfl:args=#[x]:=Array.ext' hx;obtain rfl:cC=#[t]:=Array.ext' ht;simp only[Bool.and_eq_true]at hc;exact aB (s:=Builtin.len_ #[t] o.type #[a.eval x]) (by simp[execOp,ho,resolve,invoke,builtin]) (tY r hc.1 (ak hf hc.2) e) hn
 case h_26=>
  split at hc
  case h_2=>cases hc
  rename_i args cC ho;split at hc
  case h_2=>cases hc
  rename_i x z t u hx ht;obtain rfl:args=#[x,z]:=Array.ext' hx;obtain rfl:cC=#[t,u]:=Array.ext' ht;simp only[Bool.and_eq_true]at hc;exact aB (s:=Builtin.append_ #[t,u] o.type #[a.eval x,a.eval z]) (by simp[execOp,ho,resolve,invoke,builtin]) (ug r hc.1.1.1 (λhb=>by
   have:=hc.1.1.2;rw[hb]at this;simp only[Bool.not_true,Bool.false_or]at this;split at this
   ·rw[beq_iff_eq]at this;rw[<-this];assumption
   ·cases this) (ak hf hc.1.2) (ak hf hc.2) e) hn
 case h_27 x' ys=>
  split at hc
  case h_2=>cases hc
  rename_i args cC ho;have hR:=fP hf hc;simp only[bn]at e;split at e
  case h_2=>exact(ae e).elim
  rename_i kk n hx;obtain⟨z,hz,e2⟩:=M.lift_bind e;obtain⟨rfl,rfl⟩:=af e2;simp only[List.map_cons]at hR;generalize eR:(args.map a.eval).toList=vs at hR;cases vs with
  |nil=>have:=hR.1;simp at this
  |cons v vs=>
   have h0:=hR.tail.1;rw[hx]at h0;obtain rfl:=h0.int;have bd:=xc P g.w (ys.map (ev fr)) vs n kk z hz hR.tail.2.1 hR.tail.2.2;exact aB (s:=Builtin.min_ cC o.type (args.map a.eval)) (by simp[execOp,ho,resolve,invoke,builtin]) (.same r (v:=.int kk z) (by simp only[Builtin.min_,eR];exact bd) mkInt) hn
 case h_28 x' ys=>
  split at hc
  case h_2=>cases hc
  rename_i args cC ho;have hR:=fP hf hc;simp only[bn]at e;split at e
  case h_2=>exact(ae e).elim
  rename_i kk n hx;obtain⟨z,hz,e2⟩:=M.lift_bind e;obtain⟨rfl,rfl⟩:=af e2;simp only[List.map_cons]at hR;generalize eR:(args.map a.eval).toList=vs at hR;cases vs with
  |nil=>have:=hR.1;simp at this
  |cons v vs=>
   have h0:=hR.tail.1;rw[hx]at h0;obtain rfl:=h0.int;have bd:=xd P g.w (ys.map (ev fr)) vs n kk z hz hR.tail.2.1 hR.tail.2.2;exact aB (s:=Builtin.max_ cC o.type (args.map a.eval)) (by simp[execOp,ho,resolve,invoke,builtin]) (.same r (v:=.int kk z) (by simp only[Builtin.max_,eR];exact bd) mkInt) hn
 case h_29 x' i'=>
  split at hc
  case h_2=>cases hc
  rename_i x i ho;simp only[Bool.and_eq_true,beq_iff_eq]at hc;obtain⟨rfl,hx⟩:=hc;simp only[bn]at e;split at e
  case h_2=>exact(ae e).elim
  rename_i vs eR;obtain⟨hy,rfl⟩:=dz e;have h1:=ak hf hx;rw[eR]at h1;obtain⟨us,C4,dJ,fW⟩:∃us,a.eval x = .tuple us/\us.size=vs.length/\∀(j:Nat) (v:Value) (c:AV),us[j]?=some v->vs[j]?=some c->RA ν g v c:=by
   generalize a.eval x=vv at h1;cases h1 with | aR h1 h2=>exact⟨_,rfl,h1,h2⟩
  have aV:=aA hy;have hu:us[i]?=some us[i]:=Array.getElem?_eq_getElem (by omega);exact aB (s:=Instr.extract (a.eval x) i) (by simp[execOp,ho]) (.same r (v:=us[i]) (by simp[C4,Instr.extract,hu]) (fW i _ _ hu hy)) hn
 case h_30=>
  split at hc
  case h_2=>cases hc
  rename_i x ho;have h1:=ak hf hc;simp only[bn]at e;split at e
  ·rename_i id ai i j hx;rw[hx]at h1;obtain⟨ob,hg,e2⟩:=M.aM e;obtain⟨ct,e4⟩:=M.aj e2;obtain⟨rfl,rfl⟩:=af e4;have hr:aI g (a.eval x) id ai i j:=by
    generalize a.eval x=vv at h1;cases h1 with | ref _ hr=>exact hr
   obtain⟨b,off,hv, -⟩:=hr.move hg ct 0;refine aB (s:=pure (a.eval x)) ?_ (.same r rfl h1) hn;simp[execOp,ho,hv]
  ·rename_i cs hx;rw[hx]at h1;obtain⟨rfl,rfl⟩:=af e;obtain⟨b,off,hv⟩:=h1.ptr;refine aB (s:=pure (a.eval x)) ?_ (.same r rfl h1) hn;simp[execOp,ho,hv]
  ·rename_i f cs hx;rw[hx]at h1;obtain⟨rfl,rfl⟩:=af e;have hv:∃ay,a.eval x = .func (.func (ν f)) #[] ay:=by
    generalize a.eval x=v at h1;cases h1 with | iv h=>cases h with | fn f ay cs h1 h2=>exact⟨ay,rfl⟩
   obtain⟨ay,hv⟩:=hv;refine aB (s:=pure (a.eval x)) ?_ (.same r rfl h1) hn;simp[execOp,ho,hv]
  ·rename_i f fs cs hx;rw[hx]at h1;obtain⟨rfl,rfl⟩:=af e;have hv:∃first ay,a.eval x = .func (.func (ν f)) first ay:=by
    generalize a.eval x=v at h1;cases h1 with | bJ h1 h2=>exact⟨_,_,rfl⟩
   obtain⟨first,ay,hv⟩:=hv;refine aB (s:=pure (a.eval x)) ?_ (.same r rfl h1) hn;simp[execOp,ho,hv]
  ·exact(ae e).elim
 case h_31 f' FW rz=>
  split at hc
  case h_2=>cases hc
  rename_i f first ay ho
  simp only[Bool.and_eq_true,beq_iff_eq]at hc;obtain⟨⟨rfl,jC⟩,eI⟩:=hc;obtain⟨rfl,rfl⟩:=af e;have hR:=fP hf eI;have hS:=fP hf jC;refine aB (s:=Instr.makeFunc (.func (ν f')) (first.map a.eval) (ay.map a.eval)) (by simp[execOp,ho]) (.same r (v:=.func (.func (ν f')) (first.map a.eval) (ay.map a.eval)) (by simp[Instr.makeFunc]) ?_) hn;exact .bJ (by have:=hS.1;simpa using this) (λj v c h1 h2=>hS.2 j v c (by simpa using h1) h2) (by have:=hR.1;simpa using this) λj v c h1 h2=>hR.2 j v c (by simpa using h1) h2
 case h_32 mode f' kl=>
  split at hc
  case h_2=>cases hc
  rename_i fo aT cC ho;simp only[Bool.and_eq_true]at hc;have mu:=ak hf hc.1;have hR:=fP hf hc.2;simp only[bn]at e;split at e
  ·exact iy ho (qx hs r e mu hR) hn
  ·exact iy ho (oL hs r e mu hR) hn
 case h_33=>
  exact(ae e).elim
 case h_34 x'=>
  split at hc
  case h_2=>cases hc
  rename_i s d x ho;simp only[Bool.and_eq_true]at hc;exact aB (s:=convert s d (a.eval x)) (by simp[execOp,ho]) (ur r hc.1.1 hc.1.2 (ak hf hc.2) e) hn
 case h_35=>
  split at hc
  case h_2=>cases hc
  rename_i t ho;exact aB (s:=Instr.makeMap t none) (by simp[execOp,ho]) (um r e) hn
 case h_36 ok agg qs z m' k'=>
  split at hc
  case h_2=>cases hc
  rename_i t m kk o ho;simp only[Bool.and_eq_true,beq_iff_eq]at hc;obtain⟨⟨⟨⟨rfl,h1⟩,h2⟩,h3⟩,h4⟩:=hc;exact aB (s:=Instr.lookup t (a.eval m) (a.eval kk) o) (by simp[execOp,ho]) (sC r h1 h2 (ak hf h3) (ak hf h4) e) hn
 case h_37 qs m' k' x'=>
  have key:∀{t:TypeId} {m kk x:Operand},(o.op = .mapUpdate t m kk x\/o.op = .insert t m kk x)->(iG P t qs&&aG ν m m'&&aG ν kk k'&&aG ν x x')=true->o.wp P a g.w next Q:=by
   intro t m kk x ho hc;simp only[Bool.and_eq_true]at hc;obtain⟨g',bd,rfl,hh,r',mm⟩:=sE r hc.1.1.1 (ak hf hc.1.1.2) (ak hf hc.1.2) (ak hf hc.2) e;unfold Oper.wp;have hx:(execOp a.eval o).run P g.w = .ok .skip g'.w:=by rcases ho with ho | ho<;>simp[execOp,ho,bd]
   rw[hx];exact hn g' undef hh r' mm (.aR rfl λj v c h=>by simp at h)
  split at hc
  ·rename_i ho;exact key (.inl ho) hc
  ·rename_i ho;exact key (.inr ho) hc
  ·cases hc
 case h_38 qs m' k'=>
  split at hc
  case h_2=>cases hc
  rename_i args cC ho;split at hc
  case h_2=>cases hc
  rename_i x z t u hx ht;obtain rfl:args=#[x,z]:=Array.ext' hx;obtain rfl:cC=#[t,u]:=Array.ext' ht;simp only[Bool.and_eq_true]at hc;exact aB (s:=Builtin.delete_ #[t,u] o.type #[a.eval x,a.eval z]) (by simp[execOp,ho,resolve,invoke,builtin]) (sF r hc.1.1 (ak hf hc.1.2) (ak hf hc.2) e) hn
 case h_39 m'=>
  split at hc
  case h_2=>cases hc
  rename_i args cC ho;split at hc
  case h_2=>cases hc
  rename_i x t hx ht;obtain rfl:args=#[x]:=Array.ext' hx;obtain rfl:cC=#[t]:=Array.ext' ht;simp only[Bool.and_eq_true]at hc;exact aB (s:=Builtin.len_ #[t] o.type #[a.eval x]) (by simp[execOp,ho,resolve,invoke,builtin]) (sD r hc.1 (ak hf hc.2) e) hn
 case h_40=>
  exact(ae e).elim
 case h_41=>
  split at hc
  case h_2=>cases hc
  rename_i args cC ho;split at hc
  case h_2=>cases hc
  rename_i x t hx ht;obtain rfl:args=#[x]:=Array.ext' hx;obtain rfl:cC=#[t]:=Array.ext' ht;simp only[Bool.and_eq_true]at hc;obtain⟨hc,hq⟩:=hc;split at hc
  case h_2=>cases hc
  rename_i el hu;obtain⟨i,hi⟩:=Option.isSome_iff_exists.1 hc;exact aB (s:=Builtin.cap_ #[t] o.type #[a.eval x]) (by simp[execOp,ho,resolve,invoke,builtin]) (BL (e:=i.size) r (by simp[sliceB,hu,hi]) (ak hf hq) e) hn
 case h_42=>
  split at hc
  case h_2=>cases hc
  rename_i args cC ho;split at hc
  case h_2=>cases hc
  rename_i x z t u hx ht;obtain rfl:args=#[x,z]:=Array.ext' hx;obtain rfl:cC=#[t,u]:=Array.ext' ht;simp only[Bool.and_eq_true]at hc;obtain⟨kd,hd⟩:=xx hc.1.1.2;exact aB (s:=Builtin.append_ #[t,u] o.type #[a.eval x,a.eval z]) (by simp[execOp,ho,resolve,invoke,builtin]) (BM r hc.1.1.1 hd (ak hf hc.1.2) (ak hf hc.2) e) hn
 case h_43=>
  split at hc
  case h_2=>cases hc
  rename_i f args cC ho;split at hc
  case h_2=>cases hc
  rename_i x hx;obtain rfl:args=#[x]:=Array.ext' hx;simp only[Bool.and_eq_true]at hc;exact nk ho (by simpa using As r hc.1 (ak hf hc.2) e) hn
 case h_44=>
  split at hc
  case h_2=>cases hc
  rename_i f args cC ho;split at hc
  case h_2=>cases hc
  rename_i x z hx;obtain rfl:args=#[x,z]:=Array.ext' hx;simp only[Bool.and_eq_true,Bool.or_eq_true]at hc;rcases hc.1.1 with(h | h) | h
  all_goals exact nk ho (by simpa using zc r h (ak hf hc.1.2) (ak hf hc.2) e) hn
 case h_45=>
  split at hc
  case h_2=>cases hc
  rename_i f args cC ho;split at hc
  case h_2=>cases hc
  rename_i x z hx;obtain rfl:args=#[x,z]:=Array.ext' hx;simp only[Bool.and_eq_true]at hc;exact nk ho (by simpa using BP r hc.1.1 (ak hf hc.1.2) (ak hf hc.2) e) hn
 case h_46=>
  split at hc
  case h_2=>cases hc
  rename_i f args cC ho;split at hc
  case h_2=>cases hc
  rename_i x u z hx;obtain rfl:args=#[x,u,z]:=Array.ext' hx;simp only[Bool.and_eq_true]at hc;exact nk ho (by simpa using BQ r hc.1.1.1 (ak hf hc.1.1.2) (ak hf hc.1.2) (ak hf hc.2) e) hn
 case h_47=>
  split at hc
  case h_2=>cases hc
  rename_i t n ps ho;simp only[Bool.and_eq_true,beq_iff_eq,Array.isEmpty_iff]at hc;obtain⟨⟨rfl,rfl⟩,ht⟩:=hc;obtain⟨rfl,rfl⟩:=af e;exact aB (s:=Instr.buildSlice t 0 #[]) (by simp[execOp,ho]) (Dg r ht) hn
 case h_48=>
  split at hc
  case h_2=>cases hc
  rename_i s d x ho;simp only[Bool.and_eq_true]at hc;exact aB (s:=convert s d (a.eval x)) (by simp[execOp,ho]) (Dn r hc.1 (ak hf hc.2) e) hn
 case h_49=>
  split at hc
  case h_2=>cases hc
  rename_i f args cC ho;split at hc
  case h_2=>cases hc
  rename_i x hx;obtain rfl:args=#[x]:=Array.ext' hx;simp only[Bool.and_eq_true]at hc;obtain⟨rfl,rfl⟩:=af e;exact nk ho (by simpa using Aw r hc.1 (ak hf hc.2)) hn
 case h_50=>
  split at hc
  case h_2=>cases hc
  rename_i s d x ho;simp only[Bool.and_eq_true]at hc;exact aB (s:=convert s d (a.eval x)) (by simp[execOp,ho]) (Dp r hc.1 (ak hf hc.2) e) hn
 case h_51=>
  split at hc
  case h_2=>cases hc
  rename_i args cC ho;split at hc
  case h_2=>cases hc
  rename_i x hx;obtain rfl:args=#[x]:=Array.ext' hx;exact aB (s:=Builtin.unsafeSliceData_ cC o.type #[a.eval x]) (by simp[execOp,ho,resolve,invoke,builtin]) (Dq r (ak hf hc) e) hn
 case h_52=>
  split at hc
  case h_2=>cases hc
  rename_i args cC ho;split at hc
  case h_2=>cases hc
  rename_i p n pt it hx ht;obtain rfl:args=#[p,n]:=Array.ext' hx;obtain rfl:cC=#[pt,it]:=Array.ext' ht;simp only[Bool.and_eq_true]at hc;exact aB (s:=Builtin.unsafeString_ #[pt,it] o.type #[a.eval p,a.eval n]) (by simp[execOp,ho,resolve,invoke,builtin]) (BR r hc.1.1 (ak hf hc.1.2) (ak hf hc.2) e) hn
 case h_53=>
  split at hc
  case h_2=>cases hc
  rename_i t l c ho;simp only[Bool.and_eq_true]at hc;have h1:=ak hf hc.1.2;have h2:=ak hf hc.2;have xq:a.eval c=a.eval l:=by
   obtain⟨m,h3,e1,e2⟩:=ag e;obtain⟨-,kk,hz⟩:=cQ e1;rw[hz]at h1 h2;rw[h1.int,h2.int]
  exact aB (s:=Instr.makeSlice t (a.eval l) (a.eval l)) (by simp[execOp,ho,xq]) (Dj r hc.1.1 h1 e) hn
 case h_54=>
  split at hc
  case h_2=>cases hc
  rename_i t x lo hi mx ho;simp only[Bool.and_eq_true]at hc;exact aB (s:=Instr.sliceAt t (a.eval x) (some (a.eval lo)) (some (a.eval hi)) (some (a.eval mx))) (by simp[execOp,ho]) (Df r hc.1.1.1.1 (ak hf hc.1.1.1.2) (ak hf hc.1.1.2) (ak hf hc.1.2) (ak hf hc.2) e) hn
end
end au
namespace au
open Go al
def wM:Nat->AV
 |0=>.iv (.int .i64 0)
 |1=>.iv (.int .i64 1)
 |2=>.iv (.bool false)
 |3=>.iv (.bool true)
 |4=>.iv .bh
 |5=>.iv (.az 1)
 |6=>.iv (.int .i64 2)
 |7=>.iv (.az 18)
 |8=>.iv (.int .i64 4)
 |9=>.iv (.az 3)
 |10=>.iv (.int .i64 7)
 |11=>.iv (.str ⟨#[]⟩)
 |12=>.iv (.int .i64 5)
 |13=>.iv (.az 16)
 |14=>.iv (.int .i64 (-1))
 |15=>.iv (.int .u64 1)
 |16=>.iv (.az 4)
 |17=>.iv (.int .i64 16)
 |18=>.iv (.int .i64 3)
 |19=>.iv (.int .u64 128)
 |20=>.cI 1
 |21=>.iv (.int .i64 8)
 |22=>.iv (.int .u64 0)
 |23=>.iv (.int .i64 10)
 |24=>.iv (.int .i64 40)
 |25=>.iv (.int .i64 6)
 |26=>.iv (.int .i64 100)
 |27=>.iv (.int .i64 12)
 |28=>.iv (.int .i64 15)
 |29=>.iv (.int .i64 300)
 |30=>.iv (.int .i64 46)
 |31=>.iv (.int .i64 9)
 |32=>.iv (.int .u32 0)
 |33=>.iv (.int .u64 18446744073709551615)
 |34=>.iv (.int .u8 0)
 |35=>.iv (.int .u8 1)
 |36=>.iv (.int .u8 128)
 |37=>.iv (.int .u8 2)
 |38=>.iv (.int .u8 45)
 |39=>.iv (.str ⟨#[126]⟩)
 |40=>.iv (.str ⟨#[32]⟩)
 |_=>.cI 0
def aZ (t:List (Nat×Nat)):bk aK:=bq (cD t) λx=>if x=0 then bS (λk=>.c (wM k)) (cD Cj) else bS .t (bq (if x<7 then wI x else zL) A8)
def wN:Nat->List AV
 |0=>[.iv (.int .i64 0),.iv (.az 16),.iv (.int .u64 0)]
 |1=>[.iv (.int .i64 0)]
 |2=>[.iv (.int .i64 0),.iv (.az 16),.iv (.int .u64 0),.iv (.az 1)]
 |3=>[.iv (.int .i64 0),.iv (.int .i64 0)]
 |4=>[.iv (.bool false),.iv (.az 2),.iv (.bool false),.iv (.az 1)]
 |5=>[.iv (.int .i64 0),.iv (.bool false),.iv (.bool false)]
 |6=>[.iv (.bool false)]
 |7=>[.iv (.int .i64 0),.iv (.int .i64 0),.iv (.str ⟨#[]⟩)]
 |8=>[.iv .bh]
 |9=>[.iv (.int .i64 0),.iv (.bool false),.iv (.az 3),.iv (.az 1),.iv (.int .i64 0),.iv (.int .i64 0),.iv (.int .i64 0),.iv (.int .i64 0),.iv (.str ⟨#[]⟩),.iv (.int .i64 0),.iv (.int .i64 0),.iv (.str ⟨#[]⟩),.iv (.int .i64 0),.iv (.int .i64 0),.iv (.str ⟨#[]⟩),.iv (.int .i64 0),.iv (.int .i64 0),.iv (.str ⟨#[]⟩)]
 |10=>[.iv (.bool false),.iv (.az 2),.iv (.bool false),.iv (.az 1),.iv (.bool false),.iv (.az 2),.iv (.bool false),.iv (.az 1),.iv (.bool false),.iv (.az 2),.iv (.bool false),.iv (.az 1),.iv (.bool false),.iv (.az 2),.iv (.bool false),.iv (.az 1)]
 |11=>[.iv (.int .i64 0),.iv (.int .i64 0),.iv (.bool false),.iv (.az 2),.iv (.bool false),.iv (.az 1),.iv (.az 7)]
 |12=>[.iv (.az 3)]
 |13=>[.iv (.bool false),.iv (.az 3),.iv (.az 1),.iv (.int .i64 0),.iv (.int .i64 0),.iv (.int .i64 0),.iv (.int .i64 0),.iv (.str ⟨#[]⟩),.iv (.int .i64 0),.iv (.int .i64 0),.iv (.str ⟨#[]⟩),.iv (.int .i64 0),.iv (.int .i64 0),.iv (.str ⟨#[]⟩),.iv (.int .i64 0),.iv (.int .i64 0),.iv (.str ⟨#[]⟩)]
 |14=>[.iv (.int .i64 0),.iv (.int .i64 0),.iv (.int .i64 0),.iv (.int .i64 0),.iv (.str ⟨#[]⟩),.iv (.int .i64 0),.iv (.int .i64 0),.iv (.str ⟨#[]⟩),.iv (.int .i64 0),.iv (.int .i64 0),.iv (.str ⟨#[]⟩),.iv (.int .i64 0),.iv (.int .i64 0),.iv (.str ⟨#[]⟩)]
 |15=>[.iv (.int .i64 0),.iv (.az 1)]
 |16=>[.iv (.int .u64 0),.iv (.int .u64 0)]
 |17=>[.iv (.az 1),.iv (.az 1),.iv (.int .i64 0),.iv (.int .u64 0)]
 |18=>[.iv (.az 16)]
 |19=>[.iv (.az 3),.iv (.az 1)]
 |20=>[.iv (.str ⟨#[]⟩),.iv (.str ⟨#[]⟩)]
 |21=>[.iv .bh,.iv (.az 1)]
 |22=>[.iv (.bool false),.iv (.bool false)]
 |23=>[.iv (.int .i64 0),.iv (.int .i64 0),.iv (.str ⟨#[]⟩),.iv (.int .i64 0),.iv (.int .i64 0),.iv (.str ⟨#[]⟩),.iv (.int .i64 0),.iv (.int .i64 0),.iv (.str ⟨#[]⟩),.iv (.int .i64 0),.iv (.int .i64 0),.iv (.str ⟨#[]⟩)]
 |24=>[.iv (.int .i64 0),.iv (.az 3),.cI 2,.iv (.az 1)]
 |25=>[.iv (.int .i64 0),.cI 2,.iv (.int .i64 0),.iv (.int .i64 0)]
 |26=>[.iv (.int .u64 0),.iv (.az 1),.iv (.az 1),.cI 2,.cI 2,.cI 2,.cI 2,.iv (.int .i64 0),.iv (.int .i64 0)]
 |27=>[.iv (.int .u8 0),.iv (.int .u8 0),.iv (.int .u8 0),.iv (.int .u8 0),.iv (.int .u8 0),.iv (.int .u8 0),.iv (.int .u8 0),.iv (.int .u8 0),.iv (.int .u8 0),.iv (.int .u8 0),.iv (.int .u8 0),.iv (.int .u8 0),.iv (.int .u8 0),.iv (.int .u8 0),.iv (.int .u8 0),.iv (.int .u8 0),.iv (.int .u8 0),.iv (.int .u8 0),.iv (.int .u8 0),.iv (.int .u8 0),.iv (.int .u8 0),.iv (.int .u8 0),.iv (.int .u8 0),.iv (.int .u8 0)]
 |28=>[.iv (.int .u8 0),.iv (.int .u8 0),.iv (.int .u8 0),.iv (.int .u8 0),.iv (.int .u8 0),.iv (.int .u8 0),.iv (.int .u8 0),.iv (.int .u8 0),.iv (.int .u8 0),.iv (.int .u8 0)]
 |29=>[.iv (.int .u8 0)]
 |30=>[.iv (.az 1),.iv (.int .u32 0),.iv (.int .i32 0),.iv (.int .u32 0),.iv (.az 4),.iv (.az 4),.iv (.az 4),.iv (.az 4)]
 |31=>[.iv (.az 1)]
 |32=>[.iv (.az 4),.iv (.az 4),.iv (.az 4),.iv (.az 4),.iv (.az 2),.cI 2,.iv (.int .i64 0)]
 |_=>[.iv .bh,.iv (.int .u64 0),.cI 2,.iv (.az 4),.iv (.int .i64 0)]
def kP:bk (List AV):=bS wN (cD Ck)
def ln:bk (List aK):=bq (cp 6 nF) (ju (aZ xW))
def wO:Nat->BinOp
 |0=>.add
 |1=>.lss
 |2=>.eql
 |3=>.sub
 |4=>.gtr
 |5=>.neq
 |6=>.geq
 |7=>.leq
 |8=>.mul
 |9=>.or
 |10=>.quo
 |11=>.shl
 |12=>.shr
 |13=>.rem
 |_=>.and
def zM:bk BinOp:=bS wO (cD xX)
def wP:Nat->UnOp
 |0=>.not
 |1=>.neg
 |_=>.xor
def zN:bk UnOp:=bS wP (cD xY)
def wQ:Nat->IntKind
 |0=>.u64
 |1=>.u8
 |2=>.i64
 |_=>.u32
def tO:bk IntKind:=bS wQ (cD xZ)
def wR:bk (List (Nat×aK)):=bq (cp 6 nF) (ju (b7 .mk (cp 13 mU) (aZ aE)))
def wS:bk (List (Nat×Nat×aK)):=bq (cp 6 nF) (ju (b7 .mk (cp 13 mU) (b7 .mk (cp 13 mU) (aZ aE))))
def nG:bk (Option aK):=bq (cD x4) λx=>if x=0 then cN none else bS some (aZ aE)
def wT:bk aK:=bq (cD x5) λx=>if x=0 then bS (λf=>.c (.iv (.fn f []))) (qY 512) else aZ aE
def wU (d:Nat):Nat->bk js
 |2=>bS .l9 (aZ (if d=0 then x6 else x7))
 |3=>ff .bin zM cE (aZ aE) (aZ aE)
 |4=>dU .load ig (cp 18 x8) (aZ aE)
 |5=>b7 .cU (cp 24 x9) (aZ aE)
 |6=>b7 .k6 wT ln
 |7=>dU .gL cE (aZ aE) (aZ aE)
 |8=>dU .call cE wT ln
 |9=>b7 .len ig (aZ aE)
 |10=>bS .nE (aZ aE)
 |11=>dU .store cE (aZ aE) (aZ aE)
 |12=>dU .pick (aZ aE) (aZ aE) (aZ aE)
 |13=>b7 .ext (aZ aE) cE
 |14=>b7 .box cE (aZ aE)
 |15=>b7 .un zN (aZ aE)
 |16=>b7 .alloc cE kP
 |17=>ff .nZ cE kP cE wR
 |18=>b7 .build kP wS
 |19=>ff .app cE ig (aZ aE) (aZ aE)
 |20=>ff .eD cE cE (aZ aE) (aZ aE)
 |21=>bq ig λa=>bq ig λb=>ff (.gB a b) wK kP (aZ aE) (aZ aE)
 |22=>ff .gM cE (aZ aE) nG nG
 |23=>b7 .qT tO (aZ aE)
 |24=>cN .s7
 |25=>ff .gC wK (aZ aE) (aZ aE) (aZ aE)
 |27=>dU .oj cE ln ln
 |28=>dU .ko cE kP (aZ aE)
 |29=>b7 .mx (aZ aE) ln
 |30=>bq ig λa=>ff (.eP a) cE cE (aZ aE) (aZ aE)
 |31=>cN .dead
 |32=>b7 .mn (aZ aE) ln
 |33=>ff .o6 cE (aZ aE) nG nG
 |34=>bS .sZ (aZ aE)
 |35=>dU .gD wK (aZ aE) (aZ aE)
 |36=>bS .mN (aZ aE)
 |38=>dU .rM cE kP (aZ aE)
 |40=>bq cE λa=>ff (.qb a) (aZ aE) (aZ aE) (aZ aE) (aZ aE)
 |41=>dU .lP tO (aZ aE) (aZ aE)
 |42=>b7 .fJ tO (aZ aE)
 |43=>ff .lN cE kP (aZ aE) (aZ aE)
 |44=>bS .om (aZ aE)
 |45=>bS .tG (aZ aE)
 |46=>bS .p9 (aZ aE)
 |47=>bS .p8 (aZ aE)
 |48=>bS .qa (aZ aE)
 |49=>b7 .lQ (aZ aE) (aZ aE)
 |_=>cN default
def wV (p:Nat):List (Nat×Nat):=match p with
 |0=>ya
 |1=>yb
 |2=>yc
 |3=>yd
 |4=>ye
 |5=>yf
 |_=>yg
def kW (dr:Bool):Nat->Nat->Nat->Nat->Option (Nat×Bool)->bk (List ax)
 |0,_,_,_,_=>cN []
 |f+1,i,w,p,g=>bq (cD (wV p)) λk=>if k=0 then cN [] else if k=1 then bq Ba (kW dr f i w p) else
  bq (cD (if k=11\/k=25\/k=28\/k=35 then tB else if k=2 then yh else yi)) λd=>bq (Bb d) λe=>
  bq (λn s=>wU d k n { s with m:=match g with
   |some q=>[q.1]
   |none=>[] }) λo=>bq (Be dr i w e d) λa=>bS (λr=>⟨e,o,g,a⟩::r) (kW dr f (i+1) (w+w) (Bf k d) g)
def fG:Nat->bk IC
 |0=>cN .skip
 |f+1=>bq (cD yl) λx=>match x with
  |0=>b7 .seq (fG f) (fG f)
  |1=>bq tE λ_=>b7 (.gm false) (kW false 9999 0 1 0 none) pC
  |2=>bq (aZ yj) λc n s=>(λl=>bq (fG f) (λa n s=>bS (.cond c a) (fG f) n { s with l:=l }) n { s with l:=l }) (match c with
   |.t v=>s.l.filter (·!= v)
   |_=>s.l)
  |3=>cN .ret
  |4=>cN .skip
  |5=>b7 .block (cp 9 qW) (fG f)
  |6=>bS .exit (cp 9 qW)
  |7=>b7 .loop (λn s=>pC n { s with d:=[] }) (fG f)
  |8=>bq tE λ_=>b7 (.gm true) (kW true 9999 0 1 0 none) pC
  |9=>bS .scope (fG f)
  |10=>cN .stop
  |_=>cN .skip
def wW:bk dY:=bq (cD ym) λx=>match x with
 |0=>bS .t (cp 9 qX)
 |_=>dU .cell (cp 9 qX) ig cE
def wX:bk an:=bq (cp 6 yn) λn=>bq (bq (cp 4 yo) (ju wW)) λr=>bS (λb=>⟨n,r,b,none⟩) λm s=>fG 9999 m ⟨n,[],List.range n,[],[]⟩
def ao {x:an} (s:String) (_:tC ((wX (wH 0 s.toList) ⟨0,[],[],[],[]⟩).1=x):=by
 refine(?f:?P->tC ?P) ?p
 case p=>set_option maxRecDepth 1000000 in conv=>lhs;cbv
 exact λ_=>trivial):an:=x
attribute [simp] ao
theorem Tr.put_comm {α:Type} (x y:α):∀(f n:Nat) (f' m:Nat) (t:Tr α),n<f->m<f'->n≠m->Tr.put f n x (Tr.put f' m y t)=Tr.put f' m y (Tr.put f n x t):=by
 intro f
 induction f with
 |zero=>intro n f' m t h;omega
 |succ f ih=>
  intro n f' m t h h' bG;obtain⟨f',rfl⟩:∃k,f'=k+1:=⟨f' - 1,by omega⟩;cases n with
  |zero=>
   cases m with
   |zero=>exact absurd rfl bG
   |succ m=>cases t<;>by_cases h1:m % 2=0<;>simp[Tr.put,h1]
  |succ n=>
   cases m with
   |zero=>cases t<;>by_cases h1:n % 2=0<;>simp[Tr.put,h1]
   |succ m=>
    by_cases h1:n % 2=0<;>by_cases h2:m % 2=0<;>cases t<;>simp only[Tr.put,h1,h2,if_true,if_false]
    all_goals rw[ih _ _ _ _ (by omega) (by omega) (by omega)]
theorem BS (h:Hp) {n m:Nat} (x y:Ob) (bG:n≠m):set (set h m y) n x=set (set h n x) m y:=Tr.put_comm x y _ _ _ _ h (Nat.lt_succ_self n) (Nat.lt_succ_self m) bG
def bu (ps:List (Nat×Ob)) (h:Hp):Hp:=ps.foldl (λh p=>set h p.1 p.2) h
theorem gA {ps:List (Nat×Ob)} {n:Nat} (hn:∀p ∈ ps,p.1≠n):∀h:Hp,get (bu ps h) n=get h n:=by
 induction ps with
 |nil=>intro h;rfl
 |cons p ps ih=>
  intro h
  show get (bu ps (set h p.1 p.2)) n=_
  rw[ih (λq hq=>hn q (List.mem_cons_of_mem _ hq)),bF _ _ (hn p (List.mem_cons_self ..))]
theorem wi {ps:List (Nat×Ob)} {n:Nat} (x:Ob) (hn:∀p ∈ ps,p.1≠n):∀h:Hp,bu ps (set h n x)=set (bu ps h) n x:=by
 induction ps with
 |nil=>intro h;rfl
 |cons p ps ih=>
  intro h
  show bu ps (set (set h n x) p.1 p.2)=set (bu ps (set h p.1 p.2)) n x
  rw[BS _ _ _ (hn p (List.mem_cons_self ..)),ih λq hq=>hn q (List.mem_cons_of_mem _ hq)]
theorem vf {ps qs:List (Nat×Ob)} (hd:∀p ∈ ps,∀q ∈ qs,p.1≠q.1):∀h:Hp,bu qs (bu ps h)=bu ps (bu qs h):=by
 induction ps with
 |nil=>intro h;rfl
 |cons p ps ih=>
  intro h
  show bu qs (bu ps (set h p.1 p.2))=bu ps (set (bu qs h) p.1 p.2)
  rw[ih λa ha=>hd a (List.mem_cons_of_mem _ ha),wi _ λq hq=>(hd p (List.mem_cons_self ..) q hq).symm]
theorem M.frame {α:Type}:∀(m:M α) (h h' h1:Hp) (a:α),m.run h=some (a,h1)->(∀n ∈ (m.bA h).1,au.get h n=au.get h' n)->
  ∃ps,h1=bu ps h/\m.run h'=some (a,bu ps h')/\m.bA h'=m.bA h/\∀p ∈ ps,p.1 ∈ (m.bA h).2
 |.ret x,h,h',h1,a,e,_=>by
  simp only[M.run,Option.some.injEq,Prod.mk.injEq]at e;obtain⟨rfl,rfl⟩:=e;exact⟨[],rfl,rfl,rfl,λp hp=>by simp at hp⟩
 |.fail,h,h',h1,a,e,_=>by simp[M.run]at e
 |.get id k,h,h',h1,a,e,hr=>by
  simp only[M.run]at e;simp only[M.bA,List.mem_cons]at hr ⊢;have bw:=hr id (.inl rfl);obtain⟨ps,e1,e2,e3,e4⟩:=M.frame (k (au.get h id)) h h' h1 a e λn hn=>hr n (.inr hn)
  refine⟨ps,e1,?_,?_,e4⟩
  ·simp only[M.run,<-bw];exact e2
  ·simp only[<-bw];rw[e3]
 |.put id o k,h,h',h1,a,e,hr=>by
  simp only[M.run]at e;simp only[M.bA,List.mem_append,List.mem_singleton]at hr ⊢;obtain⟨ps,e1,e2,e3,e4⟩:=M.frame k (au.set h id o) (au.set h' id o) h1 a e λn hn=>by simp[aP,hr n hn]
  refine⟨(id,o)::ps,e1,e2,by rw[e3],λp hp=>?_⟩;rcases List.mem_cons.1 hp with rfl | hp
  ·exact .inr rfl
  ·exact .inl (e4 p hp)
def On (h:Hp) (n:Nat):Prop:=(get h n).isSome=true
theorem On.set {h:Hp} {n m:Nat} {x:Ob} (hn:On h n):On (set h m x) n:=by
 unfold On at *;rw[aP];split<;>simp_all
theorem On.same {h:Hp} {n:Nat} {x:Ob}:On (au.set h n x) n:=by
 show(au.get (au.set h n x) n).isSome=true
 rw[aq];rfl
theorem M.stay {α:Type}:∀(m:M α) (h h':Hp) (a:α) (n:Nat),m.run h=some (a,h')->On h n->On h' n
 |.ret x,h,h',a,n,e,hn=>by
  simp only[M.run,Option.some.injEq,Prod.mk.injEq]at e;rw[<-e.2];exact hn
 |.fail,h,h',a,n,e,_=>by simp[M.run]at e
 |.get id k,h,h',a,n,e,hn=>M.stay (k (au.get h id)) h h' a n e hn
 |.put id o k,h,h',a,n,e,hn=>M.stay k (au.set h id o) h' a n e hn.set
def NR {α:Type} (m:M α):Prop:=∀h a h',m.run h=some (a,h')->∀n ∈ (m.bA h).1,On h' n
theorem NR.ret {α:Type} (a:α):NR (M.ret a):=λh b h' _ n hn=>by simp[M.bA]at hn
theorem NR.fail {α:Type}:NR (M.fail:M α):=λh b h' e=>by simp[M.run]at e
theorem M.fm {α β:Type} (f:α->M β):∀(m:M α) (h h1:Hp) (a:α),m.run h=some (a,h1)->((m.bind f).bA h).1=(m.bA h).1++((f a).bA h1).1
 |.ret x,h,h1,a,e=>by
  simp only[M.run,Option.some.injEq,Prod.mk.injEq]at e;obtain⟨rfl,rfl⟩:=e;simp[M.bind,M.bA]
 |.fail,h,h1,a,e=>by simp[M.run]at e
 |.get id k,h,h1,a,e=>by
  simp only[M.run]at e;simp[M.bind,M.bA,M.fm f (k (au.get h id)) h h1 a e]
 |.put id o k,h,h1,a,e=>by
  simp only[M.run]at e;simp[M.bind,M.bA,M.fm f k (au.set h id o) h1 a e]
theorem NR.bind {α β:Type} {m:M α} {f:α->M β} (hm:NR m) (hf:∀a,NR (f a)):NR (m.bind f):=by
 intro h b h' e n hn;obtain⟨a,h1,e1,e2⟩:=ag e;rw[M.fm f m h h1 a e1]at hn;rcases List.mem_append.1 hn with hn | hn
 ·exact M.stay _ _ _ _ _ e2 (hm h a h1 e1 n hn)
 ·exact hf a h1 b h' e2 n hn
theorem NR.look (id:Nat):NR (M.look id):=by
 intro h a h' e n hn;simp only[M.look,M.run]at e;simp only[M.look,M.bA]at hn;cases hg:au.get h id with
 |none=>rw[hg]at e;simp[M.run]at e
 |some o=>
  rw[hg]at e hn;simp only[M.run,Option.some.injEq,Prod.mk.injEq]at e;simp[M.bA]at hn;rw[<-e.2,hn];unfold On;rw[hg];rfl
theorem NR.ok (b:Bool):NR (M.ok b):=by unfold M.ok;split;exact NR.ret _;exact NR.fail
theorem NR.lift {α:Type} (o:Option α):NR (M.lift o):=by cases o;exact NR.fail;exact NR.ret _
theorem NR.write (id:Nat) (o:Ob):NR (M.write id o):=λh a h' e n hn=>by simp[M.write,M.bA]at hn
theorem NR.new {α:Type} {id:Nat} {o:Ob} {f:Unit->M α} (hf:NR (f ())):NR ((M.fresh id).bind λ_=>(M.write id o).bind f):=by
 intro h b h' e n hn;obtain⟨_,h1,e1,e2⟩:=ag e;obtain⟨_,h2,e3,e4⟩:=ag e2;rw[M.fm _ (M.fresh id) h h1 _ e1]at hn;obtain⟨_,rfl⟩:=M.cq e1;rw[M.fm _ (M.write id o) h1 h2 _ e3]at hn;obtain rfl:=aL e3;rcases List.mem_append.1 hn with hn | hn
 ·simp only[M.fresh,M.bA]at hn;have:n=id:=by
   rcases List.mem_cons.1 hn with h | h
   ·exact h
   ·cases hg:au.get h1 id<;>rw[hg]at h<;>simp[M.bA]at h
  subst this;exact M.stay _ _ _ _ _ e4 On.same
 ·rcases List.mem_append.1 hn with hn | hn
  ·simp[M.write,M.bA]at hn
  ·exact hf _ b h' e4 n hn
attribute [local simp] NR.ret NR.fail NR.ok NR.lift NR.look NR.write
theorem NR.aN {α β:Type} {f:α->M β} (hf:∀x,NR (f x)):∀l:List α,NR (M.aN f l)
 |[]=>NR.ret _
 |x::r=>NR.bind (hf x) λ_=>NR.bind (NR.aN hf r) λ_=>NR.ret _
theorem NR.qH (a:AV):NR (au.idx a):=by
 unfold au.idx
 repeat' first | (simp;done) | apply NR.new | refine NR.bind ?_ λ_=>?_ | split
theorem NR.wj (a:AV):NR (au.bW a):=by
 unfold au.bW
 repeat' first | (simp;done) | apply NR.new | refine NR.bind ?_ λ_=>?_ | split
theorem NR.Ds (agg:Bool) (l:List AV):NR (au.mk agg l):=by
 unfold au.mk
 repeat' first | (simp;done) | apply NR.new | refine NR.bind ?_ λ_=>?_ | split
theorem NR.vg (y:Nat) (o:Option AV):NR (au.bound y o):=by
 unfold au.bound
 repeat' first | (simp;done) | apply NR.new | refine NR.bind ?_ λ_=>?_ | split
theorem NR.load_ (agg:Bool) (sz:Nat) (a:AV):NR (au.load agg sz a):=by
 unfold au.load
 repeat' first | exact NR.Ds _ _ | (simp;done) | apply NR.new | refine NR.bind ?_ λ_=>?_ | split
theorem NR.store_ (sz:Nat) (a x:AV):NR (au.store sz a x):=by
 unfold au.store
 repeat' first | exact NR.wj _ | (simp;done) | apply NR.new | refine NR.bind ?_ λ_=>?_ | split
theorem NR.Fh (off:Nat) (x:AV):NR (au.cU off x):=by
 unfold au.cU
 repeat' first | (simp;done) | apply NR.new | refine NR.bind ?_ λ_=>?_ | split
theorem NR.Dt (agg:Bool) (off sz:Nat) (x:AV):NR (au.fC agg off sz x):=by
 unfold au.fC
 repeat' first | exact NR.Ds _ _ | (simp;done) | apply NR.new | refine NR.bind ?_ λ_=>?_ | split
theorem NR.Fi (len e:Nat) (x i:AV):NR (au.eD len e x i):=by
 unfold au.eD
 repeat' first | exact NR.qH _ | (simp;done) | apply NR.new | refine NR.bind ?_ λ_=>?_ | split
theorem NR.G6 (e:Nat) (x i:AV):NR (au.gL e x i):=by
 unfold au.gL
 repeat' first | exact NR.qH _ | (simp;done) | apply NR.new | refine NR.bind ?_ λ_=>?_ | split
theorem NR.Fj (agg:Bool) (len e:Nat) (x i:AV):NR (au.eP agg len e x i):=by
 unfold au.eP
 repeat' first | exact NR.qH _ | exact NR.Dt _ _ _ _ | (simp;done) | apply NR.new | refine NR.bind ?_ λ_=>?_ | split
theorem NR.Fk (x i:AV):NR (au.fK x i):=by
 unfold au.fK
 repeat' first | (simp;done) | apply NR.new | refine NR.bind ?_ λ_=>?_ | split
theorem NR.Fl (op:BinOp) (q:Nat) (x y:AV):NR (au.o7 op q x y):=by
 unfold au.o7
 repeat' first | (simp;done) | apply NR.new | refine NR.bind ?_ λ_=>?_ | split
theorem NR.G7 (e:Nat) (x:AV) (lo hi:Option AV):NR (au.gM e x lo hi):=by
 unfold au.gM
 repeat' first | exact NR.vg _ _ | (simp;done) | apply NR.new | refine NR.bind ?_ λ_=>?_ | split
theorem NR.Fm (x:AV) (lo hi:Option AV):NR (au.fL x lo hi):=by
 unfold au.fL
 repeat' first | exact NR.vg _ _ | (simp;done) | apply NR.new | refine NR.bind ?_ λ_=>?_ | split
theorem NR.G8 (e:Nat) (x lo hi mx:AV):NR (au.qb e x lo hi mx):=by
 unfold au.qb au.uX
 repeat' first | exact NR.qH _ | (simp;done) | apply NR.new | refine NR.bind ?_ λ_=>?_ | split
theorem NR.G9 (e:Nat) (x:AV):NR (au.lh e x):=by
 unfold au.lh
 repeat' first | (simp;done) | apply NR.new | refine NR.bind ?_ λ_=>?_ | split
theorem NR.Ha (n:Nat) (x:AV) (lo hi:Option AV):NR (au.o6 n x lo hi):=by
 unfold au.o6
 repeat' first | exact NR.vg _ _ | (simp;done) | apply NR.new | refine NR.bind ?_ λ_=>?_ | split
theorem NR.Hb (e:Nat) (z:List AV) (x:AV):NR (au.ko e z x):=by
 unfold au.ko
 repeat' first | (simp;done) | apply NR.new | refine NR.bind ?_ λ_=>?_ | split
theorem NR.len_ (str:Bool) (x:AV):NR (au.len str x):=by
 unfold au.len
 repeat' first | (simp;done) | apply NR.new | refine NR.bind ?_ λ_=>?_ | split
theorem NR.rQ (e:Nat) (x:AV):NR (au.elems e x):=by
 unfold au.elems
 repeat' first | (simp;done) | apply NR.new | refine NR.bind ?_ λ_=>?_ | split
theorem NR.BT (e:Nat) (x:AV):NR (au.lR e x):=by
 unfold au.lR
 repeat' first | exact NR.rQ _ _ | (simp;done) | apply NR.new | refine NR.bind ?_ λ_=>?_ | split
theorem NR.bu (e slot:Nat) (byte:Bool) (x y:AV):NR (au.app e slot byte x y):=by
 unfold au.app
 repeat' first | exact NR.BT _ _ | (simp;done) | apply NR.new | refine NR.bind ?_ λ_=>?_ | split
theorem NR.Fo (x:AV):NR (au.mN x):=by
 unfold au.mN
 repeat' first | (simp;done) | apply NR.new | refine NR.bind ?_ λ_=>?_ | split
theorem NR.Fp (e slot:Nat) (z:List AV) (x n:AV):NR (au.lN e slot z x n):=by
 unfold au.lN
 repeat' first | exact NR.qH _ | (simp;done) | apply NR.new | refine NR.bind ?_ λ_=>?_ | split
theorem NR.Hc (e slot:Nat) (z:List AV) (n:AV):NR (au.rM e slot z n):=by
 unfold au.rM
 repeat' first | exact NR.qH _ | (simp;done) | apply NR.new | refine NR.bind ?_ λ_=>?_ | split
theorem NR.nW (m:AV):NR (au.du m):=by
 unfold au.du
 repeat' first | (simp;done) | apply NR.new | refine NR.bind ?_ λ_=>?_ | split
theorem NR.Fq (ok agg:Bool) (qs:List Nat) (z:List AV) (m k:AV):NR (au.gB ok agg qs z m k):=by
 unfold au.gB
 repeat' first | exact NR.nW _ | exact NR.Ds _ _ | (simp;done) | apply NR.new | refine NR.bind ?_ λ_=>?_ | split
theorem NR.Fs (qs:List Nat) (m k v:AV):NR (au.gC qs m k v):=by
 unfold au.gC
 repeat' first | exact NR.nW _ | (simp;done) | apply NR.new | refine NR.bind ?_ λ_=>?_ | split
theorem NR.Fu (qs:List Nat) (m k:AV):NR (au.gD qs m k):=by
 unfold au.gD
 repeat' first | exact NR.nW _ | (simp;done) | apply NR.new | refine NR.bind ?_ λ_=>?_ | split
theorem NR.pc (k:IntKind) (a:AV):NR (au.fJ k a):=by
 unfold au.fJ
 repeat' first | exact NR.load_ _ _ _ | (simp;done) | apply NR.new | refine NR.bind ?_ λ_=>?_ | split
theorem NR.Fv (k:IntKind) (a d:AV):NR (au.lP k a d):=by
 unfold au.lP
 repeat' first | exact NR.pc _ _ | exact NR.store_ _ _ _ | (simp;done) | apply NR.new | refine NR.bind ?_ λ_=>?_ | split
theorem NR.Fw (k:IntKind) (a o y:AV):NR (au.mO k a o y):=by
 unfold au.mO
 repeat' first | exact NR.pc _ _ | exact NR.store_ _ _ _ | (simp;done) | apply NR.new | refine NR.bind ?_ λ_=>?_ | split
theorem NR.He (x:AV):NR (au.p8 x):=by
 unfold au.p8
 repeat' first | (simp;done) | apply NR.new | refine NR.bind ?_ λ_=>?_ | split
theorem NR.Hf (x:AV):NR (au.p9 x):=by
 unfold au.p9
 repeat' first | (simp;done) | apply NR.new | refine NR.bind ?_ λ_=>?_ | split
theorem NR.Hg (x:AV):NR (au.qa x):=by
 unfold au.qa
 repeat' first | (simp;done) | apply NR.new | refine NR.bind ?_ λ_=>?_ | split
theorem NR.Fx (p n:AV):NR (au.lQ p n):=by
 unfold au.lQ
 repeat' first | (simp;done) | apply NR.new | refine NR.bind ?_ λ_=>?_ | split
theorem NR.Du (w:Bool):∀(n:Nat) (a:AV),NR (fz w n a)
 |0,_=>NR.fail
 |n+1,a=>by
  have ih:=NR.Du w n;unfold fz
  repeat' first | exact NR.aN (λ_=>NR.aN ih _) _ | exact NR.aN ih _ | (simp;done) | apply NR.new | refine NR.bind ?_ λ_=>?_ | split
theorem NR.Dv (w:Bool) (a:AV):NR (eu w a):=by
 unfold eu
 repeat' first | exact NR.aN (NR.Du w 8) _ | exact NR.Du w 8 _ | (simp;done) | apply NR.new | refine NR.bind ?_ λ_=>?_ | split
theorem NR.Dw (call:bR) (f:AV) (args:List AV):NR (fc call f args):=by
 unfold fc
 repeat' first | exact NR.aN (NR.Dv false) _ | (simp;done) | apply NR.new | refine NR.bind ?_ λ_=>?_ | split
theorem NR.BU (call:bR) (f:AV) (args:List AV):NR (gN call f args):=by
 unfold gN
 repeat' first | exact NR.aN (NR.Dv true) _ | (simp;done) | apply NR.new | refine NR.bind ?_ λ_=>?_ | split
theorem BV (call:bR) (slot:Nat) (ρ:aK->AV) (op:js):NR (bn call slot ρ op):=by
 cases op<;>simp only[bn]
 all_goals repeat' first | exact NR.load_ _ _ _ | exact NR.store_ _ _ _ | exact NR.Fh _ _ | exact NR.Dt _ _ _ _ | exact NR.Fi _ _ _ _ | exact NR.G6 _ _ _ | exact NR.Fj _ _ _ _ _ | exact NR.Fk _ _ | exact NR.Fl _ _ _ _ | exact NR.G7 _ _ _ _ | exact NR.Fm _ _ _ | exact NR.G9 _ _ | exact NR.G8 _ _ _ _ _ | exact NR.Ha _ _ _ _ | exact NR.Hb _ _ _ | exact NR.len_ _ _ | exact NR.bu _ _ _ _ _ | exact NR.Fo _ | exact NR.Fp _ _ _ _ _ | exact NR.Hc _ _ _ _ | exact NR.Fq _ _ _ _ _ _ | exact NR.Fs _ _ _ _ | exact NR.Fu _ _ _ | exact NR.nW _ | exact NR.pc _ _ | exact NR.Fv _ _ _ | exact NR.Fw _ _ _ _ | exact NR.He _ | exact NR.Hf _ | exact NR.Hg _ | exact NR.Fx _ _ | exact NR.Dw _ _ _ | exact NR.BU _ _ _ | exact NR.qH _ | exact NR.wj _ | exact NR.rQ _ _ | (refine NR.aN (λ_=>?_) _) | (simp;done) | apply NR.new | refine NR.bind ?_ λ_=>?_ | split
theorem wk (fr:Fr) (x:dY):NR (jX fr x):=by
 cases x with
 |t n=>exact NR.ret _
 |cell n agg sz=>exact NR.load_ _ _ _
theorem zg (fr:Fr) (xs:List dY):NR (dB fr xs):=by
 unfold dB;split
 ·exact wk _ _
 ·exact NR.bind (NR.aN (wk fr) _) λ_=>NR.ret _
theorem M.wrote {α:Type}:∀(m:M α) (h h':Hp) (a:α),m.run h=some (a,h')->∀n ∈ (m.bA h).2,On h' n
 |.ret x,h,h',a,e,n,hn=>by simp[M.bA]at hn
 |.fail,h,h',a,e,n,hn=>by simp[M.bA]at hn
 |.get id k,h,h',a,e,n,hn=>M.wrote (k (au.get h id)) h h' a e n hn
 |.put id o k,h,h',a,e,n,hn=>by
  simp only[M.bA,List.mem_append,List.mem_singleton]at hn;rcases hn with hn | rfl
  ·exact M.wrote k _ h' a e n hn
  ·exact M.stay k _ h' a _ e On.same
theorem Dx {qs:List (Nat×Ob)} {p:Nat×Ob} (hp:p ∈ qs):∀h:Hp,On (bu qs h) p.1:=by
 induction qs with
 |nil=>simp at hp
 |cons q qs ih=>
  intro h;have stay:∀(l:List (Nat×Ob)) (h:Hp) (n:Nat),On h n->On (bu l h) n:=by
   intro l
   induction l with
   |nil=>intro h n hn;exact hn
   |cons a l ih=>intro h n hn;exact ih _ n hn.set
  rcases List.mem_cons.1 hp with rfl | hp
  ·exact stay qs _ _ On.same
  ·exact ih hp _
def gv (qs:List (Nat×Ob)) (h:Hp):Prop:=∀p ∈ qs,get h p.1=none
theorem gv.not {qs:List (Nat×Ob)} {h:Hp} {n:Nat} (hq:gv qs h) (hn:On h n):∀p ∈ qs,p.1≠n:=by
 intro p hp e;have:=hq p hp;unfold On at hn;rw[<-e,this]at hn;cases hn
theorem gv.back {qs:List (Nat×Ob)} {h h':Hp} (hq:gv qs h') (hs:∀n,On h n->On h' n):gv qs h:=by
 intro p hp;cases hg:get h p.1 with
 |none=>rfl
 |some o=>
  have:=hs p.1 (by unfold On;rw[hg];rfl);exact absurd rfl (hq.not this p hp)
theorem M.more {α:Type} {m:M α} (hm:NR m) {h h':Hp} {a:α} (e:m.run h=some (a,h')) {qs:List (Nat×Ob)} (hq:gv qs h') :
  m.run (bu qs h)=some (a,bu qs h')/\m.bA (bu qs h)=m.bA h:=by
 obtain⟨ps,e1,e2,e3,e4⟩:=M.frame m h (bu qs h) h' a e λn hn=>(gA (λp hp=>hq.not (hm h a h' e n hn) p hp) h).symm
 refine⟨?_,e3⟩;rw[e2,e1];rw[vf λp hp q Kh he=>hq.not (by rw[e1];exact Dx Kh h) p hp he]
theorem sT {l:List Nat} {p q:Nat->Bool} (h:∀n ∈ l,p n=q n):l.all p=l.all q:=by
 induction l with
 |nil=>rfl
 |cons a l ih=>simp only[List.all_cons,h a (List.mem_cons_self ..),ih λn hn=>h n (List.mem_cons_of_mem _ hn)]
def br.plus (qs:List (Nat×Ob)):br->br
 |.m x=>.m x
 |.c h0 h1=>.c (bu qs h0) (bu qs h1)
def br.on (h:Hp):br->Prop
 |.m x=>(∀n ∈ x.1,On h n)/\∀n ∈ x.2,On h n
 |.c _ _=>True
theorem br.on.mono {h h':Hp} {f:br} (hf:f.on h) (hs:∀n,On h n->On h' n):f.on h':=by
 cases f with
 |m x=>exact⟨λn hn=>hs n (hf.1 n hn),λn hn=>hs n (hf.2 n hn)⟩
 |c=>trivial
theorem xy {qs:List (Nat×Ob)} {h:Hp} (hq:gv qs h) {f g:br} (hf:f.on h) (hg:g.on h):di (f.plus qs) (g.plus qs)=di f g:=by
 have ne:∀{n:Nat},On h n->∀x:Hp,get (bu qs x) n=get x n:=λhn x=>gA (hq.not hn) x
 cases f with
 |m x=>
  cases g with
  |m y=>rfl
  |c h0 h1=>
   simp only[br.plus,di];congr 2;refine sT λn hn=>?_
   rw[ne (hf.1 n hn),ne (hf.1 n hn)]
 |c h0 h1=>
  cases g with
  |m y=>
   simp only[br.plus,di];congr 2
   ·congr 1;refine sT λn hn=>?_
    rw[ne (hg.1 n hn),ne (hg.1 n hn)]
   ·refine sT λn hn=>?_
    rcases List.mem_append.1 hn with hn | hn
    ·rw[ne (hg.1 n hn)]
    ·rw[ne (hg.2 n hn)]
  |c k0 k1=>rfl
def St.plus (qs:List (Nat×Ob)) (s:St):St:={ s with hp:=bu qs s.hp }
def eM (cx:cA):Prop:=∀f args h nx r h' dL,cx f args h nx=some (r,h',dL)->(∀n,On h n->On h' n)/\∀qs,gv qs h'->cx f args (bu qs h) nx=some (r,bu qs h',dL)
section
variable {c1:bR} {cx:cA}
theorem mA (hx:eM cx) {slot:Nat} {o:ax} {s s1:St} (e:step c1 cx slot o s=some s1) :
  (∀n,On s.hp n->On s1.hp n)/\(bz c1 slot o s s1.hp).on s1.hp/\∀qs,gv qs s1.hp->step c1 cx slot o (s.plus qs)=some (s1.plus qs)/\bz c1 slot o (s.plus qs) (s1.plus qs).hp=(bz c1 slot o s s1.hp).plus qs:=by
 unfold step at e ⊢;unfold bz;simp only[St.plus];cases hw:bK s.fr o.gd with
 |none=>rw[hw]at e;cases e
 |some b=>
  rw[hw]at e;cases b with
  |false=>
   simp only[Option.some.injEq]at e;subst e;exact⟨λ_ h=>h,⟨λn hn=>by simp at hn,λn hn=>by simp at hn⟩,λqs _=>⟨rfl,rfl⟩⟩
  |true=>
   simp only[]at e ⊢;cases hs:dD o.op with
   |some fa=>
    rw[hs]at e;simp only[]at e ⊢;cases cR:callee (ev s.fr fa.1)with
    |none=>rw[cR]at e;cases e
    |some q=>
     rw[cR]at e;simp only[]at e ⊢;cases hr:cx q.1 (q.2.1++(fa.2.map (ev s.fr)++q.2.2)) s.hp s.nx with
     |none=>rw[hr]at e;cases e
     |some p=>
      obtain⟨v,h1,n1⟩:=p;rw[hr]at e;simp only[Option.some.injEq]at e;subst e;obtain⟨q1,q2⟩:=hx _ _ _ _ _ _ _ hr;refine⟨q1,trivial,λqs hq=>⟨?_,rfl⟩⟩;rw[q2 qs hq]
   |none=>
    rw[hs]at e;simp only[]at e ⊢;cases hr:(bn c1 slot (ev s.fr) o.op).run s.hp with
    |none=>rw[hr]at e;cases e
    |some p=>
     obtain⟨v,h1⟩:=p;rw[hr]at e;simp only[Option.some.injEq]at e;subst e;have hn:=BV c1 slot (ev s.fr) o.op;refine⟨λn h=>M.stay _ _ _ _ n hr h,⟨hn _ _ _ hr,M.wrote _ _ _ _ hr⟩,λqs hq=>?_⟩;obtain⟨q1,q2⟩:=M.more hn hr hq;rw[q1,q2];exact⟨rfl,rfl⟩
theorem pd (hx:eM cx):∀(ops:List ax) (slot:Nat) (s s1:St),aW c1 cx ops slot s=some s1->
  (∀n,On s.hp n->On s1.hp n)/\∀qs,gv qs s1.hp->aW c1 cx ops slot (s.plus qs)=some (s1.plus qs)
 |[],slot,s,s1,e=>by
  simp only[aW,Option.some.injEq]at e;subst e;exact⟨λ_ h=>h,λqs _=>rfl⟩
 |o::r,slot,s,s1,e=>by
  simp only[aW]at e ⊢;cases h1:step c1 cx slot o s with
  |none=>rw[h1]at e;cases e
  |some t=>
   rw[h1]at e;obtain⟨a1, -,a2⟩:=mA hx h1;obtain⟨b1,b2⟩:=pd hx r (slot+1) t s1 e;refine⟨λn h=>b1 n (a1 n h),λqs hq=>?_⟩;rw[(a2 qs (hq.back b1)).1];exact b2 qs hq
theorem oh (hx:eM cx):∀(ops:List ax) (slot:Nat) (s s1:St) (fs:List br),bE c1 cx ops slot s=some (s1,fs)->
  (∀n,On s.hp n->On s1.hp n)/\(∀f ∈ fs,f.on s1.hp)/\∀qs,gv qs s1.hp->bE c1 cx ops slot (s.plus qs)=some (s1.plus qs,fs.map (br.plus qs))
 |[],slot,s,s1,fs,e=>by
  simp only[bE,Option.some.injEq,Prod.mk.injEq]at e;obtain⟨rfl,rfl⟩:=e;exact⟨λ_ h=>h,λf hf=>by simp at hf,λqs _=>rfl⟩
 |o::r,slot,s,s1,fs,e=>by
  simp only[bE]at e ⊢;cases h1:step c1 cx slot o s with
  |none=>rw[h1]at e;cases e
  |some t=>
   rw[h1]at e;simp only[]at e;cases h2:bE c1 cx r (slot+1) t with
   |none=>rw[h2]at e;cases e
   |some p=>
    rw[h2]at e;simp only[Option.some.injEq,Prod.mk.injEq]at e;obtain⟨rfl,rfl⟩:=e;obtain⟨a1,a0,a2⟩:=mA hx h1;obtain⟨b1,b0,b2⟩:=oh hx r (slot+1) t p.1 p.2 h2;refine⟨λn h=>b1 n (a1 n h),λf hf=>?_,λqs hq=>?_⟩
    ·rcases List.mem_cons.1 hf with rfl | hf
     ·exact a0.mono b1
     ·exact b0 f hf
    ·obtain⟨Bw,Dy⟩:=a2 qs (hq.back b1);rw[Bw];simp only[];rw[b2 qs hq];simp only[List.map_cons];rw[<-Dy]
theorem qe {qs:List (Nat×Ob)} {h:Hp} (hq:gv qs h) {x:br} (hx:x.on h) (i:Nat):∀(fs:List br) (cs:List (List Nat)),(∀f ∈ fs,f.on h)->ew (x.plus qs) i (fs.map (br.plus qs)) cs=ew x i fs cs
 |[],cs,_=>by cases cs<;>rfl
 |f::fs,[],_=>rfl
 |f::fs,c::cs,hf=>by
  simp only[List.map_cons,ew];rw[xy hq hx (hf f (List.mem_cons_self ..)),qe hq hx i fs cs λg hg=>hf g (List.mem_cons_of_mem _ hg)]
theorem oi {qs:List (Nat×Ob)} {h:Hp} (hq:gv qs h):∀(fs:List br) (i:Nat) (cs:List (List Nat)),(∀f ∈ fs,f.on h)->cJ (fs.map (br.plus qs)) i cs=cJ fs i cs
 |[],i,cs,_=>by cases cs<;>rfl
 |f::fs,i,[],_=>rfl
 |f::fs,i,c::cs,hf=>by
  simp only[List.map_cons,cJ];rw[qe hq (hf f (List.mem_cons_self ..)) i fs cs λg hg=>hf g (List.mem_cons_of_mem _ hg),oi hq fs (i+1) cs λg hg=>hf g (List.mem_cons_of_mem _ hg)]
theorem rR (qs:List (Nat×Ob)):∀fs:List br,(fs.map (br.plus qs)).all lS=fs.all lS
 |[]=>rfl
 |f::fs=>by
  simp only[List.map_cons,List.all_cons,rR qs fs];cases f<;>rfl
theorem vh (hx:eM cx) {draw:Bool} {ops:List ax} {aF:List Nat} {s s1:St} (e:aQ c1 cx draw ops aF s=some s1) :
  (∀n,On s.hp n->On s1.hp n)/\∀qs,gv qs s1.hp->aQ c1 cx draw ops aF (s.plus qs)=some (s1.plus qs):=by
 unfold aQ at e ⊢;cases draw with
 |false=>
  simp only[Bool.false_eq_true,if_false]at e ⊢;cases h1:aW c1 cx ops s.nx { s with nx:=s.nx+ops.length } with
  |none=>rw[h1]at e;cases e
  |some t=>
   rw[h1]at e;simp only[Option.some.injEq]at e;subst e;obtain⟨a1,a2⟩:=pd hx _ _ _ _ h1;refine⟨a1,λqs hq=>?_⟩;have:=a2 qs hq;simp only[St.plus]at this ⊢;rw[this]
 |true=>
  simp only[if_true]at e ⊢;cases h1:bE c1 cx ops s.nx { s with nx:=s.nx+ops.length } with
  |none=>rw[h1]at e;cases e
  |some p=>
   rw[h1]at e;simp only[]at e;split at e
   case isFalse=>cases e
   rename_i ho;simp only[Option.some.injEq]at e;subst e;obtain⟨a1,a0,a2⟩:=oh hx _ _ _ p.1 p.2 h1;refine⟨a1,λqs hq=>?_⟩;have:=a2 qs hq;simp only[St.plus]at this ⊢;rw[this];simp only[];rw[if_pos];unfold gx at ho ⊢;rw[rR,oi hq p.2 0 _ a0];exact ho
theorem tm {f:St->Option (Ex×St)} (hf:∀s r s1,f s=some (r,s1)->(∀n,On s.hp n->On s1.hp n)/\∀qs,gv qs s1.hp->f (s.plus qs)=some (r,s1.plus qs)) (aF:List Nat):∀(m:Nat) (s:St) (r:Ex) (s1:St),iter f aF m s=some (r,s1)->
  (∀n,On s.hp n->On s1.hp n)/\∀qs,gv qs s1.hp->iter f aF m (s.plus qs)=some (r,s1.plus qs)
 |0,s,r,s1,e=>by simp[iter]at e
 |m+1,s,r,s1,e=>by
  simp only[iter]at e ⊢;cases h1:f s with
  |none=>rw[h1]at e;cases e
  |some p=>
   obtain⟨r1,t⟩:=p;rw[h1]at e;obtain⟨a1,a2⟩:=hf s r1 t h1;cases r1 with
   |norm=>
    obtain⟨b1,b2⟩:=tm hf aF m _ r s1 e;refine⟨λn h=>b1 n (a1 n h),λqs hq=>?_⟩;rw[a2 qs (hq.back b1)];exact b2 qs hq
   |exit i=>
    simp only[Option.some.injEq,Prod.mk.injEq]at e;obtain⟨rfl,rfl⟩:=e;exact⟨a1,λqs hq=>by rw[a2 qs hq]⟩
   |ret=>
    simp only[Option.some.injEq,Prod.mk.injEq]at e;obtain⟨rfl,rfl⟩:=e;exact⟨a1,λqs hq=>by rw[a2 qs hq]⟩
theorem xA (hx:eM cx) (k:Nat):∀(ic:IC) (s:St) (r:Ex) (s1:St),aD c1 cx k ic s=some (r,s1)->
  (∀n,On s.hp n->On s1.hp n)/\∀qs,gv qs s1.hp->aD c1 cx k ic (s.plus qs)=some (r,s1.plus qs):=by
 intro ic
 induction ic with
 |skip=>
  intro s r s1 e;simp only[aD,Option.some.injEq,Prod.mk.injEq]at e ⊢;obtain⟨rfl,rfl⟩:=e;exact⟨λ_ h=>h,λqs _=>⟨rfl,rfl⟩⟩
 |gm draw ops aF=>
  intro s r s1 e;simp only[aD,Option.map_eq_some_iff,Prod.mk.injEq]at e ⊢;obtain⟨t,e1,rfl,rfl⟩:=e;obtain⟨a1,a2⟩:=vh hx e1;exact⟨a1,λqs hq=>⟨_,a2 qs hq,rfl,rfl⟩⟩
 |seq a b oR oS=>
  intro s r s1 e;simp only[aD]at e ⊢;cases h1:aD c1 cx k a s with
  |none=>rw[h1]at e;cases e
  |some p=>
   obtain⟨r1,t⟩:=p;rw[h1]at e;obtain⟨a1,a2⟩:=oR s r1 t h1;cases r1 with
   |norm=>
    obtain⟨b1,b2⟩:=oS t r s1 e;refine⟨λn h=>b1 n (a1 n h),λqs hq=>?_⟩;rw[a2 qs (hq.back b1)];exact b2 qs hq
   |exit i=>
    simp only[Option.some.injEq,Prod.mk.injEq]at e;obtain⟨rfl,rfl⟩:=e;exact⟨a1,λqs hq=>by rw[a2 qs hq]⟩
   |ret=>
    simp only[Option.some.injEq,Prod.mk.injEq]at e;obtain⟨rfl,rfl⟩:=e;exact⟨a1,λqs hq=>by rw[a2 qs hq]⟩
 |cond c a b oR oS=>
  intro s r s1 e;simp only[aD]at e ⊢;have v7:∀qs,(s.plus qs).fr=s.fr:=λ_=>rfl
  simp only[v7];split at e
  ·rename_i t ht;cases t with
   |true=>simpa[ht]using oR s r s1 e
   |false=>simpa[ht]using oS s r s1 e
  ·cases e
 |block id b ih=>
  intro s r s1 e;simp only[aD]at e ⊢;cases h1:aD c1 cx k b s with
  |none=>rw[h1]at e;cases e
  |some p=>
   obtain⟨r1,t⟩:=p;rw[h1]at e;obtain⟨a1,a2⟩:=ih s r1 t h1;cases r1 with
   |norm=>
    simp only[Option.some.injEq,Prod.mk.injEq]at e;obtain⟨rfl,rfl⟩:=e;exact⟨a1,λqs hq=>by rw[a2 qs hq]⟩
   |ret=>
    simp only[Option.some.injEq,Prod.mk.injEq]at e;obtain⟨rfl,rfl⟩:=e;exact⟨a1,λqs hq=>by rw[a2 qs hq]⟩
   |exit i=>
    simp only[]at e;split at e
    ·rename_i hi;simp only[Option.some.injEq,Prod.mk.injEq]at e;obtain⟨rfl,rfl⟩:=e;exact⟨a1,λqs hq=>by rw[a2 qs hq];simp[hi]⟩
    ·rename_i hi;simp only[Option.some.injEq,Prod.mk.injEq]at e;obtain⟨rfl,rfl⟩:=e;exact⟨a1,λqs hq=>by rw[a2 qs hq];simp[hi]⟩
 |loop aF b ih=>
  intro s r s1 e;simp only[aD]at e ⊢;exact tm ih aF k _ r s1 e
 |exit id=>
  intro s r s1 e;simp only[aD,Option.some.injEq,Prod.mk.injEq]at e ⊢;obtain⟨rfl,rfl⟩:=e;exact⟨λ_ h=>h,λqs _=>⟨rfl,rfl⟩⟩
 |ret=>
  intro s r s1 e;simp only[aD,Option.some.injEq,Prod.mk.injEq]at e ⊢;obtain⟨rfl,rfl⟩:=e;exact⟨λ_ h=>h,λqs _=>⟨rfl,rfl⟩⟩
 |scope b ih=>
  intro s r s1 e;simp only[aD]at e ⊢;exact ih s r s1 e
 |stop=>
  intro s r s1 e;simp[aD]at e
def kg (p:bR->cA->List AV->Hp->Nat->Option (AV×Hp×Nat)):Prop:=
 ∀c1 cx,eM cx->∀args h nx r h' dL,p c1 cx args h nx=some (r,h',dL)->(∀n,On h n->On h' n)/\∀qs,gv qs h'->p c1 cx args (bu qs h) nx=some (r,bu qs h',dL)
theorem rS {prog:Nat->Option an} (hp:∀f ir p,prog f=some ir->ir.gF=some p->kg p):∀k,eM (bg c1 prog k):=by
 intro k
 induction k with
 |zero=>intro f args h nx r h' dL e;simp[bg]at e
 |succ k ih=>
  intro f args h nx r h' dL e;simp only[bg]at e ⊢;cases hf:prog f with
  |none=>rw[hf]at e;cases e
  |some ir=>
   rw[hf]at e;simp only[]at e ⊢;cases vi:ir.gF with
   |some p=>
    rw[vi]at e;exact hp f ir p hf vi c1 _ ih args h nx r h' dL e
   |none=>
    rw[vi]at e;simp only[]at e ⊢;split at e
    case isFalse=>cases e
    rename_i hl;have fin:∀(t:St) (ex:Ex),(ex = .norm\/ex = .ret)->aD c1 (bg c1 prog k) k ir.body ⟨params args 0,h,nx⟩=some (ex,t)->(match(dB t.fr ir.res).run t.hp with | some (v,h)=>some (v,h,t.nx) | none=>none)=some (r,h',dL)->
      (∀n,On h n->On h' n)/\∀qs,gv qs h'->aD c1 (bg c1 prog k) k ir.body ⟨params args 0,bu qs h,nx⟩=some (ex,t.plus qs)/\
       (match(dB t.fr ir.res).run (bu qs t.hp)with | some (v,h)=>some (v,h,t.nx) | none=>none)=some (r,bu qs h',dL):=by
     intro t ex _ h1 h2;obtain⟨a1,a2⟩:=xA ih k _ _ _ _ h1;cases h3:(dB t.fr ir.res).run t.hp with
     |none=>rw[h3]at h2;cases h2
     |some q=>
      obtain⟨v,h4⟩:=q;rw[h3]at h2;simp only[Option.some.injEq,Prod.mk.injEq]at h2;obtain⟨rfl,rfl,rfl⟩:=h2;have b1:=λn=>M.stay _ _ _ _ n h3
      refine⟨λn hn=>b1 n (a1 n hn),λqs hq=>⟨a2 qs (hq.back b1),?_⟩⟩;rw[(M.more (zg _ _) h3 hq).1]
    cases h1:aD c1 (bg c1 prog k) k ir.body ⟨params args 0,h,nx⟩with
    |none=>rw[h1]at e;cases e
    |some q=>
     obtain⟨ex,t⟩:=q;rw[h1]at e;cases ex with
     |norm=>
      obtain⟨b1,b2⟩:=fin t _ (.inl rfl) h1 e;refine⟨b1,λqs hq=>?_⟩;rw[if_pos hl,(b2 qs hq).1];exact(b2 qs hq).2
     |ret=>
      obtain⟨b1,b2⟩:=fin t _ (.inr rfl) h1 e;refine⟨b1,λqs hq=>?_⟩;rw[if_pos hl,(b2 qs hq).1];exact(b2 qs hq).2
     |exit i=>cases e
end
end au

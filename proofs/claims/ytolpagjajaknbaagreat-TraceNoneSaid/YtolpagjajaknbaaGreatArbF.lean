/-
  A part of the proof of the statement that the last text of this claim holds: two abstract machines for the code, proved sound once, and what the program does on them. No condition.
-/
import Derived.Test.YtolpagjajaknbaaGreatArbE
set_option linter.all false
namespace Arb
open Go
attribute [local simp] evalRgn Option.map_some evalOps step wants osem Mrun_bindZ M.mapL M.run M.ok M.fresh M.write M.look M.lift putD Arb.set ev Arb.get keepFr bin intBin strBin mk params cellsM load obRead fadr fld isl iarr xarr idx len valid slc bound store splice nilc un eqs eq0 evalFeet footOf M.foot orderOk apartAll apart1 clash meets callM fcallM callee fz1 fzC fz flat flat1 flat0 flatI Option.bind_some putAll M.bind
section
variable {prog:Nat->Option IFn}
set_option maxHeartbeats 4000000 in
theorem x_merge (h:prog 282=some F282) (a b:List ByteArray) (hl:a.length+b.length<=100000):Ans prog 282 [.iv (.sl 1 (a.map st1)),.iv (.sl 1 (b.map st1))] (.iv (.sl 1 ((mergeT a b).map st1))):=by
 refine Ans.of h rfl rfl (WpsgZ ?_);refine WpsgZ ?_;refine WpsgZ ?_;refine ab ?_;refine WpblockZ ?_;refine WploopZ (λm s1=>∃(i k:Nat) (o:List ByteArray),(a.length - i)+(b.length - k)=m/\i<=a.length/\k<=b.length/\o.length<=i+k/\o++mergeT (a.drop i) (b.drop k)=mergeT a b/\
  s1=⟨[(0,.iv (.sl 1 (a.map st1))),(1,.iv (.sl 1 (b.map st1))),(5,.own 1064 0 o.length 0),(6,.nI i),(7,.nI k)],[(1000,.buf 0 1 []),(1064,.buf 0 1 (o.map st1))],1256⟩) (m:=a.length+b.length) ⟨0,0,[],by omega,by omega,by omega,by simp,by simp,rfl⟩ ?_
 rintro m s1 ⟨i,k,o,hm,hia,hkb,ho,hg,rfl⟩;have hr1:o.length+1<=1073741824:=by omega
 have hwi:IntKind.wrap .i64 ((i:Int)+1)=(i:Int)+1:=IntWalk.i64_in _ (by omega);have hwk:IntKind.wrap .i64 ((k:Int)+1)=(k:Int)+1:=IntWalk.i64_in _ (by omega);refine ab (Wps0Z (s':=⟨[(0,.iv (.sl 1 (a.map st1))),(1,.iv (.sl 1 (b.map st1))),(5,.own 1064 0 o.length 0),(6,.nI i),(7,.nI k),(17,.bI (decide (i<a.length)||decide (k<b.length)))],[(1000,.buf 0 1 []),(1064,.buf 0 1 (o.map st1))],1896⟩) (by
  by_cases h1:i<a.length<;>simp[h1]) ?_)
 refine WpcondZ rfl ?_;by_cases hia2:i<a.length
 ·obtain⟨x,hx⟩:∃x,a[i]?=some x:=⟨_,List.getElem?_eq_getElem hia2⟩;have hx':a[i]'hia2=x:=(List.getElem?_eq_some_iff.1 hx).2;have hi3:((i:Int)==a.length)=false:=by rw[beq_eq_false_iff_ne];omega
  have hi4:(i:Int)<a.length:=by omega
  rw[decide_eq_true hia2,Bool.true_or];refine WpskipZ (WpblockZ (ab ?_));rw[drop_cons hx]at hg;by_cases hkb2:k<b.length
  ·obtain⟨y,hy⟩:∃y,b[k]?=some y:=⟨_,List.getElem?_eq_getElem hkb2⟩;have hy':b[k]'hkb2=y:=(List.getElem?_eq_some_iff.1 hy).2;have hk3:((k:Int)==b.length)=false:=by rw[beq_eq_false_iff_ne];omega
   have hk4:(k:Int)<b.length:=by omega
   rw[drop_cons hy,mergeT]at hg;refine WprgnZ (K:=0) (s':=⟨[(0,.iv (.sl 1 (a.map st1))),(1,.iv (.sl 1 (b.map st1))),(5,.own 1064 0 o.length 0),(6,.nI i),(7,.nI k),(38,.bI (sless x y))],[(1000,.buf 0 1 []),(1064,.buf 0 1 (o.map st1))],3240⟩) (λn _=>rgn_quiet' rfl (by
    cases h1:sless x y<;>simp[hia2,hkb2,hi4,hk3,hk4,hx,hy,hx',hy',st1,h1])) ?_
   refine WpcondZ rfl ?_;cases h1:sless x y with
   |true=>
    rw[if_pos h1]at hg;refine Wps0Z (by simp[setAll,app,elems,roomy,hr1,take_map_len,hx,hx',hi4,hia2,st1];rfl) ?_;refine WprgZ ?_;refine⟨m - 1,by omega,i+1,k,o++[x],by omega,by omega,by omega,by simp;omega,by rw[drop_cons hy,<-hg,List.append_assoc];rfl,?_⟩;simp[again,keepFr,get,nrm,nrmO,hwi,st1]
   |false=>
    rw[if_neg (by rw[h1];simp)]at hg;refine ab ?_;refine WprgnZ (K:=0) (s':=⟨[(0,.iv (.sl 1 (a.map st1))),(1,.iv (.sl 1 (b.map st1))),(5,.own 1064 0 o.length 0),(6,.nI i),(7,.nI k),(62,.bI (sless y x))],[(1000,.buf 0 1 []),(1064,.buf 0 1 (o.map st1))],4200⟩) (λn _=>rgn_quiet' rfl (by
     cases h2:sless y x<;>simp[hia2,hkb2,hi3,hi4,hk4,hx,hy,hx',hy',st1,h2])) ?_
    refine WpcondZ rfl ?_;cases h2:sless y x with
    |true=>
     rw[if_pos h2]at hg;refine Wps0Z (by simp[setAll,app,elems,roomy,hr1,take_map_len,hy,hy',hk4,hkb2,st1];rfl) ?_;refine WprgZ ?_;refine⟨m - 1,by omega,i,k+1,o++[y],by omega,by omega,by omega,by simp;omega,by rw[drop_cons hx,<-hg,List.append_assoc];rfl,?_⟩;simp[again,keepFr,get,nrm,nrmO,hwk,st1]
    |false=>
     rw[if_neg (by rw[h2];simp)]at hg;refine Wps0Z (by simp[setAll,app,elems,roomy,hr1,take_map_len,hx,hx',hi4,hia2,st1];rfl) ?_;refine WpsgZ ?_;refine WprgZ ?_;refine⟨m - 2,by omega,i+1,k+1,o++[x],by omega,by omega,by omega,by simp;omega,by rw[<-hg,List.append_assoc];rfl,?_⟩;simp[again,keepFr,get,nrm,nrmO,hwi,hwk,st1]
  ·have hkb3:k=b.length:=by omega
   have hk3:((k:Int)==b.length)=true:=by rw[beq_iff_eq];omega
   have hbn:b.drop k=[]:=List.drop_eq_nil_of_le (by omega);rw[hbn,mergeT_nil]at hg;refine WprgnZ (K:=0) (s':=⟨[(0,.iv (.sl 1 (a.map st1))),(1,.iv (.sl 1 (b.map st1))),(5,.own 1064 0 o.length 0),(6,.nI i),(7,.nI k),(38,.bI true)],[(1000,.buf 0 1 []),(1064,.buf 0 1 (o.map st1))],3240⟩) (λn _=>rgn_quiet' rfl (by
    simp[hk3])) ?_
   refine WpcondZ rfl (Wps0Z (by simp[setAll,app,elems,roomy,hr1,take_map_len,hx,hx',hi4,hia2,st1];rfl) ?_);refine WprgZ ?_;refine⟨m - 1,by omega,i+1,k,o++[x],by omega,by omega,by omega,by simp;omega,by rw[hbn,mergeT_nil,<-hg,List.append_assoc];rfl,?_⟩;simp[again,keepFr,get,nrm,nrmO,hwi,st1]
 ·have hia3:i=a.length:=by omega
  have hi3:((i:Int)==a.length)=true:=by rw[beq_iff_eq];omega
  have hi4:¬(i:Int)<a.length:=by omega
  have han:a.drop i=[]:=List.drop_eq_nil_of_le (by omega);rw[han,mergeT]at hg;rw[decide_eq_false hia2,Bool.false_or];by_cases hkb2:k<b.length
  ·obtain⟨y,hy⟩:∃y,b[k]?=some y:=⟨_,List.getElem?_eq_getElem hkb2⟩;have hy':b[k]'hkb2=y:=(List.getElem?_eq_some_iff.1 hy).2;have hk3:((k:Int)==b.length)=false:=by rw[beq_eq_false_iff_ne];omega
   have hk4:(k:Int)<b.length:=by omega
   rw[decide_eq_true hkb2];rw[drop_cons hy]at hg;refine WpskipZ (WpblockZ (ab ?_));refine WprgnZ (K:=0) (s':=⟨[(0,.iv (.sl 1 (a.map st1))),(1,.iv (.sl 1 (b.map st1))),(5,.own 1064 0 o.length 0),(6,.nI i),(7,.nI k),(38,.bI false)],[(1000,.buf 0 1 []),(1064,.buf 0 1 (o.map st1))],3240⟩) (λn _=>rgn_quiet' rfl (by
    simp[hk3,hia3])) ?_
   refine WpcondZ rfl (ab ?_);refine WprgnZ (K:=0) (s':=⟨[(0,.iv (.sl 1 (a.map st1))),(1,.iv (.sl 1 (b.map st1))),(5,.own 1064 0 o.length 0),(6,.nI i),(7,.nI k),(62,.bI true)],[(1000,.buf 0 1 []),(1064,.buf 0 1 (o.map st1))],4200⟩) (λn _=>rgn_quiet' rfl (by
    simp[hi3])) ?_
   refine WpcondZ rfl (Wps0Z (by simp[setAll,app,elems,roomy,hr1,take_map_len,hy,hy',hk4,hkb2,st1];rfl) ?_);refine WprgZ ?_;refine⟨m - 1,by omega,i,k+1,o++[y],by omega,by omega,by omega,by simp;omega,by rw[han,mergeT,<-hg,List.append_assoc];rfl,?_⟩;simp[again,keepFr,get,nrm,nrmO,hwk,st1]
  ·have hbn:b.drop k=[]:=List.drop_eq_nil_of_le (by omega);rw[hbn,List.append_nil]at hg;rw[decide_eq_false hkb2];refine WpexitZ ?_;simp only[Ex.then,Ex.inBlock,if_true];refine WpsgZ ?_;refine WpretZ ?_;rw[<-hg];simp[FinS,F282,resAll,resM,outA,ev,get,M.look,M.bind,M.run,Mrun_bindZ,M.ok,shut,fzA,fz1,fzC,fz,M.write,M.lift,take_map_len]
end
def notHp' (x:S) (w:Nat) (o:List (Int×Int)):Hp:=[(1000,.cells [.iv (.bool x.a),.iv (.sl 2 (x.i.map rng)),.iv (.bool x.c),.iv (.sl 1 (x.s.map st1))]),(1066,.buf 0 2 []),(1068,.buf 0 1 []),(1064,.cells [.iv (.bool false),.own 1066 0 0 0,.iv (.bool false),.own 1068 0 0 0]),
 (1512,.buf w 1 (x.s.map st1)),(1834,.buf 0 2 []),(1836,.buf 0 1 []),(1832,.cells [.iv (.bool (!x.a)),.own 1897 0 o.length 0,.iv (.bool (!x.c)),.own 1512 0 x.s.length w]),(1897,.buf 0 2 (o.map rng))]
section
variable {prog:Nat->Option IFn}
set_option maxHeartbeats 8000000 in
theorem x_not (h:prog 283=some F283) (x:S) (fx:x.fine) (kx:in64s x.i) (hi:x.i.length<=100000) (hs:x.s.length<=100000):Ans prog 283 [x.av] (notS x).av:=by
 rw[<-notD_eq fx kx];have hr:x.s.length<=1073741824:=by omega
 refine Ans.of h rfl rfl (Wps0Z (by simp[S.av];rfl) ?_);refine Wps0Z (s':=⟨[(1,.ref 1000 0 0 0),(2,.ref 1064 0 0 0),(3,.ref 1832 0 0 0)],notHp' x 1 [],1960⟩) (by simp[setAll,app,elems,roomy,hr,notHp']) ?_;refine WpsgZ ?_;refine WpsgZ ?_;refine ab (WpsgZ ?_);refine WpblockZ ?_;refine WploopZ (λm s1=>∃(i:Nat) (a:Int) (b:Bool) (o:List (Int×Int)) (w:Nat),i+m=x.i.length/\o.length<=i/\(if b then o++gapsF a (x.i.drop i)=gapsF minI x.i else(i=x.i.length/\o=gapsF minI x.i))/\
  s1=⟨[(1,.ref 1000 0 0 0),(2,.ref 1064 0 0 0),(3,.ref 1832 0 0 0),(4,.nI a),(5,.bI b),(6,.nI i)],notHp' x w o,2152⟩) (m:=x.i.length) ⟨0,minI,true,[],1,by omega,by simp,by simp,by simp[keepFr,get,minI]⟩ ?_
 rintro m s1 ⟨i,a,b,o,w,him,ho,hg,rfl⟩;have hr1:o.length+1<=1073741824:=by omega
 have hwi:IntKind.wrap .i64 ((i:Int)+1)=(i:Int)+1:=IntWalk.i64_in _ (by omega);refine ab (ab ?_);by_cases hil:i<x.i.length
 ·obtain⟨r,hr'⟩:∃r,x.i[i]?=some r:=⟨_,List.getElem?_eq_getElem hil⟩;have hd:=drop_cons hr';cases b with
  |false=>simp at hg;omega
  |true=>
   rw[if_pos rfl,hd,gapsF]at hg;refine Wpr0Z (s':=⟨[(1,.ref 1000 0 0 0),(2,.ref 1064 0 0 0),(3,.ref 1832 0 0 0),(4,.nI a),(5,.bI true),(6,.nI i),(22,.bI true)],notHp' x w o,2472⟩) (by simp[notHp',hil]) ?_;refine WpcondZ rfl (WpskipZ (ab (WpblockZ (ab (Wps0Z (s':=⟨[(1,.ref 1000 0 0 0),(2,.ref 1064 0 0 0),(3,.ref 1832 0 0 0),(4,.nI a),(5,.bI true),(6,.nI i),(32,.bI (decide (a<r.1)))],notHp' x w o,2984⟩) (by simp[notHp',hr',rng]) ?_)))));refine WpcondZ rfl ?_;have fin:∀(o':List (Int×Int)) (v w' nx:Nat) (H:Hp),o'.length<=i+1->o'++(if r.2=9223372036854775807 then[] else gapsF (IntKind.wrap .i64 (r.2+1)) (x.i.drop (i+1)))=gapsF minI x.i->True:=λ_ _ _ _ _ _ _=>trivial
   have hnil:r.2=9223372036854775807->i+1=x.i.length:=by
    intro hm;refine Classical.byContradiction λhne=>?_
    obtain⟨q,hq⟩:∃q,x.i[i+1]?=some q:=⟨_,List.getElem?_eq_getElem (by omega)⟩;have h1:=pair_get fx.i.2 hr' hq;have h2:=fx.i.1 q (List.mem_of_getElem? hq);have h3:=(kx q (List.mem_of_getElem? hq)).2.2;omega
   cases hb:decide (a<r.1)with
   |true=>
    rw[if_pos (of_decide_eq_true hb)]at hg;refine Wpr0Z (by simp[notHp',setAll,app,elems,roomy,hr1,hr',rng,take_map_len];rfl) ?_;refine Wps0Z (by simp[hr',rng];rfl) ?_;refine WpcondZ rfl ?_;cases hm:r.2==9223372036854775807 with
    |true=>
     have hm':r.2=9223372036854775807:=by simpa using hm
     rw[if_pos hm',List.append_nil]at hg;refine WprgZ ?_;simp only[Ex.then,Ex.inBlock];refine Wpr0Z (by simp[hwi];rfl) ?_;refine⟨m - 1,by omega,i+1,a,false,o++[(a,IntKind.wrap .i64 (r.1 - 1))],0,by omega,by simp;omega,?_,?_⟩
     ·rw[if_neg (by simp)];exact⟨hnil hm',hg⟩
     ·simp[again,keepFr,get,nrm_iv,nrm_refU,nrm_ownU,nrmO,notHp',rng]
    |false=>
     have hm':¬r.2=9223372036854775807:=by simpa using hm
     rw[if_neg hm']at hg;refine Wpr0Z (by simp[hr',rng];rfl) ?_;simp only[Ex.then,Ex.inBlock];refine Wpr0Z (by simp[hwi];rfl) ?_;refine⟨m - 1,by omega,i+1,IntKind.wrap .i64 (r.2+1),true,o++[(a,IntKind.wrap .i64 (r.1 - 1))],0,by omega,by simp;omega,?_,?_⟩
     ·rw[if_pos rfl,<-hg];simp
     ·simp[again,keepFr,get,nrm_iv,nrm_refU,nrm_ownU,nrmO,notHp',rng]
   |false=>
    rw[if_neg (of_decide_eq_false hb),List.nil_append]at hg;refine WpskipZ ?_;simp only[Ex.then];refine Wps0Z (by simp[notHp',hr',rng];rfl) ?_;refine WpcondZ rfl ?_;cases hm:r.2==9223372036854775807 with
    |true=>
     have hm':r.2=9223372036854775807:=by simpa using hm
     rw[if_pos hm',List.append_nil]at hg;refine WprgZ ?_;simp only[Ex.then,Ex.inBlock];refine Wpr0Z (by simp[hwi];rfl) ?_;refine⟨m - 1,by omega,i+1,a,false,o,0,by omega,by omega,?_,?_⟩
     ·rw[if_neg (by simp)];exact⟨hnil hm',hg⟩
     ·simp[again,keepFr,get,nrm_iv,nrm_refU,nrm_ownU,nrmO,notHp']
    |false=>
     have hm':¬r.2=9223372036854775807:=by simpa using hm
     rw[if_neg hm']at hg;refine Wpr0Z (by simp[hr',rng];rfl) ?_;simp only[Ex.then,Ex.inBlock];refine Wpr0Z (by simp[hwi];rfl) ?_;refine⟨m - 1,by omega,i+1,IntKind.wrap .i64 (r.2+1),true,o,0,by omega,by omega,?_,?_⟩
     ·rw[if_pos rfl,<-hg]
     ·simp[again,keepFr,get,nrm_iv,nrm_refU,nrm_ownU,nrmO,notHp']
 ·refine Wpr0Z (s':=⟨[(1,.ref 1000 0 0 0),(2,.ref 1064 0 0 0),(3,.ref 1832 0 0 0),(4,.nI a),(5,.bI b),(6,.nI i),(22,.bI false)],notHp' x w o,2472⟩) (by simp[notHp'];omega) ?_;refine WpcondZ rfl (WpexitZ ?_);simp only[Ex.then,Ex.inBlock,if_true];have hdn:x.i.drop i=[]:=List.drop_eq_nil_of_le (by omega);rw[hdn,gapsF]at hg;refine ab (WpsgZ ?_);refine WpcondZ rfl ?_;cases b with
  |true=>
   rw[if_pos rfl]at hg;refine Wpr0Z (by simp[notHp',setAll,app,elems,roomy,hr1,take_map_len];rfl) ?_;simp only[Ex.then];refine Wps0Z (by simp;rfl) ?_;refine WpretZ ?_;have hT:List.take (o.length+1) (o.map rng++[[.int .i64 a,.int .i64 9223372036854775807]])=o.map rng++[[.int .i64 a,.int .i64 9223372036854775807]]:=List.take_of_length_le (by simp);simp[FinS,Arb.set,hT,F283,resAll,resM,outA,load,obRead,mk,ev,get,M.look,M.bind,M.run,Mrun_bindZ,M.ok,M.lift,M.write,shut,fzA,fz1,fzC,fz,M.mapL,S.av,notD,<-hg,take_map_len,rng]
  |false=>
   obtain⟨-,hg⟩:=hg;refine WpskipZ ?_;simp only[Ex.then];refine Wps0Z (by simp[notHp'];rfl) ?_;refine WpretZ ?_;simp[FinS,Arb.set,F283,resAll,resM,outA,load,obRead,mk,ev,get,M.look,M.bind,M.run,Mrun_bindZ,M.ok,M.lift,M.write,shut,fzA,fz1,fzC,fz,M.mapL,S.av,notD,<-hg,take_map_len]
end
def andHpD (x y:S) (o:List (Int×Int)) (t:List ByteArray):Hp:=[(1000,.cells [.iv (.bool x.a),.iv (.sl 2 (x.i.map rng)),.iv (.bool x.c),.iv (.sl 1 (x.s.map st1))]),(1064,.cells [.iv (.bool y.a),.iv (.sl 2 (y.i.map rng)),.iv (.bool y.c),.iv (.sl 1 (y.s.map st1))]),
 (1130,.buf 0 2 []),(1132,.buf 0 1 []),(1128,.cells [.iv (.bool false),.own 1130 0 0 0,.iv (.bool false),.own 1132 0 0 0]),(2026,.buf 0 2 []),(2028,.buf 0 1 []),
 (2024,.cells [.iv (.bool (x.a&&y.a)),.own 2089 0 o.length 0,.iv (.bool (x.c&&y.c)),.own 2091 0 t.length 0]),(2089,.buf 0 2 (o.map rng)),(2091,.buf 0 1 (t.map st1))]
theorem capR_len (r q:Int×Int):(capR r q).length<=1:=by unfold capR;split<;>simp
theorem capsR_len (r:Int×Int) (b:List (Int×Int)):(b.flatMap (capR r)).length<=b.length:=by have:=flat_len (c:=1) (capR_len r) b;omega
theorem caps_len (a b:List (Int×Int)):(caps a b).length<=b.length*a.length:=flat_len (c:=b.length) (λr=>capsR_len r b) a
section
variable {prog:Nat->Option IFn}
set_option maxHeartbeats 16000000 in
theorem x_and (h49:prog 49=some F49) (h282:prog 282=some F282) (h:prog 281=some F281) (x y:S) (fx:x.fine) (fy:y.fine) (hx:x.lim 1000 400) (hy:y.lim 1000 400):Ans prog 281 [x.av,y.av] (andS x y).av:=by
 rw[<-(and_all fx fy hx.k hy.k).1];have hxi:=hx.i;have hxs:=hx.s;have hyi:=hy.i;have hys:=hy.s;obtain⟨K1,hK1⟩:=x_merge h282 x.s y.s (by omega);have hJl:=mergeT_len _ x.s y.s (Nat.le_refl _);unfold andD;generalize mergeT x.s y.s=J at hK1 hJl;have hm1:y.i.length*x.i.length<=1000*1000:=Nat.mul_le_mul hyi hxi;refine Ans.of h rfl rfl (Wps0Z (by simp[S.av];rfl) ?_);refine Wps0Z (s':=⟨[(2,.ref 1000 0 0 0),(3,.ref 1064 0 0 0),(4,.ref 1128 0 0 0),(5,.ref 2024 0 0 0)],andHpD x y [] [],2152⟩) (by
  cases ha:x.a<;>cases hc:x.c<;>simp[andHpD,ha,hc]) ?_
 refine ab (WpsgZ ?_);refine WpblockZ ?_;refine WploopZ (λm s1=>∃(i:Nat),i+m=x.i.length/\s1=⟨[(2,.ref 1000 0 0 0),(3,.ref 1064 0 0 0),(4,.ref 1128 0 0 0),(5,.ref 2024 0 0 0),(6,.nI i)],andHpD x y (caps (x.i.take i) y.i) [],2216⟩) (m:=x.i.length) ⟨0,by omega,by simp[keepFr,get,caps]⟩ ?_;rintro m s1 ⟨i,him,rfl⟩;have hwi:IntKind.wrap .i64 ((i:Int)+1)=(i:Int)+1:=IntWalk.i64_in _ (by omega);have hol:(caps (x.i.take i) y.i).length<=1000000:=by
  have:=caps_len (x.i.take i) y.i;have h2:(x.i.take i).length<=1000:=by rw[List.length_take];omega
  have:=Nat.mul_le_mul hyi h2;omega
 refine ab (ab ?_);by_cases hil:i<x.i.length
 ·obtain⟨r,hr⟩:∃r,x.i[i]?=some r:=⟨_,List.getElem?_eq_getElem hil⟩;have hnext:caps (x.i.take (i+1)) y.i=caps (x.i.take i) y.i++y.i.flatMap (capR r):=take_succ_flat hr;generalize caps (x.i.take i) y.i=o0 at hol hnext;refine Wpr0Z (s':=⟨[(2,.ref 1000 0 0 0),(3,.ref 1064 0 0 0),(4,.ref 1128 0 0 0),(5,.ref 2024 0 0 0),(6,.nI i),(30,.bI true)],andHpD x y o0 [],2536⟩) (by simp[andHpD,hil]) ?_;refine WpcondZ rfl (WpskipZ (ab (WpblockZ (WpsgZ ?_))));refine WpblockZ ?_;refine WploopZ (λm s1=>∃(k:Nat),k+m=y.i.length/\s1=⟨[(2,.ref 1000 0 0 0),(3,.ref 1064 0 0 0),(4,.ref 1128 0 0 0),(5,.ref 2024 0 0 0),(6,.nI i),(7,.nI k)],andHpD x y (o0++(y.i.take k).flatMap (capR r)) [],2600⟩) (m:=y.i.length) ⟨0,by omega,by simp[keepFr,get]⟩ ?_
  rintro m2 s2 ⟨k,hkm,rfl⟩;have hwk:IntKind.wrap .i64 ((k:Int)+1)=(k:Int)+1:=IntWalk.i64_in _ (by omega);have hol2:(o0++(y.i.take k).flatMap (capR r)).length<=1001000:=by
   have:=capsR_len r (y.i.take k);have h2:(y.i.take k).length<=1000:=by rw[List.length_take];omega
   rw[List.length_append];omega
  refine ab (ab ?_);by_cases hkl:k<y.i.length
  ·obtain⟨q,hq⟩:∃q,y.i[k]?=some q:=⟨_,List.getElem?_eq_getElem hkl⟩;have hnk:o0++(y.i.take (k+1)).flatMap (capR r)=o0++(y.i.take k).flatMap (capR r)++capR r q:=by rw[take_succ_flat hq,List.append_assoc]
   generalize o0++(y.i.take k).flatMap (capR r)=o at hol2 hnk;have hr1:o.length+1<=1073741824:=by omega
   refine Wpr0Z (by simp[andHpD,hkl];rfl) ?_;refine WpcondZ rfl (WpskipZ (ab (WpblockZ (ab ?_))));refine WprgnZ (K:=0) (s':=⟨[(2,.ref 1000 0 0 0),(3,.ref 1064 0 0 0),(4,.ref 1128 0 0 0),(5,.ref 2024 0 0 0),(6,.nI i),(7,.nI k),(8,.nI (mxZ r.1 q.1)),(9,.nI (mnZ r.2 q.2))],andHpD x y o [],4712⟩) (λn _=>rgn_quiet' rfl (by
    simp[andHpD,hr,hq,rng,mxI,mnI,mxZ,mnZ])) ?_
   refine WpsgZ ?_;refine WpcondZ rfl ?_;cases hc:decide (mxZ r.1 q.1<=mnZ r.2 q.2)with
   |true=>
    have hcap:capR r q=[(mxZ r.1 q.1,mnZ r.2 q.2)]:=by unfold capR;rw[if_pos (of_decide_eq_true hc)]
    refine Wpr0Z (by simp[andHpD,setAll,app,elems,roomy,hr1,take_map_len];rfl) ?_;simp only[Ex.then,Ex.inBlock];refine Wpr0Z (by simp[hwk];rfl) ?_;refine⟨m2 - 1,by omega,k+1,by omega,?_⟩;rw[hnk,hcap];simp[again,keepFr,get,nrm_iv,nrm_refU,nrm_ownU,nrmO,andHpD,rng]
   |false=>
    have hcap:capR r q=[]:=by unfold capR;rw[if_neg (of_decide_eq_false hc)]
    refine WpskipZ ?_;simp only[Ex.then,Ex.inBlock];refine Wpr0Z (by simp[hwk];rfl) ?_;refine⟨m2 - 1,by omega,k+1,by omega,?_⟩;rw[hnk,hcap,List.append_nil];simp[again,keepFr,get,nrm_iv,nrm_refU,nrm_ownU,nrmO,andHpD]
  ·have hky:k=y.i.length:=by omega
   rw[hky,List.take_length,<-hnext];refine Wpr0Z (by simp[andHpD];rfl) ?_;refine WpcondZ rfl (WpexitZ ?_);simp only[Ex.then,Ex.inBlock,if_true];refine Wpr0Z (by simp[hwi];rfl) ?_;refine⟨m - 1,by omega,i+1,by omega,?_⟩;simp[again,keepFr,get,nrm_iv,nrm_refU,nrm_ownU,nrmO,andHpD]
 ·have hix:i=x.i.length:=by omega
  rw[hix,List.take_length]at hol ⊢;generalize caps x.i y.i=o at hol;refine Wpr0Z (by simp[andHpD];rfl) ?_;refine WpcondZ rfl (WpexitZ ?_);simp only[Ex.then,Ex.inBlock,if_true];refine WpskZ (K:=K1) (s':=⟨_,andHpD x y o [],2920⟩) (λn hn=>by
   have e1:=hK1 n hn;generalize evalF prog n=g at e1;simp[andHpD,e1];rfl) ?_
  refine ab (WpsgZ ?_);refine WpblockZ ?_;refine WploopZ (λm s1=>∃(k:Nat),k+m=J.length/\s1=⟨[(2,.ref 1000 0 0 0),(3,.ref 1064 0 0 0),(4,.ref 1128 0 0 0),(5,.ref 2024 0 0 0),(10,.iv (.sl 1 (J.map st1))),(11,.nI k)],andHpD x y o ((J.take k).filter (capT x y)),2984⟩) (m:=J.length) ⟨0,by omega,by simp[keepFr,get]⟩ ?_;rintro m3 s3 ⟨k,hkm,rfl⟩;have hwk:IntKind.wrap .i64 ((k:Int)+1)=(k:Int)+1:=IntWalk.i64_in _ (by omega);have htl:((J.take k).filter (capT x y)).length<=J.length:=filter_take_le _ _ _;refine ab (ab ?_);by_cases hkl:k<J.length
  ·have hk2:(k:Int)<J.length:=by omega
   obtain⟨s,hs'⟩:∃s,J[k]?=some s:=⟨_,List.getElem?_eq_getElem hkl⟩;have hs'':J[k]'hkl=s:=(List.getElem?_eq_some_iff.1 hs').2;have hnext:(J.take (k+1)).filter (capT x y)=(J.take k).filter (capT x y)++if capT x y s then[s] else[]:=take_succ_filter hs'
   generalize(J.take k).filter (capT x y)=t at htl hnext;have hr1:t.length+1<=1073741824:=by omega
   obtain⟨K2,hK2⟩:=p_hasT h49 x.s s (by unfold maxLen;omega);obtain⟨K3,hK3⟩:=p_hasT h49 y.s s (by unfold maxLen;omega);refine Wpr0Z (by simp[hkl];rfl) ?_;refine WpcondZ rfl (WpskipZ (ab (WpblockZ (ab ?_))));refine WprgnZ (K:=max K2 K3) (s':=⟨[(2,.ref 1000 0 0 0),(3,.ref 1064 0 0 0),(4,.ref 1128 0 0 0),(5,.ref 2024 0 0 0),(10,.iv (.sl 1 (J.map st1))),(11,.nI k),(12,.bI ((hasT x.s s != x.c)&&(hasT y.s s != y.c)))],andHpD x y o t,4712⟩) (λn hn=>rgn_quiet' rfl (by
    have e1:=hK2 n (by omega);have e2:=hK3 n (by omega);generalize evalF prog n=g at e1 e2;have ex:∀a b:Bool,(!(a==b))=(a != b):=λ_ _=>rfl
    cases h1:hasT x.s s != x.c<;>simp[andHpD,hkl,hs'',st1,e1,e2,ex,h1])) ?_
   refine Wps0Z (s':=⟨[(2,.ref 1000 0 0 0),(3,.ref 1064 0 0 0),(4,.ref 1128 0 0 0),(5,.ref 2024 0 0 0),(10,.iv (.sl 1 (J.map st1))),(11,.nI k),(113,.bI (capT x y s))],andHpD x y o t,4968⟩) (by
    have ex:∀a b:Bool,(!(a==b))=(a != b):=λ_ _=>rfl
    unfold capT;generalize((hasT x.s s != x.c)&&(hasT y.s s != y.c))=q;simp[andHpD,ex]) ?_
   refine WpcondZ rfl ?_;cases hkp:capT x y s with
   |true=>
    rw[hkp,if_pos rfl]at hnext;refine Wpr0Z (by simp[andHpD,setAll,app,elems,roomy,hkl,hs'',hr1,st1,take_map_len];rfl) ?_;simp only[Ex.then,Ex.inBlock];refine Wpr0Z (by simp[hwk];rfl) ?_;refine⟨m3 - 1,by omega,k+1,by omega,?_⟩;rw[hnext];simp[again,keepFr,get,nrm_iv,nrm_refU,nrm_ownU,nrmO,andHpD,st1]
   |false=>
    rw[hkp,if_neg Bool.false_ne_true,List.append_nil]at hnext;refine WpskipZ ?_;simp only[Ex.then,Ex.inBlock];refine Wpr0Z (by simp[hwk];rfl) ?_;refine⟨m3 - 1,by omega,k+1,by omega,?_⟩;rw[hnext];simp[again,keepFr,get,nrm_iv,nrm_refU,nrm_ownU,nrmO,andHpD]
  ·have hkJ:k=J.length:=by omega
   rw[hkJ,List.take_length];generalize J.filter (capT x y)=t;refine Wpr0Z (by simp;rfl) ?_;refine WpcondZ rfl (WpexitZ ?_);simp only[Ex.then,Ex.inBlock,if_true];refine Wps0Z (by simp[andHpD];rfl) ?_;refine WpretZ ?_;simp[FinS,Arb.set,F281,resAll,resM,outA,load,obRead,mk,ev,get,M.look,M.bind,M.run,Mrun_bindZ,M.ok,M.lift,M.write,shut,fzA,fz1,fzC,fz,M.mapL,S.av,take_map_len]
end
end Arb
namespace Arb
open Go Arx
theorem empty_in {x e:S} (hx:x.fine) (he:e.fine) (kx:in64s x.i) (ke:in64s e.i) (h1:emptyS x=false) (h2:emptyS e=true):inS x e=false:=by
 cases h:inS x e with
 |false=>rfl
 |true=>
  have e1:orS x e=e:=sameS_iff.1 h;have:=or_nonempty hx h1 (or_fine hx he kx ke).2.2;rw[e1,h2]at this;cases this
theorem empty_inB {b c:B} (hb:b.fit) (hc:c.fit) (h1:anyB emptyS b=false) (h2:anyB emptyS c=true):inB b c=false:=by
 have h3:=anyB_iff.1 h1;obtain⟨i,hi,he⟩:∃i,i<4/\emptyS (c.get i)=true:=by
  refine Classical.byContradiction λh=>?_
  have:anyB emptyS c=false:=anyB_iff.2 λi hi=>by
   cases e:emptyS (c.get i)with
   |false=>rfl
   |true=>exact absurd ⟨i,hi,e⟩ h
  rw[h2]at this;cases this
 exact inB_false h1 hi (empty_in (hb i hi).1 (hc i hi).1 (hb i hi).2.k (hc i hi).2.k (h3 i hi) he)
def needP (b:B) (pre post:List B):Bool:=pre.any (λc=>inB b c)||post.any (λc=>inB b c&&!inB c b)
def tidyP:List B->List B->List B
 |_,[]=>[]
 |pre,b::post=>(if anyB emptyS b||needP b pre post then[] else[b])++tidyP (pre++[b]) post
theorem needl_iff (l:List B) (b:B) (i:Nat):∀n,n<=l.length->(needl l b i n=true↔∃k c,k<n/\k≠i/\l[k]?=some c/\hidesB b c (decide (k<i))=true)
 |0,_=>by simp[needl]
 |n+1,hn=>by
  obtain⟨c,hc⟩:∃c,l[n]?=some c:=⟨_,List.getElem?_eq_getElem (by omega)⟩;rw[needl_succ hc,Bool.or_eq_true,needl_iff l b i n (by omega),Bool.and_eq_true,bne_iff_ne];constructor
  ·rintro(⟨k,c',h1,h2⟩|⟨h1,h2⟩)
   ·exact⟨k,c',by omega,h2⟩
   ·exact⟨n,c,by omega,h1,hc,h2⟩
  ·rintro⟨k,c',h1,h2,h3,h4⟩;by_cases hk:k=n
   ·subst hk;rw[hc]at h3;cases h3;exact .inr ⟨h2,h4⟩
   ·exact .inl ⟨k,c',by omega,h2,h3,h4⟩
theorem needl_P (pre post:List B) (b:B):needl (pre++b::post) b pre.length (pre++b::post).length=needP b pre post:=by
 rw[Bool.eq_iff_iff,needl_iff _ _ _ _ (Nat.le_refl _)];unfold needP;rw[Bool.or_eq_true,List.any_eq_true,List.any_eq_true];constructor
 ·rintro⟨k,c,h1,h2,h3,h4⟩;unfold hidesB at h4;by_cases hk:k<pre.length
  ·rw[List.getElem?_append_left hk]at h3;rw[Bool.and_eq_true]at h4;exact .inl ⟨c,List.mem_of_getElem? h3,h4.1⟩
  ·rw[List.getElem?_append_right (by omega)]at h3;obtain⟨j,hj⟩:∃j,k - pre.length=j+1:=⟨k - pre.length - 1,by omega⟩;rw[hj,List.getElem?_cons_succ]at h3;rw[decide_eq_false (by omega),Bool.false_or]at h4;exact .inr ⟨c,List.mem_of_getElem? h3,h4⟩
 ·rintro(⟨c,h1,h2⟩|⟨c,h1,h2⟩)
  ·obtain⟨k,hk,he⟩:=List.getElem_of_mem h1;refine⟨k,c,by simp;omega,by omega,by rw[List.getElem?_append_left hk,List.getElem?_eq_getElem hk,he],?_⟩;unfold hidesB;rw[h2,decide_eq_true hk];rfl
  ·obtain⟨k,hk,he⟩:=List.getElem_of_mem h1;refine⟨pre.length+(k+1),c,by simp;omega,by omega,?_,?_⟩
   ·rw[List.getElem?_append_right (by omega),show pre.length+(k+1) - pre.length=k+1 by omega,List.getElem?_cons_succ,List.getElem?_eq_getElem hk,he]
   ·unfold hidesB;rw[decide_eq_false (by omega),Bool.false_or];exact h2
theorem tidyTo_P:∀(post pre:List B),tidyTo (pre++post) (pre++post).length=tidyTo (pre++post) pre.length++tidyP pre post
 |[],pre=>by simp[tidyP]
 |b::post,pre=>by
  have h:=tidyTo_P post (pre++[b]);have hb:(pre++b::post)[pre.length]?=some b:=by rw[List.getElem?_append_right (Nat.le_refl _)];simp
  have hs:=tidyTo_succ hb;rw[needl_P]at hs;rw[List.append_assoc,List.singleton_append,@List.length_append _ pre [b],List.length_singleton,hs]at h;rw[h,tidyP,List.append_assoc]
theorem tidyF_P (l:List B):tidyF l=tidyP [] l:=by
 have:=tidyTo_P l [];simpa[tidyF,tidyTo]using this
def neB (c:B):Bool:=!anyB emptyS c
theorem any_ne {b:B} (hb:b.fit) (h:anyB emptyS b=false) (f:B->Bool):∀l:List B,(∀c ∈ l,c.fit)->(l.filter neB).any (λc=>inB b c&&f c)=l.any λc=>inB b c&&f c
 |[],_=>rfl
 |c::l,hl=>by
  have ih:=any_ne hb h f l λc hc=>hl c (List.mem_cons_of_mem _ hc)
  rw[List.any_cons,List.filter_cons];cases hc:anyB emptyS c with
  |false=>rw[if_pos (by unfold neB;rw[hc];rfl),List.any_cons,ih]
  |true=>rw[if_neg (by unfold neB;rw[hc];simp),ih,empty_inB hb (hl c (List.mem_cons_self ..)) h hc];rfl
theorem tidyP_ne:∀(l pre:List B),(∀c ∈ pre,c.fit)->(∀c ∈ l,c.fit)->tidyP (pre.filter neB) (l.filter neB)=tidyP pre l
 |[],_,_,_=>rfl
 |b::post,pre,hp,hl=>by
  have hb:=hl b (List.mem_cons_self ..);have ih:=tidyP_ne post (pre++[b]) (λc hc=>(List.mem_append.1 hc).elim (hp c) λh=>by rw[List.mem_singleton.1 h];exact hb) λc hc=>hl c (List.mem_cons_of_mem _ hc)
  rw[List.filter_append]at ih;rw[tidyP,List.filter_cons];cases he:anyB emptyS b with
  |true=>
   rw[if_neg (by unfold neB;rw[he];simp),Bool.true_or,if_pos rfl,List.nil_append,<-ih];congr 1;rw[List.filter_cons,if_neg (by unfold neB;rw[he];simp),List.filter_nil,List.append_nil]
  |false=>
   have h1:=any_ne hb he (λ_=>true) pre hp;have h2:=any_ne hb he (λc=>!inB c b) post λc hc=>hl c (List.mem_cons_of_mem _ hc)
   simp only[Bool.and_true]at h1;rw[if_pos (by unfold neB;rw[he];rfl),tidyP,he];have:needP b (pre.filter neB) (post.filter neB)=needP b pre post:=by unfold needP;rw[h1,h2]
   rw[this];congr 1;rw[<-ih];congr 1;rw[List.filter_cons,if_pos (by unfold neB;rw[he];rfl),List.filter_nil]
theorem tidy_ne {l:List B} (h:∀b ∈ l,b.fit):tidyF (l.filter neB)=tidyF l:=by
 rw[tidyF_P,tidyF_P];exact tidyP_ne l [] (λc hc=>by cases hc) h
def andBD (x y:B):B:=⟨andD x.s0 y.s0,andD x.s1 y.s1,andD x.s2 y.s2,andD x.s3 y.s3⟩
def B.fine (b:B):Prop:=∀i,i<4->(b.get i).fine/\in64s (b.get i).i
theorem B.fit.fine {b:B} (h:b.fit):b.fine:=λi hi=>⟨(h i hi).1,(h i hi).2.k⟩
theorem andB_fine {x y:B} (hx:x.fine) (hy:y.fine):andBD x y=andB x y/\(andB x y).fine:=by
 have h0:=and_all (hx 0 (by omega)).1 (hy 0 (by omega)).1 (hx 0 (by omega)).2 (hy 0 (by omega)).2;have h1:=and_all (hx 1 (by omega)).1 (hy 1 (by omega)).1 (hx 1 (by omega)).2 (hy 1 (by omega)).2;have h2:=and_all (hx 2 (by omega)).1 (hy 2 (by omega)).1 (hx 2 (by omega)).2 (hy 2 (by omega)).2;have h3:=and_all (hx 3 (by omega)).1 (hy 3 (by omega)).1 (hx 3 (by omega)).2 (hy 3 (by omega)).2;refine⟨?_,λi hi=>?_⟩
 ·show B.mk _ _ _ _=B.mk _ _ _ _
  rw[show andD x.s0 y.s0=andS x.s0 y.s0 from h0.1,show andD x.s1 y.s1=andS x.s1 y.s1 from h1.1,show andD x.s2 y.s2=andS x.s2 y.s2 from h2.1,show andD x.s3 y.s3=andS x.s3 y.s3 from h3.1]
 ·match i,hi with
  |0,_=>exact h0.2
  |1,_=>exact h1.2
  |2,_=>exact h2.2
  |3,_=>exact h3.2
def prodD (a b:List B):List B:=a.flatMap λx=>b.map (andB x)
theorem prodF_D (a b:List B):prodF a b=(prodD a b).filter neB:=by
 unfold prodF prodD;rw[List.filter_flatMap];rfl
theorem allS_fine:allS.fine/\in64s allS.i:=by
 refine⟨⟨⟨λp hp=>?_,List.pairwise_singleton _ _⟩,List.Pairwise.nil,λt ht=>by cases ht⟩,λp hp=>?_⟩
 ·simp[allS]at hp;subst hp;simp
 ·simp[allS]at hp;subst hp;unfold in64;omega
theorem put_fine {b:B} {s:S} (hb:b.fine) (hs:s.fine/\in64s s.i) (i:Nat):(b.put i s).fine:=by
 intro j hj;unfold B.put;have h0:=hb 0 (by omega);have h1:=hb 1 (by omega);have h2:=hb 2 (by omega);have h3:=hb 3 (by omega);split<;>(match j,hj with
  |0,_=>first | exact hs | exact h0
  |1,_=>first | exact hs | exact h1
  |2,_=>first | exact hs | exact h2
  |3,_=>first | exact hs | exact h3)
theorem allBx_fine:allBx.fine:=λi hi=>match i,hi with
 |0,_=>allS_fine
 |1,_=>allS_fine
 |2,_=>allS_fine
 |3,_=>allS_fine
theorem nextB_fine {both:Bool} {l m:List B} (hl:∀b ∈ l,b.fine) (hm:∀b ∈ m,b.fine):∀b ∈ nextB both l m,b.fine:=by
 intro b hb;unfold nextB at hb;split at hb
 ·obtain⟨x,hx,y,hy,rfl⟩:=prodF_mem (tidyF_mem hb);exact(andB_fine (hl x hx) (hm y hy)).2
 ·exact(List.mem_append.1 (tidyF_mem hb)).elim (hl b) (hm b)
theorem one_right {a:Int} {s:S} {sub:List Xp} (h:oneX (.mk 1 a s sub)=true):rightS s=true:=by
 unfold oneX at h;simp only[if_true,Bool.and_eq_true]at h;exact h.2.2.2.1
theorem boxes_fine {x:Xp} (hx:x.ok):∀neg,allX x=true->∀b ∈ (boxesX neg x).1,b.fine:=by
 induction hx with
 |@mk k a s sub hk ha hs hl hsub ih=>
  intro neg hall;obtain⟨hall1,hone⟩:=allX_mk hall;unfold boxesX;by_cases k1:k=1
  ·subst k1;simp only[if_true];have hsf:=(rightS_iff hs.ri).1 (one_right hone);intro b hb;have:=tidyF_mem hb;simp only[List.mem_singleton]at this;subst this;refine put_fine allBx_fine ?_ _;cases neg
   ·exact⟨hsf,hs.ri⟩
   ·exact⟨(notS_fine hsf hs.ri).1,not64 hs.ri⟩
  ·simp only[if_neg k1];by_cases k4:k=4
   ·subst k4;simp only[if_true];obtain⟨x,rfl⟩:=one_not hone;unfold boxes1;exact ih x (by simp) (!neg) (hall1 x (by simp))
   ·simp only[if_neg k4];generalize(decide (k=2) != neg)=both;have key:∀(r:List Xp) (l:List B),(∀x ∈ r,x ∈ sub)->(∀b ∈ l,b.fine)->∀b ∈ (boxesL neg both r l).1,b.fine:=by
     intro r
     induction r with
     |nil=>
      intro l _ h1;unfold boxesL;exact h1
     |cons x r ihr=>
      intro l hr h1;unfold boxesL;split
      ·exact λb hb=>by simp at hb
      ·split
       ·exact λb hb=>by simp at hb
       ·exact ihr _ (λy hy=>hr y (by simp[hy])) (nextB_fine h1 (ih x (hr x (by simp)) neg (hall1 x (hr x (by simp)))))
    exact key sub _ (λx hx=>hx) (λb hb=>by
     split at hb
     ·simp only[List.mem_singleton]at hb;subst hb;exact allBx_fine
     ·simp at hb)
theorem fit_of {b:B} {n m:Nat} (h1:b.fine) (h2:b.lim n m) (hn:n<=1000) (hm:m<=400):b.fit:=λi hi=>⟨(h1 i hi).1,(h2 i hi).mono hn hm⟩
def nextD (both:Bool) (l m:List B):List B:=tidyF (if both then prodD l m else l++m)
theorem nextD_eq {both:Bool} {l m:List B} {q1 k1 q2 k2:Nat} (fl:∀b ∈ l,b.fine) (fm:∀b ∈ m,b.fine) (hL:∀b ∈ l,b.lim q1 k1) (hM:∀b ∈ m,b.lim q2 k2) (hq:q1+q2+3<=1000) (hk:k1+k2<=400):nextD both l m=nextB both l m:=by
 unfold nextD nextB;cases both with
 |false=>rfl
 |true=>
  simp only[if_true];rw[prodF_D];refine(tidy_ne λb hb=>?_).symm;obtain⟨x,hx,hb⟩:=List.mem_flatMap.1 hb;obtain⟨y,hy,rfl⟩:=List.mem_map.1 hb;exact fit_of (andB_fine (fl x hx) (fm y hy)).2 (andB_lim (hL x hx) (hM y hy)) hq hk
mutual
def dep:Xp->Nat
 |.mk _ _ _ sub=>depL sub+1
def depL:List Xp->Nat
 |[]=>0
 |x::l=>max (dep x) (depL l)
end
theorem cntL_len:∀l:List Xp,l.length<=cntL l
 |[]=>by simp
 |x::l=>by have:=cntL_len l;have:=cnt_pos x;rw[cntL_cons,List.length_cons];omega
mutual
theorem meas_ok:∀(x:Xp) (left:Nat) (p:Int),(meas left x p).2.2=true↔p+cnt x<=40/\dep x<=left
 |.mk k a s sub,left,p=>by
  unfold meas cnt dep;split
  ·rename_i h;simp;omega
  ·rename_i h;rw[measL_ok sub (left - 1) (p+1) 0 (by omega)];omega
theorem measL_ok:∀(l:List Xp) (left:Nat) (p d:Int),p<=40->((measL left l p d).2.2=true↔p+cntL l<=40/\depL l<=left)
 |[],left,p,d,hp=>by unfold measL cntL depL;simp;omega
 |x::l,left,p,d,hp=>by
  have hx:=meas_ok x left p;unfold measL depL;rw[cntL_cons];split
  ·rename_i hok;have h1:=meas_cnt x left p hok;have h2:=hx.1 hok;rw[measL_ok l left _ _ (by rw[h1];omega),h1];omega
  ·rename_i hok;have:¬(p+cnt x<=40/\dep x<=left):=λh=>hok (hx.2 h)
   simp only[Bool.false_eq_true,false_iff];omega
end
mutual
theorem count_eq:∀(x:Xp) (d:Int),x.count d<100->x.count d=cnt x
 |.mk k a s sub,d,h=>by
  unfold Xp.count cnt at *;split at h
  ·omega
  ·rename_i hd;rw[if_neg hd];split at h
   ·omega
   ·rename_i h1;rw[if_neg h1];rw[counts_eq sub (d+1) 1 (by omega) h];omega
theorem counts_eq:∀(l:List Xp) (d n:Int),0<=n->Xp.counts d l n<100->Xp.counts d l n=n+cntL l
 |[],d,n,_,h=>by unfold Xp.counts cntL;simp
 |x::l,d,n,hn0,h=>by
  have hx:=count_eq x d;unfold Xp.counts at *;rw[cntL_cons];split at h
  ·rename_i hn;rw[if_pos hn];have h2:=counts_eq l d (n+x.count d) (by omega) h;rw[h2]at h ⊢;rw[hx (by omega)];omega
  ·omega
end
mutual
theorem count_le:∀(x:Xp) (d:Int),d+dep x<=21->x.count d<=cnt x
 |.mk k a s sub,d,h=>by
  unfold dep at h;unfold Xp.count cnt;rw[if_neg (by omega)];have:=counts_le sub (d+1) 1 (by omega);split<;>omega
theorem counts_le:∀(l:List Xp) (d n:Int),d+depL l<=21->Xp.counts d l n<=n+cntL l
 |[],d,n,h=>by unfold Xp.counts cntL;simp
 |x::l,d,n,h=>by
  unfold depL at h;unfold Xp.counts;rw[cntL_cons];have h1:=count_le x d (by omega);have h2:=counts_le l d (n+x.count d) (by omega);split<;>omega
end
mutual
theorem deep_le:∀(x:Xp) (d:Int),d+dep x<=21->x.deep d<=dep x
 |.mk k a s sub,d,h=>by
  unfold dep at h;unfold Xp.deep dep;rw[if_neg (by omega)];have:=deeps_le sub (d+1) 100 0 (by omega);split<;>omega
theorem deeps_le:∀(l:List Xp) (d:Int) (k:Nat) (n:Int),d+depL l<=21->Xp.deeps d k l n<=max n (depL l)
 |[],d,k,n,h=>by unfold Xp.deeps depL;omega
 |x::l,d,0,n,h=>by unfold Xp.deeps;omega
 |x::l,d,k+1,n,h=>by
  unfold depL at h ⊢;unfold Xp.deeps;have h1:=deep_le x d (by omega);have h3:(if x.deep d > n then x.deep d else n)=max n (x.deep d):=by split<;>omega
  rw[h3];have h2:=deeps_le l d k (max n (x.deep d)) (by omega);omega
end
mutual
theorem dep_le:∀(x:Xp) (d:Int),cnt x<=100->x.deep d<20->(dep x:Int)<=x.deep d
 |.mk k a s sub,d,hc,h=>by
  unfold cnt at hc;unfold Xp.deep dep at *;split at h
  ·omega
  ·rename_i hd;rw[if_neg hd];split at h
   ·omega
   ·rename_i h1;rw[if_neg h1];have:=depL_le sub (d+1) 100 0 (by have:=cntL_len sub;omega) (by omega) (by omega);omega
theorem depL_le:∀(l:List Xp) (d:Int) (k:Nat) (n:Int),l.length<=k->cntL l<=100->Xp.deeps d k l n<20->n<=Xp.deeps d k l n/\(depL l:Int)<=max (Xp.deeps d k l n) 0
 |[],d,k,n,hk,hc,h=>by unfold Xp.deeps depL;omega
 |x::l,d,0,n,hk,hc,h=>by simp at hk
 |x::l,d,k+1,n,hk,hc,h=>by
  rw[cntL_cons]at hc;have hx:=dep_le x d (by omega);unfold depL;unfold Xp.deeps at h ⊢;have h2:=depL_le l d k (if x.deep d > n then x.deep d else n) (by simpa using hk) (by omega) h;have h3:(if x.deep d > n then x.deep d else n)=max n (x.deep d):=by split<;>omega
  rw[h3]at h h2 ⊢;omega
end
def fitsX (x:Xp):Bool:=decide (x.count 0<=40)&&decide (x.deep 0<=8)
theorem fits_eq (x:Xp):fitsX x=decide (0<(sizeX x).1):=by
 have h1:fitsX x=(meas 8 x 0).2.2:=by
  rw[Bool.eq_iff_iff,meas_ok];unfold fitsX;rw[Bool.and_eq_true,decide_eq_true_eq,decide_eq_true_eq];constructor
  ·rintro⟨h1,h2⟩;have e:=count_eq x 0 (by omega);have:=dep_le x 0 (by omega) (by omega);omega
  ·rintro⟨h1,h2⟩;have:=count_le x 0 (by omega);have:=deep_le x 0 (by omega);omega
 rw[h1];unfold sizeX;cases h:(meas 8 x 0).2.2 with
 |false=>simp
 |true=>
  have h2:=meas_cnt x 8 0 h;have:=cnt_pos x;rw[if_pos rfl,h2];exact(decide_eq_true (by show(0:Int)<0+cnt x;omega)).symm
end Arb
namespace Arb
open Go Arx
attribute [local simp] evalRgn Option.map_some evalOps step wants osem Mrun_bindZ M.mapL M.run M.ok M.fresh M.write M.look M.lift putD Arb.set ev Arb.get keepFr bin intBin strBin mk params cellsM load obRead fadr fld isl iarr xarr idx len valid slc bound store splice nilc un eqs eq0 evalFeet footOf M.foot orderOk apartAll apart1 clash meets callM fcallM callee fz1 fzC fz flat flat1 flat0 flatI Option.bind_some putAll M.bind
theorem Xp.cs_mk (k a:Int) (s:S) (sub:List Xp):(Xp.mk k a s sub).cs=[.nI k,.nI a,.bI s.a,.iv (.sl 2 (s.i.map rng)),.bI s.c,.iv (.sl 1 (s.s.map st1)),.iv (.sl 7 (sub.map Xp.enc))]:=by
 simp[Xp.cs,Xp.enc,Xp.encs_map,S.enc]
section
variable {prog:Nat->Option IFn}
set_option maxHeartbeats 4000000 in
theorem x_each (h41:prog 41=some F41) (h105:prog 105=some F105) (h106:prog 106=some F106) (h:prog 168=some F168) {x:Xp} (hx:x.ok):Ans prog 168 [x.av] (.bI (allX x)):=by
 induction hx with
 |@mk k a s sub hk ha hs hl _ ih=>
  have hall:allX (Xp.mk k a s sub)=(sub.all allX&&oneX (Xp.mk k a s sub)):=by conv=>lhs;unfold allX;rw[allXL_all]
  have hone:oneX (Xp.mk k a s sub)=if k=1 then decide (0<=a)&&(decide (a<4)&&(decide (sub.length=0)&&(rightS s&&smallS s))) else if k=2\/k=3 then plainX a s else if k=4 then plainX a s&&decide (sub.length=1) else false:=rfl
  have hcs:=Xp.cs_mk k a s sub;obtain⟨K1,hK1⟩:=p_rightS3 h105 s hs;obtain⟨K2,hK2⟩:=p_smallS3 h106 s;obtain⟨K3,hK3⟩:=p_same3 h41 s noS hs.li hs.ls;simp only[S.av]at hK1 hK2 hK3;generalize hX:Xp.mk k a s sub=X at hall hone hcs;have hsub:X.sub=sub:=by rw[<-hX];rfl
  refine Ans.of h rfl rfl (Wps0Z (by simp[Xp.av,Xp.cs_nilc];rfl) ?_);refine ab (Wp.mono (Q:=λe st=>(e = .norm/\oneX X=true/\∃c v nx,c≠3/\1000<nx/\st=⟨[(1,.ref 1000 0 0 0),(c,v)],[(1000,.cells X.cs)],nx⟩)\/(e = .ret/\oneX X=false/\FinS F168.res (.bI false) .ret st)) (ab ?_) ?_)
  ·refine Wpr0Z (s':=⟨[(1,.ref 1000 0 0 0),(5,.nI k)],[(1000,.cells X.cs)],1256⟩) (by simp[hcs]) ?_;refine WpblockZ (Wps0Z (by simp;rfl) ?_);refine WpcondZ rfl ?_;cases k1:k==1 with
   |true=>
    have k1':k=1:=by simpa using k1
    rw[if_pos k1']at hone;refine WpskZ (K:=max K1 K2) (s':=⟨[(1,.ref 1000 0 0 0),(33,.bI (!oneX X))],[(1000,.cells X.cs)],3048⟩) (λn hn=>by
     have e1:=hK1 n (by omega);have e2:=hK2 n (by omega);generalize evalF prog n=g at e1 e2;rw[hone];have q1:decide (a<0)=!decide (0<=a):=by by_cases hh:0<=a<;>simp[hh]<;>omega
     have q2:decide (3<a)=!decide (a<4):=by by_cases hh:a<4<;>simp[hh]<;>omega
     cases c1:decide (0<=a)with
     |false=>simp[hcs,q1,c1]
     |true=>
      cases c2:decide (a<4)with
      |false=>simp[hcs,q1,q2,c1,c2]
      |true=>
       cases sub with
       |cons y r=>simp[hcs,q1,q2,c1,c2]
       |nil=>cases c4:rightS s<;>rw[c4]at e1<;>simp[hcs,q1,q2,c1,c2,e1,e2]) ?_
    refine WpcondZ rfl ?_;cases ho:oneX X with
    |true=>exact WpskipZ (.inl ⟨rfl,rfl,_,_,_,by decide,by omega,rfl⟩)
    |false=>
     refine WpsgZ ?_;exact WpretZ (.inr ⟨rfl,rfl,rfl⟩)
   |false=>
    have k1':¬k=1:=by simpa using k1
    rw[if_neg k1']at hone;refine ab (Wp.mono (Q:=λe st=>e = .norm/\∃fr nx,1000<nx/\Arb.get fr 1=some (.ref 1000 0 0 0)/\Arb.get fr 34=some (.bI (k==2||(k==3||k==4)))/\st=⟨fr,[(1000,.cells X.cs)],nx⟩) (ab ?_) ?_)
    ·refine Wpr0Z (by simp;rfl) ?_;refine WpcondZ rfl ?_;cases k2:k==2 with
     |true=>exact WpskipZ ⟨rfl,_,_,by omega,rfl,rfl,rfl⟩
     |false=>
      refine Wps0Z (by simp;rfl) ?_;refine WpcondZ rfl ?_;cases k3:k==3 with
      |true=>exact WpskipZ ⟨rfl,_,_,by omega,rfl,rfl,rfl⟩
      |false=>
       refine Wpr0Z (by simp;rfl) ?_;exact⟨rfl,_,_,by omega,rfl,rfl,rfl⟩
    ·rintro e st ⟨rfl,fr,nx,hnx,g1,g34,rfl⟩;refine WpcondZ (t:=(k==2||(k==3||k==4))) (by simp[ev,g34]) ?_;cases kk:(k==2||(k==3||k==4))with
     |false=>
      simp only[Bool.false_eq_true,if_false];have:oneX X=false:=by
       rw[hone];simp only[Bool.or_eq_false_iff,beq_eq_false_iff_ne]at kk;rw[if_neg (by omega),if_neg (by omega)]
      refine Wps0Z (by simp[Arb.get_set];rfl) ?_;exact WpretZ (.inr ⟨rfl,this,rfl⟩)
     |true=>
      simp only[if_true];refine ab ?_;have hv:oneX X=(plainX a s&&(!(k==4)||decide (sub.length=1))):=by
       rw[hone];simp only[Bool.or_eq_true,beq_iff_eq]at kk;by_cases k4:k=4
       ·subst k4;simp
       ·have:k=2\/k=3:=by omega
        rw[if_pos this];simp[k4]
      refine WprgnZ (K:=K3) (s':=⟨[(1,.ref 1000 0 0 0),(58,.bI (!oneX X))],[(1000,.cells X.cs)],nx+1344⟩) (λn hn=>by
       have e1:=hK3 n hn;simp only[noS,List.map_nil]at e1;generalize evalF prog n=g at e1;rw[hv];unfold plainX;have hl1:((sub.length:Int)==1)=decide (sub.length=1):=by by_cases hh:sub.length=1<;>simp[hh];omega
       have hl2:((sub.length:Int) != 1)=!decide (sub.length=1):=by rw[<-hl1];rfl
       have d1:(a != 0)=!(a==0):=rfl;cases c1:a==0 with
       |false=>simp[Arb.get_set,hcs,g1,d1,c1]
       |true=>
        cases c2:sameS s noS<;>simp only[noS]at c2<;>rw[c2]at e1
        ·simp[Arb.get_set,hcs,g1,d1,c1,e1,noS,c2]
        ·cases c3:k==4<;>simp[Arb.get_set,hcs,g1,d1,c1,e1,noS,c2,c3,hl2]) ?_
      refine WpcondZ rfl ?_;cases ho:oneX X with
      |true=>exact WpskipZ (.inl ⟨rfl,rfl,_,_,_,by decide,by omega,rfl⟩)
      |false=>
       refine WpsgZ ?_;exact WpretZ (.inr ⟨rfl,rfl,rfl⟩)
  ·rintro e st (⟨rfl,ho,c,v,nx,hc3,hnx,rfl⟩|⟨rfl,ho,hf⟩)
   ·rw[ho,Bool.and_true]at hall;refine ab (Wps0Z (by simp[hc3];rfl) ?_);refine WpblockZ (WprangeZ sub.length (λi=>⟨[(1,.ref 1000 0 0 0),(3,.nI i)],[(1000,.cells X.cs)],nx+64⟩)
     (λi=>(sub.take i).all allX=true) (by simp[keepFr,get]) (by simp) ?_ ?_)
    ·intro i hi hg;have hx:sub[i]?=some sub[i]:=List.getElem?_eq_getElem hi;obtain⟨K,hK⟩:=ih sub[i] (List.getElem_mem _);refine ab (ab ?_);refine WprgnZ (K:=0) (λn' _=>by simp[X.cs_sub,hsub,hi];rfl) ?_;refine WpcondZ (t:=true) rfl (WpskipZ (ab (WpblockZ (ab ?_))));refine WprgnZ (K:=K) (λn' hn'=>by
      have hc':=hK n' hn';simp only[Xp.av]at hc';simp[X.cs_sub,hsub,hx,Xp.take_enc,Xp.take_enc2,Xp.len_enc,Xp.cs_len,Xp.cs_fzC,hc'];rfl) ?_
     cases hsx:allX sub[i]with
     |false=>
      refine WpcondZ (t:=true) rfl (WpsgZ ?_);refine WpretZ ?_;rw[hall,all_false hx hsx];rfl
     |true=>
      refine WpcondZ (t:=false) rfl (WpskipZ ?_);refine Wpr0Z (by simp[wrap_succ hi hl];rfl) ?_;refine⟨by simp[again,keepFr,get,nrm_iv,nrm_ref0 (show 1000<nx+64 by omega),show 1000<nx+64 by omega,nrmO,Xp.cs_nrm],?_⟩;rw[take_succ_all hx,hg,hsx];rfl
    ·intro hg;refine ab (ab ?_);refine WprgnZ (K:=0) (λn' _=>by simp[X.cs_sub,hsub];rfl) ?_;refine WpcondZ (t:=false) rfl (WpexitZ ?_);simp only[Ex.then,Ex.inBlock,if_true];refine WpsgZ ?_;refine WpretZ ?_;rw[List.take_length]at hg;rw[hall,hg];rfl
   ·rw[ho,Bool.and_false]at hall;rw[hall];exact hf
set_option maxHeartbeats 1000000 in
theorem x_fits (h169:prog 169=some F169) (h170:prog 170=some F170) (h:prog 167=some F167) {x:Xp} (hx:x.ok):Ans prog 167 [x.av] (.bI (fitsX x)):=by
 obtain⟨K1,hK1⟩:=p_count h169 hx 0 (by omega) (by omega);obtain⟨K2,hK2⟩:=p_deep h170 hx 0 (by omega) (by omega);refine Ans.of h rfl rfl (Wps0Z (by simp[Xp.av,Xp.cs_nilc];rfl) ?_);refine WpskZ (K:=max K1 K2) (s':=⟨[(2,.bI (fitsX x))],[(1000,.cells x.cs)],1704⟩) (λn hn=>by
  have e1:=hK1 n (by omega);have e2:=hK2 n (by omega);simp only[Xp.av]at e1 e2;generalize evalF prog n=g at e1 e2;unfold fitsX;cases c1:decide (x.count 0<=40)<;>simp[Xp.cs_7,Xp.cs_len,Xp.cs_fzC,e1,e2,c1]) ?_
 exact WpretZ rfl
theorem x_rightX (h41:prog 41=some F41) (h105:prog 105=some F105) (h106:prog 106=some F106) (h168:prog 168=some F168) (h169:prog 169=some F169) (h170:prog 170=some F170) (h167:prog 167=some F167) (h:prog 166=some F166) {x:Xp} (hx:x.ok):Ans prog 166 [x.av] (.bI (rightX x)):=by
 obtain⟨K1,hK1⟩:=x_fits h169 h170 h167 hx;obtain⟨K2,hK2⟩:=x_each h41 h105 h106 h168 hx;refine Ans.of h rfl rfl (Wps0Z (by simp[Xp.av,Xp.cs_nilc];rfl) ?_);refine WpskZ (K:=max K1 K2) (s':=⟨[(2,.bI (rightX x))],[(1000,.cells x.cs)],1576⟩) (λn hn=>by
  have e1:=hK1 n (by omega);have e2:=hK2 n (by omega);simp only[Xp.av]at e1 e2;generalize evalF prog n=g at e1 e2;unfold rightX;rw[<-fits_eq];cases c1:fitsX x<;>rw[c1]at e1<;>simp[Xp.cs_7,Xp.cs_len,Xp.cs_fzC,e1,e2]) ?_
 exact WpretZ rfl
end
def andHpB (_x y:B) (cs:List AV):Hp:=[(1000,.cells cs),(1064,.cells y.cs),(1130,.buf 0 2 []),(1132,.buf 0 1 []),(1134,.buf 0 2 []),(1136,.buf 0 1 []),(1138,.buf 0 2 []),(1140,.buf 0 1 []),(1142,.buf 0 2 []),(1144,.buf 0 1 []),(1128,.cells (zeroCs 1128))]
section
variable {prog:Nat->Option IFn}
set_option maxHeartbeats 8000000 in
theorem x_andB (h49:prog 49=some F49) (h282:prog 282=some F282) (h281:prog 281=some F281) (h:prog 279=some F279) (x y:B) (hx:x.fit) (hy:y.fit):Ans prog 279 [x.av,y.av] (andB x y).av:=by
 refine Ans.of h rfl rfl (Wps0Z (s':=⟨[(2,.ref 1000 0 0 0),(3,.ref 1064 0 0 0),(4,.ref 1128 0 0 0)],andHpB x y x.cs,1192⟩) (by simp[B.av,B.cs_nilc,andHpB,zeroCs]) ?_);refine ab (WpsgZ ?_);refine WpblockZ ?_;refine WprangeZ 4 (λi=>⟨[(2,.ref 1000 0 0 0),(3,.ref 1064 0 0 0),(4,.ref 1128 0 0 0),(5,.nI i)],andHpB x y ((andB x y).cs.take (i*4)++x.cs.drop (i*4)),1256⟩) (λ_=>True) (by simp[keepFr,get]) trivial ?_ ?_
 ·intro i hi _;have hi4:(i:Int)<4:=by omega
  obtain⟨K,hK⟩:=x_and h49 h282 h281 (x.get i) (y.get i) (hx i hi).1 (hy i hi).1 (hx i hi).2 (hy i hi).2;refine ab (Wps0Z (by simp[hi4,hi];rfl) ?_);refine WpcondZ rfl (WpskipZ (ab (WpblockZ ?_)));refine WprgnZ (K:=K) (s':=⟨[(2,.ref 1000 0 0 0),(3,.ref 1064 0 0 0),(4,.ref 1128 0 0 0),(5,.nI i)],andHpB x y ((andB x y).cs.take ((i+1)*4)++x.cs.drop ((i+1)*4)),2024⟩) (λn hn=>by
   have e1:=hK n (by omega);generalize evalF prog n=g at e1;have hxa:(((andB x y).cs.take (i*4)++x.cs.drop (i*4)).drop (i*4)).take 4=[.iv (.bool (x.get i).a),.iv (.sl 2 ((x.get i).i.map rng)),.iv (.bool (x.get i).c),.iv (.sl 1 ((x.get i).s.map st1))]:=by
    match i,hi with
    |0,_=>rfl
    |1,_=>rfl
    |2,_=>rfl
    |3,_=>rfl
   have hya:=B.cs_at y hi;have hz:splice ((andB x y).cs.take (i*4)++x.cs.drop (i*4)) (i*4) [.iv (.bool (andS (x.get i) (y.get i)).a),.iv (.sl 2 ((andS (x.get i) (y.get i)).i.map rng)),.iv (.bool (andS (x.get i) (y.get i)).c),.iv (.sl 1 ((andS (x.get i) (y.get i)).s.map st1))] =
     (andB x y).cs.take ((i+1)*4)++x.cs.drop ((i+1)*4):=by
    match i,hi with
    |0,_=>rfl
    |1,_=>rfl
    |2,_=>rfl
    |3,_=>rfl
   have hzl:((andB x y).cs.take (i*4)++x.cs.drop (i*4)).length=16:=by
    match i,hi with
    |0,_=>rfl
    |1,_=>rfl
    |2,_=>rfl
    |3,_=>rfl
   simp only[S.av]at e1;have hm:i*4+4<=16:=by omega
   generalize(andB x y).cs.take (i*4)++x.cs.drop (i*4)=zs at hz hzl hxa;simp[-fzC, -fz,andHpB,hi4,hi,hxa,hya,B.cs_len,fzC,fz,e1,hzl,hm];simpa[splice]using hz) ?_
  simp only[Ex.then,Ex.inBlock];refine Wpr0Z (by simp[wrap_lt4 hi];rfl) ?_;refine⟨?_,trivial⟩
  match i,hi with
  |0,_=>simp[again,keepFr,get,nrm_iv,nrm_refU,nrm_ownU,nrmO,andHpB,B.cs_nrm,zeroCs,B.cs,B.enc,S.enc]
  |1,_=>simp[again,keepFr,get,nrm_iv,nrm_refU,nrm_ownU,nrmO,andHpB,B.cs_nrm,zeroCs,B.cs,B.enc,S.enc]
  |2,_=>simp[again,keepFr,get,nrm_iv,nrm_refU,nrm_ownU,nrmO,andHpB,B.cs_nrm,zeroCs,B.cs,B.enc,S.enc]
  |3,_=>simp[again,keepFr,get,nrm_iv,nrm_refU,nrm_ownU,nrmO,andHpB,B.cs_nrm,zeroCs,B.cs,B.enc,S.enc]
 ·intro _;refine ab (WpsgZ ?_);refine WpcondZ rfl (WpexitZ ?_);simp only[Ex.then,Ex.inBlock,if_true];refine ab ?_;have h16:(andB x y).cs.take (4*4)++x.cs.drop (4*4)=(andB x y).cs:=rfl;rw[h16];have hzz:(zeroCs 1128).length=16:=rfl;refine WprgnZ (K:=0) (s':=⟨[(4,.ref 1128 0 0 0)],[(1000,.cells (andB x y).cs),(1064,.cells y.cs),(1130,.buf 0 2 []),(1132,.buf 0 1 []),(1134,.buf 0 2 []),(1136,.buf 0 1 []),(1138,.buf 0 2 []),(1140,.buf 0 1 []),(1142,.buf 0 2 []),(1144,.buf 0 1 []),(1128,.cells (andB x y).cs)],1512⟩) (λn _=>by
   have hp:splice (zeroCs 1128) 0 (andB x y).cs=(andB x y).cs:=B.put_all _ _ hzz;simp[-fzC, -fz, -splice,andHpB,B.cs_16,B.cs_len,B.cs_nilc,hp,hzz]) ?_
  refine WpretZ ?_;simp[FinS,F279,resAll,resM,outA,load,obRead,mk,ev,get,M.look,M.bind,M.run,Mrun_bindZ,M.ok,M.lift,shut,fzA,fz1,B.cs_16,B.cs_len,B.cs_fzC,B.av]
end
structure LibD (prog:Nat->Option IFn):Prop extends In6 prog where
 h41:prog 41=some F41
 h164:prog 164=some F164
 h165:prog 165=some F165
 h166:prog 166=some F166
 h167:prog 167=some F167
 h168:prog 168=some F168
 h169:prog 169=some F169
 h170:prog 170=some F170
 h279:prog 279=some F279
 h281:prog 281=some F281
 h282:prog 282=some F282
 h283:prog 283=some F283
 hAll:Ans prog 280 [] allBx.av
theorem put_put (b:B) (i:Nat) (s t:S):(b.put i s).put i t=b.put i t:=by
 match i with
 |0=>rfl
 |1=>rfl
 |2=>rfl
 |_+3=>rfl
theorem fit_atom {a:Int} {s:S} {sub:List Xp} (hs:s.ok) (h:oneX (.mk 1 a s sub)=true) (neg:Bool) (i:Nat):(allBx.put i (if neg then notS s else s)).fit:=by
 obtain⟨-, -,hsm⟩:=one_atom h;have hsf:=(rightS_iff hs.ri).1 (one_right h);refine fit_of (put_fine allBx_fine ?_ i) (allBx_put_lim hs hsm neg i) (by omega) (by omega);cases neg
 ·exact⟨hsf,hs.ri⟩
 ·exact⟨(notS_fine hsf hs.ri).1,not64 hs.ri⟩
def atHp (cs:List AV) (b:List AV):Hp:=[(1000,.cells cs),(1064,.buf 0 16 []),(1514,.buf 0 2 []),(1516,.buf 0 1 []),(1518,.buf 0 2 []),(1520,.buf 0 1 []),(1522,.buf 0 2 []),(1524,.buf 0 1 []),(1526,.buf 0 2 []),(1528,.buf 0 1 []),(1512,.cells b)]
section
variable {prog:Nat->Option IFn}
def atomBlk:IC:=match F165.body with
 |.seq _ (.seq (.seq _ (.block _ (.seq _ (.cond _ a _)))) _)=>a
 |_=>.skip
set_option maxHeartbeats 8000000 in
theorem x_atomB (L:LibD prog) {a:Int} {s:S} {sub:List Xp} (hs:s.ok) (h:oneX (.mk 1 a s sub)=true) (neg:Bool) (fr:Fr) (hfr:fr=[(1,.bI neg),(2,.ref 1000 0 0 0),(16,.nI 1),(17,.bI true)]) :
  Wp prog atomBlk ⟨fr,[(1000,.cells (Xp.mk 1 a s sub).cs),(1064,.buf 0 16 [])],1448⟩ (λe st=>e = .ret/\FinS F165.res (.tup [filt (tidyF [allBx.put a.toNat (if neg then notS s else s)]),.bI true]) .ret st):=by
 subst hfr;obtain⟨h0,h4,hsm⟩:=one_atom h;obtain⟨i,rfl⟩:∃i:Nat,a=i:=⟨a.toNat,by omega⟩;have hi:i<4:=by omega
 have hi4:(i:Int)<4:=by omega
 have hm:i*4+4<=16:=by omega
 have hfit:=fit_atom hs h neg i;obtain⟨K1,hK1⟩:=L.hAll;have hcs:=Xp.cs_mk 1 i s sub;have hsf:=(rightS_iff hs.ri).1 (one_right h);have hl:=okL hs hsm;obtain⟨K2,hK2⟩:=x_not L.h283 s hsf hs.ri (by have:=hl.i;omega) (by have:=hl.s;omega);obtain⟨K3,hK3⟩:=x_tidy L.toIn6 [allBx.put i (if neg then notS s else s)] (by simp) (λb hb=>by rw[List.mem_singleton.1 hb];exact hfit);simp only[Int.toNat_natCast];generalize(Xp.mk 1 i s sub).cs=cs at hcs;simp only[B.av]at hK1;simp only[S.av]at hK2;have hpc:=B.put_cs allBx hi s;have hal:=B.cs_len allBx;have ha16:=B.cs_16 allBx;have hafz:=B.cs_fzC allBx;unfold atomBlk F165
 refine WpskZ (K:=K1) (s':=⟨[(1,.bI neg),(2,.ref 1000 0 0 0),(6,.ref 1512 0 0 0)],atHp cs allBx.cs,1640⟩) (λn hn=>by
  have e1:=hK1 n (by omega);generalize evalF prog n=g at e1;have hnc:=B.cs_nilc allBx;generalize allBx.cs=ac at e1 hal hnc;simp[atHp,e1,hal,hnc]) ?_
 refine Wps0Z (s':=⟨[(1,.bI neg),(2,.ref 1000 0 0 0),(6,.ref 1512 0 0 0)],atHp cs (allBx.put i s).cs,2024⟩) (by
  generalize allBx.cs=ac at hpc hal;generalize(allBx.put i s).cs=bc at hpc;simp only[splice]at hpc;simp[-fzC, -fz, -splice,atHp,hcs,hi4,hm,hal];simpa[splice]using hpc) ?_
 cases neg with
 |false=>
  simp only[Bool.false_eq_true,if_false]at hK3 ⊢;refine ab (WpsgZ ?_);refine WpcondZ rfl (WpskipZ (ab ?_));have b16:=B.cs_16 (allBx.put i s);have bfz:=B.cs_fz (allBx.put i s);have bln:=B.cs_len (allBx.put i s);simp only[filt,List.map_cons,List.map_nil]at hK3;refine WprgnZ (K:=K3) (λn hn=>by
   have e1:=hK3 n (by omega);generalize evalF prog n=g at e1;simp[-fzC, -fz,atHp,setAll,b16,bln,bfz,e1,fzC_own];rfl) ?_
  exact WpretZ ⟨rfl,rfl⟩
 |true=>
  simp only[if_true]at hK3 ⊢;refine ab (WpsgZ ?_);refine WpcondZ rfl ?_;have hpn:=B.put_cs (allBx.put i s) hi (notS s);rw[put_put]at hpn;have bln0:=B.cs_len (allBx.put i s);refine WprgnZ (K:=K2) (s':=⟨[(6,.ref 1512 0 0 0)],atHp cs (allBx.put i (notS s)).cs,2536⟩) (λn hn=>by
   have e1:=hK2 n (by omega);generalize evalF prog n=g at e1;generalize(allBx.put i s).cs=ac at hpn bln0;generalize(allBx.put i (notS s)).cs=bc at hpn;simp only[splice]at hpn;simp[-fzC, -fz, -splice,atHp,hcs,hi4,hm,bln0,fzC,fz,e1];simpa[splice]using hpn) ?_
  simp only[Ex.then];refine ab ?_;have b16:=B.cs_16 (allBx.put i (notS s));have bfz:=B.cs_fz (allBx.put i (notS s));have bln:=B.cs_len (allBx.put i (notS s));simp only[filt,List.map_cons,List.map_nil]at hK3;refine WprgnZ (K:=K3) (λn hn=>by
   have e1:=hK3 n (by omega);generalize evalF prog n=g at e1;simp[-fzC, -fz,atHp,setAll,b16,bln,bfz,e1,fzC_own];rfl) ?_
  exact WpretZ ⟨rfl,rfl⟩
end
def loopBlk:IC:=match F165.body with
 |.seq _ (.seq _ (.seq _ (.seq _ (.seq _ x))))=>x
 |_=>.skip
def resB (p:List B×Int):AV:=.tup [filt p.1,.iv (.bool (p.2==0))]
def YU (y:AV) (l:List B):Prop:=(y = .own 1576 0 0 0/\l=[])\/y = .iv (.sl 16 (l.map B.enc))
structure Sofar (sub:List Xp) (i:Nat) (l:List B):Prop where
 f:∀b ∈ l,b.fine
 m:∀b ∈ l,b.lim (1+10*cntL (sub.take i)) (6*cntL (sub.take i))
 n:l.length<=16
theorem cntL_take_le (sub:List Xp) (i:Nat):cntL (sub.take i)<=cntL sub:=by have:=cntL_drop sub i;omega
theorem Sofar.next {sub:List Xp} {i:Nat} {l:List B} (h:Sofar sub i l) {both neg:Bool} {x:Xp} (hx:sub[i]?=some x) (ho:x.ok) (ha:allX x=true) (hc:cntL sub<=39) :
  nextD both l (boxesX neg x).1=nextB both l (boxesX neg x).1/\(∀b ∈ (if both then prodD l (boxesX neg x).1 else l++(boxesX neg x).1),b.fit)/\(∀b ∈ (boxesX neg x).1,b.fit)/\(∀b ∈ l,b.fit)/\(boxesX neg x).1.length<=16/\
   ((nextB both l (boxesX neg x).1).length<=16->Sofar sub (i+1) (nextB both l (boxesX neg x).1)):=by
 obtain⟨m1,m2⟩:=boxes_lim ho neg ha;have m3:=boxes_fine ho neg ha;have ht:=cntL_take hx;have hle:=cntL_take_le sub (i+1);have hp:=cnt_pos x;generalize(boxesX neg x).1=m at *;have hl:=h.m;refine⟨nextD_eq h.f m3 h.m m1 (by omega) (by omega),λb hb=>?_,λb hb=>fit_of (m3 b hb) (m1 b hb) (by omega) (by omega),λb hb=>fit_of (h.f b hb) (hl b hb) (by omega) (by omega),m2,λhn=>⟨nextB_fine h.f m3,?_,hn⟩⟩
 ·cases both with
  |true=>
   simp only[if_true]at hb;obtain⟨x',hx',hb⟩:=List.mem_flatMap.1 hb;obtain⟨y,hy,rfl⟩:=List.mem_map.1 hb;exact fit_of (andB_fine (h.f x' hx') (m3 y hy)).2 (andB_lim (hl x' hx') (m1 y hy)) (by omega) (by omega)
  |false=>
   simp only[Bool.false_eq_true,if_false]at hb;rcases List.mem_append.1 hb with hb | hb
   ·exact fit_of (h.f b hb) (hl b hb) (by omega) (by omega)
   ·exact fit_of (m3 b hb) (m1 b hb) (by omega) (by omega)
 ·intro b hb;have:=nextB_lim (both:=both) hl m1 b hb;rw[ht];exact limM this (by omega) (by omega)
section
variable {prog:Nat->Option IFn}
set_option maxHeartbeats 8000000 in
theorem x_union (L:LibD prog) (X:Xp) {sub:List Xp} (hsub:X.sub=sub) (neg:Bool) (hl:sub.length<=maxLen) (hok:∀x ∈ sub,x.ok) (hall:∀x ∈ sub,allX x=true) (hc:cntL sub<=39)
  (ih:∀x ∈ sub,Ans prog 165 [x.av,.bI neg] (resB (boxesX neg x))) (v:AV) :
  Wp prog loopBlk ⟨[(1,.bI neg),(2,.ref 1000 0 0 0),(7,.own 1576 0 0 0),(8,.bI false),(61,v)],[(1000,.cells X.cs),(1064,.buf 0 16 []),(1576,.buf 0 16 [])],2728⟩ (FinS F165.res (resB (boxesL neg false sub []))):=by
 generalize hR:boxesL neg false sub []=R;unfold loopBlk F165;refine ab (WpsgZ ?_);refine WpblockZ ?_;refine WploopZ (λm s1=>∃(i:Nat) (y:AV) (l:List B),i+m=sub.length/\YU y l/\Sofar sub i l/\boxesL neg false (sub.drop i) l=R/\
  s1=⟨[(1,.bI neg),(2,.ref 1000 0 0 0),(7,y),(8,.bI false),(9,.nI i)],[(1000,.cells X.cs),(1064,.buf 0 16 []),(1576,.buf 0 16 [])],2792⟩) (m:=sub.length)
  ⟨0,.own 1576 0 0 0,[],by omega,.inl ⟨rfl,rfl⟩,⟨λb hb=>(by cases hb),λb hb=>(by cases hb),by simp⟩,hR,by simp[keepFr,get]⟩ ?_
 rintro m s1 ⟨i,y,l,him,hy,hs,hb,rfl⟩;refine ab (ab ?_);by_cases hil:i<sub.length
 ·obtain⟨x,hx⟩:∃x,sub[i]?=some x:=⟨_,List.getElem?_eq_getElem hil⟩;have hxm:=List.mem_of_getElem? hx;obtain⟨hnx,hft,hfm,hfl,hml,hnext⟩:=hs.next (both:=false) (neg:=neg) hx (hok x hxm) (hall x hxm) hc;rw[drop_cons hx]at hb;unfold boxesL at hb;obtain⟨K1,hK1⟩:=ih x hxm;simp only[Bool.false_eq_true,if_false]at hft;unfold nextD at hnx;simp only[Bool.false_eq_true,if_false]at hnx;have hln:=hs.n;have hll:(l++(boxesX neg x).1).length=l.length+(boxesX neg x).1.length:=List.length_append;obtain⟨K2,hK2⟩:=x_tidy L.toIn6 (l++(boxesX neg x).1) (by omega) hft;rw[hnx]at hK2;have hT16:(nextB false l (boxesX neg x).1).length<=32:=by
   have:=tidyF_len (l++(boxesX neg x).1);rw[hnx]at this;omega
  generalize nextB false l (boxesX neg x).1=N at hK2 hb hnext hT16;unfold resB at hK1;generalize boxesX neg x=bx at *;obtain⟨bm,be⟩:=bx;simp only[]at *;refine Wpr0Z (by simp[X.cs_sub,hsub,hil];rfl) ?_;refine WpcondZ rfl (WpskipZ (ab (WpblockZ (WpskZ (K:=K1) (λn hn=>by
   have e1:=hK1 n hn;simp only[Xp.av]at e1;generalize evalF prog n=g at e1;simp[X.cs_sub,hsub,hx,Xp.take_enc,Xp.take_enc2,Xp.len_enc,Xp.cs_len,Xp.cs_fzC,e1];rfl) ?_))))
  refine ab (WpsgZ ?_);refine WpcondZ rfl ?_;cases hbe:be==0 with
  |false=>
   have hbe':be≠0:=by simpa using hbe
   rw[if_pos hbe']at hb;refine WpsgZ ?_;refine WpretZ ?_
   show FinS F165.res _ .ret _
   rw[<-hb];simp[FinS,F165,resB,filt,hbe,resAll,resM,outA,ev,get,M.look,M.bind,M.run,Mrun_bindZ,M.mapL,M.ok,shut,fzA,fz1,fzC,fz,M.write,M.lift]
  |true=>
   have hbe':¬be≠0:=by simpa using hbe
   rw[if_neg hbe']at hb;refine WpskipZ (ab (WpsgZ ?_));refine WpcondZ rfl ?_;have hr1:l.length<=1073741824:=by omega
   have hr2:l.length+bm.length<=1073741824:=by omega
   have hr3:bm.length<=1073741824:=by omega
   refine Wpr0Z (s':=⟨[(1,.bI neg),(2,.ref 1000 0 0 0),(7,.own 4072 0 (l.length+bm.length) 2),(8,.bI false),(9,.nI i)],[(1000,.cells X.cs),(1064,.buf 0 16 []),(1576,.buf 0 16 []),(4072,.buf 2 16 ((l++bm).map B.enc))],4456⟩) (by
    rcases hy with⟨rfl,rfl⟩|rfl
    ·simp[filt,setAll,app,elems,roomy,hr1,hr2,hr3,take_map_len]
    ·simp[filt,setAll,app,elems,roomy,hr1,hr2,hr3,take_map_len]) ?_
   simp only[Ex.then];refine ab ?_;have htk:List.take (l.length+bm.length) ((l++bm).map B.enc)=(l++bm).map B.enc:=List.take_of_length_le (by simp);refine WprgnZ (K:=K2) (s':=⟨[(1,.bI neg),(2,.ref 1000 0 0 0),(7,filt N),(8,.bI false),(9,.nI i)],[(1000,.cells X.cs),(1064,.buf 0 16 []),(1576,.buf 0 16 []),(4072,.imm 2 16 ((l++bm).map B.enc))],4648⟩) (λn hn=>by
    have e1:=hK2 n hn;simp only[filt]at e1;generalize evalF prog n=g at e1;generalize(l++bm).map B.enc=rows at e1 htk;simp[-fzC, -fz,fzC_own,htk,e1,filt]) ?_
   refine ab ?_;have h16:decide ((16:Int)<(N.length:Int))=decide (16<N.length):=decide_eq_decide.2 (by omega);refine Wpr0Z (by simp[filt,h16];rfl) ?_;refine WpcondZ rfl ?_;cases hN:decide (16<N.length)with
   |true=>
    rw[if_pos (of_decide_eq_true hN)]at hb;refine WpsgZ ?_;refine WpretZ ?_
    show FinS F165.res _ .ret _
    rw[<-hb];simp[FinS,F165,resB,filt,resAll,resM,outA,ev,get,M.look,M.bind,M.run,Mrun_bindZ,M.mapL,M.ok,shut,fzA,fz1,fzC,fz,M.write,M.lift]
   |false=>
    rw[if_neg (of_decide_eq_false hN)]at hb;refine WpskipZ ?_;simp only[Ex.then,Ex.inBlock];refine Wpr0Z (by simp[wrap_succ hil hl];rfl) ?_;exact⟨m - 1,by omega,i+1,filt N,N,by omega,.inr rfl,hnext (by have:=of_decide_eq_false hN;omega),hb,by simp[again,keepFr,get,nrm_iv,nrm_refU,nrm_ownU,nrmO,Xp.cs_nrm,filt]⟩
 ·have hd:sub.drop i=[]:=List.drop_eq_nil_of_le (by omega);rw[hd]at hb;unfold boxesL at hb;refine Wpr0Z (s':=⟨[(1,.bI neg),(2,.ref 1000 0 0 0),(7,y),(8,.bI false),(9,.nI i),(68,.bI false)],[(1000,.cells X.cs),(1064,.buf 0 16 []),(1576,.buf 0 16 [])],3112⟩) (by simp[X.cs_sub,hsub];omega) ?_;refine WpcondZ rfl (WpexitZ ?_);simp only[Ex.then,Ex.inBlock,if_true];refine WpsgZ ?_;refine WpretZ ?_
  show FinS F165.res _ .ret _
  rw[<-hb];rcases hy with⟨rfl,rfl⟩|rfl
  ·simp[FinS,F165,resB,filt,resAll,resM,outA,ev,get,M.look,M.bind,M.run,Mrun_bindZ,M.mapL,M.ok,shut,fzA,fz1,fzC,fz,M.write,M.lift]
  ·simp[FinS,F165,resB,filt,resAll,resM,outA,ev,get,M.look,M.bind,M.run,Mrun_bindZ,M.mapL,M.ok,shut,fzA,fz1,fzC,fz,M.write,M.lift]
end
def YP (y:AV) (l:List B):Prop:=(y = .own 2792 0 1 0/\l=[allBx])\/y = .iv (.sl 16 (l.map B.enc))
theorem prodD_take {l:List B} {j:Nat} {b:B} (m:List B) (h:l[j]?=some b):prodD (l.take (j+1)) m=prodD (l.take j) m++m.map (andB b):=take_succ_flat h
theorem prodD_len (l m:List B):(prodD l m).length<=m.length*l.length:=flat_len (c:=m.length) (λx=>by simp) l
section
variable {prog:Nat->Option IFn}
set_option maxHeartbeats 8000000 in
theorem x_prod (L:LibD prog) (X:Xp) {sub:List Xp} (hsub:X.sub=sub) (neg:Bool) (hl:sub.length<=maxLen) (hok:∀x ∈ sub,x.ok) (hall:∀x ∈ sub,allX x=true) (hc:cntL sub<=39)
  (ih:∀x ∈ sub,Ans prog 165 [x.av,.bI neg] (resB (boxesX neg x))) :
  Wp prog loopBlk ⟨[(1,.bI neg),(2,.ref 1000 0 0 0),(7,.own 2792 0 1 0),(8,.bI true)],[(1000,.cells X.cs),(1064,.buf 0 16 []),(1576,.buf 0 16 []),(2792,.buf 0 16 [allBx.enc])],2920⟩ (FinS F165.res (resB (boxesL neg true sub [allBx]))):=by
 generalize hR:boxesL neg true sub [allBx]=R;unfold loopBlk F165;refine ab (WpsgZ ?_);refine WpblockZ ?_;refine WploopZ (λm s1=>∃(i:Nat) (y:AV) (l:List B),i+m=sub.length/\YP y l/\Sofar sub i l/\boxesL neg true (sub.drop i) l=R/\
  s1=⟨[(1,.bI neg),(2,.ref 1000 0 0 0),(7,y),(8,.bI true),(9,.nI i)],[(1000,.cells X.cs),(1064,.buf 0 16 []),(1576,.buf 0 16 []),(2792,.buf 0 16 [allBx.enc])],2984⟩) (m:=sub.length)
  ⟨0,.own 2792 0 1 0,[allBx],by omega,.inl ⟨rfl,rfl⟩,⟨λb hb=>by rw[List.mem_singleton.1 hb];exact allBx_fine,λb hb=>by rw[List.mem_singleton.1 hb];exact limM allBx_lim (by omega) (by omega),by simp⟩,hR,by simp[keepFr,get]⟩ ?_
 rintro m s1 ⟨i,y,l,him,hy,hs,hb,rfl⟩;refine ab (ab ?_);by_cases hil:i<sub.length
 ·obtain⟨x,hx⟩:∃x,sub[i]?=some x:=⟨_,List.getElem?_eq_getElem hil⟩;have hxm:=List.mem_of_getElem? hx;obtain⟨hnx,hft,hfm,hfl,hml,hnext⟩:=hs.next (both:=true) (neg:=neg) hx (hok x hxm) (hall x hxm) hc;rw[drop_cons hx]at hb;unfold boxesL at hb;obtain⟨K1,hK1⟩:=ih x hxm;simp only[if_true]at hft;unfold nextD at hnx;simp only[if_true]at hnx;have hln:=hs.n;have hll:(prodD l (boxesX neg x).1).length<=256:=by
   have:=prodD_len l (boxesX neg x).1;have:=Nat.mul_le_mul hml hs.n;omega
  obtain⟨K2,hK2⟩:=x_tidy L.toIn6 (prodD l (boxesX neg x).1) (by omega) hft;rw[hnx]at hK2;have hT16:(nextB true l (boxesX neg x).1).length<=256:=by
   have:=tidyF_len (prodD l (boxesX neg x).1);rw[hnx]at this;omega
  generalize nextB true l (boxesX neg x).1=N at hK2 hb hnext hT16;unfold resB at hK1;generalize boxesX neg x=bx at *;obtain⟨bm,be⟩:=bx;simp only[]at *;refine Wpr0Z (by simp[X.cs_sub,hsub,hil];rfl) ?_;refine WpcondZ rfl (WpskipZ (ab (WpblockZ (WpskZ (K:=K1) (λn hn=>by
   have e1:=hK1 n hn;simp only[Xp.av]at e1;generalize evalF prog n=g at e1;simp[X.cs_sub,hsub,hx,Xp.take_enc2,Xp.len_enc,Xp.cs_fzC,e1];rfl) ?_))))
  refine ab (WpsgZ ?_);refine WpcondZ rfl ?_;cases hbe:be==0 with
  |false=>
   have hbe':be≠0:=by simpa using hbe
   rw[if_pos hbe']at hb;refine WpsgZ ?_;refine WpretZ ?_
   show FinS F165.res _ .ret _
   rw[<-hb];simp[FinS,F165,resB,filt,hbe,resAll,resM,outA,ev,get,M.look,M.bind,M.run,Mrun_bindZ,M.mapL,M.ok,shut,fzA,fz1,fzC,fz,M.write,M.lift]
  |true=>
   have hbe':¬be≠0:=by simpa using hbe
   rw[if_neg hbe']at hb;refine WpskipZ (ab (WpsgZ ?_));have hlm:l.length<=maxLen:=by unfold maxLen;omega
   have hbm:bm.length<=maxLen:=by unfold maxLen;omega
   refine WpcondZ rfl (WpsgZ ?_);refine ab (WpsgZ ?_);refine WpblockZ ?_;refine WploopZ (λm s1=>∃(j:Nat) (o:List B),j+m=l.length/\o=prodD (l.take j) bm/\s1=⟨[(1,.bI neg),(2,.ref 1000 0 0 0),(7,y),(8,.bI true),(9,.nI i),(10,filt bm),(12,.own 4264 0 o.length 0),(13,.nI j)],[(1000,.cells X.cs),(1064,.buf 0 16 []),(1576,.buf 0 16 []),(2792,.buf 0 16 [allBx.enc]),(4264,.buf 0 16 (o.map B.enc))],4392⟩) (m:=l.length)
    ⟨0,[],by omega,rfl,by simp[keepFr,get]⟩ ?_
   rintro m4 s4 ⟨j,o,hjm,ho,rfl⟩;refine ab (ab ?_);by_cases hjl:j<l.length
   ·obtain⟨bj,hbj⟩:∃b,l[j]?=some b:=⟨_,List.getElem?_eq_getElem hjl⟩;have hnj:=prodD_take bm hbj;rw[<-ho]at hnj;have hol:o.length<=256:=by
     have:=prodD_len (l.take j) bm;have h2:(l.take j).length<=16:=by rw[List.length_take];omega
     have:=Nat.mul_le_mul hml h2;rw[ho];omega
    refine Wpr0Z (s':=⟨[(1,.bI neg),(2,.ref 1000 0 0 0),(7,y),(8,.bI true),(9,.nI i),(10,filt bm),(12,.own 4264 0 o.length 0),(13,.nI j),(87,.bI true)],[(1000,.cells X.cs),(1064,.buf 0 16 []),(1576,.buf 0 16 []),(2792,.buf 0 16 [allBx.enc]),(4264,.buf 0 16 (o.map B.enc))],4648⟩) (by
     rcases hy with⟨rfl,rfl⟩|rfl
     ·have:j=0:=by simp at hjl;omega
      subst this;simp
     ·simp[hjl]) ?_
    refine WpcondZ rfl (WpskipZ (ab (WpblockZ (WpsgZ ?_))));refine WpblockZ ?_;clear ho;generalize ho0:o=o0 at hnj hol;refine WploopZ (λm s1=>∃(k:Nat) (o:List B),k+m=bm.length/\o=o0++(bm.take k).map (andB bj)/\s1=⟨[(1,.bI neg),(2,.ref 1000 0 0 0),(7,y),(8,.bI true),(9,.nI i),(10,filt bm),(12,.own 4264 0 o.length 0),(13,.nI j),(14,.nI k)],[(1000,.cells X.cs),(1064,.buf 0 16 []),(1576,.buf 0 16 []),(2792,.buf 0 16 [allBx.enc]),(4264,.buf 0 16 (o.map B.enc))],4712⟩) (m:=bm.length)
     ⟨0,o0,by omega,by simp,by simp[keepFr,get]⟩ ?_
    rintro m5 s5 ⟨k,o,hkm,hok2,rfl⟩;refine ab (ab ?_);by_cases hkl:k<bm.length
    ·obtain⟨bk,hbk⟩:∃b,bm[k]?=some b:=⟨_,List.getElem?_eq_getElem hkl⟩;have hol2:o.length<=512:=by
      rw[hok2,List.length_append,List.length_map,List.length_take];omega
     have hr1:o.length+1<=1073741824:=by omega
     have hnk:o0++(bm.take (k+1)).map (andB bj)=o++[andB bj bk]:=by rw[hok2,List.take_add_one,hbk];simp
     obtain⟨K5,hK5⟩:=x_andB L.h49 L.h282 L.h281 L.h279 bj bk (hfl bj (List.mem_of_getElem? hbj)) (hfm bk (List.mem_of_getElem? hbk));refine Wpr0Z (by simp[filt,hkl];rfl) ?_;refine WpcondZ rfl (WpskipZ (ab (WpblockZ ?_)));refine WprgnZ (K:=K5) (s':=⟨[(1,.bI neg),(2,.ref 1000 0 0 0),(7,y),(8,.bI true),(9,.nI i),(10,filt bm),(12,.own 4264 0 (o.length+1) 1),(13,.nI j),(14,.nI k)],[(1000,.cells X.cs),(1064,.buf 0 16 []),(1576,.buf 0 16 []),(2792,.buf 0 16 [allBx.enc]),(4264,.buf 1 16 (o.map B.enc++[(andB bj bk).enc])),(5608,.buf 0 16 [(andB bj bk).enc])],5800⟩) (λn hn=>by
      have e1:=hK5 n hn;simp only[B.av]at e1;generalize evalF prog n=g at e1;have hal:=B.cs_len (andB bj bk);have hafz:=B.cs_fz (andB bj bk);rcases hy with⟨rfl,rfl⟩|rfl
      ·have:j=0:=by simp at hjl;omega
       subst this;simp only[List.getElem?_cons_zero,Option.some.injEq]at hbj;subst hbj;generalize(andB allBx bk).cs=ac at e1 hal hafz;simp[-fzC, -fz,filt,hbk,B.enc_take,B.enc_len,B.enc_cs,B.cs_16,B.cs_fzC,B.cs_len,e1,setAll,app,elems,roomy,hr1,take_map_len,hal,hafz]
      ·generalize(andB bj bk).cs=ac at e1 hal hafz;simp[-fzC, -fz,filt,hbj,hbk,B.enc_take,B.enc_len,B.enc_cs,B.cs_fzC,e1,setAll,app,elems,roomy,hr1,take_map_len,hal,hafz]) ?_
     simp only[Ex.then,Ex.inBlock];refine Wpr0Z (by simp[wrap_succ hkl hbm];rfl) ?_;refine⟨m5 - 1,by omega,k+1,o++[andB bj bk],by omega,hnk.symm,?_⟩;rcases hy with⟨rfl,rfl⟩|rfl
     ·simp[again,keepFr,get,nrm_iv,nrm_refU,nrm_ownU,nrmO,Xp.cs_nrm,filt]
     ·simp[again,keepFr,get,nrm_iv,nrm_refU,nrm_ownU,nrmO,Xp.cs_nrm,filt]
    ·have hkb:k=bm.length:=by omega
     rw[hkb,List.take_length,<-hnj]at hok2;refine Wpr0Z (s':=⟨[(1,.bI neg),(2,.ref 1000 0 0 0),(7,y),(8,.bI true),(9,.nI i),(10,filt bm),(12,.own 4264 0 o.length 0),(13,.nI j),(14,.nI k),(93,.bI false)],[(1000,.cells X.cs),(1064,.buf 0 16 []),(1576,.buf 0 16 []),(2792,.buf 0 16 [allBx.enc]),(4264,.buf 0 16 (o.map B.enc))],4968⟩) (by simp[filt];omega) ?_;refine WpcondZ rfl (WpexitZ ?_);simp only[Ex.then,Ex.inBlock,if_true];refine Wpr0Z (by simp[wrap_succ hjl hlm];rfl) ?_;refine⟨m4 - 1,by omega,j+1,o,by omega,hok2,?_⟩;rcases hy with⟨rfl,rfl⟩|rfl
     ·simp[again,keepFr,get,nrm_iv,nrm_refU,nrm_ownU,nrmO,Xp.cs_nrm,filt]
     ·simp[again,keepFr,get,nrm_iv,nrm_refU,nrm_ownU,nrmO,Xp.cs_nrm,filt]
   ·have hjl2:j=l.length:=by omega
    rw[hjl2,List.take_length]at ho;refine Wpr0Z (s':=⟨[(1,.bI neg),(2,.ref 1000 0 0 0),(7,y),(8,.bI true),(9,.nI i),(10,filt bm),(12,.own 4264 0 o.length 0),(13,.nI j),(87,.bI false)],[(1000,.cells X.cs),(1064,.buf 0 16 []),(1576,.buf 0 16 []),(2792,.buf 0 16 [allBx.enc]),(4264,.buf 0 16 (o.map B.enc))],4648⟩) (by
     rcases hy with⟨rfl,rfl⟩|rfl
     ·simp at hjl2;subst hjl2;simp
     ·simp;omega) ?_
    refine WpcondZ rfl (WpexitZ ?_);simp only[Ex.then,Ex.inBlock,if_true];refine WprgZ ?_;refine ab ?_;rw[<-ho]at hK2;have htk:List.take o.length (o.map B.enc)=o.map B.enc:=List.take_of_length_le (by simp);refine WprgnZ (K:=K2) (s':=⟨[(1,.bI neg),(2,.ref 1000 0 0 0),(7,filt N),(8,.bI true),(9,.nI i)],[(1000,.cells X.cs),(1064,.buf 0 16 []),(1576,.buf 0 16 []),(2792,.buf 0 16 [allBx.enc]),(4264,.imm 0 16 (o.map B.enc))],4968⟩) (λn hn=>by
     have e1:=hK2 n hn;simp only[filt]at e1;generalize evalF prog n=g at e1;generalize o.map B.enc=rows at e1 htk;simp[-fzC, -fz,fzC_own,htk,e1,filt]) ?_
    refine ab ?_;have h16:decide ((16:Int)<(N.length:Int))=decide (16<N.length):=decide_eq_decide.2 (by omega);refine Wpr0Z (by simp[filt,h16];rfl) ?_;refine WpcondZ rfl ?_;cases hN:decide (16<N.length)with
    |true=>
     rw[if_pos (of_decide_eq_true hN)]at hb;refine WpsgZ ?_;refine WpretZ ?_
     show FinS F165.res _ .ret _
     rw[<-hb];simp[FinS,F165,resB,filt,resAll,resM,outA,ev,get,M.look,M.bind,M.run,Mrun_bindZ,M.mapL,M.ok,shut,fzA,fz1,fzC,fz,M.write,M.lift]
    |false=>
     rw[if_neg (of_decide_eq_false hN)]at hb;refine WpskipZ ?_;simp only[Ex.then,Ex.inBlock];refine Wpr0Z (by simp[wrap_succ hil hl];rfl) ?_;exact⟨m - 1,by omega,i+1,filt N,N,by omega,.inr rfl,hnext (by have:=of_decide_eq_false hN;omega),hb,by simp[again,keepFr,get,nrm_iv,nrm_refU,nrmO,Xp.cs_nrm,filt]⟩
 ·have hd:sub.drop i=[]:=List.drop_eq_nil_of_le (by omega);rw[hd]at hb;unfold boxesL at hb;refine Wpr0Z (s':=⟨[(1,.bI neg),(2,.ref 1000 0 0 0),(7,y),(8,.bI true),(9,.nI i),(68,.bI false)],[(1000,.cells X.cs),(1064,.buf 0 16 []),(1576,.buf 0 16 []),(2792,.buf 0 16 [allBx.enc])],3304⟩) (by simp[X.cs_sub,hsub];omega) ?_;refine WpcondZ rfl (WpexitZ ?_);simp only[Ex.then,Ex.inBlock,if_true];refine WpsgZ ?_;refine WpretZ ?_
  show FinS F165.res _ .ret _
  rw[<-hb];rcases hy with⟨rfl,rfl⟩|rfl
  ·simp[FinS,F165,resB,filt,resAll,resM,outA,ev,get,M.look,M.bind,M.run,Mrun_bindZ,M.mapL,M.ok,shut,fzA,fz1,fzC,fz,M.write,M.lift]
  ·simp[FinS,F165,resB,filt,resAll,resM,outA,ev,get,M.look,M.bind,M.run,Mrun_bindZ,M.mapL,M.ok,shut,fzA,fz1,fzC,fz,M.write,M.lift]
end
section
variable {prog:Nat->Option IFn}
set_option maxHeartbeats 4000000 in
theorem x_boxes (L:LibD prog) {x:Xp} (hx:x.ok):∀neg,allX x=true->cnt x<=40->Ans prog 165 [x.av,.bI neg] (resB (boxesX neg x)):=by
 induction hx with
 |@mk k a s sub hk ha hs hl hsub ih=>
  intro neg hall hcnt;obtain⟨hall1,hone⟩:=allX_mk hall;have hcX:cnt (.mk k a s sub)=1+cntL sub:=by conv=>lhs;unfold cnt
  rw[hcX]at hcnt;have hcle:∀z ∈ sub,cnt z<=40:=λz hz=>by
   obtain⟨j,hj,he⟩:=List.getElem_of_mem hz;have:=cntL_take (sub:=sub) (i:=j) (x:=z) (by rw[List.getElem?_eq_getElem hj,he]);have:=cntL_take_le sub (j+1);omega
  have hbx:boxesX neg (.mk k a s sub)=if k=1 then(tidyF [allBx.put a.toNat (if neg then notS s else s)],0) else if k=4 then boxes1 (!neg) sub else boxesL neg (decide (k=2) != neg) sub (if decide (k=2) != neg then[allBx] else[]):=by conv=>lhs;unfold boxesX
  have hcs:=Xp.cs_mk k a s sub;have hat:=fun(e:k=1)=>x_atomB L (a:=a) (s:=s) (sub:=sub) hs (by rw[<-e];exact hone) neg _ rfl
  generalize hX:Xp.mk k a s sub=X at hbx hcs;have hsubX:X.sub=sub:=by rw[<-hX];rfl
  generalize hR:boxesX neg X=R at hbx ⊢;refine Ans.of L.h165 rfl rfl (Wps0Z (by simp[Xp.av,Xp.cs_nilc];rfl) ?_);refine ab (Wps0Z (s':=⟨[(1,.bI neg),(2,.ref 1000 0 0 0),(16,.nI k)],[(1000,.cells X.cs),(1064,.buf 0 16 [])],1320⟩) (by simp[hcs]) ?_);refine WpblockZ (Wps0Z (by simp;rfl) ?_);refine WpcondZ rfl ?_;cases k1:k==1 with
  |true=>
   have k1':k=1:=by simpa using k1
   rw[if_pos k1']at hbx;subst k1';have:=hat rfl;rw[hX]at this;refine Wp.mono this ?_;rintro e st ⟨rfl,hf⟩
   show FinS F165.res _ .ret _
   rw[hbx];exact hf
  |false=>
   have k1':¬k=1:=by simpa using k1
   rw[if_neg k1']at hbx;refine Wps0Z (by simp;rfl) ?_;refine WpcondZ rfl ?_;cases k4:k==4 with
   |true=>
    have k4':k=4:=by simpa using k4
    rw[if_pos k4']at hbx;obtain⟨z,rfl⟩:=one_not (by rw[<-k4'];exact hone);unfold boxes1 at hbx;obtain⟨K,hK⟩:=ih z (by simp) (!neg) (hall1 z (by simp)) (hcle z (by simp));unfold resB at hK;refine WpskZ (K:=K) (λn hn=>by
     have e1:=hK n hn;simp only[Xp.av]at e1;rw[<-hbx]at e1;generalize evalF prog n=g at e1;simp[X.cs_sub,hsubX,Xp.take_enc,Xp.take_enc2,Xp.len_enc,Xp.cs_len,Xp.cs_fzC,e1];rfl) ?_
    refine WpretZ ?_
    show FinS F165.res _ .ret _
    simp[FinS,F165,resB,filt,resAll,resM,outA,ev,get,M.look,M.bind,M.run,Mrun_bindZ,M.mapL,M.ok,shut,fzA,fz1,fzC,fz,M.write,M.lift]
   |false=>
    have k4':¬k=4:=by simpa using k4
    rw[if_neg k4']at hbx;have k23:k=2\/k=3:=by
     unfold oneX at hone;simp only[]at hone;rw[if_neg k1']at hone;by_cases h:k=2\/k=3
     ·exact h
     ·rw[if_neg h,if_neg k4']at hone;cases hone
    refine WpskipZ ?_;simp only[Ex.then,Ex.inBlock];refine WpsgZ ?_;refine Wps0Z (s':=⟨[(1,.bI neg),(2,.ref 1000 0 0 0),(7,.own 1576 0 0 0),(8,.bI (decide (k=2) != neg))],[(1000,.cells X.cs),(1064,.buf 0 16 []),(1576,.buf 0 16 [])],2664⟩) (by
     rcases k23 with rfl | rfl<;>cases neg<;>simp[hcs]) ?_
    refine ab (WpsgZ ?_);refine WpcondZ rfl ?_;cases hb:(decide (k=2) != neg)with
    |false=>
     rw[hb]at hbx;simp only[Bool.false_eq_true,if_false]at hbx;refine WpskipZ ?_;simp only[Ex.then];rw[hbx];exact x_union L X hsubX neg hl hsub hall1 (by omega) (λz hz=>ih z hz neg (hall1 z hz) (hcle z hz)) _
    |true=>
     rw[hb]at hbx;simp only[if_true]at hbx;obtain⟨K,hK⟩:=L.hAll;refine WprgnZ (K:=K) (s':=⟨[(1,.bI neg),(2,.ref 1000 0 0 0),(7,.own 2792 0 1 0),(8,.bI true)],[(1000,.cells X.cs),(1064,.buf 0 16 []),(1576,.buf 0 16 []),(2792,.buf 0 16 [allBx.enc])],2920⟩) (λn hn=>by
      have e1:=hK n hn;simp only[B.av]at e1;generalize evalF prog n=g at e1;have hal:=B.cs_len allBx;have hafz:=B.cs_fz allBx;generalize allBx.cs=ac at e1 hal hafz;generalize allBx.enc=ae at hafz;simp[-fzC, -fz,e1,setAll,hal,hafz]) ?_
     simp only[Ex.then];rw[hbx];exact x_prod L X hsubX neg hl hsub hall1 (by omega) (λz hz=>ih z hz neg (hall1 z hz) (hcle z hz))
theorem x_of (L:LibD prog) {x:Xp} (hx:x.ok):Ans prog 164 [x.av] (.tup [filt (ofX x).1,.iv (.int .i64 (ofX x).2)]):=by
 obtain⟨K1,hK1⟩:=x_rightX L.h41 L.h105 L.h106 L.h168 L.h169 L.h170 L.h167 L.h166 hx;refine Ans.of L.h164 rfl rfl (Wps0Z (by simp[Xp.av,Xp.cs_nilc];rfl) ?_);refine ab (WpskZ (K:=K1) (λn hn=>by
  have e1:=hK1 n hn;simp only[Xp.av]at e1;generalize evalF prog n=g at e1;simp[Xp.cs_7,Xp.cs_len,Xp.cs_fzC,e1];rfl) ?_)
 refine WpcondZ rfl ?_;cases hr:rightX x with
 |false=>
  have ho:ofX x=([],2):=by unfold ofX;rw[hr];rfl
  refine WpsgZ ?_;refine WpretZ ?_
  show FinS F164.res _ .ret _
  rw[ho];simp[FinS,F164,filt,resAll,resM,outA,ev,get,M.look,M.bind,M.run,Mrun_bindZ,M.mapL,M.ok,shut,fzA,fz1,fzC,fz,M.write,M.lift]
 |true=>
  obtain⟨hc,hall⟩:=right_cnt hr;obtain⟨b1,b2⟩:=boxes_lim hx false hall;have b3:=boxes_fine hx false hall;have hft:∀b ∈ (boxesX false x).1,b.fit:=λb hb=>fit_of (b3 b hb) (b1 b hb) (by omega) (by omega)
  obtain⟨K2,hK2⟩:=x_boxes L hx false hall hc;obtain⟨K3,hK3⟩:=x_rightF L.toIn6 (boxesX false x).1 (by omega) hft;have ho:ofX x=if(boxesX false x).2=0/\rightF (boxesX false x).1=true then((boxesX false x).1,0) else([],4):=by unfold ofX;rw[hr];rfl
  unfold resB at hK2;generalize boxesX false x=r at *;obtain⟨l,e⟩:=r;simp only[]at *;refine WpskipZ (WpskZ (K:=K2) (λn hn=>by
   have e1:=hK2 n hn;simp only[Xp.av]at e1;generalize evalF prog n=g at e1;simp[Xp.cs_7,Xp.cs_len,Xp.cs_fzC,e1];rfl) ?_)
  refine ab (WpskZ (K:=K3) (s':=⟨[(4,filt l),(20,.bI (!(e==0&&rightF l)))],[(1000,.cells x.cs),(1064,.buf 0 16 [])],2280⟩) (λn hn=>by
   have e1:=hK3 n hn;simp only[filt]at e1;generalize evalF prog n=g at e1;cases he:e==0<;>simp[filt,e1,he]) ?_)
  refine WpcondZ rfl ?_;cases hq:(e==0&&rightF l)with
  |false=>
   have ho2:ofX x=([],4):=by
    rw[ho,if_neg];rintro⟨h1,h2⟩;rw[h1,h2]at hq;simp at hq
   refine WpsgZ ?_;refine WpretZ ?_
   show FinS F164.res _ .ret _
   rw[ho2];simp[FinS,F164,filt,resAll,resM,outA,ev,get,M.look,M.bind,M.run,Mrun_bindZ,M.mapL,M.ok,shut,fzA,fz1,fzC,fz,M.write,M.lift]
  |true=>
   have ho2:ofX x=(l,0):=by
    rw[Bool.and_eq_true,beq_iff_eq]at hq;rw[ho,if_pos hq]
   refine WpskipZ (WpsgZ ?_);refine WpretZ ?_
   show FinS F164.res _ .ret _
   rw[ho2];simp[FinS,F164,filt,resAll,resM,outA,ev,get,M.look,M.bind,M.run,Mrun_bindZ,M.mapL,M.ok,shut,fzA,fz1,fzC,fz,M.write,M.lift]
end
end Arb
namespace Arx
open Go Arb
attribute [local simp] evalRgn Option.map_some evalOps step wants isS osem Mrun_bindZ M.mapL M.run M.ok M.fresh M.write M.look M.lift putD ev fr_cons fr_nil keepFr lset_nil lset_cons get_set_same bin binM intBin strBin mk params cellsM load obRead fadr fld isl iarr xarr idx len valid slc rowLen bound store splice un callee Option.bind_some M.bind putAll
structure LibR (p1:Nat->Option Arb.IFn) (p2:Nat->Option IFn):Prop where
 D:LibD p1
 h34:p1 34=some Arb.F34
 h20:p1 20=some Arb.F20
 h8:p1 8=some Arb.F8
 h160:p1 160=some Arb.F160
 h163:p2 163=some F163
 h162:p2 162=some F162
 h161:p2 161=some F161
 h157:p2 157=some F157
 h156:p2 156=some F156
section
variable {p1:Nat->Option Arb.IFn} {p2:Nat->Option IFn}
set_option maxHeartbeats 4000000 in
theorem ev163 (hp2:PrimsLe p2) (h163:p2 163=some F163) {lo n lid:Nat} {H:Hp} {g:Lg} {ya yp yd:AV} {ra rp:List (List AV)} (G:LGp lo H n lid [] g ya yp yd ra rp) (hl:g.acts.length<=1000) (c:Int) (nx:Nat) :
  ∃nx',nx<=nx'/\Ev p1 p2 163 [.ref lid 0 0 0,.nI c] H nx (.nI (aliveN c g.acts),H,nx'):=by
 have hla:=G.a.len;have hat:=G.at_;have hral:ra.length=g.acts.length:=G.al.1;rw[hral]at hla;simp only[List.nil_append]at hat;have key:Wp p1 p2 F163.body ⟨params [.ref lid 0 0 0,.nI c] 0,H,nx⟩ (λe st=>∃r:AV×Hp×Nat,(r.1 = .nI (aliveN c g.acts)/\r.2.1=H/\nx<=r.2.2)/\Fin F163.res r e st):=by
  refine WpsgZ ?_;refine WpsgZ ?_;refine ab (WpsgZ ?_);refine WpblockZ ?_;refine WploopZ (λm s1=>∃(i n2:Nat),i+m=g.acts.length/\nx<=n2/\
   s1=⟨[(0,.ref lid 0 0 0),(1,.nI c),(5,.nI (aliveN c (g.acts.take i))),(6,.nI i)],H,n2⟩) (m:=g.acts.length)
   ⟨0,nx+1+1+1,by omega,by omega,by simp[fr_cons,keepFr,aliveN]⟩ ?_
  rintro m s1 ⟨i,n2,him,hn2,rfl⟩;refine ab (ab ?_);by_cases hi:i<g.acts.length
  ·obtain⟨a,ha⟩:∃a,g.acts[i]?=some a:=⟨_,List.getElem?_eq_getElem hi⟩;have hw1:IntKind.i64.wrap ((i:Int)+1)=(i:Int)+1:=IntWalk.i64_in _ (by omega);obtain⟨row,hrow,yrow,rfl,hyrow⟩:=G.al.get ha;obtain⟨ida,va,i1, -,hya,i4⟩:=G.a.at_ hrow;rw[hral]at hya;have hal:=aliveN_take (c:=c) ha;have hal9:aliveN c (g.acts.take i)<=1000:=by have:=aliveN_le c (g.acts.take i);rw[List.length_take]at this;omega
   generalize aliveN c (g.acts.take i)=A at *;have hwA:IntKind.i64.wrap ((A:Int)+1)=(A:Int)+1:=IntWalk.i64_in _ (by omega);simp only[numV]at hrow;refine Wpr0Z (by
    simp[-len,hat,hla,hi];rfl) ?_
   refine WpcondZ (t:=true) rfl (WpskipZ (ab (WpblockZ (ab ?_))));rw[hya]at hat;refine Wpr0Z (s':=⟨[(0,.ref lid 0 0 0),(1,.nI c),(5,.nI A),(6,.nI i),(36,.bI (a.c==c&&a.t==0))],H,n2+7+21⟩) (by
    cases h1:a.c==c<;>simp[hat,i4,hi,hrow,h1]) ?_
   refine WpcondZ rfl ?_;cases hq:(a.c==c&&a.t==0)with
   |true=>
    rw[hq]at hal;simp only[if_true]at hal ⊢;refine Wpr0Z (by simp[hwA];rfl) ?_;simp only[Ex.then,Ex.inBlock];refine Wpr0Z (by simp[hw1];rfl) ?_;exact⟨m - 1,by omega,i+1,_,by omega,by show nx<=n2+7+21+3+3;omega,by simp[fr_cons,keepFr,hal]⟩
   |false=>
    rw[hq]at hal;simp only[Bool.false_eq_true,if_false,Nat.add_zero]at hal ⊢;refine WpskipZ ?_;simp only[Ex.then,Ex.inBlock];refine Wpr0Z (by simp[hw1];rfl) ?_;exact⟨m - 1,by omega,i+1,_,by omega,by show nx<=n2+7+21+3;omega,by simp[fr_cons,keepFr,hal]⟩
  ·obtain rfl:i=g.acts.length:=by omega
   refine Wpr0Z (s':=⟨[(0,.ref lid 0 0 0),(1,.nI c),(5,.nI (aliveN c (g.acts.take g.acts.length))),(6,.nI g.acts.length),(13,.bI false)],H,n2+7⟩) (by
    simp[-len,hat,hla]) ?_
   refine WpcondZ (t:=false) rfl (WpexitZ ?_);simp only[Ex.then,Ex.inBlock,if_true];rw[List.take_length];refine WpsgZ ?_;exact WpretZ ⟨(_,H,n2+7+2),⟨rfl,rfl,by show nx<=n2+7+2;omega⟩,rfl,rfl⟩
 obtain⟨⟨y,H',nx'⟩,⟨rfl,h2,h3⟩,h4⟩:=Ev.ofx hp2 h163 rfl rfl _ key;simp only[]at h2 h3;subst h2;exact⟨nx',h3,h4⟩
set_option maxHeartbeats 4000000 in
theorem ev162 (hp2:PrimsLe p2) (h162:p2 162=some F162) {lo n lid:Nat} {H:Hp} {g:Lg} {ya yp yd:AV} {ra rp:List (List AV)} (G:LGp lo H n lid [] g ya yp yd ra rp) (hl:g.acts.length<=1000) (c:Int) (nx:Nat) :
  ∃nx',nx<=nx'/\Ev p1 p2 162 [.ref lid 0 0 0,.nI c] H nx (.nI (ofN c g.acts),H,nx'):=by
 have hla:=G.a.len;have hat:=G.at_;have hral:ra.length=g.acts.length:=G.al.1;rw[hral]at hla;simp only[List.nil_append]at hat;have key:Wp p1 p2 F162.body ⟨params [.ref lid 0 0 0,.nI c] 0,H,nx⟩ (λe st=>∃r:AV×Hp×Nat,(r.1 = .nI (ofN c g.acts)/\r.2.1=H/\nx<=r.2.2)/\Fin F162.res r e st):=by
  refine WpsgZ ?_;refine WpsgZ ?_;refine ab (WpsgZ ?_);refine WpblockZ ?_;refine WploopZ (λm s1=>∃(i n2:Nat),i+m=g.acts.length/\nx<=n2/\
   s1=⟨[(0,.ref lid 0 0 0),(1,.nI c),(5,.nI (ofN c (g.acts.take i))),(6,.nI i)],H,n2⟩) (m:=g.acts.length)
   ⟨0,nx+1+1+1,by omega,by omega,by simp[fr_cons,keepFr,ofN]⟩ ?_
  rintro m s1 ⟨i,n2,him,hn2,rfl⟩;refine ab (ab ?_);by_cases hi:i<g.acts.length
  ·obtain⟨a,ha⟩:∃a,g.acts[i]?=some a:=⟨_,List.getElem?_eq_getElem hi⟩;have hw1:IntKind.i64.wrap ((i:Int)+1)=(i:Int)+1:=IntWalk.i64_in _ (by omega);obtain⟨row,hrow,yrow,rfl,hyrow⟩:=G.al.get ha;obtain⟨ida,va,i1, -,hya,i4⟩:=G.a.at_ hrow;rw[hral]at hya;have hof:=ofN_take (c:=c) ha;have hof9:ofN c (g.acts.take i)<=1000:=by have:=ofN_le c (g.acts.take i);rw[List.length_take]at this;omega
   generalize ofN c (g.acts.take i)=A at *;have hwA:IntKind.i64.wrap ((A:Int)+1)=(A:Int)+1:=IntWalk.i64_in _ (by omega);simp only[numV]at hrow;refine Wpr0Z (by
    simp[-len,hat,hla,hi];rfl) ?_
   refine WpcondZ (t:=true) rfl (WpskipZ (ab (WpblockZ (ab ?_))));rw[hya]at hat;refine Wpr0Z (by
    simp[hat,i4,hi,hrow];rfl) ?_
   refine WpcondZ rfl ?_;cases hq:(a.c==c)with
   |true=>
    rw[hq]at hof;simp only[if_true]at hof ⊢;refine Wpr0Z (by simp[hwA];rfl) ?_;simp only[Ex.then,Ex.inBlock];refine Wpr0Z (by simp[hw1];rfl) ?_;exact⟨m - 1,by omega,i+1,_,by omega,by show nx<=n2+7+10+3+3;omega,by simp[fr_cons,keepFr,hof]⟩
   |false=>
    rw[hq]at hof;simp only[Bool.false_eq_true,if_false,Nat.add_zero]at hof ⊢;refine WpskipZ ?_;simp only[Ex.then,Ex.inBlock];refine Wpr0Z (by simp[hw1];rfl) ?_;exact⟨m - 1,by omega,i+1,_,by omega,by show nx<=n2+7+10+3;omega,by simp[fr_cons,keepFr,hof]⟩
  ·obtain rfl:i=g.acts.length:=by omega
   refine Wpr0Z (s':=⟨[(0,.ref lid 0 0 0),(1,.nI c),(5,.nI (ofN c (g.acts.take g.acts.length))),(6,.nI g.acts.length),(13,.bI false)],H,n2+7⟩) (by
    simp[-len,hat,hla]) ?_
   refine WpcondZ (t:=false) rfl (WpexitZ ?_);simp only[Ex.then,Ex.inBlock,if_true];rw[List.take_length];refine WpsgZ ?_;exact WpretZ ⟨(_,H,n2+7+2),⟨rfl,rfl,by show nx<=n2+7+2;omega⟩,rfl,rfl⟩
 obtain⟨⟨y,H',nx'⟩,⟨rfl,h2,h3⟩,h4⟩:=Ev.ofx hp2 h162 rfl rfl _ key;simp only[]at h2 h3;subst h2;exact⟨nx',h3,h4⟩
theorem callOf (L:LibR p1 p2) {x:Xp} (hx:x.ok):∃K,∀m,K<=m->∀(H:Hp),(fcallM (one p1 m) (.iv (.fn 164 [])) [.agg (x.enc.map AV.iv)]).run H=some (.tup [.iv (.sl 16 ((ofX x).1.map B.enc)),.iv (.int .i64 (ofX x).2)],H):=by
 obtain⟨K,hK⟩:=x_of L.D hx;refine⟨K,λm hm H=>?_⟩;have e1:(one p1 m 164 [.agg (x.enc.map Arb.AV.iv)] []).bind shut=some (.tup [.iv (.sl 16 ((ofX x).1.map B.enc)),.iv (.int .i64 (ofX x).2)]):=hK m hm;have hz:fz1 true (.agg (x.enc.map AV.iv)) = .ret (.agg (x.enc.map Arb.AV.iv)):=by
  unfold fz1;simp only[];rw[fz_ivs true 7 x.enc x.enc_all];rfl
 simp[fcallM,callee,Mrun_bindZ,M.lift,M.run,M.mapL,hz,e1,ofA,ofL,of1,M.bind]
end
def takeBlk:IC:=match F161.body with
 |.seq _ (.seq _ (.seq (.seq _ (.block _ (.seq _ b))) _))=>b
 |_=>.skip
def k1Blk:IC:=match takeBlk with
 |.cond _ a _=>a
 |_=>.skip
def k2Blk:IC:=match takeBlk with
 |.cond _ _ (.seq _ (.cond _ a _))=>a
 |_=>.skip
def k3Blk:IC:=match takeBlk with
 |.cond _ _ (.seq _ (.cond _ _ (.seq _ (.cond _ a _))))=>a
 |_=>.skip
def k5Blk:IC:=match takeBlk with
 |.cond _ _ (.seq _ (.cond _ _ (.seq _ (.cond _ _ (.seq _ (.cond _ a _))))))=>a
 |_=>.skip
def Took (lo lid nx:Nat) (H:Hp) (g:Lg) (e:Ex) (st:St):Prop:=
 e = .ret/\∃v ya' yp' yd' ra' rp',nx<=st.nx/\Fresh st.hp st.nx/\LGp lo st.hp st.nx lid [] g ya' yp' yd' ra' rp'/\(∀k,k<4*lo->get st.hp k=get H k)/\Fin F161.res (v,st.hp,st.nx) .ret st
section
variable {p1:Nat->Option Arb.IFn} {p2:Nat->Option IFn}
set_option maxHeartbeats 8000000 in
theorem take_end (bid:Nat) (o:Arb.Op) (now:Nat) (there:Bool) (v3 v4 v29:AV) (lo lid:Nat) (g:Lg) (H:Hp) (nx:Nat) (hf:Fresh H nx) {ya yp yd:AV} {ra rp:List (List AV)} (G:LGp lo H nx lid [] g ya yp yd ra rp) (hl:g.acts.length<=1000)
  (hb:get H bid=some (.cells (o.enc.map AV.iv))) :
  Wp p1 p2 k2Blk ⟨[(0,.ref lid 0 0 0),(3,.nI now),(4,v4),(7,.ref bid 0 0 0),(12,.bI there),(29,v29),(69,.bI true)],H,nx⟩
   (Took lo lid nx H (if there then { g with acts:=endX o.c o.u now g.acts } else g)):=by
 have hat:=G.at_;simp only[List.nil_append]at hat;obtain⟨o0,o1,o2,o3,o4, -, -⟩:=op_at o;have m0:(o.enc.map AV.iv).length=24:=by rw[List.length_map];exact o0
 have m3:((o.enc.map AV.iv).tail).take 1=[.nI o.c]:=by rw[<-List.map_tail,<-List.map_take,o3];rfl
 have m4:((o.enc.map AV.iv).drop 2).take 1=[.nI o.u]:=by rw[<-List.map_drop,<-List.map_take,o4];rfl
 unfold endX;generalize o.enc.map AV.iv=oe at *;generalize o.c=c at *;generalize o.u=u at *;unfold k2Blk takeBlk F161;refine ab (WpsgZ ?_);refine WpcondZ rfl ?_;cases there with
 |false=>
  simp only[Bool.not_false,if_true,Bool.false_eq_true,if_false];refine WpsgZ ?_;have hE:=Ext.refl hf (show nx<=nx+2+2 by omega);exact WpretZ ⟨rfl,_,_,_,_,_,_,hE.le,hE.fresh,G.ext hE,λ_ _=>rfl,rfl,rfl⟩
 |true=>
  simp only[Bool.not_true,Bool.false_eq_true,if_false,if_true];refine WpskipZ ?_;simp only[Ex.then];refine ab (ab ?_);have hla:=G.a.len;have hral:ra.length=g.acts.length:=G.al.1;rw[hral]at hla;refine WprgZ ?_;refine WpblockZ ?_;refine WploopZ (λm s1=>∃(j n2:Nat),j+m=g.acts.length/\nx<=n2/\idxF (endM c u) (g.acts.drop j) j=idxF (endM c u) g.acts 0/\
   s1=⟨[(0,.ref lid 0 0 0),(3,.nI now),(7,.ref bid 0 0 0),(16,.nI j)],H,n2⟩) (m:=g.acts.length)
   ⟨0,nx+2+1,by omega,by omega,rfl,by simp[fr_cons,keepFr]⟩ ?_
  rintro m s1 ⟨j,n2,hjm,hn2,hidx,rfl⟩;refine ab (ab ?_);by_cases hj:j<g.acts.length
  ·obtain⟨a,ha⟩:∃a,g.acts[j]?=some a:=⟨_,List.getElem?_eq_getElem hj⟩;have hw1:IntKind.i64.wrap ((j:Int)+1)=(j:Int)+1:=IntWalk.i64_in _ (by omega);rw[idxF_cons ha]at hidx;obtain⟨row,hrow,yrow,rfl,hyrow⟩:=G.al.get ha;obtain⟨ida,va,i1,i2,hya,i4⟩:=G.a.at_ hrow;have G0:=G;rw[hya]at G0;rw[hral]at hya;simp only[numV]at hrow;refine Wpr0Z (s':=⟨[(0,.ref lid 0 0 0),(3,.nI now),(7,.ref bid 0 0 0),(16,.nI j),(79,.bI true)],H,n2+7⟩) (by
    simp[-len,hat,hla,hj]) ?_
   refine WpcondZ (t:=true) rfl (WpskipZ (ab (WpblockZ (ab (Wp.drawn rfl ?_)))));rw[hya]at hat;refine Wpr0Z (s':=⟨[(0,.ref lid 0 0 0),(3,.nI now),(7,.ref bid 0 0 0),(16,.nI j),(116,.bI (endM c u a))],H,n2+7+35⟩) (by
    unfold endM;cases h1:a.c==c<;>cases h2:a.u==u<;>simp[hat,hb,i4,hj,hrow,m0,m3,m4,h1,h2]) ?_
   refine WpcondZ rfl ?_;cases hm:endM c u a with
   |true=>
    rw[hm]at hidx;simp only[if_true]at hidx ⊢;refine Wps0Z (s':=⟨[],Arx.set H ida (.buf va 5 (ra.set j [AV.iv (IV.int IntKind.i64 a.c),AV.iv (IV.int IntKind.i64 a.u),yrow,AV.iv (IV.int IntKind.i64 a.f),AV.iv (IV.int IntKind.i64 now)])),n2+7+35+9⟩) (by
     simp[hat,i4,hrow,hj]) ?_
    have G1:=G0.ext (Ext.refl hf (show nx<=n2+7+35+9+2 by omega));have haf:a.fits:=G.fits a (List.mem_of_getElem? ha);have G2:=G1.setA i4 (by omega) i2 (i:=j) (a:={ a with t:=now }) (r:=[AV.iv (IV.int IntKind.i64 a.c),AV.iv (IV.int IntKind.i64 a.u),yrow,AV.iv (IV.int IntKind.i64 a.f),AV.iv (IV.int IntKind.i64 now)]) ⟨yrow,rfl,hyrow.mono (by omega) λ_ _=>rfl⟩ haf;have hmod:g.acts.modify (j:Int).toNat (λa=>{ a with t:=now })=g.acts.set j { a with t:=now }:=by
     rw[Int.toNat_natCast];apply List.ext_getElem?;intro k;rw[List.getElem?_modify];by_cases hk:j=k
     ·subst hk;rw[List.getElem?_set_self hj,ha];simp
     ·rw[List.getElem?_set_ne hk];simp[hk]
    rw[<-hidx,if_pos (show(0:Int)<=(j:Int) by omega),hmod];have hlo:4*lo<=ida:=G0.la _ _ _ _ rfl;have hidn:ida<4*nx:=by rcases G0.a with⟨h, -⟩|⟨id',v',q1, -,q3, -⟩;(cases h);(cases q3;exact q1)
    refine WpsgZ ?_;exact WpretZ ⟨rfl,_,_,_,_,_,_,by show nx<=n2+7+35+9+2;omega,λk hk=>by
     show get (Arx.set H ida _) k=none
     have hk':4*(n2+7+35+9+2)<=k:=hk;rw[get_set_ne _ _ (by omega)];exact hf k (by omega),G2,λk hk=>get_set_ne _ _ (by omega),rfl,rfl⟩
   |false=>
    rw[hm]at hidx;simp only[Bool.false_eq_true,if_false]at hidx ⊢;refine WpskipZ ?_;simp only[Ex.then,Ex.inBlock];refine Wpr0Z (by simp[hw1];rfl) ?_;exact⟨m - 1,by omega,j+1,_,by omega,by show nx<=n2+7+35+3;omega,hidx,by simp[fr_cons,keepFr]⟩
  ·obtain rfl:j=g.acts.length:=by omega
   refine Wpr0Z (s':=⟨[(0,.ref lid 0 0 0),(3,.nI now),(7,.ref bid 0 0 0),(16,.nI g.acts.length),(79,.bI false)],H,n2+7⟩) (by
    simp[-len,hat,hla]) ?_
   refine WpcondZ (t:=false) rfl (WpexitZ ?_);simp only[Ex.then,Ex.inBlock,if_true];rw[List.drop_length]at hidx;have:¬0<=idxF (endM c u) g.acts 0:=by rw[<-hidx];simp[idxF]
   rw[if_neg this];have hE:=Ext.refl hf (show nx<=n2+7+2 by omega);refine WpsgZ ?_;exact WpretZ ⟨rfl,_,_,_,_,_,_,hE.le,hE.fresh,G.ext hE,λ_ _=>rfl,rfl,rfl⟩
end
section
variable {p1:Nat->Option Arb.IFn} {p2:Nat->Option IFn}
set_option maxHeartbeats 8000000 in
theorem take_sub (hp2:PrimsLe p2) (L:LibR p1 p2) (bid:Nat) (o:Arb.Op) (ho:o.ok) (now:Nat) (there:Bool) (v4 v29:AV) (lo lid:Nat) (g:Lg) (H:Hp) (nx:Nat) (hf:Fresh H nx) {ya yp yd:AV} {ra rp:List (List AV)} (G:LGp lo H nx lid [] g ya yp yd ra rp) (hl:g.acts.length<=1000)
  (hb:get H bid=some (.cells (o.enc.map AV.iv))) :
  Wp p1 p2 k1Blk ⟨[(0,.ref lid 0 0 0),(3,.nI now),(4,v4),(7,.ref bid 0 0 0),(12,.bI there),(29,v29),(30,.bI true)],H,nx⟩
   (Took lo lid nx H (if there then subX g o now else g)):=by
 have hat:=G.at_;simp only[List.nil_append]at hat;obtain⟨o0,o1,o2,o3,o4,o5, -⟩:=op_at o;have m0:(o.enc.map AV.iv).length=24:=by rw[List.length_map];exact o0
 have m3:((o.enc.map AV.iv).tail).take 1=[.nI o.c]:=by rw[<-List.map_tail,<-List.map_take,o3];rfl
 have m5:((o.enc.map AV.iv).drop 5).take 7=o.x.enc.map AV.iv:=by rw[<-List.map_drop,<-List.map_take,o5]
 have mxl:(o.x.enc.map AV.iv).length=7:=by rw[List.length_map];exact o.x.len_enc
 have hbf:=ofX_fits ho.x;obtain⟨K1,hK1⟩:=callOf (p1:=p1) L ho.x;unfold subX;generalize ofX o.x=r at *;obtain⟨bs,er⟩:=r;simp only[]at hK1 hbf;generalize o.enc.map AV.iv=oe at *;generalize o.x.enc.map AV.iv=xe at *;generalize o.c=c at *;generalize hR:(if er=0/\aliveN c g.acts<6 then { g with acts:=g.acts++[⟨c,(ofN c g.acts:Int)+1,bs,now,0⟩] } else g)=R;unfold k1Blk takeBlk F161;refine ab (WpsgZ ?_);refine WpcondZ rfl ?_;cases there with
 |false=>
  simp only[Bool.not_false,if_true,Bool.false_eq_true,if_false];refine WpsgZ ?_;have hE:=Ext.refl hf (show nx<=nx+2+2 by omega);exact WpretZ ⟨rfl,_,_,_,_,_,_,hE.le,hE.fresh,G.ext hE,λ_ _=>rfl,rfl,rfl⟩
 |true=>
  simp only[Bool.not_true,Bool.false_eq_true,if_false,if_true];refine WpskipZ ?_;simp only[Ex.then];refine WpskZ (K:=K1) (λn hn=>by
   have e1:=hK1 n hn H;simp[hb,m0,m5,mxl,e1];rfl) ?_
  refine ab (Wps0Z (by
   have hbq:(er != 0)=!decide (er=0):=by by_cases h:er=0<;>simp[h]
   simp[hbq];rfl) ?_)
  refine WpcondZ rfl ?_;by_cases hc1:er=0
  ·rw[decide_eq_true hc1];simp only[Bool.not_true,Bool.false_eq_true,if_false];refine WpskipZ ?_;simp only[Ex.then];refine ab (ab ?_);obtain⟨n1,hn1,K2,hK2⟩:=ev163 (p1:=p1) hp2 L.h163 G hl c (nx+2+8+2+5);refine WprgnZ (K:=K2) (λn hn=>by
    have e1:=hK2 n hn;have h2:decide ((6:Int)<=(aliveN c g.acts:Int))=decide (6<=aliveN c g.acts):=decide_eq_decide.2 (by omega);generalize run2 p1 p2 n=cx at e1;simp[hb,m0,m3,e1,h2];rfl) ?_
   refine WpcondZ rfl ?_;by_cases hc2:6<=aliveN c g.acts
   ·rw[if_neg (by omega)]at hR;subst hR;rw[decide_eq_true hc2];simp only[if_true];refine WpsgZ ?_;have hE:=Ext.refl hf (show nx<=n1+2 by omega);exact WpretZ ⟨rfl,_,_,_,_,_,_,hE.le,hE.fresh,G.ext hE,λ_ _=>rfl,rfl,rfl⟩
   ·rw[if_pos (by omega)]at hR;subst hR;rw[decide_eq_false hc2];simp only[Bool.false_eq_true,if_false];refine WpskipZ ?_;simp only[Ex.then];refine ab ?_;obtain⟨n2,hn2,K3,hK3⟩:=ev162 (p1:=p1) hp2 L.h162 G hl c (n1+6);have hN9:=ofN_le c g.acts;generalize ofN c g.acts=N at *;have hwN:IntKind.i64.wrap ((N:Int)+1)=(N:Int)+1:=IntWalk.i64_in _ (by omega);refine WprgnZ (K:=K3) (λn hn=>by
     have e1:=hK3 n hn;generalize run2 p1 p2 n=cx at e1;simp[hb,m0,m3,e1,hwN];rfl) ?_
    refine ab (Wp.drawn rfl ?_);have hE:=Ext.refl hf (show nx<=n2 by omega);have G1:=G.ext hE;obtain⟨y',H4,q1,q2,q3,q4,q5⟩:=G1.pushA hE.fresh (a:=⟨c,(N:Int)+1,bs,now,0⟩) (r:=[.nI c,.nI ((N:Int)+1),.iv (.sl 16 (bs.map B.enc)),.nI now,.nI 0]) ⟨_,rfl,LB.sl _ _ _⟩ hbf (gid:=4*(n2+11)) (slot:=n2+12) (n':=n2+16) (by omega) (by omega) (by omega) (by omega) (by have:=G.al.1;omega);have hfg:get H (4*(n2+11))=none:=hf _ (by omega);have hlg:∀ob,get (Arx.set H (4*(n2+11)) ob) lid=get H lid:=λob=>get_set_ne _ _ (by have:=G.li;omega)
    have hcell':cellsM y' = .ret [y']:=q4.a.cell;simp only[List.nil_append]at q2 q3 q4 q5;refine Wpr0Z (s':=⟨[(15,.nI ((N:Int)+1))],_,n2+16⟩) (by
     simp[-cellsM,cellsM_iv,cellsM_agg,hat,hb,m0,m3,hfg,hlg,hcell',setAll,putAll,Nat.add_assoc,q1,q2];rfl) ?_
    refine WpsgZ ?_;have hE4:=Ext.refl q3 (show n2+16<=n2+16+3 by omega);exact WpretZ ⟨rfl,_,_,_,_,_,_,by show nx<=n2+16+3;omega,hE4.fresh,q4.ext hE4,q5,rfl,rfl⟩
  ·rw[if_neg (λh=>hc1 h.1)]at hR;subst hR;rw[decide_eq_false hc1];simp only[Bool.not_false,if_true];refine WpsgZ ?_;have hE:=Ext.refl hf (show nx<=nx+2+8+2+3 by omega);exact WpretZ ⟨rfl,_,_,_,_,_,_,hE.le,hE.fresh,G.ext hE,λ_ _=>rfl,rfl,rfl⟩
set_option maxHeartbeats 8000000 in
theorem take_pub (bid:Nat) (o:Arb.Op) (now:Nat) (there right:Bool) (v29:AV) (lo lid:Nat) (g:Lg) (H:Hp) (nx:Nat) (hf:Fresh H nx) {ya yp yd:AV} {ra rp:List (List AV)} (G:LGp lo H nx lid [] g ya yp yd ra rp) (hl:g.pubs.length<=1000)
  (hb:get H bid=some (.cells (o.enc.map AV.iv))) :
  Wp p1 p2 k3Blk ⟨[(0,.ref lid 0 0 0),(3,.nI now),(4,.bI right),(7,.ref bid 0 0 0),(12,.bI there),(29,v29),(125,.bI true)],H,nx⟩
   (Took lo lid nx H (if there&&right then { g with pubs:=g.pubs++[⟨o.c,o.e,now⟩] } else g)):=by
 have hat:=G.at_;simp only[List.nil_append]at hat;obtain⟨o0,o1,o2,o3,o4, -,o6⟩:=op_at o;have m0:(o.enc.map AV.iv).length=24:=by rw[List.length_map];exact o0
 have m3:((o.enc.map AV.iv).tail).take 1=[.nI o.c]:=by rw[<-List.map_tail,<-List.map_take,o3];rfl
 have m6:((o.enc.map AV.iv).drop 12).take 12=o.e.enc.map AV.iv:=by rw[<-List.map_drop,<-List.map_take,o6]
 generalize o.enc.map AV.iv=oe at *;unfold k3Blk takeBlk F161;refine ab (WpsgZ ?_);refine WpcondZ rfl ?_;cases there with
 |false=>
  simp only[Bool.not_false,if_true,Bool.false_and,Bool.false_eq_true,if_false];refine WpsgZ ?_;have hE:=Ext.refl hf (show nx<=nx+2+2 by omega);exact WpretZ ⟨rfl,_,_,_,_,_,_,hE.le,hE.fresh,G.ext hE,λ_ _=>rfl,rfl,rfl⟩
 |true=>
  simp only[Bool.not_true,Bool.true_and,Bool.false_eq_true,if_false];refine WpskipZ ?_;simp only[Ex.then];refine ab (WpsgZ ?_);refine WpcondZ rfl ?_;cases right with
  |false=>
   simp only[Bool.not_false,if_true,Bool.false_eq_true,if_false];refine WpsgZ ?_;have hE:=Ext.refl hf (show nx<=nx+2+2+2 by omega);exact WpretZ ⟨rfl,_,_,_,_,_,_,hE.le,hE.fresh,G.ext hE,λ_ _=>rfl,rfl,rfl⟩
  |true=>
   simp only[Bool.not_true,Bool.false_eq_true,if_false,if_true];refine WpskipZ ?_;simp only[Ex.then];refine ab (Wp.drawn rfl ?_);have hwl:IntKind.i64.wrap ((g.pubs.length:Int)+1)=(g.pubs.length:Int)+1:=IntWalk.i64_in _ (by omega);have hE:=Ext.refl hf (show nx<=nx+2+2 by omega);have hpl:rp.length=g.pubs.length:=G.pl.1;obtain⟨y',H4,q1,q2,q3,q4,q5⟩:=(G.ext hE).pushP hE.fresh ⟨o.c,o.e,now⟩ (gid:=4*(nx+2+2+17)) (slot:=nx+2+2+18) (n':=nx+2+2+22) (by omega) (by omega) (by omega) (by omega) (by omega);have hplen:=G.p.len;rw[hpl]at hplen;have hfg:get H (4*(nx+2+2+17))=none:=hf _ (by omega);have hlg:∀ob,get (Arx.set H (4*(nx+2+2+17)) ob) lid=get H lid:=λob=>get_set_ne _ _ (by have:=G.li;omega)
   have hcell':cellsM y' = .ret [y']:=q4.p.cell;have hlen4:=q4.p.len;simp only[List.nil_append]at q2 q3 q4 q5;refine Wpr0Z (s':=⟨[(0,.ref lid 0 0 0)],_,nx+2+2+22⟩) (by
    simp only[Nat.add_assoc]at q1 q2 hfg hlg;simp only[pbC,numV,E.enc,V.enc,List.map_cons,List.map_nil,List.map_append,List.cons_append,List.nil_append]at q1;simp only[E.enc,V.enc,List.cons_append,List.nil_append,List.map_cons,List.map_nil]at m6;simp[-cellsM, -len,cellsM_iv,cellsM_agg,hat,hb,m0,m3,m6,hplen,hwl,hfg,hlg,hcell',setAll,putAll,Nat.add_assoc,q1,q2];rfl) ?_
   refine ab ?_;have hat4:=q4.at_;simp only[List.nil_append]at hat4 hlen4;refine Wpr0Z (by simp[-len,hat4,hlen4];rfl) ?_;have hE4:=Ext.refl q3 (show nx+2+2+22<=nx+2+2+22+7 by omega);exact WpretZ ⟨rfl,_,_,_,_,_,_,by show nx<=nx+2+2+22+7;omega,hE4.fresh,q4.ext hE4,q5,rfl,rfl⟩
set_option maxHeartbeats 8000000 in
theorem take_drain (now:Nat) (lo lid:Nat) (g:Lg) (H:Hp) (nx:Nat) (hf:Fresh H nx) {ya yp yd:AV} {ra rp:List (List AV)} (G:LGp lo H nx lid [] g ya yp yd ra rp) (hl:g.drains.length<=1000) :
  Wp p1 p2 k5Blk ⟨[(0,.ref lid 0 0 0),(3,.nI now),(157,.bI true)],H,nx⟩
   (Took lo lid nx H { g with drains:=g.drains++[(now:Int)] }):=by
 have hat:=G.at_;simp only[List.nil_append]at hat;unfold k5Blk takeBlk F161;obtain⟨y',H4,q1,q2,q3,q4,q5⟩:=G.pushD hf (now:Int) (gid:=4*(nx+6)) (slot:=nx+7) (n':=nx+11) (by omega) (by omega) (by omega) (by omega) (by omega);have hfg:get H (4*(nx+6))=none:=hf _ (by omega);have hlg:∀ob,get (Arx.set H (4*(nx+6)) ob) lid=get H lid:=λob=>get_set_ne _ _ (by have:=G.li;omega)
 have hcell':cellsM y' = .ret [y']:=QE.cell (e:=1) q4.d;simp only[List.nil_append]at q2 q3 q4 q5;simp only[numC]at q1;refine Wps0Z (s':=⟨[],_,nx+11⟩) (by
  simp[-cellsM,cellsM_iv,cellsM_agg,hat,hfg,hlg,hcell',setAll,putAll,q1,q2];rfl) ?_
 refine WpsgZ ?_;have hE4:=Ext.refl q3 (show nx+11<=nx+11+2 by omega);exact WpretZ ⟨rfl,_,_,_,_,_,_,by show nx<=nx+11+2;omega,hE4.fresh,q4.ext hE4,q5,rfl,rfl⟩
end
section
variable {p1:Nat->Option Arb.IFn} {p2:Nat->Option IFn}
set_option maxHeartbeats 8000000 in
theorem ev161 (hp2:PrimsLe p2) (L:LibR p1 p2) (x:Hd) (i:Nat) (o:Arb.Op) (ho:o.ok) (lo lid:Nat) (g:Lg) (H:Hp) (nx:Nat) (hf:Fresh H nx) {ya yp yd:AV} {ra rp:List (List AV)} (G:LGp lo H nx lid [] g ya yp yd ra rp) (hla:g.acts.length<=1000) (hlp:g.pubs.length<=1000) (hld:g.drains.length<=1000) :
  ∃v H' nx' ya' yp' yd' ra' rp',nx<=nx'/\Fresh H' nx'/\LGp lo H' nx' lid [] (stepX x g i o) ya' yp' yd' ra' rp'/\(∀k,k<4*lo->get H' k=get H k)/\
   Ev p1 p2 161 [.ref lid 0 0 0,.agg (hdC x),.agg (o.enc.map AV.iv),.nI (i+1:Nat),.bI (rightE o.e)] H nx (v,H',nx'):=by
 obtain⟨o0,o1,o2,o3, -, -, -⟩:=op_at o;have m0:(o.enc.map AV.iv).length=24:=by rw[List.length_map];exact o0
 have m1:(o.enc.map AV.iv).take 1=[.nI o.k]:=by rw[<-List.map_take,o1];rfl
 have m3:((o.enc.map AV.iv).tail).take 1=[.nI o.c]:=by rw[<-List.map_tail,<-List.map_take,o3];rfl
 have hfr:get H (4*nx)=none:=hf _ (by omega);have hfr2:get (Arx.set H (4*nx) (.cells (hdC x))) (4*(nx+1))=none:=by rw[get_set_ne _ _ (by omega)];exact hf _ (by omega)
 have hE1:Ext H nx (Arx.set (Arx.set H (4*nx) (.cells (hdC x))) (4*(nx+1)) (.cells (o.enc.map AV.iv))) (nx+4):=((Ext.refl hf (by omega)).set (by omega) (by omega) _).set (by omega) (by omega) _;have hb:get (Arx.set (Arx.set H (4*nx) (.cells (hdC x))) (4*(nx+1)) (.cells (o.enc.map AV.iv))) (4*(nx+1))=some (.cells (o.enc.map AV.iv)):=get_set_same _ _ _;have hbh:get (Arx.set (Arx.set H (4*nx) (.cells (hdC x))) (4*(nx+1)) (.cells (o.enc.map AV.iv))) (4*nx)=some (.cells (hdC x)):=by rw[get_set_ne _ _ (by omega)];exact get_set_same _ _ _
 have hlo:lo<nx:=by have:=G.li;omega
 have hcast:((i+1:Nat):Int)=(i:Int)+1:=by omega
 have fin:∀(n1:Nat) (H1:Hp) (R:Lg) (e:Ex) (st:St),Took lo lid n1 H1 R e st->nx<=n1->(∀k,k<4*lo->get H1 k=get H k)->R=stepX x g i o->
   ∃r:AV×Hp×Nat,(∃ya' yp' yd' ra' rp',nx<=r.2.2/\Fresh r.2.1 r.2.2/\LGp lo r.2.1 r.2.2 lid [] (stepX x g i o) ya' yp' yd' ra' rp'/\(∀k,k<4*lo->get r.2.1 k=get H k))/\Fin F161.res r e st:=by
  rintro n1 H1 R e st ⟨rfl,v,ya',yp',yd',ra',rp',h1,h2,h3,h4,h5⟩ h6 h7 rfl;exact⟨(v,st.hp,st.nx),⟨ya',yp',yd',ra',rp',by show nx<=st.nx;omega,h2,h3,λk hk=>(h4 k hk).trans (h7 k hk)⟩,h5⟩
 have key:Wp p1 p2 F161.body ⟨params [.ref lid 0 0 0,.agg (hdC x),.agg (o.enc.map AV.iv),.nI (i+1:Nat),.bI (rightE o.e)] 0,H,nx⟩
   (λe st=>∃r:AV×Hp×Nat,(∃ya' yp' yd' ra' rp',nx<=r.2.2/\Fresh r.2.1 r.2.2/\LGp lo r.2.1 r.2.2 lid [] (stepX x g i o) ya' yp' yd' ra' rp'/\(∀k,k<4*lo->get r.2.1 k=get H k))/\Fin F161.res r e st):=by
  refine Wps0Z (s':=⟨[(0,.ref lid 0 0 0),(3,.nI (i+1:Nat)),(4,.bI (rightE o.e)),(6,.ref (4*nx) 0 0 0),(7,.ref (4*(nx+1)) 0 0 0)],Arx.set (Arx.set H (4*nx) (.cells (hdC x))) (4*(nx+1)) (.cells (o.enc.map AV.iv)),nx+4⟩) (by
   generalize o.enc.map AV.iv=oe at *;simp[hfr,hfr2]) ?_
  have hG1:=G.ext hE1;have ho1:∀k,k<4*lo->get (Arx.set (Arx.set H (4*nx) (.cells (hdC x))) (4*(nx+1)) (.cells (o.enc.map AV.iv))) k=get H k:=λk hk=>by rw[get_set_ne _ _ (by omega),get_set_ne _ _ (by omega)]
  generalize Arx.set (Arx.set H (4*nx) (Ob.cells (hdC x))) (4*(nx+1)) (Ob.cells (o.enc.map AV.iv))=H1 at *;refine Wps0Z (s':=⟨[(0,.ref lid 0 0 0),(3,.nI (i+1:Nat)),(4,.bI (rightE o.e)),(7,.ref (4*(nx+1)) 0 0 0),(12,.bI (!outC x o.c))],H1,nx+4+12⟩) (by
   unfold outC;rw[hdC_eq]at hbh;generalize o.enc.map AV.iv=oe at *;generalize o.c=c at *;have c1':decide (0<=c)=!decide (c<0):=by by_cases h:c<0<;>simp[h]<;>omega
   have c2':decide (c<(x.hs.length:Int))=!decide ((x.hs.length:Int)<=c):=by by_cases h:(x.hs.length:Int)<=c<;>simp[h]<;>omega
   cases h1:decide (c<0)<;>simp[hb,m0,m3,hbh,c1',c2',h1]) ?_
  refine ab (Wps0Z (s':=⟨[(0,.ref lid 0 0 0),(3,.nI (i+1:Nat)),(4,.bI (rightE o.e)),(7,.ref (4*(nx+1)) 0 0 0),(12,.bI (!outC x o.c)),(29,.nI o.k)],H1,nx+4+12+2⟩) (by
   generalize o.enc.map AV.iv=oe at *;simp[hb,m0,m1]) ?_)
  refine WpblockZ (Wps0Z (by
   have:(o.k==1)=decide (o.k=1):=by by_cases h:o.k=1<;>simp[h]
   simp[this];rfl) ?_)
  refine WpcondZ rfl ?_;by_cases k1:o.k=1
  ·rw[decide_eq_true k1];simp only[if_true];have hE:=Ext.refl hE1.fresh (show nx+4<=nx+4+12+2+2 by omega);refine Wp.mono (take_sub hp2 L (4*(nx+1)) o ho (i+1) (!outC x o.c) _ _ lo lid g H1 (nx+4+12+2+2) hE.fresh (hG1.ext hE) hla hb) ?_;intro e st h;have he:=h.1;subst he;refine fin _ _ _ _ _ h (by omega) ho1 ?_;unfold stepX;simp only[k1,hcast];cases outC x o.c<;>simp
  ·rw[decide_eq_false k1];simp only[Bool.false_eq_true,if_false];refine Wps0Z (by
    have:(o.k==2)=decide (o.k=2):=by by_cases h:o.k=2<;>simp[h]
    simp[this];rfl) ?_
   refine WpcondZ rfl ?_;by_cases k2:o.k=2
   ·rw[decide_eq_true k2];simp only[if_true];have hE:=Ext.refl hE1.fresh (show nx+4<=nx+4+12+2+2+2 by omega);refine Wp.mono (take_end (4*(nx+1)) o (i+1) (!outC x o.c) (.undef) _ _ lo lid g H1 (nx+4+12+2+2+2) hE.fresh (hG1.ext hE) hla hb) ?_;intro e st h;have he:=h.1;subst he;refine fin _ _ _ _ _ h (by omega) ho1 ?_;unfold stepX;simp only[k2,hcast];cases outC x o.c<;>simp
   ·rw[decide_eq_false k2];simp only[Bool.false_eq_true,if_false];refine Wps0Z (by
     have:(o.k==3)=decide (o.k=3):=by by_cases h:o.k=3<;>simp[h]
     simp[this];rfl) ?_
    refine WpcondZ rfl ?_;by_cases k3:o.k=3
    ·rw[decide_eq_true k3];simp only[if_true];have hE:=Ext.refl hE1.fresh (show nx+4<=nx+4+12+2+2+2+2 by omega);refine Wp.mono (take_pub (4*(nx+1)) o (i+1) (!outC x o.c) (rightE o.e) _ lo lid g H1 (nx+4+12+2+2+2+2) hE.fresh (hG1.ext hE) hlp hb) ?_;intro e st h;have he:=h.1;subst he;refine fin _ _ _ _ _ h (by omega) ho1 ?_;unfold stepX;simp only[k3,hcast];cases outC x o.c<;>cases rightE o.e<;>simp
    ·rw[decide_eq_false k3];simp only[Bool.false_eq_true,if_false];refine Wps0Z (by
      have:(o.k==5)=decide (o.k=5):=by by_cases h:o.k=5<;>simp[h]
      simp[this];rfl) ?_
     refine WpcondZ rfl ?_;by_cases k5:o.k=5
     ·rw[decide_eq_true k5];simp only[if_true];have hE:=Ext.refl hE1.fresh (show nx+4<=nx+4+12+2+2+2+2+2 by omega);refine Wp.mono (take_drain (i+1) lo lid g H1 (nx+4+12+2+2+2+2+2) hE.fresh (hG1.ext hE) hld) ?_;intro e st h;have he:=h.1;subst he;refine fin _ _ _ _ _ h (by omega) ho1 ?_;unfold stepX;simp only[k5,hcast,if_true];cases outC x o.c<;>simp
     ·rw[decide_eq_false k5];simp only[Bool.false_eq_true,if_false];refine WpskipZ ?_;simp only[Ex.then,Ex.inBlock];refine WpsgZ ?_;have hs:stepX x g i o=g:=by
       unfold stepX;simp only[if_neg k1,if_neg k2,if_neg k3,if_neg k5,ite_self]
      have hE:=Ext.refl hE1.fresh (show nx+4<=nx+4+12+2+2+2+2+2+2 by omega);refine WpretZ ⟨(_,H1,nx+4+12+2+2+2+2+2+2),⟨ya,yp,yd,ra,rp,by show nx<=nx+4+12+2+2+2+2+2+2;omega,hE.fresh,?_,ho1⟩,rfl,rfl⟩;rw[hs];exact hG1.ext hE
 obtain⟨⟨v,H',nx'⟩,⟨ya',yp',yd',ra',rp',h1,h2,h3,h4⟩,h5⟩:=Ev.ofx hp2 L.h161 rfl rfl _ key;exact⟨v,H',nx',ya',yp',yd',ra',rp',h1,h2,h3,h4,h5⟩
end
section
variable {p1:Nat->Option Arb.IFn} {p2:Nat->Option IFn}
theorem callCheckD (L:LibR p1 p2) (x:Hd) (hp:x.ps.length<=100) (hh:x.hs.length<=100):∃K,∀m,K<=m->∀(H:Hp),(callM (one p1 m) (.iv (.fn 160 [])) [.agg (hdC x)]).run H=some (.nI (checkH x),H):=by
 obtain⟨K1,hK1⟩:=x_checkD L.h160 x (by unfold maxLen;omega) (by unfold maxLen;omega);refine⟨K1,λm hm H=>?_⟩;have e1:(one p1 m 160 [.agg (x.enc.map Arb.AV.iv)] []).bind shut=some (.nI (checkH x)):=hK1 m (by omega);have hz:∀w,fz1 w (.agg (hdC x)) = .ret (.agg (x.enc.map Arb.AV.iv)):=λw=>by
  unfold fz1;simp only[];rw[hd_fz8];rfl
 simp[callM,callee,Mrun_bindZ,M.lift,M.run,M.mapL,hz,e1,ofA,of1,M.ok,flat,flat1,flat0,flatI,M.bind]
theorem callEventD (L:LibR p1 p2) (e:E):∃K,∀m,K<=m->∀(H:Hp),(callM (one p1 m) (.iv (.fn 34 [])) [.agg (e.enc.map AV.iv)]).run H=some (.bI (rightE e),H):=by
 obtain⟨K1,hK1⟩:=p_rightE L.D.h43 L.h34 e;refine⟨K1,λm hm H=>?_⟩;have e1:(one p1 m 34 [.agg (e.enc.map Arb.AV.iv)] []).bind shut=some (.bI (rightE e)):=hK1 m (by omega);have hz:fz1 false (.agg (e.enc.map AV.iv)) = .ret (.agg (e.enc.map Arb.AV.iv)):=by
  unfold fz1;simp only[];rw[fz_ivs false 7 e.enc e.enc_all];rfl
 simp[callM,callee,Mrun_bindZ,M.lift,M.run,M.mapL,hz,e1,ofA,of1,M.ok,flat,flat1,flat0,flatI,M.bind]
set_option maxHeartbeats 4000000 in
theorem ev157 (hp2:PrimsLe p2) (L:LibR p1 p2) (x:Hd) (hp:x.ps.length<=100) (hh:x.hs.length<=100) (l:List Arb.Op) (hl:l.length<=1000) (hok:∀o ∈ l,o.ok) (H:Hp) (nx:Nat) (hf:Fresh H nx) :
  ∃H' nx' lid ya yp yd ra rp,Ext H nx H' nx'/\LGp (nx+1) H' nx' lid [] (readX x l) ya yp yd ra rp/\Ev p1 p2 157 [.agg (hdC x),.iv (.sl 24 (l.map Arb.Op.enc))] H nx (.ref lid 0 0 0,H',nx'):=by
 have hfr:get H (4*nx)=none:=hf _ (by omega);have hfr2:get H (4*(nx+3))=none:=hf _ (by omega);have hE1:Ext H nx (Arx.set H (4*nx) (.cells (hdC x))) (nx+2):=(Ext.refl hf (by omega)).set (by omega) (by omega) _;have hfr3:get (Arx.set H (4*nx) (.cells (hdC x))) (4*(nx+3))=none:=by rw[get_set_ne _ _ (by omega)];exact hfr2
 have hE2:Ext H nx (Arx.set (Arx.set H (4*nx) (.cells (hdC x))) (4*(nx+3)) (.cells [.iv (.nsl 5),.iv (.nsl 15),.iv (.nsl 1)])) (nx+5):=(hE1.up (show nx+2<=nx+5 by omega)).set (by omega) (by omega) _;have hbx:get (Arx.set (Arx.set H (4*nx) (.cells (hdC x))) (4*(nx+3)) (.cells [.iv (.nsl 5),.iv (.nsl 15),.iv (.nsl 1)])) (4*nx)=some (.cells (hdC x)):=by rw[get_set_ne _ _ (by omega)];exact get_set_same _ _ _
 have hlx:get (Arx.set (Arx.set H (4*nx) (.cells (hdC x))) (4*(nx+3)) (.cells [.iv (.nsl 5),.iv (.nsl 15),.iv (.nsl 1)])) (4*(nx+3))=some (.cells [.iv (.nsl 5),.iv (.nsl 15),.iv (.nsl 1)]):=get_set_same _ _ _;generalize hH1:Arx.set (Arx.set H (4*nx) (.cells (hdC x))) (4*(nx+3)) (.cells [.iv (.nsl 5),.iv (.nsl 15),.iv (.nsl 1)])=H1 at hE2 hbx hlx;have G1:LGp (nx+1) H1 (nx+5) (4*(nx+3)) [] ⟨[],[],[]⟩ (.iv (.nsl 5)) (.iv (.nsl 15)) (.iv (.nsl 1)) [] []:=
  ⟨⟨by omega,by omega⟩,hlx,QE.nil _ _ _,AL.nil _ _,QE.nil _ _ _,PL.nil,QE.nil _ _ _,(λk o m w h=>by cases h),(λk o m w h=>by cases h),(λk o m w h=>by cases h),λa ha=>by cases ha⟩
 obtain⟨K1,hK1⟩:=callCheckD (p1:=p1) L x hp hh;have key:Wp p1 p2 F157.body ⟨params [.agg (hdC x),.iv (.sl 24 (l.map Arb.Op.enc))] 0,H,nx⟩ (λe st=>∃r:AV×Hp×Nat,(∃lid ya yp yd ra rp,r.1 = .ref lid 0 0 0/\Ext H nx r.2.1 r.2.2/\LGp (nx+1) r.2.1 r.2.2 lid [] (readX x l) ya yp yd ra rp)/\Fin F157.res r e st):=by
  refine Wps0Z (by simp[hfr];rfl) ?_;refine Wps0Z (s':=⟨_,H1,nx+5⟩) (by
   rw[<-hH1];simp[hfr3,putAll,Nat.add_assoc];rfl) ?_
  refine ab (ab ?_);unfold readX;refine WprgZ ?_;refine WpblockZ ?_;have ask:∀(i n2:Nat) (H2:Hp),get H2 (4*nx)=some (.cells (hdC x))->∀n,K1<=n->evalRgn (one p1 n) (run2 p1 p2 n) false [⟨some 9,.mov (.t 6),none,[]⟩,⟨some 10,.mov (.t 1),none,[]⟩,⟨some 11,.len false (.t 10),none,[]⟩,⟨some 12,.bin .lss 0 (.t 9) (.t 11),none,[]⟩,⟨some 13,.mov (.t 12),none,[]⟩,
    ⟨some 14,.load true 4 (.t 2),some (13,true),[]⟩,⟨some 15,.call 0 (.c (.iv (.fn 160 []))) [.t 14],some (13,true),[]⟩,⟨some 16,.bin .eql 0 (.t 15) (.c (.nI (0))),some (13,true),[]⟩,⟨some 17,.pick (.t 13) (.t 16) (.c (.bI false)),none,[]⟩] [1,2,5,6,17]
    ⟨[(1,.iv (.sl 24 (l.map Arb.Op.enc))),(2,.ref (4*nx) 0 0 0),(5,.ref (4*(nx+3)) 0 0 0),(6,.nI i)],H2,n2⟩=some ⟨[(1,.iv (.sl 24 (l.map Arb.Op.enc))),(2,.ref (4*nx) 0 0 0),(5,.ref (4*(nx+3)) 0 0 0),(6,.nI i),(17,.bI (decide (i<l.length)&&decide (checkH x=0)))],H2,n2+9⟩:=by
   intro i n2 H2 hb2 n hn;have c:=hK1 n hn H2;have hb:(checkH x==0)=decide (checkH x=0):=by by_cases h:checkH x=0<;>simp[h]
   generalize checkH x=q at *;generalize hrow:l.map Arb.Op.enc=scr;have hsl:scr.length=l.length:=by rw[<-hrow];simp
   cases h0:decide (i<l.length)<;>simp[hb2,hd_take,hd_len,c,hb,hsl,h0]
  refine WploopZ (λm s1=>∃(i n2:Nat) (H2:Hp) (ya yp yd:AV) (ra rp:List (List AV)),i+m=l.length/\nx+5<=n2/\Fresh H2 n2/\LGp (nx+1) H2 n2 (4*(nx+3)) [] (readTo x l i) ya yp yd ra rp/\(∀k,k<4*(nx+1)->get H2 k=get H1 k)/\(0<i->checkH x=0)/\
   s1=⟨[(1,.iv (.sl 24 (l.map Arb.Op.enc))),(2,.ref (4*nx) 0 0 0),(5,.ref (4*(nx+3)) 0 0 0),(6,.nI i)],H2,n2⟩) (m:=l.length)
   ⟨0,nx+6,H1,_,_,_,_,_,by omega,by omega,λk hk=>hE2.fresh k (by omega),G1.ext (Ext.refl hE2.fresh (by omega)),λ_ _=>rfl,λh=>absurd h (Nat.lt_irrefl 0),by simp[fr_cons,keepFr]⟩ ?_
  rintro m s1 ⟨i,n2,H2,ya,yp,yd,ra,rp,him,hn2,hf2,G2,ho2,hi0,rfl⟩;refine ab (ab ?_);refine WprgnZ (K:=K1) (λn hn=>ask i n2 H2 (by rw[ho2 _ (by omega)];exact hbx) n hn) ?_;refine WpcondZ rfl ?_;cases hgo:(decide (i<l.length)&&decide (checkH x=0))with
  |true=>
   simp only[Bool.and_eq_true,decide_eq_true_eq]at hgo;obtain⟨hi,hc⟩:=hgo;obtain⟨o,ho⟩:∃o,l[i]?=some o:=⟨_,List.getElem?_eq_getElem hi⟩;have hrow:(l.map Arb.Op.enc)[i]?=some o.enc:=by rw[List.getElem?_map,ho];rfl
   have hw1:IntKind.i64.wrap ((i:Int)+1)=(i:Int)+1:=IntWalk.i64_in _ (by omega);have hlen:=readTo_len x l i;have hnext:=readTo_succ (h:=x) ho;obtain⟨o0,o1, -, -, -, -,o6⟩:=op_at o;have hel:(o.e.enc).length=12:=rfl;have ho24:o.enc.take 24=o.enc:=List.take_of_length_le (by omega);simp only[if_true];refine WpskipZ ?_;simp only[Ex.then];refine ab (WpblockZ (ab ?_));generalize hscr:l.map Arb.Op.enc=scr at *;refine Wpr0Z (by
    have:(o.k != 4)=!decide (o.k=4):=by by_cases h:o.k=4<;>simp[h]
    simp[hrow,o0,o1,this];rfl) ?_
   refine WpcondZ rfl ?_;have hb2:get H2 (4*nx)=some (.cells (hdC x)):=by rw[ho2 _ (by omega)];exact hbx
   have hcont:∀(H4:Hp) (n4:Nat) (Q:Ex->St->Prop),Q .norm ⟨[(1,.iv (.sl 24 scr)),(2,.ref (4*nx) 0 0 0),(5,.ref (4*(nx+3)) 0 0 0),(6,.nI (i+1:Nat))],H4,n4+3⟩->∀fr,fr=[(1,AV.iv (.sl 24 scr)),(2,.ref (4*nx) 0 0 0),(5,.ref (4*(nx+3)) 0 0 0),(6,.nI i)]\/fr=[(1,AV.iv (.sl 24 scr)),(2,.ref (4*nx) 0 0 0),(5,.ref (4*(nx+3)) 0 0 0),(6,.nI i),(25,.bI false)]->
     Wp p1 p2 (.rgn false [⟨some 18,.mov (.t 6),none,[]⟩,⟨some 19,.bin .add 0 (.t 18) (.c (.nI (1))),none,[]⟩,⟨some 6,.mov (.t 19),none,[]⟩] [1,2,5,6]) ⟨fr,H4,n4⟩ Q:=λH4 n4 Q hQ fr hfr=>by
    refine WprgnZ (K:=0) (s':=⟨[(1,.iv (.sl 24 scr)),(2,.ref (4*nx) 0 0 0),(5,.ref (4*(nx+3)) 0 0 0),(6,.nI (i+1:Nat))],H4,n4+3⟩) (λn _=>by
     rcases hfr with rfl | rfl
     ·simp[hw1]
     ·simp[hw1]) hQ
   by_cases k4:o.k=4
   ·rw[decide_eq_true k4];simp only[Bool.not_true,Bool.false_eq_true,if_false];refine WpskipZ ?_;simp only[Ex.then,Ex.inBlock];have hs4:stepX x (readTo x l i) i o=readTo x l i:=by
     unfold stepX;simp only[k4,show ¬(4:Int)=5 by decide,show ¬(4:Int)=1 by decide,show ¬(4:Int)=2 by decide,show ¬(4:Int)=3 by decide,if_false,ite_self]
    have hE3:=Ext.refl hf2 (show n2<=n2+9+6+3 by omega);refine hcont H2 (n2+9+6) _ ⟨m - 1,by omega,i+1,n2+9+6+3,H2,ya,yp,yd,ra,rp,by omega,by omega,hE3.fresh,?_,ho2,λ_=>hc,by simp[fr_cons,keepFr]⟩ _ (.inr rfl);rw[hnext,hs4];exact G2.ext hE3
   ·rw[decide_eq_false k4];simp only[Bool.not_false,if_true];refine Wp.drawn rfl ?_;obtain⟨K2,hK2⟩:=callEventD (p1:=p1) L o.e;have hE3:=Ext.refl hf2 (show n2<=n2+9+6+15 by omega);obtain⟨v,H4,n4,ya',yp',yd',ra',rp',b1,b2,b3,b4,K3,hK3⟩:=ev161 (p1:=p1) hp2 L x i o (hok o (List.mem_of_getElem? ho)) (nx+1) (4*(nx+3)) (readTo x l i) H2 (n2+9+6+15) hE3.fresh (G2.ext hE3) (by omega) (by omega) (by omega);refine WprgnZ (K:=max K2 K3) (s':=⟨[(1,.iv (.sl 24 scr)),(2,.ref (4*nx) 0 0 0),(5,.ref (4*(nx+3)) 0 0 0),(6,.nI i)],H4,n4⟩) (λn hn=>by
     have c1:=hK2 n (by omega) H2;have c2:=hK3 n (by omega);generalize run2 p1 p2 n=cx at *;generalize rightE o.e=re at *;generalize o.e.enc=ee at *;generalize o.enc=oe at *;have hcast:((i+1:Nat):Int)=(i:Int)+1:=by omega
     rw[hcast]at c2;simp[hrow,hb2,hd_take,hd_len,hw1,o0,o6,ho24,hel,c1,c2]) ?_
    simp only[Ex.then,Ex.inBlock];refine hcont H4 n4 _ ⟨m - 1,by omega,i+1,n4+3,H4,ya',yp',yd',ra',rp',by omega,by omega,λk hk=>b2 k (by omega),?_,λk hk=>(b4 k hk).trans (ho2 k hk),λ_=>hc,by simp[fr_cons,keepFr]⟩ _ (.inl rfl);rw[hnext];exact b3.ext (Ext.refl b2 (by omega))
  |false=>
   simp only[Bool.false_eq_true,if_false];refine WpexitZ ?_;simp only[Ex.then,Ex.inBlock,if_true];refine WpsgZ ?_;have hE3:=Ext.refl hf2 (show n2<=n2+9+2 by omega);have hrd:readTo x l i=if checkH x=0 then readTo x l l.length else⟨[],[],[]⟩:=by
    by_cases hc:checkH x=0
    ·rw[if_pos hc];rw[decide_eq_true hc,Bool.and_true]at hgo;have:=of_decide_eq_false hgo;rw[show i=l.length by omega]
    ·rw[if_neg hc];have:i=0:=Classical.byContradiction λh=>hc (hi0 (by omega))
     rw[this];rfl
   refine WpretZ ⟨(_,H2,n2+9+2),⟨_,ya,yp,yd,ra,rp,rfl,⟨by show nx<=n2+9+2;omega,hE3.fresh,λk hk=>by show get H2 k=get H k;rw[ho2 k (by omega)];exact hE2.old k hk⟩,?_⟩,rfl,rfl⟩;rw[<-hrd];exact G2.ext hE3
 obtain⟨⟨y,H',nx'⟩,⟨lid,ya,yp,yd,ra,rp,rfl,h1,h2⟩,h4⟩:=Ev.ofx hp2 L.h157 rfl rfl _ key;exact⟨H',nx',lid,ya,yp,yd,ra,rp,h1,h2,h4⟩
end
def behS (s b d:Int):Int:=if b=0/\s<d then d else b
def behD (s:Int) (l:List Int):Int:=l.foldl (behS s) 0
def skipD (c bt:Int) (e:E) (a:Act):Bool:=(a.c != c)||((decide (0<a.t)&&decide (a.t<bt))||!hasF a.b e)
def drD (f s d:Int):Bool:=decide (f<d)&&decide (d<s)
def actD (c bt:Int) (p:Pb) (l:List Int) (a:Act):Bool:=!skipD c bt p.e a&&l.any (drD a.f p.s)
def mustD (g:Lg) (c:Int) (p:Pb):Int×Bool:=if behD p.s g.drains=0 then(0,false) else if g.acts.any (actD c (behD p.s g.drains) p g.drains) then(behD p.s g.drains,true) else(0,false)
theorem behD_take {s:Int} {l:List Int} {i:Nat} {d:Int} (h:l[i]?=some d):behD s (l.take (i+1))=behS s (behD s (l.take i)) d:=by
 unfold behD;rw[List.take_add_one,h,List.foldl_append];rfl
section
variable {p1:Nat->Option Arb.IFn} {p2:Nat->Option IFn}
theorem callHas8 (L:LibR p1 p2) (bs:List B) (hl:bs.length<=1000) (hb:∀b ∈ bs,b.lim 1000 400) (e:E):∃K,∀m,K<=m->∀(H:Hp) (n:Nat) (y:AV),LB H n y bs->(callM (one p1 m) (.iv (.fn 8 [])) [y,.agg (e.enc.map AV.iv)]).run H=some (.bI (hasF bs e),H):=by
 obtain⟨K,hK⟩:=p_hasF L.D.toHas3 L.h34 L.h20 L.h8 bs e (by unfold maxLen;omega) (fits_of hb);refine⟨K,λm hm H n y hy=>?_⟩;have e1:(one p1 m 8 [.iv (.sl 16 (bs.map B.enc)),.agg (e.enc.map Arb.AV.iv)] []).bind shut=some (.bI (hasF bs e)):=hK m hm;have hz:=hy.fz0;have hz2:fz1 false (.agg (e.enc.map AV.iv)) = .ret (.agg (e.enc.map Arb.AV.iv)):=by
  unfold fz1;simp only[];rw[fz_ivs false 7 e.enc e.enc_all];rfl
 generalize hasF bs e=q at *;simp[callM,callee,Mrun_bindZ,M.lift,M.run,M.mapL,hz,hz2,e1,ofA,of1,M.ok,flat,flat1,flat0,flatI,M.bind]
theorem pbC_len (i:Nat) (p:Pb):(pbC i p).length=15:=rfl
theorem pbC_14 (i:Nat) (p:Pb):((pbC i p).drop 14).take 1=[.nI p.s]:=rfl
theorem pbC_e (i:Nat) (p:Pb):((pbC i p).drop 2).take 12=p.e.enc.map AV.iv:=rfl
set_option maxHeartbeats 8000000 in
theorem ev156 (hp2:PrimsLe p2) (L:LibR p1 p2) {lo lid:Nat} {H:Hp} {nx:Nat} {g:Lg} {ya yp yd:AV} {ra rp:List (List AV)} (G:LGp lo H nx lid [] g ya yp yd ra rp) (hf:Fresh H nx) (hla:g.acts.length<=1000) (hld:g.drains.length<=1000) (c:Int) (i:Nat) (p:Pb) :
  ∃H' nx',Ext H nx H' nx'/\Ev p1 p2 156 [.ref lid 0 0 0,.nI c,.agg (pbC i p)] H nx (.tup [.iv (.int .i64 (mustD g c p).1),.iv (.bool (mustD g c p).2)],H',nx'):=by
 have hp14:=pbC_14 i p;have hpe:=pbC_e i p;have hel:(p.e.enc.map AV.iv).length=12:=rfl;obtain⟨s,hs⟩:∃s,p.s=s:=⟨_,rfl⟩;rw[hs]at hp14;have hM:mustD g c p=if behD s g.drains=0 then(0,false) else if g.acts.any (actD c (behD s g.drains) p g.drains) then(behD s g.drains,true) else(0,false):=by unfold mustD;rw[hs]
 generalize hMR:mustD g c p=R at hM;generalize pbC i p=pc at *;have hfr:get H (4*nx)=none:=hf _ (by omega);have hE1:Ext H nx (Arx.set H (4*nx) (.cells pc)) (nx+3):=(Ext.refl hf (by omega)).set (by omega) (by omega) _;have hb1:get (Arx.set H (4*nx) (.cells pc)) (4*nx)=some (.cells pc):=get_set_same _ _ _;have G1:=G.ext hE1;have key:Wp p1 p2 F156.body ⟨params [.ref lid 0 0 0,.nI c,.agg pc] 0,H,nx⟩ (λe st=>∃r:AV×Hp×Nat,(r.1 = .tup [.nI R.1,.bI R.2]/\Ext H nx r.2.1 r.2.2)/\Fin F156.res r e st):=by
  refine Wps0Z (by simp[hfr];rfl) ?_;generalize hH1:Arx.set H (4*nx) (.cells pc)=H1 at *;refine WpsgZ ?_;refine ab (WpsgZ ?_);have hld1:=QE.len G1.d;have hat:=G1.at_;rw[List.length_map]at hld1;simp only[List.nil_append]at hat;refine WpblockZ ?_;refine WploopZ (λm s1=>∃(j n2:Nat),j+m=g.drains.length/\nx+3<=n2/\
   s1=⟨[(0,.ref lid 0 0 0),(1,.nI c),(5,.ref (4*nx) 0 0 0),(8,.nI (behD s (g.drains.take j))),(9,.nI j)],H1,n2⟩) (m:=g.drains.length)
   ⟨0,nx+3+1+1,by omega,by omega,by simp[fr_cons,keepFr,behD]⟩ ?_
  rintro m s1 ⟨j,n2,hjm,hn2,rfl⟩;refine ab (ab ?_);by_cases hj:j<g.drains.length
  ·obtain⟨d,hd⟩:∃d,g.drains[j]?=some d:=⟨_,List.getElem?_eq_getElem hj⟩;have hrow:(g.drains.map numC)[j]?=some (numC d):=by rw[List.getElem?_map,hd];rfl
   have hd':g.drains[j]'hj=d:=(List.getElem?_eq_some_iff.1 hd).2;have hw1:IntKind.i64.wrap ((j:Int)+1)=(j:Int)+1:=IntWalk.i64_in _ (by omega);obtain⟨idd,vd,i1, -,hyd,i4⟩:=QE.at_ G1.d hrow;rw[List.length_map]at hyd;have hnb:=behD_take (s:=s) hd;generalize behD s (g.drains.take j)=b at *;unfold behS at hnb;refine Wpr0Z (by
    simp[-len,hat,hld1,hj];rfl) ?_
   rw[hyd]at hat;refine WpcondZ (t:=true) rfl (WpskipZ (ab (WpblockZ (ab (Wp.drawn rfl ?_)))));refine Wpr0Z (s':=⟨[(0,.ref lid 0 0 0),(1,.nI c),(5,.ref (4*nx) 0 0 0),(8,.nI b),(9,.nI j),(35,.bI (b==0&&decide (s<d)))],H1,n2+7+14⟩) (by
    cases h0:b==0<;>simp[hat,hb1,i4,hj,hd',numC,hp14,h0]) ?_
   refine WpcondZ rfl ?_;cases hq:(b==0&&decide (s<d))with
   |true=>
    rw[Bool.and_eq_true,beq_iff_eq,decide_eq_true_eq]at hq;rw[if_pos hq]at hnb;simp only[if_true];refine Wpr0Z (by
     simp[hat,i4,hj,hd',numC];rfl) ?_
    simp only[Ex.then,Ex.inBlock];refine Wpr0Z (by simp[hw1];rfl) ?_;exact⟨m - 1,by omega,j+1,_,by omega,by show nx+3<=n2+7+14+8+3;omega,by simp[fr_cons,keepFr,hnb]⟩
   |false=>
    rw[if_neg (λh=>by rw[h.1,decide_eq_true h.2]at hq;simp at hq)]at hnb;simp only[Bool.false_eq_true,if_false];refine WpskipZ ?_;simp only[Ex.then,Ex.inBlock];refine Wpr0Z (by simp[hw1];rfl) ?_;exact⟨m - 1,by omega,j+1,_,by omega,by show nx+3<=n2+7+14+3;omega,by simp[fr_cons,keepFr,hnb]⟩
  ·obtain rfl:j=g.drains.length:=by omega
   rw[List.take_length];generalize behD s g.drains=bt at *;refine Wpr0Z (by
    simp[-len,hat,hld1];rfl) ?_
   refine WpcondZ (t:=false) rfl (WpexitZ ?_);simp only[Ex.then,Ex.inBlock,if_true];refine ab (ab ?_);have hb0:(bt==0)=decide (bt=0):=by by_cases h:bt=0<;>simp[h]
   refine Wpr0Z (by simp[hb0];rfl) ?_;refine WpcondZ rfl ?_;by_cases hbt:bt=0
   ·rw[if_pos hbt]at hM;subst hM;rw[decide_eq_true hbt];simp only[if_true];refine WpsgZ ?_;have hE:=hE1.trans (Ext.refl hE1.fresh (show nx+3<=n2+7+2+2 by omega));exact WpretZ ⟨(_,H1,n2+7+2+2),⟨rfl,hE⟩,rfl,rfl⟩
   ·rw[if_neg hbt]at hM;rw[decide_eq_false hbt];simp only[Bool.false_eq_true,if_false];refine WpskipZ ?_;simp only[Ex.then];refine ab (WpsgZ ?_);have hral:ra.length=g.acts.length:=G1.al.1;refine WpblockZ ?_;refine WploopZ (λm s1=>∃(j n3:Nat) (H2:Hp),j+m=g.acts.length/\Ext H nx H2 n3/\Ext H1 (nx+3) H2 n3/\(g.acts.take j).any (actD c bt p g.drains)=false/\
     s1=⟨[(0,.ref lid 0 0 0),(1,.nI c),(5,.ref (4*nx) 0 0 0),(8,.nI bt),(10,.nI j)],H2,n3⟩) (m:=g.acts.length)
     ⟨0,n2+7+2+1,H1,by omega,hE1.trans (Ext.refl hE1.fresh (show nx+3<=n2+7+2+1 by omega)),Ext.refl hE1.fresh (show nx+3<=n2+7+2+1 by omega),rfl,by simp[fr_cons,keepFr]⟩ ?_
    clear hjm hn2 hj hat;rintro m s1 ⟨j,n3,H2,hjm,hEH,hE12,hany,rfl⟩;have G2:=G1.ext hE12;have hat:=G2.at_;simp only[List.nil_append]at hat;have hla2:=G2.a.len;rw[hral]at hla2;have hb2:get H2 (4*nx)=some (.cells pc):=by rw[hE12.old _ (by omega)];exact hb1
    refine ab (ab ?_);by_cases hj:j<g.acts.length
    ·obtain⟨a,ha⟩:∃a,g.acts[j]?=some a:=⟨_,List.getElem?_eq_getElem hj⟩;have hw1:IntKind.i64.wrap ((j:Int)+1)=(j:Int)+1:=IntWalk.i64_in _ (by omega);obtain⟨row,hrow,yrow,rfl,hyrow⟩:=G2.al.get ha;obtain⟨ida,va,i1, -,hya,i4⟩:=G2.a.at_ hrow;rw[hral]at hya;simp only[numV]at hrow;have haf:=G2.fits a (List.mem_of_getElem? ha);have hnext:=take_succ_any (f:=actD c bt p g.drains) ha;rw[hany,Bool.false_or]at hnext;refine Wpr0Z (by
      simp[-len,hat,hla2,hj];rfl) ?_
     rw[hya]at hat;refine WpcondZ (t:=true) rfl (WpskipZ (ab (WpblockZ (ab ?_))));have hfr2:get H2 (4*(n3+7+7))=none:=hE12.fresh _ (by omega);have hE3:Ext H2 n3 (Arx.set (Arx.set H2 (4*(n3+7+7)) (.cells [.nI 0,.nI 0,.iv (.nsl 16),.nI 0,.nI 0])) (4*(n3+7+7)) (.cells [.nI a.c,.nI a.u,yrow,.nI a.f,.nI a.t])) (n3+7+9):=
      ((Ext.refl hE12.fresh (show n3<=n3+7+9 by omega)).set (by omega) (by omega) _).set (by omega) (by omega) _
     generalize hH3:(Arx.set (Arx.set H2 (4*(n3+7+7)) (Ob.cells [.nI 0,.nI 0,.iv (.nsl 16),.nI 0,.nI 0])) (4*(n3+7+7)) (Ob.cells [.nI a.c,.nI a.u,yrow,.nI a.f,.nI a.t]))=H3 at hE3;have h3g:get H3 (4*(n3+7+7))=some (.cells [.nI a.c,.nI a.u,yrow,.nI a.f,.nI a.t]):=by rw[<-hH3];exact get_set_same _ _ _
     have hy3:=hyrow.ext hE3;have hb3:get H3 (4*nx)=some (.cells pc):=by rw[hE3.old _ (by have:=hE12.le;omega)];exact hb2
     refine Wpr0Z (s':=⟨_,H3,n3+7+9⟩) (by
      rw[<-hH3];simp[hat,i4,hj,hrow,hfr2];rfl) ?_
     have hE23:=hE12.trans hE3;have hEH3:=hEH.trans hE3;have G3:=G1.ext hE23;have hat3:=G3.at_;simp only[List.nil_append]at hat3;obtain⟨K1,hK1⟩:=callHas8 (p1:=p1) L a.b haf.1 haf.2 p.e;refine ab (WpskZ (K:=K1) (s':=⟨[(0,.ref lid 0 0 0),(1,.nI c),(5,.ref (4*nx) 0 0 0),(8,.nI bt),(10,.nI j),(11,.ref (4*(n3+7+7)) 0 0 0),(83,.bI (skipD c bt p.e a))],H3,n3+7+9+23⟩) (λn hn=>by
      have c1:=hK1 n hn H3 _ yrow hy3;unfold skipD;generalize hasF a.b p.e=hq at *;generalize p.e.enc.map AV.iv=ee at *;cases h0:a.c != c with
      |true=>simp[h3g,h0]
      |false=>
       cases h1:decide (0<a.t)with
       |false=>simp[h3g,hb3,hpe,hel,h0,h1,c1]
       |true=>cases h2:decide (a.t<bt)<;>simp[h3g,hb3,hpe,hel,h0,h1,h2,c1]) ?_)
     refine WpcondZ rfl ?_;cases hsk:skipD c bt p.e a with
     |true=>
      have:actD c bt p g.drains a=false:=by unfold actD;rw[hsk];rfl
      rw[this]at hnext;simp only[if_true];refine WpexitZ ?_;simp only[Ex.then,Ex.inBlock,if_true];have hup:=Ext.refl hE3.fresh (show n3+7+9<=n3+7+9+23+3 by omega);refine Wpr0Z (by simp[hw1];rfl) ?_;exact⟨m - 1,by omega,j+1,_,H3,by omega,hEH3.trans hup,hE23.trans hup,hnext,by simp[fr_cons,keepFr]⟩
     |false=>
      have had:actD c bt p g.drains a=g.drains.any (drD a.f p.s):=by unfold actD;rw[hsk];rfl
      rw[had,hs]at hnext;simp only[Bool.false_eq_true,if_false];refine WpskipZ ?_;simp only[Ex.then];refine WpsgZ ?_;have hld3:=QE.len G3.d;rw[List.length_map]at hld3;refine WpblockZ ?_;refine WploopZ (λm s1=>∃(k n4:Nat),k+m=g.drains.length/\n3+7+9<=n4/\(g.drains.take k).any (drD a.f s)=false/\
       s1=⟨[(0,.ref lid 0 0 0),(1,.nI c),(5,.ref (4*nx) 0 0 0),(8,.nI bt),(10,.nI j),(11,.ref (4*(n3+7+7)) 0 0 0),(12,.nI k)],H3,n4⟩) (m:=g.drains.length)
       ⟨0,n3+7+9+23+1,by omega,by omega,rfl,by simp[fr_cons,keepFr]⟩ ?_
      rintro m5 s5 ⟨k,n4,hkm,hn4,hany2,rfl⟩;refine ab (ab ?_);by_cases hk:k<g.drains.length
      ·obtain⟨d,hd⟩:∃d,g.drains[k]?=some d:=⟨_,List.getElem?_eq_getElem hk⟩;have hrowd:(g.drains.map numC)[k]?=some (numC d):=by rw[List.getElem?_map,hd];rfl
       have hd':g.drains[k]'hk=d:=(List.getElem?_eq_some_iff.1 hd).2;have hwk:IntKind.i64.wrap ((k:Int)+1)=(k:Int)+1:=IntWalk.i64_in _ (by omega);obtain⟨idd,vd, -, -,hyd,d4⟩:=QE.at_ G3.d hrowd;rw[List.length_map]at hyd;have hnk:=take_succ_any (f:=drD a.f s) hd;rw[hany2,Bool.false_or]at hnk;refine Wpr0Z (by
        simp[-len,hat3,hld3,hk];rfl) ?_
       rw[hyd]at hat3;refine WpcondZ (t:=true) rfl (WpskipZ (ab (WpblockZ (ab (Wp.drawn rfl ?_)))));refine Wpr0Z (s':=⟨[(0,.ref lid 0 0 0),(1,.nI c),(5,.ref (4*nx) 0 0 0),(8,.nI bt),(10,.nI j),(11,.ref (4*(n3+7+7)) 0 0 0),(12,.nI k),(114,.bI (drD a.f s d))],H3,n4+7+22⟩) (by
        unfold drD;cases h0:decide (a.f<d)<;>simp[hat3,h3g,hb3,d4,hk,hd',numC,hp14,h0]) ?_
       refine WpcondZ rfl ?_;cases hq:drD a.f s d with
       |true=>
        have hall:g.acts.any (actD c bt p g.drains)=true:=by
         refine List.any_eq_true.2 ⟨a,List.mem_of_getElem? ha,?_⟩;rw[had,hs];exact List.any_eq_true.2 ⟨d,List.mem_of_getElem? hd,hq⟩
        rw[if_pos hall]at hM;subst hM;simp only[if_true];refine WpsgZ ?_;have hup:=hEH3.trans (Ext.refl hE3.fresh (show n3+7+9<=n4+7+22+3 by omega));exact WpretZ ⟨(_,H3,n4+7+22+3),⟨rfl,hup⟩,rfl,rfl⟩
       |false=>
        rw[hq]at hnk;simp only[Bool.false_eq_true,if_false];refine WpskipZ ?_;simp only[Ex.then,Ex.inBlock];refine Wpr0Z (by simp[hwk];rfl) ?_;exact⟨m5 - 1,by omega,k+1,_,by omega,by show n3+7+9<=n4+7+22+3;omega,hnk,by simp[fr_cons,keepFr]⟩
      ·obtain rfl:k=g.drains.length:=by omega
       rw[List.take_length]at hany2;rw[hany2]at hnext;refine Wpr0Z (by
        simp[-len,hat3,hld3];rfl) ?_
       refine WpcondZ (t:=false) rfl (WpexitZ ?_);simp only[Ex.then,Ex.inBlock,if_true];have hup:=Ext.refl hE3.fresh (show n3+7+9<=n4+7+3 by omega);refine Wpr0Z (by simp[hw1];rfl) ?_;exact⟨m - 1,by omega,j+1,_,H3,by omega,hEH3.trans hup,hE23.trans hup,hnext,by simp[fr_cons,keepFr]⟩
    ·obtain rfl:j=g.acts.length:=by omega
     rw[List.take_length]at hany;rw[if_neg (by rw[hany];simp)]at hM;subst hM;refine Wpr0Z (by
      simp[-len,hat,hla2];rfl) ?_
     refine WpcondZ (t:=false) rfl (WpexitZ ?_);simp only[Ex.then,Ex.inBlock,if_true];refine WpsgZ ?_;have hup:=hEH.trans (Ext.refl hEH.fresh (show n3<=n3+7+2 by omega));exact WpretZ ⟨(_,H2,n3+7+2),⟨rfl,hup⟩,rfl,rfl⟩
 obtain⟨⟨y,H',nx'⟩,⟨rfl,h1⟩,h4⟩:=Ev.ofx hp2 L.h156 rfl rfl _ key;exact⟨H',nx',h1,h4⟩
end
end Arx
namespace Arx
open Go Arb
structure WF (g:Lg) (t:Int):Prop where
 inc:g.drains.Pairwise (·< ·)
 pos:∀d ∈ g.drains,0<d/\d<=t
 pub:∀p ∈ g.pubs,p.s<=t/\p.s ∉ g.drains
 act:∀a ∈ g.acts,0<=a.t
theorem WF.step {x:Hd} {g:Lg} {i:Nat} {o:Arb.Op} (h:WF g i):WF (stepX x g i o) ((i+1:Nat):Int):=by
 have hcast:((i+1:Nat):Int)=(i:Int)+1:=by omega
 rw[hcast];have up:WF g ((i:Int)+1):=⟨h.inc,λd hd=>by have:=h.pos d hd;omega,λp hp=>⟨by have:=(h.pub p hp).1;omega,(h.pub p hp).2⟩,h.act⟩;unfold stepX;simp only[];by_cases k5:o.k=5
 ·have hd:WF { g with drains:=g.drains++[(i:Int)+1] } ((i:Int)+1):=by
   refine⟨?_,λd hd=>?_,λp hp=>⟨(up.pub p hp).1,λhm=>?_⟩,h.act⟩
   ·rw[List.pairwise_append];exact⟨h.inc,List.pairwise_singleton _ _,λa ha b hb=>by rw[List.mem_singleton.1 hb];have:=h.pos a ha;omega⟩
   ·rcases List.mem_append.1 hd with hd | hd
    ·exact up.pos d hd
    ·rw[List.mem_singleton.1 hd];omega
   ·rcases List.mem_append.1 hm with hm | hm
    ·exact(h.pub p hp).2 hm
    ·have:=(h.pub p hp).1;have:=List.mem_singleton.1 hm;omega
  simp only[k5,if_true,show ¬(5:Int)=1 by decide,show ¬(5:Int)=2 by decide,show ¬(5:Int)=3 by decide,if_false,ite_self];exact hd
 ·simp only[if_neg k5];split
  ·exact up
  ·split
   ·unfold subX;split
    ·refine⟨up.inc,up.pos,up.pub,λa ha=>?_⟩;rcases List.mem_append.1 ha with ha | ha
     ·exact h.act a ha
     ·rw[List.mem_singleton.1 ha];exact Int.le_refl 0
    ·exact up
   ·split
    ·refine⟨up.inc,up.pos,up.pub,λa ha=>?_⟩;unfold endX at ha;simp only[]at ha;split at ha
     ·obtain⟨k,hk,he⟩:=List.getElem_of_mem ha;rw[List.getElem_modify]at he;split at he
      ·rw[<-he];show(0:Int)<=(i:Int)+1;omega
      ·rw[<-he];exact h.act _ (List.getElem_mem _)
     ·exact h.act a ha
    ·split
     ·split
      ·refine⟨up.inc,up.pos,λp hp=>?_,up.act⟩;rcases List.mem_append.1 hp with hp | hp
       ·exact up.pub p hp
       ·rw[List.mem_singleton.1 hp];exact⟨Int.le_refl _,λhm=>by have:=(h.pos _ hm).2;simp only[]at this;omega⟩
      ·exact up
     ·exact up
theorem readTo_WF (x:Hd) (l:List Arb.Op):∀t,WF (readTo x l t) t
 |0=>⟨List.Pairwise.nil,λd hd=>(by cases hd),λp hp=>(by cases hp),λa ha=>(by cases ha)⟩
 |t+1=>by
  unfold readTo;split
  ·exact(readTo_WF x l t).step
  ·have h:=readTo_WF x l t;exact⟨h.inc,λd hd=>by have:=h.pos d hd;omega,λp hp=>⟨by have:=(h.pub p hp).1;omega,(h.pub p hp).2⟩,h.act⟩
theorem readX_WF (x:Hd) (l:List Arb.Op):∃t,WF (readX x l) t:=by
 unfold readX;split
 ·exact⟨_,readTo_WF x l l.length⟩
 ·exact⟨0,⟨List.Pairwise.nil,λd hd=>(by cases hd),λp hp=>(by cases hp),λa ha=>(by cases ha)⟩⟩
theorem first_drain (s:Int):∀(l:List Int) (k:Nat),(idxF (λt=>decide (s<t)) l k = -1/\∀d ∈ l,d<=s)\/
  ∃(i:Nat) (d:Int),idxF (λt=>decide (s<t)) l k=((k+i:Nat):Int)/\l[i]?=some d/\s<d/\∀e ∈ l.take i,e<=s
 |[],k=>.inl ⟨rfl,λd hd=>by cases hd⟩
 |a::l,k=>by
  unfold idxF;by_cases h:s<a
  ·rw[if_pos (decide_eq_true h)];exact .inr ⟨0,a,by simp,rfl,h,λe he=>by cases he⟩
  ·rw[if_neg (by simpa using h)];rcases first_drain s l (k+1)with⟨h1,h2⟩|⟨i,d,h1,h2,h3,h4⟩
   ·refine .inl ⟨h1,λd hd=>?_⟩;rcases List.mem_cons.1 hd with rfl | hd
    ·omega
    ·exact h2 d hd
   ·refine .inr ⟨i+1,d,by rw[h1];congr 1;omega,h2,h3,λe he=>?_⟩;rw[List.take_succ_cons]at he;rcases List.mem_cons.1 he with rfl | he
    ·omega
    ·exact h4 e he
theorem beh_none {s:Int}:∀{l:List Int} {b:Int},(∀d ∈ l,d<=s)->l.foldl (behS s) b=b
 |[],b,_=>rfl
 |a::l,b,h=>by
  have ha:=h a (List.mem_cons_self ..);rw[List.foldl_cons];have:behS s b a=b:=by unfold behS;rw[if_neg (λq=>by omega)]
  rw[this];exact beh_none λd hd=>h d (List.mem_cons_of_mem _ hd)
theorem beh_stay {s:Int}:∀{l:List Int} {b:Int},b≠0->l.foldl (behS s) b=b
 |[],b,_=>rfl
 |a::l,b,h=>by
  rw[List.foldl_cons];have:behS s b a=b:=by unfold behS;rw[if_neg (λq=>h q.1)]
  rw[this];exact beh_stay h
theorem beh_first {s d:Int} {l:List Int} {i:Nat} (h:l[i]?=some d) (hs:s<d) (hp:0<d) (he:∀e ∈ l.take i,e<=s):behD s l=d:=by
 have hl:l=l.take i++d::l.drop (i+1):=by rw[<-drop_cons h,List.take_append_drop]
 unfold behD;rw[hl,List.foldl_append,beh_none he,List.foldl_cons];have:behS s 0 d=d:=by unfold behS;rw[if_pos ⟨rfl,hs⟩]
 rw[this];exact beh_stay (by omega)
theorem must_eq {g:Lg} {t:Int} (h:WF g t) (c:Int) {p:Pb} (hp:p ∈ g.pubs):mustD g c p=(mustX g c p,decide (0<mustX g c p)):=by
 unfold mustX mustD;rcases first_drain p.s g.drains 0 with⟨h1,h2⟩|⟨i,d,h1,h2,h3,h4⟩
 ·have hb:behD p.s g.drains=0:=beh_none h2;rw[hb,if_pos rfl,h1];simp
 ·have hd:=h.pos d (List.mem_of_getElem? h2);have hb:behD p.s g.drains=d:=beh_first h2 h3 hd.1 h4;rw[hb,h1,Nat.zero_add,Int.toNat_natCast,h2];simp only[Option.getD_some];have hac:∀a ∈ g.acts,actD c d p g.drains a=mustA g c d i p.e a:=by
   intro a ha;have hat:=h.act a ha;unfold actD mustA;congr 1
   ·unfold skipD keptX;have e1:(a.c != c)=!(a.c==c):=rfl;have e2:(a.t==0||decide (d<=a.t))=!(decide (0<a.t)&&decide (a.t<d)):=by
     by_cases z:a.t=0
     ·simp[z]
     ·have hz:0<a.t:=by omega
      have hz':(a.t==0)=false:=by simpa using z
      rw[hz',decide_eq_true hz];by_cases q:d<=a.t
      ·rw[decide_eq_true q,decide_eq_false (by omega)];rfl
      ·rw[decide_eq_false q,decide_eq_true (by omega)];rfl
    rw[e1,e2];cases a.c==c<;>cases(decide (0<a.t)&&decide (a.t<d))<;>cases hasF a.b p.e<;>rfl
   ·rw[Bool.eq_iff_iff,List.any_eq_true,List.any_eq_true];constructor
    ·rintro⟨e,he,hq⟩;unfold drD at hq;rw[Bool.and_eq_true,decide_eq_true_eq,decide_eq_true_eq]at hq;obtain⟨j,hj,hje⟩:=List.getElem_of_mem he;have hji:j<i:=by
      refine Classical.byContradiction λhn=>?_
      have hi:=(List.getElem?_eq_some_iff.1 h2).1;have hid:=(List.getElem?_eq_some_iff.1 h2).2;by_cases hij:j=i
      ·subst hij;rw[hje]at hid;omega
      ·have:=List.pairwise_iff_getElem.1 h.inc i j hi hj (by omega);rw[hid,hje]at this;omega
     exact⟨e,List.mem_take_iff_getElem.2 ⟨j,by omega,hje⟩,decide_eq_true hq.1⟩
    ·rintro⟨e,he,hq⟩;have hem:=List.mem_of_mem_take he;have hle:=h4 e he;have hne:e≠p.s:=λq=>(h.pub p hp).2 (q▸hem)
     refine⟨e,hem,?_⟩;unfold drD;rw[hq,Bool.true_and];exact decide_eq_true (by omega)
  have hany:g.acts.any (actD c d p g.drains)=g.acts.any (mustA g c d i p.e):=by
   rw[Bool.eq_iff_iff,List.any_eq_true,List.any_eq_true];exact⟨fun⟨a,ha,q⟩=>⟨a,ha,by rw[<-hac a ha];exact q⟩,fun⟨a,ha,q⟩=>⟨a,ha,by rw[hac a ha];exact q⟩⟩
  have hi0:(0:Int)<=(i:Int):=by omega
  have hd0:¬d=0:=by omega
  rw[hany];simp only[hi0,hd0,if_true,if_false];cases g.acts.any (mustA g c d i p.e)<;>simp[hd.1]
def allRow (g:Lg) (c:Int):Nat->List Dv
 |0=>[]
 |t+1=>allRow g c t++(match g.pubs[t]? with
  |some p=>[⟨c,(t:Int)+1,p.s⟩]
  |none=>[])
def allTo (g:Lg):Nat->List Dv
 |0=>[]
 |k+1=>allTo g k++allRow g k g.pubs.length
def cntRow (g:Lg) (c:Int):Nat->Nat
 |0=>0
 |t+1=>cntRow g c t+(match g.pubs[t]? with
  |some p=>if 0<mustX g c p then 1 else 0
  |none=>0)
def cntTo (g:Lg):Nat->Nat
 |0=>0
 |k+1=>cntTo g k+cntRow g k g.pubs.length
theorem allRow_len (g:Lg) (c:Int):∀t,(allRow g c t).length<=t
 |0=>Nat.le_refl _
 |t+1=>by
  have:=allRow_len g c t;rw[allRow,List.length_append];cases g.pubs[t]?<;>simp<;>omega
theorem allTo_len (g:Lg):∀k,(allTo g k).length<=k*g.pubs.length
 |0=>by simp[allTo]
 |k+1=>by
  have:=allTo_len g k;have:=allRow_len g k g.pubs.length;rw[allTo,List.length_append,Nat.succ_mul];omega
theorem cntRow_le (g:Lg) (c:Int):∀t,cntRow g c t<=t
 |0=>Nat.le_refl _
 |t+1=>by
  have:=cntRow_le g c t;rw[cntRow];cases g.pubs[t]? with
  |none=>simp;omega
  |some p=>simp only[];split<;>omega
theorem cntTo_le (g:Lg):∀k,cntTo g k<=k*g.pubs.length
 |0=>by simp[cntTo]
 |k+1=>by
  have:=cntTo_le g k;have:=cntRow_le g k g.pubs.length;rw[cntTo,Nat.succ_mul];omega
theorem missRow_cnt (g:Lg) (c:Int):∀t,(missRow g [] c t).length=cntRow g c t
 |0=>rfl
 |t+1=>by
  have:=missRow_cnt g c t;rw[missRow,cntRow,List.length_append,this];unfold missOne missP;cases g.pubs[t]? with
  |none=>rfl
  |some p=>by_cases h:0<mustX g c p<;>simp[h]
theorem missTo_cnt (g:Lg):∀k,(missTo g [] k).length=cntTo g k
 |0=>rfl
 |k+1=>by
  have:=missTo_cnt g k;have:=missRow_cnt g k g.pubs.length;rw[missTo,cntTo,List.length_append];omega
theorem must_behind {g:Lg} {c:Int} {p:Pb} (h:0<mustX g c p):p.s<=mustX g c p:=by
 unfold mustX at h ⊢;rcases first_drain p.s g.drains 0 with⟨e, -⟩|⟨i,d,e,hd,hs, -⟩
 ·rw[e]at h;simp at h
 ·rw[e]at h ⊢;simp only[Nat.zero_add]at h ⊢;rw[if_pos (by omega)]at h ⊢;simp only[Int.toNat_natCast,hd,Option.getD_some]at h ⊢;split
  ·omega
  ·rename_i hn;rw[if_neg hn]at h;omega
theorem allRow_mem {g:Lg} (c:Int) {t:Nat} {p:Pb} (hp:g.pubs[t]?=some p):∀n,t<n->(⟨c,(t:Int)+1,p.s⟩:Dv) ∈ allRow g c n
 |0,h=>by omega
 |n+1,h=>by
  rw[allRow,List.mem_append];by_cases e:t=n
  ·subst e;rw[hp];exact .inr (List.mem_singleton.2 rfl)
  ·exact .inl (allRow_mem c hp n (by omega))
theorem allTo_mem {g:Lg} {c t:Nat} {p:Pb} (hp:g.pubs[t]?=some p):∀n,c<n->(⟨(c:Int),(t:Int)+1,p.s⟩:Dv) ∈ allTo g n
 |0,h=>by omega
 |n+1,h=>by
  rw[allTo,List.mem_append];by_cases e:c=n
  ·subst e;exact .inr (allRow_mem _ hp _ (List.getElem?_eq_some_iff.1 hp).1)
  ·exact .inl (allTo_mem hp n (by omega))
theorem missRow_all {g:Lg} {c n:Nat} (hc:c<n):∀t,missRow g (allTo g n) c t=[]
 |0=>rfl
 |t+1=>by
  rw[missRow,missRow_all hc t];unfold missOne;cases hp:g.pubs[t]? with
  |none=>rfl
  |some p=>
   have:missP g (allTo g n) c t p=false:=by
    unfold missP;by_cases h:0<mustX g c p
    ·have hm:=must_behind h;have:(allTo g n).any (gotX c t (mustX g c p))=true:=by
      rw[List.any_eq_true];refine⟨_,allTo_mem (c:=c) hp n hc,?_⟩;unfold gotX;simp[hm]
     rw[this,Bool.not_true,Bool.and_false]
    ·rw[decide_eq_false h];rfl
   simp[this]
theorem missTo_all (g:Lg) (n:Nat):∀k,k<=n->missTo g (allTo g n) k=[]
 |0,_=>rfl
 |k+1,h=>by
  rw[missTo,missTo_all g n k (by omega),missRow_all (by omega)];rfl
end Arx
namespace Arx
open Go Arb
attribute [local simp] evalRgn Option.map_some evalOps step wants isS osem Mrun_bindZ M.mapL M.run M.ok M.fresh M.write M.look M.lift putD ev fr_cons fr_nil keepFr lset_nil lset_cons get_set_same bin binM intBin strBin mk params cellsM load obRead fadr fld isl iarr xarr idx len valid slc rowLen bound store splice un callee Option.bind_some M.bind putAll
def rowD (v:Dv):List AV:=v.enc.map AV.iv
structure FRN (fr:Fr) (scr:AV) (yr yp:AV) (lid:Nat) (cnt c N k W t:Int):Prop where
 g1:get fr 1=some scr
 g2:get fr 2=some (.ref 4 0 0 0)
 g5:get fr 5=some (.ref lid 0 0 0)
 g6:get fr 6=some yr
 g7:get fr 7=some (.iv (.int .i64 cnt))
 g8:get fr 8=some (.iv (.int .i64 c))
 g32:get fr 32=some (.iv (.int .i64 N))
 g33:get fr 33=some (.iv (.int .i64 k))
 g39:get fr 39=some yp
 g40:get fr 40=some (.iv (.int .i64 W))
 g41:get fr 41=some (.iv (.int .i64 t))
def zeroP:List AV:=[.iv (.int .i64 0),.iv (.int .i64 0),.iv (.int .i64 0),.iv (.int .i64 0),.iv (.str ⟨#[]⟩),.iv (.int .i64 0),.iv (.int .i64 0),.iv (.str ⟨#[]⟩),.iv (.int .i64 0),.iv (.int .i64 0),.iv (.str ⟨#[]⟩),.iv (.int .i64 0),.iv (.int .i64 0),.iv (.str ⟨#[]⟩),.iv (.int .i64 0)]
def noneBlk:IC:=match F277.body with
 |.seq _ (.seq _ (.seq _ (.seq _ (.seq _ (.seq (.seq _ (.block _ (.loop _ (.seq _ (.seq _ (.seq (.block _ (.seq _ (.seq _ (.block _ (.loop _ (.seq _ (.seq _ (.seq (.block _ c) _)))))))) _)))))) _)))))=>c
 |_=>.skip
section
variable {p1:Nat->Option Arb.IFn} {p2:Nat->Option IFn}
set_option maxHeartbeats 8000000 in
theorem none_one (hp2:PrimsLe p2) (L:LibR p1 p2) {lo lid:Nat} {g:Lg} {H1:Hp} {n1:Nat} {ya yp yd:AV} {ra rp:List (List AV)} (G:LGp lo H1 n1 lid [] g ya yp yd ra rp) {t0:Int} (hwf:WF g t0) (hla:g.acts.length<=1000) (hlp:g.pubs.length<=1000) (hld:g.drains.length<=1000)
  (c:Int) (t:Nat) (p:Pb) (hpt:g.pubs[t]?=some p) (l:List Dv) (hll:l.length<=1000000) (cnt:Nat) (hcnt:cnt<=1000000)
  (H2:Hp) (n2:Nat) (hE:Ext H1 n1 H2 n2) (yr:AV) (hyr:QE 3 H2 n2 yr (l.map rowD)) (hyro:∀k o m w,yr = .own k o m w->4*n1<=k) (scr:AV) (N k W:Int) :
  Wp p1 p2 noneBlk ⟨[(1,scr),(2,.ref 4 0 0 0),(5,.ref lid 0 0 0),(6,yr),(7,.nI cnt),(8,.nI c),(32,.nI N),(33,.nI k),(39,yp),(40,.nI W),(41,.nI t),(42,.bI true)],H2,n2⟩
   (λe st=>e = .norm/\∃yr',FRN st.fr scr yr' yp lid ((cnt+if 0<mustX g c p then 1 else 0:Nat):Int) c N k W t/\Ext H1 n1 st.hp st.nx/\QE 3 st.hp st.nx yr' ((l++[(⟨c,(t:Int)+1,p.s⟩:Dv)]).map rowD)/\(∀k o m w,yr' = .own k o m w->4*n1<=k)):=by
 have hn12:=hE.le;have htl:t<g.pubs.length:=(List.getElem?_eq_some_iff.1 hpt).1;have hrow:=G.pl.2 t p hpt;obtain⟨idp,vp,i1, -,hyp,i4⟩:=G.p.at_ hrow;have hrpl:=G.pl.1;rw[hrpl]at hyp;have i42:get H2 idp=some (.buf vp 15 rp):=by rw[hE.old _ i1];exact i4
 have hpl:=pbC_len t p;have hp14:=pbC_14 t p;have hp0:(pbC t p).take 1=[.nI ((t:Int)+1)]:=rfl;have hptk:(pbC t p).take 15=pbC t p:=List.take_of_length_le (by rw[hpl];exact Nat.le_refl _);have hfr:get H2 (4*(n2+1+1))=none:=hE.fresh _ (by omega);have hmust:=must_eq hwf c (List.mem_of_getElem? hpt);obtain⟨HA,hHA⟩:∃HA,Arx.set H2 (4*(n2+1+1)) (.cells zeroP)=HA:=⟨_,rfl⟩;have hEA:Ext H2 n2 HA (n2+4):=hHA▸(Ext.refl hE.fresh (by omega)).set (by omega) (by omega) _;have hE3:Ext H2 n2 (Arx.set HA (4*(n2+1+1)) (.cells (pbC t p))) (n2+4):=hEA.set (by omega) (by omega) _;have hg3:get (Arx.set HA (4*(n2+1+1)) (Ob.cells (pbC t p))) (4*(n2+1+1))=some (.cells (pbC t p)):=get_set_same _ _ _
 generalize hH3:Arx.set HA (4*(n2+1+1)) (Ob.cells (pbC t p))=H3 at hE3 hg3;have hE13:=hE.trans hE3;have hyr3:QE 3 H3 (n2+4) yr (l.map rowD):=hyr.mono (by omega) hE3.old;have hfg:get H3 (4*(n2+4+7))=none:=hE3.fresh _ (by omega);obtain⟨y',H4,r1,r2,r3,r4,r5,r6⟩:=hyr3.push3 hE3.fresh [.nI c,.nI ((t:Int)+1),.nI p.s] (lo:=n1) (gid:=4*(n2+4+7)) (slot:=n2+4+8) (n':=n2+4+10) (by omega) (by omega) (by omega) (by omega) (by rw[List.length_map];omega) hyro (by omega);have hE14:Ext H1 n1 H4 (n2+4+10):=⟨by omega,r2,λq hq=>(r5 q hq).trans (hE13.old q hq)⟩;have hg4:get H4 (4*(n2+1+1))=some (.cells (pbC t p)):=r6 _ _ hg3 λv es h=>by cases h
 obtain⟨H5,n5,hE5,K,hK⟩:=ev156 (p1:=p1) hp2 L (G.ext (hE14.up (show n2+4+10<=n2+4+10+9 by omega))) (λq hq=>r2 q (by omega)) hla hld c t p;have hE45:Ext H4 (n2+4+10) H5 n5:=(Ext.refl r2 (show n2+4+10<=n2+4+10+9 by omega)).trans hE5;have hE15:Ext H1 n1 H5 n5:=hE14.trans hE45;have r35:QE 3 H5 n5 y' (l.map rowD++[[.nI c,.nI ((t:Int)+1),.nI p.s]]):=r3.mono hE45.le hE45.old;have hl':(l++[(⟨c,(t:Int)+1,p.s⟩:Dv)]).map rowD=l.map rowD++[[.nI c,.nI ((t:Int)+1),.nI p.s]]:=by rw[List.map_append];rfl
 rw[hmust]at hK;rw[hl'];have hw1:IntKind.i64.wrap ((cnt:Int)+1)=(cnt:Int)+1:=IntWalk.i64_in _ (by omega);generalize mustX g c p=mu at *;generalize p.s=ps at *;generalize pbC t p=pc at *;subst hyp;refine Wps0Z (s':=⟨[(1,scr),(2,.ref 4 0 0 0),(5,.ref lid 0 0 0),(6,yr),(7,.nI cnt),(8,.nI c),(10,.ref (4*(n2+1+1)) 0 0 0),(32,.nI N),(33,.nI k),(39,.own idp 0 g.pubs.length vp),(40,.nI W),(41,.nI t)],H3,n2+4⟩) (by
  rw[<-hH3,<-hHA];unfold zeroP;simp[hfr,i42,htl,hrow,hpl,hptk]) ?_
 refine Wps0Z (s':=⟨[(1,scr),(2,.ref 4 0 0 0),(5,.ref lid 0 0 0),(6,y'),(7,.nI cnt),(8,.nI c),(10,.ref (4*(n2+1+1)) 0 0 0),(32,.nI N),(33,.nI k),(39,.own idp 0 g.pubs.length vp),(40,.nI W),(41,.nI t)],H4,n2+4+10⟩) (by
  simp[hg3,hpl,hp14,hp0,hfg,r1,setAll,putAll]) ?_
 refine WpskZ (K:=K) (s':=⟨[(1,scr),(2,.ref 4 0 0 0),(5,.ref lid 0 0 0),(6,y'),(7,.nI cnt),(8,.nI c),(12,.bI (decide (0<mu))),(32,.nI N),(33,.nI k),(39,.own idp 0 g.pubs.length vp),(40,.nI W),(41,.nI t)],H5,n5⟩) (λn hn=>by
  have cc:=hK n hn;simp[hg4,hpl,hptk,cc]) ?_
 refine Wps0Z (s':=⟨[(1,scr),(2,.ref 4 0 0 0),(5,.ref lid 0 0 0),(6,y'),(7,.nI cnt),(8,.nI c),(32,.nI N),(33,.nI k),(39,.own idp 0 g.pubs.length vp),(40,.nI W),(41,.nI t),(61,.bI (decide (0<mu)))],H5,n5+1⟩) (by
  simp) ?_
 refine WpcondZ rfl ?_;by_cases hmu:0<mu
 ·rw[decide_eq_true hmu,if_pos hmu];simp only[if_true];refine Wpr0Z (s':=⟨[(1,scr),(2,.ref 4 0 0 0),(5,.ref lid 0 0 0),(6,y'),(7,.nI ((cnt:Int)+1)),(8,.nI c),(32,.nI N),(33,.nI k),(39,.own idp 0 g.pubs.length vp),(40,.nI W),(41,.nI t)],H5,n5+1+3⟩) (by
   simp[hw1]) ?_
  exact⟨rfl,y',⟨rfl,rfl,rfl,rfl,rfl,rfl,rfl,rfl,rfl,rfl,rfl⟩,hE15.up (show n5<=n5+1+3 by omega),r35.mono (show n5<=n5+1+3 by omega) λ_ _=>rfl,r4⟩
 ·rw[decide_eq_false hmu,if_neg hmu];simp only[Bool.false_eq_true,if_false];exact WpskipZ ⟨rfl,y',⟨rfl,rfl,rfl,rfl,rfl,rfl,rfl,rfl,rfl,rfl,rfl⟩,hE15.up (show n5<=n5+1 by omega),r35.mono (show n5<=n5+1 by omega) λ_ _=>rfl,r4⟩
end
section
variable {p1:Nat->Option Arb.IFn} {p2:Nat->Option IFn}
def noneLoop:IC:=match F277.body with
 |.seq _ (.seq _ (.seq _ (.seq _ (.seq _ (.seq c _)))))=>c
 |_=>.skip
set_option maxHeartbeats 8000000 in
theorem none_loop (hp2:PrimsLe p2) (R:LibR p1 p2) {lo lid:Nat} {g:Lg} {H1:Hp} {n1:Nat} {ya yp yd:AV} {ra rp:List (List AV)} (G:LGp lo H1 n1 lid [] g ya yp yd ra rp) {t0:Int} (hwf:WF g t0) (hla:g.acts.length<=1000) (hlp:g.pubs.length<=120) (hld:g.drains.length<=1000)
  (x:Hd) (hx:x.hs.length<=8) (hb1:get H1 4=some (.cells (hdC x))) (h4:4<4*n1) (hf1:Fresh H1 n1) (scr:AV) :
  Wp p1 p2 noneLoop ⟨[(1,scr),(2,.ref 4 0 0 0),(5,.ref lid 0 0 0),(6,.iv (.nsl 3)),(7,.nI 0)],H1,n1⟩
   (λe st=>e = .norm/\∃yr,(get st.fr 1=some scr/\get st.fr 2=some (.ref 4 0 0 0)/\get st.fr 6=some yr/\get st.fr 7=some (.nI (cntTo g x.hs.length)))/\Ext H1 n1 st.hp st.nx/\QE 3 st.hp st.nx yr ((allTo g x.hs.length).map rowD)):=by
 have hrpl:=G.pl.1;have hbc:=hb1;rw[hdC_eq]at hbc;refine Wps0Z (s':=⟨[(1,scr),(2,.ref 4 0 0 0),(5,.ref lid 0 0 0),(6,.iv (.nsl 3)),(7,.nI 0),(32,.nI x.hs.length),(33,.nI 0)],H1,n1+4⟩) (by
  simp[hbc]) ?_
 refine WpblockZ ?_;refine WploopZ (λm s1=>∃(k n2:Nat) (H2:Hp) (yb:AV),k+m=x.hs.length/\Ext H1 n1 H2 n2/\QE 3 H2 n2 yb ((allTo g k).map rowD)/\(∀q o m w,yb = .own q o m w->4*n1<=q)/\
  s1=⟨[(1,scr),(2,.ref 4 0 0 0),(5,.ref lid 0 0 0),(6,yb),(7,.nI (cntTo g k)),(32,.nI x.hs.length),(33,.nI k)],H2,n2⟩) (m:=x.hs.length)
  ⟨0,n1+4,H1,.iv (.nsl 3),by omega,Ext.refl hf1 (by omega),QE.nil _ _ _,(λq o m w h=>by cases h),by simp[fr_cons,keepFr,cntTo]⟩ ?_
 rintro m s1 ⟨k,n2,H2,yb,hkm,hE3,hyb,hybo,rfl⟩;refine ab ?_;by_cases hk:k<x.hs.length
 ·have hw1:IntKind.i64.wrap ((k:Int)+1)=(k:Int)+1:=IntWalk.i64_in _ (by omega);have hle3:=hE3.le;have hat:=allTo_len g k;have hct:=cntTo_le g k;have hmul:k*g.pubs.length<=100*1000:=Nat.mul_le_mul (by omega) (by omega);have hat4:=(G.ext hE3).at_;have hpl4:=(G.ext hE3).p.len;rw[hrpl]at hpl4;refine Wpr0Z (by simp[hk];rfl) ?_;refine ab (WpcondZ (t:=true) rfl (WpskipZ (ab (WpblockZ (Wps0Z (s':=⟨[(1,scr),(2,.ref 4 0 0 0),(5,.ref lid 0 0 0),(6,yb),(7,.nI (cntTo g k)),(8,.nI k),(32,.nI x.hs.length),(33,.nI k)],H2,n2+1+2⟩) (by
   simp) ?_)))))
  refine Wps0Z (s':=⟨[(1,scr),(2,.ref 4 0 0 0),(5,.ref lid 0 0 0),(6,yb),(7,.nI (cntTo g k)),(8,.nI k),(32,.nI x.hs.length),(33,.nI k),(39,yp),(40,.nI g.pubs.length),(41,.nI 0)],H2,n2+1+2+6⟩) (by
   simp[-len,hat4,hpl4]) ?_
  refine WpblockZ ?_;refine WploopZ (λm1 s1=>∃(t n3:Nat) (H3:Hp) (y3:AV),t+m1=g.pubs.length/\Ext H1 n1 H3 n3/\QE 3 H3 n3 y3 ((allTo g k++allRow g k t).map rowD)/\(∀q o m w,y3 = .own q o m w->4*n1<=q)/\
   s1=⟨[(1,scr),(2,.ref 4 0 0 0),(5,.ref lid 0 0 0),(6,y3),(7,.nI (cntTo g k+cntRow g k t:Nat)),(8,.nI k),(32,.nI x.hs.length),(33,.nI k),(39,yp),(40,.nI g.pubs.length),(41,.nI t)],H3,n3⟩) (m:=g.pubs.length)
   ⟨0,n2+1+2+6,H2,yb,by omega,hE3.up (by omega),by rw[allRow,List.append_nil];exact hyb.mono (by omega) λ_ _=>rfl,hybo,by simp[fr_cons,keepFr,cntRow]⟩ ?_
  rintro m1 s1 ⟨t,n3,H3,y3,htm,hE5,hy3,hy3o,rfl⟩;refine ab ?_;by_cases ht:t<g.pubs.length
  ·obtain⟨p,hpt⟩:∃p,g.pubs[t]?=some p:=⟨_,List.getElem?_eq_getElem ht⟩;have hw2:IntKind.i64.wrap ((t:Int)+1)=(t:Int)+1:=IntWalk.i64_in _ (by omega);have hmr:=allRow_len g k t;have hcr:=cntRow_le g k t;have hone:=none_one (p1:=p1) hp2 R G hwf hla (by omega) hld k t p hpt (allTo g k++allRow g k t) (by rw[List.length_append];omega) (cntTo g k+cntRow g k t) (by omega) H3 (n3+1) (hE5.up (by omega)) y3 (hy3.mono (by omega) λ_ _=>rfl) hy3o scr x.hs.length k g.pubs.length;have hnext:allTo g k++allRow g k (t+1)=(allTo g k++allRow g k t)++[(⟨(k:Int),(t:Int)+1,p.s⟩:Dv)]:=by
    rw[allRow,hpt,List.append_assoc]
   have hnext2:cntTo g k+cntRow g k (t+1)=(cntTo g k+cntRow g k t)+if 0<mustX g k p then 1 else 0:=by
    rw[cntRow,hpt,Nat.add_assoc]
   rw[<-hnext,<-hnext2]at hone;refine Wpr0Z (by simp[ht];rfl) ?_;refine ab (WpcondZ (t:=true) rfl (WpskipZ (ab (WpblockZ ?_))));refine Wp.mono hone ?_;rintro e ⟨fr,H6,n6⟩ ⟨rfl,y6,⟨f1,f2,f5,f6,f7,f8,f32,f33,f39,f40,f41⟩,b1,b2,b3⟩;simp only[]at f1 f2 f5 f6 f7 f8 f32 f33 f39 f40 f41 b1 b2 b3;simp only[Ex.then,Ex.inBlock];refine Wpr0Z (s':=⟨[(1,scr),(2,.ref 4 0 0 0),(5,.ref lid 0 0 0),(6,y6),(7,.nI (cntTo g k+cntRow g k (t+1):Nat)),(8,.nI k),(32,.nI x.hs.length),(33,.nI k),(39,yp),(40,.nI g.pubs.length),(41,.nI (t+1:Nat))],H6,n6+2⟩) (by
    generalize cntTo g k+cntRow g k (t+1)=cn at *;simp[get_set,f1,f2,f5,f6,f7,f8,f32,f33,f39,f40,f41,hw2]) ?_
   exact⟨m1 - 1,by omega,t+1,n6+2,H6,y6,by omega,b1.up (by omega),b2.mono (by omega) λ_ _=>rfl,b3,by simp[fr_cons,keepFr]⟩
  ·obtain rfl:t=g.pubs.length:=by omega
   have hn2:cntTo g k+cntRow g k g.pubs.length=cntTo g (k+1):=rfl;have hn3:allTo g k++allRow g k g.pubs.length=allTo g (k+1):=rfl;rw[hn2];rw[hn3]at hy3;refine WprgZ ?_;refine ab (WpcondZ (t:=false) rfl (WpexitZ ?_));simp only[Ex.then,Ex.inBlock,if_true];refine Wpr0Z (by simp[hw1];rfl) ?_;exact⟨m - 1,by omega,k+1,_,H3,y3,by omega,hE5.up (show n3<=n3+1+2 by omega),hy3.mono (show n3<=n3+1+2 by omega) λ_ _=>rfl,hy3o,by simp[fr_cons,keepFr]⟩
 ·obtain rfl:k=x.hs.length:=by omega
  refine WprgZ ?_;refine ab (WpcondZ (t:=false) rfl (WpexitZ ?_));simp only[Ex.then,Ex.inBlock,if_true];exact⟨trivial,yb,⟨rfl,rfl,rfl,rfl⟩,hE3.up (show n2<=n2+1 by omega),hyb.mono (show n2<=n2+1 by omega) λ_ _=>rfl⟩
end
section
variable {p1:Nat->Option Arb.IFn} {p2:Nat->Option IFn}
set_option maxHeartbeats 8000000 in
theorem none_law (hp2:PrimsLe p2) (hm:∀n,MoreX (run2 p1 p2 n)) (L:LibL p1 p2) (R:LibR p1 p2) (W:Few p1) (h277:p2 277=some F277) {K0:Nat} (ht:twiceT 16 p1 p2 K0=true)
  (x:Hd) (l:List Arb.Op) (hl:l.length<=maxLen) (hok:∀o ∈ l,o.ok) :
  ∃n p,run2 p1 p2 n 277 [.agg (hdC x),.iv (.sl 24 (l.map Arb.Op.enc))] .nil 1=some (.bI true,p):=by
 obtain⟨h,n,h2,n2,e1,hfr,f4,h13,e2,g4,g4n⟩:=twiceT_spec ht;have hfn:get h (4*n)=none:=hfr _ (Nat.le_refl _);obtain⟨KA,hA⟩:=awakeT_with hp2 hm e1 [(4,.cells (hdC x))] (λp hp=>by simp at hp;subst hp;exact f4);obtain⟨KB,hB⟩:=awakeT_with hp2 hm e2 [(4,.cells (hdC x)),(4*n,.cells (hdC x))] (λp hp=>by
  simp at hp;rcases hp with rfl | rfl
  ·exact g4
  ·exact g4n)
 have hA':∀m,KA<=m->run2 p1 p2 m 158 [] (Arx.set (Tr.nil:Hp) 4 (.cells (hdC x))) 16=some (.bI true,Arx.set h 4 (.cells (hdC x)),n):=hA;have hB':∀m,KB<=m->run2 p1 p2 m 158 [] (Arx.set (Arx.set h 4 (.cells (hdC x))) (4*n) (.cells (hdC x))) (n+18)=some (.bI true,Arx.set (Arx.set h2 4 (.cells (hdC x))) (4*n) (.cells (hdC x)),n2):=hB;have hk4:get (Arx.set h 4 (Ob.cells (hdC x))) 4=some (.cells (hdC x)):=get_set_same _ _ _;have hfr1:Fresh (Arx.set h 4 (.cells (hdC x))) n:=λk hk=>by rw[get_set_ne _ _ (by omega)];exact hfr k hk
 obtain⟨KF,hF⟩:=ev159g (p1:=p1) hp2 L W x l hl hok (.iv (.nsl 3)) (.iv (.nsl 4)) 0 0 (λH=>rfl) (λH=>rfl) (Arx.set h 4 (.cells (hdC x))) n (hfr1 _ (Nat.le_refl _));have hset4:get (Arx.set (Tr.nil:Hp) 4 (Ob.cells (hdC x))) 4=some (.cells (hdC x)):=get_set_same _ _ _;have hk0:get (Arx.set (Arx.set h 4 (Ob.cells (hdC x))) (4*n) (Ob.cells (hdC x))) 4=some (.cells (hdC x)):=by rw[get_set_ne _ _ (by omega)];exact hk4
 have hEf:Ext (Arx.set h 4 (.cells (hdC x))) n (Arx.set (Arx.set h 4 (.cells (hdC x))) (4*n) (.cells (hdC x))) (n+16):=(Ext.refl hfr1 (show n<=n+16 by omega)).set (by omega) (by omega) _;have key:Wp p1 p2 F277.body ⟨params [.agg (hdC x),.iv (.sl 24 (l.map Arb.Op.enc))] 0,.nil,1⟩ (λe st=>∃r:AV×Hp×Nat,r.1 = .bI true/\Fin F277.res r e st):=by
  have reg0:∀(scr:AV),∀m,evalRgn (one p1 m) (run2 p1 p2 m) false [⟨some 2,.box 0 (.t 0),none,[]⟩,⟨some 4,.mov (.c (.bI false)),none,[]⟩] [1,2] ⟨params [.agg (hdC x),scr] 0,.nil,1⟩=some ⟨[(1,scr),(2,.ref 4 0 0 0)],Arx.set .nil 4 (.cells (hdC x)),3⟩:=by
   intro scr m;simp[evalRgn,evalOps,step,wants,isS,osem,cellsM,params,Mrun_bindZ,M.run,M.ok,M.fresh,M.write,tr_nil,ev,fr_cons,putD,get_set,keepFr]
  cases hb:fewT x l 0 0 with
  |false=>
   rw[hb]at hF;refine ab (WprgnZ (K:=0) (λm _=>reg0 _ m) (ab (ab ?_)));generalize l.map Arb.Op.enc=scr at *;generalize hHA:Arx.set h 4 (Ob.cells (hdC x))=HA at *;refine WprgnZ (K:=max KA KF) (λm hm=>by
    have a1:=hA' m (by omega);have a2:=hF m (by omega);simp[a1,a2,hk4,hd_take,hd_len];rfl) ?_
   refine WpcondZ (t:=true) rfl ?_;simp only[if_true];refine WpskZ (K:=KB) (λm hm=>by
    have a1:=hB' m (by omega);simp[a1];rfl) ?_
   exact WpretZ ⟨(_,_,_),rfl,rfl,rfl⟩
  |true=>
   rw[hb]at hF;obtain⟨b1,b2,b3, -, -⟩:=fewT_len hb;obtain⟨KC,hC⟩:=callCheckD R x b1 b2;by_cases hc:checkH x=0
   ·rw[hc]at hC;obtain⟨-, -,hx8, -⟩:=checkH_0 hc;generalize hH0:Arx.set (Arx.set h 4 (Ob.cells (hdC x))) (4*n) (Ob.cells (hdC x))=H0 at *;have hf0:Fresh H0 (n+16+4):=λq hq=>hEf.fresh q (by omega)
    obtain⟨H1,n1,lid,ya,yp,yd,ra,rp,E1,G,K1,c1⟩:=ev157 (p1:=p1) hp2 R x b1 b2 l (by omega) hok H0 (n+16+4) hf0;obtain⟨t0,hwf⟩:=readX_WF x l;have hgl:=readX_len x l;have hle1:=E1.le;have hk1:get H1 4=some (.cells (hdC x)):=by rw[E1.old _ (by omega)];exact hk0
    have hloop:=none_loop (p1:=p1) hp2 R (G.ext (Ext.refl E1.fresh (show n1<=n1+1+1 by omega))) hwf (by omega) (by omega) (by omega) x hx8 hk1 (by omega) (λq hq=>E1.fresh q (by omega)) (.iv (.sl 24 (l.map Arb.Op.enc)));refine ab (WprgnZ (K:=0) (λm _=>reg0 _ m) (ab (ab ?_)));generalize hscr:l.map Arb.Op.enc=scr at *;refine WprgnZ (K:=max KA (max KF KC)) (λm hm=>by
     have a1:=hA' m (by omega);have a2:=hF m (by omega);have a3:=hC m (by omega);simp[a1,a2,a3,hk4,hk0,hd_take,hd_len];rfl) ?_
    refine WpcondZ (t:=false) rfl ?_;simp only[Bool.false_eq_true,if_false];refine WpskipZ ?_;simp only[Ex.then];refine WpskZ (K:=K1) (λm hm=>by
     have a1:=c1 m hm;simp[a1,hk0,hd_take,hd_len];rfl) ?_
    refine Wps0Z (by simp;rfl) ?_;refine Wps0Z (by simp;rfl) ?_;refine ab ?_;refine Wp.mono hloop ?_;rintro e ⟨fr,H2,m2⟩ ⟨rfl,yr,⟨f1,f2,f6,f7⟩,E2,q2⟩;simp only[]at f1 f2 f6 f7 E2 q2;simp only[Ex.then];have hle2:=E2.le;have hk2:get H2 4=some (.cells (hdC x)):=by rw[E2.old _ (by omega)];exact hk1
    have hlen:=allTo_len (readX x l) x.hs.length;have hmul:x.hs.length*(readX x l).pubs.length<=8*120:=Nat.mul_le_mul hx8 (by omega);obtain⟨H3,n3,y3,E3,q3,K3,c3⟩:=ev153g (p1:=p1) hp2 L x b1 b2 l (by omega) hok [] (by simp) H2 (m2+29) (λq hq=>E2.fresh q (by omega)) (.iv (.nsl 3)) (.inr (QE.nil _ _ _));have E23:Ext H2 m2 H3 n3:=(Ext.refl E2.fresh (show m2<=m2+29 by omega)).trans E3;obtain⟨H4,n4,y4,E4,q4,K4,c4⟩:=ev153g (p1:=p1) hp2 L x b1 b2 l (by omega) hok (allTo (readX x l) x.hs.length) (by omega) H3 n3 E3.fresh yr (.inr (q2.mono E23.le E23.old));obtain⟨H5,n5,E5,K5,c5⟩:=ev154n (p1:=p1) hp2 L x b1 b2 l (by omega) hok H4 n4 E4.fresh
    obtain⟨H6,n6,E6,K6,c6⟩:=ev155n (p1:=p1) hp2 L x b1 b2 l (by omega) hok H5 n5 E5.fresh;have hle3:=E23.le;have hle4:=E4.le;have hle5:=E5.le;have hk3:get H3 4=some (.cells (hdC x)):=by rw[E23.old _ (by omega)];exact hk2
    have hk4':get H4 4=some (.cells (hdC x)):=by rw[E4.old _ (by omega)];exact hk3
    have hk5:get H5 4=some (.cells (hdC x)):=by rw[E5.old _ (by omega)];exact hk4'
    have w3:=q3.len;have w4:=q4.len;rw[List.length_map,missTo_cnt]at w3;rw[missTo_all _ _ _ (Nat.le_refl _)]at w4;have wn:∀H:Hp,(Arx.len false (.iv (.nsl 1))).run H=some (.nI 0,H):=λ_=>rfl
    rw[hscr]at c3 c4 c5 c6;generalize cntTo (readX x l) x.hs.length=cn at *;simp only[List.map_nil,List.length_nil]at w4;refine WpskZ (K:=max (max K3 K4) (max K5 K6)) (λm hm=>by
     have d3:=c3 m (by omega);have d4:=c4 m (by omega);have d5:=c5 m (by omega);have d6:=c6 m (by omega);simp[-len,get_set,f1,f2,f6,f7,hk2,hk3,hk4',hk5,hd_take,hd_len,d3,d4,d5,d6,w3,w4,wn];rfl) ?_
    exact WpretZ ⟨(_,_,_),rfl,rfl,rfl⟩
   ·refine ab (WprgnZ (K:=0) (λm _=>reg0 _ m) (ab (ab ?_)));generalize l.map Arb.Op.enc=scr at *;generalize checkH x=ck at *;generalize hHA:Arx.set h 4 (Ob.cells (hdC x))=HA at *;refine WprgnZ (K:=max KA (max KF KC)) (s':=⟨[(1,.iv (.sl 24 scr)),(2,.ref 4 0 0 0),(25,.bI true)],Arx.set HA (4*n) (.cells (hdC x)),n+16⟩) (λm hm=>by
     have a1:=hA' m (by omega);have a2:=hF m (by omega);have a3:=hC m (by omega);simp[a1,a2,a3,hk4,hk0,hc,hd_take,hd_len]) ?_
    refine WpcondZ (t:=true) rfl ?_;simp only[if_true];refine WpskZ (K:=KB) (λm hm=>by
     have a1:=hB' m (by omega);simp[a1];rfl) ?_
    exact WpretZ ⟨(_,_,_),rfl,rfl,rfl⟩
 obtain⟨⟨y,q⟩,hy,m,hM⟩:=Ev.ofx hp2 h277 rfl rfl _ key;cases hy;exact⟨m,q,hM m (Nat.le_refl m)⟩
end
end Arx

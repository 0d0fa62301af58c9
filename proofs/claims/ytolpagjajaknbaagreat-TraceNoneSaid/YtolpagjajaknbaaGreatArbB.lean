/-
  A part of the proof of the statement that the last text of this claim holds: two abstract machines for the code, proved sound once, and what the program does on them. No condition.
-/
import Derived.Test.YtolpagjajaknbaaGreatArbA
set_option linter.all false
namespace Arb
open Go Go.RowKit
section
variable {ν:Nat->Nat} {P:Program} {k:Cx} {g:Gh}
theorem wp_done {o:Oper} {a:Act} {h':Hp} {y:AV} {s:Sem Value} (hx:execOp a.eval o=(do pure (.value (<-s)):Sem Next)) (d:Done ν k g h' y (s.run P g.w)) {next:Act->World->Prop} {Q:Exit->Act->World->Prop}
  (hn:∀g' v,g'.h=h'->Rel ν k g'->Mono ν g g'->RA ν g' v y->next (a.put o.dst v) g'.w):o.wp P a g.w next Q:=by
 obtain⟨g',v,hr,hh,r',m,hR⟩:=d;unfold Oper.wp;rw[hx];simp only[Sem.run_bind,hr,Result.andThen_ok,Sem.run_pure];exact hn g' v hh r' m hR
theorem wp_call {o:Oper} {a:Act} {h':Hp} {y:AV} {fo:Operand} {cargs:Array Operand} {tys:Array TypeId} (ho:o.op = .call { callee:=.value fo,args:=cargs,argTypes:=tys })
  (d:CallDone ν P k g h' y (a.eval fo) (cargs.map a.eval)) {next:Act->World->Prop} {Q:Exit->Act->World->Prop}
  (hn:∀g' v,g'.h=h'->Rel ν k g'->Mono ν g g'->RA ν g' v y->next (a.put o.dst v) g'.w):o.wp P a g.w next Q:=by
 obtain⟨q,caps,fn,hf,hfn,hb,hnm,hc⟩:=d;unfold Oper.wp;rw[enter_run ho hf hfn hb hnm];rw[Oper.upon_enter];refine hc.mono ?_;rintro e w' ⟨v,g',rfl,rfl,hh,r',m,hR⟩;exact hn g' v hh r' m hR
theorem args_ok {a:Act} {fr:Fr} (hf:FrR ν g a.tmps fr) {xs:Array Operand} {ys:List Opd} (h:cOpds ν xs.toList ys=true):RL ν g (xs.map a.eval).toList (ys.map (ev fr)):=by
 obtain⟨h1,h2⟩:=evals_ok hf h;exact⟨by simpa using h1,λj v x hv hx=>h2 j v x (by simpa using hv) hx⟩
theorem parts_ok {a:Act} {fr:Fr} (hf:FrR ν g a.tmps fr):∀{ps:List (Nat×Operand)} {qs:List (Nat×Opd)},cParts ν ps qs=true->
  (ps.map λp=>(p.1,a.eval p.2)).length=(qs.map λp=>(p.1,ev fr p.2)).length/\
  ∀(j:Nat) (q:Nat×Value) (p:Nat×AV),(ps.map λp=>(p.1,a.eval p.2))[j]?=some q->(qs.map λp=>(p.1,ev fr p.2))[j]?=some p->q.1=p.1/\RA ν g q.2 p.2
 |[],[],_=>⟨rfl,λj v x h=>by simp at h⟩
 |x::xs,y::ys,h=>by
  simp only[cParts,Bool.and_eq_true,beq_iff_eq]at h;obtain⟨h1,h2⟩:=parts_ok hf h.2;refine⟨by simpa using h1,λj v z hv hz=>?_⟩;cases j with
  |zero=>simp at hv hz;subst hv hz;exact⟨h.1.1,eval_ok hf h.1.2⟩
  |succ j=>exact h2 j v z (by simpa using hv) (by simpa using hz)
 |[],_::_,h=>by simp[cParts]at h
 |_::_,[],h=>by simp[cParts]at h
set_option maxHeartbeats 4000000 in
theorem op_wp {call:Nat->List AV->Hp->Option (AV×Hp)} (hs:CallSound ν P call) {o:Oper} {a:Act} {fr:Fr} {io:IOp} {slot:Nat} (hc:cOp P ν o.op io=true) (r:Rel ν k g) (hf:FrR ν g a.tmps fr) {y:AV} {h':Hp}
  (e:(osem call slot (ev fr) io).run g.h=some (y,h')) {next:Act->World->Prop} {Q:Exit->Act->World->Prop}
  (hn:∀g' v,g'.h=h'->Rel ν k g'->Mono ν g g'->RA ν g' v y->next (a.put o.dst v) g'.w):o.wp P a g.w next Q:=by
 unfold cOp at hc;split at hc
 case h_1 y'=>
  obtain⟨rfl,rfl⟩:=Mret_someZ e;split at hc
  ·rename_i x ho;exact wp_done (s:=pure (a.eval x)) (by simp[execOp,ho]) (.same r rfl (eval_ok hf hc)) hn
  ·rename_i x ho;exact wp_done (s:=pure (a.eval x)) (by simp[execOp,ho]) (.same r rfl (eval_ok hf hc)) hn
  ·cases hc
 case h_2=>
  split at hc
  ·rename_i ho;exact wp_done (s:=pure (.slice none 0 0)) (by simp[execOp,ho,Act.eval]) (nil0_ok (a:=none) r e) hn
  ·rename_i ho;exact wp_done (s:=pure (.slice none 0 0)) (by simp[execOp,ho,Act.eval]) (nil0_ok (a:=none) r e) hn
  ·cases hc
 case h_3=>
  split at hc
  case h_2=>cases hc
  rename_i c x z ho;simp only[Bool.and_eq_true]at hc;simp only[osem]at e;split at e
  case h_2=>exact(Mfail_someZ e).elim
  rename_i t ht;obtain⟨rfl,rfl⟩:=Mret_someZ e;have h1:=eval_ok hf hc.1.1;rw[ht]at h1;have hb:=h1.bool;refine wp_done (s:=do pure (if <-asBool (a.eval c) then a.eval x else a.eval z)) (by simp[execOp,ho]) (.same r (v:=if t then a.eval x else a.eval z) (by simp[hb,asBool]) ?_) hn;cases t
  ·exact eval_ok hf hc.2
  ·exact eval_ok hf hc.1.2
 case h_4=>
  split at hc
  case h_2=>cases hc
  rename_i t ho;exact wp_done (s:=Instr.alloc t true (.tuple #[])) (by simp[execOp,ho]) (allocI_ok r hc e) hn
 case h_5=>
  split at hc
  case h_2=>cases hc
  rename_i t x ho;exact wp_done (s:=Instr.box t (a.eval x)) (by simp[execOp,ho]) (box_ok r (eval_ok hf hc) e) hn
 case h_6=>
  split at hc
  case h_2=>cases hc
  rename_i t ps ho;simp only[Bool.and_eq_true]at hc;obtain⟨hz,hc⟩:=hc;split at hc
  case h_2=>cases hc
  rename_i pl hpl;exact wp_done (s:=Instr.build t (ps.map fun(i,x)=>(i,a.eval x))) (by simp[execOp,ho]) (build_ok r hf hz hpl hc e) hn
 case h_7 e0 z n' qs=>
  split at hc
  case h_2=>cases hc
  rename_i t n ps ho;simp only[Bool.and_eq_true,beq_iff_eq]at hc;obtain⟨⟨rfl,hb⟩,hq⟩:=hc;obtain⟨hl,hp⟩:=parts_ok hf hq;refine wp_done (s:=Instr.buildSlice t n (ps.toList.map λp=>(p.1,a.eval p.2)).toArray) (by
   have:(ps.map fun(p:Nat×Operand)=>(p.1,a.eval p.2))=(ps.toList.map λp=>(p.1,a.eval p.2)).toArray:=by apply Array.ext';simp
   simp only[execOp,ho];rw[<-this]) (bsl_ok (slot:=slot) r hb hl hp ?_) hn
  rw[M.mapL_map];exact e
 case h_8=>
  split at hc
  case h_2=>cases hc
  rename_i t x ho;simp only[Bool.and_eq_true]at hc;exact wp_done (s:=Instr.loadAt t (a.eval x)) (by simp[execOp,ho]) (load_ok r hc.1 (eval_ok hf hc.2) e) hn
 case h_9=>
  split at hc
  case h_2=>cases hc
  rename_i t x z ho;simp only[Bool.and_eq_true]at hc;obtain⟨g',hrun,rfl,hh,r',m⟩:=store_ok r hc.1.1 (eval_ok hf hc.1.2) (eval_ok hf hc.2) e;unfold Oper.wp;have hx:(execOp a.eval o).run P g.w = .ok .skip g'.w:=by simp[execOp,ho,hrun]
  rw[hx];exact hn g' undef hh r' m (.tup rfl λj v c h=>by simp at h)
 case h_10=>
  split at hc
  case h_2=>cases hc
  rename_i t x f ho;simp only[Bool.and_eq_true]at hc;exact wp_done (s:=Instr.fieldAt t (a.eval x) f) (by simp[execOp,ho]) (fadr_ok r hc.1 (eval_ok hf hc.2) e) hn
 case h_11=>cases hc
 case h_12=>
  split at hc
  case h_2=>cases hc
  rename_i t x z ho;simp only[Bool.and_eq_true]at hc;exact wp_done (s:=Instr.indexAt t (a.eval x) (a.eval z)) (by simp[execOp,ho]) (iarr_ok r hc.1.1 (eval_ok hf hc.1.2) (eval_ok hf hc.2) e) hn
 case h_13=>
  split at hc
  case h_2=>cases hc
  rename_i t x z ho;simp only[Bool.and_eq_true]at hc;exact wp_done (s:=Instr.indexAt t (a.eval x) (a.eval z)) (by simp[execOp,ho]) (isl_ok r hc.1.1 (eval_ok hf hc.1.2) (eval_ok hf hc.2) e) hn
 case h_14=>
  split at hc
  case h_2=>cases hc
  rename_i t x z ho;simp only[Bool.and_eq_true]at hc;exact wp_done (s:=Instr.index t (a.eval x) (a.eval z)) (by simp[execOp,ho]) (xarr_ok r hc.1.1 (eval_ok hf hc.1.2) (eval_ok hf hc.2) e) hn
 case h_15=>
  split at hc
  case h_2=>cases hc
  rename_i t x z ho;simp only[Bool.and_eq_true]at hc;exact wp_done (s:=Instr.index t (a.eval x) (a.eval z)) (by simp[execOp,ho]) (xstr_ok r (isStr_spec hc.1.1) (eval_ok hf hc.1.2) (eval_ok hf hc.2) e) hn
 case h_16 bo q x' y'=>
  split at hc
  case h_2=>cases hc
  rename_i b t x z yt ho;simp only[Bool.and_eq_true,beq_iff_eq]at hc;obtain⟨⟨⟨rfl,hq⟩,hx⟩,hz⟩:=hc;obtain⟨w',hb,e2⟩:=M.lift_bind e;obtain⟨rfl,rfl⟩:=Mret_someZ e2;exact wp_done (s:=do eqGuard b t x z (a.eval x) (a.eval z);binOp b t (a.eval x) (a.eval z)) (by simp[execOp,ho]) (bin_ok r hq (eval_ok hf hx) (eval_ok hf hz) hb) hn
 case h_17 neg qs x' y'=>
  split at hc
  case h_2=>cases hc
  rename_i b t x z yt ho;simp only[Bool.and_eq_true,beq_iff_eq]at hc;obtain⟨⟨⟨rfl,hq⟩,hx⟩,hz⟩:=hc;simp only[osem]at e;split at e
  case h_2=>exact(Mfail_someZ e).elim
  rename_i xs ys hxs hys;obtain⟨w',hb,e2⟩:=M.lift_bind e;obtain⟨rfl,rfl⟩:=Mret_someZ e2;have h1:=eval_ok hf hx;have h2:=eval_ok hf hz;rw[hxs]at h1;rw[hys]at h2;exact wp_done (s:=do eqGuard (if neg then .neq else .eql) t x z (a.eval x) (a.eval z);binOp (if neg then .neq else .eql) t (a.eval x) (a.eval z)) (by simp[execOp,ho]) (eqc_ok r hq neg h1 h2 hb) hn
 case h_18 uo x'=>
  split at hc
  case h_2=>cases hc
  rename_i u t x ho;simp only[Bool.and_eq_true,beq_iff_eq]at hc;obtain⟨rfl,hx⟩:=hc;obtain⟨w',hb,e2⟩:=M.lift_bind e;obtain⟨rfl,rfl⟩:=Mret_someZ e2;exact wp_done (s:=Op.unary u (a.eval x)) (by simp[execOp,ho]) (un_ok r (eval_ok hf hx) hb) hn
 case h_19=>
  split at hc
  case h_2=>cases hc
  rename_i s d x ho;simp only[Bool.and_eq_true]at hc;obtain⟨n,h1,e1,e2⟩:=Mbind_someZ e;have hh:=(idx_some e1).1;subst hh;obtain⟨rfl,rfl⟩:=Mret_someZ e2;exact wp_done (s:=convert s d (a.eval x)) (by simp[execOp,ho]) (cvi_ok r hc.1 (eval_ok hf hc.2) e1) hn
 case h_20=>cases hc
 case h_21=>
  split at hc
  case h_2=>cases hc
  rename_i t x lo hi ho;simp only[Bool.and_eq_true]at hc;exact wp_done (s:=Instr.sliceAt t (a.eval x) (lo.map a.eval) (hi.map a.eval) none) (by simp[execOp,ho]) (slc_ok r hc.1.1.1 (eval_ok hf hc.1.1.2) (evalo_ok hf hc.1.2) (evalo_ok hf hc.2) e) hn
 case h_22=>cases hc
 case h_23=>cases hc
 case h_24=>
  split at hc
  case h_2=>cases hc
  rename_i args tys ho;split at hc
  case h_2=>cases hc
  rename_i x t hx ht;obtain rfl:args=#[x]:=Array.ext' hx;obtain rfl:tys=#[t]:=Array.ext' ht;simp only[Bool.and_eq_true]at hc;exact wp_done (s:=Builtin.clear_ #[t] o.type #[a.eval x]) (by simp[execOp,ho,resolve,invoke,builtin]) (clr_ok r hc.1 (eval_ok hf hc.2) e) hn
 case h_25=>
  split at hc
  case h_2=>cases hc
  rename_i args tys ho;split at hc
  case h_2=>cases hc
  rename_i x t hx ht;obtain rfl:args=#[x]:=Array.ext' hx;obtain rfl:tys=#[t]:=Array.ext' ht;simp only[Bool.and_eq_true]at hc;exact wp_done (s:=Builtin.len_ #[t] o.type #[a.eval x]) (by simp[execOp,ho,resolve,invoke,builtin]) (len_ok r hc.1 (eval_ok hf hc.2) e) hn
 case h_26=>
  split at hc
  case h_2=>cases hc
  rename_i args tys ho;split at hc
  case h_2=>cases hc
  rename_i x z t u hx ht;obtain rfl:args=#[x,z]:=Array.ext' hx;obtain rfl:tys=#[t,u]:=Array.ext' ht;simp only[Bool.and_eq_true]at hc;exact wp_done (s:=Builtin.append_ #[t,u] o.type #[a.eval x,a.eval z]) (by simp[execOp,ho,resolve,invoke,builtin]) (app_ok r hc.1.1 (eval_ok hf hc.1.2) (eval_ok hf hc.2) e) hn
 case h_27 x' ys=>
  split at hc
  case h_2=>cases hc
  rename_i args tys ho;have hR:=args_ok hf hc;simp only[osem]at e;split at e
  case h_2=>exact(Mfail_someZ e).elim
  rename_i kk n hx;obtain⟨z,hz,e2⟩:=M.lift_bind e;obtain⟨rfl,rfl⟩:=Mret_someZ e2;simp only[List.map_cons]at hR;generalize hvs:(args.map a.eval).toList=vs at hR;cases vs with
  |nil=>have:=hR.1;simp at this
  |cons v vs=>
   have h0:=hR.tail.1;rw[hx]at h0;obtain rfl:=h0.int;have hrun:=mn_ok P g.w (ys.map (ev fr)) vs n kk z hz hR.tail.2.1 hR.tail.2.2;exact wp_done (s:=Builtin.min_ tys o.type (args.map a.eval)) (by simp[execOp,ho,resolve,invoke,builtin]) (.same r (v:=.int kk z) (by simp only[Builtin.min_,hvs];exact hrun) mkInt) hn
 case h_28 x' ys=>
  split at hc
  case h_2=>cases hc
  rename_i args tys ho;have hR:=args_ok hf hc;simp only[osem]at e;split at e
  case h_2=>exact(Mfail_someZ e).elim
  rename_i kk n hx;obtain⟨z,hz,e2⟩:=M.lift_bind e;obtain⟨rfl,rfl⟩:=Mret_someZ e2;simp only[List.map_cons]at hR;generalize hvs:(args.map a.eval).toList=vs at hR;cases vs with
  |nil=>have:=hR.1;simp at this
  |cons v vs=>
   have h0:=hR.tail.1;rw[hx]at h0;obtain rfl:=h0.int;have hrun:=mx_ok P g.w (ys.map (ev fr)) vs n kk z hz hR.tail.2.1 hR.tail.2.2;exact wp_done (s:=Builtin.max_ tys o.type (args.map a.eval)) (by simp[execOp,ho,resolve,invoke,builtin]) (.same r (v:=.int kk z) (by simp only[Builtin.max_,hvs];exact hrun) mkInt) hn
 case h_29 x' i'=>
  split at hc
  case h_2=>cases hc
  rename_i x i ho;simp only[Bool.and_eq_true,beq_iff_eq]at hc;obtain⟨rfl,hx⟩:=hc;simp only[osem]at e;split at e
  case h_2=>exact(Mfail_someZ e).elim
  rename_i vs hvs;obtain⟨hy,rfl⟩:=Mlift_someZ e;have h1:=eval_ok hf hx;rw[hvs]at h1;obtain⟨us,hav,hn',hr'⟩:∃us,a.eval x = .tuple us/\us.size=vs.length/\∀(j:Nat) (v:Value) (c:AV),us[j]?=some v->vs[j]?=some c->RA ν g v c:=by
   generalize a.eval x=vv at h1;cases h1 with | tup h1 h2=>exact⟨_,rfl,h1,h2⟩
  have hlt:=lt_of_some hy;have hu:us[i]?=some us[i]:=Array.getElem?_eq_getElem (by omega);exact wp_done (s:=Instr.extract (a.eval x) i) (by simp[execOp,ho]) (.same r (v:=us[i]) (by simp[hav,Instr.extract,hu]) (hr' i _ _ hu hy)) hn
 case h_30=>
  split at hc
  case h_2=>cases hc
  rename_i x ho;have h1:=eval_ok hf hc;simp only[osem]at e;split at e
  ·rename_i id ver i j hx;rw[hx]at h1;obtain⟨ob,hg,e2⟩:=M.look_bind e;obtain⟨hva,e4⟩:=M.ok_bind e2;obtain⟨rfl,rfl⟩:=Mret_someZ e4;have hr:RefAt g (a.eval x) id ver i j:=by
    generalize a.eval x=vv at h1;cases h1 with | ref _ hr=>exact hr
   obtain⟨b,off,hv, -⟩:=hr.move hg hva 0;refine wp_done (s:=pure (a.eval x)) ?_ (.same r rfl h1) hn;simp[execOp,ho,hv]
  ·rename_i cs hx;rw[hx]at h1;obtain⟨rfl,rfl⟩:=Mret_someZ e;obtain⟨b,off,hv⟩:=h1.ptr;refine wp_done (s:=pure (a.eval x)) ?_ (.same r rfl h1) hn;simp[execOp,ho,hv]
  ·rename_i f cs hx;rw[hx]at h1;obtain⟨rfl,rfl⟩:=Mret_someZ e;have hv:∃caps,a.eval x = .func (.func (ν f)) #[] caps:=by
    generalize a.eval x=v at h1;cases h1 with | iv h=>cases h with | fn f caps cs h1 h2=>exact⟨caps,rfl⟩
   obtain⟨caps,hv⟩:=hv;refine wp_done (s:=pure (a.eval x)) ?_ (.same r rfl h1) hn;simp[execOp,ho,hv]
  ·rename_i f cs hx;rw[hx]at h1;obtain⟨rfl,rfl⟩:=Mret_someZ e;have hv:∃caps,a.eval x = .func (.func (ν f)) #[] caps:=by
    generalize a.eval x=v at h1;cases h1 with | clo h1 h2=>exact⟨_,rfl⟩
   obtain⟨caps,hv⟩:=hv;refine wp_done (s:=pure (a.eval x)) ?_ (.same r rfl h1) hn;simp[execOp,ho,hv]
  ·exact(Mfail_someZ e).elim
 case h_31 f' caps'=>
  split at hc
  case h_2=>cases hc
  rename_i f first caps ho
  simp only[Bool.and_eq_true,beq_iff_eq]at hc;obtain⟨⟨rfl,hfirst⟩,hcaps⟩:=hc;obtain⟨rfl,rfl⟩:=Mret_someZ e;have hR:=args_ok hf hcaps;have hfe:first=#[]:=by simpa using hfirst
  subst hfe;refine wp_done (s:=Instr.makeFunc (.func (ν f')) (Array.map a.eval #[]) (caps.map a.eval)) (by simp[execOp,ho]) (.same r (v:=.func (.func (ν f')) #[] (caps.map a.eval)) (by simp[Instr.makeFunc]) ?_) hn;exact .clo (by have:=hR.1;simpa using this) λj v c h1 h2=>hR.2 j v c (by simpa using h1) h2
 case h_32 mode f' args'=>
  split at hc
  case h_2=>cases hc
  rename_i fo cargs tys ho;simp only[Bool.and_eq_true]at hc;have hfv:=eval_ok hf hc.1;have hR:=args_ok hf hc.2;simp only[osem]at e;split at e
  ·exact wp_call ho (callM_ok hs r e hfv hR) hn
  ·exact wp_call ho (lcallM_ok hs r e hfv hR) hn
  ·exact wp_call ho (ocallM_ok hs r e hfv hR) hn
  ·exact(Mfail_someZ e).elim
  ·exact wp_call ho (fcallM_ok hs r e hfv hR) hn
 case h_33 x'=>
  split at hc
  case h_2=>cases hc
  rename_i s d x ho;simp only[Bool.and_eq_true]at hc;exact wp_done (s:=convert s d (a.eval x)) (by simp[execOp,ho]) (cvb_ok r hc.1.1 hc.1.2 (eval_ok hf hc.2) e) hn
 case h_34=>cases hc
 case h_35=>cases hc
 case h_36=>cases hc
 case h_37=>cases hc
 case h_38=>cases hc
end
end Arb
namespace Arb
open Go
def GE {α:Type} (h h':List (Nat×α)):Prop:=∀n,get h n=get h' n
theorem GE.refl {α:Type} (h:List (Nat×α)):GE h h:=λ_=>rfl
theorem GE.symm {α:Type} {h h':List (Nat×α)} (e:GE h h'):GE h' h:=λn=>(e n).symm
theorem GE.trans {α:Type} {a b c:List (Nat×α)} (e:GE a b) (f:GE b c):GE a c:=λn=>(e n).trans (f n)
theorem GE.set {α:Type} {h h':List (Nat×α)} (e:GE h h') (n:Nat) (x:α):GE (set h n x) (set h' n x):=λm=>by simp[get_set,e m]
theorem M.frame {α:Type}:∀(m:M α) (h h' h1:Hp) (a:α),m.run h=some (a,h1)->(∀n ∈ (m.foot h).1,Arb.get h n=Arb.get h' n)->
  ∃h1',m.run h'=some (a,h1')/\m.foot h'=m.foot h/\(∀n ∈ (m.foot h).2,Arb.get h1' n=Arb.get h1 n)/\∀n,n ∉ (m.foot h).2->Arb.get h1' n=Arb.get h' n/\Arb.get h1 n=Arb.get h n
 |.ret x,h,h',h1,a,e,_=>by
  simp only[M.run,Option.some.injEq,Prod.mk.injEq]at e;obtain⟨rfl,rfl⟩:=e;exact⟨h',rfl,rfl,λn hn=>by simp[M.foot]at hn,λn _=>⟨rfl,rfl⟩⟩
 |.fail,h,h',h1,a,e,_=>by simp[M.run]at e
 |.get id k,h,h',h1,a,e,hr=>by
  simp only[M.run]at e;simp only[M.foot,List.mem_cons]at hr ⊢;have hid:=hr id (.inl rfl);obtain⟨h1',e1,e2,e3,e4⟩:=M.frame (k (Arb.get h id)) h h' h1 a e λn hn=>hr n (.inr hn)
  refine⟨h1',?_,?_,e3,e4⟩
  ·simp only[M.run,<-hid];exact e1
  ·simp only[<-hid];rw[e2]
 |.put id o k,h,h',h1,a,e,hr=>by
  simp only[M.run]at e;simp only[M.foot,List.mem_append,List.mem_singleton,not_or]at hr ⊢;obtain⟨h1',e1,e2,e3,e4⟩:=M.frame k (Arb.set h id o) (Arb.set h' id o) h1 a e λn hn=>by simp[get_set,hr n hn]
  refine⟨h1',e1,by rw[e2],?_,?_⟩
  ·rintro n (hn | rfl)
   ·exact e3 n hn
   ·by_cases hin:n ∈ (k.foot (Arb.set h n o)).2
    ·exact e3 n hin
    ·obtain⟨a1,a2⟩:=e4 n hin;rw[a1,a2];simp[get_set]
  ·intro n hn;obtain⟨a1,a2⟩:=e4 n hn.1;have hne:id≠n:=λh=>hn.2 h.symm
   exact⟨by rw[a1];simp[get_set,hne],by rw[a2];simp[get_set,hne]⟩
def oneR:Opd->List Nat
 |.t n=>[n]
 |.c _=>[]
def optR:Option Opd->List Nat
 |some x=>oneR x
 |none=>[]
def manyR:List Opd->List Nat
 |[]=>[]
 |x::r=>oneR x++manyR r
def partR {α:Type} (f:α->Opd):List α->List Nat
 |[]=>[]
 |x::r=>oneR (f x)++partR f r
def readsOf:IOp->List Nat
 |.mov x | .box x | .fadr _ x | .fld _ _ _ x | .un _ x | .cvi _ x | .cvs x | .cvb x | .slz _ x | .clr _ _ x | .len _ x | .ext x _ | .nchk x | .load _ _ x=>oneR x
 |.nil0 _ | .alloc _ | .mmk=>[]
 |.mlen x=>oneR x
 |.mget _ _ _ _ x y | .mdel _ x y=>oneR x++oneR y
 |.mput _ x y z=>oneR x++(oneR y++oneR z)
 |.pick c a b=>oneR c++(oneR a++oneR b)
 |.build _ ps=>partR (λp=>p.2.2) ps
 |.bsl _ _ _ ps=>partR (λp=>p.2) ps
 |.store _ x y | .iarr _ _ x y | .isl _ x y | .xarr _ _ _ x y | .xstr x y | .bin _ _ x y | .eqc _ _ x y | .app _ x y=>oneR x++oneR y
 |.slc _ x lo hi | .slcs x lo hi=>oneR x++(optR lo++optR hi)
 |.mn x ys | .mx x ys=>oneR x++manyR ys
 |.mkf _ cs=>manyR cs
 |.call _ f U=>oneR f++manyR U
def readsO (o:IOper):List Nat:=readsOf o.op++(match o.gd with | some (t,_)=>[t] | none=>[])
theorem manyR_map {ρ ρ':Opd->AV}:∀{l:List Opd},(∀x:Opd,(∀n ∈ oneR x,n ∈ manyR l)->ρ x=ρ' x)->l.map ρ=l.map ρ'
 |[],_=>rfl
 |x::r,h=>by
  simp only[List.map_cons,h x λn hn=>by simp[manyR,hn]];rw[manyR_map (l:=r) λy hy=>h y λn hn=>by simp[manyR,hy n hn]]
theorem partR_map {α β:Type} {f:α->Opd} {ρ ρ':Opd->AV} {F:α->AV->M β}:∀{l:List α},(∀x:Opd,(∀n ∈ oneR x,n ∈ partR f l)->ρ x=ρ' x)->
  M.mapL (λp=>F p (ρ (f p))) l=M.mapL (λp=>F p (ρ' (f p))) l
 |[],_=>rfl
 |x::r,h=>by
  simp only[M.mapL];rw[h (f x) λn hn=>by simp[partR,hn],partR_map (l:=r) λy hy=>h y λn hn=>by simp[partR,hy n hn]]
theorem osem_congr {call:Nat->List AV->Hp->Option (AV×Hp)} {slot:Nat} {ρ ρ':Opd->AV} {op:IOp} (h:∀x:Opd,(∀n ∈ oneR x,n ∈ readsOf op)->ρ x=ρ' x):osem call slot ρ op=osem call slot ρ' op:=by
 cases op<;>simp only[readsOf]at h<;>simp only[osem]
 case pick c a b=>rw[h c λn hn=>by simp[hn],h a λn hn=>by simp[hn],h b λn hn=>by simp[hn]]
 case build z ps=>rw[partR_map (F:=λp v=>(cellsM v).bind λl=>(M.ok (l.length==p.2.1&&Nat.ble (p.1+p.2.1) z.length)).bind λ_=>.ret (p.1,l)) h]
 case bsl e z n ps=>rw[partR_map (F:=λp v=>(cellsM v).bind λxs=>(M.ok (xs.length==e&&Nat.blt p.1 n)).bind λ_=>(M.mapL (fz true 8) xs).bind λl=>.ret (p.1,l)) h]
 case slc e x lo hi=>
  rw[h x λn hn=>by simp[hn]];have h1:lo.map ρ=lo.map ρ':=by cases lo with | none=>rfl | some l=>simp[h l λn hn=>by simp[optR,hn]]
  have h2:hi.map ρ=hi.map ρ':=by cases hi with | none=>rfl | some l=>simp[h l λn hn=>by simp[optR,hn]]
  rw[h1,h2]
 case slcs x lo hi=>
  rw[h x λn hn=>by simp[hn]];have h1:lo.map ρ=lo.map ρ':=by cases lo with | none=>rfl | some l=>simp[h l λn hn=>by simp[optR,hn]]
  have h2:hi.map ρ=hi.map ρ':=by cases hi with | none=>rfl | some l=>simp[h l λn hn=>by simp[optR,hn]]
  rw[h1,h2]
 case mn x ys=>rw[h x λn hn=>by simp[hn],manyR_map (l:=ys) λy hy=>h y λn hn=>by simp[hy n hn]]
 case mx x ys=>rw[h x λn hn=>by simp[hn],manyR_map (l:=ys) λy hy=>h y λn hn=>by simp[hy n hn]]
 case mkf f ys=>rw[manyR_map (l:=ys) h]
 case call mode f ys=>rw[h f λn hn=>by simp[hn],manyR_map (l:=ys) λy hy=>h y λn hn=>by simp[hy n hn]]
 case mput qs x y z=>rw[h x λn hn=>by simp[hn],h y λn hn=>by simp[hn],h z λn hn=>by simp[hn]]
 case mget ok agg qs z x y=>rw[h x λn hn=>by simp[hn],h y λn hn=>by simp[hn]]
 case mdel qs x y=>rw[h x λn hn=>by simp[hn],h y λn hn=>by simp[hn]]
 case store sz x y=>rw[h x λn hn=>by simp[hn],h y λn hn=>by simp[hn]]
 case iarr len e x y=>rw[h x λn hn=>by simp[hn],h y λn hn=>by simp[hn]]
 case isl e x y=>rw[h x λn hn=>by simp[hn],h y λn hn=>by simp[hn]]
 case xarr a len e x y=>rw[h x λn hn=>by simp[hn],h y λn hn=>by simp[hn]]
 case xstr x y=>rw[h x λn hn=>by simp[hn],h y λn hn=>by simp[hn]]
 case bin op q x y=>rw[h x λn hn=>by simp[hn],h y λn hn=>by simp[hn]]
 case eqc neg qs x y=>rw[h x λn hn=>by simp[hn],h y λn hn=>by simp[hn]]
 case app e x y=>rw[h x λn hn=>by simp[hn],h y λn hn=>by simp[hn]]
 all_goals first | rfl | (rename_i x;rw[h x λn hn=>hn]) | (rename_i x _;rw[h x λn hn=>hn])
def SE (s s':St):Prop:=GE s.fr s'.fr/\GE s.hp s'.hp/\s.nx=s'.nx
theorem SE.refl (s:St):SE s s:=⟨.refl _,.refl _,rfl⟩
theorem SE.symm {s s':St} (h:SE s s'):SE s' s:=⟨h.1.symm,h.2.1.symm,h.2.2.symm⟩
theorem SE.trans {a b c:St} (h:SE a b) (h':SE b c):SE a c:=⟨h.1.trans h'.1,h.2.1.trans h'.2.1,h.2.2.trans h'.2.2⟩
theorem GE.putD {fr fr':Fr} (e:GE fr fr') (d:Option Nat) (v:AV):GE (putD fr d v) (putD fr' d v):=by
 cases d with
 |none=>exact e
 |some d=>exact e.set d v
theorem putD_ne {fr:Fr} {d:Option Nat} {v:AV} {n:Nat} (h:d≠some n):get (putD fr d v) n=get fr n:=by
 cases d with
 |none=>rfl
 |some d=>simp[Arb.putD,get_set,show d≠n from λe=>h (by rw[e])]
theorem putD_comm {fr:Fr} {d d':Option Nat} {v v':AV} (h:d≠d'\/d=none):GE (putD (putD fr d v) d' v') (putD (putD fr d' v') d v):=by
 intro n;cases d with
 |none=>rfl
 |some d=>
  cases d' with
  |none=>rfl
  |some d'=>
   have hne:d≠d':=λe=>by rcases h with h | h;exact h (by rw[e]);cases h
   simp only[Arb.putD,get_set];by_cases h1:d'=n
   ·have:d≠n:=λe=>hne (e.trans h1.symm)
    simp[h1,this]
   ·simp[h1]
theorem ev_same {fr fr':Fr} {l:List Nat} (h:∀n ∈ l,get fr n=get fr' n) (x:Opd) (hx:∀n ∈ oneR x,n ∈ l):ev fr x=ev fr' x:=by
 cases x with
 |c v=>rfl
 |t n=>simp only[ev];rw[h n (hx n (by simp[oneR]))]
abbrev Feet:=List Nat×List Nat
section
variable {call:Nat->List AV->Hp->Option (AV×Hp)}
theorem step_like {slot:Nat} {o:IOper} {s s' s1:St} (e:step call slot o s=some s1) (hf:∀n ∈ readsO o,get s.fr n=get s'.fr n)
  (hh:∀n ∈ (footOf call slot o s).1,get s.hp n=get s'.hp n) :
  ∃s1' v,step call slot o s'=some s1'/\footOf call slot o s'=footOf call slot o s/\s1.fr=putD s.fr o.dst v/\s1'.fr=putD s'.fr o.dst v/\s1.nx=s.nx/\s1'.nx=s'.nx/\
   (∀n ∈ (footOf call slot o s).2,get s1'.hp n=get s1.hp n)/\∀n,n ∉ (footOf call slot o s).2->get s1'.hp n=get s'.hp n/\get s1.hp n=get s.hp n:=by
 have hw:wants s'.fr o.gd=wants s.fr o.gd:=by
  cases hg:o.gd with
  |none=>rfl
  |some g=>
   simp only[wants];rw[hf g.1 (by simp[readsO,hg])]
 have ho:osem call slot (ev s'.fr) o.op=osem call slot (ev s.fr) o.op:=osem_congr λx hx=>(ev_same hf x λn hn=>by simp[readsO,hx n hn]).symm
 unfold step at e ⊢;unfold footOf at hh ⊢;rw[hw,ho];cases hwv:wants s.fr o.gd with
 |none=>rw[hwv]at e;cases e
 |some b=>
  rw[hwv]at e hh;cases b with
  |false=>
   simp only[Option.some.injEq]at e;subst e;exact⟨_,.tup [],rfl,rfl,rfl,rfl,rfl,rfl,λn h0=>by simp at h0,λn _=>⟨rfl,rfl⟩⟩
  |true=>
   simp only[]at e hh ⊢;cases hr:(osem call slot (ev s.fr) o.op).run s.hp with
   |none=>rw[hr]at e;cases e
   |some p=>
    obtain⟨v,h1⟩:=p;rw[hr]at e;simp only[Option.some.injEq]at e;subst e;obtain⟨h1',e1,e2,e3,e4⟩:=M.frame _ _ s'.hp _ _ hr hh;rw[e1];exact⟨_,v,rfl,e2,rfl,rfl,rfl,rfl,e3,e4⟩
theorem step_ext {slot:Nat} {o:IOper} {s s' s1:St} (e:step call slot o s=some s1) (h:SE s s') :
  ∃s1',step call slot o s'=some s1'/\footOf call slot o s'=footOf call slot o s/\SE s1 s1':=by
 obtain⟨s1',v,e1,e2,e3,e4,e5,e6,e7,e8⟩:=step_like e (λn _=>h.1 n) λn _=>h.2.1 n
 refine⟨s1',e1,e2,?_,?_,?_⟩
 ·rw[e3,e4];exact h.1.putD _ _
 ·intro n;by_cases hn:n ∈ (footOf call slot o s).2
  ·exact(e7 n hn).symm
  ·rw[(e8 n hn).1,(e8 n hn).2];exact h.2.1 n
 ·rw[e5,e6];exact h.2.2
def apartT (x y:IOper):Bool:=
 (match x.dst with | some d=>!(readsO y).contains d&&y.dst != some d | none=>true)&&(match y.dst with | some d=>!(readsO x).contains d | none=>true)
theorem apartT_spec {x y:IOper} (h:apartT x y=true):(∀d,x.dst=some d->d ∉ readsO y)/\(x.dst≠y.dst\/x.dst=none)/\∀d,y.dst=some d->d ∉ readsO x:=by
 unfold apartT at h;simp only[Bool.and_eq_true]at h;obtain⟨h1,h2⟩:=h;refine⟨λd hd=>?_,?_,λd hd=>?_⟩
 ·rw[hd]at h1;simp at h1;exact h1.1
 ·cases hx:x.dst with
  |none=>exact .inr rfl
  |some d=>
   rw[hx]at h1;simp at h1;exact .inl λe=>h1.2 e.symm
 ·rw[hd]at h2;simpa using h2
theorem meets_spec {a b:List Nat} (h:meets a b=false):∀n ∈ a,n ∉ b:=by
 intro n hn hb;have:meets a b=true:=by simp only[meets,List.any_eq_true,List.contains_iff_mem];exact⟨n,hn,hb⟩
 rw[h]at this;cases this
theorem swap {sx sy:Nat} {x y:IOper} {s s1 s2:St} (e1:step call sx x s=some s1) (e2:step call sy y s1=some s2) (hT:apartT x y=true)
  (hc:clash (footOf call sx x s) (footOf call sy y s1)=false) :
  ∃t1 t2,step call sy y s=some t1/\footOf call sy y s=footOf call sy y s1/\step call sx x t1=some t2/\footOf call sx x t1=footOf call sx x s/\SE s2 t2:=by
 obtain⟨a1,a2,a3⟩:=apartT_spec hT;simp only[clash,Bool.or_eq_false_iff]at hc;have c1:=meets_spec hc.1;have c2:=meets_spec hc.2;obtain⟨_,v,_,_,f1,_,n1,_,_,w1⟩:=step_like (s':=s) e1 (λn _=>rfl) λn _=>rfl
 obtain⟨t1,u,e3,e4,f2,f3,n2,n3,w2,w3⟩:=step_like (s':=s) e2 (λn hn=>by
   rw[f1];exact putD_ne λh=>a1 n h hn) (λn hn=>(w1 n λhm=>c1 n hm (by simp[hn])).2)
 obtain⟨t2,v',e5,e6,f4,f5,n4,n5,w4,w5⟩:=step_like (s':=t1) e1 (λn hn=>by
   rw[f3];exact(putD_ne λh=>a3 n h hn).symm) (λn hn=>((w3 n λhm=>c2 n hm (by simp[hn])).1).symm)
 refine⟨t1,t2,e3,e4,e5,e6,?_,?_,?_⟩
 ·have hv:putD (putD s.fr y.dst u) x.dst v'=putD (putD s.fr y.dst u) x.dst v\/x.dst=none:=by
   cases hx:x.dst with
   |none=>exact .inr rfl
   |some d=>
    rw[f1,hx]at f4;have:=congrArg (λl=>get l d) f4;simp[Arb.putD,get_set_same]at this;exact .inl (by rw[this])
  rw[f2,f5,f1,f3];rcases hv with hv | hv
  ·rw[hv];exact putD_comm a2
  ·rw[hv];exact .refl _
 ·intro n;by_cases hx:n ∈ (footOf call sx x s).2
  ·have hy:n ∉ (footOf call sy y s1).2:=λh=>c1 n hx (by simp[h])
   rw[w4 n hx,(w3 n hy).2]
  ·rw[(w5 n hx).1];by_cases hy:n ∈ (footOf call sy y s1).2
   ·rw[w2 n hy]
   ·rw[(w3 n hy).1,(w3 n hy).2,(w1 n hx).2]
 ·rw[n2,n1,n5,n3]
inductive Run (call:Nat->List AV->Hp->Option (AV×Hp)) (s0:Nat):List (Nat×IOper×Feet)->St->St->Prop
 |nil {s s':St} (h:SE s s'):Run call s0 [] s s'
 |cons {i:Nat} {o:IOper} {f:Feet} {r:List (Nat×IOper×Feet)} {s s1 s':St} (e:step call (s0+64*i) o s=some s1) (hf:footOf call (s0+64*i) o s=f)
   (hr:Run call s0 r s1 s'):Run call s0 ((i,o,f)::r) s s'
theorem Run.ext {s0:Nat} {l:List (Nat×IOper×Feet)} {s t s':St} (h:Run call s0 l s s') (e:SE s t):Run call s0 l t s':=by
 induction h generalizing t with
 |nil h=>exact .nil (e.symm.trans h)
 |cons e1 hf _ ih=>
  obtain⟨t1,e2,e3,e4⟩:=step_ext e1 e;exact .cons e2 (e3.trans hf) (ih e4)
def Apart (x y:Nat×IOper×Feet):Prop:=apartT x.2.1 y.2.1=true/\clash x.2.2 y.2.2=false
theorem Run.front {s0:Nat} {x:Nat×IOper×Feet} {l2:List (Nat×IOper×Feet)} {s':St}:∀(l1:List (Nat×IOper×Feet)) (s:St),Run call s0 (l1++x::l2) s s'->(∀y ∈ l1,Apart y x)->
  ∃s1,step call (s0+64*x.1) x.2.1 s=some s1/\footOf call (s0+64*x.1) x.2.1 s=x.2.2/\Run call s0 (l1++l2) s1 s'
 |[],s,h,_=>by
  cases h with
  |cons e hf hr=>exact⟨_,e,hf,hr⟩
 |y::l1,s,h,ha=>by
  cases h with
  |cons e hf hr=>
   obtain⟨t1,e2,f2,r2⟩:=Run.front l1 _ hr λz hz=>ha z (by simp[hz])
   obtain⟨h1,h2⟩:=ha _ (List.mem_cons_self ..);obtain⟨u1,u2,e3,e4,e5,e6,e7⟩:=swap e e2 h1 (by rw[hf,f2];exact h2);exact⟨u1,e3,e4.trans f2,.cons e5 (e6.trans hf) (r2.ext e7)⟩
end
section
variable {prog:Nat->Option IFn}
def Ev (prog:Nat->Option IFn) (f:Nat) (args:List AV) (hp:Hp) (p:AV×Hp):Prop:=∃K,∀n,K<=n->evalF prog n f args hp=some p
def Ans (prog:Nat->Option IFn) (f:Nat) (args:List AV) (y:AV):Prop:=∃K,∀n,K<=n->(evalF prog n f args []).bind shut=some y
theorem Ev.ans {f:Nat} {args:List AV} {p:AV×Hp} (h:Ev prog f args [] p) {y:AV} (hy:shut p=some y):Ans prog f args y:=by
 obtain⟨K,h⟩:=h;exact⟨K,λn hn=>by rw[h n hn];exact hy⟩
def Wp (prog:Nat->Option IFn) (c:IC) (s:St) (Q:Ex->St->Prop):Prop:=∃K ex s',(∀n,K<=n->evalC (evalF prog n) n c s=some (ex,s'))/\Q ex s'
def Ex.then (k:St->Prop) (Q:Ex->St->Prop):Ex->St->Prop
 |.norm,s=>k s
 |e,s=>Q e s
def Ex.inBlock (id:Nat) (Q:Ex->St->Prop):Ex->St->Prop
 |.exit i,s=>if i=id then Q .norm s else Q (.exit i) s
 |e,s=>Q e s
theorem Wp.mono {c:IC} {s:St} {Q Q':Ex->St->Prop} (h:Wp prog c s Q) (hq:∀e s,Q e s->Q' e s):Wp prog c s Q':=by
 obtain⟨K,ex,s',h,q⟩:=h;exact⟨K,ex,s',h,hq _ _ q⟩
theorem WpskipZ {s:St} {Q:Ex->St->Prop} (h:Q .norm s):Wp prog .skip s Q:=⟨0,_,_,λ_ _=>rfl,h⟩
theorem WpexitZ {id:Nat} {s:St} {Q:Ex->St->Prop} (h:Q (.exit id) s):Wp prog (.exit id) s Q:=⟨0,_,_,λ_ _=>rfl,h⟩
theorem WpretZ {s:St} {Q:Ex->St->Prop} (h:Q .ret s):Wp prog .ret s Q:=⟨0,_,_,λ_ _=>rfl,h⟩
theorem ab {a b:IC} {s:St} {Q:Ex->St->Prop} (h:Wp prog a s (Ex.then (λs'=>Wp prog b s' Q) Q)):Wp prog (.seq a b) s Q:=by
 obtain⟨K,ex,s',h,q⟩:=h;cases ex with
 |norm=>
  obtain⟨K2,ex2,s2,h2,q2⟩:=q;exact⟨max K K2,ex2,s2,λn hn=>by simp only[evalC,h n (by omega),h2 n (by omega)],q2⟩
 |exit i=>exact⟨K,_,_,λn hn=>by simp only[evalC,h n hn],q⟩
 |ret=>exact⟨K,_,_,λn hn=>by simp only[evalC,h n hn],q⟩
theorem WpcondZ {c:Opd} {a b:IC} {s:St} {Q:Ex->St->Prop} {t:Bool} (hc:ev s.fr c = .iv (.bool t)) (h:Wp prog (if t then a else b) s Q):Wp prog (.cond c a b) s Q:=by
 obtain⟨K,ex,s',h,q⟩:=h;refine⟨K,ex,s',λn hn=>?_,q⟩;have:=h n hn;cases t<;>simpa[evalC,hc]using this
theorem WpblockZ {id:Nat} {b:IC} {s:St} {Q:Ex->St->Prop} (h:Wp prog b s (Ex.inBlock id Q)):Wp prog (.block id b) s Q:=by
 obtain⟨K,ex,s',h,q⟩:=h;cases ex with
 |norm=>exact⟨K,_,_,λn hn=>by simp only[evalC,h n hn],q⟩
 |ret=>exact⟨K,_,_,λn hn=>by simp only[evalC,h n hn],q⟩
 |exit i=>
  simp only[Ex.inBlock]at q;by_cases hi:i=id
  ·rw[if_pos hi]at q;exact⟨K,.norm,s',λn hn=>by simp only[evalC,h n hn,if_pos hi],q⟩
  ·rw[if_neg hi]at q;exact⟨K,.exit i,s',λn hn=>by simp only[evalC,h n hn,if_neg hi],q⟩
theorem WprgnZ {draw:Bool} {ops:List IOper} {keep:List Nat} {s s':St} {Q:Ex->St->Prop} {K:Nat} (h:∀n,K<=n->evalRgn (evalF prog n) draw ops keep s=some s') (q:Q .norm s'):Wp prog (.rgn draw ops keep) s Q:=
 ⟨K,_,_,λn hn=>by simp only[evalC,h n hn,Option.map_some],q⟩
theorem WprgZ {draw:Bool} {ops:List IOper} {keep:List Nat} {s s':St} {Q:Ex->St->Prop} (q:Q .norm s') (h:∀n,0<=n->evalRgn (evalF prog n) draw ops keep s=some s':=by intro n hn;simp;rfl):Wp prog (.rgn draw ops keep) s Q:=WprgnZ (K:=0) h q
theorem Wpr0Z {draw:Bool} {ops:List IOper} {keep:List Nat} {s s':St} {Q:Ex->St->Prop} (h:∀{n:Nat},evalRgn (evalF prog n) draw ops keep s=some s') (q:Q .norm s'):Wp prog (.rgn draw ops keep) s Q:=WprgnZ (K:=0) (λ_ _=>h) q
theorem Wps0Z {draw:Bool} {ops:List IOper} {keep:List Nat} {b:IC} {s s':St} {Q:Ex->St->Prop} (h:∀{n:Nat},evalRgn (evalF prog n) draw ops keep s=some s') (q:Wp prog b s' Q):Wp prog (.seq (.rgn draw ops keep) b) s Q:=ab (WprgnZ (K:=0) (λ_ _=>h) q)
theorem WpsgZ {draw:Bool} {ops:List IOper} {keep:List Nat} {b:IC} {s s':St} {Q:Ex->St->Prop} (q:Wp prog b s' Q) (h:∀n,0<=n->evalRgn (evalF prog n) draw ops keep s=some s':=by intro n hn;simp;rfl):Wp prog (.seq (.rgn draw ops keep) b) s Q:=ab (WprgnZ (K:=0) h q)
theorem WpskZ {draw:Bool} {ops:List IOper} {keep:List Nat} {b:IC} {s s':St} {Q:Ex->St->Prop} {K:Nat} (h:∀n,K<=n->evalRgn (evalF prog n) draw ops keep s=some s') (q:Wp prog b s' Q):Wp prog (.seq (.rgn draw ops keep) b) s Q:=ab (WprgnZ h q)
theorem WploopZ {keep:List Nat} {b:IC} {s:St} {Q:Ex->St->Prop} (I:Nat->St->Prop) {m:Nat} (h0:I m { s with fr:=keepFr keep s.fr })
  (round:∀m s1,I m s1->Wp prog b s1 (Ex.then (λs2=>∃j,j<m/\I j (again keep s.nx s2)) Q)):Wp prog (.loop keep b) s Q:=by
 have key:∀m s1,I m s1->∃K ex s',(∀n,K<=n->∀j,K<=j->iter (evalC (evalF prog n) n b) keep s.nx j s1=some (ex,s'))/\Q ex s':=by
  intro m
  induction m using Nat.strongRecOn with
  |_ m ih=>
   intro s1 hI;obtain⟨K,ex,s2,h,q⟩:=round m s1 hI;cases ex with
   |norm=>
    obtain⟨j,hj,hIj⟩:=q;obtain⟨K2,ex2,s3,h2,q2⟩:=ih j hj _ hIj;refine⟨max K K2+1,ex2,s3,λn hn i hi=>?_,q2⟩;obtain⟨i,rfl⟩:∃i',i=i'+1:=⟨i - 1,by omega⟩;simp only[iter,h n (by omega)];exact h2 n (by omega) i (by omega)
   |exit e=>
    refine⟨K+1,.exit e,s2,λn hn i hi=>?_,q⟩;obtain⟨i,rfl⟩:∃i',i=i'+1:=⟨i - 1,by omega⟩;simp only[iter,h n (by omega)]
   |ret=>
    refine⟨K+1,.ret,s2,λn hn i hi=>?_,q⟩;obtain⟨i,rfl⟩:∃i',i=i'+1:=⟨i - 1,by omega⟩;simp only[iter,h n (by omega)]
 obtain⟨K,ex,s',h,q⟩:=key m _ h0;exact⟨K,ex,s',λn hn=>by simp only[evalC];exact h n hn n hn,q⟩
def Fin (res:List IRes) (p:AV×Hp):Ex->St->Prop
 |.norm,s | .ret,s=>(resAll s.fr res).run s.hp=some p
 |_,_=>False
theorem Ev.of {f:Nat} {fn:IFn} (hf:prog f=some fn) (hcl:fn.cl=none) {args:List AV} (hn:args.length=fn.np) {hp:Hp} {p:AV×Hp} (h:Wp prog fn.body ⟨params args 0,hp,1000⟩ (Fin fn.res p)):Ev prog f args hp p:=by
 obtain⟨K,ex,s',h,q⟩:=h;refine⟨K+1,λn hn'=>?_⟩;obtain⟨n,rfl⟩:∃n',n=n'+1:=⟨n - 1,by omega⟩;simp only[evalF,hf,hcl,if_pos hn,h n (by omega)];cases ex with
 |norm=>exact q
 |ret=>exact q
 |exit i=>exact q.elim
theorem Ev.ofs {f:Nat} {fn:IFn} (hf:prog f=some fn) {q:Nat×List IV} (hcl:fn.cl=some q) (hq:Nat.blt q.1 1000000=false) {args:List AV} (hn:args.length=fn.np) {hp:Hp} (hs:sortM q.1 args hp=none) {p:AV×Hp} (h:Wp prog fn.body ⟨params args 0,hp,1000⟩ (Fin fn.res p)):Ev prog f args hp p:=by
 obtain⟨K,ex,s',h,k⟩:=h;refine⟨K+1,λn hn'=>?_⟩;obtain⟨n,rfl⟩:∃n',n=n'+1:=⟨n - 1,by omega⟩;simp only[evalF,hf,hcl,hq,Bool.false_eq_true,if_false,hs,if_pos hn,h n (by omega)];cases ex with
 |norm=>exact k
 |ret=>exact k
 |exit i=>exact k.elim
theorem Ev.srt {f:Nat} {fn:IFn} (hf:prog f=some fn) {q:Nat×List IV} (hcl:fn.cl=some q) (hq:Nat.blt q.1 1000000=false) {args:List AV} {hp:Hp} {p:AV×Hp} (hs:sortM q.1 args hp=some p):Ev prog f args hp p:=by
 refine⟨1,λn hn'=>?_⟩;obtain⟨n,rfl⟩:∃n',n=n'+1:=⟨n - 1,by omega⟩;simp only[evalF,hf,hcl,hq,Bool.false_eq_true,if_false,hs]
def FinS (res:List IRes) (y:AV):Ex->St->Prop
 |.norm,s | .ret,s=>((resAll s.fr res).run s.hp).bind shut=some y
 |_,_=>False
theorem Ans.of {f:Nat} {fn:IFn} (hf:prog f=some fn) (hcl:fn.cl=none) {args:List AV} (hn:args.length=fn.np) {y:AV} (h:Wp prog fn.body ⟨params args 0,[],1000⟩ (FinS fn.res y)):Ans prog f args y:=by
 obtain⟨K,ex,s',h,q⟩:=h;refine⟨K+1,λn hn'=>?_⟩;obtain⟨n,rfl⟩:∃n',n=n'+1:=⟨n - 1,by omega⟩;simp only[evalF,hf,hcl,if_pos hn,h n (by omega)];cases ex with
 |norm=>exact q
 |ret=>exact q
 |exit i=>exact q.elim
end
abbrev CallF:=Nat->List AV->Hp->Option (AV×Hp)
def Cle (c c':CallF):Prop:=∀f U hp p,c f U hp=some p->c' f U hp=some p
def Mle {α:Type} (m m':M α):Prop:=∀h p,m.run h=some p->m'.run h=some p/\m'.foot h=m.foot h
theorem Mle.refl {α:Type} (m:M α):Mle m m:=λ_ _ e=>⟨e,rfl⟩
theorem M.foot_bind {α β:Type} (m:M α) (f:α->M β) (h:Hp):(m.bind f).foot h=match m.run h with
  |some (a,h1)=>((m.foot h).1++((f a).foot h1).1,((f a).foot h1).2++(m.foot h).2)
  |none=>m.foot h:=by
 induction m generalizing h with
 |ret a=>simp[M.bind,M.run,M.foot]
 |fail=>simp[M.bind,M.run,M.foot]
 |get id k ih=>
  simp only[M.bind,M.run,M.foot,ih];cases(k (Arb.get h id)).run h<;>simp
 |put id o k ih=>
  simp only[M.bind,M.run,M.foot,ih];cases k.run (Arb.set h id o)<;>simp
theorem Mle.bind {α β:Type} {m m':M α} {f f':α->M β} (h:Mle m m') (hf:∀a,Mle (f a) (f' a)):Mle (m.bind f) (m'.bind f'):=by
 intro g p e;obtain⟨a,h1,e1,e2⟩:=Mbind_someZ e;obtain⟨q1,q2⟩:=h _ _ e1;obtain⟨q3,q4⟩:=hf a _ _ e2;refine⟨by rw[Mrun_bindZ,q1];exact q3,?_⟩;rw[M.foot_bind,M.foot_bind,q1,e1];simp only[q2,q4]
theorem Mle.lift {α:Type} {x y:Option α} (h:∀a,x=some a->y=some a):Mle (M.lift x) (M.lift y):=by
 cases x with
 |none=>intro g p e;exact(Mfail_someZ e).elim
 |some a=>rw[h a rfl];exact .refl _
theorem osem_le {c c':CallF} (h:Cle c c') {slot:Nat} {ρ:Opd->AV} (op:IOp):Mle (osem c slot ρ op) (osem c' slot ρ op):=by
 cases op<;>first | exact .refl _ | skip
 rename_i mode f args;simp only[osem]
 match mode with
 |0=>
  refine .bind (.refl _) λq=>.bind (.refl _) λU=>.bind (.lift λa ha=>?_) λr=>.refl _
  simp only[Option.bind_eq_some_iff]at ha ⊢;obtain⟨p,h1,h2⟩:=ha;exact⟨p,h _ _ _ _ h1,h2⟩
 |1=>exact .bind (.refl _) λq=>.bind (.refl _) λ_=>.bind (.refl _) λU=>.bind (.refl _) λos=>.bind (.lift λp hp=>h _ _ _ _ hp) λp=>.refl _
 |2=>exact .bind (.refl _) λq=>.bind (.refl _) λU=>.bind (.lift λp hp=>h _ _ _ _ hp) λp=>.refl _
 |4=>exact .refl _
 |3 | _+5=>
  refine .bind (.refl _) λq=>.bind (.refl _) λU=>.lift λa ha=>?_
  simp only[Option.bind_eq_some_iff]at ha ⊢;obtain⟨p,h1,h2⟩:=ha;exact⟨p,h _ _ _ _ h1,h2⟩
theorem step_le {c c':CallF} (h:Cle c c') {slot:Nat} {o:IOper} {s s1:St} (e:step c slot o s=some s1):step c' slot o s=some s1/\footOf c' slot o s=footOf c slot o s:=by
 unfold step at e ⊢;unfold footOf;split at e
 ·rename_i hw;cases hr:(osem c slot (ev s.fr) o.op).run s.hp with
  |none=>rw[hr]at e;cases e
  |some p=>
   obtain⟨q1,q2⟩:=osem_le h o.op _ _ hr;rw[hr]at e;rw[hw,q1];exact⟨e,q2⟩
 ·rename_i hw;rw[hw];exact⟨e,rfl⟩
 ·cases e
theorem ops_le {c c':CallF} (h:Cle c c'):∀(ops:List IOper) (slot:Nat) (s s1:St),evalOps c ops slot s=some s1->evalOps c' ops slot s=some s1/\evalFeet c' ops slot s=evalFeet c ops slot s
 |[],slot,s,s1,e=>⟨e,rfl⟩
 |o::r,slot,s,s1,e=>by
  simp only[evalOps,evalFeet]at e ⊢;cases h1:step c slot o s with
  |none=>rw[h1]at e;cases e
  |some s2=>
   obtain⟨q1,q2⟩:=step_le h h1;rw[h1]at e;rw[q1];obtain⟨q3,q4⟩:=ops_le h r _ _ _ e;exact⟨q3,by simp only[q2,q4]⟩
theorem rgn_le {c c':CallF} (h:Cle c c') {draw:Bool} {ops:List IOper} {keep:List Nat} {s s1:St} (e:evalRgn c draw ops keep s=some s1):evalRgn c' draw ops keep s=some s1:=by
 unfold evalRgn at e ⊢;cases h1:evalOps c ops s.nx s with
 |none=>rw[h1]at e;cases e
 |some s2=>
  obtain⟨q1,q2⟩:=ops_le h ops _ _ _ h1;rw[h1]at e;rw[q1,q2];exact e
theorem iter_le {f f':St->Option (Ex×St)} (h:∀s r,f s=some r->f' s=some r) {keep:List Nat} {n0:Nat}:∀(m m':Nat) (s:St) (r:Ex×St),m<=m'->iter f keep n0 m s=some r->iter f' keep n0 m' s=some r
 |0,_,s,r,_,e=>by simp[iter]at e
 |m+1,m',s,r,hm,e=>by
  obtain⟨m',rfl⟩:∃k,m'=k+1:=⟨m' - 1,by omega⟩;simp only[iter]at e ⊢;cases h1:f s with
  |none=>rw[h1]at e;cases e
  |some p=>
   obtain⟨ex,s1⟩:=p;rw[h1]at e;rw[h _ _ h1];cases ex with
   |norm=>exact iter_le h m m' _ r (by omega) e
   |exit i=>exact e
   |ret=>exact e
theorem code_le {c c':CallF} (h:Cle c c') {n n':Nat} (hn:n<=n'):∀(ic:IC) (s:St) (r:Ex×St),evalC c n ic s=some r->evalC c' n' ic s=some r:=by
 intro ic
 induction ic with
 |skip=>exact λs r e=>e
 |exit id=>exact λs r e=>e
 |ret=>exact λs r e=>e
 |rgn draw ops keep=>
  intro s r e;simp only[evalC,Option.map_eq_some_iff]at e ⊢;obtain⟨s1,h1,h2⟩:=e;exact⟨s1,rgn_le h h1,h2⟩
 |seq a b iha ihb=>
  intro s r e;simp only[evalC]at e ⊢;cases h1:evalC c n a s with
  |none=>rw[h1]at e;cases e
  |some p=>
   obtain⟨ex,s1⟩:=p;rw[h1]at e;rw[iha _ _ h1];cases ex with
   |norm=>exact ihb _ _ e
   |exit i=>exact e
   |ret=>exact e
 |cond d a b iha ihb=>
  intro s r e;simp only[evalC]at e ⊢;generalize ev s.fr d=v at e;split at e
  ·rename_i t;cases t with
   |true=>exact iha _ _ e
   |false=>exact ihb _ _ e
  ·cases e
 |block id b ih=>
  intro s r e;simp only[evalC]at e ⊢;cases h1:evalC c n b s with
  |none=>rw[h1]at e;cases e
  |some p=>
   rw[h1]at e;rw[ih _ _ h1];exact e
 |loop keep b ih=>
  intro s r e;simp only[evalC]at e ⊢;exact iter_le ih n n' _ r hn e
theorem evalF_le {prog:Nat->Option IFn}:∀(n n':Nat),n<=n'->Cle (evalF prog n) (evalF prog n')
 |0,_,_=>λf U hp p e=>by simp[evalF]at e
 |n+1,n',hn=>by
  obtain⟨n',rfl⟩:∃k,n'=k+1:=⟨n' - 1,by omega⟩;have ih:=evalF_le (prog:=prog) n n' (by omega);intro f U hp p e;simp only[evalF]at e ⊢;cases hf:prog f with
  |none=>rw[hf]at e;cases e
  |some fn=>
   rw[hf]at e;simp only[]at e ⊢;cases hcl:fn.cl with
   |some q=>
    rw[hcl]at e;simp only[]at e ⊢;split at e
    ·rename_i hb;rw[if_pos hb];exact e
    ·rename_i hb;rw[if_neg hb];cases hs:sortM q.1 U hp with
     |some r=>rw[hs]at e;exact e
     |none=>
      rw[hs]at e;simp only[]at e ⊢;split at e
      ·rename_i hl;rw[if_pos hl];cases h1:evalC (evalF prog n) n fn.body ⟨params U 0,hp,1000⟩with
       |none=>rw[h1]at e;cases e
       |some q=>
        rw[h1]at e;rw[code_le ih (by omega) _ _ _ h1];exact e
      ·cases e
   |none=>
    rw[hcl]at e;simp only[]at e ⊢;split at e
    ·rename_i hl;rw[if_pos hl];cases h1:evalC (evalF prog n) n fn.body ⟨params U 0,hp,1000⟩with
     |none=>rw[h1]at e;cases e
     |some q=>
      rw[h1]at e;rw[code_le ih (by omega) _ _ _ h1];exact e
    ·cases e
theorem Ev.at {prog:Nat->Option IFn} {n f:Nat} {args:List AV} {hp:Hp} {p:AV×Hp} (e:evalF prog n f args hp=some p):Ev prog f args hp p:=⟨n,λm hm=>evalF_le n m hm _ _ _ _ e⟩
def NP {α:Type} (m:M α):Prop:=∀h,(m.foot h).2=[]
theorem NP.ret {α:Type} (a:α):NP (M.ret a):=λ_=>rfl
theorem NP.fail {α:Type}:NP (M.fail:M α):=λ_=>rfl
theorem NP.bind {α β:Type} {m:M α} {f:α->M β} (h:NP m) (hf:∀a,NP (f a)):NP (m.bind f):=by
 intro g;rw[M.foot_bind];cases hr:m.run g with
 |none=>exact h g
 |some p=>simp[h g,hf p.1 p.2]
theorem NP.ok (b:Bool):NP (M.ok b):=by cases b<;>exact λ_=>rfl
theorem NP.lift {α:Type} (x:Option α):NP (M.lift x):=by cases x<;>exact λ_=>rfl
theorem NP.look (id:Nat):NP (M.look id):=by
 intro h;simp only[M.look,M.foot];cases get h id<;>rfl
theorem NP.mapL {α β:Type} {f:α->M β} (hf:∀a,NP (f a)):∀l:List α,NP (M.mapL f l)
 |[]=>.ret _
 |x::r=>.bind (hf x) λ_=>.bind (NP.mapL hf r) λ_=>.ret _
theorem NP.fz:∀(n:Nat) (a:AV),NP (fz false n a)
 |0,a=>.fail
 |n+1,a=>by
  have ih:=NP.fz n;unfold Arb.fz;cases a with
  |iv x=>cases x<;>exact .ret _
  |own id o m ver=>
   refine .bind (.look id) λob=>?_
   cases ob with
   |cells cs=>exact .fail
   |buf v e es=>exact .bind (.ok _) λ_=>.ret _
   |imm v e es=>exact .bind (.ok _) λ_=>.ret _
   |map _=>exact .fail
  |ref id ver i j=>
   refine .bind (.look id) λob=>?_
   cases ob with
   |cells cs=>exact .bind (.ok _) λ_=>.bind (.mapL ih _) λ_=>.ret _
   |buf v e es=>exact .bind (.ok _) λ_=>.bind (.lift _) λ_=>.ret _
   |imm v e es=>exact .bind (.ok _) λ_=>.bind (.lift _) λ_=>.ret _
   |map _=>exact .fail
  |clo f caps=>exact .bind (.mapL ih _) λ_=>.ret _
  |undef=>exact .fail
  |agg cs=>exact .fail
  |tup vs=>exact .fail
theorem NP.fzC (a:AV):NP (fzC false a):=.bind (NP.fz 8 a) λ_=>.ret _
theorem NP.fz1 (a:AV):NP (fz1 false a):=by
 cases a with
 |agg cs=>exact .bind (.mapL NP.fzC _) λ_=>.ret _
 |iv x=>exact NP.fzC _
 |own id o n v=>exact NP.fzC _
 |ref id v i j=>exact NP.fzC _
 |clo f c=>exact NP.fzC _
 |undef=>exact NP.fzC _
 |tup vs=>exact NP.fzC _
theorem NP.mk (agg:Bool) (l:List AV):NP (mk agg l):=by
 unfold Arb.mk;cases agg
 ·match l with
  |[]=>exact .fail
  |[x]=>exact .ret _
  |_::_::_=>exact .fail
 ·exact .ret _
theorem NP.load (agg:Bool) (sz:Nat) (a:AV):NP (load agg sz a):=by
 unfold Arb.load;split
 ·exact .bind (.look _) λo=>.bind (.lift _) λ_=>.bind (.ok _) λ_=>.mk _ _
 ·exact .bind (.ok _) λ_=>.mk _ _
 ·exact .fail
theorem NP.idx (a:AV):NP (idx a):=by unfold Arb.idx;split<;>first | exact .ret _ | exact .fail
theorem NP.bound (y:Nat) (a:Option AV):NP (bound y a):=by unfold Arb.bound;split<;>first | exact .ret _ | exact .fail | exact .bind (.ok _) λ_=>.ret _
theorem NP.fld (agg:Bool) (off sz:Nat) (a:AV):NP (fld agg off sz a):=by
 unfold Arb.fld;split
 ·exact .bind (.ok _) λ_=>.mk _ _
 ·exact .fail
def quiet:IOp->Bool
 |.mov _ | .pick _ _ _ | .load _ _ _ | .fadr _ _ | .fld _ _ _ _ | .iarr _ _ _ _ | .isl _ _ _ | .xarr _ _ _ _ _ | .bin _ _ _ _ | .eqc _ _ _ _ | .un _ _ | .cvi _ _ | .cvs _ | .len _ _ | .mn _ _ | .mx _ _ | .ext _ _ | .nchk _ | .call 0 _ _=>true
 |_=>false
theorem quiet_np {call:CallF} {slot:Nat} {ρ:Opd->AV} {op:IOp} (h:quiet op=true):NP (osem call slot ρ op):=by
 unfold quiet at h;split at h<;>first | cases h | skip
 ·exact .ret _
 ·simp only[osem];split<;>first | exact .ret _ | exact .fail
 ·exact .load _ _ _
 ·simp only[osem,fadr];split
  ·exact .bind (.look _) λ_=>.bind (.ok _) λ_=>.ret _
  ·exact .bind (.ok _) λ_=>.ret _
  ·exact .fail
 ·exact .fld _ _ _ _
 ·simp only[osem,iarr];refine .bind (.idx _) λ_=>.bind (.ok _) λ_=>?_
  split
  ·exact .bind (.look _) λ_=>.bind (.ok _) λ_=>.ret _
  ·exact .bind (.ok _) λ_=>.ret _
  ·exact .fail
 ·simp only[osem,isl];refine .bind (.idx _) λ_=>.bind (.ok _) λ_=>?_
  split
  ·refine .bind (.ok _) λ_=>.bind (.look _) λo=>?_
   cases o<;>first | exact .bind (.ok _) λ_=>.ret _ | exact .fail
  ·exact .bind (.ok _) λ_=>.bind (.lift _) λ_=>.ret _
  ·exact .fail
 ·exact .bind (.idx _) λ_=>.bind (.ok _) λ_=>.fld _ _ _ _
 ·exact .bind (.lift _) λ_=>.ret _
 ·simp only[osem];split<;>first | exact .bind (.lift _) λ_=>.ret _ | exact .fail
 ·exact .bind (.lift _) λ_=>.ret _
 ·exact .bind (.idx _) λ_=>.ret _
 ·simp only[osem];split<;>first | exact .ret _ | exact .fail
 ·simp only[osem,len];split
  ·refine .bind (.look _) λo=>?_
   cases o<;>first | exact .bind (.ok _) λ_=>.ret _ | exact .fail
  ·exact .ret _
  ·exact .ret _
  ·exact .ret _
  ·exact .fail
 ·simp only[osem];split<;>first | exact .bind (.lift _) λ_=>.ret _ | exact .fail
 ·simp only[osem];split<;>first | exact .bind (.lift _) λ_=>.ret _ | exact .fail
 ·simp only[osem];split<;>first | exact .lift _ | exact .fail
 ·simp only[osem];split<;>first | exact .bind (.look _) λ_=>.bind (.ok _) λ_=>.ret _ | exact .ret _ | exact .fail
 ·exact .bind (.lift _) λ_=>.bind (.mapL NP.fz1 _) λ_=>.bind (.lift _) λ_=>.bind (.ok _) λ_=>.ret _
theorem quiet_feet {call:CallF}:∀(ops:List IOper) (slot:Nat) (s:St),ops.all (λo=>quiet o.op)=true->(evalFeet call ops slot s).all (·.2.isEmpty)=true
 |[],_,_,_=>rfl
 |o::r,slot,s,h=>by
  simp only[List.all_cons,Bool.and_eq_true]at h;simp only[evalFeet,List.all_cons,Bool.and_eq_true];refine⟨?_,?_⟩
  ·unfold footOf;split
   ·rw[quiet_np h.1];rfl
   ·rfl
  ·split
   ·exact quiet_feet r _ _ h.2
   ·rfl
theorem rgn_quiet {call:CallF} {draw:Bool} {ops:List IOper} {keep:List Nat} {s s1:St} (hq:ops.all (λo=>quiet o.op)=true) (h:evalOps call ops s.nx s=some s1) :
  evalRgn call draw ops keep s=some { fr:=keepFr keep s1.fr,hp:=s1.hp,nx:=s.nx+64*ops.length }:=by
 unfold evalRgn;rw[h];simp only[orderOk,quiet_feet ops s.nx s hq,Bool.true_or,Bool.or_true,if_true]
theorem Wp.quiet {prog:Nat->Option IFn} {draw:Bool} {ops:List IOper} {keep:List Nat} {s s1:St} {Q:Ex->St->Prop} {K:Nat} (hq:ops.all (λo=>Arb.quiet o.op)=true) (h:∀n,K<=n->evalOps (evalF prog n) ops s.nx s=some s1)
  (q:Q .norm { fr:=keepFr keep s1.fr,hp:=s1.hp,nx:=s.nx+64*ops.length }):Wp prog (.rgn draw ops keep) s Q:=WprgnZ (K:=K) (λn hn=>rgn_quiet hq (h n hn)) q
theorem rgn_quiet' {call:CallF} {draw:Bool} {ops:List IOper} {keep:List Nat} {s s2:St} (hq:ops.all (λo=>Arb.quiet o.op)=true)
  (h:(evalOps call ops s.nx s).map (λs1=>({ fr:=keepFr keep s1.fr,hp:=s1.hp,nx:=s.nx+64*ops.length }:St))=some s2):evalRgn call draw ops keep s=some s2:=by
 simp only[Option.map_eq_some_iff]at h;obtain⟨s1,h1,rfl⟩:=h;exact rgn_quiet hq h1
end Arb
namespace Arb
open Go Go.RowKit
section
variable {ν:Nat->Nat} {P:Program} {k:Cx}
theorem Rel.he {g:Gh} (r:Rel ν k g) {h':Hp} (e:GE g.h h'):Rel ν k { g with h:=h' }/\Mono ν g { g with h:=h' }:=by
 have hm:Mono ν g { g with h:=h' }:=λv x hx=>RA.mono (g:=g) (g':={ g with h:=h' }) (λ_ _ h=>h)
  (λv id o n ver h=>by unfold OwnAt at h ⊢;rw[e id]at h;exact h) (λv id ver i j h=>by unfold RefAt at h ⊢;rw[e id]at h;exact h) hx
 refine⟨⟨λid o ho=>?_,λid id' o o' b h1 h2=>r.inj id id' o o' b ((e id).trans h1) ((e id').trans h2),r.small,r.i0,r.i1,λid o b h=>r.own id o b ((e id).trans h),r.size,r.os,r.tape,r.output,r.old⟩,hm⟩;have old:=r.ob id o ((e id).trans ho);cases o with
 |cells cs=>
  obtain⟨b,e1,e2,e3,e4⟩:=old;exact⟨b,e1,e2,e3,λj c hc=>let⟨v,c1,c2,c3⟩:=e4 j c hc;⟨v,c1,c2,hm _ _ c3⟩⟩
 |buf v e es=>exact old
 |imm v e es=>exact old
 |map kvs=>
  obtain⟨b,es,clock,e1,e2,e3,e4,e5,e6⟩:=old;exact⟨b,es,clock,e1,e2,e3,e4,e5,λj e p h1 h2=>let⟨c1,c2⟩:=e6 j e p h1 h2;⟨hm _ _ c1,hm _ _ c2⟩⟩
structure Sim (ν:Nat->Nat) (k:Cx) (nt:Nat) (g:Gh) (a:Act) (s:St):Prop where
 h:g.h=s.hp
 r:Rel ν k g
 f:FrR ν g a.tmps s.fr
 n:nt<=a.tmps.size
 d:a.defers=[]
theorem Sim.like {nt:Nat} {g:Gh} {a:Act} {s s':St} (m:Sim ν k nt g a s) (e:SE s s'):Sim ν k nt { g with h:=s'.hp } a s'/\Mono ν g { g with h:=s'.hp }:=by
 have he:GE g.h s'.hp:=by rw[m.h];exact e.2.1
 obtain⟨r,hm⟩:=m.r.he he;exact⟨⟨rfl,r,λt x ht=>let⟨v,h1,h2⟩:=m.f t x ((e.1 t).trans ht);⟨v,h1,hm _ _ h2⟩,m.n,m.d⟩,hm⟩
theorem Sim.put {nt:Nat} {g g':Gh} {a:Act} {s:St} (m:Sim ν k nt g a s) {h':Hp} {v:Value} {y:AV} {d:Option Nat} (hd:∀t,d=some t->t<nt) (hh:g'.h=h') (r':Rel ν k g') (hm:Mono ν g g')
  (hv:RA ν g' v y):Sim ν k nt g' (a.put d v) { s with fr:=putD s.fr d y,hp:=h' }:=by
 refine⟨hh,r',?_,?_,?_⟩
 ·cases d with
  |none=>exact m.f.mono hm
  |some d=>
   intro t x ht;simp only[Arb.putD,get_set]at ht;have hlt:d<a.tmps.size:=Nat.lt_of_lt_of_le (hd d rfl) m.n;by_cases hdt:d=t
   ·subst hdt;simp only[if_true,Option.some.injEq]at ht;subst ht;exact⟨v,by simp[Act.put,hlt],hv⟩
   ·rw[if_neg hdt]at ht;obtain⟨u,h1,h2⟩:=m.f t x ht;exact⟨u,by simp[Act.put,Array.getElem?_setIfInBounds_ne hdt,h1],hm _ _ h2⟩
 ·cases d with
  |none=>exact m.n
  |some d=>simpa[Act.put]using m.n
 ·cases d with
  |none=>exact m.d
  |some d=>exact m.d
def cOper (P:Program) (ν:Nat->Nat) (nt:Nat) (ops:Array Oper) (o:Oper) (io:IOper):Bool:=
 o.dst==io.dst&&(match io.dst with | some d=>Nat.blt d nt | none=>true) &&
 (match o.guard,io.gd with | none,none=>true | some (j,b),some (t,c)=>b==c&&(ops[j]?).bind (·.dst)==some t | _,_=>false)&&cOp P ν o.op io.op
theorem wanted_spec {g:Gh} {a:Act} {s:St} {nt:Nat} (m:Sim ν k nt g a s) {ops:Array Oper} {o:Oper} {io:IOper} (hc:cOper P ν nt ops o io=true) {b:Bool} (h:wants s.fr io.gd=some b) :
  Region.wanted o (yielded ops a.tmps)=b:=by
 simp only[cOper,Bool.and_eq_true]at hc;obtain⟨⟨_,hg⟩,_⟩:=hc;unfold Region.wanted;split at hg
 ·rename_i h1 h2;rw[h2]at h;simp only[wants,Option.some.injEq]at h;rw[h1];exact h
 ·rename_i j want t c h1 h2;simp only[Bool.and_eq_true,beq_iff_eq]at hg;obtain⟨rfl,hj⟩:=hg;rw[h2]at h;simp only[h1,yielded,hj,Option.bind_some];simp only[wants]at h;split at h
  ·rename_i c' hget;obtain⟨v,hv,hR⟩:=m.f _ _ hget;cases hR with
   |iv hI=>cases hI with
    |bool=>simp only[Option.some.injEq]at h;subst h;rw[hv];cases c'<;>cases want<;>rfl
  ·rename_i hget;obtain⟨v,hv,hR⟩:=m.f _ _ hget;cases hR with
   |tup hn _=>simp only[Option.some.injEq]at h;subst h;rw[hv];rfl
  ·cases h
 ·cases hg
theorem step_wp {call:Nat->List AV->Hp->Option (AV×Hp)} (hs:CallSound ν P call) {nt:Nat} {ops:Array Oper} {o:Oper} {io:IOper} (hc:cOper P ν nt ops o io=true) {g:Gh} {a:Act} {s s1:St} (m:Sim ν k nt g a s)
  {slot:Nat} (e:step call slot io s=some s1) {next:Act->World->Prop} {Q:Exit->Act->World->Prop} (hn:∀g' a',Sim ν k nt g' a' s1->Mono ν g g'->next a' g'.w) :
  if Region.wanted o (yielded ops a.tmps) then o.wp P a g.w next Q else next (a.put o.dst undef) g.w:=by
 have hc':=hc;simp only[cOper,Bool.and_eq_true,beq_iff_eq]at hc';obtain⟨⟨⟨hd,hlt⟩, -⟩,hop⟩:=hc';have hdn:∀t,io.dst=some t->t<nt:=by
  intro t ht;rw[ht]at hlt;simpa[Nat.blt_eq]using hlt
 unfold step at e;split at e
 ·rename_i hw;rw[wanted_spec m hc hw,if_pos rfl];cases hr:(osem call slot (ev s.fr) io.op).run s.hp with
  |none=>rw[hr]at e;cases e
  |some p=>
   obtain⟨y,h1⟩:=p;rw[hr]at e;simp only[Option.some.injEq]at e;subst e;refine op_wp hs hop m.r m.f (slot:=slot) (y:=y) (h':=h1) (by rw[m.h];exact hr) λg' v hh r' hm hR=>?_
   rw[hd];exact hn g' _ (m.put hdn hh r' hm hR) hm
 ·rename_i hw;rw[wanted_spec m hc hw,if_neg (by simp)];simp only[Option.some.injEq]at e;subst e;rw[hd];exact hn g _ (m.put hdn m.h m.r (.refl ν g) (.tup rfl λj v c h=>by simp at h)) (.refl ν g)
 ·cases e
def cOpers (P:Program) (ν:Nat->Nat) (nt:Nat) (ops:Array Oper):List Oper->List IOper->Bool
 |[],[]=>true
 |o::r,io::ir=>cOper P ν nt ops o io&&cOpers P ν nt ops r ir
 |_,_=>false
theorem cOpers_get {nt:Nat} {ops:Array Oper}:∀{l:List Oper} {il:List IOper},cOpers P ν nt ops l il=true->l.length=il.length/\∀(i:Nat) (o:Oper) (io:IOper),l[i]?=some o->il[i]?=some io->cOper P ν nt ops o io=true
 |[],[],_=>⟨rfl,λi o io h=>by simp at h⟩
 |o::r,io::ir,h=>by
  simp only[cOpers,Bool.and_eq_true]at h;obtain⟨h1,h2⟩:=cOpers_get h.2;refine⟨by simp[h1],λi o' io' e1 e2=>?_⟩;cases i with
  |zero=>simp at e1 e2;subst e1 e2;exact h.1
  |succ i=>exact h2 i o' io' (by simpa using e1) (by simpa using e2)
 |[],_::_,h=>by simp[cOpers]at h
 |_::_,[],h=>by simp[cOpers]at h
theorem ops_text {call:Nat->List AV->Hp->Option (AV×Hp)} (hs:CallSound ν P call) {nt:Nat} {ops:Array Oper} {Q:Exit->Act->World->Prop}:∀(l:List Oper) (il:List IOper) (slot:Nat) (g:Gh) (a:Act) (s s':St),
  cOpers P ν nt ops l il=true->evalOps call il slot s=some s'->Sim ν k nt g a s->(∀g' a',Sim ν k nt g' a' s'->Mono ν g g'->Q .normal a' g'.w)->wpList P ops Q l a g.w
 |[],[],slot,g,a,s,s',_,e,m,hQ=>by
  simp only[evalOps,Option.some.injEq]at e;subst e;exact wpList_nil (hQ g a m (.refl ν g))
 |o::r,io::ir,slot,g,a,s,s',hc,e,m,hQ=>by
  simp only[cOpers,Bool.and_eq_true]at hc;simp only[evalOps]at e;cases h1:step call slot io s with
  |none=>rw[h1]at e;cases e
  |some s1=>
   rw[h1]at e;exact wpList_step λK hK=>step_wp hs hc.1 m h1 λg' a' m' hm=>hK _ _ (ops_text hs r ir _ g' a' s1 s' hc.2 e m' λg'' a'' m'' hm'=>hQ g'' a'' m'' (hm.trans hm'))
 |[],_::_,_,_,_,_,_,hc,_,_,_=>by simp[cOpers]at hc
 |_::_,[],_,_,_,_,_,hc,_,_,_=>by simp[cOpers]at hc
def tag:Nat->List IOper->List Feet->List (Nat×IOper×Feet)
 |i,o::r,f::fs=>(i,o,f)::tag (i+1) r fs
 |_,_,_=>[]
theorem Run.of_eval {call:Nat->List AV->Hp->Option (AV×Hp)} {s0:Nat}:∀(il:List IOper) (i:Nat) (s s':St),evalOps call il (s0+64*i) s=some s'->
  Run call s0 (tag i il (evalFeet call il (s0+64*i) s)) s s'/\(evalFeet call il (s0+64*i) s).length=il.length
 |[],i,s,s',e=>by
  simp only[evalOps,Option.some.injEq]at e;subst e;exact⟨.nil (.refl _),rfl⟩
 |o::r,i,s,s',e=>by
  simp only[evalOps]at e;simp only[evalFeet];cases h1:step call (s0+64*i) o s with
  |none=>rw[h1]at e;cases e
  |some s1=>
   rw[h1]at e;obtain⟨q1,q2⟩:=Run.of_eval (s0:=s0) r (i+1) s1 s' e;exact⟨.cons h1 rfl q1,by simp only[List.length_cons];exact congrArg (·+ 1) q2⟩
theorem tag_mem:∀{il:List IOper} {fs:List Feet} {i:Nat} {x:Nat×IOper×Feet},x ∈ tag i il fs->i<=x.1/\il[x.1 - i]?=some x.2.1/\fs[x.1 - i]?=some x.2.2
 |[],fs,i,x,h=>by simp[tag]at h
 |_::_,[],i,x,h=>by simp[tag]at h
 |o::r,f::fs,i,x,h=>by
  simp only[tag,List.mem_cons]at h;rcases h with rfl | h
  ·simp
  ·obtain⟨h1,h2,h3⟩:=tag_mem h;have:x.1 - i=(x.1 - (i+1))+1:=by omega
   exact⟨by omega,by rw[this];simpa using h2,by rw[this];simpa using h3⟩
theorem mem_tag:∀{il:List IOper} {fs:List Feet} {i j:Nat} {o:IOper},fs.length=il.length->il[j]?=some o->∃x ∈ tag i il fs,x.1=i+j
 |[],fs,i,j,o,_,h=>by simp at h
 |_::_,[],i,j,o,hl,_=>by simp at hl
 |o'::r,f::fs,i,j,o,hl,h=>by
  cases j with
  |zero=>exact⟨_,List.mem_cons_self ..,rfl⟩
  |succ j=>
   obtain⟨x,h1,h2⟩:=mem_tag (i:=i+1) (fs:=fs) (by simpa using hl) (by simpa using h);exact⟨x,List.mem_cons_of_mem _ h1,by omega⟩
def apartT1 (x:IOper) (i:Nat):List IOper->Bool
 |[]=>true
 |y::r=>(y.aft.contains i||apartT x y)&&apartT1 x i r
def apartTAll:Nat->List IOper->Bool
 |_,[]=>true
 |i,x::r=>apartT1 x i r&&apartTAll (i+1) r
theorem apartT1_spec {x:IOper} {i:Nat}:∀{r:List IOper},apartT1 x i r=true->∀y ∈ r,i ∉ y.aft->apartT x y=true
 |[],_,y,hy,_=>by simp at hy
 |z::r,h,y,hy,hi=>by
  simp only[apartT1,Bool.and_eq_true,Bool.or_eq_true,List.contains_iff_mem]at h;rcases List.mem_cons.1 hy with rfl | hy
  ·exact h.1.resolve_left hi
  ·exact apartT1_spec h.2 y hy hi
theorem apart1_spec {x:Feet} {i:Nat}:∀{fs:List Feet} {cs:List (List Nat)},apart1 x i fs cs=true->∀(j:Nat) (f:Feet) (c:List Nat),fs[j]?=some f->cs[j]?=some c->i ∉ c->clash x f=false
 |[],cs,_,j,f,c,h,_,_=>by simp at h
 |_::_,[],_,j,f,c,_,h,_=>by simp at h
 |f'::fs,c'::cs,h,j,f,c,h1,h2,hi=>by
  simp only[apart1,Bool.and_eq_true,Bool.or_eq_true,Bool.not_eq_true',List.contains_iff_mem]at h;cases j with
  |zero=>simp at h1 h2;subst h1 h2;exact h.1.resolve_right hi
  |succ j=>exact apart1_spec h.2 j f c (by simpa using h1) (by simpa using h2) hi
def PW (x y:Nat×IOper×Feet):Prop:=x.1<y.1/\(x.1 ∉ y.2.1.aft->Apart x y)
theorem tag_pw:∀(il:List IOper) (fs:List Feet) (i:Nat),apartTAll i il=true->(apartAll fs i (il.map (·.aft))=true\/∀f ∈ fs,f.2=[])->(tag i il fs).Pairwise PW
 |[],fs,i,_,_=>by simp[tag]
 |_::_,[],i,_,_=>by simp[tag]
 |o::r,f::fs,i,hT,hF=>by
  simp only[apartTAll,Bool.and_eq_true]at hT;simp only[tag,List.pairwise_cons];refine⟨λy hy=>?_,tag_pw r fs (i+1) hT.2 ?_⟩
  ·obtain⟨h1,h2,h3⟩:=tag_mem hy;refine⟨by show i<y.1;omega,λhi=>⟨apartT1_spec hT.1 _ (List.mem_of_getElem? h2) hi,?_⟩⟩;rcases hF with hF | hF
   ·simp only[List.map_cons,apartAll,Bool.and_eq_true]at hF;exact apart1_spec hF.1 _ _ y.2.1.aft h3 (by simp[h2]) hi
   ·have e1:=hF f (List.mem_cons_self ..);have e2:=hF _ (List.mem_cons_of_mem _ (List.mem_of_getElem? h3));simp[clash,meets,e1,e2]
  ·rcases hF with hF | hF
   ·simp only[List.map_cons,apartAll,Bool.and_eq_true]at hF;exact .inl hF.2
   ·exact .inr λf' hf'=>hF f' (List.mem_cons_of_mem _ hf')
def cAft (iops:List IOper) (i:Nat) (o:Oper) (io:IOper):Bool:=
 o.after.toList.all (λe=>!Region.binds .any e||Nat.blt e.on i) &&
 io.aft.all λa=>o.after.toList.any λe=>Region.binds .any e&&(e.on==a||(match iops[e.on]? with | some x=>x.aft.contains a | none=>false))
def cAfts (iops:List IOper):Nat->List Oper->List IOper->Bool
 |i,o::r,io::ir=>cAft iops i o io&&cAfts iops (i+1) r ir
 |_,_,_=>true
theorem cAfts_get {iops:List IOper}:∀{l:List Oper} {il:List IOper} {i:Nat},cAfts iops i l il=true->∀(j:Nat) (o:Oper) (io:IOper),l[j]?=some o->il[j]?=some io->cAft iops (i+j) o io=true
 |[],_,_,_,j,o,io,h,_=>by simp at h
 |_::_,[],_,_,j,o,io,_,h=>by simp at h
 |o'::r,io'::ir,i,h,j,o,io,h1,h2=>by
  simp only[cAfts,Bool.and_eq_true]at h;cases j with
  |zero=>simp at h1 h2;subst h1 h2;exact h.1
  |succ j=>have:=cAfts_get h.2 j o io (by simpa using h1) (by simpa using h2);rwa [show i+1+j=i+(j+1) by omega]at this
structure Rest (ops:Array Oper) (iops:List IOper) (L:List (Nat×IOper×Feet)) (listed:Array Bool):Prop where
 size:listed.size=ops.size
 left:∀x ∈ L,x.1<ops.size/\listed[x.1]?=some false/\iops[x.1]?=some x.2.1
 all:∀(i:Nat),listed[i]?=some false->∃x ∈ L,x.1=i
 down:∀(i:Nat) (io:IOper),iops[i]?=some io->listed[i]?=some true->∀a ∈ io.aft,listed[a]?=some true
 pw:L.Pairwise PW
theorem ops_any {call:Nat->List AV->Hp->Option (AV×Hp)} (hs:CallSound ν P call) {nt:Nat} {ops:Array Oper} {iops:List IOper} {Q:Exit->Act->World->Prop} {s0:Nat} {s':St}
  (hc:cOpers P ν nt ops ops.toList iops=true) (haft:cAfts iops 0 ops.toList iops=true):∀(n:Nat) (L:List (Nat×IOper×Feet)) (listed:Array Bool) (g:Gh) (a:Act) (s:St),L.length=n->Rest ops iops L listed->
  Run call s0 L s s'->Sim ν k nt g a s->(∀g' a',Sim ν k nt g' a' s'->Mono ν g g'->Q .normal a' g'.w)->wpAny P .any ops Q n listed a g.w:=by
 intro n
 induction n with
 |zero=>
  intro L listed g a s hn hl hr m hQ;cases L with
  |cons=>simp at hn
  |nil=>
   refine⟨?_,?_⟩
   ·refine List.eq_nil_iff_forall_not_mem.2 λj hj=>?_
    obtain⟨h1,o,ho, -⟩:=mem_ready.1 hj;have hjn:j<listed.size:=by rw[hl.size];exact(Array.getElem?_eq_some_iff.1 ho).1
    obtain⟨x,hx, -⟩:=hl.all j (by simp[Array.getD,hjn]at h1;simp[hjn,h1]);cases hx
   ·cases hr with
    |nil h=>
     obtain⟨m',hm⟩:=m.like h;exact hQ { g with h:=s'.hp } a m' hm
 |succ n ih=>
  intro L listed g a s hn hl hr m hQ;have hat:∀{j:Nat} {b:Bool} {d:Bool},listed.getD j d=b->b≠d->listed[j]?=some b:=by
   intro j b d h hb;by_cases hj:j<listed.size
   ·simp[Array.getD,hj]at h;simp[hj,h]
   ·simp[Array.getD,hj]at h;exact absurd h.symm hb
  obtain⟨hlen,hget⟩:=cOpers_get hc;refine⟨λh0=>?_,λj hj=>?_⟩
  ·exfalso;cases L with
   |nil=>simp at hn
   |cons x r=>
    obtain⟨h1,h2,h3⟩:=hl.left x (List.mem_cons_self ..);have:x.1 ∈ Region.ready .any ops listed:=by
     have ho:ops[x.1]?=some ops[x.1]:=by simp[h1]
     refine mem_ready.2 ⟨by simp[Array.getD_eq_getD_getElem?,h2],_,ho,λe he hb=>?_⟩;have hA:=cAfts_get haft x.1 ops[x.1] x.2.1 (by simp[h1]) h3;simp only[cAft,Bool.and_eq_true,List.all_eq_true,Nat.zero_add]at hA;have hlt:=hA.1 e (by simpa using he);simp only[hb,Bool.not_true,Bool.false_or,Nat.blt_eq]at hlt;have hlt':e.on<listed.size:=by rw[hl.size];omega
     cases hv:listed[e.on]with
     |true=>simp[hlt',hv]
     |false=>
      obtain⟨y,hy,hye⟩:=hl.all e.on (by simp[hlt',hv]);rcases List.mem_cons.1 hy with rfl | hy
      ·omega
      ·have:=(List.pairwise_cons.1 hl.pw).1 y hy;have:=this.1;omega
    rw[h0]at this;cases this
  ·obtain⟨h1,o,ho,hedge⟩:=mem_ready.1 hj;obtain⟨x,hx,rfl⟩:=hl.all j (hat h1 (by simp));obtain⟨L1,L2,rfl⟩:=List.append_of_mem hx;obtain⟨hlt,hfalse,hix⟩:=hl.left x hx;have hA:=cAfts_get haft x.1 o x.2.1 (by simpa using ho) hix;simp only[cAft,Bool.and_eq_true,List.all_eq_true,List.any_eq_true,Nat.zero_add]at hA;have hdn:∀b ∈ x.2.1.aft,listed[b]?=some true:=by
    intro b hb;obtain⟨e,he,h2,h3⟩:=hA.2 b hb;have hel:=hat (hedge e (by simpa using he) h2) (by simp);simp only[Bool.or_eq_true,beq_iff_eq]at h3;rcases h3 with h3 | h3
    ·subst h3;exact hel
    ·split at h3
     ·rename_i y hy;exact hl.down e.on y hy hel b (by simpa using h3)
     ·cases h3
   have hpw:=List.pairwise_append.1 hl.pw;have hpw2:=List.pairwise_cons.1 hpw.2.1;obtain⟨s1,e1, -,r1⟩:=Run.front L1 s hr λy hy=>by
    obtain⟨q1,q2⟩:=hpw.2.2 y hy x (List.mem_cons_self ..);refine q2 λhb=>?_
    have:=hdn _ hb;rw[(hl.left y (by simp[hy])).2.1]at this;cases this
   have hl':Rest ops iops (L1++L2) (listed.setIfInBounds x.1 true):=by
    have hne:∀y ∈ L1++L2,x.1≠y.1:=by
     intro y hy;rcases List.mem_append.1 hy with hy | hy
     ·have:=(hpw.2.2 y hy x (List.mem_cons_self ..)).1;omega
     ·have:=(hpw2.1 y hy).1;omega
    have hxl:x.1<listed.size:=by rw[hl.size];exact hlt
    refine⟨by simpa using hl.size,λy hy=>?_,λi hi=>?_,λi io hio hi b hb=>?_,List.pairwise_append.2 ⟨hpw.1,hpw2.2,λy hy z hz=>hpw.2.2 y hy z (List.mem_cons_of_mem _ hz)⟩⟩
    ·obtain⟨q1,q2,q3⟩:=hl.left y (by rcases List.mem_append.1 hy with h | h<;>simp[h]);exact⟨q1,by rw[Array.getElem?_setIfInBounds_ne (hne y hy)];exact q2,q3⟩
    ·by_cases hxi:x.1=i
     ·subst hxi;simp[hxl]at hi
     ·rw[Array.getElem?_setIfInBounds_ne hxi]at hi;obtain⟨y,hy,hyi⟩:=hl.all i hi;refine⟨y,?_,hyi⟩;simp only[List.mem_append,List.mem_cons]at hy ⊢;rcases hy with h | rfl | h
      ·exact .inl h
      ·exact absurd hyi hxi
      ·exact .inr h
    ·have hup:∀{b:Nat},listed[b]?=some true->(listed.setIfInBounds x.1 true)[b]?=some true:=by
      intro b hb;by_cases hxb:x.1=b
      ·subst hxb;simp[hxl]
      ·rw[Array.getElem?_setIfInBounds_ne hxb];exact hb
     by_cases hxi:x.1=i
     ·subst hxi;rw[hix]at hio;cases hio;exact hup (hdn b hb)
     ·rw[Array.getElem?_setIfInBounds_ne hxi]at hi;exact hup (hl.down i io hio hi b hb)
   unfold wpOp;simp only[ho];have hw:=step_wp (Q:=Q) hs (hget x.1 o x.2.1 (by simpa using ho) hix) m e1 (next:=wpAny P .any ops Q n (listed.setIfInBounds x.1 true)) λg' a' m' hm=>
    ih (L1++L2) _ g' a' s1 (by simp at hn ⊢;omega) hl' r1 m' λg'' a'' m'' hm'=>hQ g'' a'' m'' (hm.trans hm')
   split
   ·rename_i h;rw[if_pos h]at hw;exact .inl hw
   ·rename_i h;rw[if_neg h]at hw;exact hw
def cRgn (P:Program) (ν:Nat->Nat) (nt:Nat) (draw:Bool) (ops:Array Oper) (iops:List IOper):Bool:=
 cOpers P ν nt ops ops.toList iops&&(!draw||(cAfts iops 0 ops.toList iops&&apartTAll 0 iops))
theorem keepFr_get:∀(keep:List Nat) (fr:Fr) (t:Nat) (x:AV),get (keepFr keep fr) t=some x->get fr t=some x
 |[],fr,t,x,h=>by simp[keepFr,get]at h
 |k::r,fr,t,x,h=>by
  simp only[keepFr]at h;cases hk:get fr k with
  |none=>rw[hk]at h;exact keepFr_get r fr t x h
  |some y=>
   rw[hk]at h;simp only[get]at h;split at h
   ·rename_i h0;subst h0;rw[hk];exact h
   ·exact keepFr_get r fr t x h
theorem Sim.keep {nt:Nat} {g:Gh} {a:Act} {s:St} (m:Sim ν k nt g a s) (keep:List Nat) (nx:Nat):Sim ν k nt g a { fr:=keepFr keep s.fr,hp:=s.hp,nx:=nx }:=
 ⟨m.h,m.r,λt x ht=>m.f t x (keepFr_get keep s.fr t x ht),m.n,m.d⟩
theorem rgn_wp {call:Nat->List AV->Hp->Option (AV×Hp)} (hs:CallSound ν P call) (hmix:P.follows .mixedOrders=true) {nt id:Nat} {draw:Bool} {ops:Array Oper} {iops:List IOper} {keep:List Nat}
  (hc:cRgn P ν nt draw ops iops=true) {g:Gh} {a:Act} {s s':St} (e:evalRgn call draw iops keep s=some s') (m:Sim ν k nt g a s) {Q:Exit->Act->World->Prop}
  (hQ:∀g' a',Sim ν k nt g' a' s'->Mono ν g g'->Q .normal a' g'.w):(Code.region id ops draw).wp P Q a g.w:=by
 unfold evalRgn at e;cases h1:evalOps call iops s.nx s with
 |none=>rw[h1]at e;cases e
 |some s1=>
  rw[h1]at e;simp only[cRgn,Bool.and_eq_true]at hc;simp only[]at e;split at e
  ·rename_i hord;simp only[Option.some.injEq]at e;subst e;cases draw with
   |false=>exact wp_region_list (ops_text hs ops.toList iops s.nx g a s s1 hc.1 h1 m λg' a' m' hm=>hQ g' a' (m'.keep keep _) hm)
   |true=>
    simp only[Bool.not_true,Bool.false_or,Bool.and_eq_true]at hord hc;refine wp_region_any hmix ?_;obtain⟨r',hm⟩:=m.r.world (w':={ g.w with drawn:=g.w.drawn+1 }) (I':=g.I) (λ_ h=>h) (λ_ h=>.inl h) (Nat.le_refl _) rfl rfl rfl λ_ _=>rfl
    obtain⟨hrun,hlen⟩:=Run.of_eval (s0:=s.nx) iops 0 s s1 (by simpa using h1);have hn:=(cOpers_get hc.1).1;simp only[Array.length_toList]at hn;have hpw:=tag_pw iops (evalFeet call iops (s.nx+64*0) s) 0 hc.2.2 (by
     simp only[orderOk,Bool.or_eq_true,List.all_eq_true,List.isEmpty_iff]at hord;exact hord.symm)
    have hlt:(tag 0 iops (evalFeet call iops (s.nx+64*0) s)).length=ops.size:=by
     rw[hn];generalize evalFeet call iops (s.nx+64*0) s=fs at hlen;generalize 0=i;clear hrun hpw hord h1 hc hn hQ
     induction iops generalizing fs i with
     |nil=>simp[tag]
     |cons o r ih=>
      cases fs with
      |nil=>simp at hlen
      |cons f fs=>simp only[tag,List.length_cons];rw[ih fs (by simpa using hlen)]
    refine ops_any hs hc.1 hc.2.1 ops.size _ _ { g with w:={ g.w with drawn:=g.w.drawn+1 } } a s hlt ?_ hrun ⟨m.h,r',m.f.mono hm,m.n,m.d⟩ λg' a' m' hm'=>hQ g' a' (m'.keep keep _) (hm.trans hm')
    refine⟨by simp,λx hx=>?_,λi hi=>?_,λi io _ hi=>?_,hpw⟩
    ·obtain⟨q1,q2,q3⟩:=tag_mem hx;simp only[Nat.sub_zero]at q2;have:x.1<ops.size:=by rw[hn];exact(List.getElem?_eq_some_iff.1 q2).1
     exact⟨this,by simp[this],q2⟩
    ·have hi':i<ops.size:=by
      have:=(Array.getElem?_eq_some_iff.1 hi).1;simpa using this
     obtain⟨x,hx,hxi⟩:=mem_tag (i:=0) (j:=i) (il:=iops) hlen (List.getElem?_eq_getElem (by omega));exact⟨x,hx,by omega⟩
    ·have hi':=(Array.getElem?_eq_some_iff.1 hi);obtain⟨q1,q2⟩:=hi';simp at q2
  ·cases e
end
section
variable {ν:Nat->Nat} {P:Program} {k:Cx}
theorem get_map {α β:Type} (f:Nat->α->β):∀(l:List (Nat×α)) (n:Nat),get (l.map λp=>(p.1,f p.1 p.2)) n=(get l n).map (f n)
 |[],_=>rfl
 |p::r,n=>by
  simp only[List.map_cons,get];by_cases h:p.1=n
  ·subst h;simp
  ·rw[if_neg h,if_neg h];exact get_map f r n
theorem get_filter {α:Type} (q:Nat->Bool):∀(l:List (Nat×α)) (n:Nat),get (l.filter λp=>q p.1) n=if q n then get l n else none
 |[],n=>by simp[get]
 |p::r,n=>by
  simp only[List.filter_cons];by_cases hq:q p.1=true
  ·rw[if_pos hq];simp only[get];by_cases h:p.1=n
   ·subst h;simp[hq]
   ·rw[if_neg h,if_neg h];exact get_filter q r n
  ·rw[if_neg hq,get_filter q r n];simp only[get];by_cases h:p.1=n
   ·subst h;simp[hq]
   ·rw[if_neg h]
theorem again_hp (kp:List Nat) (n0:Nat) (s:St) (id:Nat):get (again kp n0 s).hp id=if id<1000\/id<n0 then(get s.hp id).map (nrmO n0 s.hp id) else none:=by
 show get (List.map (λp=>(p.1,nrmO n0 s.hp p.1 p.2)) (List.filter (λp=>decide (p.1<1000)||decide (p.1<n0)) s.hp)) id=_
 rw[get_map (λn=>nrmO n0 s.hp n),get_filter (λn=>decide (n<1000)||decide (n<n0))];by_cases h:id<1000\/id<n0
 ·rw[if_pos h,if_pos (by simpa using h)]
 ·rw[if_neg h,if_neg (by simpa using h)];rfl
section
variable {kp:List Nat} {n0:Nat} {g:Gh} {s:St}
theorem again_own (hh:g.h=s.hp) {v:Value} {id o n ver:Nat} (hid:id<1000) (h:OwnAt g v id o n ver):OwnAt { g with h:=(again kp n0 s).hp } v id o n ver:=by
 unfold OwnAt at h ⊢;rw[hh]at h;rw[show get (again kp n0 s).hp id=(get s.hp id).map (nrmO n0 s.hp id) by rw[again_hp,if_pos (.inl hid)]];cases hg:get s.hp id with
 |none=>rw[hg]at h;exact h
 |some ob=>
  rw[hg]at h;cases ob with
  |cells cs=>exact h
  |buf v' e es=>simp only[Option.map_some,nrmO,if_pos hid];exact h
  |imm v' e es=>simp only[Option.map_some,nrmO,if_pos hid];exact h
  |map kvs=>exact h
theorem again_ref (hh:g.h=s.hp) {v:Value} {id ver i j:Nat} (hid:id<1000) (h:RefAt g v id ver i j):RefAt { g with h:=(again kp n0 s).hp } v id ver i j:=by
 unfold RefAt at h ⊢;rw[hh]at h;rw[show get (again kp n0 s).hp id=(get s.hp id).map (nrmO n0 s.hp id) by rw[again_hp,if_pos (.inl hid)]];cases hg:get s.hp id with
 |none=>rw[hg]at h;exact h
 |some ob=>
  rw[hg]at h;cases ob with
  |cells cs=>exact h
  |buf v' e es=>simp only[Option.map_some,nrmO,if_pos hid];exact h
  |imm v' e es=>simp only[Option.map_some,nrmO,if_pos hid];exact h
  |map kvs=>exact h
theorem nrm_ok (hh:g.h=s.hp):∀(d:Nat) (v:Value) (x:AV),RA ν g v x->RA ν { g with h:=(again kp n0 s).hp } v (nrm n0 s.hp d x)
 |0,v,x,_=>.undef v
 |d+1,v,x,hx=>by
  cases hx with
  |undef=>exact .undef v
  |iv h=>exact .iv h
  |agg hn h1 hr=>
   refine .agg (by simpa using hn) h1 λj v c hv hc=>?_
   simp only[List.getElem?_map,Option.map_eq_some_iff]at hc;obtain⟨c',hc',rfl⟩:=hc;exact nrm_ok hh d v c' (hr j v c' hv hc')
  |tup hn hr=>
   refine .tup (by simpa using hn) λj v c hv hc=>?_
   simp only[List.getElem?_map,Option.map_eq_some_iff]at hc;obtain⟨c',hc',rfl⟩:=hc;exact nrm_ok hh d v c' (hr j v c' hv hc')
  |clo hn hr=>
   refine .clo (by simpa using hn) λj v c hv hc=>?_
   simp only[List.getElem?_map,Option.map_eq_some_iff]at hc;obtain⟨c',hc',rfl⟩:=hc;exact nrm_ok hh d v c' (hr j v c' hv hc')
  |@own _ id o n ver h1 h=>
   simp only[nrm];by_cases hid:id<1000
   ·rw[if_pos hid];exact .own h1 (again_own hh hid h)
   ·rw[if_neg hid];by_cases hn:id<n0
    ·rw[if_pos hn];have hg':get (again kp n0 s).hp id=(get s.hp id).map (nrmO n0 s.hp id):=by rw[again_hp,if_pos (.inr hn)]
     unfold OwnAt at h;rw[hh]at h;split
     ·rename_i v' e es hg;rw[hg]at h;split
      ·rename_i hv;refine .own h1 ?_;unfold OwnAt;rw[hg',hg];simp only[Option.map_some,nrmO,if_neg hid];exact⟨Nat.le_refl _,λ_=>h.2 hv⟩
      ·exact .undef v
     ·rename_i v' e es hg;rw[hg]at h;split
      ·rename_i hv;refine .own h1 ?_;unfold OwnAt;rw[hg',hg];simp only[Option.map_some,nrmO,if_neg hid];exact⟨Nat.le_refl _,λ_=>h.2 hv⟩
      ·exact .undef v
     ·exact .undef v
    ·rw[if_neg hn];exact .undef v
  |@ref _ id ver i j h1 h=>
   simp only[nrm];by_cases hid:id<1000
   ·rw[if_pos hid];exact .ref h1 (again_ref hh hid h)
   ·rw[if_neg hid];by_cases hn:id<n0
    ·rw[if_pos hn];have hg':get (again kp n0 s).hp id=(get s.hp id).map (nrmO n0 s.hp id):=by rw[again_hp,if_pos (.inr hn)]
     unfold RefAt at h;rw[hh]at h;split
     ·rename_i v' e es hg;rw[hg]at h;split
      ·rename_i hv;refine .ref h1 ?_;unfold RefAt;rw[hg',hg];simp only[Option.map_some,nrmO,if_neg hid];exact⟨Nat.le_refl _,λ_=>h.2 hv⟩
      ·exact .undef v
     ·rename_i v' e es hg;rw[hg]at h;split
      ·rename_i hv;refine .ref h1 ?_;unfold RefAt;rw[hg',hg];simp only[Option.map_some,nrmO,if_neg hid];exact⟨Nat.le_refl _,λ_=>h.2 hv⟩
      ·exact .undef v
     ·rename_i cs hg;rw[hg]at h;refine .ref h1 ?_;unfold RefAt;rw[hg',hg];exact h
     ·rename_i kvs hg;rw[hg]at h;refine .ref h1 ?_;unfold RefAt;rw[hg',hg];exact h
     ·exact .undef v
    ·rw[if_neg hn];exact .undef v
theorem again_ok {nt:Nat} {a:Act} (m:Sim ν k nt g a s):Sim ν k nt { g with h:=(again kp n0 s).hp } a (again kp n0 s)/\MonoL g { g with h:=(again kp n0 s).hp }:=by
 have hget:∀{id:Nat} {o:Ob},get (again kp n0 s).hp id=some o->∃o',get g.h id=some o'/\o=nrmO n0 s.hp id o':=by
  intro id o ho;rw[again_hp]at ho;split at ho
  ·simp only[Option.map_eq_some_iff]at ho;obtain⟨o',h1,rfl⟩:=ho;exact⟨o',by rw[m.h];exact h1,rfl⟩
  ·cases ho
 refine⟨⟨rfl,⟨λid o ho=>?_,λid id' o o' b h1 h2 h3 h4=>?_,m.r.small,m.r.i0,m.r.i1,λid o b ho hφ=>?_,m.r.size,m.r.os,m.r.tape,m.r.output,m.r.old⟩,λt x ht=>?_,m.n,m.d⟩,
  ⟨λv id o n ver hid _ h=>again_own m.h hid h,λv id ver i j hid _ h=>again_ref m.h hid h⟩⟩
 ·obtain⟨o',h1,rfl⟩:=hget ho;have old:=m.r.ob id o' h1;cases o' with
  |cells cs=>
   obtain⟨b,e1,e2,e3,e4⟩:=old;refine⟨b,e1,e2,e3,λj c hc=>?_⟩;simp only[List.getElem?_map,Option.map_eq_some_iff]at hc;obtain⟨c',hc',rfl⟩:=hc;obtain⟨v,c1,c2,c3⟩:=e4 j c' hc';exact⟨v,c1,c2,nrm_ok m.h 8 v c' c3⟩
  |buf v e es=>exact old
  |imm v e es=>exact old
  |map kvs=>
   obtain⟨b,es,clock,e1,e2,e3,e4,e5,e6⟩:=old;refine⟨b,es,clock,e1,e2,e3,e4,by simpa using e5,λj e p h1 h2=>?_⟩;simp only[List.getElem?_map,Option.map_eq_some_iff]at h2;obtain⟨p',hp,rfl⟩:=h2;obtain⟨c1,c2⟩:=e6 j e p' h1 hp;exact⟨nrm_ok m.h 8 _ _ c1,nrm_ok m.h 8 _ _ c2⟩
 ·obtain⟨p,q1, -⟩:=hget h1;obtain⟨p',q1', -⟩:=hget h2;exact m.r.inj id id' p p' b q1 q1' h3 h4
 ·obtain⟨p,q1, -⟩:=hget ho;exact m.r.own id p b q1 hφ
 ·have:get (again kp n0 s).fr t=(get (keepFr kp s.fr) t).map (nrm n0 s.hp 8):=get_map (λ_=>nrm n0 s.hp 8) (keepFr kp s.fr) t;rw[this]at ht;simp only[Option.map_eq_some_iff]at ht;obtain⟨y,hy,rfl⟩:=ht;obtain⟨v,h1,h2⟩:=m.f t y (keepFr_get _ _ _ _ hy);exact⟨v,h1,nrm_ok m.h 8 v y h2⟩
end
def Ex.U:Ex->Exit
 |.norm=>.normal
 |.exit i=>.exit i
 |.ret=>.ret
def cCode (P:Program) (ν:Nat->Nat) (nt:Nat):Code->IC->Bool
 |.skip,.skip=>true
 |.label _,.skip=>true
 |.region _ ops draw,.rgn d iops _=>draw==d&&cRgn P ν nt draw ops iops
 |.seq a b,.seq x y=>cCode P ν nt a x&&cCode P ν nt b y
 |.cond c a b,.cond d x y=>cOpd ν c d&&cCode P ν nt a x&&cCode P ν nt b y
 |.block id a,.block jd x=>id==jd&&cCode P ν nt a x
 |.loop a,.loop _ x=>cCode P ν nt a x
 |.exit id,.exit jd=>id==jd
 |.ret,.ret=>true
 |_,_=>false
theorem wp_rounds {c:Code} {Q:Exit->Act->World->Prop} (I:Nat->Act->World->Prop) (h0:∀a w,¬I 0 a w)
  (round:∀n a w,I (n+1) a w->c.wp P (Exit.then (I n) Q) a w) {n:Nat} {a:Act} {w:World} (h:I n a w):(Code.loop c).wp P Q a w:=by
 intro b kk cs;have key:∀n a w,I n a w->∃e a' w',Q e a' w'/\Arrives P (lone (b.at a (.code c::.inLoop c::kk)) cs w) b kk cs e a' w':=by
  intro n
  induction n with
  |zero=>exact λa w h=>(h0 a w h).elim
  |succ n ih=>
   intro a w hI;obtain⟨e,a₁,w₁,hq,harr⟩:=round n a w hI b (.inLoop c::kk) cs;cases e with
   |normal=>
    obtain⟨e₂,a₂,w₂,hq₂,harr₂⟩:=ih a₁ w₁ hq;exact⟨e₂,a₂,w₂,hq₂,.of_steps (Steps.trans harr (.one step_inLoop)) harr₂⟩
   |exit id=>exact⟨_,a₁,w₁,hq,.pass (x:=.inLoop c) rfl (λ_ _=>.inl (by simp)) harr⟩
   |goto l=>exact⟨_,a₁,w₁,hq,.pass (x:=.inLoop c) rfl (λ_ _=>.inl (by simp)) harr⟩
   |ret=>exact⟨_,a₁,w₁,hq,.pass (x:=.inLoop c) rfl (λ_ _=>.inl (by simp)) harr⟩
   |panic ch=>exact⟨_,a₁,w₁,hq,.pass (x:=.inLoop c) rfl (λ_ _=>.inl (by simp)) harr⟩
   |outgrown=>exact⟨_,a₁,w₁,hq,.pass (x:=.inLoop c) rfl (λ_ _=>.inl (by simp)) harr⟩
 obtain⟨e,a',w',hq,harr⟩:=key n a w h;exact⟨e,a',w',hq,.of_steps (.one step_loop) harr⟩
theorem code_wp {call:Nat->List AV->Hp->Option (AV×Hp)} (hs:CallSound ν P call) (hmix:P.follows .mixedOrders=true) {nt n:Nat}:∀(ic:IC) (c:Code),cCode P ν nt c ic=true->
  ∀(g:Gh) (a:Act) (s:St) (r:Ex) (s':St),evalC call n ic s=some (r,s')->Sim ν k nt g a s->∀Q:Exit->Act->World->Prop,(∀g' a',Sim ν k nt g' a' s'->MonoL g g'->Q r.U a' g'.w)->c.wp P Q a g.w:=by
 intro ic
 induction ic with
 |skip=>
  intro c hc g a s r s' e m Q hQ;simp only[evalC,Option.some.injEq,Prod.mk.injEq]at e;obtain⟨rfl,rfl⟩:=e;cases c<;>simp only[cCode,Bool.false_eq_true]at hc
  ·exact wp_skip (hQ g a m (.refl g))
  ·exact wp_label (hQ g a m (.refl g))
 |rgn draw ops keep=>
  intro c hc g a s r s' e m Q hQ;cases c<;>simp only[cCode,Bool.false_eq_true]at hc;rename_i id cops cdraw;simp only[Bool.and_eq_true,beq_iff_eq]at hc;obtain⟨rfl,hc⟩:=hc;simp only[evalC,Option.map_eq_some_iff,Prod.mk.injEq]at e;obtain⟨s1,e1,rfl,rfl⟩:=e;exact rgn_wp hs hmix hc e1 m λg' a' m' hm=>hQ g' a' m' hm.low
 |seq x y ihx ihy=>
  intro c hc g a s r s' e m Q hQ;cases c<;>simp only[cCode,Bool.false_eq_true]at hc;simp only[Bool.and_eq_true]at hc;refine wp_seq ?_;simp only[evalC]at e;cases h1:evalC call n x s with
  |none=>rw[h1]at e;cases e
  |some p=>
   obtain⟨r1,s1⟩:=p;rw[h1]at e;refine ihx _ hc.1 g a s r1 s1 h1 m _ λg' a' m' hm=>?_
   cases r1 with
   |norm=>exact ihy _ hc.2 g' a' s1 r s' e m' Q λg'' a'' m'' hm'=>hQ g'' a'' m'' (hm.trans hm')
   |exit i=>simp only[Option.some.injEq,Prod.mk.injEq]at e;obtain⟨rfl,rfl⟩:=e;exact hQ g' a' m' hm
   |ret=>simp only[Option.some.injEq,Prod.mk.injEq]at e;obtain⟨rfl,rfl⟩:=e;exact hQ g' a' m' hm
 |cond d x y ihx ihy=>
  intro c hc g a s r s' e m Q hQ;cases c<;>simp only[cCode,Bool.false_eq_true]at hc;rename_i cd cx cy;simp only[Bool.and_eq_true]at hc;simp only[evalC]at e;split at e
  ·rename_i t ht;have hR:=eval_ok m.f hc.1.1;rw[ht]at hR;generalize hv:a.eval cd=v at hR;cases hR with
   |iv h=>
    cases h with
    |bool=>
     refine wp_cond hv ?_;cases t with
     |true=>exact ihx _ hc.1.2 g a s r s' e m Q hQ
     |false=>exact ihy _ hc.2 g a s r s' e m Q hQ
  ·cases e
 |block id x ih=>
  intro c hc g a s r s' e m Q hQ;cases c<;>simp only[cCode,Bool.false_eq_true]at hc;simp only[Bool.and_eq_true,beq_iff_eq]at hc;obtain⟨rfl,hc⟩:=hc;refine wp_block ?_;simp only[evalC]at e;cases h1:evalC call n x s with
  |none=>rw[h1]at e;cases e
  |some p=>
   obtain⟨r1,s1⟩:=p;rw[h1]at e;refine ih _ hc g a s r1 s1 h1 m _ λg' a' m' hm=>?_
   cases r1 with
   |norm=>simp only[Option.some.injEq,Prod.mk.injEq]at e;obtain⟨rfl,rfl⟩:=e;exact hQ g' a' m' hm
   |ret=>simp only[Option.some.injEq,Prod.mk.injEq]at e;obtain⟨rfl,rfl⟩:=e;exact hQ g' a' m' hm
   |exit i=>
    simp only[Ex.U,Exit.inBlock];simp only[]at e;split at e
    ·rename_i hi;simp only[Option.some.injEq,Prod.mk.injEq]at e;obtain⟨rfl,rfl⟩:=e;rw[if_pos hi];exact hQ g' a' m' hm
    ·rename_i hi;simp only[Option.some.injEq,Prod.mk.injEq]at e;obtain⟨rfl,rfl⟩:=e;rw[if_neg hi];exact hQ g' a' m' hm
 |loop keep x ih=>
  intro c hc g a s r s' e m Q hQ;cases c<;>simp only[cCode,Bool.false_eq_true]at hc;rename_i cx;simp only[evalC]at e;generalize hn0:s.nx=n0 at e;subst hn0;refine wp_rounds (λj a w=>∃g1 s1,g1.w=w/\Sim ν k nt g1 a s1/\MonoL g g1/\iter (evalC call n x) keep s.nx j s1=some (r,s')) ?_ ?_ (n:=n) ⟨g,_,rfl,m.keep keep s.nx,.refl g,e⟩
  ·rintro a w ⟨g1,s1, -, -, -,h⟩;simp[iter]at h
  ·rintro j a w ⟨g1,s1,rfl,m1,hm1,h⟩;simp only[iter]at h;cases h1:evalC call n x s1 with
   |none=>rw[h1]at h;cases h
   |some p=>
    obtain⟨r2,s2⟩:=p;rw[h1]at h;refine ih _ hc g1 a s1 r2 s2 h1 m1 _ λg' a' m' hm=>?_
    cases r2 with
    |norm=>
     obtain⟨m2,hm2⟩:=again_ok (kp:=keep) (n0:=s.nx) m';exact⟨{ g' with h:=(again keep s.nx s2).hp },_,rfl,m2,(hm1.trans hm).trans hm2,h⟩
    |exit i=>simp only[Option.some.injEq,Prod.mk.injEq]at h;obtain⟨rfl,rfl⟩:=h;exact hQ g' a' m' (hm1.trans hm)
    |ret=>simp only[Option.some.injEq,Prod.mk.injEq]at h;obtain⟨rfl,rfl⟩:=h;exact hQ g' a' m' (hm1.trans hm)
 |exit id=>
  intro c hc g a s r s' e m Q hQ;cases c<;>simp only[cCode,Bool.false_eq_true]at hc;simp only[evalC,Option.some.injEq,Prod.mk.injEq]at e;obtain⟨rfl,rfl⟩:=e;rw[beq_iff_eq]at hc;subst hc;exact wp_exit (hQ g a m (.refl g))
 |ret=>
  intro c hc g a s r s' e m Q hQ;cases c<;>simp only[cCode,Bool.false_eq_true]at hc;simp only[evalC,Option.some.injEq,Prod.mk.injEq]at e;obtain⟨rfl,rfl⟩:=e;exact wp_ret (hQ g a m (.refl g))
end
section
variable {ν:Nat->Nat} {P:Program} {k:Cx}
theorem outA_ok {g:Gh} (r:Rel ν k g) {x y:AV} {h':Hp} (e:(outA x).run g.h=some (y,h')) {v:Value} (hv:RA ν g v x):∃I',Froze ν k g h' I'/\RA ν { g with I:=I',h:=h' } v y:=by
 have rest:∀{x:AV},(fz1 true x).run g.h=some (y,h')->RA ν g v x->∃I',Froze ν k g h' I'/\RA ν { g with I:=I',h:=h' } v y:=by
  intro x e hv;obtain⟨I',f,hR⟩:=fz1T r e hv;exact⟨I',f,hR.up λ_ _ h=>h⟩
 cases x with
 |own id o n ver=>
  obtain⟨ob,hg,e2⟩:=M.look_bind e;cases hv with
  |own hone ho=>
   cases ob with
   |cells cs=>exact(Mfail_someZ e2).elim
   |buf v' ee es=>
    obtain⟨_,e4⟩:=M.ok_bind e2;obtain⟨rfl,rfl⟩:=Mret_someZ e4;exact⟨g.I,.refl r,.own hone ho⟩
   |imm v' ee es=>
    obtain⟨hb,e4⟩:=M.ok_bind e2;obtain⟨rfl,rfl⟩:=Mret_someZ e4;refine⟨g.I,.refl r,.iv (sl_reads r hg rfl ?_)⟩;unfold OwnAt at ho;rw[hg]at ho;exact ho.2 (beq_iff_eq.1 hb)
   |map _=>exact(Mfail_someZ e2).elim
 |undef=>exact rest (x:=.undef) e hv
 |iv x=>exact rest (x:=.iv x) e hv
 |tup vs=>exact rest (x:=.tup vs) e hv
 |agg cs=>exact rest (x:=.agg cs) e hv
 |ref id v i j=>exact rest (x:=.ref id v i j) e hv
 |clo f caps=>exact rest (x:=.clo f caps) e hv
def resOne (tmps:Array Value):ResultVar->Sem Value
 |.tmp t=>pure (tmps.getD t undef)
 |.cell a t=>do loadVar t (<-asAddr (tmps.getD a undef))
def cRes (P:Program):ResultVar->IRes->Bool
 |.tmp t,.t n=>t==n
 |.cell a t,.cell n agg sz=>a==n&&tyB P t sz agg
 |.tmp t,.keep n=>t==n
 |.cell a t,.kcell n agg sz=>a==n&&tyB P t sz agg
 |_,_=>false
def cRess (P:Program):List ResultVar->List IRes->Bool
 |[],[]=>true
 |r::rs,x::xs=>cRes P r x&&cRess P rs xs
 |_,_=>false
theorem as_sure {t:TypeId} {v u:Value} {w w':World} (h:(Instr.loadAt t v).run P w = .ok u w'):(do loadVar t (<-asAddr v):Sem Value).run P w = .ok u w':=by
 unfold Instr.loadAt at h;cases v with
 |pointer a=>
  cases a with
  |none=>simp[Instr.sureAddr]at h
  |some a=>simpa[Instr.sureAddr,asAddr]using h
 |_=>simp[Instr.sureAddr]at h
theorem resM_ok {g:Gh} (r:Rel ν k g) {a:Act} {fr:Fr} (hf:FrR ν g a.tmps fr) {rv:ResultVar} {x:IRes} (hc:cRes P rv x=true) {y:AV} {h':Hp} (e:(resM fr x).run g.h=some (y,h')) :
  ∃v g',(resOne a.tmps rv).run P g.w = .ok v g.w/\g'.w=g.w/\g'.h=h'/\Rel ν k g'/\Mono ν g g'/\RA ν g' v y:=by
 cases x with
 |t n=>
  cases rv with
  |cell=>simp[cRes]at hc
  |tmp t=>
   obtain⟨I',f,hR⟩:=outA_ok r e (eval_ok (ν:=ν) (x:=.tmp t) hf (by simpa[cOpd,cRes]using hc));exact⟨_,{ g with I:=I',h:=h' },by simp[resOne,Act.eval],rfl,rfl,f.rel,f.mono,hR⟩
 |cell n agg sz=>
  cases rv with
  |tmp=>simp[cRes]at hc
  |cell t ty=>
   simp only[cRes,Bool.and_eq_true]at hc;obtain⟨z,h1,e1,e2⟩:=Mbind_someZ e;obtain⟨rfl,u,hu,hR1⟩:=load_at r hc.2 (eval_ok (ν:=ν) (x:=.tmp t) hf (by simpa[cOpd]using hc.1)) e1;obtain⟨I',f,hR⟩:=outA_ok r e2 hR1;exact⟨u,{ g with I:=I',h:=h' },as_sure hu,rfl,rfl,f.rel,f.mono,hR⟩
 |keep n=>
  cases rv with
  |cell=>simp[cRes]at hc
  |tmp t=>
   obtain⟨rfl,rfl⟩:=Mret_someZ e;exact⟨_,g,by simp[resOne,Act.eval],rfl,rfl,r,.refl ν g,eval_ok (ν:=ν) (x:=.tmp t) (a:=a) hf (by simpa[cOpd,cRes]using hc)⟩
 |kcell n agg sz=>
  cases rv with
  |tmp=>simp[cRes]at hc
  |cell t ty=>
   simp only[cRes,Bool.and_eq_true]at hc;obtain⟨rfl,u,hu,hR1⟩:=load_at r hc.2 (eval_ok (ν:=ν) (x:=.tmp t) hf (by simpa[cOpd]using hc.1)) e;exact⟨u,g,as_sure hu,rfl,rfl,r,.refl ν g,hR1⟩
theorem resM_list:∀(rvs:List ResultVar) (xs:List IRes) (g:Gh) (a:Act) (fr:Fr) (ys:List AV) (h':Hp),cRess P rvs xs=true->Rel ν k g->FrR ν g a.tmps fr->(M.mapL (resM fr) xs).run g.h=some (ys,h')->
  ∃vs g',vs.length=rvs.length/\(∀(j:Nat) (rv:ResultVar) (v:Value),rvs[j]?=some rv->vs[j]?=some v->(resOne a.tmps rv).run P g.w = .ok v g.w)/\g'.w=g.w/\g'.h=h'/\Rel ν k g'/\Mono ν g g'/\RL ν g' vs ys
 |[],[],g,a,fr,ys,h',_,r,_,e=>by
  obtain⟨rfl,rfl⟩:=MmapL_nilZ e;exact⟨[],g,rfl,λj rv v h=>by simp at h,rfl,rfl,r,.refl ν g,.nil⟩
 |rv::rvs,x::xs,g,a,fr,ys,h',hc,r,hf,e=>by
  simp only[cRess,Bool.and_eq_true]at hc;obtain⟨y,h1,zs,e1,e2,rfl⟩:=MmapL_consZ e;obtain⟨v,g1,q1,q2,q3,q4,q5,q6⟩:=resM_ok r hf hc.1 e1;obtain⟨vs,g2,p1,p2,p3,p4,p5,p6,p7⟩:=resM_list rvs xs g1 a fr zs h' hc.2 q4 (hf.mono q5) (by rw[q3];exact e2);refine⟨v::vs,g2,by simp[p1],λj rv' v' hj hv=>?_,p3.trans q2,p4,p5,q5.trans p6,.cons (p6 _ _ q6) p7⟩;cases j with
  |zero=>simp at hj hv;subst hj hv;exact q1
  |succ j=>have:=p2 j rv' v' (by simpa using hj) (by simpa using hv);rwa [q2]at this
 |[],_::_,_,_,_,_,_,hc,_,_,_=>by simp[cRess]at hc
 |_::_,[],_,_,_,_,_,hc,_,_,_=>by simp[cRess]at hc
def oneV:List Value->Value
 |[v]=>v
 |vs=>.tuple vs.toArray
theorem results_run {fn:Func} {tmps:Array Value} {w:World} {rvs:List ResultVar} (hrv:fn.results=rvs.toArray) (h4:rvs.length<=4) {vs:List Value} (hl:vs.length=rvs.length)
  (h:∀(j:Nat) (rv:ResultVar) (v:Value),rvs[j]?=some rv->vs[j]?=some v->(resOne tmps rv).run P w = .ok v w) :
  (results fn tmps).run P w = .ok (oneV vs) w:=by
 have hd:(results fn tmps)=(do
   let vs <-fn.results.mapM (resOne tmps)
   pure (if h:vs.size=1 then vs[0] else .tuple vs)):=by
  have hf:resOne tmps=λrv=>(match rv with | .tmp t=>pure (tmps.getD t undef) | .cell a t=>do loadVar t (<-asAddr (tmps.getD a undef)):Sem Value):=by
   funext rv;cases rv<;>rfl
  rw[hf];rfl
 rw[hd,hrv];clear hrv
 match rvs,vs,hl,h4,h with
 |[],[],_,_,_=>simp[oneV]
 |[a],[v],_,_,h=>simp[oneV,h 0 a v rfl rfl]
 |[a,b],[v,u],_,_,h=>simp[oneV,h 0 a v rfl rfl,h 1 b u rfl rfl]
 |[a,b,c],[v,u,x],_,_,h=>simp[oneV,h 0 a v rfl rfl,h 1 b u rfl rfl,h 2 c x rfl rfl]
 |[a,b,c,d],[v,u,x,y],_,_,h=>simp[oneV,h 0 a v rfl rfl,h 1 b u rfl rfl,h 2 c x rfl rfl,h 3 d y rfl rfl]
 |_::_::_::_::_::_,_,_,h4,_=>simp at h4
theorem resAll_ok {g:Gh} (r:Rel ν k g) {a:Act} {fr:Fr} (hf:FrR ν g a.tmps fr) {fn:Func} {xs:List IRes} (hc:cRess P fn.results.toList xs=true) (h4:xs.length<=4) {y:AV} {h':Hp} (e:(resAll fr xs).run g.h=some (y,h')) :
  ∃v g',(results fn a.tmps).run P g.w = .ok v g.w/\g'.w=g.w/\g'.h=h'/\Rel ν k g'/\Mono ν g g'/\RA ν g' v y:=by
 have hlen:∀{rvs:List ResultVar} {xs:List IRes},cRess P rvs xs=true->rvs.length=xs.length:=by
  intro rvs
  induction rvs with
  |nil=>intro xs h;cases xs with | nil=>rfl | cons=>simp[cRess]at h
  |cons a r ih=>intro xs h;cases xs with | nil=>simp[cRess]at h | cons x xs=>simp only[cRess,Bool.and_eq_true]at h;simp[ih h.2]
 have hn:=hlen hc;have many:∀{ys:List AV},(M.mapL (resM fr) xs).run g.h=some (ys,h')->xs.length≠1->∃v g',(results fn a.tmps).run P g.w = .ok v g.w/\g'.w=g.w/\g'.h=h'/\Rel ν k g'/\Mono ν g g'/\RA ν g' v (.tup ys):=by
  intro ys e hne;obtain⟨vs,g',p1,p2,p3,p4,p5,p6,p7⟩:=resM_list fn.results.toList xs g a fr ys h' hc r hf e;refine⟨.tuple vs.toArray,g',?_,p3,p4,p5,p6,.tup (by simpa using p7.1) λj v c h1 h2=>p7.2 j v c (by simpa using h1) h2⟩;rw[results_run (rvs:=fn.results.toList) (by simp) (by omega) p1 p2];rcases vs with _ | ⟨v,_ | ⟨u,vs⟩⟩
  ·rfl
  ·exact absurd (hn.symm.trans p1.symm) (by simpa using hne)
  ·rfl
 rcases xs with _ | ⟨x,_ | ⟨x2,xs⟩⟩
 ·obtain⟨l,h1,e1,e2⟩:=Mbind_someZ e;obtain⟨rfl,rfl⟩:=Mret_someZ e2;exact many e1 (by simp)
 ·rcases hl:fn.results.toList with _ | ⟨rv,_ | ⟨rv2,rvs⟩⟩
  ·rw[hl]at hn;simp at hn
  ·rw[hl]at hc;simp only[cRess,Bool.and_true]at hc;obtain⟨v,g',q1,q2,q3,q4,q5,q6⟩:=resM_ok r hf hc e;refine⟨v,g',?_,q2,q3,q4,q5,q6⟩;refine results_run (rvs:=[rv]) (vs:=[v]) (by rw[<-hl]) (by simp) rfl λj rv' v' hj hv=>?_
   cases j with
   |zero=>simp at hj hv;subst hj hv;exact q1
   |succ j=>simp at hj
  ·rw[hl]at hn;simp at hn
 ·obtain⟨l,h1,e1,e2⟩:=Mbind_someZ e;obtain⟨rfl,rfl⟩:=Mret_someZ e2;exact many e1 (by simp)
end
def ioMov (d:Nat) (x:Opd):IOper:=⟨some d,.mov x,none,[]⟩
def cpIr (e:Nat) (z:List IV):List IOper:=[⟨some 5,.bsl e z 0 [],none,[]⟩,ioMov 6 (.t 0),⟨some 7,.app e (.t 5) (.t 6),none,[]⟩,ioMov 2 (.t 7)]
def cNilQ (P:Program) (nt e:Nat) (b:Oper):Bool:=
 b.dst==some 4&&Nat.blt 4 nt&&(match b.guard with | none=>true | _=>false)&&(match b.op with | .binOp .eql t (.tmp 3) (.const (.slice none 0 0)) _=>sliceB P t e | _=>false)
def cClone (P:Program) (ν:Nat->Nat) (nt:Nat) (c:Code) (e:Nat) (z:List IV):Bool:=
 match c with
 |.seq (.region _ o1 false) (.seq (.seq (.region _ o2 false) (.cond (.tmp 4) (.seq (.region _ o3 false) .ret) .skip)) (.seq (.region _ o4 false) .ret))=>
  cRgn P ν nt false o1 [ioMov 2 (.c (.nsl e))]&&(match o2.toList with | [a,b]=>cOper P ν nt o2 a (ioMov 3 (.t 0))&&cNilQ P nt e b | _=>false) &&
  cRgn P ν nt false o3 [ioMov 2 (.c (.nsl e))]&&cRgn P ν nt false o4 (cpIr e z)
 |_=>false
section
variable {ν:Nat->Nat} {P:Program} {k:Cx}
def noCall:Nat->List AV->Hp->Option (AV×Hp):=λ_ _ _=>none
theorem noCall_sound:CallSound ν P noCall:=λf args hp r hp' e=>by simp[noCall]at e
theorem set_set_ge (h:Hp) (n:Nat) (x y:Ob):GE (set h n y) (set (set h n x) n y):=λm=>by
 by_cases hm:n=m<;>simp[get_set,hm]
theorem Sim.nx {nt:Nat} {g:Gh} {a:Act} {s:St} (m:Sim ν k nt g a s) {fr:Fr} (hf:fr=s.fr) {hp:Hp} (hh:hp=s.hp) (n:Nat):Sim ν k nt g a ⟨fr,hp,n⟩:=by
 subst hf hh;exact⟨m.h,m.r,m.f,m.n,m.d⟩
theorem ev_cp1 (e:Nat) (x:AV) (hp:Hp):evalRgn noCall false [ioMov 2 (.c (.nsl e))] [0] ⟨[(0,x)],hp,1000⟩=some ⟨[(0,x)],hp,1064⟩:=rfl
theorem ev_cp3 (e:Nat) (fr:Fr) (hp:Hp):evalRgn noCall false [ioMov 2 (.c (.nsl e))] [2] ⟨fr,hp,1000⟩=some ⟨keepFr [2] (set fr 2 (.iv (.nsl e))),hp,1064⟩:=rfl
theorem ev_cp4 {e:Nat} {z:List IV} (hz:z.length=e) {es:List (List IV)} {hp:Hp} (hf:get hp 1000=none) (hr:roomy es.length=true) :
  evalRgn noCall false (cpIr e z) [2] ⟨[(0,.iv (.sl e es))],hp,1000⟩=some ⟨[(2,.own 1000 0 es.length 1)],set (set hp 1000 (.buf 0 e [])) 1000 (.buf 1 e es),1256⟩:=by
 simp[evalRgn,cpIr,ioMov,evalOps,step,wants,osem,Mrun_bindZ,M.mapL,M.run,M.ok,M.fresh,M.write,hz,hf,putD,Arb.set,ev,get,app,elems,M.look,get_set,setAll,hr,keepFr]
theorem clone_ok {f:Nat} {fn:Func} {c:Code} (hfn:P.funcs[ν f]?=some fn) (hb:fn.body=some c) (hmix:P.follows .mixedOrders=true) {e:Nat} {z:List IV} (hc:cClone P ν fn.ntmps c e z=true)
  (hres:cRess P fn.results.toList [.t 2]=true) {args:List AV} {hp:Hp} {r:AV} {hp':Hp} (he:(cloneM e args).run hp=some (r,hp')):CallOK ν P f args hp r hp':=by
 intro k0 g0 cargs hh hkw hki r0 hRL;unfold cloneM at he;split at he
 case h_2=>exact(Mfail_someZ he).elim
 rename_i e' es;obtain⟨_,h1,e1,e2⟩:=Mbind_someZ he;obtain⟨hk,rfl⟩:=Mok_someZ e1;simp only[Bool.and_eq_true,beq_iff_eq]at hk;obtain⟨rfl,hroom⟩:=hk;obtain⟨_,h2,e3,e4⟩:=Mbind_someZ e2;obtain⟨hfr,rfl⟩:=M.fresh_some e3;obtain⟨_,h3,e5,e6⟩:=Mbind_someZ e4;obtain rfl:=Mwrite_someZ e5;obtain⟨_,h4,e7,e8⟩:=Mbind_someZ e6;obtain rfl:=Mwrite_someZ e7;obtain⟨rfl,rfl⟩:=Mret_someZ e8;clear he e1 e2 e3 e4 e5 e6 e7 e8;obtain⟨cv,hcv⟩:∃cv,cargs=#[cv]:=by
  have:=hRL.1;simp only[List.length_cons,List.length_nil,Nat.zero_add,Array.length_toList]at this;obtain⟨l⟩:=cargs
  match l,this with
  |[v],_=>exact⟨v,rfl⟩
 subst hcv;have hR0:RA ν g0 cv (.iv (.sl e' es)):=hRL.2 0 _ _ rfl rfl;refine calls_of_wp hfn hb ?_;have m0:Sim ν k0 fn.ntmps g0 { tmps:=#[cv]++Array.replicate (fn.ntmps - 1) undef,defers:=[] } ⟨[(0,.iv (.sl e' es))],h2,1000⟩:=by
  refine⟨hh,r0,λt x ht=>?_,by simp;omega,rfl⟩;simp only[get]at ht;split at ht
  ·rename_i h0;subst h0;simp only[Option.some.injEq]at ht;subst ht;exact⟨cv,by simp[Array.getElem?_append],hR0⟩
  ·cases ht
 unfold cClone at hc;split at hc
 case h_2=>cases hc
 rename_i i1 o1 i2 o2 i3 o3 i4 o4;simp only[Bool.and_eq_true]at hc;obtain⟨⟨⟨hc1,hc2⟩,hc3⟩,hc4⟩:=hc;split at hc2
 case h_2=>cases hc2
 rename_i oa ob hl;simp only[Bool.and_eq_true]at hc2;obtain⟨hoa,hob⟩:=hc2;simp only[cNilQ,Bool.and_eq_true,beq_iff_eq]at hob;obtain⟨⟨⟨hbd,hbn⟩,hbg⟩,hbo⟩:=hob;have hbg':ob.guard=none:=by
  split at hbg
  ·assumption
  ·cases hbg
 split at hbo
 case h_2=>cases hbo
 rename_i t yt hbop;obtain⟨el,ti,hut, -, -⟩:=sliceB_spec hbo;refine wp_seq (rgn_wp noCall_sound hmix hc1 (ev_cp1 e' (.iv (.sl e' es)) h2) m0 λg1 a1 m1 hm1=>?_);refine wp_seq (wp_seq (wp_region_list ?_));rw[hl];refine wpList_step λK hK=>step_wp (slot:=0) (s1:=⟨[(0,.iv (.sl e' es)),(3,.iv (.sl e' es))],h2,1064⟩) noCall_sound hoa m1 rfl λg2 a2 m2 hm2=>hK _ _ ?_
 refine wpList_step λK2 hK2=>?_
 simp only[Region.wanted,hbg',if_true];obtain⟨v3,hv3,hR3⟩:=m2.f 3 _ rfl;have hev:a2.eval (.tmp 3)=v3:=by simp[Act.eval,Array.getD,(Array.getElem?_eq_some_iff.1 hv3).1,(Array.getElem?_eq_some_iff.1 hv3).2]
 obtain⟨aa,n,cap,hvs,hnil⟩:∃aa n cap,v3 = .slice aa n cap/\(aa=none->es=[]):=by
  cases hR3 with
  |iv h=>
   cases h with
   |sl0 a cap e=>exact⟨a,0,cap,rfl,λ_=>rfl⟩
   |sl b off n cap e es f=>exact⟨_,n,cap,rfl,λh=>by cases h⟩
 subst hvs;have hrun:(execOp a2.eval ob).run P g2.w = .ok (.value (.bool aa.isNone)) g2.w:=by
  have hg:eqGuard .eql t (.tmp 3) (.const (.slice none 0 0)) (.slice aa n cap) (.slice none 0 0)=pure ():=rfl;have:=Lib.run_eql_slice_nil g2.w t el aa n cap 0 0 hut;simp only[execOp,hbop,hev,show a2.eval (.const (.slice none 0 0)) = .slice none 0 0 from rfl,hg];simp only[Sem.run_bind,Sem.run_pure,Result.andThen_ok,this]
 unfold Oper.wp;rw[hrun,Oper.upon_value];refine hK2 _ _ (wpList_nil ?_);have m3:=m2.put (d:=some 4) (v:=.bool aa.isNone) (y:=.iv (.bool aa.isNone)) (λt ht=>by cases ht;simpa using hbn) m2.h m2.r (.refl ν g2) (.iv (.bool _));rw[<-hbd]at m3;simp only[Exit.then];have hcond:(a2.put ob.dst (.bool aa.isNone)).eval (.tmp 4) = .bool aa.isNone:=by
  have:=eval_ok (ν:=ν) (x:=.tmp 4) (y:=.t 4) m3.f (by rfl);have hev4:ev (putD [(0,AV.iv (.sl e' es)),(3,.iv (.sl e' es))] ob.dst (.iv (.bool aa.isNone))) (.t 4) = .iv (.bool aa.isNone):=by rw[hbd];rfl
  rw[hev4]at this;generalize(a2.put ob.dst (.bool aa.isNone)).eval (.tmp 4)=u at this;cases this with
  |iv h=>cases h;rfl
 refine wp_cond hcond ?_;have fin:∀(g':Gh) (a':Act),Sim ν k0 fn.ntmps g' a' ⟨[(2,.own 1000 0 es.length 1)],set (set h2 1000 (.buf 0 e' [])) 1000 (.buf 1 e' es),1256⟩->MonoL g0 g'->
   a'.defers=[]/\∃v,(results fn a'.tmps).run P g'.w = .ok v g'.w/\∃u g'',Ending.returned v = .returned u/\g''.w=g'.w/\g''.h=set (set h2 1000 (.buf 0 e' [])) 1000 (.buf 1 e' es)/\Rel ν k0 g''/\MonoL g0 g''/\
    RA ν g'' u (.own 1000 0 es.length 1):=by
  intro g' a' m' hm;obtain⟨v,g'',q1,q2,q3,q4,q5,q6⟩:=resAll_ok (y:=.own 1000 0 es.length 1) (h':=set (set h2 1000 (.buf 0 e' [])) 1000 (.buf 1 e' es)) m'.r m'.f hres (by simp) (by
   rw[m'.h];simp[resAll,resM,outA,ev,get,M.look,M.bind,M.run,get_set,M.ok])
  exact⟨m'.d,v,q1,v,g'',rfl,q2,q3,q4,hm.trans q5.low,q6⟩
 cases aa with
 |none=>
  obtain rfl:=hnil rfl;simp only[Option.isNone_none,if_true]at m3 ⊢;refine wp_seq (rgn_wp noCall_sound hmix hc3 (ev_cp3 e' _ h2) (m3.nx rfl rfl 1000) λg4 a4 m4 hm4=>wp_ret ?_);have hnew:=m4.r.new (s:=1000) (ob:=.buf 1 e' []) (p:=none) (w':=g4.w) (by rw[m4.h];exact hfr) (Nat.le_refl _) rfl rfl rfl (λ_ _=>rfl) (λb h=>by cases h) λ_=>.inl ⟨updφ_same g4.φ 1000 none,rfl⟩
  have hge:GE (set g4.h 1000 (.buf 1 e' [])) (set (set h2 1000 (.buf 0 e' [])) 1000 (.buf 1 e' [])):=by rw[m4.h];exact set_set_ge _ _ _ _
  obtain⟨r5,hm5⟩:=Rel.he hnew.1 hge;refine fin { g4 with φ:=updφ g4.φ 1000 none,h:=set (set h2 1000 (.buf 0 e' [])) 1000 (.buf 1 e' []) } a4 ⟨rfl,r5,λt x ht=>?_,m4.n,m4.d⟩ ((((hm1.trans hm2).trans hm4).trans hnew.2).trans hm5).low;simp only[get]at ht;split at ht
  ·rename_i h2';subst h2';simp only[Option.some.injEq]at ht;subst ht;obtain⟨u,hu,hRu⟩:=m4.f 2 (.iv (.nsl e')) (by rw[hbd];rfl);refine⟨u,hu,?_⟩;cases hRu with
   |iv h=>
    cases h with
    |nsl a e=>
     refine .own rfl ?_;unfold OwnAt;simp only[get_set_same,updφ_same];exact⟨Nat.le_refl _,λ_=>⟨⟨a,rfl⟩,rfl⟩⟩
  ·cases ht
 |some ad=>
  simp only[Option.isNone_some,Bool.false_eq_true,if_false]at m3 ⊢;refine wp_skip ?_;simp only[Exit.then];have m3':Sim ν k0 fn.ntmps g2 (a2.put ob.dst (.bool false)) ⟨[(0,.iv (.sl e' es))],h2,1000⟩:=⟨m3.h,m3.r,λt x ht=>m3.f t x (by
   simp only[get]at ht;split at ht
   ·rename_i h0;subst h0;rw[hbd];exact ht
   ·cases ht),m3.n,m3.d⟩
  have hz:z.length=e':=by
   simp only[cRgn,Bool.and_eq_true]at hc4;have:=(cOpers_get hc4.1);have hlen:=this.1;have h0:=this.2 0 (o4.toList[0]'(by rw[hlen];simp[cpIr])) _ (List.getElem?_eq_getElem _) rfl;simp only[cOper,Bool.and_eq_true]at h0;have h1:=h0.2;simp only[cOp]at h1;split at h1
   ·simp only[Bool.and_eq_true,bslB]at h1;have h2:=h1.1.2;split at h2
    ·simp only[Bool.and_eq_true,beq_iff_eq]at h2;exact h2.1.2
    ·cases h2
   ·cases h1
  refine wp_seq (rgn_wp noCall_sound hmix hc4 (ev_cp4 hz hfr hroom) m3' λg4 a4 m4 hm4=>wp_ret ?_);exact fin g4 a4 m4 ((hm1.trans hm2).trans hm4).low
end
section
variable {ν:Nat->Nat} {P:Program} {k:Cx}
def cFn (P:Program) (ν:Nat->Nat) (fn:Func) (c:Code) (ir:IFn):Bool:=
 (match ir.cl with | some p=>(if Nat.blt p.1 1000000 then cClone P ν fn.ntmps c p.1 p.2&&cRess P fn.results.toList [.t 2] else cCode P ν fn.ntmps c ir.body) | none=>cCode P ν fn.ntmps c ir.body)&&cRess P fn.results.toList ir.res&&Nat.ble ir.res.length 4
def SortOK (P:Program) (ν:Nat->Nat) (f:Nat) (ir:IFn):Prop:=
 match ir.cl with
 |none=>True
 |some p=>Nat.blt p.1 1000000=true\/∀args hp r hp',sortM p.1 args hp=some (r,hp')->CallOK ν P f args hp r hp'
def Tie (P:Program) (ν:Nat->Nat) (prog:Nat->Option IFn):Prop:=
 ∀f ir,prog f=some ir->∃fn c,P.funcs[ν f]?=some fn/\fn.body=some c/\(fn.name=="runtime.NumGoroutine")=false/\cFn P ν fn c ir=true/\SortOK P ν f ir
theorem params_get:∀(l:List AV) (i t:Nat),get (params l i) t=if i<=t then l[t - i]? else none
 |[],i,t=>by simp[params,get]
 |x::r,i,t=>by
  simp only[params,get];by_cases h:i=t
  ·subst h;simp
  ·rw[if_neg h,params_get r (i+1) t];by_cases h':i+1<=t
   ·rw[if_pos h',if_pos (by omega)];have:t - i=(t - (i+1))+1:=by omega
    rw[this];simp
   ·rw[if_neg h',if_neg (by omega)]
theorem sound (hmix:P.follows .mixedOrders=true) {prog:Nat->Option IFn} (tie:Tie P ν prog):∀n,CallSound ν P (evalF prog n):=by
 intro n
 induction n with
 |zero=>intro f args hp r hp' e;simp[evalF]at e
 |succ n ih=>
  intro f args hp r hp' e;simp only[evalF]at e;cases hf:prog f with
  |none=>rw[hf]at e;cases e
  |some ir=>
   rw[hf]at e;simp only[]at e;obtain⟨fn,c,hfn,hb,hnm,hcf,hso⟩:=tie f ir hf;refine⟨⟨fn,hfn,by simp[hb],hnm⟩,?_⟩;simp only[cFn,Bool.and_eq_true,Nat.ble_eq]at hcf;have main:cCode P ν fn.ntmps c ir.body=true->(if args.length=ir.np then
     match evalC (evalF prog n) n ir.body ⟨params args 0,hp,1000⟩with
     |some (.norm,s) | some (.ret,s)=>(resAll s.fr ir.res).run s.hp
     |_=>none
    else none)=some (r,hp')->CallOK ν P f args hp r hp':=by
    intro hcc e;split at e
    ·rename_i hlen;intro k0 g0 cargs hh hkw hki r0 hRL;refine calls_of_wp hfn hb ?_;have m0:Sim ν k0 fn.ntmps g0 { tmps:=cargs++Array.replicate (fn.ntmps - cargs.size) undef,defers:=[] } ⟨params args 0,hp,1000⟩:=by
      refine⟨hh,r0,λt x ht=>?_,by simp;omega,rfl⟩;simp only[params_get,Nat.zero_le,if_true,Nat.sub_zero]at ht;have hlt:t<cargs.size:=by have:=hRL.1;have:=lt_of_some ht;simp only[Array.length_toList]at *;omega
      refine⟨cargs[t],by simp[Array.getElem?_append,hlt],hRL.2 t _ _ (by simp[hlt]) ht⟩
     cases he:evalC (evalF prog n) n ir.body ⟨params args 0,hp,1000⟩with
     |none=>rw[he]at e;cases e
     |some p=>
      obtain⟨ex,s⟩:=p;rw[he]at e;have fin:∀(g':Gh) (a':Act),Sim ν k0 fn.ntmps g' a' s->MonoL g0 g'->(resAll s.fr ir.res).run s.hp=some (r,hp')->a'.defers=[]/\∃v,(results fn a'.tmps).run P g'.w = .ok v g'.w/\
        ∃u g'',Ending.returned v = .returned u/\g''.w=g'.w/\g''.h=hp'/\Rel ν k0 g''/\MonoL g0 g''/\RA ν g'' u r:=by
       intro g' a' m' hm hr;obtain⟨v,g'',q1,q2,q3,q4,q5,q6⟩:=resAll_ok m'.r m'.f hcf.1.2 hcf.2 (by rw[m'.h];exact hr);exact⟨m'.d,v,q1,v,g'',rfl,q2,q3,q4,hm.trans q5.low,q6⟩
      refine code_wp ih hmix ir.body c hcc g0 _ _ ex s he m0 _ λg' a' m' hm=>?_
      cases ex with
      |norm=>exact fin g' a' m' hm e
      |ret=>exact fin g' a' m' hm e
      |exit i=>cases e
    ·cases e
   cases hcl:ir.cl with
   |some p=>
    unfold SortOK at hso;rw[hcl]at e hcf hso;simp only[]at e hcf hso;split at e
    ·rename_i hq;rw[if_pos hq]at hcf;simp only[Bool.and_eq_true]at hcf;exact clone_ok hfn hb hmix hcf.1.1.1 hcf.1.1.2 e
    ·rename_i hq;rw[if_neg hq]at hcf;split at e
     ·rename_i r' hr;cases e;exact(hso.resolve_left hq) _ _ _ _ hr
     ·exact main hcf.1.1 e
   |none=>
   rw[hcl]at e hcf;exact main hcf.1.1 e
end
end Arb
class Arx (H:Type) (α:outParam Type) where make::
 get:H->Nat->Option α
 set:H->Nat->α->H
 law:∀(h:H) (n m:Nat) (x:α),get (set h n x) m=if n=m then some x else get h m
namespace Arx
open Go Arb
theorem get_set {H α:Type} [Arx H α] (h:H) (n m:Nat) (x:α):get (set h n x) m=if n=m then some x else get h m:=Arx.law h n m x
theorem get_set_same {H α:Type} [Arx H α] (h:H) (n:Nat) (x:α):get (set h n x) n=some x:=by simp[get_set]
theorem get_set_ne {H α:Type} [Arx H α] (h:H) {n m:Nat} (x:α) (hne:n≠m):get (set h n x) m=get h m:=by simp[get_set,hne]
inductive Tr (α:Type) where
 |nil
 |node (v:Option α) (l r:Tr α)
 deriving Inhabited
def Tr.look {α:Type}:Tr α->Nat->Option α
 |.nil,_=>none
 |.node v _ _,0=>v
 |.node _ l r,n+1=>if n % 2=0 then l.look (n / 2) else r.look (n / 2)
def Tr.put {α:Type}:Nat->Nat->α->Tr α->Tr α
 |0,_,_,t=>t
 |_+1,0,x,.nil=>.node (some x) .nil .nil
 |_+1,0,x,.node _ l r=>.node (some x) l r
 |f+1,n+1,x,.nil=>if n % 2=0 then .node none (Tr.put f (n / 2) x .nil) .nil else .node none .nil (Tr.put f (n / 2) x .nil)
 |f+1,n+1,x,.node v l r=>if n % 2=0 then .node v (Tr.put f (n / 2) x l) r else .node v l (Tr.put f (n / 2) x r)
theorem Tr.look_nil {α:Type} (n:Nat):(Tr.nil:Tr α).look n=none:=by cases n<;>rfl
theorem Tr.look_put {α:Type} (x:α):∀(f n m:Nat) (t:Tr α),n<f->(Tr.put f n x t).look m=if n=m then some x else t.look m:=by
 intro f
 induction f with
 |zero=>intro n m t h;omega
 |succ f ih=>
  intro n m t h;have key:∀{n m:Nat},n % 2=m % 2->(n / 2=m / 2↔n=m):=λh=>by omega
  cases n with
  |zero=>cases t<;>cases m<;>simp[Tr.put,Tr.look]
  |succ n=>
   have hn:n / 2<f:=by omega
   cases t with
   |nil=>
    cases m with
    |zero=>simp only[Tr.put];split<;>simp[Tr.look]
    |succ m=>
     simp only[Tr.put];by_cases h1:n % 2=0<;>by_cases h2:m % 2=0<;>simp only[h1,h2,if_true,if_false,Tr.look,ih _ _ _ hn,Nat.add_right_cancel_iff]
     ·simp only[key (h1.trans h2.symm)]
     ·rw[if_neg (by omega)]
     ·rw[if_neg (by omega)]
     ·simp only[key (show n % 2=m % 2 by omega)]
   |node v l r=>
    cases m with
    |zero=>simp only[Tr.put];split<;>simp[Tr.look]
    |succ m=>
     simp only[Tr.put];by_cases h1:n % 2=0<;>by_cases h2:m % 2=0<;>simp only[h1,h2,if_true,if_false,Tr.look,ih _ _ _ hn,Nat.add_right_cancel_iff]
     ·simp only[key (h1.trans h2.symm)]
     ·rw[if_neg (by omega)]
     ·rw[if_neg (by omega)]
     ·simp only[key (show n % 2=m % 2 by omega)]
instance {α:Type}:Arx (Tr α) α where
 get:=Tr.look
 set t n x:=Tr.put (n+1) n x t
 law _ n _ x:=Tr.look_put x _ _ _ _ (Nat.lt_succ_self n)
instance {α:Type}:Arx (List (Nat×α)) α where
 get:=Arb.get
 set:=Arb.set
 law:=Arb.get_set
theorem fr_nil {α:Type} (n:Nat):get ([]:List (Nat×α)) n=none:=rfl
theorem fr_cons {α:Type} (p:Nat×α) (r:List (Nat×α)) (n:Nat):get (p::r) n=if p.1=n then some p.2 else get r n:=rfl
theorem tr_nil {α:Type} (n:Nat):get (Tr.nil:Tr α) n=none:=Tr.look_nil n
inductive AV where
 |undef
 |iv (x:IV)
 |nul (q:Nat)
 |agg (cs:List AV)
 |tup (vs:List AV)
 |own (id o n v:Nat)
 |ref (id v i j:Nat)
 |clo (f:Nat) (fs caps:List AV)
 deriving Inhabited
abbrev AV.nI (n:Int):AV:=.iv (.int .i64 n)
abbrev AV.bI (b:Bool):AV:=.iv (.bool b)
inductive Ob where
 |cells (cs:List AV)
 |buf (v e:Nat) (es:List (List AV))
 |imm (v e:Nat) (es:List (List IV))
 |icl (xs:List IV)
 |map (kvs:List (AV×AV))
 deriving Inhabited
mutual
def ivB:IV->IV->Bool
 |.bool a,.bool b=>a==b
 |.int k a,.int j b=>k==j&&a==b
 |.str a,.str b=>a.data.toList==b.data.toList
 |.nsl a,.nsl b=>a==b
 |.sl a x,.sl b y=>a==b&&ivLLB x y
 |.nilp,.nilp=>true
 |.ptr x,.ptr y=>ivLB x y
 |.fn f x,.fn g y=>f==g&&ivLB x y
 |.junk,.junk=>true
 |_,_=>false
def ivLB:List IV->List IV->Bool
 |[],[]=>true
 |x::xs,y::ys=>ivB x y&&ivLB xs ys
 |_,_=>false
def ivLLB:List (List IV)->List (List IV)->Bool
 |[],[]=>true
 |x::xs,y::ys=>ivLB x y&&ivLLB xs ys
 |_,_=>false
end
mutual
theorem ivB_eq:∀{x y:IV},ivB x y=true->x=y
 |.bool a,y,h=>by cases y<;>simp_all [ivB]
 |.int k a,y,h=>by cases y<;>simp_all [ivB]
 |.str a,y,h=>by
  cases y<;>simp[ivB]at h;rename_i b;obtain⟨⟨a⟩⟩:=a;obtain⟨⟨b⟩⟩:=b;simp at h;rw[h]
 |.nsl a,y,h=>by cases y<;>simp_all [ivB]
 |.sl a x,y,h=>by
  cases y<;>simp[ivB]at h;rw[h.1,ivLLB_eq h.2]
 |.nilp,y,h=>by cases y<;>simp_all [ivB]
 |.ptr x,y,h=>by
  cases y<;>simp[ivB]at h;rw[ivLB_eq h]
 |.fn f x,y,h=>by
  cases y<;>simp[ivB]at h;rw[h.1,ivLB_eq h.2]
 |.junk,y,h=>by cases y<;>simp_all [ivB]
theorem ivLB_eq:∀{x y:List IV},ivLB x y=true->x=y
 |[],y,h=>by cases y<;>simp_all [ivLB]
 |x::xs,y,h=>by
  cases y<;>simp[ivLB]at h;rw[ivB_eq h.1,ivLB_eq h.2]
theorem ivLLB_eq:∀{x y:List (List IV)},ivLLB x y=true->x=y
 |[],y,h=>by cases y<;>simp_all [ivLLB]
 |x::xs,y,h=>by
  cases y<;>simp[ivLLB]at h;rw[ivLB_eq h.1,ivLLB_eq h.2]
end
mutual
theorem ivB_refl:∀x:IV,ivB x x=true
 |.bool _ | .int _ _ | .str _ | .nsl _ | .nilp | .junk=>by simp[ivB]
 |.sl _ x=>by simp[ivB,ivLLB_refl x]
 |.ptr x | .fn _ x=>by simp[ivB,ivLB_refl x]
theorem ivLB_refl:∀x:List IV,ivLB x x=true
 |[]=>rfl
 |x::xs=>by simp[ivLB,ivB_refl x,ivLB_refl xs]
theorem ivLLB_refl:∀x:List (List IV),ivLLB x x=true
 |[]=>rfl
 |x::xs=>by simp[ivLLB,ivLB_refl x,ivLLB_refl xs]
end
mutual
def avB:AV->AV->Bool
 |.undef,.undef=>true
 |.iv x,.iv y=>ivB x y
 |.nul a,.nul b=>a==b
 |.agg x,.agg y=>avLB x y
 |.tup x,.tup y=>avLB x y
 |.own a b c d,.own a' b' c' d'=>a==a'&&b==b'&&c==c'&&d==d'
 |.ref a b c d,.ref a' b' c' d'=>a==a'&&b==b'&&c==c'&&d==d'
 |.clo f x y,.clo g x' y'=>f==g&&avLB x x'&&avLB y y'
 |_,_=>false
def avLB:List AV->List AV->Bool
 |[],[]=>true
 |x::xs,y::ys=>avB x y&&avLB xs ys
 |_,_=>false
end
mutual
theorem avB_eq:∀{x y:AV},avB x y=true->x=y
 |.undef,y,h=>by cases y<;>simp_all [avB]
 |.iv x,y,h=>by
  cases y<;>simp[avB]at h;rw[ivB_eq h]
 |.nul a,y,h=>by cases y<;>simp_all [avB]
 |.agg x,y,h=>by
  cases y<;>simp[avB]at h;rw[avLB_eq h]
 |.tup x,y,h=>by
  cases y<;>simp[avB]at h;rw[avLB_eq h]
 |.own a b c d,y,h=>by cases y<;>simp_all [avB]
 |.ref a b c d,y,h=>by cases y<;>simp_all [avB]
 |.clo f x z,y,h=>by
  cases y<;>simp[avB]at h;rw[h.1.1,avLB_eq h.1.2,avLB_eq h.2]
theorem avLB_eq:∀{x y:List AV},avLB x y=true->x=y
 |[],y,h=>by cases y<;>simp_all [avLB]
 |x::xs,y,h=>by
  cases y<;>simp[avLB]at h;rw[avB_eq h.1,avLB_eq h.2]
end
mutual
theorem avB_refl:∀x:AV,avB x x=true
 |.undef | .nul _ | .own _ _ _ _ | .ref _ _ _ _=>by simp[avB]
 |.iv x=>by simp[avB,ivB_refl x]
 |.agg x | .tup x=>by simp[avB,avLB_refl x]
 |.clo _ x y=>by simp[avB,avLB_refl x,avLB_refl y]
theorem avLB_refl:∀x:List AV,avLB x x=true
 |[]=>rfl
 |x::xs=>by simp[avLB,avB_refl x,avLB_refl xs]
end
def avLLB:List (List AV)->List (List AV)->Bool
 |[],[]=>true
 |x::xs,y::ys=>avLB x y&&avLLB xs ys
 |_,_=>false
theorem avLLB_eq:∀{x y:List (List AV)},avLLB x y=true->x=y
 |[],y,h=>by cases y<;>simp_all [avLLB]
 |x::xs,y,h=>by
  cases y<;>simp[avLLB]at h;rw[avLB_eq h.1,avLLB_eq h.2]
def avPB:List (AV×AV)->List (AV×AV)->Bool
 |[],[]=>true
 |x::xs,y::ys=>avB x.1 y.1&&avB x.2 y.2&&avPB xs ys
 |_,_=>false
theorem avPB_eq:∀{x y:List (AV×AV)},avPB x y=true->x=y
 |[],y,h=>by cases y<;>simp_all [avPB]
 |x::xs,y,h=>by
  cases y<;>simp[avPB]at h;rename_i y ys;obtain⟨x1,x2⟩:=x;obtain⟨y1,y2⟩:=y;rw[show x1=y1 from avB_eq h.1.1,show x2=y2 from avB_eq h.1.2,avPB_eq h.2]
def obB:Option Ob->Option Ob->Bool
 |none,none=>true
 |some (.cells x),some (.cells y)=>avLB x y
 |some (.buf v e x),some (.buf v' e' y)=>v==v'&&e==e'&&avLLB x y
 |some (.imm v e x),some (.imm v' e' y)=>v==v'&&e==e'&&ivLLB x y
 |some (.icl x),some (.icl y)=>ivLB x y
 |some (.map x),some (.map y)=>avPB x y
 |_,_=>false
theorem obB_eq {x y:Option Ob} (h:obB x y=true):x=y:=by
 unfold obB at h;split at h
 ·rfl
 ·rw[avLB_eq h]
 ·simp at h;rw[h.1.1,h.1.2,avLLB_eq h.2]
 ·simp at h;rw[h.1.1,h.1.2,ivLLB_eq h.2]
 ·rw[ivLB_eq h]
 ·rw[avPB_eq h]
 ·cases h
abbrev Hp:=Tr Ob
abbrev Fr:=List (Nat×AV)
inductive M (α:Type) where
 |ret (a:α)
 |fail
 |get (id:Nat) (k:Option Ob->M α)
 |put (id:Nat) (o:Ob) (k:M α)
namespace M
def bind {α β:Type}:M α->(α->M β)->M β
 |.ret a,f=>f a
 |.fail,_=>.fail
 |.get id k,f=>.get id λo=>(k o).bind f
 |.put id o k,f=>.put id o (k.bind f)
def run {α:Type}:M α->Hp->Option (α×Hp)
 |.ret a,h=>some (a,h)
 |.fail,_=>none
 |.get id k,h=>(k (Arx.get h id)).run h
 |.put id o k,h=>k.run (Arx.set h id o)
def foot {α:Type}:M α->Hp->List Nat×List Nat
 |.ret _,_=>([],[])
 |.fail,_=>([],[])
 |.get id k,h=>let r:=(k (Arx.get h id)).foot h;(id::r.1,r.2)
 |.put id o k,h=>let r:=k.foot (Arx.set h id o);(r.1,r.2++[id])
def ok (b:Bool):M Unit:=if b then .ret () else .fail
def lift {α:Type}:Option α->M α
 |some a=>.ret a
 |none=>.fail
def look (id:Nat):M Ob:=.get id fun | some o=>.ret o | none=>.fail
def fresh (id:Nat):M Unit:=.get id fun | some _=>.fail | none=>.ret ()
def write (id:Nat) (o:Ob):M Unit:=.put id o (.ret ())
def mapL {α β:Type} (f:α->M β):List α->M (List β)
 |[]=>.ret []
 |x::r=>(f x).bind λy=>(mapL f r).bind λys=>.ret (y::ys)
end M
def cellsM:AV->M (List AV)
 |.agg cs=>.ret cs
 |.undef=>.fail
 |.tup _=>.fail
 |x=>.ret [x]
def mk (agg:Bool) (l:List AV):M AV:=
 if agg then .ret (.agg l) else match l with
  |[x]=>.ret x
  |_=>.fail
def fz (w:Bool):Nat->AV->M IV
 |0,_=>.fail
 |n+1,a=>match a with
  |.iv (.nsl e)=>.ret (.sl e [])
  |.iv x=>.ret x
  |.own id o m ver=>(M.look id).bind fun
   |.buf v e es=>(M.ok (v==ver)).bind λ_=>if w then
     (M.mapL (M.mapL (fz w n)) es).bind λxs=>(M.look id).bind fun
      |.buf _ _ _=>(M.write id (.imm v e xs)).bind λ_=>.ret (.sl e ((xs.drop o).take m))
      |_=>.fail
    else(M.mapL (M.mapL (fz w n)) ((es.drop o).take m)).bind λxs=>.ret (.sl e xs)
   |.imm v e es=>(M.ok (v==ver)).bind λ_=>.ret (.sl e ((es.drop o).take m))
   |_=>.fail
  |.ref id ver i j=>(M.look id).bind fun
   |.buf v e es=>(M.ok (v==ver)).bind λ_=>if w then
     (M.mapL (M.mapL (fz w n)) es).bind λxs=>(M.look id).bind fun
      |.buf _ _ _=>(M.lift xs[i]?).bind λc=>(M.write id (.imm v e xs)).bind λ_=>.ret (.ptr (c.drop j))
      |_=>.fail
    else(M.lift es[i]?).bind λc=>(M.mapL (fz w n) c).bind λxs=>.ret (.ptr (xs.drop j))
   |.imm v _ es=>(M.ok (v==ver)).bind λ_=>(M.lift es[i]?).bind λc=>.ret (.ptr (c.drop j))
   |.cells cs=>(M.ok (ver==0&&i==0)).bind λ_=>(M.mapL (fz w n) cs).bind λxs=>if w then(M.look id).bind fun
    |.cells _=>(M.write id (.icl xs)).bind λ_=>.ret (.ptr (xs.drop j))
    |_=>.fail
    else .ret (.ptr (xs.drop j))
   |.icl xs=>(M.ok (ver==0&&i==0)).bind λ_=>.ret (.ptr (xs.drop j))
   |.map _=>.fail
  |.clo f [] caps=>(M.mapL (fz w n) caps).bind λxs=>.ret (.fn f xs)
  |_=>.fail
def fz1 (w:Bool) (a:AV):M Arb.AV:=match a with
 |.agg cs=>(M.mapL (fz w 8) cs).bind λl=>.ret (.agg (l.map .iv))
 |a=>(fz w 8 a).bind λx=>.ret (.iv x)
def allIv:List Arb.AV->Option (List IV)
 |[]=>some []
 |.iv x::r=>(allIv r).map (x::·)
 |_=>none
def of1:Arb.AV->Option AV
 |.iv x=>some (.iv x)
 |.agg cs=>(allIv cs).map λxs=>.agg (xs.map .iv)
 |_=>none
def ofL:List Arb.AV->Option (List AV)
 |[]=>some []
 |x::r=>(of1 x).bind λy=>(ofL r).map (y::·)
def ofA:Arb.AV->Option AV
 |.tup vs=>(ofL vs).map .tup
 |x=>of1 x
inductive Opd where
 |t (n:Nat)
 |c (v:AV)
 deriving Inhabited
inductive IOp where
 |mov (x:Opd)
 |pick (c a b:Opd)
 |alloc (tag:Nat) (z:List AV)
 |box (tag:Nat) (x:Opd)
 |build (z:List AV) (ps:List (Nat×Nat×Opd))
 |bsl (e:Nat) (z:List AV) (len:Nat) (ps:List (Nat×Opd))
 |load (agg:Bool) (sz:Nat) (a:Opd)
 |store (sz:Nat) (a x:Opd)
 |fadr (off:Nat) (x:Opd)
 |fld (agg:Bool) (off sz:Nat) (x:Opd)
 |iarr (len e:Nat) (x i:Opd)
 |isl (e:Nat) (x i:Opd)
 |xarr (agg:Bool) (len e:Nat) (x i:Opd)
 |xstr (x i:Opd)
 |bin (op:BinOp) (q:Nat) (x y:Opd)
 |eqc (neg:Bool) (qs:List Nat) (x y:Opd)
 |un (op:UnOp) (x:Opd)
 |cvi (k:IntKind) (x:Opd)
 |cvs (x:Opd)
 |slc (e:Nat) (x:Opd) (lo hi:Option Opd)
 |slcs (x:Opd) (lo hi:Option Opd)
 |slz (e:Nat) (x:Opd)
 |sla (len:Nat) (x:Opd) (lo hi:Option Opd)
 |clr (e:Nat) (z:List AV) (x:Opd)
 |len (str:Bool) (x:Opd)
 |app (e:Nat) (byte:Bool) (x y:Opd)
 |mn (x:Opd) (ys:List Opd)
 |mx (x:Opd) (ys:List Opd)
 |ext (x:Opd) (i:Nat)
 |nchk (x:Opd)
 |mkf (f:Nat) (fs caps:List Opd)
 |call (mode:Nat) (f:Opd) (args:List Opd)
 |scall (f:Opd) (args:List Opd)
 |cvb (x:Opd)
 |mmk
 |mget (ok agg:Bool) (qs:List Nat) (z:List AV) (m k:Opd)
 |mput (qs:List Nat) (m k v:Opd)
 |mdel (qs:List Nat) (m k:Opd)
 |mlen (m:Opd)
 |dead
 |capn (x:Opd)
 |appn (e:Nat) (z:List AV) (x n:Opd)
 |aload (k:IntKind) (x:Opd)
 |astore (x y:Opd)
 |aadd (k:IntKind) (x y:Opd)
 |acas (k:IntKind) (x o y:Opd)
 |toU (x:Opd)
 |noesc (x:Opd)
 |ofU (x:Opd)
 |usd (x:Opd)
 |ustr (p n:Opd)
 |bs0 (e:Nat)
 |mks (e:Nat) (z:List AV) (n:Opd)
 deriving Inhabited
structure IOper where
 dst:Option Nat
 op:IOp
 gd:Option (Nat×Bool):=none
 aft:List Nat:=[]
 deriving Inhabited
inductive IC where
 |skip
 |rgn (draw:Bool) (ops:List IOper) (keep:List Nat)
 |seq (a b:IC)
 |cond (c:Opd) (a b:IC)
 |block (id:Nat) (b:IC)
 |loop (keep:List Nat) (b:IC)
 |exit (id:Nat)
 |ret
 |scope (b:IC)
 |stop
 deriving Inhabited
inductive IRes where
 |t (n:Nat)
 |cell (n:Nat) (agg:Bool) (sz:Nat)
 deriving Inhabited
structure St where
 fr:Fr
 hp:Hp
 nx:Nat
def ev (fr:Fr):Opd->AV
 |.t n=>(get fr n).getD .undef
 |.c v=>v
def obRead (o:Ob) (ver i j sz:Nat):Option (List AV):=
 match o with
 |.cells cs=>if ver=0/\i=0 then some ((cs.drop j).take sz) else none
 |.buf v _ es=>if v=ver then(es[i]?).map λc=>(c.drop j).take sz else none
 |.imm v _ es=>if v=ver then(es[i]?).map λc=>((c.drop j).take sz).map .iv else none
 |.icl xs=>if ver=0/\i=0 then some (((xs.drop j).take sz).map .iv) else none
 |.map _=>none
def load (agg:Bool) (sz:Nat):AV->M AV
 |.ref id ver i j=>(M.look id).bind λo=>(M.lift (obRead o ver i j sz)).bind λl=>(M.ok (l.length==sz)).bind λ_=>mk agg l
 |.iv (.ptr cs)=>(M.ok ((cs.take sz).length==sz)).bind λ_=>mk agg ((cs.take sz).map .iv)
 |_=>.fail
def store (sz:Nat) (a x:AV):M AV:=
 (cellsM x).bind λxs=>(M.ok (xs.length==sz)).bind λ_=>
 match a with
 |.ref id ver i j=>(M.look id).bind fun
  |.cells cs=>(M.ok (Nat.ble (j+sz) cs.length)).bind λ_=>(M.write id (.cells (splice cs j xs))).bind λ_=>.ret (.tup [])
  |.buf v e es=>(M.ok (v==ver&&Nat.ble (j+sz) e)).bind λ_=>(M.lift es[i]?).bind λc=>(M.write id (.buf v e (es.set i (splice c j xs)))).bind λ_=>.ret (.tup [])
  |_=>.fail
 |_=>.fail
def valid (o:Ob) (ver i:Nat):Bool:=
 match o with
 |.cells _=>ver==0&&i==0
 |.icl _=>ver==0&&i==0
 |.buf v _ _=>v==ver
 |.imm v _ _=>v==ver
 |.map _=>false
def fadr (off:Nat):AV->M AV
 |.ref id ver i j=>(M.look id).bind λo=>(M.ok (valid o ver i)).bind λ_=>.ret (.ref id ver i (j+off))
 |.iv (.ptr cs)=>(M.ok (Nat.ble off cs.length)).bind λ_=>.ret (.iv (.ptr (cs.drop off)))
 |_=>.fail
def fld (agg:Bool) (off sz:Nat):AV->M AV
 |.agg cs=>(M.ok (((cs.drop off).take sz).length==sz)).bind λ_=>mk agg ((cs.drop off).take sz)
 |_=>.fail
def idx:AV->M Int
 |.iv (.int _ n)=>.ret n
 |_=>.fail
def iarr (len e:Nat) (x i:AV):M AV:=
 (idx i).bind λn=>(M.ok (decide (0<=n/\n<len))).bind λ_=>
 match x with
 |.ref id ver i j=>(M.look id).bind λo=>(M.ok (valid o ver i)).bind λ_=>.ret (.ref id ver i (j+n.toNat*e))
 |.iv (.ptr cs)=>(M.ok (Nat.ble (n.toNat*e) cs.length)).bind λ_=>.ret (.iv (.ptr (cs.drop (n.toNat*e))))
 |_=>.fail
def isl (e:Nat) (x i:AV):M AV:=
 (idx i).bind λn=>(M.ok (decide (0<=n))).bind λ_=>
 match x with
 |.own id o m ver=>(M.ok (decide (n<m))).bind λ_=>(M.look id).bind fun
  |.buf v e' _=>(M.ok (v==ver&&e'==e)).bind λ_=>.ret (.ref id ver (o+n.toNat) 0)
  |.imm v e' _=>(M.ok (v==ver&&e'==e)).bind λ_=>.ret (.ref id ver (o+n.toNat) 0)
  |.cells _=>(M.ok (ver==0&&e==1)).bind λ_=>.ret (.ref id 0 0 (o+n.toNat))
  |.icl _=>(M.ok (ver==0&&e==1)).bind λ_=>.ret (.ref id 0 0 (o+n.toNat))
  |_=>.fail
 |.iv (.sl e' es)=>(M.ok (e'==e)).bind λ_=>(M.lift es[n.toNat]?).bind λc=>.ret (.iv (.ptr c))
 |_=>.fail
def xarr (agg:Bool) (len e:Nat) (x i:AV):M AV:=
 (idx i).bind λn=>(M.ok (decide (0<=n/\n<len))).bind λ_=>fld agg (n.toNat*e) e x
def xstr:AV->AV->M AV
 |.iv (.str s),.iv (.int _ n)=>(M.ok (decide (0<=n))).bind λ_=>match s[n.toNat]? with
  |some b=>.ret (.iv (.int .u8 b.toNat))
  |none=>.fail
 |_,_=>.fail
def bin (op:BinOp) (q:Nat) (x y:AV):Option IV:=
 match q,x,y with
 |0,.iv (.int k a),.iv (.int k' b)=>intBin op k k' a b
 |0,.iv (.str a),.iv (.str b)=>strBin op a b
 |1,.iv (.bool a),.iv (.bool b)=>match op with
  |.eql=>some (.bool (a==b))
  |.neq=>some (.bool (!(a==b)))
  |_=>none
 |2,.iv .nilp,.iv .nilp=>match op with
  |.eql=>some (.bool true)
  |.neq=>some (.bool false)
  |_=>none
 |2,.iv (.ptr _),.iv .nilp | 2,.iv .nilp,.iv (.ptr _)=>match op with
  |.eql=>some (.bool false)
  |.neq=>some (.bool true)
  |_=>none
 |3,.nul 0,.nul 0=>match op with
  |.eql=>some (.bool true)
  |.neq=>some (.bool false)
  |_=>none
 |3,.clo _ _ _,.nul 0 | 3,.iv (.fn _ _),.nul 0=>match op with
  |.eql=>some (.bool false)
  |.neq=>some (.bool true)
  |_=>none
 |_,_,_=>none
def binM (op:BinOp) (q:Nat) (x y:AV):M AV:=
 match q,x,y with
 |2,.ref id ver i _,.iv .nilp | 2,.iv .nilp,.ref id ver i _=>(M.look id).bind λo=>(M.ok (valid o ver i)).bind λ_=>match op with
  |.eql=>.ret (.iv (.bool false))
  |.neq=>.ret (.iv (.bool true))
  |_=>.fail
 |2,.ref id ver i j,.ref id' ver' i' j'=>(M.look id).bind λo=>(M.ok (valid o ver i&&id==id'&&ver==ver'&&i==i'&&j==j')).bind λ_=>match op with
  |.eql=>.ret (.iv (.bool true))
  |.neq=>.ret (.iv (.bool false))
  |_=>.fail
 |q,x,y=>(M.lift (bin op q x y)).bind λv=>.ret (.iv v)
def eq0 (q:Nat) (x y:AV):Option Bool:=
 match q,x,y with
 |0,.iv (.int k a),.iv (.int k' b)=>if k=k' then some (a==b) else none
 |1,.iv (.bool a),.iv (.bool b)=>some (a==b)
 |2,.iv (.str a),.iv (.str b)=>some (a==b)
 |_,_,_=>none
def eqs:List Nat->List AV->List AV->Option Bool
 |[],[],[]=>some true
 |q::qs,x::xs,y::ys=>(eq0 q x y).bind λb=>(eqs qs xs ys).bind λc=>some (b&&c)
 |_,_,_=>none
def un (op:UnOp):AV->Option IV
 |.iv (.int k a)=>match op with
  |.neg=>some (.int k (k.wrap (0 - a)))
  |.xor=>some (.int k (bits .xor k (if k.signed then -1 else k.max) a))
  |_=>none
 |.iv (.bool b)=>match op with
  |.not=>some (.bool !b)
  |_=>none
 |_=>none
def bound (y:Nat):Option AV->M (Option Nat)
 |none=>.ret none
 |some (.iv (.int _ n))=>(M.ok (decide (0<=n/\n<=y))).bind λ_=>.ret (some n.toNat)
 |some _=>.fail
def rowLen (o:Ob) (ver e:Nat):Option Nat:=
 match o with
 |.buf v e' es=>if v=ver/\e'=e then some es.length else none
 |.imm v e' es=>if v=ver/\e'=e then some es.length else none
 |.cells cs=>if ver=0/\e=1 then some cs.length else none
 |.icl cs=>if ver=0/\e=1 then some cs.length else none
 |.map _=>none
def slc (e:Nat) (x:AV) (lo hi:Option AV):M AV:=
 match x with
 |.own id o m ver=>(M.look id).bind λob=>(M.lift (rowLen ob ver e)).bind λL=>(bound (L - o) hi).bind λh=>(bound (h.getD m) lo).bind λl=>
   .ret (.own id (o+l.getD 0) (h.getD m - l.getD 0) ver)
 |.iv (.sl e' es)=>(M.ok (e'==e)).bind λ_=>(bound es.length hi).bind λh=>(bound (h.getD es.length) lo).bind λl=>.ret (.iv (.sl e ((es.take (h.getD es.length)).drop (l.getD 0))))
 |.iv (.nsl _)=>(bound 0 hi).bind λh=>(bound (h.getD 0) lo).bind λ_=>.ret (.iv (.nsl e))
 |_=>.fail
def slcs (x:AV) (lo hi:Option AV):M AV:=
 match x with
 |.iv (.str s)=>(bound s.size hi).bind λh=>(bound (h.getD s.size) lo).bind λl=>.ret (.iv (.str (s.extract (l.getD 0) (h.getD s.size))))
 |_=>.fail
def slz (e:Nat):AV->M AV
 |.own id _ _ ver=>(M.look id).bind λo=>(M.lift (rowLen o ver e)).bind λ_=>.ret (.iv (.nsl e))
 |.iv (.sl _ _)=>.ret (.iv (.nsl e))
 |.iv (.nsl _)=>.ret (.iv (.nsl e))
 |_=>.fail
def sla (n:Nat) (x:AV) (lo hi:Option AV):M AV:=
 match x with
 |.ref id 0 0 0=>(M.look id).bind fun
  |.cells cs=>(M.ok (cs.length==n)).bind λ_=>(bound n hi).bind λh=>(bound (h.getD n) lo).bind λl=>.ret (.own id (l.getD 0) (h.getD n - l.getD 0) 0)
  |_=>.fail
 |_=>.fail
def clr (e:Nat) (z:List AV):AV->M AV
 |.own id o n ver=>(M.look id).bind fun
  |.buf v e' es=>(M.ok (v==ver&&e'==e&&z.length==e)).bind λ_=>(M.write id (.buf v e (es.take o++List.replicate n z++es.drop (o+n)))).bind λ_=>.ret (.tup [])
  |_=>.fail
 |.iv (.nsl _)=>.ret (.tup [])
 |_=>.fail
def len (str:Bool) (x:AV):M AV:=
 match str,x with
 |false,.own id _ n ver=>(M.look id).bind fun
  |.buf v _ _=>(M.ok (v==ver)).bind λ_=>.ret (.iv (.int .i64 n))
  |.imm v _ _=>(M.ok (v==ver)).bind λ_=>.ret (.iv (.int .i64 n))
  |.cells _=>(M.ok (ver==0)).bind λ_=>.ret (.iv (.int .i64 n))
  |.icl _=>(M.ok (ver==0)).bind λ_=>.ret (.iv (.int .i64 n))
  |.map _=>.fail
 |false,.iv (.sl _ es)=>.ret (.iv (.int .i64 es.length))
 |false,.iv (.nsl _)=>.ret (.iv (.int .i64 0))
 |true,.iv (.str s)=>.ret (.iv (.int .i64 s.size))
 |_,_=>.fail
def bytesIV (s:ByteArray):List (List AV):=s.data.toList.map λb=>[.iv (.int .u8 b.toNat)]
def elems (e:Nat):AV->M (List (List AV))
 |.own id o n ver=>(M.look id).bind fun
  |.buf v e' es=>(M.ok (v==ver&&e'==e)).bind λ_=>.ret ((es.drop o).take n)
  |.imm v e' es=>(M.ok (v==ver&&e'==e)).bind λ_=>.ret (((es.drop o).take n).map λr=>r.map .iv)
  |.cells cs=>(M.ok (ver==0&&e==1)).bind λ_=>.ret (((cs.drop o).take n).map λc=>[c])
  |.icl cs=>(M.ok (ver==0&&e==1)).bind λ_=>.ret (((cs.drop o).take n).map λc=>[.iv c])
  |_=>.fail
 |.iv (.sl e' es)=>(M.ok (e'==e)).bind λ_=>.ret (es.map λr=>r.map .iv)
 |.iv (.nsl _)=>.ret []
 |_=>.fail
def elemsS (e:Nat):AV->M (List (List AV))
 |.iv (.str s)=>(M.ok (e==1)).bind λ_=>.ret (bytesIV s)
 |x=>elems e x
def app (e slot:Nat) (byte:Bool) (x y:AV):M AV:=
 (elemsS e y).bind λys=>
 match x with
 |.iv (.nsl _)=>if ys.isEmpty then .ret (.iv (.nsl e)) else(M.ok (roomy ys.length)).bind λ_=>(M.fresh (4*slot+if byte then 2 else 0)).bind λ_=>
   (M.write (4*slot+if byte then 2 else 0) (.buf 0 e ys)).bind λ_=>.ret (.own (4*slot+if byte then 2 else 0) 0 ys.length 0)
 |.own id o n ver=>(M.look id).bind fun
  |.buf v e' es=>(M.ok (v==ver&&e'==e)).bind λ_=>
   if o+n+ys.length<=es.length then(M.write id (.buf v e (splice es (o+n) ys))).bind λ_=>.ret (.own id o (n+ys.length) v)
   else(M.ok (o==0&&roomy (n+ys.length)&&(id % 4==0||id % 4==2&&byte))).bind λ_=>(M.write id (.buf (v+1) e (es.take n++ys))).bind λ_=>.ret (.own id 0 (n+ys.length) (v+1))
  |_=>.fail
 |_=>.fail
def capn:AV->M AV
 |.iv (.nsl _)=>.ret (.iv (.int .i64 0))
 |_=>.fail
def appn (e slot:Nat) (z:List AV) (x n:AV):M AV:=
 match x with
 |.iv (.nsl _)=>(idx n).bind λm=>(M.ok (decide (0<=m)&&roomy m.toNat&&z.length==e)).bind λ_=>
  if m=0 then .ret (.iv (.nsl e)) else(M.fresh (4*slot)).bind λ_=>(M.write (4*slot) (.buf 0 e (List.replicate m.toNat z))).bind λ_=>.ret (.own (4*slot) 0 m.toNat 0)
 |_=>.fail
def mks (e slot:Nat) (z:List AV) (n:AV):M AV:=
 (idx n).bind λm=>(M.ok (decide (0<=m)&&roomy m.toNat&&z.length==e)).bind λ_=>
 (M.fresh (4*slot)).bind λ_=>(M.write (4*slot) (.buf 0 e (List.replicate m.toNat z))).bind λ_=>.ret (.own (4*slot) 0 m.toNat 0)
def mnI:Int->List AV->IntKind->Option Int
 |a,[],_=>some a
 |a,.iv (.int k b)::r,k'=>if k=k' then mnI (if b<a then b else a) r k' else none
 |_,_,_=>none
def mxI:Int->List AV->IntKind->Option Int
 |a,[],_=>some a
 |a,.iv (.int k b)::r,k'=>if k=k' then mxI (if b > a then b else a) r k' else none
 |_,_,_=>none
def callee:AV->Option (Nat×List AV×List AV)
 |.iv (.fn f caps)=>some (f,[],caps.map .iv)
 |.clo f fs caps=>some (f,fs,caps)
 |_=>none
abbrev Call1:=Nat->List Arb.AV->Arb.Hp->Option (Arb.AV×Arb.Hp)
def callM (call:Call1) (f:AV) (args:List AV):M AV:=
 (M.lift (callee f)).bind λq=>
 (M.mapL (fz1 false) (q.2.1++(args++q.2.2))).bind λU=>(M.lift ((call q.1 U []).bind shut)).bind λr=>
 (M.ok (flat r)).bind λ_=>M.lift (ofA r)
def fcallM (call:Call1) (f:AV) (args:List AV):M AV:=
 (M.lift (callee f)).bind λq=>
 (M.mapL (fz1 true) (q.2.1++(args++q.2.2))).bind λU=>(M.lift ((call q.1 U []).bind shut)).bind λr=>M.lift (ofA r)
def keyOk (qs:List Nat):AV->Bool
 |.agg xs=>xs.length==qs.length&&qs.length != 1
 |.iv _=>qs.length==1
 |_=>false
def eqk (qs:List Nat):AV->AV->Option Bool
 |.agg xs,.agg ys=>if qs.length=1 then none else eqs qs xs ys
 |.iv x,.iv y=>if qs.length=1 then eqs qs [.iv x] [.iv y] else none
 |_,_=>none
def mfind (qs:List Nat) (k:AV):List (AV×AV)->Nat->Option (Option (Nat×AV))
 |[],_=>some none
 |p::r,i=>match eqk qs k p.1 with
  |some true=>some (some (i,p.2))
  |some false=>mfind qs k r (i+1)
  |none=>none
def lookMap:AV->M (Nat×List (AV×AV))
 |.ref id 0 0 0=>(M.look id).bind fun
  |.map kvs=>.ret (id,kvs)
  |_=>.fail
 |_=>.fail
def mget (ok agg:Bool) (qs:List Nat) (z:List AV) (m k:AV):M AV:=
 (M.ok (keyOk qs k)).bind λ_=>(lookMap m).bind λx=>(M.lift (mfind qs k x.2 0)).bind fun
  |some p=>.ret (if ok then .tup [p.2,.iv (.bool true)] else p.2)
  |none=>(mk agg z).bind λv=>.ret (if ok then .tup [v,.iv (.bool false)] else v)
def mput (qs:List Nat) (m k v:AV):M AV:=
 (M.ok (keyOk qs k)).bind λ_=>(lookMap m).bind λx=>(M.ok (x.1 % 4==0)).bind λ_=>(M.lift (mfind qs k x.2 0)).bind fun
  |some p=>(M.write x.1 (.map (x.2.set p.1 (k,v)))).bind λ_=>.ret (.tup [])
  |none=>(M.write x.1 (.map (x.2++[(k,v)]))).bind λ_=>.ret (.tup [])
def mdel (qs:List Nat) (m k:AV):M AV:=
 (M.ok (keyOk qs k)).bind λ_=>(lookMap m).bind λx=>(M.ok (x.1 % 4==0)).bind λ_=>(M.lift (mfind qs k x.2 0)).bind fun
  |some p=>(M.write x.1 (.map (x.2.eraseIdx p.1))).bind λ_=>.ret (.tup [])
  |none=>(M.write x.1 (.map x.2)).bind λ_=>.ret (.tup [])
def bytesOf:List (List AV)->Option (List Int)
 |[]=>some []
 |[.iv (.int .u8 n)]::r=>(bytesOf r).map (n::·)
 |_=>none
def aload (k:IntKind) (a:AV):M Int:=(load false 1 a).bind fun
 |.iv (.int k' n)=>(M.ok (k'==k)).bind λ_=>.ret n
 |_=>.fail
def isInt1:AV->Bool
 |.iv (.int _ _)=>true
 |_=>false
def aadd (k:IntKind) (a d:AV):M AV:=
 match d with
 |.iv (.int k' m)=>(M.ok (k'==k)).bind λ_=>(aload k a).bind λn=>(store 1 a (.iv (.int k (k.wrap (n+m))))).bind λ_=>.ret (.iv (.int k (k.wrap (n+m))))
 |_=>.fail
def acas (k:IntKind) (a o y:AV):M AV:=
 match o,y with
 |.iv (.int k' old),.iv (.int k'' _)=>(M.ok (k'==k&&k''==k)).bind λ_=>(aload k a).bind λn=>
  if n=old then(store 1 a y).bind λ_=>.ret (.iv (.bool true)) else(store 1 a (.iv (.int k n))).bind λ_=>.ret (.iv (.bool false))
 |_,_=>.fail
def toU:AV->M AV
 |.ref id ver i j=>(M.look id).bind fun
  |.cells cs=>(M.ok (ver==0&&i==0&&Nat.blt j cs.length)).bind λ_=>.ret (.ref id ver i j)
  |_=>.fail
 |_=>.fail
def ofU:AV->M AV
 |.ref id ver i j=>(M.look id).bind fun
  |.cells _=>(M.ok (ver==0&&i==0&&j==0&&id % 4==1)).bind λ_=>.ret (.ref id 0 0 0)
  |_=>.fail
 |_=>.fail
def usd:AV->M AV
 |.own id o n ver=>(M.look id).bind fun
  |.buf v e _=>(M.ok (v==ver&&e==1&&o==0&&Nat.blt 0 n)).bind λ_=>.ret (.ref id ver 0 0)
  |_=>.fail
 |_=>.fail
def u8s (b:List Int):List (List IV):=b.map λx=>[.int .u8 x]
def ustr (p n:AV):M AV:=
 match p,n with
 |.ref id ver i j,.iv (.int k m)=>(M.look id).bind fun
  |.buf v e es=>(M.ok (v==ver&&e==1&&i==0&&j==0&&id % 4==2&&k == .i64&&m==(es.length:Int)&&Nat.blt 0 es.length&&roomy es.length)).bind λ_=>
   (M.lift (bytesOf es)).bind λb=>(M.ok (b.all λx=>decide (0<=x/\x<256))).bind λ_=>(M.write id (.imm v 1 (u8s b))).bind λ_=>.ret (.iv (.str (strB b)))
  |_=>.fail
 |_,_=>.fail
def osem (call:Call1) (slot:Nat) (ρ:Opd->AV):IOp->M AV
 |.mov x=>.ret (ρ x)
 |.pick c a b=>match ρ c with
  |.iv (.bool t)=>.ret (if t then ρ a else ρ b)
  |_=>.fail
 |.alloc tag z=>(M.ok (Nat.ble tag 1)).bind λ_=>(M.fresh (4*slot+tag)).bind λ_=>(M.write (4*slot+tag) (.cells z)).bind λ_=>.ret (.ref (4*slot+tag) 0 0 0)
 |.box tag x=>(cellsM (ρ x)).bind λxs=>(M.ok (tag==0||tag==1&&xs.length==2)).bind λ_=>(M.fresh (4*slot+tag)).bind λ_=>(M.write (4*slot+tag) (.cells xs)).bind λ_=>.ret (.ref (4*slot+tag) 0 0 0)
 |.build z ps=>(M.mapL (λp=>(cellsM (ρ p.2.2)).bind λl=>(M.ok (l.length==p.2.1&&Nat.ble (p.1+p.2.1) z.length)).bind λ_=>.ret (p.1,l)) ps).bind λl=>.ret (.agg (putAll z l))
 |.bsl e z n ps=>(M.ok (z.length==e)).bind λ_=>
   (M.mapL (λp=>(cellsM (ρ p.2)).bind λxs=>(M.ok (xs.length==e&&Nat.blt p.1 n)).bind λ_=>.ret (p.1,xs)) ps).bind λl=>
   (M.fresh (4*slot)).bind λ_=>(M.write (4*slot) (.buf 0 e (setAll (List.replicate n z) l))).bind λ_=>.ret (.own (4*slot) 0 n 0)
 |.load agg sz a=>load agg sz (ρ a)
 |.store sz a x=>store sz (ρ a) (ρ x)
 |.fadr off x=>fadr off (ρ x)
 |.fld agg off sz x=>fld agg off sz (ρ x)
 |.iarr len e x i=>iarr len e (ρ x) (ρ i)
 |.isl e x i=>isl e (ρ x) (ρ i)
 |.xarr agg len e x i=>xarr agg len e (ρ x) (ρ i)
 |.xstr x i=>xstr (ρ x) (ρ i)
 |.bin op q x y=>binM op q (ρ x) (ρ y)
 |.eqc neg qs x y=>match ρ x,ρ y with
  |.agg xs,.agg ys=>(M.lift (eqs qs xs ys)).bind λb=>.ret (.iv (.bool (if neg then !b else b)))
  |_,_=>.fail
 |.un op x=>(M.lift (un op (ρ x))).bind λv=>.ret (.iv v)
 |.cvi k x=>(idx (ρ x)).bind λn=>.ret (.iv (.int k (k.wrap n)))
 |.cvs x=>match ρ x with
  |.iv (.str s)=>.ret (.iv (.str s))
  |_=>.fail
 |.slc e x lo hi=>slc e (ρ x) (lo.map ρ) (hi.map ρ)
 |.slcs x lo hi=>slcs (ρ x) (lo.map ρ) (hi.map ρ)
 |.slz e x=>slz e (ρ x)
 |.sla n x lo hi=>sla n (ρ x) (lo.map ρ) (hi.map ρ)
 |.clr e z x=>clr e z (ρ x)
 |.len str x=>len str (ρ x)
 |.app e byte x y=>app e slot byte (ρ x) (ρ y)
 |.mn x ys=>match ρ x with
  |.iv (.int k a)=>(M.lift (mnI a (ys.map ρ) k)).bind λn=>.ret (.iv (.int k n))
  |_=>.fail
 |.mx x ys=>match ρ x with
  |.iv (.int k a)=>(M.lift (mxI a (ys.map ρ) k)).bind λn=>.ret (.iv (.int k n))
  |_=>.fail
 |.ext x i=>match ρ x with
  |.tup vs=>M.lift vs[i]?
  |_=>.fail
 |.nchk x=>match ρ x with
  |.ref id ver i j=>(M.look id).bind λo=>(M.ok (valid o ver i)).bind λ_=>.ret (.ref id ver i j)
  |.iv (.ptr cs)=>.ret (.iv (.ptr cs))
  |.iv (.fn f cs)=>.ret (.iv (.fn f cs))
  |.clo f fs cs=>.ret (.clo f fs cs)
  |_=>.fail
 |.mkf f fs caps=>.ret (.clo f (fs.map ρ) (caps.map ρ))
 |.call mode f args=>match mode with
  |0=>callM call (ρ f) (args.map ρ)
  |_=>fcallM call (ρ f) (args.map ρ)
 |.scall _ _=>.fail
 |.cvb x=>(elems 1 (ρ x)).bind λys=>(M.lift (bytesOf ys)).bind λb=>.ret (.iv (.str (strB b)))
 |.mmk=>(M.fresh (4*slot)).bind λ_=>(M.write (4*slot) (.map [])).bind λ_=>.ret (.ref (4*slot) 0 0 0)
 |.mget ok agg qs z m k=>mget ok agg qs z (ρ m) (ρ k)
 |.mput qs m k v=>mput qs (ρ m) (ρ k) (ρ v)
 |.mdel qs m k=>mdel qs (ρ m) (ρ k)
 |.mlen m=>(lookMap (ρ m)).bind λx=>.ret (.iv (.int .i64 x.2.length))
 |.dead=>.fail
 |.capn x=>capn (ρ x)
 |.appn e z x n=>appn e slot z (ρ x) (ρ n)
 |.mks e z n=>mks e slot z (ρ n)
 |.aload k x=>(aload k (ρ x)).bind λn=>.ret (.iv (.int k n))
 |.astore x y=>(M.ok (isInt1 (ρ y))).bind λ_=>store 1 (ρ x) (ρ y)
 |.aadd k x y=>aadd k (ρ x) (ρ y)
 |.acas k x o y=>acas k (ρ x) (ρ o) (ρ y)
 |.bs0 e=>.ret (.iv (.nsl e))
 |.toU x=>toU (ρ x)
 |.noesc x=>.ret (ρ x)
 |.ofU x=>ofU (ρ x)
 |.usd x=>usd (ρ x)
 |.ustr p n=>ustr (ρ p) (ρ n)
def wants (fr:Fr):Option (Nat×Bool)->Option Bool
 |none=>some true
 |some (t,b)=>match get fr t with
  |some (.iv (.bool c))=>some (c==b)
  |some (.tup [])=>some false
  |_=>none
def putD (fr:Fr) (d:Option Nat) (v:AV):Fr:=match d with
 |some d=>set fr d v
 |none=>fr
abbrev CallX:=Nat->List AV->Hp->Nat->Option (AV×Hp×Nat)
def isS:IOp->Option (Opd×List Opd)
 |.scall f args=>some (f,args)
 |_=>none
def step (c1:Call1) (cx:CallX) (slot:Nat) (o:IOper) (s:St):Option St:=
 match wants s.fr o.gd with
 |some true=>match isS o.op with
  |some fa=>match callee (ev s.fr fa.1)with
   |some q=>match cx q.1 (q.2.1++(fa.2.map (ev s.fr)++q.2.2)) s.hp s.nx with
    |some (v,h,n)=>some { fr:=putD s.fr o.dst v,hp:=h,nx:=n }
    |none=>none
   |none=>none
  |none=>match(osem c1 slot (ev s.fr) o.op).run s.hp with
   |some (v,h)=>some { s with fr:=putD s.fr o.dst v,hp:=h }
   |none=>none
 |some false=>some { s with fr:=putD s.fr o.dst (.tup []) }
 |none=>none
inductive Feet where
 |m (x:List Nat×List Nat)
 |c (h0 h1:Hp)
def footOf (c1:Call1) (slot:Nat) (o:IOper) (s:St) (h:Hp):Feet:=
 match wants s.fr o.gd with
 |some true=>match isS o.op with
  |some _=>.c s.hp h
  |none=>.m ((osem c1 slot (ev s.fr) o.op).foot s.hp)
 |_=>.m ([],[])
def evalOps (c1:Call1) (cx:CallX):List IOper->Nat->St->Option St
 |[],_,s=>some s
 |o::r,slot,s=>match step c1 cx slot o s with
  |some s'=>evalOps c1 cx r (slot+1) s'
  |none=>none
def evalFeet (c1:Call1) (cx:CallX):List IOper->Nat->St->Option (St×List Feet)
 |[],_,s=>some (s,[])
 |o::r,slot,s=>match step c1 cx slot o s with
  |some s'=>match evalFeet c1 cx r (slot+1) s' with
   |some p=>some (p.1,footOf c1 slot o s s'.hp::p.2)
   |none=>none
  |none=>none
def meets (a b:List Nat):Bool:=a.any b.contains
def clash:Feet->Feet->Bool
 |.m x,.m y=>meets x.2 (y.1++y.2)||meets y.2 (x.1++x.2)
 |.c h0 h1,.m y=>!((y.2.isEmpty&&y.1.all λn=>obB (get h0 n) (get h1 n))||(y.1++y.2).all λn=>(get h1 n).isNone)
 |.m x,.c h0 h1=>!(x.2.isEmpty&&x.1.all λn=>obB (get h0 n) (get h1 n))
 |.c _ _,.c _ _=>true
def apart1 (x:Feet) (i:Nat):List Feet->List (List Nat)->Bool
 |y::ys,c::cs=>(!clash x y||c.contains i)&&apart1 x i ys cs
 |_,_=>true
def apartAll:List Feet->Nat->List (List Nat)->Bool
 |x::xs,i,_::cs=>apart1 x i xs cs&&apartAll xs (i+1) cs
 |_,_,_=>true
def quietF:Feet->Bool
 |.m x=>x.2.isEmpty
 |.c _ _=>false
def orderOk (ops:List IOper) (feet:List Feet):Bool:=feet.all quietF||apartAll feet 0 (ops.map (·.aft))
def keepFr:List Nat->Fr->Fr
 |[],_=>[]
 |t::r,fr=>match get fr t with
  |some x=>(t,x)::keepFr r fr
  |none=>keepFr r fr
def evalRgn (c1:Call1) (cx:CallX) (draw:Bool) (ops:List IOper) (keep:List Nat) (s:St):Option St:=
 if draw then match evalFeet c1 cx ops s.nx { s with nx:=s.nx+ops.length } with
  |some p=>if orderOk ops p.2 then some { p.1 with fr:=keepFr keep p.1.fr } else none
  |none=>none
 else match evalOps c1 cx ops s.nx { s with nx:=s.nx+ops.length } with
  |some s'=>some { s' with fr:=keepFr keep s'.fr }
  |none=>none
def iter (f:St->Option (Ex×St)) (keep:List Nat):Nat->St->Option (Ex×St)
 |0,_=>none
 |m+1,s=>match f s with
  |some (.norm,s')=>iter f keep m { s' with fr:=keepFr keep s'.fr }
  |r=>r
def evalC (c1:Call1) (cx:CallX) (n:Nat):IC->St->Option (Ex×St)
 |.skip,s=>some (.norm,s)
 |.rgn draw ops keep,s=>(evalRgn c1 cx draw ops keep s).map λs'=>(.norm,s')
 |.seq a b,s=>match evalC c1 cx n a s with
  |some (.norm,s')=>evalC c1 cx n b s'
  |r=>r
 |.cond c a b,s=>match ev s.fr c with
  |.iv (.bool t)=>if t then evalC c1 cx n a s else evalC c1 cx n b s
  |_=>none
 |.block id b,s=>match evalC c1 cx n b s with
  |some (.exit i,s')=>if i=id then some (.norm,s') else some (.exit i,s')
  |r=>r
 |.loop keep b,s=>iter (evalC c1 cx n b) keep n { s with fr:=keepFr keep s.fr }
 |.exit id,s=>some (.exit id,s)
 |.ret,s=>some (.ret,s)
 |.scope b,s=>evalC c1 cx n b s
 |.stop,_=>none
structure IFn where
 np:Nat
 res:List IRes
 body:IC
 prim:Option (Call1->CallX->List AV->Hp->Nat->Option (AV×Hp×Nat)):=none
 deriving Inhabited
def resM (fr:Fr):IRes->M AV
 |.t n=>.ret (ev fr (.t n))
 |.cell n agg sz=>load agg sz (ev fr (.t n))
def resAll (fr:Fr):List IRes->M AV
 |[r]=>resM fr r
 |rs=>(M.mapL (resM fr) rs).bind λl=>.ret (.tup l)
def params:List AV->Nat->Fr
 |[],_=>[]
 |a::r,i=>(i,a)::params r (i+1)
def evalF (c1:Call1) (prog:Nat->Option IFn):Nat->CallX
 |0,_,_,_,_=>none
 |k+1,g,args,hp,nx=>match prog g with
  |none=>none
  |some fn=>match fn.prim with
   |some p=>p c1 (evalF c1 prog k) args hp nx
   |none=>if args.length=fn.np then
     match evalC c1 (evalF c1 prog k) k fn.body ⟨params args 0,hp,nx⟩with
     |some (.norm,s) | some (.ret,s)=>match(resAll s.fr fn.res).run s.hp with
      |some (v,h)=>some (v,h,s.nx)
      |none=>none
     |_=>none
    else none
end Arx
namespace Arx
open Go Go.RowKit Arb
structure Gh where
 I:Nat->Prop
 φ:Nat->Option Nat
 w:World
 h:Hp
def SlAt (w:World) (p:Option Nat) (e L o n:Nat) (v:Value):Prop:=
 match p with
 |none=>(∃a,v = .slice a 0 0)/\n=0/\o=0/\L=0
 |some b=>∃x cap,v = .slice (some ⟨b,x,none⟩) n cap/\o+n<=L/\L<=o+cap/\n<=cap/\(x=o*e\/n=0/\o≠0/\L<=o)/\(x=o*e->∀c,c<(o+cap)*e->(w.cell? ⟨b,c,none⟩).isSome=true)
def OwnAt (g:Gh) (v:Value) (id o n ver:Nat):Prop:=
 match get g.h id with
 |some (.buf v' e es)=>ver<=v'/\(v'=ver->SlAt g.w (g.φ id) e es.length o n v)
 |some (.imm v' e es)=>ver<=v'/\(v'=ver->SlAt g.w (g.φ id) e es.length o n v)
 |some (.cells cs)=>ver=0/\SlAt g.w (g.φ id) 1 cs.length o n v
 |some (.icl cs)=>ver=0/\SlAt g.w (g.φ id) 1 cs.length o n v
 |_=>False
def RefAt (g:Gh) (v:Value) (id ver i j:Nat):Prop:=
 match get g.h id with
 |some (.cells _)=>ver=0/\i=0/\∃b,g.φ id=some b/\v = .pointer (some ⟨b,j,none⟩)
 |some (.icl _)=>ver=0/\i=0/\∃b,g.φ id=some b/\v = .pointer (some ⟨b,j,none⟩)
 |some (.buf v' e _)=>ver<=v'/\(v'=ver->∃b,g.φ id=some b/\v = .pointer (some ⟨b,i*e+j,none⟩))
 |some (.imm v' e _)=>ver<=v'/\(v'=ver->∃b,g.φ id=some b/\v = .pointer (some ⟨b,i*e+j,none⟩))
 |some (.map _)=>ver=0/\i=0/\j=0/\∃b,g.φ id=some b/\v = .map (some b)
 |none=>False
def nulV:Nat->Value
 |0=>.nilFunc
 |1=>.nilIface
 |_=>.map none
inductive RA (ν:Nat->Nat) (g:Gh):Value->AV->Prop
 |undef (v:Value):RA ν g v .undef
 |iv {v:Value} {x:IV} (h:RI ν g.I g.w v x):RA ν g v (.iv x)
 |nul {v:Value} {q:Nat} (h:v=nulV q):RA ν g v (.nul q)
 |agg {vs:Array Value} {cs:List AV} (hn:vs.size=cs.length) (h1:∀(j:Nat) (v:Value),vs[j]?=some v->v.oneCell'=true)
   (hr:∀(j:Nat) (v:Value) (c:AV),vs[j]?=some v->cs[j]?=some c->RA ν g v c):RA ν g (.agg vs) (.agg cs)
 |tup {vs:Array Value} {cs:List AV} (hn:vs.size=cs.length) (hr:∀(j:Nat) (v:Value) (c:AV),vs[j]?=some v->cs[j]?=some c->RA ν g v c):RA ν g (.tuple vs) (.tup cs)
 |own {v:Value} {id o n ver:Nat} (h1:v.oneCell'=true) (h:OwnAt g v id o n ver):RA ν g v (.own id o n ver)
 |ref {v:Value} {id ver i j:Nat} (h1:v.oneCell'=true) (h:RefAt g v id ver i j):RA ν g v (.ref id ver i j)
 |clo {f:Nat} {first caps:Array Value} {fs cs:List AV} (hm:first.size=fs.length) (hs:∀(j:Nat) (v:Value) (c:AV),first[j]?=some v->fs[j]?=some c->RA ν g v c)
   (hn:caps.size=cs.length) (hr:∀(j:Nat) (v:Value) (c:AV),caps[j]?=some v->cs[j]?=some c->RA ν g v c) :
   RA ν g (.func (.func (ν f)) first caps) (.clo f fs cs)
theorem nulV_one (q:Nat):(nulV q).oneCell'=true:=by unfold nulV;split<;>rfl
theorem RA.mono {ν:Nat->Nat} {g g':Gh} (hI:∀v x,RI ν g.I g.w v x->RI ν g'.I g'.w v x) (ho:∀v id o n ver,OwnAt g v id o n ver->OwnAt g' v id o n ver)
  (hr:∀v id ver i j,RefAt g v id ver i j->RefAt g' v id ver i j) {v:Value} {x:AV} (h:RA ν g v x):RA ν g' v x:=by
 induction h with
 |undef v=>exact .undef v
 |iv h=>exact .iv (hI _ _ h)
 |nul h=>exact .nul h
 |agg hn h1 _ ih=>exact .agg hn h1 ih
 |tup hn _ ih=>exact .tup hn ih
 |own h1 h=>exact .own h1 (ho _ _ _ _ _ h)
 |ref h1 h=>exact .ref h1 (hr _ _ _ _ _ h)
 |clo hm _ hn _ ihs ih=>exact .clo hm ihs hn ih
def RowG (ν:Nat->Nat) (g:Gh) (b e:Nat) (es:List (List AV)):Prop:=
 (∀c ∈ es,c.length=e)/\∀(i j:Nat) (c:List AV) (x:AV),es[i]?=some c->c[j]?=some x->∃v,g.w.cell? ⟨b,i*e+j,none⟩=some v/\v.oneCell'=true/\RA ν g v x
def MapOK (es:Array MapEntry) (clock:Nat):Prop:=(es.toList.map (·.born)).Nodup/\∀x ∈ es.toList,x.born<clock
def ObAt (ν:Nat->Nat) (g:Gh) (id:Nat):Ob->Prop
 |.cells cs=>∃b,g.φ id=some b/\¬g.I b/\Soft g.w b/\∀(j:Nat) (c:AV),cs[j]?=some c->∃v,g.w.cell? ⟨b,j,none⟩=some v/\v.oneCell'=true/\RA ν g v c
 |.buf _ e es=>∃b,g.φ id=some b/\¬g.I b/\Soft g.w b/\RowG ν g b e es
 |.imm _ e es=>∃b,g.φ id=some b/\g.I b/\Row ν g.I g.w b e es
 |.icl xs=>∃b,g.φ id=some b/\g.I b/\∀(j:Nat) (x:IV),xs[j]?=some x->∃v,g.w.cell? ⟨b,j,none⟩=some v/\RI ν g.I g.w v x
 |.map kvs=>∃b es clock,g.φ id=some b/\¬g.I b/\b<g.w.heap.size/\g.w.heap[b]?=some (.map es clock)/\es.size=kvs.length/\MapOK es clock/\
   ∀(j:Nat) (e:MapEntry) (p:AV×AV),es[j]?=some e->kvs[j]?=some p->RA ν g e.key p.1/\RA ν g e.val p.2
structure Cx where
 w:World
 I:Nat->Prop
abbrev tyBld:Nat:=1000001
abbrev tyByte:Nat:=1000002
def TyOK (ν:Nat->Nat) (w:World) (id b:Nat):Prop:=(id % 4=1->w.shape? b=some (ν tyBld,2))/\(id % 4=2->∃n,w.shape? b=some (ν tyByte,n))/\id % 4≠3
theorem TyOK.zero {ν:Nat->Nat} {w:World} {id b:Nat} (h:id % 4=0):TyOK ν w id b:=⟨by omega,by omega,by omega⟩
theorem TyOK.same {ν:Nat->Nat} {w w':World} {id b:Nat} (h:TyOK ν w id b) (hs:w'.shape? b=w.shape? b):TyOK ν w' id b:=by unfold TyOK at *;rw[hs];exact h
theorem shape_of_same {w w':World} {b:Nat} (h:w'.heap[b]?=w.heap[b]?):w'.shape? b=w.shape? b:=by simp[World.shape?,h]
structure Rel (ν:Nat->Nat) (k:Cx) (g:Gh):Prop where
 ob:∀id o,get g.h id=some o->ObAt ν g id o
 inj:∀id id' o o' b,get g.h id=some o->get g.h id'=some o'->g.φ id=some b->g.φ id'=some b->id=id'
 small:∀b,g.I b->b<g.w.heap.size
 i0:∀b,k.I b->g.I b
 i1:∀b,g.I b->k.I b\/k.w.heap.size<=b
 own:∀id o b,get g.h id=some o->g.φ id=some b->k.w.heap.size<=b
 size:k.w.heap.size<=g.w.heap.size
 os:g.w.os=k.w.os
 tape:g.w.tape=k.w.tape
 output:g.w.output=k.w.output
 old:∀b,b<k.w.heap.size->g.w.heap[b]?=k.w.heap[b]?
 ty:∀id o b,get g.h id=some o->g.φ id=some b->TyOK ν g.w id b
def Mono (ν:Nat->Nat) (g g':Gh):Prop:=∀v x,RA ν g v x->RA ν g' v x
theorem Mono.refl (ν:Nat->Nat) (g:Gh):Mono ν g g:=λ_ _ h=>h
theorem Mono.trans {ν:Nat->Nat} {a b c:Gh} (h:Mono ν a b) (k:Mono ν b c):Mono ν a c:=λv x hx=>k v x (h v x hx)
theorem RowG.mono {ν:Nat->Nat} {g g':Gh} {b e:Nat} {es:List (List AV)} (h:RowG ν g b e es) (hm:Mono ν g g') (hb:∀off v,g.w.cell? ⟨b,off,none⟩=some v->g'.w.cell? ⟨b,off,none⟩=some v):RowG ν g' b e es:=
 ⟨h.1,λi j c x h1 h2=>let⟨v,hc,h3,hr⟩:=h.2 i j c x h1 h2;⟨v,hb _ _ hc,h3,hm _ _ hr⟩⟩
theorem ObAt.block {ν:Nat->Nat} {g:Gh} {id:Nat} {o:Ob} (h:ObAt ν g id o) {b:Nat} (hb:g.φ id=some b) (hs:∀b,g.I b->b<g.w.heap.size):b<g.w.heap.size:=by
 cases o with
 |cells cs=>obtain⟨b',h1,_,h3,_⟩:=h;rw[hb]at h1;cases h1;exact h3.1
 |buf v e es=>obtain⟨b',h1,_,h3,_⟩:=h;rw[hb]at h1;cases h1;exact h3.1
 |imm v e es=>obtain⟨b',h1,h2,_⟩:=h;rw[hb]at h1;cases h1;exact hs _ h2
 |icl xs=>obtain⟨b',h1,h2,_⟩:=h;rw[hb]at h1;cases h1;exact hs _ h2
 |map kvs=>obtain⟨b',_,_,h1,_,h3,_⟩:=h;rw[hb]at h1;cases h1;exact h3
theorem SlAt.same {w w':World} {p:Option Nat} {e L o n:Nat} {v:Value} (h:SlAt w p e L o n v)
  (hw:∀b,p=some b->∀c,(w.cell? ⟨b,c,none⟩).isSome=true->(w'.cell? ⟨b,c,none⟩).isSome=true):SlAt w' p e L o n v:=by
 cases p with
 |none=>exact h
 |some b=>
  obtain⟨x,cap,e1,e2,e3,e4,e5,e6⟩:=h;exact⟨x,cap,e1,e2,e3,e4,e5,λhx c hc=>hw b rfl c (e6 hx c hc)⟩
theorem OwnAt.alive {g:Gh} {v:Value} {id o n ver:Nat} (h:OwnAt g v id o n ver):∃ob,get g.h id=some ob:=by
 unfold OwnAt at h;cases hg:get g.h id with
 |none=>rw[hg]at h;exact h.elim
 |some ob=>exact⟨ob,rfl⟩
theorem RefAt.alive {g:Gh} {v:Value} {id ver i j:Nat} (h:RefAt g v id ver i j):∃ob,get g.h id=some ob:=by
 unfold RefAt at h;cases hg:get g.h id with
 |none=>rw[hg]at h;exact h.elim
 |some ob=>exact⟨ob,rfl⟩
theorem OwnAt.other {g g':Gh} {v:Value} {id o n ver:Nat} (h:OwnAt g v id o n ver) (hh:get g'.h id=get g.h id) (hφ:g'.φ id=g.φ id)
  (hw:∀b,g.φ id=some b->g'.w.heap[b]?=g.w.heap[b]?):OwnAt g' v id o n ver:=by
 have hw':∀b,g.φ id=some b->∀c,(g.w.cell? ⟨b,c,none⟩).isSome=true->(g'.w.cell? ⟨b,c,none⟩).isSome=true:=λb hb c hc=>by rw[cell_of_same (hw b hb)];exact hc
 unfold OwnAt at h ⊢;rw[hh,hφ];cases hg:get g.h id with
 |none=>rw[hg]at h;exact h.elim
 |some ob=>
  rw[hg]at h;cases ob with
  |cells cs=>exact⟨h.1,h.2.same hw'⟩
  |icl cs=>exact⟨h.1,h.2.same hw'⟩
  |buf v' e es=>exact⟨h.1,λhv=>(h.2 hv).same hw'⟩
  |imm v' e es=>exact⟨h.1,λhv=>(h.2 hv).same hw'⟩
  |map kvs=>exact h.elim
theorem RefAt.other {g g':Gh} {v:Value} {id ver i j:Nat} (h:RefAt g v id ver i j) (hh:get g'.h id=get g.h id) (hφ:g'.φ id=g.φ id):RefAt g' v id ver i j:=by
 unfold RefAt at h ⊢;rw[hh,hφ];exact h
theorem ObAt.other {ν:Nat->Nat} {g g':Gh} {id:Nat} {o:Ob} (h:ObAt ν g id o) (hφ:g'.φ id=g.φ id) (hm:Mono ν g g') (hRI:∀v x,RI ν g.I g.w v x->RI ν g'.I g'.w v x)
  (hsz:g.w.heap.size<=g'.w.heap.size) (hw:∀b,g.φ id=some b->g'.w.heap[b]?=g.w.heap[b]?) (hI:∀b,g.φ id=some b->(g'.I b↔g.I b)):ObAt ν g' id o:=by
 cases o with
 |cells cs=>
  obtain⟨b,e1,e2,e3,e4⟩:=h;refine⟨b,hφ.trans e1,λhi=>e2 ((hI b e1).1 hi),⟨Nat.lt_of_lt_of_le e3.1 hsz,λo=>by rw[frozen_of_same (hw b e1)];exact e3.2 o⟩,λj c hc=>?_⟩;obtain⟨v,c1,c2,c3⟩:=e4 j c hc;exact⟨v,by rw[cell_of_same (hw b e1)];exact c1,c2,hm _ _ c3⟩
 |buf v e es=>
  obtain⟨b,e1,e2,e3,e4⟩:=h;exact⟨b,hφ.trans e1,λhi=>e2 ((hI b e1).1 hi),⟨Nat.lt_of_lt_of_le e3.1 hsz,λo=>by rw[frozen_of_same (hw b e1)];exact e3.2 o⟩,e4.mono hm λoff v hc=>by rw[cell_of_same (hw b e1)];exact hc⟩
 |imm v e es=>
  obtain⟨b,e1,e2,e4⟩:=h;exact⟨b,hφ.trans e1,(hI b e1).2 e2,e4.mono hRI λoff v hc=>by rw[cell_of_same (hw b e1)];exact hc⟩
 |icl xs=>
  obtain⟨b,e1,e2,e4⟩:=h;refine⟨b,hφ.trans e1,(hI b e1).2 e2,λj x hx=>?_⟩;obtain⟨v,c1,c2⟩:=e4 j x hx;exact⟨v,by rw[cell_of_same (hw b e1)];exact c1,hRI _ _ c2⟩
 |map kvs=>
  obtain⟨b,es,clock,e1,e2,e3,e4,e5,e7,e6⟩:=h;refine⟨b,es,clock,hφ.trans e1,λhi=>e2 ((hI b e1).1 hi),Nat.lt_of_lt_of_le e3 hsz,(hw b e1).trans e4,e5,e7,λj e p h1 h2=>?_⟩;obtain⟨c1,c2⟩:=e6 j e p h1 h2;exact⟨hm _ _ c1,hm _ _ c2⟩
theorem Rel.world {ν:Nat->Nat} {k:Cx} {g:Gh} (r:Rel ν k g) {w':World} {I':Nat->Prop} (hI:∀b,g.I b->I' b) (hI':∀b,I' b->g.I b\/g.w.heap.size<=b/\b<w'.heap.size)
  (hs:g.w.heap.size<=w'.heap.size) (h1:w'.os=g.w.os) (h2:w'.tape=g.w.tape) (h3:w'.output=g.w.output) (hb:∀b,b<g.w.heap.size->w'.heap[b]?=g.w.heap[b]?) :
  Rel ν k { g with I:=I',w:=w' }/\Mono ν g { g with I:=I',w:=w' }:=by
 have hRI:∀v x,RI ν g.I g.w v x->RI ν I' w' v x:=λv x h=>h.mono hI λb off v hi hc=>by rw[cell_of_same (hb b (r.small b hi))];exact hc
 have hblk:∀id o b,get g.h id=some o->g.φ id=some b->b<g.w.heap.size:=λid o b ho hφ=>(r.ob id o ho).block hφ r.small
 have hm:Mono ν g { g with I:=I',w:=w' }:=by
  intro v x hx;refine hx.mono hRI ?_ ?_
  ·intro v id o n ver ho;obtain⟨ob,hob⟩:=ho.alive;exact ho.other rfl rfl λb hφ=>hb b (hblk id _ b hob hφ)
  ·intro v id ver i j hr;exact hr
 refine⟨⟨?_,r.inj,?_,λb h=>hI b (r.i0 b h),?_,r.own,Nat.le_trans r.size hs,h1.trans r.os,h2.trans r.tape,h3.trans r.output,λb h=>(hb b (Nat.lt_of_lt_of_le h r.size)).trans (r.old b h),λid o b ho hφ=>(r.ty id o b ho hφ).same (shape_of_same (hb b (hblk id o b ho hφ)))⟩,hm⟩
 ·intro id o ho;exact(r.ob id o ho).other rfl hm hRI hs (λb hφ=>hb b (hblk id _ b ho hφ)) λb hφ=>⟨λhi=>(hI' b hi).resolve_right λh=>by have:=hblk id _ b ho hφ;omega,hI b⟩
 ·intro b hi;rcases hI' b hi with h | h
  ·exact Nat.lt_of_lt_of_le (r.small b h) hs
  ·exact h.2
 ·intro b hi;rcases hI' b hi with h | h
  ·exact r.i1 b h
  ·exact .inr (Nat.le_trans r.size h.1)
theorem Rel.new' {ν:Nat->Nat} {k:Cx} {g:Gh} (r:Rel ν k g) {s:Nat} {ob:Ob} {p:Option Nat} {w':World} (hs:get g.h s=none)
  (hsz:g.w.heap.size<=w'.heap.size) (h1:w'.os=g.w.os) (h2:w'.tape=g.w.tape) (h3:w'.output=g.w.output) (hb:∀b,b<g.w.heap.size->w'.heap[b]?=g.w.heap[b]?)
  (hp:∀b,p=some b->∀id o,get g.h id=some o->g.φ id≠some b) (hp2:∀b,p=some b->k.w.heap.size<=b) (hty:∀b,p=some b->TyOK ν w' s b)
  (hob:Mono ν g { g with φ:=updφ g.φ s p,w:=w',h:=set g.h s ob }->ObAt ν { g with φ:=updφ g.φ s p,w:=w',h:=set g.h s ob } s ob) :
  Rel ν k { g with φ:=updφ g.φ s p,w:=w',h:=set g.h s ob }/\Mono ν g { g with φ:=updφ g.φ s p,w:=w',h:=set g.h s ob }:=by
 have hRI:∀v x,RI ν g.I g.w v x->RI ν g.I w' v x:=λv x h=>h.mono (λ_ h=>h) λb off v hi hc=>by rw[cell_of_same (hb b (r.small b hi))];exact hc
 have hblk:∀id o b,get g.h id=some o->g.φ id=some b->b<g.w.heap.size:=λid o b ho hφ=>(r.ob id o ho).block hφ r.small
 have hm:Mono ν g { g with φ:=updφ g.φ s p,w:=w',h:=set g.h s ob }:=by
  intro v x hx;refine hx.mono hRI ?_ ?_
  ·intro v id o n ver ho;obtain⟨ob',hob'⟩:=ho.alive;have hne:s≠id:=λe=>by rw[<-e,hs]at hob';cases hob'
   exact ho.other (get_set_ne _ _ hne) (updφ_ne _ _ (Ne.symm hne)) λb hφ=>hb b (hblk id _ b hob' hφ)
  ·intro v id ver i j hr;obtain⟨ob',hob'⟩:=hr.alive;have hne:s≠id:=λe=>by rw[<-e,hs]at hob';cases hob'
   exact hr.other (get_set_ne _ _ hne) (updφ_ne _ _ (Ne.symm hne))
 refine⟨⟨?_,?_,λb hi=>Nat.lt_of_lt_of_le (r.small b hi) hsz,r.i0,r.i1,?_,Nat.le_trans r.size hsz,h1.trans r.os,h2.trans r.tape,h3.trans r.output,λb h=>(hb b (Nat.lt_of_lt_of_le h r.size)).trans (r.old b h),?_⟩,hm⟩
 ·intro id o ho;by_cases he:s=id
  ·subst he;have:ob=o:=by simpa[get_set_same]using ho
   subst this;exact hob hm
  ·have ho':get g.h id=some o:=by rwa [show get (set g.h s ob) id=get g.h id from get_set_ne _ _ he]at ho
   exact(r.ob id o ho').other (updφ_ne _ _ (Ne.symm he)) hm hRI hsz (λb hφ=>hb b (hblk id _ b ho' hφ)) λ_ _=>Iff.rfl
 ·intro id id' o o' b ho ho' hφ hφ';simp only[get_set]at ho ho';simp only[updφ]at hφ hφ';by_cases he:id=s
  ·by_cases he':id'=s
   ·rw[he,he']
   ·rw[if_pos he]at hφ;rw[if_neg he']at hφ';rw[if_neg (Ne.symm he')]at ho';exact absurd hφ' (hp b hφ id' _ ho')
  ·rw[if_neg he]at hφ;rw[if_neg (Ne.symm he)]at ho;by_cases he':id'=s
   ·rw[if_pos he']at hφ';exact absurd hφ (hp b hφ' id _ ho)
   ·rw[if_neg he']at hφ';rw[if_neg (Ne.symm he')]at ho';exact r.inj id id' o o' b ho ho' hφ hφ'
 ·intro id o b ho hφ;simp only[get_set]at ho;simp only[updφ]at hφ;by_cases he:id=s
  ·rw[if_pos he]at hφ;exact hp2 b hφ
  ·rw[if_neg he]at hφ;rw[if_neg (Ne.symm he)]at ho;exact r.own id o b ho hφ
 ·intro id o b ho hφ;simp only[get_set]at ho;simp only[updφ]at hφ;by_cases he:id=s
  ·rw[if_pos he]at hφ;rw[he];exact hty b hφ
  ·rw[if_neg he]at hφ;rw[if_neg (Ne.symm he)]at ho;exact(r.ty id o b ho hφ).same (shape_of_same (hb b (hblk id o b ho hφ)))
theorem Rel.new {ν:Nat->Nat} {k:Cx} {g:Gh} (r:Rel ν k g) {s:Nat} {ob:Ob} {p:Option Nat} {w':World} (hs:get g.h s=none)
  (hsz:g.w.heap.size<=w'.heap.size) (h1:w'.os=g.w.os) (h2:w'.tape=g.w.tape) (h3:w'.output=g.w.output) (hb:∀b,b<g.w.heap.size->w'.heap[b]?=g.w.heap[b]?)
  (hp:∀b,p=some b->g.w.heap.size<=b) (hty:∀b,p=some b->TyOK ν w' s b)
  (hob:Mono ν g { g with φ:=updφ g.φ s p,w:=w',h:=set g.h s ob }->ObAt ν { g with φ:=updφ g.φ s p,w:=w',h:=set g.h s ob } s ob) :
  Rel ν k { g with φ:=updφ g.φ s p,w:=w',h:=set g.h s ob }/\Mono ν g { g with φ:=updφ g.φ s p,w:=w',h:=set g.h s ob }:=
 r.new' hs hsz h1 h2 h3 hb (λb hb' id o ho hφ=>by have:=(r.ob id o ho).block hφ r.small;have:=hp b hb';omega) (λb hb'=>Nat.le_trans r.size (hp b hb')) hty hob
theorem Rel.turn {ν:Nat->Nat} {k:Cx} {g:Gh} (r:Rel ν k g) {s:Nat} {ob0 ob:Ob} {p:Option Nat} {w':World} {I':Nat->Prop} (hs:get g.h s=some ob0)
  (hnI:∀b,g.φ s=some b->¬g.I b)
  (hsz:g.w.heap.size<=w'.heap.size) (h1:w'.os=g.w.os) (h2:w'.tape=g.w.tape) (h3:w'.output=g.w.output) (hb:∀b,b<g.w.heap.size->g.φ s≠some b->w'.heap[b]?=g.w.heap[b]?)
  (hI:∀b,g.I b->I' b) (hI':∀b,I' b->g.I b\/g.φ s=some b)
  (hp:p=g.φ s\/∃b,p=some b/\g.w.heap.size<=b) (hty:∀b,p=some b->TyOK ν w' s b)
  (hO:∀v o n ver,OwnAt g v s o n ver->OwnAt ⟨I',updφ g.φ s p,w',set g.h s ob⟩ v s o n ver)
  (hR:∀v ver i j,RefAt g v s ver i j->RefAt ⟨I',updφ g.φ s p,w',set g.h s ob⟩ v s ver i j)
  (hob:(∀v x,RI ν g.I g.w v x->RI ν I' w' v x)->Mono ν g ⟨I',updφ g.φ s p,w',set g.h s ob⟩->ObAt ν ⟨I',updφ g.φ s p,w',set g.h s ob⟩ s ob) :
  Rel ν k ⟨I',updφ g.φ s p,w',set g.h s ob⟩/\Mono ν g ⟨I',updφ g.φ s p,w',set g.h s ob⟩:=by
 have hRI:∀v x,RI ν g.I g.w v x->RI ν I' w' v x:=λv x h=>h.mono hI λb off v hi hc=>by
  rw[cell_of_same (hb b (r.small b hi) λe=>hnI b e hi)];exact hc
 have hblk:∀id o b,get g.h id=some o->g.φ id=some b->b<g.w.heap.size:=λid o b ho hφ=>(r.ob id o ho).block hφ r.small
 have hapart:∀id o b,s≠id->get g.h id=some o->g.φ id=some b->g.φ s≠some b:=λid o b hne ho hφ e=>hne (r.inj s id ob0 o b hs ho e hφ)
 have hm:Mono ν g ⟨I',updφ g.φ s p,w',set g.h s ob⟩:=by
  intro v x hx;refine hx.mono hRI ?_ ?_
  ·intro v id o n ver ho;by_cases he:s=id
   ·subst he;exact hO _ _ _ _ ho
   ·obtain⟨ob',hob'⟩:=ho.alive;exact ho.other (get_set_ne _ _ he) (updφ_ne _ _ (Ne.symm he)) λb hφ=>hb b (hblk id _ b hob' hφ) (hapart id _ b he hob' hφ)
  ·intro v id ver i j hr;by_cases he:s=id
   ·subst he;exact hR _ _ _ _ hr
   ·exact hr.other (get_set_ne _ _ he) (updφ_ne _ _ (Ne.symm he))
 refine⟨⟨?_,?_,?_,λb h=>hI b (r.i0 b h),?_,?_,Nat.le_trans r.size hsz,h1.trans r.os,h2.trans r.tape,h3.trans r.output,?_,?_⟩,hm⟩
 ·intro id o ho;by_cases he:s=id
  ·subst he;have:ob=o:=by simpa[get_set_same]using ho
   subst this;exact hob hRI hm
  ·have ho':get g.h id=some o:=by rwa [show get (set g.h s ob) id=get g.h id from get_set_ne _ _ he]at ho
   exact(r.ob id o ho').other (updφ_ne _ _ (Ne.symm he)) hm hRI hsz (λb hφ=>hb b (hblk id _ b ho' hφ) (hapart id _ b he ho' hφ))
    λb hφ=>⟨λhi=>(hI' b hi).resolve_right (hapart id _ b he ho' hφ),hI b⟩
 ·intro id id' o o' b ho ho' hφ hφ';simp only[get_set]at ho ho';simp only[updφ]at hφ hφ';by_cases he:id=s
  ·by_cases he':id'=s
   ·rw[he,he']
   ·rw[if_pos he]at hφ;rw[if_neg he']at hφ';rw[if_neg (Ne.symm he')]at ho';have hlt:=hblk id' _ b ho' hφ';rcases hp with hp | ⟨b',hp,hge⟩
    ·exact absurd (hp▸hφ) (hapart id' _ b (Ne.symm he') ho' hφ')
    ·rw[hp]at hφ;cases hφ;omega
  ·rw[if_neg he]at hφ;rw[if_neg (Ne.symm he)]at ho;by_cases he':id'=s
   ·rw[if_pos he']at hφ';have hlt:=hblk id _ b ho hφ;rcases hp with hp | ⟨b',hp,hge⟩
    ·exact absurd (hp▸hφ') (hapart id _ b (Ne.symm he) ho hφ)
    ·rw[hp]at hφ';cases hφ';omega
   ·rw[if_neg he']at hφ';rw[if_neg (Ne.symm he')]at ho';exact r.inj id id' o o' b ho ho' hφ hφ'
 ·intro b hi;rcases hI' b hi with h | h
  ·exact Nat.lt_of_lt_of_le (r.small b h) hsz
  ·exact Nat.lt_of_lt_of_le (hblk s _ b hs h) hsz
 ·intro b hi;rcases hI' b hi with h | h
  ·exact r.i1 b h
  ·exact .inr (r.own s _ b hs h)
 ·intro id o b ho hφ;simp only[get_set]at ho;simp only[updφ]at hφ;by_cases he:id=s
  ·rw[if_pos he]at hφ;rcases hp with hp | ⟨b',hp,hge⟩
   ·exact r.own s _ b hs (hp▸hφ)
   ·rw[hp]at hφ;cases hφ;exact Nat.le_trans r.size hge
  ·rw[if_neg he]at hφ;rw[if_neg (Ne.symm he)]at ho;exact r.own id o b ho hφ
 ·intro b h;have hlt:=Nat.lt_of_lt_of_le h r.size;refine(hb b hlt λe=>?_).trans (r.old b h);have:=r.own s _ b hs e;omega
 ·intro id o b ho hφ;simp only[get_set]at ho;simp only[updφ]at hφ;by_cases he:id=s
  ·rw[if_pos he]at hφ;rw[he];exact hty b hφ
  ·rw[if_neg he]at hφ;rw[if_neg (Ne.symm he)]at ho;exact(r.ty id o b ho hφ).same (shape_of_same (hb b (hblk id o b ho hφ) (hapart id o b (Ne.symm he) ho hφ)))
theorem Mrun_bindZ {α β:Type} (m:M α) (f:α->M β) (h:Hp):(m.bind f).run h=match m.run h with
  |some (a,h')=>(f a).run h'
  |none=>none:=by
 induction m generalizing h with
 |ret a=>rfl
 |fail=>rfl
 |get id k ih=>simp only[M.bind,M.run];exact ih _ _
 |put id o k ih=>simp only[M.bind,M.run];exact ih _
theorem Mbind_someZ {α β:Type} {m:M α} {f:α->M β} {h h'':Hp} {b:β} (e:(m.bind f).run h=some (b,h'')) :
  ∃a h',m.run h=some (a,h')/\(f a).run h'=some (b,h''):=by
 rw[Mrun_bindZ]at e;cases hm:m.run h with
 |none=>rw[hm]at e;cases e
 |some p=>rw[hm]at e;exact⟨p.1,p.2,rfl,e⟩
theorem Mok_someZ {b:Bool} {h h':Hp} {u:Unit} (e:(M.ok b).run h=some (u,h')):b=true/\h'=h:=by
 unfold M.ok at e;cases b with
 |true=>simp[M.run]at e;exact⟨rfl,e.symm⟩
 |false=>simp[M.run]at e
theorem Mlook_someZ {id:Nat} {h h':Hp} {o:Ob} (e:(M.look id).run h=some (o,h')):Arx.get h id=some o/\h'=h:=by
 simp only[M.look,M.run]at e;cases hg:Arx.get h id with
 |none=>simp[hg,M.run]at e
 |some x=>simp[hg,M.run]at e;exact⟨by rw[e.1],e.2.symm⟩
theorem M.fresh_some {id:Nat} {h h':Hp} {u:Unit} (e:(M.fresh id).run h=some (u,h')):Arx.get h id=none/\h'=h:=by
 simp only[M.fresh,M.run]at e;cases hg:Arx.get h id with
 |none=>simp[hg,M.run]at e;exact⟨rfl,e.symm⟩
 |some x=>simp[hg,M.run]at e
theorem Mwrite_someZ {id:Nat} {o:Ob} {h h':Hp} {u:Unit} (e:(M.write id o).run h=some (u,h')):h'=set h id o:=by
 simp[M.write,M.run]at e;exact e.symm
theorem Mlift_someZ {α:Type} {x:Option α} {h h':Hp} {a:α} (e:(M.lift x).run h=some (a,h')):x=some a/\h'=h:=by
 cases x with
 |none=>simp[M.lift,M.run]at e
 |some y=>simp[M.lift,M.run]at e;exact⟨by rw[e.1],e.2.symm⟩
theorem Mret_someZ {α:Type} {x a:α} {h h':Hp} (e:(M.ret x).run h=some (a,h')):x=a/\h'=h:=by
 simp[M.run]at e;exact⟨e.1,e.2.symm⟩
theorem Mfail_someZ {α:Type} {a:α} {h h':Hp} (e:(M.fail:M α).run h=some (a,h')):False:=by simp[M.run]at e
theorem M.ok_bind {α:Type} {b:Bool} {f:Unit->M α} {h:Hp} {r:α×Hp} (e:((M.ok b).bind f).run h=some r):b=true/\(f ()).run h=some r:=by
 obtain⟨a,g⟩:=r;obtain⟨_,h1,e1,e2⟩:=Mbind_someZ e;obtain⟨hb,rfl⟩:=Mok_someZ e1;exact⟨hb,e2⟩
theorem M.lift_bind {α β:Type} {x:Option β} {f:β->M α} {h:Hp} {r:α×Hp} (e:((M.lift x).bind f).run h=some r):∃a,x=some a/\(f a).run h=some r:=by
 obtain⟨a,g⟩:=r;obtain⟨y,h1,e1,e2⟩:=Mbind_someZ e;obtain⟨hb,rfl⟩:=Mlift_someZ e1;exact⟨y,hb,e2⟩
theorem M.look_bind {α:Type} {id:Nat} {f:Ob->M α} {h:Hp} {r:α×Hp} (e:((M.look id).bind f).run h=some r):∃o,Arx.get h id=some o/\(f o).run h=some r:=by
 obtain⟨a,g⟩:=r;obtain⟨y,h1,e1,e2⟩:=Mbind_someZ e;obtain⟨hb,rfl⟩:=Mlook_someZ e1;exact⟨y,hb,e2⟩
theorem MmapL_consZ {α β:Type} {f:α->M β} {x:α} {r:List α} {h h':Hp} {ys:List β} (e:(M.mapL f (x::r)).run h=some (ys,h')) :
  ∃y h1 zs,(f x).run h=some (y,h1)/\(M.mapL f r).run h1=some (zs,h')/\ys=y::zs:=by
 obtain⟨y,h1,e1,e2⟩:=Mbind_someZ e;obtain⟨zs,h2,e3,e4⟩:=Mbind_someZ e2;obtain⟨rfl,rfl⟩:=Mret_someZ e4;exact⟨y,h1,zs,e1,e3,rfl⟩
theorem MmapL_nilZ {α β:Type} {f:α->M β} {h h':Hp} {ys:List β} (e:(M.mapL f []).run h=some (ys,h')):ys=[]/\h'=h:=by
 obtain⟨rfl,rfl⟩:=Mret_someZ e;exact⟨rfl,rfl⟩
structure Froze (ν:Nat->Nat) (k:Cx) (g:Gh) (h':Hp) (I':Nat->Prop):Prop where
 rel:Rel ν k { g with I:=I',h:=h' }
 mono:Mono ν g { g with I:=I',h:=h' }
 sub:∀b,g.I b->I' b
 up:∀b,I' b->g.I b\/∃id o,get g.h id=some o/\g.φ id=some b
 stay:∀id o,get h' id=some o->get g.h id=some o\/(∃v e es,o = .imm v e es)\/∃xs,o = .icl xs
 alive:∀id,(get h' id).isSome=(get g.h id).isSome
theorem Froze.refl {ν:Nat->Nat} {k:Cx} {g:Gh} (r:Rel ν k g):Froze ν k g g.h g.I:=⟨r,.refl ν g,λ_ h=>h,λ_ h=>.inl h,λ_ _ h=>.inl h,λ_=>rfl⟩
theorem Froze.trans {ν:Nat->Nat} {k:Cx} {g:Gh} {h1 h2:Hp} {I1 I2:Nat->Prop} (a:Froze ν k g h1 I1) (b:Froze ν k { g with I:=I1,h:=h1 } h2 I2):Froze ν k g h2 I2:=
 ⟨b.rel,a.mono.trans b.mono,λx hx=>b.sub x (a.sub x hx),λx hx=>by
  rcases b.up x hx with h | ⟨id,o,ho,hφ⟩
  ·exact a.up x h
  ·have ha:=a.alive id;simp only[]at ho hφ;rw[ho]at ha;cases hg:get g.h id with
   |none=>rw[hg]at ha;simp at ha
   |some o'=>exact .inr ⟨id,o',hg,hφ⟩,
  λid o h=>by
  rcases b.stay id o h with h | h
  ·exact a.stay id o h
  ·exact .inr h,λid=>(b.alive id).trans (a.alive id)⟩
theorem updφ_self {φ:Nat->Option Nat} {id:Nat}:updφ φ id (φ id)=φ:=by funext i;simp only[updφ];split<;>simp_all
theorem froze_buf {ν:Nat->Nat} {k:Cx} {g:Gh} (r:Rel ν k g) {id v e b:Nat} {es:List (List AV)} {xs:List (List IV)} (hg:get g.h id=some (.buf v e es)) (hφ:g.φ id=some b) (hn:xs.length=es.length)
  (hl:∀c ∈ xs,c.length=e) (hx:∀(i j:Nat) (c:List IV) (x:IV),xs[i]?=some c->c[j]?=some x->∃u,g.w.cell? ⟨b,i*e+j,none⟩=some u/\RI ν g.I g.w u x) :
  Froze ν k g (set g.h id (.imm v e xs)) (λb=>g.I b\/g.φ id=some b):=by
 have hnI:∀b,g.φ id=some b->¬g.I b:=by
  intro b' hφ';obtain⟨b'',h1,h2,_⟩:=r.ob id _ hg;rw[hφ']at h1;cases h1;exact h2
 have ht:=r.turn (s:=id) (ob:=.imm v e xs) (p:=g.φ id) (w':=g.w) (I':=λb=>g.I b\/g.φ id=some b) hg hnI (Nat.le_refl _) rfl rfl rfl (λ_ _ _=>rfl) (λ_ h=>.inl h) (λ_ h=>h) (.inl rfl) (λb' h=>r.ty id _ b' hg h)
  (λu o n ver ho=>by
   unfold OwnAt at ho ⊢;rw[hg]at ho;simp only[get_set_same,updφ_same];rw[hn];exact ho)
  (λu ver i j hr=>by
   unfold RefAt at hr ⊢;rw[hg]at hr;simp only[get_set_same,updφ_same];exact hr)
  (λhRI _=>⟨b,(updφ_same _ _ _).trans hφ,.inr hφ,hl,λi j c x h1 h2=>let⟨u,c1,c2⟩:=hx i j c x h1 h2;⟨u,c1,hRI _ _ c2⟩⟩)
 rw[updφ_self]at ht;refine⟨ht.1,ht.2,λ_ h=>.inl h,λb h=>h.imp _root_.id λh=>⟨id,_,hg,h⟩,λid' o h=>?_,λid'=>?_⟩
 ·rw[get_set]at h;split at h
  ·cases h;exact .inr (.inl ⟨_,_,_,rfl⟩)
  ·exact .inl h
 ·rw[get_set];split
  ·rename_i he;subst he;rw[hg];rfl
  ·rfl
theorem froze_cells {ν:Nat->Nat} {k:Cx} {g:Gh} (r:Rel ν k g) {id b:Nat} {cs:List AV} {xs:List IV} (hg:get g.h id=some (.cells cs)) (hφ:g.φ id=some b) (hn:xs.length=cs.length)
  (hx:∀(j:Nat) (x:IV),xs[j]?=some x->∃u,g.w.cell? ⟨b,j,none⟩=some u/\RI ν g.I g.w u x) :
  Froze ν k g (set g.h id (.icl xs)) (λb=>g.I b\/g.φ id=some b):=by
 have hnI:∀b,g.φ id=some b->¬g.I b:=by
  intro b' hφ';obtain⟨b'',h1,h2,_⟩:=r.ob id _ hg;rw[hφ']at h1;cases h1;exact h2
 have ht:=r.turn (s:=id) (ob:=.icl xs) (p:=g.φ id) (w':=g.w) (I':=λb=>g.I b\/g.φ id=some b) hg hnI (Nat.le_refl _) rfl rfl rfl (λ_ _ _=>rfl) (λ_ h=>.inl h) (λ_ h=>h) (.inl rfl) (λb' h=>r.ty id _ b' hg h)
  (λu o n ver ho=>by
   unfold OwnAt at ho ⊢;rw[hg]at ho;simp only[get_set_same,updφ_same];rw[hn];exact ho)
  (λu ver i j hr=>by
   unfold RefAt at hr ⊢;rw[hg]at hr;simp only[get_set_same,updφ_same];exact hr)
  (λhRI _=>⟨b,(updφ_same _ _ _).trans hφ,.inr hφ,λj x h2=>let⟨u,c1,c2⟩:=hx j x h2;⟨u,c1,hRI _ _ c2⟩⟩)
 rw[updφ_self]at ht;refine⟨ht.1,ht.2,λ_ h=>.inl h,λb h=>h.imp _root_.id λh=>⟨id,_,hg,h⟩,λid' o h=>?_,λid'=>?_⟩
 ·rw[get_set]at h;split at h
  ·cases h;exact .inr (.inr ⟨_,rfl⟩)
  ·exact .inl h
 ·rw[get_set];split
  ·rename_i he;subst he;rw[hg];rfl
  ·rfl
theorem sl_reads' {ν:Nat->Nat} {J:Nat->Prop} {w:World} {p:Option Nat} {e o m L:Nat} {xs:List (List IV)} (hn:xs.length=m)
  (hrow:∀b,p=some b->J b/\(∀c ∈ xs,c.length=e)/\∀(i j:Nat) (c:List IV) (x:IV),xs[i]?=some c->c[j]?=some x->∃u,w.cell? ⟨b,(o+i)*e+j,none⟩=some u/\RI ν J w u x) {v:Value}
  (h:SlAt w p e L o m v):RI ν J w v (.sl e xs):=by
 by_cases hm:m=0
 ·subst hm;have:xs=[]:=List.eq_nil_of_length_eq_zero hn;subst this;cases hp:p with
  |none=>rw[hp]at h;obtain⟨⟨a,rfl⟩,_⟩:=h;exact .sl0 a 0 e
  |some b=>rw[hp]at h;obtain⟨x,cap,rfl,_⟩:=h;exact .sl0 _ cap e
 ·cases hp:p with
  |none=>rw[hp]at h;obtain⟨_,h0,_⟩:=h;exact absurd h0 hm
  |some b=>
   rw[hp]at h;obtain⟨x,cap,rfl,h2,h3,h4,h5,_⟩:=h;obtain⟨hI,hl,hc⟩:=hrow b hp;have hx:x=o*e:=h5.resolve_right λh=>hm h.1
   subst hx;have hpick:∀(i:Nat) (c:List IV),xs[i]?=some c->∃f:Nat->Value,∀(j:Nat) (x:IV),c[j]?=some x->w.cell? ⟨b,(o+i)*e+j,none⟩=some (f j)/\RI ν J w (f j) x:=
    λi c hi=>pick λj x hj=>hc i j c x hi hj
   obtain⟨F,hF⟩:=pickT hpick;refine .sl b (o*e) m cap e xs F hI hn.symm h4 hl (λi j c x h1 h2=>?_) λi j c x h1 h2=>(hF i c h1 j x h2).2
   have:=(hF i c h1 j x h2).1
   rwa [Nat.add_mul]at this
theorem ref_reads' {ν:Nat->Nat} {J:Nat->Prop} {w:World} {off j b:Nat} {c:List IV} (hJ:J b) (hc:∀(l:Nat) (x:IV),c[l]?=some x->∃u,w.cell? ⟨b,off+l,none⟩=some u/\RI ν J w u x) :
  RI ν J w (.pointer (some ⟨b,off+j,none⟩)) (.ptr (c.drop j)):=by
 obtain⟨F,hF⟩:=pick (cs:=c) hc;refine .ptr b (off+j) _ (λl=>F (j+l)) hJ (λl x h=>?_) λl x h=>?_
 ·rw[List.getElem?_drop]at h;have:=(hF _ x h).1
  rwa [<-Nat.add_assoc]at this
 ·rw[List.getElem?_drop]at h;exact(hF _ x h).2
theorem sub_get {α:Type} {es:List α} {o m i:Nat} {c:α} (h:((es.drop o).take m)[i]?=some c):i<m/\es[o+i]?=some c:=by
 rw[List.getElem?_take]at h;split at h
 ·rename_i hi;rw[List.getElem?_drop]at h;exact⟨hi,h⟩
 ·cases h
theorem SlAt.fits {w:World} {p:Option Nat} {e L o n:Nat} {v:Value} (h:SlAt w p e L o n v):o+n<=L:=by
 cases p with
 |none=>obtain⟨_,rfl,rfl,rfl⟩:=h;exact Nat.le_refl _
 |some b=>obtain⟨x,cap,_,h,_⟩:=h;exact h
theorem sl_reads {ν:Nat->Nat} {k:Cx} {g:Gh} (r:Rel ν k g) {id v' e o m:Nat} {es:List (List IV)} (hg:get g.h id=some (.imm v' e es)) {v:Value}
  (h:SlAt g.w (g.φ id) e es.length o m v):RI ν g.I g.w v (.sl e ((es.drop o).take m)):=by
 have hf:=h.fits;refine sl_reads' (by simp;omega) (λb hp=>?_) h;obtain⟨b',h1,hI,hrow⟩:=r.ob id _ hg;rw[hp]at h1;cases h1;refine⟨hI,λc hc=>hrow.1 c (List.mem_of_mem_drop (List.mem_of_mem_take hc)),λi j c x h1 h2=>hrow.2 _ j c x (sub_get h1).2 h2⟩
theorem ref_reads {ν:Nat->Nat} {k:Cx} {g:Gh} (r:Rel ν k g) {id v' e i j:Nat} {es:List (List IV)} {c:List IV} (hg:get g.h id=some (.imm v' e es)) (hc:es[i]?=some c) {v:Value}
  (h:∃b,g.φ id=some b/\v = .pointer (some ⟨b,i*e+j,none⟩)):RI ν g.I g.w v (.ptr (c.drop j)):=by
 obtain⟨b,hφ,rfl⟩:=h;obtain⟨b',h1,hI,hrow⟩:=r.ob id _ hg;rw[hφ]at h1;cases h1;exact ref_reads' hI λl x h=>hrow.2 i l c x hc h
theorem icl_reads {ν:Nat->Nat} {k:Cx} {g:Gh} (r:Rel ν k g) {id j:Nat} {xs:List IV} (hg:get g.h id=some (.icl xs)) {v:Value} (h:∃b,g.φ id=some b/\v = .pointer (some ⟨b,j,none⟩)) :
  RI ν g.I g.w v (.ptr (xs.drop j)):=by
 obtain⟨b,hφ,rfl⟩:=h;obtain⟨b',h1,hI,hrow⟩:=r.ob id _ hg;rw[hφ]at h1;cases h1;have:=ref_reads' (off:=0) (j:=j) hI (c:=xs) λl x h=>by have:=hrow l x h;rwa [Nat.zero_add]
 rwa [Nat.zero_add]at this
def FzT (ν:Nat->Nat) (f:AV->M IV):Prop:=
 ∀(k:Cx) (g:Gh) (a:AV) (x:IV) (h':Hp),(f a).run g.h=some (x,h')->Rel ν k g->∀v,RA ν g v a->∃I',Froze ν k g h' I'/\RI ν I' g.w v x
theorem FzT.list {ν:Nat->Nat} {f:AV->M IV} (hf:FzT ν f):∀(cs:List AV) (k:Cx) (g:Gh) (xs:List IV) (h':Hp),(M.mapL f cs).run g.h=some (xs,h')->Rel ν k g->
  ∀V:Nat->Value,(∀(j:Nat) (c:AV),cs[j]?=some c->RA ν g (V j) c)->∃I',Froze ν k g h' I'/\xs.length=cs.length/\∀(j:Nat) (x:IV),xs[j]?=some x->RI ν I' g.w (V j) x:=by
 intro cs
 induction cs with
 |nil=>
  intro k g xs h' e r V _;obtain⟨rfl,rfl⟩:=MmapL_nilZ e;exact⟨g.I,.refl r,rfl,λj x h=>by simp at h⟩
 |cons c cs ih=>
  intro k g xs h' e r V hV;obtain⟨y,h1,zs,e1,e2,rfl⟩:=MmapL_consZ e;obtain⟨I1,f1,r1⟩:=hf k g c y h1 e1 r (V 0) (hV 0 c rfl);obtain⟨I2,f2,hl,r2⟩:=ih k { g with I:=I1,h:=h1 } zs h' e2 f1.rel (λj=>V (j+1)) λj c' hc=>f1.mono _ _ (hV (j+1) c' (by simpa using hc))
  refine⟨I2,f1.trans f2,by simp[hl],λj x hx=>?_⟩;cases j with
  |zero=>simp at hx;subst hx;exact r1.mono f2.sub λ_ _ _ _ h=>h
  |succ j=>exact r2 j x (by simpa using hx)
theorem FzT.rows {ν:Nat->Nat} {f:AV->M IV} (hf:FzT ν f):∀(es:List (List AV)) (k:Cx) (g:Gh) (xs:List (List IV)) (h':Hp),(M.mapL (M.mapL f) es).run g.h=some (xs,h')->Rel ν k g->
  ∀V:Nat->Nat->Value,(∀(i j:Nat) (c:List AV) (x:AV),es[i]?=some c->c[j]?=some x->RA ν g (V i j) x)->
  ∃I',Froze ν k g h' I'/\xs.length=es.length/\(∀(i:Nat) (c:List AV) (c':List IV),es[i]?=some c->xs[i]?=some c'->c'.length=c.length)/\
   ∀(i j:Nat) (c:List IV) (x:IV),xs[i]?=some c->c[j]?=some x->RI ν I' g.w (V i j) x:=by
 intro es
 induction es with
 |nil=>
  intro k g xs h' e r V _;obtain⟨rfl,rfl⟩:=MmapL_nilZ e;exact⟨g.I,.refl r,rfl,λi c c' h=>by simp at h,λi j c x h=>by simp at h⟩
 |cons c es ih=>
  intro k g xs h' e r V hV;obtain⟨y,h1,zs,e1,e2,rfl⟩:=MmapL_consZ e;obtain⟨I1,f1,l1,r1⟩:=hf.list c k g y h1 e1 r (V 0) λj x h=>hV 0 j c x rfl h
  obtain⟨I2,f2,hl,hl2,r2⟩:=ih k { g with I:=I1,h:=h1 } zs h' e2 f1.rel (λi=>V (i+1)) λi j c' x h h'=>f1.mono _ _ (hV (i+1) j c' x (by simpa using h) h')
  refine⟨I2,f1.trans f2,by simp[hl],λi a b ha hb=>?_,λi j a x ha hx=>?_⟩
  ·cases i with
   |zero=>simp at ha hb;subst ha hb;exact l1
   |succ i=>exact hl2 i a b (by simpa using ha) (by simpa using hb)
  ·cases i with
   |zero=>simp at ha;subst ha;exact(r1 j x hx).mono f2.sub λ_ _ _ _ h=>h
   |succ i=>exact r2 i j a x (by simpa using ha) hx
theorem row_pick {ν:Nat->Nat} {g:Gh} {b e:Nat} {es:List (List AV)} (h:RowG ν g b e es):∃V:Nat->Nat->Value,∀(i j:Nat) (c:List AV) (x:AV),es[i]?=some c->c[j]?=some x->
  g.w.cell? ⟨b,i*e+j,none⟩=some (V i j)/\(V i j).oneCell'=true/\RA ν g (V i j) x:=by
 obtain⟨F,hF⟩:=pickT (cs:=es) (P:=λi (f:Nat->Value) c=>∀(j:Nat) (x:AV),c[j]?=some x->g.w.cell? ⟨b,i*e+j,none⟩=some (f j)/\(f j).oneCell'=true/\RA ν g (f j) x)
  λi c hc=>pick λj x hx=>h.2 i j c x hc hx
 exact⟨F,λi j c x h1 h2=>hF i c h1 j x h2⟩
theorem fzT_spec (ν:Nat->Nat):∀n,FzT ν (fz true n):=by
 intro n
 induction n with
 |zero=>intro k g a x h' e;exact(Mfail_someZ e).elim
 |succ n ih=>
  intro k g a x h' e r v ha;have row:∀{id v' e' b:Nat} {es:List (List AV)} {xs:List (List IV)} {h1:Hp},get g.h id=some (.buf v' e' es)->g.φ id=some b->(M.mapL (M.mapL (fz true n)) es).run g.h=some (xs,h1)->(∃v e es,get h1 id=some (.buf v e es))->
    ∃I',Froze ν k g (set h1 id (.imm v' e' xs)) I'/\xs.length=es.length:=by
   intro id v' e' b es xs h1 hg hφ e1 hb;obtain⟨b',h1',hnI,hsoft,hrow⟩:=r.ob id _ hg;rw[hφ]at h1';cases h1';obtain⟨V,hV⟩:=row_pick hrow;obtain⟨I1,f1,hl,hl2,hx⟩:=ih.rows es k g xs h1 e1 r V λi j c x h1 h2=>(hV i j c x h1 h2).2.2
   have hst:get h1 id=some (.buf v' e' es):=by
    obtain⟨a1,a2,a3,ha⟩:=hb;rcases f1.stay id _ ha with h | h | h
    ·rw[hg]at h;cases h;exact ha
    ·obtain⟨_,_,_,h⟩:=h;cases h
    ·obtain⟨_,h⟩:=h;cases h
   have hlen:∀(i:Nat) (c:List IV),xs[i]?=some c->∃c',es[i]?=some c'/\c.length=c'.length:=λi c h=>by
    have h':=lt_of_some h;exact⟨_,List.getElem?_eq_getElem (by omega),hl2 i _ c (List.getElem?_eq_getElem (by omega)) h⟩
   have hf:=froze_buf (xs:=xs) f1.rel hst hφ hl (λc hc=>by
     obtain⟨i,hi⟩:=List.getElem?_of_mem hc;obtain⟨c',h1,h2⟩:=hlen i c hi;rw[h2];exact hrow.1 c' (List.mem_of_getElem? h1)) λi j c x h1 h2=>by
    obtain⟨c',h3,h4⟩:=hlen i c h1;have hj:=lt_of_some h2;exact⟨V i j,(hV i j c' _ h3 (List.getElem?_eq_getElem (by omega))).1,hx i j c x h1 h2⟩
   exact⟨_,f1.trans hf,hl⟩
  cases ha with
  |undef=>exact(Mfail_someZ e).elim
  |agg=>exact(Mfail_someZ e).elim
  |tup=>exact(Mfail_someZ e).elim
  |nul=>exact(Mfail_someZ e).elim
  |iv hr=>
   cases hr with
   |nsl a e'=>obtain⟨rfl,rfl⟩:=Mret_someZ e;exact⟨g.I,.refl r,.sl0 _ _ _⟩
   |bool b=>obtain⟨rfl,rfl⟩:=Mret_someZ e;exact⟨g.I,.refl r,.bool _⟩
   |int k' n'=>obtain⟨rfl,rfl⟩:=Mret_someZ e;exact⟨g.I,.refl r,.int _ _⟩
   |str s=>obtain⟨rfl,rfl⟩:=Mret_someZ e;exact⟨g.I,.refl r,.str _⟩
   |sl0 a c e'=>obtain⟨rfl,rfl⟩:=Mret_someZ e;exact⟨g.I,.refl r,.sl0 _ _ _⟩
   |sl b off n' cap e' es f h1 h2 h3 h4 h5 h6=>obtain⟨rfl,rfl⟩:=Mret_someZ e;exact⟨g.I,.refl r,.sl b off n' cap e' es f h1 h2 h3 h4 h5 h6⟩
   |nilp=>obtain⟨rfl,rfl⟩:=Mret_someZ e;exact⟨g.I,.refl r,.nilp⟩
   |ptr b off cs f h1 h2 h3=>obtain⟨rfl,rfl⟩:=Mret_someZ e;exact⟨g.I,.refl r,.ptr b off cs f h1 h2 h3⟩
   |fn f caps cs h1 h2=>obtain⟨rfl,rfl⟩:=Mret_someZ e;exact⟨g.I,.refl r,.fn f caps cs h1 h2⟩
   |junk v h1=>obtain⟨rfl,rfl⟩:=Mret_someZ e;exact⟨g.I,.refl r,.junk _ h1⟩
  |@own _ id o m ver ho1 ho=>
   obtain⟨ob,hg,e2⟩:=M.look_bind e;cases ob with
   |cells cs=>exact(Mfail_someZ e2).elim
   |icl cs=>exact(Mfail_someZ e2).elim
   |map _=>exact(Mfail_someZ e2).elim
   |buf v' e' es=>
    obtain⟨hv,e4⟩:=M.ok_bind e2;simp only[if_true]at e4;obtain⟨xs,h3,e5,e6⟩:=Mbind_someZ e4;obtain⟨ob',hg',e8⟩:=M.look_bind e6;cases ob' with
    |cells cs=>exact(Mfail_someZ e8).elim
    |icl cs=>exact(Mfail_someZ e8).elim
    |map _=>exact(Mfail_someZ e8).elim
    |imm _ _ _=>exact(Mfail_someZ e8).elim
    |buf v2 e2' es2=>
     obtain⟨_,h5,e9,e10⟩:=Mbind_someZ e8;obtain rfl:=Mwrite_someZ e9;obtain⟨rfl,rfl⟩:=Mret_someZ e10;have hv':v'=ver:=by simpa using hv
     obtain⟨b,hφ, -⟩:=r.ob id _ hg;obtain⟨I',hf,hl⟩:=row hg hφ e5 ⟨_,_,_,hg'⟩;refine⟨I',hf,?_⟩;unfold OwnAt at ho;rw[hg]at ho;have hs:=ho.2 hv';rw[<-hl]at hs;exact sl_reads hf.rel (id:=id) (get_set_same _ _ _) hs
   |imm v' e' es=>
    obtain⟨hv,e4⟩:=M.ok_bind e2;obtain⟨rfl,rfl⟩:=Mret_someZ e4;have hv':v'=ver:=by simpa using hv
    unfold OwnAt at ho;rw[hg]at ho;exact⟨g.I,.refl r,sl_reads r hg (ho.2 hv')⟩
  |@ref _ id ver i j hr1 hr=>
   obtain⟨ob,hg,e2⟩:=M.look_bind e;unfold RefAt at hr;rw[hg]at hr;cases ob with
   |map _=>exact(Mfail_someZ e2).elim
   |icl xs=>
    obtain⟨rfl,rfl,hb⟩:=hr;obtain⟨-,e4⟩:=M.ok_bind e2;obtain⟨rfl,rfl⟩:=Mret_someZ e4;exact⟨g.I,.refl r,icl_reads r hg hb⟩
   |cells cs=>
    obtain⟨rfl,rfl,b,hφ,rfl⟩:=hr;obtain⟨-,e4⟩:=M.ok_bind e2;obtain⟨xs,h3,e5,e6⟩:=Mbind_someZ e4;simp only[if_true]at e6;obtain⟨ob',hg',e8⟩:=M.look_bind e6;obtain⟨b',hφ',hnI,_,hc⟩:=r.ob id _ hg;rw[hφ]at hφ';cases hφ';obtain⟨V,hV⟩:=pick hc;obtain⟨I1,f1,hl,hx⟩:=ih.list cs k g xs _ e5 r V λj c h=>(hV j c h).2.2
    cases ob' with
    |buf _ _ _=>exact(Mfail_someZ e8).elim
    |imm _ _ _=>exact(Mfail_someZ e8).elim
    |icl _=>exact(Mfail_someZ e8).elim
    |map _=>exact(Mfail_someZ e8).elim
    |cells cs'=>
     have hcs:get g.h id=some (.cells cs'):=by
      rcases f1.stay id _ hg' with h | h | h
      ·exact h
      ·obtain⟨_,_,_,h⟩:=h;cases h
      ·obtain⟨_,h⟩:=h;cases h
     rw[hg]at hcs;cases hcs;obtain⟨_,h5,e9,e10⟩:=Mbind_someZ e8;obtain rfl:=Mwrite_someZ e9;obtain⟨rfl,rfl⟩:=Mret_someZ e10;have hlen:∀(j:Nat) (x:IV),xs[j]?=some x->∃c,cs[j]?=some c:=λj x h=>by
      have:=lt_of_some h;exact⟨_,List.getElem?_eq_getElem (by omega)⟩
     have hf:=froze_cells (xs:=xs) f1.rel hg' hφ hl λj x h=>let⟨c,hc'⟩:=hlen j x h;⟨V j,(hV j c hc').1,hx j x h⟩
     exact⟨_,f1.trans hf,icl_reads hf.rel (id:=id) (get_set_same _ _ _) ⟨b,hφ,rfl⟩⟩
   |buf v' e' es=>
    obtain⟨hv,e4⟩:=M.ok_bind e2;simp only[if_true]at e4;obtain⟨xs,h3,e5,e6⟩:=Mbind_someZ e4;obtain⟨ob',hg',e8⟩:=M.look_bind e6;cases ob' with
    |cells cs=>exact(Mfail_someZ e8).elim
    |icl cs=>exact(Mfail_someZ e8).elim
    |map _=>exact(Mfail_someZ e8).elim
    |imm _ _ _=>exact(Mfail_someZ e8).elim
    |buf v2 e2' es2=>
     obtain⟨c,hc,e10⟩:=M.lift_bind e8;obtain⟨_,h6,e11,e12⟩:=Mbind_someZ e10;obtain rfl:=Mwrite_someZ e11;obtain⟨rfl,rfl⟩:=Mret_someZ e12;have hv':v'=ver:=by simpa using hv
     obtain⟨b,hφ, -⟩:=r.ob id _ hg;obtain⟨I',hf,hl⟩:=row hg hφ e5 ⟨_,_,_,hg'⟩;exact⟨I',hf,ref_reads hf.rel (id:=id) (v':=v') (es:=xs) (get_set_same _ _ _) hc (hr.2 hv')⟩
   |imm v' e' es=>
    obtain⟨hv,e4⟩:=M.ok_bind e2;obtain⟨c,hc,e6⟩:=M.lift_bind e4;obtain⟨rfl,rfl⟩:=Mret_someZ e6;have hv':v'=ver:=by simpa using hv
    exact⟨g.I,.refl r,ref_reads r hg hc (hr.2 hv')⟩
  |@clo f first caps fs cs hm hs hn hr=>
   cases fs with
   |cons=>exact(Mfail_someZ e).elim
   |nil=>
    have:first=#[]:=Array.eq_empty_of_size_eq_zero hm
    subst this;obtain⟨xs,h1,e1,e2⟩:=Mbind_someZ e;obtain⟨rfl,rfl⟩:=Mret_someZ e2;obtain⟨I1,f1,hl,hx⟩:=ih.list cs k g xs _ e1 r (λj=>caps.getD j (.bool true)) λj c h=>by
     have:=lt_of_some h;exact hr j _ c (by simp[Array.getD,show j<caps.size by omega]) h
    refine⟨I1,f1,.fn f caps xs (by omega) λj v x h1 h2=>?_⟩;have:=hx j x h2
    rwa [show caps.getD j (.bool true)=v from by
     obtain⟨hj,he⟩:=Array.getElem?_eq_some_iff.1 h1;simp[Array.getD,hj,he]]at this
def FzF (ν:Nat->Nat) (f:AV->M IV):Prop:=
 ∀(k:Cx) (g:Gh) (a:AV) (x:IV) (h':Hp),(f a).run g.h=some (x,h')->Rel ν k g->∀v,RA ν g v a->
  h'=g.h/\∀J:Nat->Prop,(∀b,g.I b->J b)->(∀id o b,get g.h id=some o->g.φ id=some b->J b)->RI ν J g.w v x
theorem FzF.list {ν:Nat->Nat} {f:AV->M IV} (hf:FzF ν f) (k:Cx) (g:Gh) (r:Rel ν k g):∀(cs:List AV) (xs:List IV) (h':Hp),(M.mapL f cs).run g.h=some (xs,h')->
  ∀V:Nat->Value,(∀(j:Nat) (c:AV),cs[j]?=some c->RA ν g (V j) c)->h'=g.h/\xs.length=cs.length/\
   ∀J:Nat->Prop,(∀b,g.I b->J b)->(∀id o b,get g.h id=some o->g.φ id=some b->J b)->∀(j:Nat) (x:IV),xs[j]?=some x->RI ν J g.w (V j) x:=by
 intro cs
 induction cs with
 |nil=>
  intro xs h' e V _;obtain⟨rfl,rfl⟩:=MmapL_nilZ e;exact⟨rfl,rfl,λ_ _ _ j x h=>by simp at h⟩
 |cons c cs ih=>
  intro xs h' e V hV;obtain⟨y,h1,zs,e1,e2,rfl⟩:=MmapL_consZ e;obtain⟨rfl,r1⟩:=hf k g c y h1 e1 r (V 0) (hV 0 c rfl);obtain⟨rfl,hl,r2⟩:=ih zs h' e2 (λj=>V (j+1)) λj c' hc=>hV (j+1) c' (by simpa using hc)
  refine⟨rfl,by simp[hl],λJ hJ hJ' j x hx=>?_⟩;cases j with
  |zero=>simp at hx;subst hx;exact r1 J hJ hJ'
  |succ j=>exact r2 J hJ hJ' j x (by simpa using hx)
theorem FzF.rows {ν:Nat->Nat} {f:AV->M IV} (hf:FzF ν f) (k:Cx) (g:Gh) (r:Rel ν k g):∀(es:List (List AV)) (xs:List (List IV)) (h':Hp),(M.mapL (M.mapL f) es).run g.h=some (xs,h')->
  ∀V:Nat->Nat->Value,(∀(i j:Nat) (c:List AV) (x:AV),es[i]?=some c->c[j]?=some x->RA ν g (V i j) x)->h'=g.h/\xs.length=es.length/\
   (∀(i:Nat) (c:List AV) (c':List IV),es[i]?=some c->xs[i]?=some c'->c'.length=c.length)/\
   ∀J:Nat->Prop,(∀b,g.I b->J b)->(∀id o b,get g.h id=some o->g.φ id=some b->J b)->∀(i j:Nat) (c:List IV) (x:IV),xs[i]?=some c->c[j]?=some x->RI ν J g.w (V i j) x:=by
 intro es
 induction es with
 |nil=>
  intro xs h' e V _;obtain⟨rfl,rfl⟩:=MmapL_nilZ e;exact⟨rfl,rfl,λi c c' h=>by simp at h,λ_ _ _ i j c x h=>by simp at h⟩
 |cons c es ih=>
  intro xs h' e V hV;obtain⟨y,h1,zs,e1,e2,rfl⟩:=MmapL_consZ e;obtain⟨rfl,l1,r1⟩:=hf.list k g r c y h1 e1 (V 0) λj x h=>hV 0 j c x rfl h
  obtain⟨rfl,hl,hl2,r2⟩:=ih zs h' e2 (λi=>V (i+1)) λi j c' x h h'=>hV (i+1) j c' x (by simpa using h) h'
  refine⟨rfl,by simp[hl],λi a b ha hb=>?_,λJ hJ hJ' i j a x ha hx=>?_⟩
  ·cases i with
   |zero=>simp at ha hb;subst ha hb;exact l1
   |succ i=>exact hl2 i a b (by simpa using ha) (by simpa using hb)
  ·cases i with
   |zero=>simp at ha;subst ha;exact r1 J hJ hJ' j x hx
   |succ i=>exact r2 J hJ hJ' i j a x (by simpa using ha) hx
theorem fzF_spec (ν:Nat->Nat):∀n,FzF ν (fz false n):=by
 intro n
 induction n with
 |zero=>intro k g a x h' e;exact(Mfail_someZ e).elim
 |succ n ih=>
  intro k g a x h' e r v ha;have up:∀{J:Nat->Prop},(∀b,g.I b->J b)->∀{v:Value} {x:IV},RI ν g.I g.w v x->RI ν J g.w v x:=λhJ _ _ h=>h.mono hJ λ_ _ _ _ h=>h
  cases ha with
  |undef=>exact(Mfail_someZ e).elim
  |agg=>exact(Mfail_someZ e).elim
  |tup=>exact(Mfail_someZ e).elim
  |nul=>exact(Mfail_someZ e).elim
  |iv hr=>
   have key:∀y:IV,(M.ret y).run g.h=some (x,h')->RI ν g.I g.w v y->h'=g.h/\∀J:Nat->Prop,(∀b,g.I b->J b)->(∀id o b,get g.h id=some o->g.φ id=some b->J b)->RI ν J g.w v x:=by
    intro y e hy;obtain⟨rfl,rfl⟩:=Mret_someZ e;exact⟨rfl,λJ hJ _=>up hJ hy⟩
   cases hr with
   |nsl a e'=>exact key _ e (.sl0 _ _ _)
   |bool b=>exact key _ e (.bool _)
   |int k' n'=>exact key _ e (.int _ _)
   |str s=>exact key _ e (.str _)
   |sl0 a c e'=>exact key _ e (.sl0 _ _ _)
   |sl b off n' cap e' es f h1 h2 h3 h4 h5 h6=>exact key _ e (.sl b off n' cap e' es f h1 h2 h3 h4 h5 h6)
   |nilp=>exact key _ e .nilp
   |ptr b off cs f h1 h2 h3=>exact key _ e (.ptr b off cs f h1 h2 h3)
   |fn f caps cs h1 h2=>exact key _ e (.fn f caps cs h1 h2)
   |junk v h1=>exact key _ e (.junk _ h1)
  |@own _ id o m ver ho1 ho=>
   obtain⟨ob,hg,e2⟩:=M.look_bind e;unfold OwnAt at ho;rw[hg]at ho;cases ob with
   |cells cs=>exact(Mfail_someZ e2).elim
   |icl cs=>exact(Mfail_someZ e2).elim
   |map _=>exact(Mfail_someZ e2).elim
   |buf v' e' es=>
    obtain⟨hv,e4⟩:=M.ok_bind e2;simp only[Bool.false_eq_true,if_false]at e4;obtain⟨xs,h3,e5,e6⟩:=Mbind_someZ e4;obtain⟨rfl,rfl⟩:=Mret_someZ e6;have hv':v'=ver:=by simpa using hv
    have hs:=ho.2 hv';have hfit:=hs.fits;obtain⟨b,hφ,hnI,hsoft,hrow⟩:=r.ob id _ hg;obtain⟨V,hV⟩:=row_pick hrow;obtain⟨rfl,hl,hl2,hx⟩:=ih.rows k g r _ xs _ e5 (λi j=>V (o+i) j) λi j c x h1 h2=>(hV _ j c x (sub_get h1).2 h2).2.2
    have hxl:xs.length=m:=by rw[hl];simp;omega
    have hat:∀(i:Nat) (c:List IV),xs[i]?=some c->∃c',es[o+i]?=some c'/\c.length=c'.length:=λi c h=>by
     have h':=lt_of_some h;have hlt:i<((es.drop o).take m).length:=by omega
     have h2:=List.getElem?_eq_getElem hlt;exact⟨_,(sub_get h2).2,hl2 i _ c h2 h⟩
    refine⟨rfl,λJ hJ hJ'=>sl_reads' hxl (λb' hp=>?_) hs⟩;rw[hφ]at hp;cases hp;refine⟨hJ' id _ b hg hφ,λc hc=>?_,λi j c x h1 h2=>?_⟩
    ·obtain⟨i,hi⟩:=List.getElem?_of_mem hc;obtain⟨c',h1,h2⟩:=hat i c hi;rw[h2];exact hrow.1 c' (List.mem_of_getElem? h1)
    ·obtain⟨c',h3,h4⟩:=hat i c h1;have hj:=lt_of_some h2;exact⟨_,(hV (o+i) j c' _ h3 (List.getElem?_eq_getElem (by omega))).1,hx J hJ hJ' i j c x h1 h2⟩
   |imm v' e' es=>
    obtain⟨hv,e4⟩:=M.ok_bind e2;obtain⟨rfl,rfl⟩:=Mret_someZ e4;have hv':v'=ver:=by simpa using hv
    exact⟨rfl,λJ hJ _=>up hJ (sl_reads r hg (ho.2 hv'))⟩
  |@ref _ id ver i j hr1 hr=>
   obtain⟨ob,hg,e2⟩:=M.look_bind e;unfold RefAt at hr;rw[hg]at hr;cases ob with
   |map _=>exact(Mfail_someZ e2).elim
   |icl xs=>
    obtain⟨rfl,rfl,hb⟩:=hr;obtain⟨-,e4⟩:=M.ok_bind e2;obtain⟨rfl,rfl⟩:=Mret_someZ e4;exact⟨rfl,λJ hJ _=>up hJ (icl_reads r hg hb)⟩
   |cells cs=>
    obtain⟨rfl,rfl,b,hφ,rfl⟩:=hr;obtain⟨-,e4⟩:=M.ok_bind e2;obtain⟨xs,h3,e5,e6⟩:=Mbind_someZ e4;simp only[Bool.false_eq_true,if_false]at e6;obtain⟨rfl,rfl⟩:=Mret_someZ e6;obtain⟨b',hφ',hnI,_,hc⟩:=r.ob id _ hg;rw[hφ]at hφ';cases hφ';obtain⟨V,hV⟩:=pick hc;obtain⟨rfl,hl,hx⟩:=ih.list k g r cs xs _ e5 V λj c h=>(hV j c h).2.2
    refine⟨rfl,λJ hJ hJ'=>?_⟩;have:=ref_reads' (off:=0) (j:=j) (hJ' id _ b hg hφ) (c:=xs) λl x h=>by
     have:=lt_of_some h;exact⟨V l,by rw[Nat.zero_add];exact(hV l _ (List.getElem?_eq_getElem (by omega))).1,hx J hJ hJ' l x h⟩
    rwa [Nat.zero_add]at this
   |buf v' e' es=>
    obtain⟨hv,e4⟩:=M.ok_bind e2;simp only[Bool.false_eq_true,if_false]at e4;obtain⟨c,hc,e6⟩:=M.lift_bind e4;obtain⟨xs,h4,e7,e8⟩:=Mbind_someZ e6;obtain⟨rfl,rfl⟩:=Mret_someZ e8;have hv':v'=ver:=by simpa using hv
    obtain⟨b,hφ,rfl⟩:=hr.2 hv';obtain⟨b',hφ',hnI,_,hrow⟩:=r.ob id _ hg;rw[hφ]at hφ';cases hφ';obtain⟨V,hV⟩:=row_pick hrow;obtain⟨rfl,hl,hx⟩:=ih.list k g r c xs _ e7 (V i) λj x h=>(hV i j c x hc h).2.2
    refine⟨rfl,λJ hJ hJ'=>ref_reads' (hJ' id _ b hg hφ) λl x h=>?_⟩;have:=lt_of_some h;exact⟨V i l,(hV i l c _ hc (List.getElem?_eq_getElem (by omega))).1,hx J hJ hJ' l x h⟩
   |imm v' e' es=>
    obtain⟨hv,e4⟩:=M.ok_bind e2;obtain⟨c,hc,e6⟩:=M.lift_bind e4;obtain⟨rfl,rfl⟩:=Mret_someZ e6;have hv':v'=ver:=by simpa using hv
    exact⟨rfl,λJ hJ _=>up hJ (ref_reads r hg hc (hr.2 hv'))⟩
  |@clo f first caps fs cs hm hs hn hr=>
   cases fs with
   |cons=>exact(Mfail_someZ e).elim
   |nil=>
    have:first=#[]:=Array.eq_empty_of_size_eq_zero hm
    subst this;obtain⟨xs,h1,e1,e2⟩:=Mbind_someZ e;obtain⟨rfl,rfl⟩:=Mret_someZ e2;obtain⟨rfl,hl,hx⟩:=ih.list k g r cs xs _ e1 (λj=>caps.getD j (.bool true)) λj c h=>by
     have:=lt_of_some h;exact hr j _ c (by simp[Array.getD,show j<caps.size by omega]) h
    refine⟨rfl,λJ hJ hJ'=>.fn f caps xs (by omega) λj v x h1 h2=>?_⟩;have:=hx J hJ hJ' j x h2
    rwa [show caps.getD j (.bool true)=v from by
     obtain⟨hj,he⟩:=Array.getElem?_eq_some_iff.1 h1;simp[Array.getD,hj,he]]at this
def Done (ν:Nat->Nat) (k:Cx) (g:Gh) (h':Hp) (r:AV) (res:Result Value):Prop:=
 ∃g' v,res = .ok v g'.w/\g'.h=h'/\Rel ν k g'/\Mono ν g g'/\RA ν g' v r
theorem Done.same {ν:Nat->Nat} {k:Cx} {g:Gh} (r:Rel ν k g) {v:Value} {x:AV} {res:Result Value} (hr:res = .ok v g.w) (h:RA ν g v x):Done ν k g g.h x res:=
 ⟨g,v,hr,rfl,r,.refl ν g,h⟩
theorem mk_some {agg:Bool} {l:List AV} {h h':Hp} {r:AV} (e:(mk agg l).run h=some (r,h')):h'=h/\(agg=true/\r = .agg l\/agg=false/\l=[r]):=by
 unfold mk at e;cases agg with
 |true=>simp only[if_true]at e;obtain⟨rfl,rfl⟩:=Mret_someZ e;exact⟨rfl,.inl ⟨rfl,rfl⟩⟩
 |false=>
  simp only[Bool.false_eq_true,if_false]at e
  match l with
  |[]=>exact(Mfail_someZ e).elim
  |[x]=>obtain⟨rfl,rfl⟩:=Mret_someZ e;exact⟨rfl,.inr ⟨rfl,rfl⟩⟩
  |_::_::_=>exact(Mfail_someZ e).elim
theorem loadVar_ok {ν:Nat->Nat} {P:Program} {g:Gh} {t:TypeId} {sz:Nat} {agg:Bool} (ht:tyB P t sz agg=true) {b off:Nat} {l:List AV} (hl:l.length=sz)
  (hc:∀(i:Nat) (x:AV),l[i]?=some x->∃v,g.w.cell? ⟨b,off+i,none⟩=some v/\v.oneCell'=true/\RA ν g v x) {r:AV} (hr:agg=true/\r = .agg l\/agg=false/\l=[r]) :
  ∃v,(loadVar t ⟨b,off,none⟩).run P g.w = .ok v g.w/\RA ν g v r:=by
 obtain⟨d,i,hu,hi,ha,hs,h1⟩:=tyB_spec ht;obtain⟨V,hV⟩:=pick hc;rcases hr with⟨hagg,rfl⟩|⟨hagg,rfl⟩
 ·have hcells:(loadCells ⟨b,off,none⟩ i.size).run P g.w = .ok ((List.range i.size).map V).toArray g.w:=run_loadCells g.w _ _ V λj hj=>by
   have:=(hV j (l[j]'(by omega)) (List.getElem?_eq_getElem (by omega))).1
   rwa [Addr.add_lit]
  refine⟨.agg ((List.range i.size).map V).toArray,?_,.agg (by simp;omega) (λj v h=>?_) λj v c h1 h2=>?_⟩
  ·simp[loadVar,run_isAgg hu,ha,hagg,run_sizeOf hi,hcells]
  ·obtain⟨hj,rfl⟩:j<i.size/\V j=v:=by
    have hj:j<i.size:=by
     rcases Nat.lt_or_ge j i.size with h' | h'
     ·exact h'
     ·simp[List.getElem?_eq_none (show(List.range i.size).length<=j by simpa using h')]at h
    exact⟨hj,by simpa[hj]using h⟩
   exact(hV j (l[j]'(by omega)) (List.getElem?_eq_getElem (by omega))).2.1
  ·have hj:j<l.length:=by
    rcases Nat.lt_or_ge j l.length with h' | h'
    ·exact h'
    ·rw[List.getElem?_eq_none h']at h2;cases h2
   obtain rfl:V j=v:=by simpa[show j<i.size by omega]using h1
   exact(hV j c h2).2.2
 ·have h0:=hV 0 r rfl;refine⟨V 0,?_,h0.2.2⟩;have:=h0.1;simp only[Nat.add_zero]at this;simp[loadVar,run_isAgg hu,ha,hagg,this]
theorem obRead_ok {ν:Nat->Nat} {k:Cx} {g:Gh} (r:Rel ν k g) {id ver i j sz:Nat} {ob:Ob} {l:List AV} (hg:get g.h id=some ob) (hl:obRead ob ver i j sz=some l) {v:Value}
  (h:RefAt g v id ver i j):∃b off,v = .pointer (some ⟨b,off,none⟩)/\∀(m:Nat) (x:AV),l[m]?=some x->∃v,g.w.cell? ⟨b,off+m,none⟩=some v/\v.oneCell'=true/\RA ν g v x:=by
 unfold RefAt at h;rw[hg]at h;have old:=r.ob id _ hg;have sub:∀{α:Type} {cs:List α} {m:Nat} {x:α},((cs.drop j).take sz)[m]?=some x->cs[j+m]?=some x:=λh=>(sub_get h).2
 cases ob with
 |cells cs=>
  obtain⟨rfl,rfl,b,hφ,rfl⟩:=h;obtain⟨b',hφ',_,_,hc⟩:=old;rw[hφ]at hφ';cases hφ';simp only[obRead,true_and,if_true,Option.some.injEq]at hl;subst hl;exact⟨b,j,rfl,λm x hx=>hc _ _ (sub hx)⟩
 |icl cs=>
  obtain⟨rfl,rfl,b,hφ,rfl⟩:=h;obtain⟨b',hφ',_,hc⟩:=old;rw[hφ]at hφ';cases hφ';simp only[obRead,true_and,if_true,Option.some.injEq]at hl;subst hl;refine⟨b,j,rfl,λm x hx=>?_⟩;simp only[List.getElem?_map,Option.map_eq_some_iff]at hx;obtain⟨y,hy,rfl⟩:=hx;obtain⟨v,h1,h2⟩:=hc _ _ (sub hy);exact⟨v,h1,h2.one,.iv h2⟩
 |buf v' e es=>
  simp only[obRead]at hl;split at hl
  ·rename_i hv;obtain⟨b,hφ,rfl⟩:=h.2 hv;simp only[Option.map_eq_some_iff]at hl;obtain⟨c,hc,rfl⟩:=hl;obtain⟨b',h1,_,_,hrow⟩:=old;rw[hφ]at h1;cases h1;refine⟨b,_,rfl,λm x hx=>?_⟩;obtain⟨v,h1,h2⟩:=hrow.2 i (j+m) c x hc (sub hx);exact⟨v,by rw[Nat.add_assoc];exact h1,h2⟩
  ·cases hl
 |imm v' e es=>
  simp only[obRead]at hl;split at hl
  ·rename_i hv;obtain⟨b,hφ,rfl⟩:=h.2 hv;simp only[Option.map_eq_some_iff]at hl;obtain⟨c,hc,rfl⟩:=hl;obtain⟨b',h1,_,hrow⟩:=old;rw[hφ]at h1;cases h1;refine⟨b,_,rfl,λm x hx=>?_⟩;simp only[List.getElem?_map,Option.map_eq_some_iff]at hx;obtain⟨y,hy,rfl⟩:=hx;obtain⟨v,h1,h2⟩:=hrow.2 i (j+m) c y hc (sub hy);exact⟨v,by rw[Nat.add_assoc];exact h1,h2.one,.iv h2⟩
  ·cases hl
 |map _=>simp[obRead]at hl
theorem load_at {ν:Nat->Nat} {P:Program} {k:Cx} {g:Gh} (r:Rel ν k g) {t:TypeId} {sz:Nat} {agg:Bool} (ht:tyB P t sz agg=true) {v:Value} {x y:AV} {h':Hp} (hv:RA ν g v x)
  (e:(load agg sz x).run g.h=some (y,h')):h'=g.h/\∃u,(Instr.loadAt t v).run P g.w = .ok u g.w/\RA ν g u y:=by
 cases hv with
 |undef=>exact(Mfail_someZ e).elim
 |nul=>exact(Mfail_someZ e).elim
 |agg=>exact(Mfail_someZ e).elim
 |tup=>exact(Mfail_someZ e).elim
 |own=>exact(Mfail_someZ e).elim
 |clo=>exact(Mfail_someZ e).elim
 |iv hr=>
  cases hr with
  |ptr b off cs f hI hc hr=>
   obtain⟨hl,e2⟩:=M.ok_bind e;obtain⟨rfl,hm⟩:=mk_some e2;have hl':((cs.take sz).map AV.iv).length=sz:=by simpa using hl
   obtain⟨u,hu,hR⟩:=loadVar_ok (ν:=ν) (g:=g) ht (b:=b) (off:=off) hl' (λi x hx=>by
    simp only[List.getElem?_map,Option.map_eq_some_iff,List.getElem?_take]at hx;obtain⟨y,hy,rfl⟩:=hx;split at hy
    ·exact⟨f i,hc i y hy,(hr i y hy).one,.iv (hr i y hy)⟩
    ·cases hy) hm
   exact⟨rfl,u,by simp[Instr.loadAt,Instr.sureAddr,hu],hR⟩
  |_=>exact(Mfail_someZ e).elim
 |ref hr1 hr=>
  obtain⟨ob,hg,e2⟩:=M.look_bind e;obtain⟨l,hl,e4⟩:=M.lift_bind e2;obtain⟨hl',e6⟩:=M.ok_bind e4;obtain⟨rfl,hm⟩:=mk_some e6;obtain⟨b,off,rfl,hc⟩:=obRead_ok r hg hl hr;obtain⟨u,hu,hR⟩:=loadVar_ok (ν:=ν) (g:=g) ht (b:=b) (off:=off) (by simpa using hl') hc hm;exact⟨rfl,u,by simp[Instr.loadAt,Instr.sureAddr,hu],hR⟩
theorem load_ok {ν:Nat->Nat} {P:Program} {k:Cx} {g:Gh} (r:Rel ν k g) {t:TypeId} {sz:Nat} {agg:Bool} (ht:tyB P t sz agg=true) {v:Value} {x y:AV} {h':Hp} (hv:RA ν g v x)
  (e:(load agg sz x).run g.h=some (y,h')):Done ν k g h' y ((Instr.loadAt t v).run P g.w):=by
 obtain⟨rfl,u,hu,hR⟩:=load_at r ht hv e;exact .same r hu hR
theorem RefAt.move {g:Gh} {v:Value} {id ver i j:Nat} {ob:Ob} (hg:get g.h id=some ob) (hv:valid ob ver i=true) (h:RefAt g v id ver i j) (n:Nat) :
  ∃b off,v = .pointer (some ⟨b,off,none⟩)/\RefAt g (.pointer (some ⟨b,off+n,none⟩)) id ver i (j+n):=by
 unfold RefAt at h ⊢;rw[hg]at h ⊢;cases ob with
 |cells cs=>
  obtain⟨rfl,rfl,b,hφ,rfl⟩:=h;exact⟨b,j,rfl,rfl,rfl,b,hφ,rfl⟩
 |icl cs=>
  obtain⟨rfl,rfl,b,hφ,rfl⟩:=h;exact⟨b,j,rfl,rfl,rfl,b,hφ,rfl⟩
 |buf v' e es=>
  obtain⟨b,hφ,rfl⟩:=h.2 (by simpa[valid]using hv);exact⟨b,_,rfl,h.1,λ_=>⟨b,hφ,by rw[Nat.add_assoc]⟩⟩
 |imm v' e es=>
  obtain⟨b,hφ,rfl⟩:=h.2 (by simpa[valid]using hv);exact⟨b,_,rfl,h.1,λ_=>⟨b,hφ,by rw[Nat.add_assoc]⟩⟩
 |map _=>simp[valid]at hv
theorem fadr_ok {ν:Nat->Nat} {P:Program} {k:Cx} {g:Gh} (r:Rel ν k g) {s:TypeId} {f off:Nat} (ht:fadrB P s f off=true) {v:Value} {x y:AV} {h':Hp} (hv:RA ν g v x)
  (e:(fadr off x).run g.h=some (y,h')):Done ν k g h' y ((Instr.fieldAt s v f).run P g.w):=by
 unfold fadrB at ht;split at ht
 ·rename_i fs hu;split at ht
  ·rename_i fd hf;simp only[Bool.and_eq_true,beq_iff_eq]at ht;obtain⟨rfl,hsz⟩:=ht;split at hsz
   ·rename_i i hi;have hne:¬i.size=0:=by simpa using hsz
    have key:∀(b o:Nat),(Instr.fieldAt s (.pointer (some ⟨b,o,none⟩)) f).run P g.w = .ok (.pointer (some ⟨b,o+fd.offset,none⟩)) g.w:=by
     intro b o;simp[Instr.fieldAt,run_underlying hu,hf,Instr.sureAddr,fieldPlace,run_sizeOf hi,hne,Addr.add_lit]
    cases hv with
    |undef=>exact(Mfail_someZ e).elim
    |nul=>exact(Mfail_someZ e).elim
    |agg=>exact(Mfail_someZ e).elim
    |tup=>exact(Mfail_someZ e).elim
    |own=>exact(Mfail_someZ e).elim
    |clo=>exact(Mfail_someZ e).elim
    |iv hr=>
     cases hr with
     |ptr b o cs f' hI hc hr=>
      obtain⟨-,e2⟩:=M.ok_bind e;obtain⟨rfl,rfl⟩:=Mret_someZ e2;exact .same r (key _ _) (.iv (RI.drop (.ptr b o cs f' hI hc hr)))
     |_=>exact(Mfail_someZ e).elim
    |ref hr1 hr=>
     obtain⟨ob,hg,e2⟩:=M.look_bind e;obtain⟨hva,e4⟩:=M.ok_bind e2;obtain⟨rfl,rfl⟩:=Mret_someZ e4;obtain⟨b,o,rfl,hR⟩:=hr.move hg hva fd.offset;exact .same r (key _ _) (.ref rfl hR)
   ·cases hsz
  ·cases ht
 ·cases ht
theorem idx_some {x:AV} {n:Int} {h h':Hp} (e:(idx x).run h=some (n,h')):h'=h/\∃k,x = .iv (.int k n):=by
 unfold idx at e;split at e
 ·obtain⟨rfl,rfl⟩:=Mret_someZ e;exact⟨rfl,_,rfl⟩
 ·exact(Mfail_someZ e).elim
theorem isl_ok {ν:Nat->Nat} {P:Program} {k:Cx} {g:Gh} (r:Rel ν k g) {t:TypeId} {e:Nat} (ht:sliceB P t e=true) {v u:Value} {x z y:AV} {h':Hp} (hv:RA ν g v x) (hu:RA ν g u z)
  (e':(isl e x z).run g.h=some (y,h')):Done ν k g h' y ((Instr.indexAt t v u).run P g.w):=by
 obtain⟨el,i,hu',hi,rfl⟩:=sliceB_spec ht;obtain⟨n,h1,e1,e2⟩:=Mbind_someZ e';obtain⟨rfl,kk,rfl⟩:=idx_some e1;cases hu with
 |iv hz=>
  cases hz;obtain⟨hn,e4⟩:=M.ok_bind e2;have hn':0<=n:=by simpa using hn
  have key:∀(b o len cap:Nat),n<(len:Int)->(Instr.indexAt t (.slice (some ⟨b,o,none⟩) len cap) (.int kk n)).run P g.w = .ok (.pointer (some ⟨b,o+n.toNat*i.size,none⟩)) g.w:=by
   intro b o len cap hlt;simp[Instr.indexAt,run_underlying hu',asIntOf,hn',hlt,run_sizeOf hi,Addr.add_lit]
  cases hv with
  |undef=>exact(Mfail_someZ e4).elim
  |nul=>exact(Mfail_someZ e4).elim
  |agg=>exact(Mfail_someZ e4).elim
  |tup=>exact(Mfail_someZ e4).elim
  |ref=>exact(Mfail_someZ e4).elim
  |clo=>exact(Mfail_someZ e4).elim
  |iv hr=>
   cases hr with
   |sl0 a cap e''=>
    obtain⟨-,e2⟩:=M.ok_bind e4;obtain⟨c,hc,e6⟩:=M.lift_bind e2;simp at hc
   |sl b off m cap e'' es f hI hm hcap hl hc hr=>
    obtain⟨he,e2⟩:=M.ok_bind e4;obtain⟨c,hc',e6⟩:=M.lift_bind e2;obtain⟨rfl,rfl⟩:=Mret_someZ e6;have he':e''=i.size:=by simpa using he
    subst he';have hlt:n.toNat<es.length:=by
     rcases Nat.lt_or_ge n.toNat es.length with h | h
     ·exact h
     ·rw[List.getElem?_eq_none h]at hc';cases hc'
    refine .same r (key b off m cap (by omega)) (.iv (.ptr b _ c (λj=>f n.toNat j) hI (λj x hx=>?_) λj x hx=>hr _ _ _ _ hc' hx));exact hc _ _ _ _ hc' hx
   |_=>exact(Mfail_someZ e4).elim
  |@own _ id o m ver ho1 ho=>
   obtain⟨hm,e2⟩:=M.ok_bind e4;obtain⟨ob,hg,e5⟩:=M.look_bind e2;have hm':n<(m:Int):=by simpa using hm
   unfold OwnAt at ho;rw[hg]at ho;have fin:∀{v' e'' L:Nat} {ob:Ob},get g.h id=some ob->(∃es,ob = .buf v' e'' es\/∃xs,ob = .imm v' e'' xs)->v'=ver->e''=i.size->SlAt g.w (g.φ id) e'' L o m v->
     Done ν k g g.h (.ref id ver (o+n.toNat) 0) ((Instr.indexAt t v (.int kk n)).run P g.w):=by
    intro v' e'' L ob hg' hob hv he hs;cases hφ:g.φ id with
    |none=>rw[hφ]at hs;obtain⟨_,rfl,_⟩:=hs;omega
    |some b=>
     rw[hφ]at hs;obtain⟨x,cap,rfl,h2,_,h3,h4,_⟩:=hs;have hx:x=o*e'':=h4.resolve_right λh=>by have:=h.1;omega
     subst hx he;refine .same r (key b _ m cap hm') (.ref rfl ?_);unfold RefAt;rw[hg'];obtain⟨es,rfl | ⟨xs,rfl⟩⟩:=hob<;>exact⟨Nat.le_of_eq hv.symm,λ_=>⟨b,hφ,by rw[Nat.add_mul];rfl⟩⟩
   have fin1:∀{L:Nat} {ob:Ob},get g.h id=some ob->(∃cs,ob = .cells cs\/∃xs,ob = .icl xs)->1=i.size->SlAt g.w (g.φ id) 1 L o m v->
     Done ν k g g.h (.ref id 0 0 (o+n.toNat)) ((Instr.indexAt t v (.int kk n)).run P g.w):=by
    intro L ob hg' hob he hs;cases hφ:g.φ id with
    |none=>rw[hφ]at hs;obtain⟨_,rfl,_⟩:=hs;omega
    |some b=>
     rw[hφ]at hs;obtain⟨x,cap,rfl,h2,_,h3,h4,_⟩:=hs;have hx:x=o*1:=h4.resolve_right λh=>by have:=h.1;omega
     subst hx;refine .same r (key b _ m cap hm') (.ref rfl ?_);unfold RefAt;rw[hg'];rw[<-he];obtain⟨es,rfl | ⟨xs,rfl⟩⟩:=hob<;>exact⟨rfl,rfl,b,hφ,by simp⟩
   cases ob with
   |cells cs=>
    obtain⟨hve,e7⟩:=M.ok_bind e5;obtain⟨rfl,rfl⟩:=Mret_someZ e7;simp only[Bool.and_eq_true,beq_iff_eq]at hve;exact fin1 hg ⟨cs,.inl rfl⟩ hve.2.symm ho.2
   |icl cs=>
    obtain⟨hve,e7⟩:=M.ok_bind e5;obtain⟨rfl,rfl⟩:=Mret_someZ e7;simp only[Bool.and_eq_true,beq_iff_eq]at hve;exact fin1 hg ⟨[],.inr ⟨cs,rfl⟩⟩ hve.2.symm ho.2
   |buf v' e'' es=>
    obtain⟨hve,e7⟩:=M.ok_bind e5;obtain⟨rfl,rfl⟩:=Mret_someZ e7;simp only[Bool.and_eq_true,beq_iff_eq]at hve;exact fin hg ⟨es,.inl rfl⟩ hve.1 hve.2 (ho.2 hve.1)
   |imm v' e'' es=>
    obtain⟨hve,e7⟩:=M.ok_bind e5;obtain⟨rfl,rfl⟩:=Mret_someZ e7;simp only[Bool.and_eq_true,beq_iff_eq]at hve;exact fin hg ⟨[],.inr ⟨es,rfl⟩⟩ hve.1 hve.2 (ho.2 hve.1)
   |map _=>exact ho.elim
section
variable {ν:Nat->Nat} {P:Program} {k:Cx} {g:Gh}
theorem RA.int {v:Value} {kk:IntKind} {n:Int} (h:RA ν g v (.iv (.int kk n))):v = .int kk n:=by cases h with | iv h=>cases h;rfl
theorem RA.bool {v:Value} {b:Bool} (h:RA ν g v (.iv (.bool b))):v = .bool b:=by cases h with | iv h=>cases h;rfl
theorem RA.str {v:Value} {s:ByteArray} (h:RA ν g v (.iv (.str s))):v = .string s:=by cases h with | iv h=>cases h;rfl
theorem RA.nilp {v:Value} (h:RA ν g v (.iv .nilp)):v = .pointer none:=by cases h with | iv h=>cases h;rfl
theorem RA.ptr {v:Value} {cs:List IV} (h:RA ν g v (.iv (.ptr cs))):∃b off,v = .pointer (some ⟨b,off,none⟩):=by cases h with | iv h=>cases h;exact⟨_,_,rfl⟩
theorem mkInt {kk:IntKind} {n:Int}:RA ν g (.int kk n) (.iv (.int kk n)):=.iv (.int _ _)
theorem mkBool {b:Bool}:RA ν g (.bool b) (.iv (.bool b)):=.iv (.bool _)
theorem part_ok {t:TypeId} {sz off:Nat} {agg:Bool} (ht:tyB P t sz agg=true) {vs:Array Value} {cs:List AV} (hv:RA ν g (.agg vs) (.agg cs)) (hl:((cs.drop off).take sz).length=sz)
  {r:AV} (hr:agg=true/\r = .agg ((cs.drop off).take sz)\/agg=false/\(cs.drop off).take sz=[r]) (w:World):∃v,(part t vs off).run P w = .ok v w/\RA ν g v r:=by
 obtain⟨d,i,hu,hi,ha,hs,h1⟩:=tyB_spec ht;subst hs;cases hv with
 |agg hn ho hrr=>
  have hfit:off+i.size<=cs.length\/i.size=0:=by simp only[List.length_take,List.length_drop]at hl;omega
  rcases hr with⟨hagg,rfl⟩|⟨hagg,hr⟩
  ·have key:∀(j:Nat) (v:Value),(vs.extract off (off+i.size))[j]?=some v->vs[off+j]?=some v/\j<i.size:=by
    intro j v h;rw[Array.getElem?_extract]at h;split at h
    ·exact⟨h,by omega⟩
    ·cases h
   refine⟨.agg (vs.extract off (off+i.size)),by simp[part,run_isAgg hu,ha,hagg,run_sizeOf hi],.agg (by simp only[Array.size_extract,hl];omega) (λj v h=>ho _ v (key j v h).1) λj v c h h2=>?_⟩;obtain⟨h',hlt⟩:=key j v h;rw[List.getElem?_take,if_pos hlt,List.getElem?_drop]at h2;exact hrr _ v c h' h2
  ·have hz:i.size=1:=h1 hagg;have hc:cs[off]?=some r:=by
    have:((cs.drop off).take i.size)[0]?=some r:=by rw[hr];rfl
    rw[List.getElem?_take,if_pos (by omega),List.getElem?_drop]at this;simpa using this
   have hlt:off<vs.size:=by omega
   refine⟨vs[off],by simp[part,run_isAgg hu,ha,hagg,Array.getElem?_eq_getElem hlt],hrr off _ r (Array.getElem?_eq_getElem hlt) hc⟩
theorem RA.aggv {v:Value} {cs:List AV} (h:RA ν g v (.agg cs)):∃vs,v = .agg vs:=by cases h;exact⟨_,rfl⟩
theorem intBin_ok {op:BinOp} {t:TypeId} {kk k':IntKind} {a b:Int} {z:IV} (h:intBin op kk k' a b=some z) (w:World) :
  ∃v,(binOp op t (.int kk a) (.int k' b)).run P w = .ok v w/\RI ν g.I g.w v z:=by
 cases op
 case shl=>
  simp only[intBin]at h;split at h
  ·cases h
  ·rename_i hb;cases h;exact⟨_,by simp[binOp,Op.shift,hb],.int _ _⟩
 case shr=>
  simp only[intBin]at h;split at h
  ·cases h
  ·rename_i hb;cases h;exact⟨_,by simp[binOp,Op.shift,hb],.int _ _⟩
 all_goals
  simp only[intBin]at h;split at h
  case isFalse=>cases h
  rename_i hk;subst hk
 case quo=>
  split at h
  ·cases h
  ·rename_i hb;cases h;exact⟨_,by simp[binOp,Op.intDiv,hb],.int _ _⟩
 case rem=>
  split at h
  ·cases h
  ·rename_i hb;cases h;exact⟨_,by simp[binOp,Op.intDiv,hb],.int _ _⟩
 all_goals cases h
 case add | sub | mul=>exact⟨_,by simp[binOp,Op.intArith],.int _ _⟩
 case and | or | xor | andNot=>exact⟨_,by simp[binOp];rfl,.int _ _⟩
 all_goals exact⟨_,by simp[binOp,Op.intCmp],.bool _⟩
theorem strBin_ok {op:BinOp} {t:TypeId} {a b:ByteArray} {z:IV} (h:strBin op a b=some z) (w:World) :
  ∃v,(binOp op t (.string a) (.string b)).run P w = .ok v w/\RI ν g.I g.w v z:=by
 cases op<;>simp only[strBin]at h<;>(try cases h)
 case add=>
  split at h
  ·rename_i hb;cases h;refine⟨.string (a++b),?_,.str _⟩;have:¬(9223372036854775807:Int)<((a.size:Int)+b.size):=by omega
   simp[binOp,Op.stringOp,this]
  ·cases h
 all_goals exact⟨_,by simp[binOp,Op.stringOp,sless,beq_toListBytes],.bool _⟩
theorem RA.clov {v:Value} {f:Nat} {fs cs:List AV} (h:RA ν g v (.clo f fs cs)):∃f c1 c2,v = .func f c1 c2:=by cases h;exact⟨_,_,_,rfl⟩
theorem RA.fnv {v:Value} {f:Nat} {cs:List IV} (h:RA ν g v (.iv (.fn f cs))):∃f c1 c2,v = .func f c1 c2:=by cases h with | iv h=>cases h;exact⟨_,_,_,rfl⟩
def qOf2 (P:Program) (t:TypeId) (q:Nat):Bool:=
 match q with
 |0=>true
 |1=>(match P.underlying t with | some .bool=>true | _=>false)
 |2=>(match P.underlying t with | some (.pointer el)=>(P.info? el).isSome | _=>false)
 |3=>(match P.underlying t with | some (.func _ _ _)=>true | _=>false)
 |_=>true
theorem bin_ok (r:Rel ν k g) {op:BinOp} {t:TypeId} {q:Nat} (ht:qOf2 P t q=true) {a b:Operand} {v u:Value} {x z:AV} {y:IV} (hv:RA ν g v x) (hu:RA ν g u z) (e:bin op q x z=some y) :
  Done ν k g g.h (.iv y) ((do eqGuard op t a b v u;binOp op t v u:Sem Value).run P g.w):=by
 unfold bin at e;split at e
 ·obtain rfl:=hv.int;obtain rfl:=hu.int;obtain⟨w',h1,h2⟩:=intBin_ok (ν:=ν) (P:=P) (g:=g) (t:=t) e g.w;exact .same r (by simp[eqGuard_at_int,h1]) (.iv h2)
 ·obtain rfl:=hv.str;obtain rfl:=hu.str;obtain⟨w',h1,h2⟩:=strBin_ok (ν:=ν) (P:=P) (g:=g) (t:=t) e g.w;exact .same r (by simp[eqGuard_at_string,h1]) (.iv h2)
 ·obtain rfl:=hv.bool;obtain rfl:=hu.bool;have ht':P.underlying t=some .bool:=by
   simp only[qOf2]at ht;split at ht
   ·assumption
   ·cases ht
  split at e
  ·cases e;exact .same r (by simp only[Sem.run_bind,eqGuard_at_bool,Sem.run_pure,Result.andThen_ok];exact run_eql_bool _ _ _ _ ht') mkBool
  ·cases e;refine .same r (v:=.bool (!_)) ?_ mkBool;simp only[Sem.run_bind,eqGuard_at_bool,Sem.run_pure,Result.andThen_ok,binOp];simp[run_equal_bool g.w t _ _ ht']
  ·cases e
 case h_10=>cases e
 case h_4 | h_5 | h_6=>
  have ht':∃el,P.underlying t=some (.pointer el):=by
   simp only[qOf2]at ht;split at ht
   ·exact⟨_,by assumption⟩
   ·cases ht
  obtain⟨el,ht'⟩:=ht'
  first
  |obtain rfl:=hv.nilp
   obtain rfl:=hu.nilp;have key:=ptr_eql (P:=P) (λd w=>run_equalIn_nil d ht' w) a b g.w;split at e
   ·cases e;exact .same r key.1 mkBool
   ·cases e;exact .same r key.2 mkBool
   ·cases e
  |obtain⟨b',off,rfl⟩:=hv.ptr
   obtain rfl:=hu.nilp;have key:=ptr_eql (P:=P) (λd w=>run_equalIn_nilr d ht' ⟨b',off,none⟩ w) a b g.w;split at e
   ·cases e;exact .same r key.1 mkBool
   ·cases e;exact .same r key.2 mkBool
   ·cases e
  |obtain rfl:=hv.nilp
   obtain⟨b',off,rfl⟩:=hu.ptr;have key:=ptr_eql (P:=P) (λd w=>run_equalIn_nill d ht' ⟨b',off,none⟩ w) a b g.w;split at e
   ·cases e;exact .same r key.1 mkBool
   ·cases e;exact .same r key.2 mkBool
   ·cases e
 all_goals
  have ht':∃p1 p2 p3,P.underlying t=some (.func p1 p2 p3):=by
   simp only[qOf2]at ht;split at ht
   ·exact⟨_,_,_,by assumption⟩
   ·cases ht
  obtain⟨p1,p2,p3,ht'⟩:=ht';have nn:∀(d:Nat) (w:World),(Op.equalIn (d+1) t .nilFunc .nilFunc).run P w = .ok true w:=λd w=>by simp[Op.equalIn,run_underlying ht']
  have fn:∀(f:Fn) (c1 c2:Array Value) (d:Nat) (w:World),(Op.equalIn (d+1) t (.func f c1 c2) .nilFunc).run P w = .ok false w:=λf c1 c2 d w=>by simp[Op.equalIn,run_underlying ht']
  have key:∀{c d:Value} {z:Bool},(∀(d':Nat) (w:World),(Op.equalIn (d'+1) t c d).run P w = .ok z w)->(eqGuard .eql t a b c d).run P g.w = .ok () g.w->(eqGuard .neq t a b c d).run P g.w = .ok () g.w->
    (binOp .eql t c d=(do pure (.bool (<-Op.equal t c d)):Sem Value))->(binOp .neq t c d=(do pure (.bool (!(<-Op.equal t c d))):Sem Value))->
    ((do eqGuard .eql t a b c d;binOp .eql t c d:Sem Value).run P g.w = .ok (.bool z) g.w)/\((do eqGuard .neq t a b c d;binOp .neq t c d:Sem Value).run P g.w = .ok (.bool (!z)) g.w):=by
   intro c d z h g1 g2 b1 b2;have h':(Op.equal t c d).run P g.w = .ok z g.w:=h 9999 g.w;constructor
   ·simp only[Sem.run_bind,g1,Result.andThen_ok,b1,h',Sem.run_pure]
   ·simp only[Sem.run_bind,g2,Result.andThen_ok,b2,h',Sem.run_pure]
  first
  |obtain rfl:v = .nilFunc:=by cases hv with | nul h=>exact h
   obtain rfl:u = .nilFunc:=by cases hu with | nul h=>exact h
   have key:=key nn (by simp[eqGuard]) (by simp[eqGuard]) rfl rfl;split at e
   ·cases e;exact .same r key.1 mkBool
   ·cases e;exact .same r key.2 mkBool
   ·cases e
  |obtain⟨f,c1,c2,rfl⟩:∃f c1 c2,v = .func f c1 c2:=hv.clov
   obtain rfl:u = .nilFunc:=by cases hu with | nul h=>exact h
   have key:=key (fn f c1 c2) (by simp[eqGuard]) (by simp[eqGuard]) rfl rfl;split at e
   ·cases e;exact .same r key.1 mkBool
   ·cases e;exact .same r key.2 mkBool
   ·cases e
  |obtain⟨f,c1,c2,rfl⟩:∃f c1 c2,v = .func f c1 c2:=hv.fnv
   obtain rfl:u = .nilFunc:=by cases hu with | nul h=>exact h
   have key:=key (fn f c1 c2) (by simp[eqGuard]) (by simp[eqGuard]) rfl rfl;split at e
   ·cases e;exact .same r key.1 mkBool
   ·cases e;exact .same r key.2 mkBool
   ·cases e
theorem ref_ptr {id ver i j:Nat} {ob:Ob} (hg:get g.h id=some ob) (hv:valid ob ver i=true) {v:Value} (h:RefAt g v id ver i j):∃b off,v = .pointer (some ⟨b,off,none⟩)/\∀v',RefAt g v' id ver i j->v'=v:=by
 unfold RefAt at h;rw[hg]at h;have key:∀v',RefAt g v' id ver i j->_:=λv' h'=>by unfold RefAt at h';rw[hg]at h';exact h'
 cases ob with
 |cells cs=>
  obtain⟨rfl,rfl,b,hφ,rfl⟩:=h;refine⟨b,j,rfl,λv' h'=>?_⟩;obtain⟨_,_,b',hφ',rfl⟩:=key v' h';rw[hφ]at hφ';cases hφ';rfl
 |icl cs=>
  obtain⟨rfl,rfl,b,hφ,rfl⟩:=h;refine⟨b,j,rfl,λv' h'=>?_⟩;obtain⟨_,_,b',hφ',rfl⟩:=key v' h';rw[hφ]at hφ';cases hφ';rfl
 |buf v' e es=>
  have hv':v'=ver:=by simpa[valid]using hv
  obtain⟨b,hφ,rfl⟩:=h.2 hv';refine⟨b,_,rfl,λv' h'=>?_⟩;obtain⟨b',hφ',rfl⟩:=(key v' h').2 hv';rw[hφ]at hφ';cases hφ';rfl
 |imm v' e es=>
  have hv':v'=ver:=by simpa[valid]using hv
  obtain⟨b,hφ,rfl⟩:=h.2 hv';refine⟨b,_,rfl,λv' h'=>?_⟩;obtain⟨b',hφ',rfl⟩:=(key v' h').2 hv';rw[hφ]at hφ';cases hφ';rfl
 |map _=>simp[valid]at hv
theorem run_equalIn_same (d:Nat) {t el:TypeId} {i:TypeInfo} (h:P.underlying t=some (.pointer el)) (hi:P.info? el=some i) (b off:Nat) (w:World):(Op.equalIn (d+1) t (.pointer (some ⟨b,off,none⟩)) (.pointer (some ⟨b,off,none⟩))).run P w = .ok true w:=by
 simp[Op.equalIn,run_underlying h,run_sizeOf hi,sameAddr]
theorem binM_ok (r:Rel ν k g) {op:BinOp} {t:TypeId} {q:Nat} (ht:qOf2 P t q=true) {a b:Operand} {v u:Value} {x z y:AV} {h':Hp} (hv:RA ν g v x) (hu:RA ν g u z) (e:(binM op q x z).run g.h=some (y,h')) :
  Done ν k g h' y ((do eqGuard op t a b v u;binOp op t v u:Sem Value).run P g.w):=by
 have tp:q=2->∃el i,P.underlying t=some (.pointer el)/\P.info? el=some i:=by
  rintro rfl;simp only[qOf2]at ht;split at ht
  ·obtain⟨i,hi⟩:=Option.isSome_iff_exists.1 ht;exact⟨_,i,by assumption,hi⟩
  ·cases ht
 unfold binM at e;split at e
 ·obtain⟨el,ii,ht',hii⟩:=tp rfl;obtain⟨ob,hg,e2⟩:=M.look_bind e;obtain⟨hva,e4⟩:=M.ok_bind e2;obtain rfl:=hu.nilp;cases hv with
  |ref _ hr=>
   obtain⟨b',off,rfl, -⟩:=ref_ptr hg hva hr;have key:=ptr_eql (P:=P) (λd w=>run_equalIn_nilr d ht' ⟨b',off,none⟩ w) a b g.w;split at e4
   ·obtain⟨rfl,rfl⟩:=Mret_someZ e4;exact .same r key.1 mkBool
   ·obtain⟨rfl,rfl⟩:=Mret_someZ e4;exact .same r key.2 mkBool
   ·exact(Mfail_someZ e4).elim
 ·obtain⟨el,ii,ht',hii⟩:=tp rfl;obtain⟨ob,hg,e2⟩:=M.look_bind e;obtain⟨hva,e4⟩:=M.ok_bind e2;obtain rfl:=hv.nilp;cases hu with
  |ref _ hr=>
   obtain⟨b',off,rfl, -⟩:=ref_ptr hg hva hr;have key:=ptr_eql (P:=P) (λd w=>run_equalIn_nill d ht' ⟨b',off,none⟩ w) a b g.w;split at e4
   ·obtain⟨rfl,rfl⟩:=Mret_someZ e4;exact .same r key.1 mkBool
   ·obtain⟨rfl,rfl⟩:=Mret_someZ e4;exact .same r key.2 mkBool
   ·exact(Mfail_someZ e4).elim
 ·rename_i id ver i j id' ver' i' j';obtain⟨el,ii,ht',hii⟩:=tp rfl;obtain⟨ob,hg,e2⟩:=M.look_bind e;obtain⟨hva,e4⟩:=M.ok_bind e2;simp only[Bool.and_eq_true,beq_iff_eq]at hva;obtain⟨⟨⟨⟨hva,rfl⟩,rfl⟩,rfl⟩,rfl⟩:=hva;cases hv with
  |ref _ hr=>
   obtain⟨b',off,rfl,hsame⟩:=ref_ptr hg hva hr;cases hu with
   |ref _ hr'=>
    obtain rfl:=hsame _ hr';have key:=ptr_eql (P:=P) (λd w=>run_equalIn_same d ht' hii b' off w) a b g.w;split at e4
    ·obtain⟨rfl,rfl⟩:=Mret_someZ e4;exact .same r key.1 mkBool
    ·obtain⟨rfl,rfl⟩:=Mret_someZ e4;exact .same r key.2 mkBool
    ·exact(Mfail_someZ e4).elim
 ·obtain⟨y',hb,e2⟩:=M.lift_bind e;obtain⟨rfl,rfl⟩:=Mret_someZ e2;exact bin_ok r ht hv hu hb
theorem eq0_ok {q:Nat} {t:TypeId} {x y:AV} {b:Bool} (e:eq0 q x y=some b) (ht:qtyB q (P.underlying t)=true) {v u:Value} (hv:RA ν g v x) (hu:RA ν g u y) (d:Nat) (w:World) :
  (Op.equalIn (d+1) t v u).run P w = .ok b w:=by
 unfold eq0 at e;split at e
 ·obtain rfl:=hv.int;obtain rfl:=hu.int;obtain⟨kk,h1⟩:=qtyB_int ht;simp only[Option.ite_none_right_eq_some,Option.some.injEq]at e;obtain⟨hk,rfl⟩:=e;subst hk;exact run_equalIn_int w d t _ _ _ _ h1
 ·cases e;obtain rfl:=hv.bool;obtain rfl:=hu.bool;exact run_equalIn_bool w d t _ _ (qtyB_bool ht)
 ·cases e;obtain rfl:=hv.str;obtain rfl:=hu.str;rw[run_equalIn_string w d t _ _ (qtyB_str ht),beq_toListBytes]
 ·cases e
theorem RA.agg_get {vs:Array Value} {cs:List AV} (h:RA ν g (.agg vs) (.agg cs)) (j:Nat) (c:AV) (hc:cs[j]?=some c):∃v,vs[j]?=some v/\RA ν g v c:=by
 cases h with
 |agg hn _ hr=>
  have hj:j<cs.length:=by
   rcases Nat.lt_or_ge j cs.length with h' | h'
   ·exact h'
   ·rw[List.getElem?_eq_none h']at hc;cases hc
  exact⟨vs[j],Array.getElem?_eq_getElem (by omega),hr j _ c (Array.getElem?_eq_getElem (by omega)) hc⟩
theorem un_ok (r:Rel ν k g) {op:UnOp} {v:Value} {x:AV} {y:IV} (hv:RA ν g v x) (e:un op x=some y):Done ν k g g.h (.iv y) ((Op.unary op v).run P g.w):=by
 unfold un at e;split at e
 ·obtain rfl:=hv.int;split at e
  ·cases e;exact .same r (by simp[Op.unary,Op.intArith]) mkInt
  ·cases e;exact .same r (v:=.int _ _) (by simp only[Op.unary,intBits_xor];rfl) mkInt
  ·cases e
 ·obtain rfl:=hv.bool;split at e
  ·cases e;exact .same r (by simp[Op.unary]) mkBool
  ·cases e
 ·cases e
theorem cvi_ok (r:Rel ν k g) {s d:TypeId} {kk:IntKind} (ht:cviB P s d kk=true) {v:Value} {x:AV} {n:Int} {h':Hp} (hv:RA ν g v x) (e:(idx x).run g.h=some (n,h')) :
  Done ν k g g.h (.iv (.int kk (kk.wrap n))) ((convert s d v).run P g.w):=by
 obtain⟨_,k',rfl⟩:=idx_some e;obtain rfl:=hv.int;unfold cviB at ht;simp only[Bool.and_eq_true]at ht;obtain⟨h1,h2⟩:=ht;obtain⟨sd,hs⟩:=Option.isSome_iff_exists.1 h1;split at h2
 ·rename_i k'' hd;have:k''=kk:=by simpa using h2
  subst this;exact .same r (by simp[convert,run_underlying hs,run_underlying hd,Conv.intToInt]) mkInt
 ·cases h2
end
section
variable {ν:Nat->Nat} {P:Program} {k:Cx} {g:Gh}
def RO (ν:Nat->Nat) (g:Gh):Option Value->Option AV->Prop
 |none,none=>True
 |some v,some x=>RA ν g v x
 |_,_=>False
theorem bound_run {y:Nat} {o:Option AV} {n:Option Nat} {h h':Hp} (e:(bound y o).run h=some (n,h')) {c:Option Value} (hc:RO ν g c o) :
  h'=h/\(o=none/\n=none/\c=none\/∃(kk:IntKind) (m:Nat),c=some (.int kk m)/\m<=y/\n=some m):=by
 unfold bound at e;split at e
 ·obtain⟨rfl,rfl⟩:=Mret_someZ e;cases c with
  |none=>exact⟨rfl,.inl ⟨rfl,rfl,rfl⟩⟩
  |some v=>exact hc.elim
 ·rename_i kk m;obtain⟨hm,e2⟩:=M.ok_bind e;obtain⟨rfl,rfl⟩:=Mret_someZ e2;have hm':0<=m/\m<=y:=by simpa using hm
  cases c with
  |none=>exact hc.elim
  |some v=>
   obtain rfl:=RA.int hc;exact⟨rfl,.inr ⟨kk,m.toNat,by rw[Int.toNat_of_nonneg hm'.1],by omega,rfl⟩⟩
 ·exact(Mfail_someZ e).elim
theorem bounds_run {n y cap:Nat} (hy:n<=y) (hcap:y<=cap) {lo hi:Option AV} {cl ch:Option Value} {l h:Option Nat} {g0 g1 g2:Hp} (isS:Bool)
  (eh:(bound y hi).run g0=some (h,g1)) (el:(bound (h.getD n) lo).run g1=some (l,g2)) (hh:RO ν g ch hi) (hl:RO ν g cl lo) (w:World) :
  g2=g0/\l.getD 0<=h.getD n/\h.getD n<=y/\(Instr.sliceBounds isS n cap cl ch none).run P w = .ok (l.getD 0,h.getD n,cap) w:=by
 obtain⟨rfl,h1⟩:=bound_run eh hh;obtain⟨rfl,h2⟩:=bound_run el hl;refine⟨rfl,?_⟩;rcases h1 with⟨-,rfl,rfl⟩|⟨k1,m1,rfl,hm1,rfl⟩
 ·rcases h2 with⟨-,rfl,rfl⟩|⟨k2,m2,rfl,hm2,rfl⟩
  ·simp[Instr.sliceBounds,hy]
  ·simp only[Option.getD_none]at hm2;have:(Instr.sliceBound (.int k2 m2) n .sliceB).run P w = .ok m2 w:=by simp[Instr.sliceBound,asIntOf,hm2]
   simp[Instr.sliceBounds,this,hm2,hy]
 ·have hs:∀c,(Instr.sliceBound (.int k1 m1) cap c).run P w = .ok m1 w:=λc=>by
   have:m1<=cap:=by omega
   simp[Instr.sliceBound,asIntOf,this]
  rcases h2 with⟨-,rfl,rfl⟩|⟨k2,m2,rfl,hm2,rfl⟩
  ·simp[Instr.sliceBounds,hs,hm1]
  ·simp only[Option.getD_some]at hm2;have:(Instr.sliceBound (.int k2 m2) m1 .sliceB).run P w = .ok m2 w:=by simp[Instr.sliceBound,asIntOf,hm2]
   simp[Instr.sliceBounds,hs,this,hm2,hm1]
theorem OwnAt.row {id o n ver e L:Nat} {ob:Ob} (hg:get g.h id=some ob) (hl:rowLen ob ver e=some L) {v:Value} (h:OwnAt g v id o n ver) :
  SlAt g.w (g.φ id) e L o n v/\∀v' o' n',SlAt g.w (g.φ id) e L o' n' v'->OwnAt g v' id o' n' ver:=by
 unfold OwnAt at h;rw[hg]at h;cases ob with
 |buf v' e' es=>
  simp only[rowLen]at hl;split at hl
  ·rename_i hh;cases hl;obtain⟨rfl,rfl⟩:=hh;exact⟨h.2 rfl,λv2 o' n' hs=>by unfold OwnAt;rw[hg];exact⟨Nat.le_refl _,λ_=>hs⟩⟩
  ·cases hl
 |imm v' e' es=>
  simp only[rowLen]at hl;split at hl
  ·rename_i hh;cases hl;obtain⟨rfl,rfl⟩:=hh;exact⟨h.2 rfl,λv2 o' n' hs=>by unfold OwnAt;rw[hg];exact⟨Nat.le_refl _,λ_=>hs⟩⟩
  ·cases hl
 |cells cs=>
  simp only[rowLen]at hl;split at hl
  ·rename_i hh;cases hl;obtain⟨rfl,rfl⟩:=hh;exact⟨h.2,λv2 o' n' hs=>by unfold OwnAt;rw[hg];exact⟨rfl,hs⟩⟩
  ·cases hl
 |icl cs=>
  simp only[rowLen]at hl;split at hl
  ·rename_i hh;cases hl;obtain⟨rfl,rfl⟩:=hh;exact⟨h.2,λv2 o' n' hs=>by unfold OwnAt;rw[hg];exact⟨rfl,hs⟩⟩
  ·cases hl
 |map _=>exact h.elim
theorem sliceAt_run {t el:TypeId} {i:TypeInfo} (hu:P.underlying t=some (.slice el)) (hi:P.info? el=some i) {a:Option Addr} {n cap l h:Nat} {cl ch:Option Value} {w:World}
  (hb:(Instr.sliceBounds true n cap cl ch none).run P w = .ok (l,h,cap) w) :
  (Instr.sliceAt t (.slice a n cap) cl ch none).run P w = .ok (.slice (if cap=l then a else a.map (·.add (l*i.size))) (h - l) (cap - l)) w:=by
 have:(Instr.slice t (.slice a n cap) cl ch none).run P w = .ok (.slice (if cap=l then a else a.map (·.add (l*i.size))) (h - l) (cap - l)) w:=by
  simp[Instr.slice,run_underlying hu,hb,run_sizeOf hi]
 simp[Instr.sliceAt,run_underlying hu,this]
theorem slc_ok (r:Rel ν k g) {t:TypeId} {e:Nat} (ht:sliceB P t e=true) {v:Value} {cl ch:Option Value} {x y:AV} {lo hi:Option AV} {h':Hp} (hv:RA ν g v x) (hl:RO ν g cl lo) (hh:RO ν g ch hi)
  (e':(slc e x lo hi).run g.h=some (y,h')):Done ν k g h' y ((Instr.sliceAt t v cl ch none).run P g.w):=by
 obtain⟨el,i,hu,hi',rfl⟩:=sliceB_spec ht;cases hv with
 |undef=>exact(Mfail_someZ e').elim
 |nul=>exact(Mfail_someZ e').elim
 |agg=>exact(Mfail_someZ e').elim
 |tup=>exact(Mfail_someZ e').elim
 |ref=>exact(Mfail_someZ e').elim
 |clo=>exact(Mfail_someZ e').elim
 |iv hr=>
  cases hr with
  |nsl a e''=>
   obtain⟨hb,h2,e3,e4⟩:=Mbind_someZ e';obtain⟨lb,h3,e5,e6⟩:=Mbind_someZ e4;obtain⟨rfl,h4,h5,h6⟩:=bounds_run (ν:=ν) (g:=g) (P:=P) (n:=0) (y:=0) (cap:=0) (Nat.le_refl _) (Nat.le_refl _) true e3 e5 hh hl g.w;obtain⟨rfl,rfl⟩:=Mret_someZ e6;have hz:hb.getD 0=0:=by omega
   have hz':lb.getD 0=0:=by omega
   refine .same r (sliceAt_run hu hi' h6) (.iv ?_);simp only[hz,hz',Nat.sub_zero,if_true];exact .nsl _ _
  |sl0 a cap e''=>
   obtain⟨-,e2⟩:=M.ok_bind e';obtain⟨hb,h2,e3,e4⟩:=Mbind_someZ e2;obtain⟨lb,h3,e5,e6⟩:=Mbind_someZ e4;obtain⟨rfl,h4,h5,h6⟩:=bounds_run (ν:=ν) (g:=g) (P:=P) (n:=0) (y:=0) (cap:=cap) (Nat.le_refl _) (Nat.zero_le _) true e3 e5 hh hl g.w;obtain⟨rfl,rfl⟩:=Mret_someZ e6;simp only[List.length_nil]at *;have hz:hb.getD 0=0:=by omega
   have hz':lb.getD 0=0:=by omega
   refine .same r (sliceAt_run hu hi' h6) (.iv ?_);simp only[hz,hz',List.take_nil,List.drop_nil,Nat.sub_zero];exact .sl0 _ _ _
  |sl b off n cap e'' es f hI hn hcap hll hc hr=>
   obtain⟨he,e2⟩:=M.ok_bind e';obtain⟨hb,h2,e3,e4⟩:=Mbind_someZ e2;obtain⟨lb,h3,e5,e6⟩:=Mbind_someZ e4;subst hn;obtain⟨rfl,h4,h5,h6⟩:=bounds_run (ν:=ν) (g:=g) (P:=P) (Nat.le_refl _) hcap true e3 e5 hh hl g.w;obtain⟨rfl,rfl⟩:=Mret_someZ e6;have he':e''=i.size:=by simpa using he
   subst he';refine .same r (sliceAt_run hu hi' h6) (.iv ?_);generalize lb.getD 0=l at *;generalize hb.getD es.length=h at *;by_cases hlh:l=h
   ·subst hlh;have:(es.take l).drop l=[]:=by simp
    rw[this,Nat.sub_self];exact .sl0 _ _ _
   ·have hne:¬cap=l:=by omega
    rw[if_neg hne];simp only[Option.map_some,Addr.add_lit];have hsub:∀(j:Nat) (c:List IV),((es.take h).drop l)[j]?=some c->es[l+j]?=some c:=by
     intro j c hj;rw[List.getElem?_drop,List.getElem?_take]at hj;split at hj
     ·exact hj
     ·cases hj
    refine .sl b _ _ _ i.size _ (λa b=>f (l+a) b) hI (by simp;omega) (by omega) (λc hc'=>hll c (List.mem_of_mem_take (List.mem_of_mem_drop hc'))) (λa j c x h1 h2=>?_) λa j c x h1 h2=>hr _ _ _ _ (hsub a c h1) h2
    have:=hc _ _ _ _ (hsub a c h1) h2
    rwa [Nat.add_mul,<-Nat.add_assoc]at this
  |_=>exact(Mfail_someZ e').elim
 |@own _ id o m ver ho1 ho=>
  obtain⟨ob,hg,e8⟩:=M.look_bind e';obtain⟨L,hL,e10⟩:=M.lift_bind e8;obtain⟨hb,h2,e3,e4⟩:=Mbind_someZ e10;obtain⟨lb,h3,e5,e6⟩:=Mbind_someZ e4;obtain⟨hs,hback⟩:=ho.row hg hL;have hfit:=hs.fits;cases hφ:g.φ id with
  |none=>
   rw[hφ]at hs;obtain⟨⟨a,rfl⟩,rfl,rfl,rfl⟩:=hs;obtain⟨rfl,h4,h5,h6⟩:=bounds_run (ν:=ν) (g:=g) (P:=P) (n:=0) (y:=0) (cap:=0) (Nat.le_refl _) (Nat.le_refl _) true e3 e5 hh hl g.w;obtain⟨rfl,rfl⟩:=Mret_someZ e6;refine .same r (sliceAt_run hu hi' h6) (.own rfl (hback _ _ _ ?_));rw[hφ];have h1:hb.getD 0=0:=by omega
   have h2:lb.getD 0=0:=by omega
   exact⟨⟨a,by simp[h1,h2]⟩,by omega,by omega,rfl⟩
  |some b=>
   rw[hφ]at hs;obtain⟨x,cap,rfl,q2,qL,q3,q4,q5⟩:=hs;obtain⟨rfl,h4,h5,h6⟩:=bounds_run (ν:=ν) (g:=g) (P:=P) (n:=m) (y:=L - o) (cap:=cap) (by omega) (by omega) true e3 e5 hh hl g.w;obtain⟨rfl,rfl⟩:=Mret_someZ e6;refine .same r (sliceAt_run hu hi' h6) (.own rfl (hback _ _ _ ?_));rw[hφ];generalize lb.getD 0=l at *;generalize hb.getD m=h at *;by_cases hcl:cap=l
   ·rw[if_pos hcl];refine⟨x,cap - l,rfl,by omega,by omega,by omega,?_,λhx c hc=>?_⟩
    ·rcases q4 with q4 | q4
     ·by_cases hl0:l=0
      ·left;subst hl0;simpa using q4
      ·right;omega
     ·right;omega
    ·by_cases hxo:x=o*i.size
     ·exact q5 hxo c (Nat.lt_of_lt_of_le hc (Nat.mul_le_mul_right _ (by omega)))
     ·have:=q4.resolve_left hxo;have hl0:l=0:=by omega
      subst hl0;exact absurd (by simpa using hx) hxo
   ·rw[if_neg hcl];refine⟨x+l*i.size,cap - l,by simp[Addr.add_lit],by omega,by omega,by omega,?_,λhx c hc=>?_⟩
    ·rcases q4 with q4 | q4
     ·left;rw[q4,Nat.add_mul]
     ·right;omega
    ·have hxo:x=o*i.size:=by rw[Nat.add_mul]at hx;omega
     exact q5 hxo c (Nat.lt_of_lt_of_le hc (Nat.mul_le_mul_right _ (by omega)))
theorem len_ok (r:Rel ν k g) {t ty:TypeId} {str:Bool} (ht:lenB P t str=true) {v:Value} {x y:AV} {h':Hp} (hv:RA ν g v x) (e:(len str x).run g.h=some (y,h')) :
  Done ν k g h' y ((Builtin.len_ #[t] ty #[v]).run P g.w):=by
 unfold lenB at ht;split at ht
 ·rename_i el hu;have:str=false:=by simpa using ht
  subst this;have key:∀(a:Option Addr) (n cap:Nat),Done ν k g g.h (.iv (.int .i64 n)) ((Builtin.len_ #[t] ty #[.slice a n cap]).run P g.w):=λa n cap=>
   .same r (v:=.int .i64 n) (by simp[Builtin.len_,run_underlying hu,goInt]) mkInt
  cases hv with
  |undef=>exact(Mfail_someZ e).elim
  |nul=>exact(Mfail_someZ e).elim
  |agg=>exact(Mfail_someZ e).elim
  |tup=>exact(Mfail_someZ e).elim
  |ref=>exact(Mfail_someZ e).elim
  |clo=>exact(Mfail_someZ e).elim
  |iv hr=>
   cases hr with
   |nsl a e''=>obtain⟨rfl,rfl⟩:=Mret_someZ e;exact key _ _ _
   |sl0 a cap e''=>obtain⟨rfl,rfl⟩:=Mret_someZ e;exact key _ 0 _
   |sl b off n cap e'' es f hI hn hcap hll hc hr=>obtain⟨rfl,rfl⟩:=Mret_someZ e;rw[hn];exact key _ _ _
   |_=>exact(Mfail_someZ e).elim
  |@own _ id o m ver ho1 ho=>
   obtain⟨ob,hg,e2⟩:=M.look_bind e;unfold OwnAt at ho;rw[hg]at ho;have fin:∀{e'' L:Nat},SlAt g.w (g.φ id) e'' L o m v->Done ν k g g.h (.iv (.int .i64 m)) ((Builtin.len_ #[t] ty #[v]).run P g.w):=by
    intro e'' L hs;cases hφ:g.φ id with
    |none=>rw[hφ]at hs;obtain⟨⟨a,rfl⟩,rfl,_⟩:=hs;exact key _ _ _
    |some b=>rw[hφ]at hs;obtain⟨x,cap,rfl,_⟩:=hs;exact key _ _ _
   cases ob with
   |cells cs=>
    obtain⟨hva,e4⟩:=M.ok_bind e2;obtain⟨rfl,rfl⟩:=Mret_someZ e4;exact fin ho.2
   |icl cs=>
    obtain⟨hva,e4⟩:=M.ok_bind e2;obtain⟨rfl,rfl⟩:=Mret_someZ e4;exact fin ho.2
   |buf v' e'' es=>
    obtain⟨hva,e4⟩:=M.ok_bind e2;obtain⟨rfl,rfl⟩:=Mret_someZ e4;exact fin (ho.2 (by simpa using hva))
   |imm v' e'' es=>
    obtain⟨hva,e4⟩:=M.ok_bind e2;obtain⟨rfl,rfl⟩:=Mret_someZ e4;exact fin (ho.2 (by simpa using hva))
   |map _=>exact ho.elim
 ·rename_i hu;have:str=true:=ht;subst this;unfold len at e;split at e
  ·rename_i h;cases h
  ·rename_i h;cases h
  ·rename_i h;cases h
  ·obtain⟨rfl,rfl⟩:=Mret_someZ e;obtain rfl:=hv.str;exact .same r (v:=.int .i64 _) (by simp[Builtin.len_,run_underlying hu,goInt]) mkInt
  ·exact(Mfail_someZ e).elim
 ·cases ht
theorem mn_ok (P:Program) (w:World):∀(xs:List AV) (vs:List Value) (a:Int) (kk:IntKind) (z:Int),mnI a xs kk=some z->vs.length=xs.length->(∀(j:Nat) (v:Value) (x:AV),vs[j]?=some v->xs[j]?=some x->RA ν g v x)->
  (vs.foldlM Builtin.min2 (.int kk a)).run P w = .ok (.int kk z) w:=by
 intro xs
 induction xs with
 |nil=>
  intro vs a kk z h hl _;have:vs=[]:=List.eq_nil_of_length_eq_zero hl;subst this;simp[mnI]at h;subst h;rfl
 |cons x xs ih=>
  intro vs a kk z h hl hr;cases vs with
  |nil=>simp at hl
  |cons v vs=>
   have h0:=hr 0 v x rfl rfl;unfold mnI at h;split at h
   ·rename_i heq;cases heq
   ·rename_i kk' b r heq;cases heq;split at h
    ·rename_i hk;subst hk;obtain rfl:=h0.int;simp only[List.foldlM_cons,Sem.run_bind,Builtin.min2,Sem.run_pure,Result.andThen_ok];exact ih vs _ _ _ h (by simpa using hl) λj v' x' h1 h2=>hr (j+1) v' x' (by simpa using h1) (by simpa using h2)
    ·cases h
   ·cases h
theorem mx_ok (P:Program) (w:World):∀(xs:List AV) (vs:List Value) (a:Int) (kk:IntKind) (z:Int),mxI a xs kk=some z->vs.length=xs.length->(∀(j:Nat) (v:Value) (x:AV),vs[j]?=some v->xs[j]?=some x->RA ν g v x)->
  (vs.foldlM Builtin.max2 (.int kk a)).run P w = .ok (.int kk z) w:=by
 intro xs
 induction xs with
 |nil=>
  intro vs a kk z h hl _;have:vs=[]:=List.eq_nil_of_length_eq_zero hl;subst this;simp[mxI]at h;subst h;rfl
 |cons x xs ih=>
  intro vs a kk z h hl hr;cases vs with
  |nil=>simp at hl
  |cons v vs=>
   have h0:=hr 0 v x rfl rfl;unfold mxI at h;split at h
   ·rename_i heq;cases heq
   ·rename_i kk' b r heq;cases heq;split at h
    ·rename_i hk;subst hk;obtain rfl:=h0.int;simp only[List.foldlM_cons,Sem.run_bind,Builtin.max2,Sem.run_pure,Result.andThen_ok];exact ih vs _ _ _ h (by simpa using hl) λj v' x' h1 h2=>hr (j+1) v' x' (by simpa using h1) (by simpa using h2)
    ·cases h
   ·cases h
theorem cells_run {x:AV} {l:List AV} {h h':Hp} (e:(cellsM x).run h=some (l,h')) {v:Value} (hv:RA ν g v x) :
  h'=h/\v.cells.size=l.length/\∀(j:Nat) (c:AV),l[j]?=some c->∃u,v.cells[j]?=some u/\u.oneCell'=true/\RA ν g u c:=by
 have one:∀{z:AV},(M.ret [z]).run h=some (l,h')->RA ν g v z->v.oneCell'=true->h'=h/\v.cells.size=l.length/\∀(j:Nat) (c:AV),l[j]?=some c->∃u,v.cells[j]?=some u/\u.oneCell'=true/\RA ν g u c:=by
  intro z e hz h1;obtain⟨rfl,rfl⟩:=Mret_someZ e;have hc:v.cells=#[v]:=by cases v<;>first | rfl | simp[Value.oneCell']at h1
  refine⟨rfl,by rw[hc];rfl,λj c hj=>?_⟩;cases j with
  |zero=>simp at hj;subst hj;exact⟨v,by rw[hc];rfl,h1,hz⟩
  |succ j=>simp at hj
 cases hv with
 |undef=>exact(Mfail_someZ e).elim
 |nul h=>exact one e (.nul h) (by rw[h];exact nulV_one _)
 |tup=>exact(Mfail_someZ e).elim
 |agg hn h1 hr=>
  obtain⟨rfl,rfl⟩:=Mret_someZ e;refine⟨rfl,hn,λj c hj=>?_⟩;obtain⟨u,hu,hR⟩:=RA.agg_get (.agg hn h1 hr) j c hj;exact⟨u,hu,h1 j u hu,hR⟩
 |iv hr=>exact one e (.iv hr) hr.one
 |own h1 h2=>exact one e (.own h1 h2) h1
 |ref h1 h2=>exact one e (.ref h1 h2) h1
 |clo hm hs hn hr=>exact one e (.clo hm hs hn hr) rfl
def RC (ν:Nat->Nat) (g:Gh) (vs:Array Value) (cs:List AV):Prop:=
 vs.size=cs.length/\∀(j:Nat) (c:AV),cs[j]?=some c->∃u,vs[j]?=some u/\u.oneCell'=true/\RA ν g u c
theorem RC.agg {vs:Array Value} {cs:List AV} (h:RC ν g vs cs):RA ν g (.agg vs) (.agg cs):=by
 have key:∀(j:Nat) (v:Value),vs[j]?=some v->∃c,cs[j]?=some c/\v.oneCell'=true/\RA ν g v c:=by
  intro j v hv;have hj:j<vs.size:=(Array.getElem?_eq_some_iff.1 hv).1;have hc:cs[j]?=some (cs[j]'(by have:=h.1;omega)):=List.getElem?_eq_getElem _;obtain⟨u,hu,h1,hR⟩:=h.2 j _ hc;rw[hv]at hu;cases hu;exact⟨_,hc,h1,hR⟩
 exact .agg h.1 (λj v hv=>let⟨_,_,h1,_⟩:=key j v hv;h1) λj v c hv hc=>by
  obtain⟨c',hc',_,hR⟩:=key j v hv;rw[hc]at hc';cases hc';exact hR
theorem RC.splice {vs us:Array Value} {cs l:List AV} {o:Nat} (h:RC ν g vs cs) (hu:RC ν g us l) (hfit:o+l.length<=cs.length) :
  RC ν g ((us.toList.zipIdx).foldl (λcs (p:Value×Nat)=>cs.setIfInBounds (o+p.2) p.1) vs) (splice cs o l):=by
 have hs:=fillFold_spec o us.toList 0 vs (by have:=h.1;have:=hu.1;simp;omega);simp only[Nat.add_zero,Array.length_toList]at hs;refine⟨by rw[hs.1,splice_length _ _ _ hfit,h.1],λj c hc=>?_⟩;rw[splice_get _ _ _ hfit]at hc;rw[hs.2 j];have:=hu.1;by_cases hj:o<=j/\j<o+l.length
 ·rw[if_pos hj]at hc;rw[if_pos (by omega)];simpa using hu.2 _ c hc
 ·rw[if_neg hj]at hc;rw[if_neg (by omega)];exact h.2 j c hc
end
section
variable {ν:Nat->Nat} {P:Program} {k:Cx} {g:Gh}
theorem RC.mono {g':Gh} {vs:Array Value} {cs:List AV} (h:RC ν g vs cs) (hm:Mono ν g g'):RC ν g' vs cs:=
 ⟨h.1,λj c hc=>let⟨u,h1,h2,h3⟩:=h.2 j c hc;⟨u,h1,h2,hm _ _ h3⟩⟩
theorem newVar_ok (r:Rel ν k g) {slot:Nat} {t:TypeId} {vs:Array Value} {cs:List AV} (hv:RC ν g vs cs) (hty:TyOK ν (g.w.alloc (.cells vs t)) slot g.w.heap.size) {h':Hp} {y:AV}
  (e:((M.fresh slot).bind λ_=>(M.write slot (.cells cs)).bind λ_=>M.ret (.ref slot 0 0 0)).run g.h=some (y,h')) :
  Done ν k g h' y (.ok (.pointer (some ⟨g.w.heap.size,0,none⟩)) (g.w.alloc (.cells vs t))):=by
 obtain⟨_,h1,e1,e2⟩:=Mbind_someZ e;obtain⟨hf,rfl⟩:=M.fresh_some e1;obtain⟨_,h3,e5,e6⟩:=Mbind_someZ e2;obtain rfl:=Mwrite_someZ e5;obtain⟨rfl,rfl⟩:=Mret_someZ e6;have hn:=r.new (s:=slot) (ob:=.cells cs) (p:=some g.w.heap.size) (w':=g.w.alloc (.cells vs t)) hf (by simp) rfl rfl rfl (λb hb=>alloc_old _ _ _ hb)
  (λb h=>by cases h;exact Nat.le_refl _) (λb h=>by cases h;exact hty) λhm=>by
   refine⟨g.w.heap.size,updφ_same _ _ _,λhi=>?_,⟨by simp,λo=>World.frozen?_alloc_new _ _ _ _⟩,λj c hc=>?_⟩
   ·exact Nat.lt_irrefl _ (r.small _ hi)
   ·obtain⟨u,h1,h2,h3⟩:=hv.2 j c hc;exact⟨u,by rw[World.cell?_alloc_new];exact h1,h2,hm _ _ h3⟩
 refine⟨_,_,rfl,rfl,hn.1,hn.2,.ref rfl ?_⟩;unfold RefAt;simp only[get_set_same,updφ_same];exact⟨trivial,trivial,_,rfl,rfl⟩
theorem shape_alloc_new (w:World) (vs:Array Value) (t:TypeId):(w.alloc (.cells vs t)).shape? w.heap.size=some (t,vs.size):=by
 unfold World.shape?;rw[heap_alloc_new]
theorem box_ok (r:Rel ν k g) {slot tag:Nat} {t:TypeId} (htag:(tag==0||tag==1&&t==ν tyBld)=true) {v:Value} {x y:AV} (hv:RA ν g v x) {h':Hp}
  (e:((cellsM x).bind λxs=>(M.ok (tag==0||tag==1&&xs.length==2)).bind λ_=>(M.fresh (4*slot+tag)).bind λ_=>(M.write (4*slot+tag) (.cells xs)).bind λ_=>M.ret (.ref (4*slot+tag) 0 0 0)).run g.h=some (y,h')) :
  Done ν k g h' y ((Instr.box t v).run P g.w):=by
 obtain⟨xs,h1,e1,e2⟩:=Mbind_someZ e;obtain⟨rfl,hs,hc⟩:=cells_run e1 hv;obtain⟨hok,e4⟩:=M.ok_bind e2;have hty:TyOK ν (g.w.alloc (.cells v.cells t)) (4*slot+tag) g.w.heap.size:=by
  simp only[Bool.or_eq_true,Bool.and_eq_true,beq_iff_eq]at htag hok;by_cases h0:tag=0
  ·subst h0;exact .zero (by omega)
  ·obtain⟨rfl,rfl⟩:=htag.resolve_left h0;have h2:=(hok.resolve_left h0).2;exact⟨λ_=>by rw[shape_alloc_new,hs,h2],by omega,by omega⟩
 have:=newVar_ok (t:=t) r ⟨hs,hc⟩ hty e4;simpa[Instr.box,newVar,newRow]using this
def kVal:Value->AV->Bool
 |v,.iv x=>cVal v x
 |.nilFunc,.nul 0=>true
 |.nilIface,.nul 1=>true
 |.map none,.nul 2=>true
 |_,_=>false
theorem kVal_ok {v:Value} {x:AV} (h:kVal v x=true) (g:Gh):v.oneCell'=true/\RA ν g v x:=by
 unfold kVal at h;split at h
 ·have hR:RI ν g.I g.w v _:=cVal_ok h _ _;exact⟨hR.one,.iv hR⟩
 ·exact⟨rfl,.nul rfl⟩
 ·exact⟨rfl,.nul rfl⟩
 ·exact⟨rfl,.nul rfl⟩
 ·cases h
def kVals:List Value->List AV->Bool
 |[],[]=>true
 |v::vs,x::xs=>kVal v x&&kVals vs xs
 |_,_=>false
theorem kVals_ok:∀{vs:List Value} {xs:List AV},kVals vs xs=true->vs.length=xs.length/\∀(j:Nat) (x:AV),xs[j]?=some x->∃v,vs[j]?=some v/\kVal v x=true
 |[],[],_=>⟨rfl,λj x h=>by simp at h⟩
 |v::vs,x::xs,h=>by
  simp only[kVals,Bool.and_eq_true]at h;obtain⟨h1,h2⟩:=kVals_ok h.2;refine⟨by simp[h1],λj y hj=>?_⟩;cases j with
  |zero=>simp at hj;subst hj;exact⟨v,rfl,h.1⟩
  |succ j=>simpa using h2 j y (by simpa using hj)
 |[],_::_,h=>by simp[kVals]at h
 |_::_,[],h=>by simp[kVals]at h
theorem kVals_RC {vs:Array Value} {xs:List AV} (h:kVals vs.toList xs=true):RC ν g vs xs:=by
 obtain⟨h1,h2⟩:=kVals_ok h;refine⟨by simpa using h1,λj c hc=>?_⟩;obtain⟨v,hv,hcv⟩:=h2 j c hc;obtain⟨h3,h4⟩:=kVal_ok (ν:=ν) hcv g;exact⟨v,by simpa using hv,h3,h4⟩
def zeroK (P:Program) (t:TypeId) (z:List AV):Bool:=
 match P.info? t with
 |some i=>(match i.zero with | some v=>kVals v.cells.toList z | none=>false)
 |none=>false
theorem zeroK_spec {t:TypeId} {z:List AV} (h:zeroK P t z=true):∃i v,P.info? t=some i/\i.zero=some v/\kVals v.cells.toList z=true:=by
 unfold zeroK at h;split at h
 ·rename_i i hi;split at h
  ·rename_i v hv;exact⟨i,v,hi,hv,h⟩
  ·cases h
 ·cases h
def tagB (ν:Nat->Nat) (t:TypeId) (tag:Nat) (z:List AV):Bool:=tag==0||(tag==1&&t==ν tyBld&&z.length==2)
theorem allocI_ok (r:Rel ν k g) {slot tag:Nat} {t:TypeId} {z:List AV} (ht:zeroK P t z=true) (htag:tagB ν t tag z=true) {y:AV} {h':Hp}
  (e:((M.ok (Nat.ble tag 1)).bind λ_=>(M.fresh (4*slot+tag)).bind λ_=>(M.write (4*slot+tag) (.cells z)).bind λ_=>M.ret (.ref (4*slot+tag) 0 0 0)).run g.h=some (y,h')) :
  Done ν k g h' y ((Instr.alloc t true (.tuple #[])).run P g.w):=by
 obtain⟨i,v,hi,hz,hc⟩:=zeroK_spec ht;obtain⟨-,e2⟩:=M.ok_bind e;have hty:TyOK ν (g.w.alloc (.cells v.cells t)) (4*slot+tag) g.w.heap.size:=by
  simp only[tagB,Bool.or_eq_true,Bool.and_eq_true,beq_iff_eq]at htag;rcases htag with rfl | ⟨⟨rfl,rfl⟩,h2⟩
  ·exact .zero (by omega)
  ·have:=(kVals_ok hc).1;simp only[Array.length_toList]at this;exact⟨λ_=>by rw[shape_alloc_new,this,h2],by omega,by omega⟩
 have:=newVar_ok (t:=t) r (kVals_RC hc) hty e2;simpa[Instr.alloc,zeroValue,typeInfo,hi,hz,newVar,newRow]using this
end
section
variable {ν:Nat->Nat} {P:Program} {k:Cx} {g:Gh}
theorem SlAt.put {w w':World} {b e o n L L':Nat} {v:Value} (h:SlAt w (some b) e L o n v) (hl:L=L')
  (hc:∀c,(w.cell? ⟨b,c,none⟩).isSome=true->(w'.cell? ⟨b,c,none⟩).isSome=true):SlAt w' (some b) e L' o n v:=by
 subst hl;obtain⟨x,cap,e1,e2,eL,e3,e4,e5⟩:=h;exact⟨x,cap,e1,e2,eL,e3,e4,λhx c h'=>hc c (e5 hx c h')⟩
theorem shape_setCells (w:World) (b:Nat):∀(vs:List Value) (o c:Nat),(w.setCells b o vs).shape? c=w.shape? c:=by
 intro vs
 induction vs generalizing w with
 |nil=>intro o c;rfl
 |cons v vs ih=>
  intro o c;rw[World.setCells,ih];simp only[World.shape?,World.setCell,Array.getElem?_modify];by_cases h:b=c
  ·subst h;cases hb:w.heap[b]? with
   |none=>simp
   |some ob=>cases ob<;>simp
  ·simp[h]
theorem Rel.put (r:Rel ν k g) {id v e b off v':Nat} {es es':List (List AV)} {vs:List Value} (hg:get g.h id=some (.buf v e es)) (hφ:g.φ id=some b)
  (hcells:∀j,j<vs.length->(g.w.cell? ⟨b,off+j,none⟩).isSome=true) (hv:v'=v/\es.length=es'.length\/v'=v+1)
  (hrow:∀g':Gh,g'.w=g.w.setCells b off vs->Mono ν g g'->RowG ν g' b e es') :
  Rel ν k { g with w:=g.w.setCells b off vs,h:=set g.h id (.buf v' e es') }/\Mono ν g { g with w:=g.w.setCells b off vs,h:=set g.h id (.buf v' e es') }:=by
 obtain⟨hnI,hsoft⟩:¬g.I b/\Soft g.w b:=by
  obtain⟨b',h1,h2,h3,_⟩:=r.ob id _ hg;rw[hφ]at h1;cases h1;exact⟨h2,h3⟩
 have hrest:=setCells_rest g.w b vs off;have ht:=r.turn (s:=id) (ob:=.buf v' e es') (p:=g.φ id) (w':=g.w.setCells b off vs) (I':=g.I) hg (λb' h=>by rw[hφ]at h;cases h;exact hnI) (by rw[setCells_size];exact Nat.le_refl _) hrest.1 hrest.2.1 hrest.2.2
  (λb' _ hne=>setCells_other _ _ _ _ _ λhe=>hne (by rw[he];exact hφ)) (λ_ h=>h) (λ_ h=>.inl h) (.inl rfl) (λb' h=>(r.ty id _ b' hg h).same (shape_setCells _ _ _ _ _))
  (λu o n ver ho=>by
   unfold OwnAt at ho ⊢;rw[hg]at ho;simp only[get_set_same,updφ_same];obtain⟨h1,h2⟩:=ho;rcases hv with⟨rfl,hl⟩|rfl
   ·refine⟨h1,λhe=>?_⟩;have:=h2 he;rw[hφ]at this ⊢;exact this.put hl λc hc=>setCells_some _ _ _ _ hcells _ hc
   ·exact⟨by omega,λhe=>by omega⟩)
  (λu ver i j hr=>by
   unfold RefAt at hr ⊢;rw[hg]at hr;simp only[get_set_same,updφ_same];obtain⟨h1,h2⟩:=hr;rcases hv with⟨rfl,hl⟩|rfl
   ·exact⟨h1,h2⟩
   ·exact⟨by omega,λhe=>by omega⟩)
  (λ_ hm=>⟨b,(updφ_same _ _ _).trans hφ,hnI,⟨by rw[setCells_size];exact hsoft.1,λo=>by rw[World.frozen?_setCells];exact hsoft.2 o⟩,hrow _ rfl hm⟩)
 rw[updφ_self]at ht;exact ht
theorem RowG.len {b e:Nat} {es:List (List AV)} (h:RowG ν g b e es) {i j:Nat} {c:List AV} {x:AV} (h1:es[i]?=some c) (h2:c[j]?=some x):j<e:=by
 have:=lt_of_some h2
 rwa [h.1 c (List.mem_of_getElem? h1)]at this
theorem row_set {g':Gh} {b e i j:Nat} {es:List (List AV)} {c l:List AV} {vs:List Value} (hrow:RowG ν g b e es) (hc:es[i]?=some c) (hfit:j+l.length<=e) (hl:vs.length=l.length)
  (hv:∀(m:Nat) (x:AV),l[m]?=some x->∃u,vs[m]?=some u/\u.oneCell'=true/\RA ν g u x) (hex:∀m,m<vs.length->(g.w.cell? ⟨b,i*e+j+m,none⟩).isSome=true)
  (hw:g'.w=g.w.setCells b (i*e+j) vs) (hm:Mono ν g g'):RowG ν g' b e (es.set i (splice c j l)):=by
 have hce:c.length=e:=hrow.1 c (List.mem_of_getElem? hc);have hi:=lt_of_some hc;refine⟨λc' hc'=>?_,λi2 j2 c' x' h1 h2=>?_⟩
 ·rcases List.mem_or_eq_of_mem_set hc' with h | h
  ·exact hrow.1 c' h
  ·rw[h,splice_length _ _ _ (by omega)];exact hce
 ·rw[hw,setCells_cell _ _ _ _ hex];rw[List.getElem?_set]at h1;by_cases h2i:i=i2
  ·subst h2i;rw[if_pos rfl,if_pos hi]at h1;cases h1;rw[splice_get _ _ _ (by omega)]at h2;by_cases hin:j<=j2/\j2<j+l.length
   ·rw[if_pos hin]at h2;rw[if_pos (by omega)];obtain⟨u,hu,h3,h4⟩:=hv _ x' h2;exact⟨u,by rw[show i*e+j2 - (i*e+j)=j2 - j by omega];exact hu,h3,hm _ _ h4⟩
   ·rw[if_neg hin]at h2;rw[if_neg (by omega)];obtain⟨u,h3,h4,h5⟩:=hrow.2 i j2 c x' hc h2;exact⟨u,h3,h4,hm _ _ h5⟩
  ·rw[if_neg h2i]at h1;have hj2:=hrow.len h1 h2;have hapart:¬(i*e+j<=i2*e+j2/\i2*e+j2<i*e+j+vs.length):=by
    intro⟨ha,hb⟩;rcases Nat.lt_or_gt_of_ne h2i with hlt | hlt
    ·have:i*e+e<=i2*e:=by rw[<-Nat.succ_mul];exact Nat.mul_le_mul_right _ hlt
     omega
    ·have:i2*e+e<=i*e:=by rw[<-Nat.succ_mul];exact Nat.mul_le_mul_right _ hlt
     omega
   rw[if_neg hapart];obtain⟨u,h3,h4,h5⟩:=hrow.2 i2 j2 c' x' h1 h2;exact⟨u,h3,h4,hm _ _ h5⟩
theorem store_at (r:Rel ν k g) {sz:Nat} {va vx:Value} {a x y:AV} (hva:RA ν g va a) (hvx:RA ν g vx x) {h':Hp}
  (e':(store sz a x).run g.h=some (y,h')) :
  ∃b off g',va = .pointer (some ⟨b,off,none⟩)/\y = .tup []/\g'.w=g.w.setCells b off vx.cells.toList/\vx.cells.size=sz/\(∀o,g.w.frozen? ⟨b,o,none⟩=false)/\(∀m,m<sz->(g.w.cell? ⟨b,off+m,none⟩).isSome=true)/\
   g'.h=h'/\Rel ν k g'/\Mono ν g g'/\∀u ∈ vx.cells.toList,u.oneCell'=true:=by
 obtain⟨xs,h1,e1,e2⟩:=Mbind_someZ e';obtain⟨rfl,hs,hc⟩:=cells_run e1 hvx;obtain⟨hl,e4⟩:=M.ok_bind e2;have hl':xs.length=sz:=by simpa using hl
 have hone:∀u ∈ vx.cells.toList,u.oneCell'=true:=by
  intro u hu;obtain⟨j,hj,rfl⟩:=List.getElem_of_mem hu;simp only[Array.length_toList]at hj;obtain⟨u',h1,h2,_⟩:=hc j _ (List.getElem?_eq_getElem (by omega));rw[Array.getElem?_eq_getElem hj]at h1;cases h1;simpa using h2
 split at e4
 case h_2=>exact(Mfail_someZ e4).elim
 rename_i id ver i' j;cases hva with
 |ref hr1 hr=>
  obtain⟨ob,hg,e6⟩:=M.look_bind e4;unfold RefAt at hr;rw[hg]at hr;cases ob with
  |imm _ _ _=>exact(Mfail_someZ e6).elim
  |icl _=>exact(Mfail_someZ e6).elim
  |map _=>exact(Mfail_someZ e6).elim
  |cells cs=>
   obtain⟨rfl,rfl,b,hφ,rfl⟩:=hr;obtain⟨hfit,e8⟩:=M.ok_bind e6;have hfit':j+sz<=cs.length:=by simpa using hfit
   obtain⟨_,h6,e11,e12⟩:=Mbind_someZ e8;obtain rfl:=Mwrite_someZ e11;obtain⟨rfl,rfl⟩:=Mret_someZ e12;obtain⟨b',hφ',hnI,hsoft,hcc⟩:=r.ob id _ hg;rw[hφ]at hφ';cases hφ';have hex:∀m,m<vx.cells.toList.length->(g.w.cell? ⟨b,j+m,none⟩).isSome=true:=by
    intro m hm;simp only[Array.length_toList]at hm;obtain⟨u,hu,_⟩:=hcc (j+m) _ (List.getElem?_eq_getElem (by omega));rw[hu];rfl
   have hrest:=setCells_rest g.w b vx.cells.toList j;have ht:=r.turn (s:=id) (ob:=.cells (splice cs j xs)) (p:=g.φ id) (w':=g.w.setCells b j vx.cells.toList) (I':=g.I) hg (λb' h=>by rw[hφ]at h;cases h;exact hnI)
    (by rw[setCells_size];exact Nat.le_refl _) hrest.1 hrest.2.1 hrest.2.2
    (λb' _ hne=>setCells_other _ _ _ _ _ λhe=>hne (by rw[he];exact hφ)) (λ_ h=>h) (λ_ h=>.inl h) (.inl rfl) (λb' h=>(r.ty id _ b' hg h).same (shape_setCells _ _ _ _ _))
    (λu o n ver ho=>by
     unfold OwnAt at ho ⊢;rw[hg]at ho;simp only[get_set_same,updφ_same];refine⟨ho.1,?_⟩;have:=ho.2;rw[hφ]at this ⊢;exact this.put (by rw[splice_length _ _ _ (by omega)]) λc hc=>setCells_some _ _ _ _ hex _ hc)
    (λu ver m n hr=>by
     unfold RefAt at hr ⊢;rw[hg]at hr;simp only[get_set_same,updφ_same];exact hr)
    (λ_ hm=>by
     refine⟨b,(updφ_same _ _ _).trans hφ,hnI,⟨by rw[setCells_size];exact hsoft.1,λo=>by rw[World.frozen?_setCells];exact hsoft.2 o⟩,λm c hm'=>?_⟩;rw[splice_get _ _ _ (by omega)]at hm';simp only[];rw[setCells_cell _ _ _ _ hex];simp only[Array.length_toList,hs,hl'];by_cases hin:j<=m/\m<j+sz
     ·rw[if_pos (by omega)]at hm';rw[if_pos hin];obtain⟨u,h1,h2,h3⟩:=hc _ c hm';exact⟨u,by simpa using h1,h2,hm _ _ h3⟩
     ·rw[if_neg (by omega)]at hm';rw[if_neg hin];obtain⟨u,h1,h2,h3⟩:=hcc m c hm';exact⟨u,h1,h2,hm _ _ h3⟩)
   rw[updφ_self]at ht;exact⟨b,j,_,rfl,rfl,rfl,by omega,hsoft.2,by simpa[hs,hl']using hex,rfl,ht.1,ht.2,hone⟩
  |buf v e es=>
   obtain⟨hok,e12⟩:=M.ok_bind e6;simp only[Bool.and_eq_true,beq_iff_eq,Nat.ble_eq]at hok;obtain⟨hv,hfit⟩:=hok;obtain⟨c,hci,e14⟩:=M.lift_bind e12;obtain⟨_,h8,e15,e16⟩:=Mbind_someZ e14;obtain rfl:=Mwrite_someZ e15;obtain⟨rfl,rfl⟩:=Mret_someZ e16;obtain⟨b,hφ,rfl⟩:=hr.2 hv;obtain⟨b',h1,hnI,hsoft,hrow⟩:=r.ob id _ hg;rw[hφ]at h1;cases h1;have hce:c.length=e:=hrow.1 c (List.mem_of_getElem? hci);have hex:∀m,m<vx.cells.toList.length->(g.w.cell? ⟨b,i'*e+j+m,none⟩).isSome=true:=by
    intro m hm;simp only[Array.length_toList]at hm;obtain⟨u,hu,_⟩:=hrow.2 i' (j+m) c _ hci (List.getElem?_eq_getElem (by omega));rw[Nat.add_assoc,hu];rfl
   have hput:=r.put (id:=id) (v:=v) (e:=e) (b:=b) (off:=i'*e+j) (v':=v) (es:=es) (es':=es.set i' (splice c j xs)) (vs:=vx.cells.toList) hg hφ hex (.inl ⟨rfl,by simp⟩)
    (λg' hw hm=>row_set hrow hci (by omega) (by simp;omega) (λm x h=>by obtain⟨u,h1,h2,h3⟩:=hc m x h;exact⟨u,by simpa using h1,h2,h3⟩) hex hw hm)
   exact⟨b,i'*e+j,_,rfl,rfl,rfl,by omega,hsoft.2,by simpa[hs,hl']using hex,rfl,hput.1,hput.2,hone⟩
theorem store_ok (r:Rel ν k g) {t:TypeId} {sz:Nat} (ht:sizeB P t sz=true) {va vx:Value} {a x y:AV} (hva:RA ν g va a) (hvx:RA ν g vx x) {h':Hp}
  (e':(store sz a x).run g.h=some (y,h')) :
  ∃g',(Instr.storeAt t va vx).run P g.w = .ok () g'.w/\y = .tup []/\g'.h=h'/\Rel ν k g'/\Mono ν g g':=by
 obtain⟨i,hi,rfl⟩:=sizeB_spec ht;obtain⟨b,off,g',rfl,h1,h2,h3,h4,h5,h6,h7,h8,h9⟩:=store_at r hva hvx e';exact⟨g',by rw[h2];exact storeAt_run hi h3 (by simpa using h5) h4 h9,h1,h6,h7,h8⟩
end
section
variable {ν:Nat->Nat} {P:Program} {k:Cx} {g:Gh}
def RowA (ν:Nat->Nat) (g:Gh) (vs:Array Value) (e:Nat) (es:List (List AV)):Prop:=
 vs.size=es.length*e/\(∀c ∈ es,c.length=e)/\∀(i j:Nat) (c:List AV) (x:AV),es[i]?=some c->c[j]?=some x->∃u,vs[i*e+j]?=some u/\u.oneCell'=true/\RA ν g u x
theorem RowA.step {vs us:Array Value} {e i0:Nat} {es:List (List AV)} {l:List AV} (h:RowA ν g vs e es) (hi:i0<es.length) (hu:us.size=e) (hl:l.length=e)
  (hr:∀(m:Nat) (x:AV),l[m]?=some x->∃u,us[m]?=some u/\u.oneCell'=true/\RA ν g u x) :
  RowA ν g ((us.toList.zipIdx).foldl (λcs (p:Value×Nat)=>cs.setIfInBounds (i0*e+p.2) p.1) vs) e (es.set i0 l):=by
 have hfit:i0*e+e<=vs.size:=by rw[h.1,<-Nat.succ_mul];exact Nat.mul_le_mul_right _ hi
 have hs:=fillFold_spec (i0*e) us.toList 0 vs (by simp;omega);simp only[Nat.add_zero,Array.length_toList,hu]at hs;refine⟨by rw[hs.1,h.1];simp,λc hc=>?_,λi j c x h1 h2=>?_⟩
 ·rcases List.mem_or_eq_of_mem_set hc with h' | h'
  ·exact h.2.1 c h'
  ·rw[h',hl]
 ·rw[hs.2,List.getElem?_set]at *;by_cases hii:i0=i
  ·subst hii;rw[if_pos rfl,if_pos hi]at h1;cases h1;have hj:=lt_of_some h2;rw[if_pos (by omega),show i0*e+j - i0*e=j by omega];simpa using hr j x h2
  ·rw[if_neg hii]at h1;have hj:j<e:=by have:=lt_of_some h2;rw[h.2.1 c (List.mem_of_getElem? h1)]at this;exact this
   have hapart:¬(i0*e<=i*e+j/\i*e+j<i0*e+e):=by
    intro⟨ha,hb⟩;rcases Nat.lt_or_gt_of_ne hii with hlt | hlt
    ·have:i0*e+e<=i*e:=by rw[<-Nat.succ_mul];exact Nat.mul_le_mul_right _ hlt
     omega
    ·have:i*e+e<=i0*e:=by rw[<-Nat.succ_mul];exact Nat.mul_le_mul_right _ hlt
     omega
   rw[if_neg hapart];exact h.2.2 i j c x h1 h2
theorem parts_run {e n:Nat}:∀(ps:List (Nat×AV)) (h h':Hp) (out:List (Nat×List AV)),
  (M.mapL (λp:Nat×AV=>(cellsM p.2).bind λxs=>(M.ok (xs.length==e&&Nat.blt p.1 n)).bind λ_=>M.ret (p.1,xs)) ps).run h=some (out,h')->
  ∀vs:List (Nat×Value),vs.length=ps.length->(∀(j:Nat) (q:Nat×Value) (p:Nat×AV),vs[j]?=some q->ps[j]?=some p->q.1=p.1/\RA ν g q.2 p.2)->
  h'=h/\out.length=vs.length/\∀(j:Nat) (p:Nat×List AV) (q:Nat×Value),out[j]?=some p->vs[j]?=some q->
   q.1=p.1/\p.1<n/\q.2.cells.size=e/\p.2.length=e/\∀(m:Nat) (x:AV),p.2[m]?=some x->∃u,q.2.cells[m]?=some u/\u.oneCell'=true/\RA ν g u x:=by
 intro ps
 induction ps with
 |nil=>
  intro h h' out e' vs hl _;obtain⟨rfl,rfl⟩:=MmapL_nilZ e';have:vs=[]:=List.eq_nil_of_length_eq_zero hl;subst this;exact⟨rfl,rfl,λj p q h=>by simp at h⟩
 |cons p ps ih=>
  intro h h' out e' vs hl hv;obtain⟨y,h1,zs,e1,e2,rfl⟩:=MmapL_consZ e';cases vs with
  |nil=>simp at hl
  |cons q vs=>
   obtain⟨hq,hqR⟩:=hv 0 q p rfl rfl;obtain⟨xs,h2,e3,e4⟩:=Mbind_someZ e1;obtain⟨rfl,hs,hc⟩:=cells_run e3 hqR;obtain⟨hok,e6⟩:=M.ok_bind e4;simp only[Bool.and_eq_true,beq_iff_eq,Nat.blt_eq]at hok;obtain⟨rfl,rfl⟩:=Mret_someZ e6;obtain⟨rfl,hl2,hr2⟩:=ih _ h' zs e2 vs (by simpa using hl) λj q' p' h1 h2=>hv (j+1) q' p' (by simpa using h1) (by simpa using h2)
   refine⟨rfl,by simp[hl2],λj p' q' h1 h2=>?_⟩;cases j with
   |zero=>
    simp at h1 h2;subst h1 h2;exact⟨hq,hok.2,by omega,hok.1,hc⟩
   |succ j=>exact hr2 j p' q' (by simpa using h1) (by simpa using h2)
theorem fill_row {e:Nat}:∀(out:List (Nat×List AV)) (vs:List (Nat×Value)) (cells:Array Value) (es:List (List AV)),out.length=vs.length->RowA ν g cells e es->
  (∀(j:Nat) (p:Nat×List AV) (q:Nat×Value),out[j]?=some p->vs[j]?=some q->
   q.1=p.1/\p.1<es.length/\q.2.cells.size=e/\p.2.length=e/\∀(m:Nat) (x:AV),p.2[m]?=some x->∃u,q.2.cells[m]?=some u/\u.oneCell'=true/\RA ν g u x)->
  ∃cells',Instr.fill (λi=>some (i*e,e)) cells vs=some cells'/\RowA ν g cells' e (setAll es out):=by
 intro out
 induction out with
 |nil=>
  intro vs cells es hl hrow _;have:vs=[]:=List.eq_nil_of_length_eq_zero hl.symm;subst this;exact⟨cells,rfl,hrow⟩
 |cons p out ih=>
  intro vs cells es hl hrow hh;cases vs with
  |nil=>simp at hl
  |cons q vs=>
   obtain⟨h1,h2,h3,h4,h5⟩:=hh 0 p q rfl rfl;have hstep:=hrow.step (i0:=p.1) (us:=q.2.cells) (l:=p.2) h2 h3 h4 h5;obtain⟨c',hc',hr'⟩:=ih vs _ (es.set p.1 p.2) (by simpa using hl) hstep λj p' q' a b=>by
    obtain⟨x1,x2,x3⟩:=hh (j+1) p' q' (by simpa using a) (by simpa using b);exact⟨x1,by simpa using x2,x3⟩
   refine⟨c',?_,hr'⟩;rw[<-hc'];have hfit:¬(cells.size<q.1*e+e):=by
    have:p.1*e+e<=es.length*e:=by rw[<-Nat.succ_mul];exact Nat.mul_le_mul_right _ h2
    rw[hrow.1,h1];omega
   obtain⟨i,v⟩:=q;simp only at h1 h3 hfit;subst h1;simp only[Instr.fill,h3];rw[if_neg (by simp;omega)];congr 1;rw[<-Array.foldl_toList,Array.toList_zipIdx]
def bslK (P:Program) (t:TypeId) (len e:Nat) (z:List AV):Bool:=
 match P.underlying t with
 |some (.slice el)=>sizeB P el e&&zeroK P el z&&Nat.ble (len*e) 16777216&&z.length==e&&Nat.blt 0 e
 |_=>false
theorem zeros_row {zs:Array Value} {z:List AV} (hz:kVals zs.toList z=true) (n:Nat) :
  RowA ν g ((Array.range (n*zs.size)).map (zs[· % zs.size]!)) zs.size (List.replicate n z):=by
 obtain⟨h1,h2⟩:=kVals_ok hz;refine⟨by simp,λc hc=>by rw[List.eq_of_mem_replicate hc];simpa using h1.symm,λi j c x hi hj=>?_⟩;have hi':=lt_of_some hi;simp only[List.length_replicate]at hi';rw[List.getElem?_replicate,if_pos hi']at hi;cases hi;have hjl:=lt_of_some hj;obtain⟨v,hv,hc⟩:=h2 j x hj;have hjz:j<zs.size:=by simp at h1;omega
 have hlt:i*zs.size+j<n*zs.size:=by
  have:i*zs.size+zs.size<=n*zs.size:=by rw[<-Nat.succ_mul];exact Nat.mul_le_mul_right _ hi'
  omega
 obtain⟨k1,k2⟩:=kVal_ok (ν:=ν) hc g;refine⟨v,?_,k1,k2⟩;have hmod:(i*zs.size+j) % zs.size=j:=by rw[Nat.add_comm,Nat.add_mul_mod_self_right,Nat.mod_eq_of_lt hjz]
 simp only[Array.getElem?_map,Array.getElem?_range,if_pos hlt,Option.map_some,hmod];rw[getElem!_pos zs j hjz];have:zs[j]?=some v:=by simpa using hv
 rw[Array.getElem?_eq_getElem hjz]at this;exact this
theorem newRow_ok (r:Rel ν k g) {slot e n cap:Nat} {el:TypeId} {es:List (List AV)} {cells:Array Value} {w0:World} (hw:w0=g.w\/w0=g.w.drew) (hf:get g.h slot=none) (hty:slot % 4=0\/slot % 4=2/\el=ν tyByte) (hn:es.length=n) (hl:∀c ∈ es,c.length=e) (hcap:n<=cap)
  (hsz:cells.size=cap*e) (hrow:∀(i j:Nat) (c:List AV) (x:AV),es[i]?=some c->c[j]?=some x->∃u,cells[i*e+j]?=some u/\u.oneCell'=true/\RA ν g u x) :
  Done ν k g (set g.h slot (.buf 0 e es)) (.own slot 0 n 0) (.ok (.slice (some ⟨g.w.heap.size,0,none⟩) n cap) (w0.alloc (.cells cells el))):=by
 have hhp:w0.heap=g.w.heap:=by rcases hw with rfl | rfl<;>rfl
 have hosz:(w0.alloc (.cells cells el)).os=g.w.os/\(w0.alloc (.cells cells el)).tape=g.w.tape/\(w0.alloc (.cells cells el)).output=g.w.output:=by rcases hw with rfl | rfl<;>exact⟨rfl,rfl,rfl⟩
 have hn':=r.new (s:=slot) (ob:=.buf 0 e es) (p:=some g.w.heap.size) (w':=w0.alloc (.cells cells el)) hf (by simp[hhp]) hosz.1 hosz.2.1 hosz.2.2 (λb hb=>by rw[alloc_old w0 _ _ (by rw[hhp];exact hb),hhp])
  (λb h=>by cases h;exact Nat.le_refl _) (λb h=>by
   cases h;rcases hty with h | ⟨h,rfl⟩
   ·exact .zero h
   ·exact⟨by omega,λ_=>⟨cells.size,by rw[<-hhp];exact shape_alloc_new _ _ _⟩,by omega⟩) λhm=>by
   refine⟨g.w.heap.size,updφ_same _ _ _,λhi'=>Nat.lt_irrefl _ (r.small _ hi'),⟨by simp[hhp],λo=>by rw[<-hhp];exact World.frozen?_alloc_new _ _ _ _⟩,hl,λa b c x h1 h2=>?_⟩;obtain⟨u,hu',h3,hR⟩:=hrow a b c x h1 h2;exact⟨u,by simp only[];rw[<-hhp,World.cell?_alloc_new];exact hu',h3,hm _ _ hR⟩
 refine⟨_,_,rfl,rfl,hn'.1,hn'.2,.own rfl ?_⟩;unfold OwnAt;simp only[get_set_same,updφ_same];refine⟨Nat.le_refl _,λ_=>⟨0,cap,rfl,by omega,by omega,hcap,.inl (by simp),λ_ c hc=>?_⟩⟩;rw[<-hhp,World.cell?_alloc_new,Array.getElem?_eq_getElem (by rw[hsz];simpa using hc)];rfl
theorem bsl_ok (r:Rel ν k g) {slot:Nat} {t:TypeId} {n e:Nat} {z:List AV} (ht:bslK P t n e z=true) {ps:List (Nat×AV)} {vs:List (Nat×Value)} (hl:vs.length=ps.length)
  (hv:∀(j:Nat) (q:Nat×Value) (p:Nat×AV),vs[j]?=some q->ps[j]?=some p->q.1=p.1/\RA ν g q.2 p.2) {y:AV} {h':Hp}
  (e':((M.ok (z.length==e)).bind λ_=>
   (M.mapL (λp:Nat×AV=>(cellsM p.2).bind λxs=>(M.ok (xs.length==e&&Nat.blt p.1 n)).bind λ_=>M.ret (p.1,xs)) ps).bind λl=>
   (M.fresh (4*slot)).bind λ_=>(M.write (4*slot) (.buf 0 e (setAll (List.replicate n z) l))).bind λ_=>M.ret (.own (4*slot) 0 n 0)).run g.h=some (y,h')) :
  Done ν k g h' y ((Instr.buildSlice t n vs.toArray).run P g.w):=by
 unfold bslK at ht;split at ht
 case h_2=>cases ht
 rename_i el hu;simp only[Bool.and_eq_true,beq_iff_eq,Nat.ble_eq,Nat.blt_eq]at ht;obtain⟨⟨⟨⟨hsz,hz⟩,hbig⟩,hzl⟩,he0⟩:=ht;obtain⟨i,hi,hie⟩:=sizeB_spec hsz;obtain⟨i',v,hi',hzv,hcv⟩:=zeroK_spec hz;rw[hi]at hi';cases hi';subst hie;have hvs:v.cells.size=i.size:=by have:=(kVals_ok hcv).1;simp at this;omega
 obtain⟨-,e2⟩:=M.ok_bind e';obtain⟨out,h2,e3,e4⟩:=Mbind_someZ e2;obtain⟨rfl,hol,hout⟩:=parts_run ps _ _ out e3 vs hl hv;obtain⟨_,h3,e5,e6⟩:=Mbind_someZ e4;obtain⟨hf,rfl⟩:=M.fresh_some e5;obtain⟨_,h4,e7,e8⟩:=Mbind_someZ e6;obtain rfl:=Mwrite_someZ e7;obtain⟨rfl,rfl⟩:=Mret_someZ e8;have hrow0:=zeros_row (ν:=ν) (g:=g) hcv n;rw[hvs]at hrow0;obtain⟨cells,hfill,hrow⟩:=fill_row out vs _ _ hol hrow0 λj p q a b=>by
  obtain⟨x1,x2,x3⟩:=hout j p q a b;exact⟨x1,by simpa using x2,x3⟩
 have hlen:(setAll (List.replicate n z) out).length=n:=by
  have:∀(o:List (Nat×List AV)) (l:List (List AV)),(setAll l o).length=l.length:=by
   intro o
   induction o with
   |nil=>intro l;rfl
   |cons a o ih=>intro l;simp[setAll,ih]
  rw[this];simp
 have hrun:(Instr.buildSlice t n vs.toArray).run P g.w = .ok (.slice (some ⟨g.w.heap.size,0,none⟩) n n) (g.w.alloc (.cells cells el)):=by
  have hnb:¬(2 ^ 24<n*i.size):=by omega
  by_cases hn0:n=0
  ·subst hn0;simp only[Nat.zero_mul,Array.range_zero',List.map_toArray]at hfill;simp only[Instr.buildSlice,Sem.run_bind,run_underlying hu,Result.andThen_ok,run_sizeOf hi];simp at hfill;simp[hfill,newRow,Array.range_zero']
  ·simp only[Instr.buildSlice,Sem.run_bind,run_underlying hu,Result.andThen_ok,run_sizeOf hi];have hnz:¬n*i.size=0:=Nat.mul_ne_zero hn0 (by omega);simp[hnb,hnz,zeroValue,typeInfo,hi,hzv,hvs,hfill,newRow]
 rw[hrun];exact newRow_ok r (.inl rfl) hf (.inl (by omega)) hlen hrow.2.1 (Nat.le_refl _) (by rw[hrow.1,hlen]) hrow.2.2
theorem bs0_ok (r:Rel ν k g) {t:TypeId} {e:Nat} (ht:sliceB P t e=true):Done ν k g g.h (.iv (.nsl e)) ((Instr.buildSlice t 0 #[]).run P g.w):=by
 obtain⟨el,i,hu,hi,rfl⟩:=sliceB_spec ht;have hrun:(Instr.buildSlice t 0 #[]).run P g.w = .ok (.slice (some ⟨g.w.heap.size,0,none⟩) 0 0) (g.w.alloc (.cells #[] el)):=by
  simp only[Instr.buildSlice,Sem.run_bind,run_underlying hu,Result.andThen_ok,run_sizeOf hi];simp[newRow,Array.range_zero',Instr.fill]
 obtain⟨r',m⟩:=r.world (w':=g.w.alloc (.cells #[] el)) (I':=g.I) (λ_ h=>h) (λ_ h=>.inl h) (by simp) rfl rfl rfl λb hb=>alloc_old _ _ _ hb
 exact⟨{ g with I:=g.I,w:=g.w.alloc (.cells #[] el) },_,hrun,rfl,r',m,.iv (.nsl _ _)⟩
end
end Arx

/-
  WITH FEWER DELIVERIES, OR CROSSES
-/
import Derived.Test.YtobopdhlbpgepaaGreatArbG
set_option linter.all false
namespace Go.Proofs.YtobopdhlbpgepaaGreat
open Go.ChangeShapes Go.WideShapes Go.ChangeAt Go.RowKit
theorem own4:ownKnob Tryz.prog.godebug=none:=by kernel_rfl
theorem laid4:laidOutB Tryz.prog=true:=by kernel_rfl
set_option maxRecDepth 100000 in
theorem lifted4 (os:Os) (started:os.Started) (H:Type) (enc:TypeId×Value->H) :
  ReturnsInHanded {} Tryz.checked os 4 .any (Rows.traceFewerSpec.pre6 enc Tryz.prog Tryz.f4 Rows.traceFewerRow.domain false) (Rows.traceFewerSpec.post enc Tryz.prog Tryz.f4 false true false false):=by
 refine returnsInHanded_of_change (C:=Tryz.checked) own4 started (by kernel_rfl) Tryz.func4
  (ChangeSpec.witness6 (enc:=enc) (C:=Tryz.checked) false ⟨#[],#[.agg #[.slice none 0 0,.slice none 0 0,.int .i64 0,.int .u64 0],.slice none 0 0,.slice none 0 0,.slice none 0 0,.int .i64 0],[]⟩ 8 (by kernel_rfl) (by kernel_rfl) (by kernel_rfl) (by kernel_rfl)) ?_
 intro W base args ds gs before hval0 hW hcnd _;have hval:∀(j:Nat) t v,Tryz.f4.params[j]?=some t->args[j]?=some v->Value.okWide Tryz.prog W .any base t v:=hval0;have hW':=hW;obtain⟨p,q,hA0,hV,rfl,hfz,hnd⟩:=hW;have hA:DataW.TrodAll enc Tryz.prog W 0 (fun _=>true) true Tryz.f4.params.toList args.toList ds p:=hA0;rw[Tryz.params4]at hA hval;obtain⟨v0,vs0,d0,ds0,p0,q0,hargs,rfl,rfl,h0,r0⟩:=trodAll_cons hA;obtain⟨v1,vs1,d1,ds1,p1,q1,rfl,rfl,rfl,h1,r1⟩:=trodAll_cons r0;obtain⟨v2,vs2,d2,ds2,p2,q2,rfl,rfl,rfl,h2,r2⟩:=trodAll_cons r1;obtain⟨v3,vs3,d3,ds3,p3,q3,rfl,rfl,rfl,h3,r3⟩:=trodAll_cons r2;obtain⟨v4,vs4,d4,ds4,p4,q4,rfl,rfl,rfl,h4,r4⟩:=trodAll_cons r3
 obtain⟨rfl,rfl,rfl⟩:=trodAll_nil r4;obtain rfl:args=#[v0,v1,v2,v3,v4]:=by cases args;simp_all
 obtain⟨rfl,rfl⟩:=trodVars_none hV;have lt0:∀x ∈ p0,x.block<W.heap.size:=by obtain⟨m,hm⟩:=h0;exact DataW.trod_lt m _ _ _ hm
 have lt1:∀x ∈ p1,x.block<W.heap.size:=by obtain⟨m,hm⟩:=h1;exact DataW.trod_lt m _ _ _ hm
 have lt2:∀x ∈ p2,x.block<W.heap.size:=by obtain⟨m,hm⟩:=h2;exact DataW.trod_lt m _ _ _ hm
 have lt3:∀x ∈ p3,x.block<W.heap.size:=by obtain⟨m,hm⟩:=h3;exact DataW.trod_lt m _ _ _ hm
 have lt4:∀x ∈ p4,x.block<W.heap.size:=by obtain⟨m,hm⟩:=h4;exact DataW.trod_lt m _ _ _ hm
 obtain⟨x0,a0,e0⟩:=Arx.arg_read (ν:=Arx.Tied.nu) (eT:=65) (agg:=true) (ss:=Arx.shHd) (by kernel_rfl) (hval 0 25 v0 rfl rfl) h0 (g:=Arx.start W) rfl rfl;obtain⟨x1,a1,e1⟩:=Arx.arg_read (ν:=Arx.Tied.nu) (eT:=65) (agg:=false) (ss:=[.sl Arx.shOp]) (by kernel_rfl) (hval 1 26 v1 rfl rfl) h1 (g:=Arx.start W) rfl rfl;obtain⟨x2,a2,e2⟩:=Arx.arg_read (ν:=Arx.Tied.nu) (eT:=65) (agg:=false) (ss:=[.sl [.int .i64,.int .i64,.int .i64]]) (by kernel_rfl) (hval 2 27 v2 rfl rfl) h2 (g:=Arx.start W) rfl rfl;obtain⟨x3,a3,e3⟩:=Arx.arg_read (ν:=Arx.Tied.nu) (eT:=65) (agg:=false) (ss:=[.sl [.int .i64,.int .i64,.int .i64,.int .i64]]) (by kernel_rfl) (hval 3 36 v3 rfl rfl) h3 (g:=Arx.start W) rfl rfl
 obtain⟨x4,a4,e4⟩:=Arx.arg_read (ν:=Arx.Tied.nu) (eT:=65) (agg:=false) (ss:=[.int .i64]) (by kernel_rfl) (hval 4 3 v4 rfl rfl) h4 (g:=Arx.start W) rfl rfl;refine(Arx.law_true (f:=276) (cargs:=#[v0,v1,v2,v3,v4]) (xs:=[x0,x1,x2,x3,x4]) Arx.Tied.mixed Arx.Tied.tie1 Arx.Tied.tie2 (.cons e0 (.cons e1 (.cons e2 (.cons e3 (.cons e4 .nil))))) (Arx.traceFewer_top a0 a1 a2 a3 a4)).mono fun e W' ⟨he,bel⟩=>?_
 subst he;exact⟨_,rfl,_,_,_,[],_,[],hW',trodAll_mk1 (shut_bool Tryz.underlying4 _),(trodAll_cons_mk (Below.trod laid4 (by kernel_rfl) (of_decide_eq_true (by kernel_rfl)) h0 bel lt0) (trodAll_cons_mk (Below.trod laid4 (by kernel_rfl) (of_decide_eq_true (by kernel_rfl)) h1 bel lt1) (trodAll_cons_mk (Below.trod laid4 (by kernel_rfl) (of_decide_eq_true (by kernel_rfl)) h2 bel lt2) (trodAll_cons_mk (Below.trod laid4 (by kernel_rfl) (of_decide_eq_true (by kernel_rfl)) h3 bel lt3) (trodAll_cons_mk (Below.trod laid4 (by kernel_rfl) (of_decide_eq_true (by kernel_rfl)) h4 bel lt4) trodAll_mk0))))),rfl,bel.frame _,fun h=>by cases h⟩
theorem over4:Rows.traceFewerRow.holds Tryz.pinned (OpenSpec.ofChange Rows.traceFewerSpec):=
 OpenClaim.holds_of_wide 4 Tryz.f4 rfl rfl rfl rfl rfl rfl rfl ⟨rfl,rfl,rfl,rfl,rfl⟩ rfl rfl rfl rfl rfl (by kernel_rfl) Tryz.func4 (by kernel_rfl)
  (of_decide_eq_true (by kernel_rfl)) (by unfold Func.isWrapper;first | (rw[if_pos (by decide +kernel)];kernel_rfl) | (rw[if_neg (by decide +kernel)];exact⟨rfl,rfl⟩))
  (fun os started H enc _=>lifted4 os started H enc)
theorem proved:Rows.TraceFewerSaid:=over4
#print axioms proved
end Go.Proofs.YtobopdhlbpgepaaGreat

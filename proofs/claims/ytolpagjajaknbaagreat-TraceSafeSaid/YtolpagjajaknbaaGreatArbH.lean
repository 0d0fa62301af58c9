/-
  TraceSafe: of any deliveries those that may not be, and what is missing, are the document's. No condition.
-/
import Derived.Test.YtolpagjajaknbaaGreatArbG
set_option linter.all false
namespace Go.Proofs.YtolpagjajaknbaaGreat
open Go.ChangeShapes Go.WideShapes Go.ChangeAt Go.RowKit
theorem abh:ownKnob Tryz.prog.godebug=none:=by kernel_rfl
theorem KC:laidOutB Tryz.prog=true:=by kernel_rfl
set_option maxRecDepth 100000 in
theorem RM (os:Os) (started:os.Started) (H:Type) (enc:TypeId×Value->H) :
  ReturnsInHanded {} Tryz.checked os 3 .any (Rows.traceSafeSpec.pre6 enc Tryz.prog Tryz.f3 Rows.traceSafeRow.domain false) (Rows.traceSafeSpec.post enc Tryz.prog Tryz.f3 false true false false):=by
 refine returnsInHanded_of_change (C:=Tryz.checked) abh started (by kernel_rfl) Tryz.func3
  (ChangeSpec.witness6 (enc:=enc) (C:=Tryz.checked) false ⟨#[],#[.agg #[.slice none 0 0,.slice none 0 0,.int .i64 0,.int .u64 0],.slice none 0 0,.slice none 0 0],[]⟩ 8 (by kernel_rfl) (by kernel_rfl) (by kernel_rfl) (by kernel_rfl)) ?_
 intro W base args ds gs before XU hW abR _;have mi:∀(j:Nat) t v,Tryz.f3.params[j]?=some t->args[j]?=some v->Value.okWide Tryz.prog W .any base t v:=XU;have hW':=hW;obtain⟨p,q,hA0,hV,rfl,Qf,Cp⟩:=hW;have hA:DataW.TrodAll enc Tryz.prog W 0 (λ_=>true) true Tryz.f3.params.toList args.toList ds p:=hA0;rw[Tryz.params3]at hA mi;obtain⟨v0,vs0,d0,ds0,p0,q0,abo,rfl,rfl,h0,r0⟩:=trodAll_cons hA;obtain⟨v1,vs1,d1,ds1,p1,q1,rfl,rfl,rfl,h1,r1⟩:=trodAll_cons r0;obtain⟨v2,vs2,d2,ds2,p2,q2,rfl,rfl,rfl,h2,r2⟩:=trodAll_cons r1;obtain⟨rfl,rfl,rfl⟩:=trodAll_nil r2;obtain rfl:args=#[v0,v1,v2]:=by cases args;simp_all
 obtain⟨rfl,rfl⟩:=trodVars_none hV;have lt0:∀x ∈ p0,x.block<W.heap.size:=by obtain⟨m,hm⟩:=h0;exact DataW.trod_lt m _ _ _ hm
 have lt1:∀x ∈ p1,x.block<W.heap.size:=by obtain⟨m,hm⟩:=h1;exact DataW.trod_lt m _ _ _ hm
 have lt2:∀x ∈ p2,x.block<W.heap.size:=by obtain⟨m,hm⟩:=h2;exact DataW.trod_lt m _ _ _ hm
 obtain⟨x0,a0,e0⟩:=ay.zl (ν:=ay.fY.nu) (eT:=87) (agg:=true) (ss:=ay.Oj) (by kernel_rfl) (mi 0 25 v0 rfl rfl) h0 (g:=ay.start W) rfl rfl;obtain⟨x1,a1,e1⟩:=ay.zl (ν:=ay.fY.nu) (eT:=87) (agg:=false) (ss:=[.sl ay.Oi]) (by kernel_rfl) (mi 1 26 v1 rfl rfl) h1 (g:=ay.start W) rfl rfl;obtain⟨x2,a2,e2⟩:=ay.zl (ν:=ay.fY.nu) (eT:=87) (agg:=false) (ss:=[.sl [.int .i64,.int .i64,.int .i64]]) (by kernel_rfl) (mi 2 27 v2 rfl rfl) h2 (g:=ay.start W) rfl rfl;refine(ay.NV (f:=278) (bP:=#[v0,v1,v2]) (xs:=[x0,x1,x2]) ay.fY.mixed ay.fY.NW ay.fY.JK (.cons e0 (.cons e1 (.cons e2 .nil))) (ay.Dn a0 a1 a2)).mono λe W' ⟨he,QF⟩=>?_
 subst he;exact⟨_,rfl,_,_,_,[],_,[],hW',trodAll_mk1 (shut_bool Tryz.underlying4 _),(trodAll_cons_mk (Below.trod KC (by kernel_rfl) (of_decide_eq_true (by kernel_rfl)) h0 QF lt0) (trodAll_cons_mk (Below.trod KC (by kernel_rfl) (of_decide_eq_true (by kernel_rfl)) h1 QF lt1) (trodAll_cons_mk (Below.trod KC (by kernel_rfl) (of_decide_eq_true (by kernel_rfl)) h2 QF lt2) trodAll_mk0))),rfl,QF.frame _,λh=>by cases h⟩
theorem XV:Rows.traceSafeRow.holds Tryz.pinned (OpenSpec.ofChange Rows.traceSafeSpec):=
 OpenClaim.holds_of_wide 3 Tryz.f3 rfl rfl rfl rfl rfl rfl rfl ⟨rfl,rfl,rfl,rfl,rfl⟩ rfl rfl rfl rfl rfl (by kernel_rfl) Tryz.func3 (by kernel_rfl)
  (of_decide_eq_true (by kernel_rfl)) (by unfold Func.isWrapper;first | (rw[if_pos (by decide +kernel)];kernel_rfl) | (rw[if_neg (by decide +kernel)];exact⟨rfl,rfl⟩))
  (λos started H enc _=>RM os started H enc)
theorem proved:Rows.TraceSafeSaid:=XV
#print axioms proved
end Go.Proofs.YtolpagjajaknbaaGreat

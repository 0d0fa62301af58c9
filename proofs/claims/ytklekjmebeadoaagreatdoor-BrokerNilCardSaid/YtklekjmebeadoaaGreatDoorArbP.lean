/-
  A part of the proof: two abstract machines for the code, and what the program does on them. No condition.
-/
import Derived.Test.YtklekjmebeadoaaGreatDoorArbO
set_option linter.all false
namespace Go.Proofs.YtklekjmebeadoaaGreatDoor
open Go.ChangeShapes Go.WideShapes Go.ChangeAt Go.RowKit
theorem I7:ownKnob Tryz.prog.godebug=none:=by kernel_rfl
theorem FF:laidOutB Tryz.prog=true:=by kernel_rfl
theorem zI (os:Os) (args:Array Value):laidMetH Tryz.prog Rows.brokerNilRow.laid ((World.doorLaid Tryz.prog 400 os).forCall (λ_ _=>0) ⟨#[],args,[]⟩).memory:=
 laidMetH_of_parts3 (fuel:=8) (laidMet_of_run' 8 (by kernel_rfl) (by kernel_rfl)) (by kernel_rfl) (by kernel_rfl)
set_option maxRecDepth 100000 in
theorem Cb (os:Os) (started:os.Started) (H:Type) (enc:TypeId×Value->H) :
  ReturnsInHanded {} Tryz.checked os 3 .any (λw args=>(Rows.brokerNilSpec.pre enc Tryz.prog Tryz.f3 [] false w args/\laidMetH Tryz.prog Rows.brokerNilRow.laid w)/\sizedMet enc Tryz.prog Tryz.f3 (OpenSpec.ofChange Rows.brokerNilSpec) false w args) (Rows.brokerNilSpec.post enc Tryz.prog Tryz.f3 false true false false):=by
 refine returnsInHanded_of_change_and (C:=Tryz.checked) (X:=λw _=>laidMetH Tryz.prog Rows.brokerNilRow.laid w) (λ_ _ _ hh h=>h.of_heap hh) I7 started (by kernel_rfl) Tryz.func3
  (ChangeSpec.witness_shaped (enc:=enc) (C:=Tryz.checked) (os:=os) (X:=λw _=>laidMetH Tryz.prog Rows.brokerNilRow.laid w) false (World.doorLaid Tryz.prog 400 os) #[.agg #[.int .i64 0,.int .i64 0,.int .i64 0,.int .i64 0,.int .i64 0,.int .i64 0,.bool false,.slice none 0 0,.bool false,.slice none 0 0,.slice none 0 0,.int .i64 0,.int .i64 0,.string .empty,.int .i64 0,.int .i64 0,.string .empty,.int .i64 0,.int .i64 0,.string .empty,.int .i64 0,.int .i64 0,.string .empty,.bool false,.slice none 0 0,.slice none 0 0,.int .i64 0,.int .i64 0,.int .i64 0,.int .i64 0,.string .empty,.int .i64 0,.int .i64 0,.string .empty,.int .i64 0,.int .i64 0,.string .empty,.int .i64 0,.int .i64 0,.string .empty]] 8 rfl (World.shaped_of_RefB (by kernel_rfl) (by kernel_rfl)) (by kernel_rfl) (by kernel_rfl) (by kernel_rfl) (zI os _)) ?_
 intro W base args ds gs before FG hW _ _ hL _;have gE:∀(j:Nat) t v,Tryz.f3.params[j]?=some t->args[j]?=some v->Value.okWide Tryz.prog W .any base t v:=FG;have Lc:=hW;obtain⟨p,q,Ld,hV,rfl,LC,td⟩:=hW;have hA:DataW.TrodAll enc Tryz.prog W 0 (λ_=>true) true Tryz.f3.params.toList args.toList ds p:=Ld;rw[Tryz.params3]at hA gE;obtain⟨v0,LD,d0,LF,p0,q0,Lj,rfl,rfl,h0,r0⟩:=trodAll_cons hA;obtain⟨rfl,rfl,rfl⟩:=trodAll_nil r0;obtain rfl:args=#[v0]:=by cases args;simp_all
 obtain⟨rfl,rfl⟩:=trodVars_none hV;have Le:∀x ∈ p0,x.block<W.heap.size:=by obtain⟨m,hm⟩:=h0;exact DataW.trod_lt m _ _ _ hm
 obtain⟨x0,a0,e0⟩:=au.zy (ν:=au.bT.nu) (eT:=28) (agg:=true) (ss:=au.xQ) (by kernel_rfl) (gE 0 42 v0 rfl rfl) h0 (g:=au.start W) rfl rfl;refine(au.AJ (f:=428) (aT:=#[v0]) (xs:=[x0]) au.bT.mixed au.bT.AK au.bT.xF (.cons e0 .nil) (au.tA a0)).mono λe W' ⟨he,Gf⟩=>?_
 subst he;exact⟨_,rfl,_,_,_,[],_,[],Lc,trodAll_mk1 (shut_bool Tryz.underlying4 _),(trodAll_cons_mk (Below.trod FF (by kernel_rfl) (of_decide_eq_true (by kernel_rfl)) h0 Gf Le) trodAll_mk0),rfl,Gf.frame _,λh=>by cases h⟩
end Go.Proofs.YtklekjmebeadoaaGreatDoor

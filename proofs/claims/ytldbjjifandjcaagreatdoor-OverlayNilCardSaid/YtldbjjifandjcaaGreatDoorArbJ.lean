/-
  A part of the proof: two abstract machines for the code, and what the program does on them. No condition.
-/
import Derived.Test.YtldbjjifandjcaaGreatDoorArbI
set_option linter.all false
namespace Go.Proofs.YtldbjjifandjcaaGreatDoor
open Go.ChangeShapes Go.WideShapes Go.ChangeAt Go.RowKit
theorem Iz:ownKnob Tryz.prog.godebug=none:=by kernel_rfl
theorem FB:laidOutB Tryz.prog=true:=by kernel_rfl
theorem zy (os:Os) (args:Array Value):laidMetH Tryz.prog Rows.overlayNilRow.laid ((World.doorLaid Tryz.prog 400 os).forCall (λ_ _=>0) ⟨#[],args,[]⟩).memory:=
 laidMetH_of_parts3 (fuel:=8) (laidMet_of_run' 8 (by kernel_rfl) (by kernel_rfl)) (by kernel_rfl) (by kernel_rfl)
set_option maxRecDepth 100000 in
theorem BN (os:Os) (started:os.Started) (H:Type) (enc:TypeId×Value->H) :
  ReturnsInHanded {} Tryz.checked os 3 .any (λw args=>(Rows.overlayNilSpec.pre enc Tryz.prog Tryz.f3 [] false w args/\laidMetH Tryz.prog Rows.overlayNilRow.laid w)/\sizedMet enc Tryz.prog Tryz.f3 (OpenSpec.ofChange Rows.overlayNilSpec) false w args) (Rows.overlayNilSpec.post enc Tryz.prog Tryz.f3 false true false false):=by
 refine returnsInHanded_of_change_and (C:=Tryz.checked) (X:=λw _=>laidMetH Tryz.prog Rows.overlayNilRow.laid w) (λ_ _ _ hh h=>h.of_heap hh) Iz started (by kernel_rfl) Tryz.func3
  (ChangeSpec.witness_shaped (enc:=enc) (C:=Tryz.checked) (os:=os) (X:=λw _=>laidMetH Tryz.prog Rows.overlayNilRow.laid w) false (World.doorLaid Tryz.prog 400 os) #[.agg #[.int .i64 0,.int .i64 0,.int .i64 0,.int .i64 0,.int .i64 0,.int .i64 0,.int .i64 0,.bool false,.slice none 0 0,.bool false,.slice none 0 0,.slice none 0 0,.int .i64 0,.int .i64 0,.string .empty,.int .i64 0,.int .i64 0,.string .empty,.int .i64 0,.int .i64 0,.string .empty,.int .i64 0,.int .i64 0,.string .empty]] 8 rfl (World.shaped_of_RefB (by kernel_rfl) (by kernel_rfl)) (by kernel_rfl) (by kernel_rfl) (by kernel_rfl) (zy os _)) ?_
 intro W base args ds gs before FC hW _ _ hL _;have fX:∀(j:Nat) t v,Tryz.f3.params[j]?=some t->args[j]?=some v->Value.okWide Tryz.prog W .any base t v:=FC;have Kx:=hW;obtain⟨p,q,Ky,hV,rfl,KY,ta⟩:=hW;have hA:DataW.TrodAll enc Tryz.prog W 0 (λ_=>true) true Tryz.f3.params.toList args.toList ds p:=Ky;rw[Tryz.params3]at hA fX;obtain⟨v0,KZ,d0,K0,p0,q0,KJ,rfl,rfl,h0,r0⟩:=trodAll_cons hA;obtain⟨rfl,rfl,rfl⟩:=trodAll_nil r0;obtain rfl:args=#[v0]:=by cases args;simp_all
 obtain⟨rfl,rfl⟩:=trodVars_none hV;have Kz:∀x ∈ p0,x.block<W.heap.size:=by obtain⟨m,hm⟩:=h0;exact DataW.trod_lt m _ _ _ hm
 obtain⟨x0,a0,e0⟩:=aB.Aj (ν:=aB.ej.nu) (eT:=28) (agg:=true) (ss:=aB.xD) (by kernel_rfl) (fX 0 34 v0 rfl rfl) h0 (g:=aB.start W) rfl rfl;refine(aB.Am (f:=414) (aS:=#[v0]) (xs:=[x0]) aB.ej.mixed aB.ej.An aB.ej.xw (.cons e0 .nil) (aB.sX a0)).mono λe W' ⟨he,F2⟩=>?_
 subst he;exact⟨_,rfl,_,_,_,[],_,[],Kx,trodAll_mk1 (shut_bool Tryz.underlying4 _),(trodAll_cons_mk (Below.trod FB (by kernel_rfl) (of_decide_eq_true (by kernel_rfl)) h0 F2 Kz) trodAll_mk0),rfl,F2.frame _,λh=>by cases h⟩
end Go.Proofs.YtldbjjifandjcaaGreatDoor

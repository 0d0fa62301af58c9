/-
  BrokerNil: a broker that is none does nothing. No condition.
-/
import Derived.Test.YtklekjmebeadoaaGreatDoorArbS
set_option linter.all false
namespace Go.Proofs.YtklekjmebeadoaaGreatDoor
open Go.ChangeShapes Go.WideShapes Go.ChangeAt Go.RowKit
theorem proved:Rows.BrokerNilCardSaid:=
 Claim7.holds_tied_plain_at .later [] [.data,.data,.data] true (true,"3fb25da2f47a386e9cf90a5a7b55b90a54a38b4632f251624d5ade9d03e2df97") false
  FH (λ_ h=>by cases h) (by kernel_rfl) (λ_ h=>by cases h) brokerNil_row_tie rfl ⟨rfl,rfl⟩ (by kernel_rfl) rfl
  (λf fn hf dp=>by
   obtain rfl:f=3:=Option.some.inj ((show Tryz.prog.funcNamed "arbour/arbourlaw19.BrokerNil"=some 3 by kernel_rfl).symm.trans hf) |>.symm;obtain rfl:fn=Tryz.f3:=(Option.some.inj (Tryz.func3.symm.trans dp)).symm;exact⟨by kernel_rfl,λj t ht=>by
    rw[Tryz.params3]at ht;have hm:t ∈ [42]:=by simpa using Array.mem_of_getElem? ht
    have eS:([42].all λu=>!Tryz.prog.wantsStandIn u)=true:=by kernel_rfl
    exact(show Tryz.prog.wantsStandIn t=false by simpa using List.all_eq_true.1 eS t hm)⟩)
  (by kernel_rfl)
#print axioms proved
end Go.Proofs.YtklekjmebeadoaaGreatDoor

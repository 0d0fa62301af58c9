/-
  OverlayNil: an overlay that is none does nothing. No condition.
-/
import Derived.Test.YtldbjjifandjcaaGreatDoorArbM
set_option linter.all false
namespace Go.Proofs.YtldbjjifandjcaaGreatDoor
open Go.ChangeShapes Go.WideShapes Go.ChangeAt Go.RowKit
theorem proved:Rows.OverlayNilCardSaid:=
 Claim7.holds_tied_plain_at .later [] [.data,.data,.data] true (true,"34ece81db0f0bbacf2696f1dc8db4884e974026c8bff1c50dc95e963e5855aa8") false
  FD (λ_ h=>by cases h) (by kernel_rfl) (λ_ h=>by cases h) overlayNil_row_tie rfl ⟨rfl,rfl⟩ (by kernel_rfl) rfl
  (λf fn hf dp=>by
   obtain rfl:f=3:=Option.some.inj ((show Tryz.prog.funcNamed "arbour/arbourlaw20.OverlayNil"=some 3 by kernel_rfl).symm.trans hf) |>.symm;obtain rfl:fn=Tryz.f3:=(Option.some.inj (Tryz.func3.symm.trans dp)).symm;exact⟨by kernel_rfl,λj t ht=>by
    rw[Tryz.params3]at ht;have hm:t ∈ [34]:=by simpa using Array.mem_of_getElem? ht
    have fV:([34].all λu=>!Tryz.prog.wantsStandIn u)=true:=by kernel_rfl
    exact(show Tryz.prog.wantsStandIn t=false by simpa using List.all_eq_true.1 fV t hm)⟩)
  (by kernel_rfl)
#print axioms proved
end Go.Proofs.YtldbjjifandjcaaGreatDoor

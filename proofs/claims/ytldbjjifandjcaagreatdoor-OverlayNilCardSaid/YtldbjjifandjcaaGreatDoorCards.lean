/-
  DERIVED. GIVEN WITH THE SEED: THE CARDS: each row of YtldbjjifandjcaaGreatDoorRows.lean that lists a variable, with what it lists TIED to the program's text (the seventh form; the later family's looks); each row that meets fmt, with fmt's text TOLD by the authors' own Lean function (tested against real Go, not proved from fmt's source: count such statements apart). THE CARD IS WHAT COUNTS. Prove the row's statement (the work); the ties are given (YtldbjjifandjcaaGreatDoorTie.lean); close each card by the builder's one call (the guide's Derived/Test/ToyasCard.lean, 'card_holds'). Laid BY PROGRAM, IN A SANDBOX (cutbox-door.mjs). By AI agents, Wed Nov 11 2026. No macro, syntax, notation, axiom, sorry.
-/
import Derived.Test.YtldbjjifandjcaaGreatDoorRows
import GoSem.ClaimSeven
namespace Go.Proofs.YtldbjjifandjcaaGreatDoor
namespace Rows

/-- THE TIED CARD OF 'arbourlaw20.OverlayNil'. -/
def overlayNilCard : Claim7 := { stood := { row := overlayNilRow, standIns := [], harness := (true, "34ece81db0f0bbacf2696f1dc8db4884e974026c8bff1c50dc95e963e5855aa8"), looks := false }, kinds := [], alts := [], laidByText := true, laidKinds := [.data, .data, .data], laidTests := true, laidLooks := .later }
def OverlayNilCardSaid : Prop := Claim7.holds Tryz.pinned (.plain (OpenSpec.ofChange overlayNilSpec)) overlayNilCard

/-- THE SECOND FORM's CARD OF 'arbourlaw20.OverlayNil'. -/
def overlayNilUptoCard : Claim7 := { stood := { row := overlayNilUptoRow, standIns := [], harness := (true, "34ece81db0f0bbacf2696f1dc8db4884e974026c8bff1c50dc95e963e5855aa8"), looks := false }, kinds := [], alts := [], laidByText := true, laidKinds := [.data, .data, .data], laidTests := true, laidLooks := .later }
def OverlayNilUptoCardSaid : Prop := Claim7.holds Tryz.pinned (.plain (OpenSpec.upto overlayNilSpec)) overlayNilUptoCard
end Rows
end Go.Proofs.YtldbjjifandjcaaGreatDoor

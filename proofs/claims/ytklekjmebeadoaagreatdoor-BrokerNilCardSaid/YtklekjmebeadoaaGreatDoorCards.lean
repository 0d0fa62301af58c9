/-
  DERIVED. GIVEN WITH THE SEED: THE CARDS: each row of YtklekjmebeadoaaGreatDoorRows.lean that lists a variable, with what it lists TIED to the program's text (the seventh form; the later family's looks); each row that meets fmt, with fmt's text TOLD by the authors' own Lean function (tested against real Go, not proved from fmt's source: count such statements apart). THE CARD IS WHAT COUNTS. Prove the row's statement (the work); the ties are given (YtklekjmebeadoaaGreatDoorTie.lean); close each card by the builder's one call (the guide's Derived/Test/ToyasCard.lean, 'card_holds'). Laid BY PROGRAM, IN A SANDBOX (cutbox-door.mjs). By AI agents, Wed Nov 11 2026. No macro, syntax, notation, axiom, sorry.
-/
import Derived.Test.YtklekjmebeadoaaGreatDoorRows
import GoSem.ClaimSeven
namespace Go.Proofs.YtklekjmebeadoaaGreatDoor
namespace Rows

/-- THE TIED CARD OF 'arbourlaw19.BrokerNil'. -/
def brokerNilCard : Claim7 := { stood := { row := brokerNilRow, standIns := [], harness := (true, "3fb25da2f47a386e9cf90a5a7b55b90a54a38b4632f251624d5ade9d03e2df97"), looks := false }, kinds := [], alts := [], laidByText := true, laidKinds := [.data, .data, .data], laidTests := true, laidLooks := .later }
def BrokerNilCardSaid : Prop := Claim7.holds Tryz.pinned (.plain (OpenSpec.ofChange brokerNilSpec)) brokerNilCard

/-- THE SECOND FORM's CARD OF 'arbourlaw19.BrokerNil'. -/
def brokerNilUptoCard : Claim7 := { stood := { row := brokerNilUptoRow, standIns := [], harness := (true, "3fb25da2f47a386e9cf90a5a7b55b90a54a38b4632f251624d5ade9d03e2df97"), looks := false }, kinds := [], alts := [], laidByText := true, laidKinds := [.data, .data, .data], laidTests := true, laidLooks := .later }
def BrokerNilUptoCardSaid : Prop := Claim7.holds Tryz.pinned (.plain (OpenSpec.upto brokerNilSpec)) brokerNilUptoCard
end Rows
end Go.Proofs.YtklekjmebeadoaaGreatDoor

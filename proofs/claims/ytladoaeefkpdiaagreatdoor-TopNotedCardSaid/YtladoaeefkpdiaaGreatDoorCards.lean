/-
  DERIVED. GIVEN WITH THE SEED: THE CARDS: each row of YtladoaeefkpdiaaGreatDoorRows.lean that lists a variable, with what it lists TIED to the program's text (the seventh form; the later family's looks); each row that meets fmt, with fmt's text TOLD by the authors' own Lean function (tested against real Go, not proved from fmt's source: count such statements apart). THE CARD IS WHAT COUNTS. Prove the row's statement (the work); the ties are given (YtladoaeefkpdiaaGreatDoorTie.lean); close each card by the builder's one call (the guide's Derived/Test/ToyasCard.lean, 'card_holds'). Laid BY PROGRAM, IN A SANDBOX (cutbox-door.mjs). By AI agents, Wed Nov 11 2026. No macro, syntax, notation, axiom, sorry.
-/
import Derived.Test.YtladoaeefkpdiaaGreatDoorRows
import GoSem.ClaimSeven
namespace Go.Proofs.YtladoaeefkpdiaaGreatDoor
namespace Rows

/-- THE TIED CARD OF 'bitepointtop.TopNoted'. -/
def topNotedCard : Claim7 := { stood := { row := topNotedRow, standIns := [], harness := (true, "8dbec85a7487fad943bcf15380cd19bdd0303a9f272f538b8ab86af7f4b4bdd8"), looks := true }, kinds := [], alts := [], laidByText := true, laidKinds := [.data, .data, .data, .data, .sentinel, .sentinel, .pinned], laidTests := true, laidLooks := .later }
def TopNotedCardSaid : Prop := Claim7.holds Tryz.pinned (.plain (OpenSpec.ofChange topNotedSpec)) topNotedCard

/-- THE SECOND FORM's CARD OF 'bitepointtop.TopNoted'. -/
def topNotedUptoCard : Claim7 := { stood := { row := topNotedUptoRow, standIns := [], harness := (true, "8dbec85a7487fad943bcf15380cd19bdd0303a9f272f538b8ab86af7f4b4bdd8"), looks := true }, kinds := [], alts := [], laidByText := true, laidKinds := [.data, .data, .data, .data, .sentinel, .sentinel, .pinned], laidTests := true, laidLooks := .later }
def TopNotedUptoCardSaid : Prop := Claim7.holds Tryz.pinned (.plain (OpenSpec.upto topNotedSpec)) topNotedUptoCard
end Rows
end Go.Proofs.YtladoaeefkpdiaaGreatDoor

/-
  DERIVED. GIVEN WITH THE SEED: THE CARDS: each row of YtmhdidbgjpeadaaGreatDoorRows.lean that lists a variable, with what it lists TIED to the program's text (the seventh form; the later family's looks); each row that meets fmt, with fmt's text TOLD by the authors' own Lean function (tested against real Go, not proved from fmt's source: count such statements apart). THE CARD IS WHAT COUNTS. Prove the row's statement (the work); the ties are given (YtmhdidbgjpeadaaGreatDoorTie.lean); close each card by the builder's one call (the guide's Derived/Test/ToyasCard.lean, 'card_holds'). Laid BY PROGRAM, IN A SANDBOX (cutbox-door.mjs). By AI agents, Wed Nov 11 2026. No macro, syntax, notation, axiom, sorry.
-/
import Derived.Test.YtmhdidbgjpeadaaGreatDoorRows
import GoSem.ClaimSeven
namespace Go.Proofs.YtmhdidbgjpeadaaGreatDoor
namespace Rows

/-- THE TIED CARD OF 'couchettetop.TopThrough'. -/
def topThroughCard : Claim7 := { stood := { row := topThroughRow, standIns := [], harness := (true, "7fe8392556a5e1cf6d5bad3edd0dac4a0bb0744e005a2e4461a3ff7beaeba738"), looks := true }, kinds := [], alts := [], laidByText := true, laidKinds := [.handle], laidTests := true, laidLooks := .later }
def TopThroughCardSaid : Prop := Claim7.holds Tryz.pinned (.plain (OpenSpec.ofChange topThroughSpec)) topThroughCard

/-- THE SECOND FORM's CARD OF 'couchettetop.TopThrough'. -/
def topThroughUptoCard : Claim7 := { stood := { row := topThroughUptoRow, standIns := [], harness := (true, "7fe8392556a5e1cf6d5bad3edd0dac4a0bb0744e005a2e4461a3ff7beaeba738"), looks := true }, kinds := [], alts := [], laidByText := true, laidKinds := [.handle], laidTests := true, laidLooks := .later }
def TopThroughUptoCardSaid : Prop := Claim7.holds Tryz.pinned (.plain (OpenSpec.upto topThroughSpec)) topThroughUptoCard
end Rows
end Go.Proofs.YtmhdidbgjpeadaaGreatDoor

/-
  DERIVED. GIVEN WITH THE SEED: THE CARDS: each row of YtgcemienebmdeaaGreatDoorRows.lean that lists a variable, with what it lists TIED to the program's text (the seventh form; the later family's looks); each row that meets fmt, with fmt's text TOLD by the authors' own Lean function (tested against real Go, not proved from fmt's source: count such statements apart). THE CARD IS WHAT COUNTS. Prove the row's statement (the work); the ties are given (YtgcemienebmdeaaGreatDoorTie.lean); close each card by the builder's one call (the guide's Derived/Test/ToyasCard.lean, 'card_holds'). Laid BY PROGRAM, IN A SANDBOX (cutbox-door.mjs). By AI agents, Wed Nov 11 2026. No macro, syntax, notation, axiom, sorry.
-/
import Derived.Test.YtgcemienebmdeaaGreatDoorRows
import GoSem.ClaimSeven
namespace Go.Proofs.YtgcemienebmdeaaGreatDoor
namespace Rows

/-- THE TIED CARD OF 'couchettelaw07.LinenKnown'. -/
def linenKnownCard : Claim7 := { stood := { row := linenKnownRow, standIns := [], harness := (true, "ea40bc547c8621efc91147a3f25ad1c9f176af31bd7b28efa531caa2c61ed689"), looks := true }, kinds := [], alts := [], goes := true, laidByText := true, laidKinds := [.data, .data, .data], laidTests := true, laidLooks := .later }
def LinenKnownCardSaid : Prop := Claim7.holds Tryz.pinned (.plain (OpenSpec.ofChange linenKnownSpec)) linenKnownCard

/-- THE TIED CARD OF 'couchettelaw07.LinenTexts'. -/
def linenTextsCard : Claim7 := { stood := { row := linenTextsRow, standIns := [], harness := (true, "ea40bc547c8621efc91147a3f25ad1c9f176af31bd7b28efa531caa2c61ed689"), looks := true }, kinds := [], alts := [], goes := true, laidByText := true, laidKinds := [.data, .data, .data, .data, .handle, .sentinel, .sentinel, .pinned], laidTests := true, laidLooks := .later }
def LinenTextsCardSaid : Prop := Claim7.holds Tryz.pinned (.plain (OpenSpec.ofChange linenTextsSpec)) linenTextsCard

/-- THE TIED CARD OF 'couchettelaw07.LinenWritten'. -/
def linenWrittenCard : Claim7 := { stood := { row := linenWrittenRow, standIns := [], harness := (true, "ea40bc547c8621efc91147a3f25ad1c9f176af31bd7b28efa531caa2c61ed689"), looks := true }, kinds := [], alts := [], goes := true, laidByText := true, laidKinds := [.data, .data, .data, .data, .handle, .sentinel, .sentinel, .pinned], laidTests := true, laidLooks := .later }
def LinenWrittenCardSaid : Prop := Claim7.holds Tryz.pinned (.plain (OpenSpec.ofChange linenWrittenSpec)) linenWrittenCard

/-- THE SECOND FORM's CARD OF 'couchettelaw07.LinenKnown'. -/
def linenKnownUptoCard : Claim7 := { stood := { row := linenKnownUptoRow, standIns := [], harness := (true, "ea40bc547c8621efc91147a3f25ad1c9f176af31bd7b28efa531caa2c61ed689"), looks := true }, kinds := [], alts := [], goes := true, laidByText := true, laidKinds := [.data, .data, .data], laidTests := true, laidLooks := .later }
def LinenKnownUptoCardSaid : Prop := Claim7.holds Tryz.pinned (.plain (OpenSpec.upto linenKnownSpec)) linenKnownUptoCard

/-- THE SECOND FORM's CARD OF 'couchettelaw07.LinenTexts'. -/
def linenTextsUptoCard : Claim7 := { stood := { row := linenTextsUptoRow, standIns := [], harness := (true, "ea40bc547c8621efc91147a3f25ad1c9f176af31bd7b28efa531caa2c61ed689"), looks := true }, kinds := [], alts := [], goes := true, laidByText := true, laidKinds := [.data, .data, .data, .data, .handle, .sentinel, .sentinel, .pinned], laidTests := true, laidLooks := .later }
def LinenTextsUptoCardSaid : Prop := Claim7.holds Tryz.pinned (.plain (OpenSpec.upto linenTextsSpec)) linenTextsUptoCard

/-- THE SECOND FORM's CARD OF 'couchettelaw07.LinenWritten'. -/
def linenWrittenUptoCard : Claim7 := { stood := { row := linenWrittenUptoRow, standIns := [], harness := (true, "ea40bc547c8621efc91147a3f25ad1c9f176af31bd7b28efa531caa2c61ed689"), looks := true }, kinds := [], alts := [], goes := true, laidByText := true, laidKinds := [.data, .data, .data, .data, .handle, .sentinel, .sentinel, .pinned], laidTests := true, laidLooks := .later }
def LinenWrittenUptoCardSaid : Prop := Claim7.holds Tryz.pinned (.plain (OpenSpec.upto linenWrittenSpec)) linenWrittenUptoCard
end Rows
end Go.Proofs.YtgcemienebmdeaaGreatDoor

/-
  DERIVED. GIVEN WITH THE SEED: THE CARDS: each row of YtcaocbhbofejnaaGreatDoorRows.lean that lists a variable, with what it lists TIED to the program's text (the seventh form; the later family's looks); each row that meets fmt, with fmt's text TOLD by the authors' own Lean function (tested against real Go, not proved from fmt's source: count such statements apart). THE CARD IS WHAT COUNTS. Prove the row's statement (the work); the ties are given (YtcaocbhbofejnaaGreatDoorTie.lean); close each card by the builder's one call (the guide's Derived/Test/ToyasCard.lean, 'card_holds'). Laid BY PROGRAM, IN A SANDBOX (cutbox-door.mjs). By AI agents, Wed Nov 11 2026. No macro, syntax, notation, axiom, sorry.
-/
import Derived.Test.YtcaocbhbofejnaaGreatDoorRows
import GoSem.ClaimSeven
namespace Go.Proofs.YtcaocbhbofejnaaGreatDoor
namespace Rows

/-- THE TIED CARD OF 'couchettelaw03.ShuntLacks'. -/
def shuntLacksCard : Claim7 := { stood := { row := shuntLacksRow, standIns := [], harness := (true, "15b79f9888323760d9f05ab32c03ca1db0faea4ca720a3d6f842981fea83c54b"), looks := true }, kinds := [], alts := [], laidByText := true, laidKinds := [.handle], laidTests := true, laidLooks := .later }
def ShuntLacksCardSaid : Prop := Claim7.holds Tryz.pinned (.plain (OpenSpec.ofChange shuntLacksSpec)) shuntLacksCard

/-- THE TIED CARD OF 'couchettelaw03.ShuntKept'. -/
def shuntKeptCard : Claim7 := { stood := { row := shuntKeptRow, standIns := [], harness := (true, "15b79f9888323760d9f05ab32c03ca1db0faea4ca720a3d6f842981fea83c54b"), looks := true }, kinds := [], alts := [], laidByText := true, laidKinds := [.handle], laidTests := true, laidLooks := .later }
def ShuntKeptCardSaid : Prop := Claim7.holds Tryz.pinned (.plain (OpenSpec.ofChange shuntKeptSpec)) shuntKeptCard

/-- THE TIED CARD OF 'couchettelaw03.ShuntFirst'. -/
def shuntFirstCard : Claim7 := { stood := { row := shuntFirstRow, standIns := [], harness := (true, "15b79f9888323760d9f05ab32c03ca1db0faea4ca720a3d6f842981fea83c54b"), looks := true }, kinds := [], alts := [], laidByText := true, laidKinds := [.handle], laidTests := true, laidLooks := .later }
def ShuntFirstCardSaid : Prop := Claim7.holds Tryz.pinned (.plain (OpenSpec.ofChange shuntFirstSpec)) shuntFirstCard

/-- THE TIED CARD OF 'couchettelaw03.ShuntAsFar'. -/
def shuntAsFarCard : Claim7 := { stood := { row := shuntAsFarRow, standIns := [], harness := (true, "15b79f9888323760d9f05ab32c03ca1db0faea4ca720a3d6f842981fea83c54b"), looks := true }, kinds := [], alts := [], laidByText := true, laidKinds := [.handle], laidTests := true, laidLooks := .later }
def ShuntAsFarCardSaid : Prop := Claim7.holds Tryz.pinned (.plain (OpenSpec.ofChange shuntAsFarSpec)) shuntAsFarCard

/-- THE TIED CARD OF 'couchettelaw03.ShuntRoom'. -/
def shuntRoomCard : Claim7 := { stood := { row := shuntRoomRow, standIns := [], harness := (true, "15b79f9888323760d9f05ab32c03ca1db0faea4ca720a3d6f842981fea83c54b"), looks := true }, kinds := [], alts := [], laidByText := true, laidKinds := [.handle], laidTests := true, laidLooks := .later }
def ShuntRoomCardSaid : Prop := Claim7.holds Tryz.pinned (.plain (OpenSpec.ofChange shuntRoomSpec)) shuntRoomCard

/-- THE TIED CARD OF 'couchettelaw03.ShuntRenamed'. -/
def shuntRenamedCard : Claim7 := { stood := { row := shuntRenamedRow, standIns := [], harness := (true, "15b79f9888323760d9f05ab32c03ca1db0faea4ca720a3d6f842981fea83c54b"), looks := true }, kinds := [], alts := [], laidByText := true, laidKinds := [.handle], laidTests := true, laidLooks := .later }
def ShuntRenamedCardSaid : Prop := Claim7.holds Tryz.pinned (.plain (OpenSpec.ofChange shuntRenamedSpec)) shuntRenamedCard

/-- THE TIED CARD OF 'couchettelaw03.ShuntOnce'. -/
def shuntOnceCard : Claim7 := { stood := { row := shuntOnceRow, standIns := [], harness := (true, "15b79f9888323760d9f05ab32c03ca1db0faea4ca720a3d6f842981fea83c54b"), looks := true }, kinds := [], alts := [], laidByText := true, laidKinds := [.handle], laidTests := true, laidLooks := .later }
def ShuntOnceCardSaid : Prop := Claim7.holds Tryz.pinned (.plain (OpenSpec.ofChange shuntOnceSpec)) shuntOnceCard

/-- THE TIED CARD OF 'couchettelaw03.ShuntPlays'. -/
def shuntPlaysCard : Claim7 := { stood := { row := shuntPlaysRow, standIns := [], harness := (true, "15b79f9888323760d9f05ab32c03ca1db0faea4ca720a3d6f842981fea83c54b"), looks := true }, kinds := [], alts := [], laidByText := true, laidKinds := [.handle], laidTests := true, laidLooks := .later }
def ShuntPlaysCardSaid : Prop := Claim7.holds Tryz.pinned (.plain (OpenSpec.ofChange shuntPlaysSpec)) shuntPlaysCard

/-- THE TIED CARD OF 'couchettelaw03.ShuntBack'. -/
def shuntBackCard : Claim7 := { stood := { row := shuntBackRow, standIns := [], harness := (true, "15b79f9888323760d9f05ab32c03ca1db0faea4ca720a3d6f842981fea83c54b"), looks := true }, kinds := [], alts := [], laidByText := true, laidKinds := [.handle], laidTests := true, laidLooks := .later }
def ShuntBackCardSaid : Prop := Claim7.holds Tryz.pinned (.plain (OpenSpec.ofChange shuntBackSpec)) shuntBackCard

/-- THE TIED CARD OF 'couchettelaw03.ShuntDraws'. -/
def shuntDrawsCard : Claim7 := { stood := { row := shuntDrawsRow, standIns := [], harness := (true, "15b79f9888323760d9f05ab32c03ca1db0faea4ca720a3d6f842981fea83c54b"), looks := true }, kinds := [], alts := [], laidByText := true, laidKinds := [.handle], laidTests := true, laidLooks := .later }
def ShuntDrawsCardSaid : Prop := Claim7.holds Tryz.pinned (.plain (OpenSpec.ofChange shuntDrawsSpec)) shuntDrawsCard

/-- THE TIED CARD OF 'couchettelaw03.ShuntFewest'. -/
def shuntFewestCard : Claim7 := { stood := { row := shuntFewestRow, standIns := [], harness := (true, "15b79f9888323760d9f05ab32c03ca1db0faea4ca720a3d6f842981fea83c54b"), looks := true }, kinds := [], alts := [], laidByText := true, laidKinds := [.handle], laidTests := true, laidLooks := .later }
def ShuntFewestCardSaid : Prop := Claim7.holds Tryz.pinned (.plain (OpenSpec.ofChange shuntFewestSpec)) shuntFewestCard

/-- THE TIED CARD OF 'couchettelaw03.ShuntHeat'. -/
def shuntHeatCard : Claim7 := { stood := { row := shuntHeatRow, standIns := [], harness := (true, "15b79f9888323760d9f05ab32c03ca1db0faea4ca720a3d6f842981fea83c54b"), looks := true }, kinds := [], alts := [], laidByText := true, laidKinds := [.handle], laidTests := true, laidLooks := .later }
def ShuntHeatCardSaid : Prop := Claim7.holds Tryz.pinned (.plain (OpenSpec.ofChange shuntHeatSpec)) shuntHeatCard

/-- THE TIED CARD OF 'couchettelaw03.ShuntKnown'. -/
def shuntKnownCard : Claim7 := { stood := { row := shuntKnownRow, standIns := [], harness := (true, "15b79f9888323760d9f05ab32c03ca1db0faea4ca720a3d6f842981fea83c54b"), looks := true }, kinds := [], alts := [], laidByText := true, laidKinds := [.data, .data, .data, .handle], laidTests := true, laidLooks := .later }
def ShuntKnownCardSaid : Prop := Claim7.holds Tryz.pinned (.plain (OpenSpec.ofChange shuntKnownSpec)) shuntKnownCard

/-- THE TIED CARD OF 'couchettelaw03.ShuntTexts'. -/
def shuntTextsCard : Claim7 := { stood := { row := shuntTextsRow, standIns := [], harness := (true, "15b79f9888323760d9f05ab32c03ca1db0faea4ca720a3d6f842981fea83c54b"), looks := true }, kinds := [], alts := [], laidByText := true, laidKinds := [.data, .data, .data, .data, .handle, .sentinel, .sentinel, .pinned], laidTests := true, laidLooks := .later }
def ShuntTextsCardSaid : Prop := Claim7.holds Tryz.pinned (.plain (OpenSpec.ofChange shuntTextsSpec)) shuntTextsCard

/-- THE TIED CARD OF 'couchettelaw03.ShuntWritten'. -/
def shuntWrittenCard : Claim7 := { stood := { row := shuntWrittenRow, standIns := [], harness := (true, "15b79f9888323760d9f05ab32c03ca1db0faea4ca720a3d6f842981fea83c54b"), looks := true }, kinds := [], alts := [], laidByText := true, laidKinds := [.data, .data, .data, .data, .handle, .sentinel, .sentinel, .pinned], laidTests := true, laidLooks := .later }
def ShuntWrittenCardSaid : Prop := Claim7.holds Tryz.pinned (.plain (OpenSpec.ofChange shuntWrittenSpec)) shuntWrittenCard

/-- THE SECOND FORM's CARD OF 'couchettelaw03.ShuntLacks'. -/
def shuntLacksUptoCard : Claim7 := { stood := { row := shuntLacksUptoRow, standIns := [], harness := (true, "15b79f9888323760d9f05ab32c03ca1db0faea4ca720a3d6f842981fea83c54b"), looks := true }, kinds := [], alts := [], laidByText := true, laidKinds := [.handle], laidTests := true, laidLooks := .later }
def ShuntLacksUptoCardSaid : Prop := Claim7.holds Tryz.pinned (.plain (OpenSpec.upto shuntLacksSpec)) shuntLacksUptoCard

/-- THE SECOND FORM's CARD OF 'couchettelaw03.ShuntKept'. -/
def shuntKeptUptoCard : Claim7 := { stood := { row := shuntKeptUptoRow, standIns := [], harness := (true, "15b79f9888323760d9f05ab32c03ca1db0faea4ca720a3d6f842981fea83c54b"), looks := true }, kinds := [], alts := [], laidByText := true, laidKinds := [.handle], laidTests := true, laidLooks := .later }
def ShuntKeptUptoCardSaid : Prop := Claim7.holds Tryz.pinned (.plain (OpenSpec.upto shuntKeptSpec)) shuntKeptUptoCard

/-- THE SECOND FORM's CARD OF 'couchettelaw03.ShuntFirst'. -/
def shuntFirstUptoCard : Claim7 := { stood := { row := shuntFirstUptoRow, standIns := [], harness := (true, "15b79f9888323760d9f05ab32c03ca1db0faea4ca720a3d6f842981fea83c54b"), looks := true }, kinds := [], alts := [], laidByText := true, laidKinds := [.handle], laidTests := true, laidLooks := .later }
def ShuntFirstUptoCardSaid : Prop := Claim7.holds Tryz.pinned (.plain (OpenSpec.upto shuntFirstSpec)) shuntFirstUptoCard

/-- THE SECOND FORM's CARD OF 'couchettelaw03.ShuntAsFar'. -/
def shuntAsFarUptoCard : Claim7 := { stood := { row := shuntAsFarUptoRow, standIns := [], harness := (true, "15b79f9888323760d9f05ab32c03ca1db0faea4ca720a3d6f842981fea83c54b"), looks := true }, kinds := [], alts := [], laidByText := true, laidKinds := [.handle], laidTests := true, laidLooks := .later }
def ShuntAsFarUptoCardSaid : Prop := Claim7.holds Tryz.pinned (.plain (OpenSpec.upto shuntAsFarSpec)) shuntAsFarUptoCard

/-- THE SECOND FORM's CARD OF 'couchettelaw03.ShuntRoom'. -/
def shuntRoomUptoCard : Claim7 := { stood := { row := shuntRoomUptoRow, standIns := [], harness := (true, "15b79f9888323760d9f05ab32c03ca1db0faea4ca720a3d6f842981fea83c54b"), looks := true }, kinds := [], alts := [], laidByText := true, laidKinds := [.handle], laidTests := true, laidLooks := .later }
def ShuntRoomUptoCardSaid : Prop := Claim7.holds Tryz.pinned (.plain (OpenSpec.upto shuntRoomSpec)) shuntRoomUptoCard

/-- THE SECOND FORM's CARD OF 'couchettelaw03.ShuntRenamed'. -/
def shuntRenamedUptoCard : Claim7 := { stood := { row := shuntRenamedUptoRow, standIns := [], harness := (true, "15b79f9888323760d9f05ab32c03ca1db0faea4ca720a3d6f842981fea83c54b"), looks := true }, kinds := [], alts := [], laidByText := true, laidKinds := [.handle], laidTests := true, laidLooks := .later }
def ShuntRenamedUptoCardSaid : Prop := Claim7.holds Tryz.pinned (.plain (OpenSpec.upto shuntRenamedSpec)) shuntRenamedUptoCard

/-- THE SECOND FORM's CARD OF 'couchettelaw03.ShuntOnce'. -/
def shuntOnceUptoCard : Claim7 := { stood := { row := shuntOnceUptoRow, standIns := [], harness := (true, "15b79f9888323760d9f05ab32c03ca1db0faea4ca720a3d6f842981fea83c54b"), looks := true }, kinds := [], alts := [], laidByText := true, laidKinds := [.handle], laidTests := true, laidLooks := .later }
def ShuntOnceUptoCardSaid : Prop := Claim7.holds Tryz.pinned (.plain (OpenSpec.upto shuntOnceSpec)) shuntOnceUptoCard

/-- THE SECOND FORM's CARD OF 'couchettelaw03.ShuntPlays'. -/
def shuntPlaysUptoCard : Claim7 := { stood := { row := shuntPlaysUptoRow, standIns := [], harness := (true, "15b79f9888323760d9f05ab32c03ca1db0faea4ca720a3d6f842981fea83c54b"), looks := true }, kinds := [], alts := [], laidByText := true, laidKinds := [.handle], laidTests := true, laidLooks := .later }
def ShuntPlaysUptoCardSaid : Prop := Claim7.holds Tryz.pinned (.plain (OpenSpec.upto shuntPlaysSpec)) shuntPlaysUptoCard

/-- THE SECOND FORM's CARD OF 'couchettelaw03.ShuntBack'. -/
def shuntBackUptoCard : Claim7 := { stood := { row := shuntBackUptoRow, standIns := [], harness := (true, "15b79f9888323760d9f05ab32c03ca1db0faea4ca720a3d6f842981fea83c54b"), looks := true }, kinds := [], alts := [], laidByText := true, laidKinds := [.handle], laidTests := true, laidLooks := .later }
def ShuntBackUptoCardSaid : Prop := Claim7.holds Tryz.pinned (.plain (OpenSpec.upto shuntBackSpec)) shuntBackUptoCard

/-- THE SECOND FORM's CARD OF 'couchettelaw03.ShuntDraws'. -/
def shuntDrawsUptoCard : Claim7 := { stood := { row := shuntDrawsUptoRow, standIns := [], harness := (true, "15b79f9888323760d9f05ab32c03ca1db0faea4ca720a3d6f842981fea83c54b"), looks := true }, kinds := [], alts := [], laidByText := true, laidKinds := [.handle], laidTests := true, laidLooks := .later }
def ShuntDrawsUptoCardSaid : Prop := Claim7.holds Tryz.pinned (.plain (OpenSpec.upto shuntDrawsSpec)) shuntDrawsUptoCard

/-- THE SECOND FORM's CARD OF 'couchettelaw03.ShuntFewest'. -/
def shuntFewestUptoCard : Claim7 := { stood := { row := shuntFewestUptoRow, standIns := [], harness := (true, "15b79f9888323760d9f05ab32c03ca1db0faea4ca720a3d6f842981fea83c54b"), looks := true }, kinds := [], alts := [], laidByText := true, laidKinds := [.handle], laidTests := true, laidLooks := .later }
def ShuntFewestUptoCardSaid : Prop := Claim7.holds Tryz.pinned (.plain (OpenSpec.upto shuntFewestSpec)) shuntFewestUptoCard

/-- THE SECOND FORM's CARD OF 'couchettelaw03.ShuntHeat'. -/
def shuntHeatUptoCard : Claim7 := { stood := { row := shuntHeatUptoRow, standIns := [], harness := (true, "15b79f9888323760d9f05ab32c03ca1db0faea4ca720a3d6f842981fea83c54b"), looks := true }, kinds := [], alts := [], laidByText := true, laidKinds := [.handle], laidTests := true, laidLooks := .later }
def ShuntHeatUptoCardSaid : Prop := Claim7.holds Tryz.pinned (.plain (OpenSpec.upto shuntHeatSpec)) shuntHeatUptoCard

/-- THE SECOND FORM's CARD OF 'couchettelaw03.ShuntKnown'. -/
def shuntKnownUptoCard : Claim7 := { stood := { row := shuntKnownUptoRow, standIns := [], harness := (true, "15b79f9888323760d9f05ab32c03ca1db0faea4ca720a3d6f842981fea83c54b"), looks := true }, kinds := [], alts := [], laidByText := true, laidKinds := [.data, .data, .data, .handle], laidTests := true, laidLooks := .later }
def ShuntKnownUptoCardSaid : Prop := Claim7.holds Tryz.pinned (.plain (OpenSpec.upto shuntKnownSpec)) shuntKnownUptoCard

/-- THE SECOND FORM's CARD OF 'couchettelaw03.ShuntTexts'. -/
def shuntTextsUptoCard : Claim7 := { stood := { row := shuntTextsUptoRow, standIns := [], harness := (true, "15b79f9888323760d9f05ab32c03ca1db0faea4ca720a3d6f842981fea83c54b"), looks := true }, kinds := [], alts := [], laidByText := true, laidKinds := [.data, .data, .data, .data, .handle, .sentinel, .sentinel, .pinned], laidTests := true, laidLooks := .later }
def ShuntTextsUptoCardSaid : Prop := Claim7.holds Tryz.pinned (.plain (OpenSpec.upto shuntTextsSpec)) shuntTextsUptoCard

/-- THE SECOND FORM's CARD OF 'couchettelaw03.ShuntWritten'. -/
def shuntWrittenUptoCard : Claim7 := { stood := { row := shuntWrittenUptoRow, standIns := [], harness := (true, "15b79f9888323760d9f05ab32c03ca1db0faea4ca720a3d6f842981fea83c54b"), looks := true }, kinds := [], alts := [], laidByText := true, laidKinds := [.data, .data, .data, .data, .handle, .sentinel, .sentinel, .pinned], laidTests := true, laidLooks := .later }
def ShuntWrittenUptoCardSaid : Prop := Claim7.holds Tryz.pinned (.plain (OpenSpec.upto shuntWrittenSpec)) shuntWrittenUptoCard
end Rows
end Go.Proofs.YtcaocbhbofejnaaGreatDoor

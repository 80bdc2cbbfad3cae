/-
  DERIVED. GIVEN WITH THE SEED: THE CARDS: each row of YtcaocbhbofejnaaDoorRows.lean that lists a variable, with what it lists TIED to the program's text (the seventh form; the later family's looks); each row that meets fmt, with fmt's text TOLD by the authors' own Lean function (tested against real Go, not proved from fmt's source: count such statements apart). THE CARD IS WHAT COUNTS. Prove the row's statement (the work); the ties are given (YtcaocbhbofejnaaDoorTie.lean); close each card by the builder's one call (the guide's Derived/Test/ToyasCard.lean, 'card_holds'). Laid BY PROGRAM, IN A SANDBOX (cutbox-door.mjs). By AI agents, Wed Nov 11 2026. No macro, syntax, notation, axiom, sorry.
-/
import Derived.Test.YtcaocbhbofejnaaDoorRows
import GoSem.ClaimSeven
namespace Go.Proofs.YtcaocbhbofejnaaDoor
namespace Rows

/-- THE TIED CARD OF 'couchettelaw03.ShuntWarm'. -/
def shuntWarmCard : Claim7 := { stood := { row := shuntWarmRow, standIns := [], harness := (true, "57167870086b9e3ec6568a57c656ef4c9cbf620b6add0c9ed48a6a0fc89a47bf"), looks := true }, kinds := [], alts := [], laidByText := true, laidKinds := [.handle], laidTests := true, laidLooks := .later }
def ShuntWarmCardSaid : Prop := Claim7.holds Tryd.pinned (.plain (OpenSpec.ofChange shuntWarmSpec)) shuntWarmCard

/-- THE TIED CARD OF 'couchettelaw03.ShuntBrake'. -/
def shuntBrakeCard : Claim7 := { stood := { row := shuntBrakeRow, standIns := [], harness := (true, "57167870086b9e3ec6568a57c656ef4c9cbf620b6add0c9ed48a6a0fc89a47bf"), looks := true }, kinds := [], alts := [], laidByText := true, laidKinds := [.handle], laidTests := true, laidLooks := .later }
def ShuntBrakeCardSaid : Prop := Claim7.holds Tryd.pinned (.plain (OpenSpec.ofChange shuntBrakeSpec)) shuntBrakeCard

/-- THE TIED CARD OF 'couchettelaw03.ShuntReach'. -/
def shuntReachCard : Claim7 := { stood := { row := shuntReachRow, standIns := [], harness := (true, "57167870086b9e3ec6568a57c656ef4c9cbf620b6add0c9ed48a6a0fc89a47bf"), looks := true }, kinds := [], alts := [], laidByText := true, laidKinds := [.handle], laidTests := true, laidLooks := .later }
def ShuntReachCardSaid : Prop := Claim7.holds Tryd.pinned (.plain (OpenSpec.ofChange shuntReachSpec)) shuntReachCard

/-- THE TIED CARD OF 'couchettelaw03.ShuntLeave'. -/
def shuntLeaveCard : Claim7 := { stood := { row := shuntLeaveRow, standIns := [], harness := (true, "57167870086b9e3ec6568a57c656ef4c9cbf620b6add0c9ed48a6a0fc89a47bf"), looks := true }, kinds := [], alts := [], laidByText := true, laidKinds := [.handle], laidTests := true, laidLooks := .later }
def ShuntLeaveCardSaid : Prop := Claim7.holds Tryd.pinned (.plain (OpenSpec.ofChange shuntLeaveSpec)) shuntLeaveCard

/-- THE SECOND FORM's CARD OF 'couchettelaw03.ShuntWarm'. -/
def shuntWarmUptoCard : Claim7 := { stood := { row := shuntWarmUptoRow, standIns := [], harness := (true, "57167870086b9e3ec6568a57c656ef4c9cbf620b6add0c9ed48a6a0fc89a47bf"), looks := true }, kinds := [], alts := [], laidByText := true, laidKinds := [.handle], laidTests := true, laidLooks := .later }
def ShuntWarmUptoCardSaid : Prop := Claim7.holds Tryd.pinned (.plain (OpenSpec.upto shuntWarmSpec)) shuntWarmUptoCard

/-- THE SECOND FORM's CARD OF 'couchettelaw03.ShuntBrake'. -/
def shuntBrakeUptoCard : Claim7 := { stood := { row := shuntBrakeUptoRow, standIns := [], harness := (true, "57167870086b9e3ec6568a57c656ef4c9cbf620b6add0c9ed48a6a0fc89a47bf"), looks := true }, kinds := [], alts := [], laidByText := true, laidKinds := [.handle], laidTests := true, laidLooks := .later }
def ShuntBrakeUptoCardSaid : Prop := Claim7.holds Tryd.pinned (.plain (OpenSpec.upto shuntBrakeSpec)) shuntBrakeUptoCard

/-- THE SECOND FORM's CARD OF 'couchettelaw03.ShuntReach'. -/
def shuntReachUptoCard : Claim7 := { stood := { row := shuntReachUptoRow, standIns := [], harness := (true, "57167870086b9e3ec6568a57c656ef4c9cbf620b6add0c9ed48a6a0fc89a47bf"), looks := true }, kinds := [], alts := [], laidByText := true, laidKinds := [.handle], laidTests := true, laidLooks := .later }
def ShuntReachUptoCardSaid : Prop := Claim7.holds Tryd.pinned (.plain (OpenSpec.upto shuntReachSpec)) shuntReachUptoCard

/-- THE SECOND FORM's CARD OF 'couchettelaw03.ShuntLeave'. -/
def shuntLeaveUptoCard : Claim7 := { stood := { row := shuntLeaveUptoRow, standIns := [], harness := (true, "57167870086b9e3ec6568a57c656ef4c9cbf620b6add0c9ed48a6a0fc89a47bf"), looks := true }, kinds := [], alts := [], laidByText := true, laidKinds := [.handle], laidTests := true, laidLooks := .later }
def ShuntLeaveUptoCardSaid : Prop := Claim7.holds Tryd.pinned (.plain (OpenSpec.upto shuntLeaveSpec)) shuntLeaveUptoCard
end Rows
end Go.Proofs.YtcaocbhbofejnaaDoor

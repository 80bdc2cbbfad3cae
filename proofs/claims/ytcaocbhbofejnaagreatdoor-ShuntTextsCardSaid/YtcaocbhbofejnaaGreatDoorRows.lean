/-
  NARROWER THAN 'FOR EVERY INPUT', by the rows' own cells (each row's printed sentence says how): ShuntLacks: laid · ShuntKept: laid · ShuntFirst: laid · ShuntAsFar: laid · ShuntRoom: laid · ShuntRenamed: laid · ShuntOnce: laid · ShuntPlays: laid · ShuntBack: laid · ShuntDraws: laid · ShuntFewest: laid · ShuntHeat: laid · ShuntKnown: laid · ShuntTexts: laid · ShuntWritten: laid.
  DERIVED. THE GIVEN ROWS OF THIS SEAT. 15 by the template 'for every input the law returns true; each argument reads behind the call as it read before'; 0 by the template 'total and deterministic' (their statements: YtcaocbhbofejnaaGreatDoorTotals.lean).
  GIVEN WITH THE SEED: the statements are not yours to turn. If you find one false, say at which input.
  Laid BY PROGRAM, IN A SANDBOX (cutbox-rows.mjs): the forced cells as the released guide's own fill.sh prints them over the translation 0c1cf251bdbec749… (all of the seat's roots in one cut). By AI agents, Wed Nov 11 2026. No macro, syntax, notation, axiom, sorry.
-/
import Derived.Test.YtcaocbhbofejnaaGreatDoorChecked
import GoSem.PinnedTables
import GoSem.Claim
import GoSem.ClaimJoined
import GoSem.ClaimMapViews
import Derived.JoinedTies
import Derived.KernelRfl
namespace Go.Proofs.YtcaocbhbofejnaaGreatDoor
/- THE CELL 'sum', in the pinned program and in every row, IS THE sha256 OF THE DUMP (.gsa) THAT YtcaocbhbofejnaaGreatDoorProg.lean LOADS. Nothing in Lean hashes anything: it is a label: what it is worth is what the hold of that sum in a sandbox is worth. -/
noncomputable def Tryz.pinned : Pinned := { name := "ytcaocbhbofejnaagreatdoor", sum := "0c1cf251bdbec749bc8472ed4b79b551edab7da0737b888b6632590ee5537b86", checked := Tryz.checked }
namespace Rows
def none {H : Type} : Left H := { results := [], args := [] }

/- WHAT THE LISTED PACKAGE-LEVEL VARIABLES READ AS WHEN THE CALL BEGINS. Each datum BY PROGRAM (the guide's laid-datum.mjs) off the statement by which the dump's own 'gosem.cut.vars' lays the variable. In a bare row this is a premise. The card (YtcaocbhbofejnaaGreatDoorCards.lean) ties it to the program's text. -/
def laid_errors_errorType {H : Type} : DataW H := .iface "internal/reflectlite.rtype" (.agg [.ptr (.lit (.string [101, 114, 114, 111, 114]))])
def laid_math_bits_deBruijn32tab {H : Type} : DataW H := .agg [.lit (.int .u8 0), .lit (.int .u8 1), .lit (.int .u8 28), .lit (.int .u8 2), .lit (.int .u8 29), .lit (.int .u8 14), .lit (.int .u8 24), .lit (.int .u8 3), .lit (.int .u8 30), .lit (.int .u8 22), .lit (.int .u8 20), .lit (.int .u8 15), .lit (.int .u8 25), .lit (.int .u8 17), .lit (.int .u8 4), .lit (.int .u8 8), .lit (.int .u8 31), .lit (.int .u8 27), .lit (.int .u8 13), .lit (.int .u8 23), .lit (.int .u8 21), .lit (.int .u8 19), .lit (.int .u8 16), .lit (.int .u8 7), .lit (.int .u8 26), .lit (.int .u8 12), .lit (.int .u8 18), .lit (.int .u8 6), .lit (.int .u8 11), .lit (.int .u8 5), .lit (.int .u8 10), .lit (.int .u8 9)]
def laid_math_bits_deBruijn64tab {H : Type} : DataW H := .agg [.lit (.int .u8 0), .lit (.int .u8 1), .lit (.int .u8 56), .lit (.int .u8 2), .lit (.int .u8 57), .lit (.int .u8 49), .lit (.int .u8 28), .lit (.int .u8 3), .lit (.int .u8 61), .lit (.int .u8 58), .lit (.int .u8 42), .lit (.int .u8 50), .lit (.int .u8 38), .lit (.int .u8 29), .lit (.int .u8 17), .lit (.int .u8 4), .lit (.int .u8 62), .lit (.int .u8 47), .lit (.int .u8 59), .lit (.int .u8 36), .lit (.int .u8 45), .lit (.int .u8 43), .lit (.int .u8 51), .lit (.int .u8 22), .lit (.int .u8 53), .lit (.int .u8 39), .lit (.int .u8 33), .lit (.int .u8 30), .lit (.int .u8 24), .lit (.int .u8 18), .lit (.int .u8 12), .lit (.int .u8 5), .lit (.int .u8 63), .lit (.int .u8 55), .lit (.int .u8 48), .lit (.int .u8 27), .lit (.int .u8 60), .lit (.int .u8 41), .lit (.int .u8 37), .lit (.int .u8 16), .lit (.int .u8 46), .lit (.int .u8 35), .lit (.int .u8 44), .lit (.int .u8 21), .lit (.int .u8 52), .lit (.int .u8 32), .lit (.int .u8 23), .lit (.int .u8 11), .lit (.int .u8 54), .lit (.int .u8 26), .lit (.int .u8 40), .lit (.int .u8 15), .lit (.int .u8 34), .lit (.int .u8 20), .lit (.int .u8 31), .lit (.int .u8 10), .lit (.int .u8 25), .lit (.int .u8 14), .lit (.int .u8 19), .lit (.int .u8 9), .lit (.int .u8 13), .lit (.int .u8 8), .lit (.int .u8 7), .lit (.int .u8 6)]
def laid_internal_strconv_uint64pow10 {H : Type} : DataW H := .agg [.lit (.int .u64 1), .lit (.int .u64 10), .lit (.int .u64 100), .lit (.int .u64 1000), .lit (.int .u64 10000), .lit (.int .u64 100000), .lit (.int .u64 1000000), .lit (.int .u64 10000000), .lit (.int .u64 100000000), .lit (.int .u64 1000000000), .lit (.int .u64 10000000000), .lit (.int .u64 100000000000), .lit (.int .u64 1000000000000), .lit (.int .u64 10000000000000), .lit (.int .u64 100000000000000), .lit (.int .u64 1000000000000000), .lit (.int .u64 10000000000000000), .lit (.int .u64 100000000000000000), .lit (.int .u64 1000000000000000000), .lit (.int .u64 10000000000000000000)]
def laid_unicode_utf8_acceptRanges {H : Type} : DataW H := .agg [.agg [.lit (.int .u8 128), .lit (.int .u8 191)], .agg [.lit (.int .u8 160), .lit (.int .u8 191)], .agg [.lit (.int .u8 128), .lit (.int .u8 159)], .agg [.lit (.int .u8 144), .lit (.int .u8 191)], .agg [.lit (.int .u8 128), .lit (.int .u8 143)], .agg [.lit (.int .u8 0), .lit (.int .u8 0)], .agg [.lit (.int .u8 0), .lit (.int .u8 0)], .agg [.lit (.int .u8 0), .lit (.int .u8 0)], .agg [.lit (.int .u8 0), .lit (.int .u8 0)], .agg [.lit (.int .u8 0), .lit (.int .u8 0)], .agg [.lit (.int .u8 0), .lit (.int .u8 0)], .agg [.lit (.int .u8 0), .lit (.int .u8 0)], .agg [.lit (.int .u8 0), .lit (.int .u8 0)], .agg [.lit (.int .u8 0), .lit (.int .u8 0)], .agg [.lit (.int .u8 0), .lit (.int .u8 0)], .agg [.lit (.int .u8 0), .lit (.int .u8 0)]]
def laid_strconv_ErrRange {H : Type} : DataW H := .iface "*errors.errorString" (.ptr (.agg [.lit (.string [118, 97, 108, 117, 101, 32, 111, 117, 116, 32, 111, 102, 32, 114, 97, 110, 103, 101])]))
def laid_strconv_ErrSyntax {H : Type} : DataW H := .iface "*errors.errorString" (.ptr (.agg [.lit (.string [105, 110, 118, 97, 108, 105, 100, 32, 115, 121, 110, 116, 97, 120])]))
/-- One of Go's own tables, pinned by name: the form's constant. -/
def laid_unicode_utf8_first : DataW Unit := Go.Pinned.utf8First

/-- 'couchettelaw03.ShuntLacks': WHATEVER THE INPUT: true; the input reads as it did. -/
def shuntLacksSpec : ChangeSpec := { name := "shuntLacks", fn := fun _ => fun
  | [d1, d2, d3, d4] => { results := [.lit (.bool true)], args := [d1, d2, d3, d4] }
  | _ => none }
def shuntLacksRow : OpenClaim := { program := "ytcaocbhbofejnaagreatdoor", sum := "0c1cf251bdbec749bc8472ed4b79b551edab7da0737b888b6632590ee5537b86", func := "couchette/couchettelaw03.ShuntLacks", spec := "shuntLacks", inPlace := ["internal/reflectlite.ValueOf", "(internal/reflectlite.Value).Type", "(internal/reflectlite.Value).IsNil", "internal/reflectlite.TypeOf", "(internal/reflectlite.Value).Elem", "(internal/reflectlite.Value).Set"], unfollowed := true, recurses := true, named := ["errors.errorType"], plainKeys := false, apart := false, laid := [("errors.errorType", laid_errors_errorType)] }
def ShuntLacksSaid : Prop := shuntLacksRow.holds Tryz.pinned (OpenSpec.ofChange shuntLacksSpec)

/-- ITS FALSE NEIGHBOUR: 'it returns false'. Refute it at one input. -/
def shuntLacksWrong : ChangeSpec := { name := "shuntLacks", fn := fun _ => fun
  | [d1, d2, d3, d4] => { results := [.lit (.bool false)], args := [d1, d2, d3, d4] }
  | _ => none }
def ShuntLacksWrongFalsely : Prop := shuntLacksRow.holds Tryz.pinned (OpenSpec.ofChange shuntLacksWrong)

/-- 'couchettelaw03.ShuntKept': WHATEVER THE INPUT: true; the input reads as it did. -/
def shuntKeptSpec : ChangeSpec := { name := "shuntKept", fn := fun _ => fun
  | [d] => { results := [.lit (.bool true)], args := [d] }
  | _ => none }
def shuntKeptRow : OpenClaim := { program := "ytcaocbhbofejnaagreatdoor", sum := "0c1cf251bdbec749bc8472ed4b79b551edab7da0737b888b6632590ee5537b86", func := "couchette/couchettelaw03.ShuntKept", spec := "shuntKept", inPlace := ["internal/reflectlite.ValueOf", "(internal/reflectlite.Value).Type", "(internal/reflectlite.Value).IsNil", "internal/reflectlite.TypeOf", "(internal/reflectlite.Value).Elem", "(internal/reflectlite.Value).Set"], unfollowed := true, recurses := true, named := ["errors.errorType"], plainKeys := false, apart := false, laid := [("errors.errorType", laid_errors_errorType)] }
def ShuntKeptSaid : Prop := shuntKeptRow.holds Tryz.pinned (OpenSpec.ofChange shuntKeptSpec)

/-- ITS FALSE NEIGHBOUR: 'it returns false'. Refute it at one input. -/
def shuntKeptWrong : ChangeSpec := { name := "shuntKept", fn := fun _ => fun
  | [d] => { results := [.lit (.bool false)], args := [d] }
  | _ => none }
def ShuntKeptWrongFalsely : Prop := shuntKeptRow.holds Tryz.pinned (OpenSpec.ofChange shuntKeptWrong)

/-- 'couchettelaw03.ShuntFirst': WHATEVER THE INPUT: true; the input reads as it did. -/
def shuntFirstSpec : ChangeSpec := { name := "shuntFirst", fn := fun _ => fun
  | [d] => { results := [.lit (.bool true)], args := [d] }
  | _ => none }
def shuntFirstRow : OpenClaim := { program := "ytcaocbhbofejnaagreatdoor", sum := "0c1cf251bdbec749bc8472ed4b79b551edab7da0737b888b6632590ee5537b86", func := "couchette/couchettelaw03.ShuntFirst", spec := "shuntFirst", inPlace := ["internal/reflectlite.ValueOf", "(internal/reflectlite.Value).Type", "(internal/reflectlite.Value).IsNil", "internal/reflectlite.TypeOf", "(internal/reflectlite.Value).Elem", "(internal/reflectlite.Value).Set"], unfollowed := true, recurses := true, named := ["errors.errorType"], plainKeys := false, apart := false, laid := [("errors.errorType", laid_errors_errorType)] }
def ShuntFirstSaid : Prop := shuntFirstRow.holds Tryz.pinned (OpenSpec.ofChange shuntFirstSpec)

/-- ITS FALSE NEIGHBOUR: 'it returns false'. Refute it at one input. -/
def shuntFirstWrong : ChangeSpec := { name := "shuntFirst", fn := fun _ => fun
  | [d] => { results := [.lit (.bool false)], args := [d] }
  | _ => none }
def ShuntFirstWrongFalsely : Prop := shuntFirstRow.holds Tryz.pinned (OpenSpec.ofChange shuntFirstWrong)

/-- 'couchettelaw03.ShuntAsFar': WHATEVER THE INPUT: true; the input reads as it did. -/
def shuntAsFarSpec : ChangeSpec := { name := "shuntAsFar", fn := fun _ => fun
  | [d] => { results := [.lit (.bool true)], args := [d] }
  | _ => none }
def shuntAsFarRow : OpenClaim := { program := "ytcaocbhbofejnaagreatdoor", sum := "0c1cf251bdbec749bc8472ed4b79b551edab7da0737b888b6632590ee5537b86", func := "couchette/couchettelaw03.ShuntAsFar", spec := "shuntAsFar", inPlace := ["internal/reflectlite.ValueOf", "(internal/reflectlite.Value).Type", "(internal/reflectlite.Value).IsNil", "internal/reflectlite.TypeOf", "(internal/reflectlite.Value).Elem", "(internal/reflectlite.Value).Set"], unfollowed := true, recurses := true, named := ["errors.errorType"], plainKeys := false, apart := false, laid := [("errors.errorType", laid_errors_errorType)] }
def ShuntAsFarSaid : Prop := shuntAsFarRow.holds Tryz.pinned (OpenSpec.ofChange shuntAsFarSpec)

/-- ITS FALSE NEIGHBOUR: 'it returns false'. Refute it at one input. -/
def shuntAsFarWrong : ChangeSpec := { name := "shuntAsFar", fn := fun _ => fun
  | [d] => { results := [.lit (.bool false)], args := [d] }
  | _ => none }
def ShuntAsFarWrongFalsely : Prop := shuntAsFarRow.holds Tryz.pinned (OpenSpec.ofChange shuntAsFarWrong)

/-- 'couchettelaw03.ShuntRoom': WHATEVER THE INPUT: true; the input reads as it did. -/
def shuntRoomSpec : ChangeSpec := { name := "shuntRoom", fn := fun _ => fun
  | [d] => { results := [.lit (.bool true)], args := [d] }
  | _ => none }
def shuntRoomRow : OpenClaim := { program := "ytcaocbhbofejnaagreatdoor", sum := "0c1cf251bdbec749bc8472ed4b79b551edab7da0737b888b6632590ee5537b86", func := "couchette/couchettelaw03.ShuntRoom", spec := "shuntRoom", inPlace := ["internal/reflectlite.ValueOf", "(internal/reflectlite.Value).Type", "(internal/reflectlite.Value).IsNil", "internal/reflectlite.TypeOf", "(internal/reflectlite.Value).Elem", "(internal/reflectlite.Value).Set"], unfollowed := true, recurses := true, named := ["errors.errorType"], plainKeys := false, apart := false, laid := [("errors.errorType", laid_errors_errorType)] }
def ShuntRoomSaid : Prop := shuntRoomRow.holds Tryz.pinned (OpenSpec.ofChange shuntRoomSpec)

/-- ITS FALSE NEIGHBOUR: 'it returns false'. Refute it at one input. -/
def shuntRoomWrong : ChangeSpec := { name := "shuntRoom", fn := fun _ => fun
  | [d] => { results := [.lit (.bool false)], args := [d] }
  | _ => none }
def ShuntRoomWrongFalsely : Prop := shuntRoomRow.holds Tryz.pinned (OpenSpec.ofChange shuntRoomWrong)

/-- 'couchettelaw03.ShuntRenamed': WHATEVER THE INPUT: true; the input reads as it did. -/
def shuntRenamedSpec : ChangeSpec := { name := "shuntRenamed", fn := fun _ => fun
  | [d] => { results := [.lit (.bool true)], args := [d] }
  | _ => none }
def shuntRenamedRow : OpenClaim := { program := "ytcaocbhbofejnaagreatdoor", sum := "0c1cf251bdbec749bc8472ed4b79b551edab7da0737b888b6632590ee5537b86", func := "couchette/couchettelaw03.ShuntRenamed", spec := "shuntRenamed", inPlace := ["internal/reflectlite.ValueOf", "(internal/reflectlite.Value).Type", "(internal/reflectlite.Value).IsNil", "internal/reflectlite.TypeOf", "(internal/reflectlite.Value).Elem", "(internal/reflectlite.Value).Set"], unfollowed := true, recurses := true, named := ["errors.errorType"], plainKeys := false, apart := false, laid := [("errors.errorType", laid_errors_errorType)] }
def ShuntRenamedSaid : Prop := shuntRenamedRow.holds Tryz.pinned (OpenSpec.ofChange shuntRenamedSpec)

/-- ITS FALSE NEIGHBOUR: 'it returns false'. Refute it at one input. -/
def shuntRenamedWrong : ChangeSpec := { name := "shuntRenamed", fn := fun _ => fun
  | [d] => { results := [.lit (.bool false)], args := [d] }
  | _ => none }
def ShuntRenamedWrongFalsely : Prop := shuntRenamedRow.holds Tryz.pinned (OpenSpec.ofChange shuntRenamedWrong)

/-- 'couchettelaw03.ShuntOnce': WHATEVER THE INPUT: true; the input reads as it did. -/
def shuntOnceSpec : ChangeSpec := { name := "shuntOnce", fn := fun _ => fun
  | [d1, d2, d3, d4] => { results := [.lit (.bool true)], args := [d1, d2, d3, d4] }
  | _ => none }
def shuntOnceRow : OpenClaim := { program := "ytcaocbhbofejnaagreatdoor", sum := "0c1cf251bdbec749bc8472ed4b79b551edab7da0737b888b6632590ee5537b86", func := "couchette/couchettelaw03.ShuntOnce", spec := "shuntOnce", inPlace := ["internal/reflectlite.ValueOf", "(internal/reflectlite.Value).Type", "(internal/reflectlite.Value).IsNil", "internal/reflectlite.TypeOf", "(internal/reflectlite.Value).Elem", "(internal/reflectlite.Value).Set"], unfollowed := true, recurses := true, named := ["errors.errorType"], plainKeys := false, apart := false, laid := [("errors.errorType", laid_errors_errorType)] }
def ShuntOnceSaid : Prop := shuntOnceRow.holds Tryz.pinned (OpenSpec.ofChange shuntOnceSpec)

/-- ITS FALSE NEIGHBOUR: 'it returns false'. Refute it at one input. -/
def shuntOnceWrong : ChangeSpec := { name := "shuntOnce", fn := fun _ => fun
  | [d1, d2, d3, d4] => { results := [.lit (.bool false)], args := [d1, d2, d3, d4] }
  | _ => none }
def ShuntOnceWrongFalsely : Prop := shuntOnceRow.holds Tryz.pinned (OpenSpec.ofChange shuntOnceWrong)

/-- 'couchettelaw03.ShuntPlays': WHATEVER THE INPUT: true; the input reads as it did. -/
def shuntPlaysSpec : ChangeSpec := { name := "shuntPlays", fn := fun _ => fun
  | [d1, d2, d3, d4, d5] => { results := [.lit (.bool true)], args := [d1, d2, d3, d4, d5] }
  | _ => none }
def shuntPlaysRow : OpenClaim := { program := "ytcaocbhbofejnaagreatdoor", sum := "0c1cf251bdbec749bc8472ed4b79b551edab7da0737b888b6632590ee5537b86", func := "couchette/couchettelaw03.ShuntPlays", spec := "shuntPlays", inPlace := ["internal/reflectlite.ValueOf", "(internal/reflectlite.Value).Type", "(internal/reflectlite.Value).IsNil", "internal/reflectlite.TypeOf", "(internal/reflectlite.Value).Elem", "(internal/reflectlite.Value).Set"], unfollowed := true, recurses := true, named := ["errors.errorType"], plainKeys := false, apart := false, laid := [("errors.errorType", laid_errors_errorType)] }
def ShuntPlaysSaid : Prop := shuntPlaysRow.holds Tryz.pinned (OpenSpec.ofChange shuntPlaysSpec)

/-- ITS FALSE NEIGHBOUR: 'it returns false'. Refute it at one input. -/
def shuntPlaysWrong : ChangeSpec := { name := "shuntPlays", fn := fun _ => fun
  | [d1, d2, d3, d4, d5] => { results := [.lit (.bool false)], args := [d1, d2, d3, d4, d5] }
  | _ => none }
def ShuntPlaysWrongFalsely : Prop := shuntPlaysRow.holds Tryz.pinned (OpenSpec.ofChange shuntPlaysWrong)

/-- 'couchettelaw03.ShuntBack': WHATEVER THE INPUT: true; the input reads as it did. -/
def shuntBackSpec : ChangeSpec := { name := "shuntBack", fn := fun _ => fun
  | [d] => { results := [.lit (.bool true)], args := [d] }
  | _ => none }
def shuntBackRow : OpenClaim := { program := "ytcaocbhbofejnaagreatdoor", sum := "0c1cf251bdbec749bc8472ed4b79b551edab7da0737b888b6632590ee5537b86", func := "couchette/couchettelaw03.ShuntBack", spec := "shuntBack", inPlace := ["internal/reflectlite.ValueOf", "(internal/reflectlite.Value).Type", "(internal/reflectlite.Value).IsNil", "internal/reflectlite.TypeOf", "(internal/reflectlite.Value).Elem", "(internal/reflectlite.Value).Set"], unfollowed := true, recurses := true, named := ["errors.errorType"], plainKeys := false, apart := false, laid := [("errors.errorType", laid_errors_errorType)] }
def ShuntBackSaid : Prop := shuntBackRow.holds Tryz.pinned (OpenSpec.ofChange shuntBackSpec)

/-- ITS FALSE NEIGHBOUR: 'it returns false'. Refute it at one input. -/
def shuntBackWrong : ChangeSpec := { name := "shuntBack", fn := fun _ => fun
  | [d] => { results := [.lit (.bool false)], args := [d] }
  | _ => none }
def ShuntBackWrongFalsely : Prop := shuntBackRow.holds Tryz.pinned (OpenSpec.ofChange shuntBackWrong)

/-- 'couchettelaw03.ShuntDraws': WHATEVER THE INPUT: true; the input reads as it did. -/
def shuntDrawsSpec : ChangeSpec := { name := "shuntDraws", fn := fun _ => fun
  | [d] => { results := [.lit (.bool true)], args := [d] }
  | _ => none }
def shuntDrawsRow : OpenClaim := { program := "ytcaocbhbofejnaagreatdoor", sum := "0c1cf251bdbec749bc8472ed4b79b551edab7da0737b888b6632590ee5537b86", func := "couchette/couchettelaw03.ShuntDraws", spec := "shuntDraws", inPlace := ["internal/reflectlite.ValueOf", "(internal/reflectlite.Value).Type", "(internal/reflectlite.Value).IsNil", "internal/reflectlite.TypeOf", "(internal/reflectlite.Value).Elem", "(internal/reflectlite.Value).Set"], unfollowed := true, recurses := true, named := ["errors.errorType"], plainKeys := false, apart := false, laid := [("errors.errorType", laid_errors_errorType)] }
def ShuntDrawsSaid : Prop := shuntDrawsRow.holds Tryz.pinned (OpenSpec.ofChange shuntDrawsSpec)

/-- ITS FALSE NEIGHBOUR: 'it returns false'. Refute it at one input. -/
def shuntDrawsWrong : ChangeSpec := { name := "shuntDraws", fn := fun _ => fun
  | [d] => { results := [.lit (.bool false)], args := [d] }
  | _ => none }
def ShuntDrawsWrongFalsely : Prop := shuntDrawsRow.holds Tryz.pinned (OpenSpec.ofChange shuntDrawsWrong)

/-- 'couchettelaw03.ShuntFewest': WHATEVER THE INPUT: true; the input reads as it did. -/
def shuntFewestSpec : ChangeSpec := { name := "shuntFewest", fn := fun _ => fun
  | [d1, d2, d3, d4] => { results := [.lit (.bool true)], args := [d1, d2, d3, d4] }
  | _ => none }
def shuntFewestRow : OpenClaim := { program := "ytcaocbhbofejnaagreatdoor", sum := "0c1cf251bdbec749bc8472ed4b79b551edab7da0737b888b6632590ee5537b86", func := "couchette/couchettelaw03.ShuntFewest", spec := "shuntFewest", inPlace := ["internal/reflectlite.ValueOf", "(internal/reflectlite.Value).Type", "(internal/reflectlite.Value).IsNil", "internal/reflectlite.TypeOf", "(internal/reflectlite.Value).Elem", "(internal/reflectlite.Value).Set"], unfollowed := true, recurses := true, named := ["errors.errorType"], plainKeys := false, apart := false, laid := [("errors.errorType", laid_errors_errorType)] }
def ShuntFewestSaid : Prop := shuntFewestRow.holds Tryz.pinned (OpenSpec.ofChange shuntFewestSpec)

/-- ITS FALSE NEIGHBOUR: 'it returns false'. Refute it at one input. -/
def shuntFewestWrong : ChangeSpec := { name := "shuntFewest", fn := fun _ => fun
  | [d1, d2, d3, d4] => { results := [.lit (.bool false)], args := [d1, d2, d3, d4] }
  | _ => none }
def ShuntFewestWrongFalsely : Prop := shuntFewestRow.holds Tryz.pinned (OpenSpec.ofChange shuntFewestWrong)

/-- 'couchettelaw03.ShuntHeat': WHATEVER THE INPUT: true; the input reads as it did. -/
def shuntHeatSpec : ChangeSpec := { name := "shuntHeat", fn := fun _ => fun
  | [d1, d2] => { results := [.lit (.bool true)], args := [d1, d2] }
  | _ => none }
def shuntHeatRow : OpenClaim := { program := "ytcaocbhbofejnaagreatdoor", sum := "0c1cf251bdbec749bc8472ed4b79b551edab7da0737b888b6632590ee5537b86", func := "couchette/couchettelaw03.ShuntHeat", spec := "shuntHeat", inPlace := ["internal/reflectlite.ValueOf", "(internal/reflectlite.Value).Type", "(internal/reflectlite.Value).IsNil", "internal/reflectlite.TypeOf", "(internal/reflectlite.Value).Elem", "(internal/reflectlite.Value).Set"], unfollowed := true, recurses := true, named := ["errors.errorType"], plainKeys := false, apart := false, laid := [("errors.errorType", laid_errors_errorType)] }
def ShuntHeatSaid : Prop := shuntHeatRow.holds Tryz.pinned (OpenSpec.ofChange shuntHeatSpec)

/-- ITS FALSE NEIGHBOUR: 'it returns false'. Refute it at one input. -/
def shuntHeatWrong : ChangeSpec := { name := "shuntHeat", fn := fun _ => fun
  | [d1, d2] => { results := [.lit (.bool false)], args := [d1, d2] }
  | _ => none }
def ShuntHeatWrongFalsely : Prop := shuntHeatRow.holds Tryz.pinned (OpenSpec.ofChange shuntHeatWrong)

/-- 'couchettelaw03.ShuntKnown': WHATEVER THE INPUT: true; the input reads as it did. -/
def shuntKnownSpec : ChangeSpec := { name := "shuntKnown", fn := fun _ => fun
  | [] => { results := [.lit (.bool true)], args := [] }
  | _ => none }
def shuntKnownRow : OpenClaim := { program := "ytcaocbhbofejnaagreatdoor", sum := "0c1cf251bdbec749bc8472ed4b79b551edab7da0737b888b6632590ee5537b86", func := "couchette/couchettelaw03.ShuntKnown", spec := "shuntKnown", inPlace := ["internal/reflectlite.ValueOf", "(internal/reflectlite.Value).Type", "(internal/reflectlite.Value).IsNil", "internal/reflectlite.TypeOf", "(internal/reflectlite.Value).Elem", "(internal/reflectlite.Value).Set", "internal/abi.NoEscape", "internal/bytealg.MakeNoZero"], unfollowed := true, recurses := true, named := ["errors.errorType", "internal/strconv.uint64pow10", "math/bits.deBruijn32tab", "math/bits.deBruijn64tab"], plainKeys := false, apart := false, laid := [("math/bits.deBruijn32tab", laid_math_bits_deBruijn32tab), ("math/bits.deBruijn64tab", laid_math_bits_deBruijn64tab), ("internal/strconv.uint64pow10", laid_internal_strconv_uint64pow10), ("errors.errorType", laid_errors_errorType)] }
def ShuntKnownSaid : Prop := shuntKnownRow.holds Tryz.pinned (OpenSpec.ofChange shuntKnownSpec)

/-- ITS FALSE NEIGHBOUR: 'it returns false'. Refute it at one input. -/
def shuntKnownWrong : ChangeSpec := { name := "shuntKnown", fn := fun _ => fun
  | [] => { results := [.lit (.bool false)], args := [] }
  | _ => none }
def ShuntKnownWrongFalsely : Prop := shuntKnownRow.holds Tryz.pinned (OpenSpec.ofChange shuntKnownWrong)

/-- 'couchettelaw03.ShuntTexts': WHATEVER THE INPUT: true; the input reads as it did. -/
def shuntTextsSpec : ChangeSpec := { name := "shuntTexts", fn := fun _ => fun
  | [d1, d2, d3, d4, d5, d6] => { results := [.lit (.bool true)], args := [d1, d2, d3, d4, d5, d6] }
  | _ => none }
def shuntTextsRow : OpenClaim := { program := "ytcaocbhbofejnaagreatdoor", sum := "0c1cf251bdbec749bc8472ed4b79b551edab7da0737b888b6632590ee5537b86", func := "couchette/couchettelaw03.ShuntTexts", spec := "shuntTexts", inPlace := ["internal/reflectlite.ValueOf", "(internal/reflectlite.Value).Type", "(internal/reflectlite.Value).IsNil", "internal/reflectlite.TypeOf", "(internal/reflectlite.Value).Elem", "(internal/reflectlite.Value).Set", "internal/abi.NoEscape", "internal/bytealg.MakeNoZero", "internal/bytealg.CountString", "internal/bytealg.IndexByteString", "internal/bytealg.IndexString"], unfollowed := true, recurses := true, named := ["errors.errorType", "internal/strconv.uint64pow10", "math/bits.deBruijn32tab", "math/bits.deBruijn64tab", "unicode/utf8.first", "unicode/utf8.acceptRanges", "internal/bytealg.MaxLen", "strconv.ErrSyntax", "strconv.ErrRange"], plainKeys := false, apart := false, laid := [("math/bits.deBruijn32tab", laid_math_bits_deBruijn32tab), ("math/bits.deBruijn64tab", laid_math_bits_deBruijn64tab), ("internal/strconv.uint64pow10", laid_internal_strconv_uint64pow10), ("unicode/utf8.acceptRanges", laid_unicode_utf8_acceptRanges), ("errors.errorType", laid_errors_errorType), ("strconv.ErrRange", laid_strconv_ErrRange), ("strconv.ErrSyntax", laid_strconv_ErrSyntax), ("unicode/utf8.first", laid_unicode_utf8_first)] }
def ShuntTextsSaid : Prop := shuntTextsRow.holds Tryz.pinned (OpenSpec.ofChange shuntTextsSpec)

/-- ITS FALSE NEIGHBOUR: 'it returns false'. Refute it at one input. -/
def shuntTextsWrong : ChangeSpec := { name := "shuntTexts", fn := fun _ => fun
  | [d1, d2, d3, d4, d5, d6] => { results := [.lit (.bool false)], args := [d1, d2, d3, d4, d5, d6] }
  | _ => none }
def ShuntTextsWrongFalsely : Prop := shuntTextsRow.holds Tryz.pinned (OpenSpec.ofChange shuntTextsWrong)

/-- 'couchettelaw03.ShuntWritten': WHATEVER THE INPUT: true; the input reads as it did. -/
def shuntWrittenSpec : ChangeSpec := { name := "shuntWritten", fn := fun _ => fun
  | [d1, d2] => { results := [.lit (.bool true)], args := [d1, d2] }
  | _ => none }
def shuntWrittenRow : OpenClaim := { program := "ytcaocbhbofejnaagreatdoor", sum := "0c1cf251bdbec749bc8472ed4b79b551edab7da0737b888b6632590ee5537b86", func := "couchette/couchettelaw03.ShuntWritten", spec := "shuntWritten", inPlace := ["internal/reflectlite.ValueOf", "(internal/reflectlite.Value).Type", "(internal/reflectlite.Value).IsNil", "internal/reflectlite.TypeOf", "(internal/reflectlite.Value).Elem", "(internal/reflectlite.Value).Set", "internal/abi.NoEscape", "internal/bytealg.MakeNoZero", "internal/bytealg.CountString", "internal/bytealg.IndexByteString", "internal/bytealg.IndexString"], unfollowed := true, recurses := true, named := ["errors.errorType", "internal/strconv.uint64pow10", "math/bits.deBruijn32tab", "math/bits.deBruijn64tab", "unicode/utf8.first", "unicode/utf8.acceptRanges", "internal/bytealg.MaxLen", "strconv.ErrSyntax", "strconv.ErrRange"], plainKeys := false, apart := false, laid := [("math/bits.deBruijn32tab", laid_math_bits_deBruijn32tab), ("math/bits.deBruijn64tab", laid_math_bits_deBruijn64tab), ("internal/strconv.uint64pow10", laid_internal_strconv_uint64pow10), ("unicode/utf8.acceptRanges", laid_unicode_utf8_acceptRanges), ("errors.errorType", laid_errors_errorType), ("strconv.ErrRange", laid_strconv_ErrRange), ("strconv.ErrSyntax", laid_strconv_ErrSyntax), ("unicode/utf8.first", laid_unicode_utf8_first)] }
def ShuntWrittenSaid : Prop := shuntWrittenRow.holds Tryz.pinned (OpenSpec.ofChange shuntWrittenSpec)

/-- ITS FALSE NEIGHBOUR: 'it returns false'. Refute it at one input. -/
def shuntWrittenWrong : ChangeSpec := { name := "shuntWritten", fn := fun _ => fun
  | [d1, d2] => { results := [.lit (.bool false)], args := [d1, d2] }
  | _ => none }
def ShuntWrittenWrongFalsely : Prop := shuntWrittenRow.holds Tryz.pinned (OpenSpec.ofChange shuntWrittenWrong)

/- THE SECOND FORM. 'bulk': how many values and letters a reading holds, each counted each time it is reached (what is shared counts as often as it is met; a slice's spare places count too). A statement '..UptoSaid' is the law's where the arguments, and the package variables that the reading takes, are together of bulk at most 1048576: NARROWER than '..Said'. Prove '..Said' where nothing that the law and all that it calls make is longer than what came in: it says more and counts as full. Else prove '..UptoSaid'. A law counts once. -/
mutual
def uptoBulk {H : Type} : DataW H → Nat
  | .lit (.string bytes) => bytes.length + 1
  | .lit _ => 1
  | .nil => 1
  | .ptr d => uptoBulk d + 1
  | .slice elems spare => uptoBulkAll elems + uptoBulkAll spare + 1
  | .agg parts => uptoBulkAll parts + 1
  | .iface _ d => uptoBulk d + 1
  | .map entries => uptoBulkEntries entries + 1
  | .held _ => 1
def uptoBulkAll {H : Type} : List (DataW H) → Nat
  | [] => 0
  | d :: r => uptoBulk d + uptoBulkAll r
def uptoBulkEntries {H : Type} : List (Lit × DataW H) → Nat
  | [] => 0
  | x :: r => uptoBulkEntry x + uptoBulkEntries r
def uptoBulkEntry {H : Type} : Lit × DataW H → Nat
  | (.string bytes, d) => bytes.length + uptoBulk d + 1
  | (_, d) => uptoBulk d + 1
 end
def uptoSmall : (H : Type) → List (DataW H) → Bool := fun _ ds => decide (uptoBulkAll ds ≤ 1048576)
def OpenSpec.upto (s : _root_.Go.ChangeSpec) : _root_.Go.OpenSpec := { _root_.Go.OpenSpec.ofChange s with cond := some uptoSmall }

/-- 'couchettelaw03.ShuntLacks', WHERE WHAT IT READS IS OF BULK AT MOST 1048576: true; the input reads as it did. -/
def shuntLacksUptoRow : OpenClaim := { program := "ytcaocbhbofejnaagreatdoor", sum := "0c1cf251bdbec749bc8472ed4b79b551edab7da0737b888b6632590ee5537b86", func := "couchette/couchettelaw03.ShuntLacks", spec := "shuntLacks", inPlace := ["internal/reflectlite.ValueOf", "(internal/reflectlite.Value).Type", "(internal/reflectlite.Value).IsNil", "internal/reflectlite.TypeOf", "(internal/reflectlite.Value).Elem", "(internal/reflectlite.Value).Set"], unfollowed := true, recurses := true, named := ["errors.errorType"], plainKeys := false, apart := false, laid := [("errors.errorType", laid_errors_errorType)], narrowed := true }
def ShuntLacksUptoSaid : Prop := shuntLacksUptoRow.holds Tryz.pinned (OpenSpec.upto shuntLacksSpec)

/-- 'couchettelaw03.ShuntKept', WHERE WHAT IT READS IS OF BULK AT MOST 1048576: true; the input reads as it did. -/
def shuntKeptUptoRow : OpenClaim := { program := "ytcaocbhbofejnaagreatdoor", sum := "0c1cf251bdbec749bc8472ed4b79b551edab7da0737b888b6632590ee5537b86", func := "couchette/couchettelaw03.ShuntKept", spec := "shuntKept", inPlace := ["internal/reflectlite.ValueOf", "(internal/reflectlite.Value).Type", "(internal/reflectlite.Value).IsNil", "internal/reflectlite.TypeOf", "(internal/reflectlite.Value).Elem", "(internal/reflectlite.Value).Set"], unfollowed := true, recurses := true, named := ["errors.errorType"], plainKeys := false, apart := false, laid := [("errors.errorType", laid_errors_errorType)], narrowed := true }
def ShuntKeptUptoSaid : Prop := shuntKeptUptoRow.holds Tryz.pinned (OpenSpec.upto shuntKeptSpec)

/-- 'couchettelaw03.ShuntFirst', WHERE WHAT IT READS IS OF BULK AT MOST 1048576: true; the input reads as it did. -/
def shuntFirstUptoRow : OpenClaim := { program := "ytcaocbhbofejnaagreatdoor", sum := "0c1cf251bdbec749bc8472ed4b79b551edab7da0737b888b6632590ee5537b86", func := "couchette/couchettelaw03.ShuntFirst", spec := "shuntFirst", inPlace := ["internal/reflectlite.ValueOf", "(internal/reflectlite.Value).Type", "(internal/reflectlite.Value).IsNil", "internal/reflectlite.TypeOf", "(internal/reflectlite.Value).Elem", "(internal/reflectlite.Value).Set"], unfollowed := true, recurses := true, named := ["errors.errorType"], plainKeys := false, apart := false, laid := [("errors.errorType", laid_errors_errorType)], narrowed := true }
def ShuntFirstUptoSaid : Prop := shuntFirstUptoRow.holds Tryz.pinned (OpenSpec.upto shuntFirstSpec)

/-- 'couchettelaw03.ShuntAsFar', WHERE WHAT IT READS IS OF BULK AT MOST 1048576: true; the input reads as it did. -/
def shuntAsFarUptoRow : OpenClaim := { program := "ytcaocbhbofejnaagreatdoor", sum := "0c1cf251bdbec749bc8472ed4b79b551edab7da0737b888b6632590ee5537b86", func := "couchette/couchettelaw03.ShuntAsFar", spec := "shuntAsFar", inPlace := ["internal/reflectlite.ValueOf", "(internal/reflectlite.Value).Type", "(internal/reflectlite.Value).IsNil", "internal/reflectlite.TypeOf", "(internal/reflectlite.Value).Elem", "(internal/reflectlite.Value).Set"], unfollowed := true, recurses := true, named := ["errors.errorType"], plainKeys := false, apart := false, laid := [("errors.errorType", laid_errors_errorType)], narrowed := true }
def ShuntAsFarUptoSaid : Prop := shuntAsFarUptoRow.holds Tryz.pinned (OpenSpec.upto shuntAsFarSpec)

/-- 'couchettelaw03.ShuntRoom', WHERE WHAT IT READS IS OF BULK AT MOST 1048576: true; the input reads as it did. -/
def shuntRoomUptoRow : OpenClaim := { program := "ytcaocbhbofejnaagreatdoor", sum := "0c1cf251bdbec749bc8472ed4b79b551edab7da0737b888b6632590ee5537b86", func := "couchette/couchettelaw03.ShuntRoom", spec := "shuntRoom", inPlace := ["internal/reflectlite.ValueOf", "(internal/reflectlite.Value).Type", "(internal/reflectlite.Value).IsNil", "internal/reflectlite.TypeOf", "(internal/reflectlite.Value).Elem", "(internal/reflectlite.Value).Set"], unfollowed := true, recurses := true, named := ["errors.errorType"], plainKeys := false, apart := false, laid := [("errors.errorType", laid_errors_errorType)], narrowed := true }
def ShuntRoomUptoSaid : Prop := shuntRoomUptoRow.holds Tryz.pinned (OpenSpec.upto shuntRoomSpec)

/-- 'couchettelaw03.ShuntRenamed', WHERE WHAT IT READS IS OF BULK AT MOST 1048576: true; the input reads as it did. -/
def shuntRenamedUptoRow : OpenClaim := { program := "ytcaocbhbofejnaagreatdoor", sum := "0c1cf251bdbec749bc8472ed4b79b551edab7da0737b888b6632590ee5537b86", func := "couchette/couchettelaw03.ShuntRenamed", spec := "shuntRenamed", inPlace := ["internal/reflectlite.ValueOf", "(internal/reflectlite.Value).Type", "(internal/reflectlite.Value).IsNil", "internal/reflectlite.TypeOf", "(internal/reflectlite.Value).Elem", "(internal/reflectlite.Value).Set"], unfollowed := true, recurses := true, named := ["errors.errorType"], plainKeys := false, apart := false, laid := [("errors.errorType", laid_errors_errorType)], narrowed := true }
def ShuntRenamedUptoSaid : Prop := shuntRenamedUptoRow.holds Tryz.pinned (OpenSpec.upto shuntRenamedSpec)

/-- 'couchettelaw03.ShuntOnce', WHERE WHAT IT READS IS OF BULK AT MOST 1048576: true; the input reads as it did. -/
def shuntOnceUptoRow : OpenClaim := { program := "ytcaocbhbofejnaagreatdoor", sum := "0c1cf251bdbec749bc8472ed4b79b551edab7da0737b888b6632590ee5537b86", func := "couchette/couchettelaw03.ShuntOnce", spec := "shuntOnce", inPlace := ["internal/reflectlite.ValueOf", "(internal/reflectlite.Value).Type", "(internal/reflectlite.Value).IsNil", "internal/reflectlite.TypeOf", "(internal/reflectlite.Value).Elem", "(internal/reflectlite.Value).Set"], unfollowed := true, recurses := true, named := ["errors.errorType"], plainKeys := false, apart := false, laid := [("errors.errorType", laid_errors_errorType)], narrowed := true }
def ShuntOnceUptoSaid : Prop := shuntOnceUptoRow.holds Tryz.pinned (OpenSpec.upto shuntOnceSpec)

/-- 'couchettelaw03.ShuntPlays', WHERE WHAT IT READS IS OF BULK AT MOST 1048576: true; the input reads as it did. -/
def shuntPlaysUptoRow : OpenClaim := { program := "ytcaocbhbofejnaagreatdoor", sum := "0c1cf251bdbec749bc8472ed4b79b551edab7da0737b888b6632590ee5537b86", func := "couchette/couchettelaw03.ShuntPlays", spec := "shuntPlays", inPlace := ["internal/reflectlite.ValueOf", "(internal/reflectlite.Value).Type", "(internal/reflectlite.Value).IsNil", "internal/reflectlite.TypeOf", "(internal/reflectlite.Value).Elem", "(internal/reflectlite.Value).Set"], unfollowed := true, recurses := true, named := ["errors.errorType"], plainKeys := false, apart := false, laid := [("errors.errorType", laid_errors_errorType)], narrowed := true }
def ShuntPlaysUptoSaid : Prop := shuntPlaysUptoRow.holds Tryz.pinned (OpenSpec.upto shuntPlaysSpec)

/-- 'couchettelaw03.ShuntBack', WHERE WHAT IT READS IS OF BULK AT MOST 1048576: true; the input reads as it did. -/
def shuntBackUptoRow : OpenClaim := { program := "ytcaocbhbofejnaagreatdoor", sum := "0c1cf251bdbec749bc8472ed4b79b551edab7da0737b888b6632590ee5537b86", func := "couchette/couchettelaw03.ShuntBack", spec := "shuntBack", inPlace := ["internal/reflectlite.ValueOf", "(internal/reflectlite.Value).Type", "(internal/reflectlite.Value).IsNil", "internal/reflectlite.TypeOf", "(internal/reflectlite.Value).Elem", "(internal/reflectlite.Value).Set"], unfollowed := true, recurses := true, named := ["errors.errorType"], plainKeys := false, apart := false, laid := [("errors.errorType", laid_errors_errorType)], narrowed := true }
def ShuntBackUptoSaid : Prop := shuntBackUptoRow.holds Tryz.pinned (OpenSpec.upto shuntBackSpec)

/-- 'couchettelaw03.ShuntDraws', WHERE WHAT IT READS IS OF BULK AT MOST 1048576: true; the input reads as it did. -/
def shuntDrawsUptoRow : OpenClaim := { program := "ytcaocbhbofejnaagreatdoor", sum := "0c1cf251bdbec749bc8472ed4b79b551edab7da0737b888b6632590ee5537b86", func := "couchette/couchettelaw03.ShuntDraws", spec := "shuntDraws", inPlace := ["internal/reflectlite.ValueOf", "(internal/reflectlite.Value).Type", "(internal/reflectlite.Value).IsNil", "internal/reflectlite.TypeOf", "(internal/reflectlite.Value).Elem", "(internal/reflectlite.Value).Set"], unfollowed := true, recurses := true, named := ["errors.errorType"], plainKeys := false, apart := false, laid := [("errors.errorType", laid_errors_errorType)], narrowed := true }
def ShuntDrawsUptoSaid : Prop := shuntDrawsUptoRow.holds Tryz.pinned (OpenSpec.upto shuntDrawsSpec)

/-- 'couchettelaw03.ShuntFewest', WHERE WHAT IT READS IS OF BULK AT MOST 1048576: true; the input reads as it did. -/
def shuntFewestUptoRow : OpenClaim := { program := "ytcaocbhbofejnaagreatdoor", sum := "0c1cf251bdbec749bc8472ed4b79b551edab7da0737b888b6632590ee5537b86", func := "couchette/couchettelaw03.ShuntFewest", spec := "shuntFewest", inPlace := ["internal/reflectlite.ValueOf", "(internal/reflectlite.Value).Type", "(internal/reflectlite.Value).IsNil", "internal/reflectlite.TypeOf", "(internal/reflectlite.Value).Elem", "(internal/reflectlite.Value).Set"], unfollowed := true, recurses := true, named := ["errors.errorType"], plainKeys := false, apart := false, laid := [("errors.errorType", laid_errors_errorType)], narrowed := true }
def ShuntFewestUptoSaid : Prop := shuntFewestUptoRow.holds Tryz.pinned (OpenSpec.upto shuntFewestSpec)

/-- 'couchettelaw03.ShuntHeat', WHERE WHAT IT READS IS OF BULK AT MOST 1048576: true; the input reads as it did. -/
def shuntHeatUptoRow : OpenClaim := { program := "ytcaocbhbofejnaagreatdoor", sum := "0c1cf251bdbec749bc8472ed4b79b551edab7da0737b888b6632590ee5537b86", func := "couchette/couchettelaw03.ShuntHeat", spec := "shuntHeat", inPlace := ["internal/reflectlite.ValueOf", "(internal/reflectlite.Value).Type", "(internal/reflectlite.Value).IsNil", "internal/reflectlite.TypeOf", "(internal/reflectlite.Value).Elem", "(internal/reflectlite.Value).Set"], unfollowed := true, recurses := true, named := ["errors.errorType"], plainKeys := false, apart := false, laid := [("errors.errorType", laid_errors_errorType)], narrowed := true }
def ShuntHeatUptoSaid : Prop := shuntHeatUptoRow.holds Tryz.pinned (OpenSpec.upto shuntHeatSpec)

/-- 'couchettelaw03.ShuntKnown', WHERE WHAT IT READS IS OF BULK AT MOST 1048576: true; the input reads as it did. -/
def shuntKnownUptoRow : OpenClaim := { program := "ytcaocbhbofejnaagreatdoor", sum := "0c1cf251bdbec749bc8472ed4b79b551edab7da0737b888b6632590ee5537b86", func := "couchette/couchettelaw03.ShuntKnown", spec := "shuntKnown", inPlace := ["internal/reflectlite.ValueOf", "(internal/reflectlite.Value).Type", "(internal/reflectlite.Value).IsNil", "internal/reflectlite.TypeOf", "(internal/reflectlite.Value).Elem", "(internal/reflectlite.Value).Set", "internal/abi.NoEscape", "internal/bytealg.MakeNoZero"], unfollowed := true, recurses := true, named := ["errors.errorType", "internal/strconv.uint64pow10", "math/bits.deBruijn32tab", "math/bits.deBruijn64tab"], plainKeys := false, apart := false, laid := [("math/bits.deBruijn32tab", laid_math_bits_deBruijn32tab), ("math/bits.deBruijn64tab", laid_math_bits_deBruijn64tab), ("internal/strconv.uint64pow10", laid_internal_strconv_uint64pow10), ("errors.errorType", laid_errors_errorType)], narrowed := true }
def ShuntKnownUptoSaid : Prop := shuntKnownUptoRow.holds Tryz.pinned (OpenSpec.upto shuntKnownSpec)

/-- 'couchettelaw03.ShuntTexts', WHERE WHAT IT READS IS OF BULK AT MOST 1048576: true; the input reads as it did. -/
def shuntTextsUptoRow : OpenClaim := { program := "ytcaocbhbofejnaagreatdoor", sum := "0c1cf251bdbec749bc8472ed4b79b551edab7da0737b888b6632590ee5537b86", func := "couchette/couchettelaw03.ShuntTexts", spec := "shuntTexts", inPlace := ["internal/reflectlite.ValueOf", "(internal/reflectlite.Value).Type", "(internal/reflectlite.Value).IsNil", "internal/reflectlite.TypeOf", "(internal/reflectlite.Value).Elem", "(internal/reflectlite.Value).Set", "internal/abi.NoEscape", "internal/bytealg.MakeNoZero", "internal/bytealg.CountString", "internal/bytealg.IndexByteString", "internal/bytealg.IndexString"], unfollowed := true, recurses := true, named := ["errors.errorType", "internal/strconv.uint64pow10", "math/bits.deBruijn32tab", "math/bits.deBruijn64tab", "unicode/utf8.first", "unicode/utf8.acceptRanges", "internal/bytealg.MaxLen", "strconv.ErrSyntax", "strconv.ErrRange"], plainKeys := false, apart := false, laid := [("math/bits.deBruijn32tab", laid_math_bits_deBruijn32tab), ("math/bits.deBruijn64tab", laid_math_bits_deBruijn64tab), ("internal/strconv.uint64pow10", laid_internal_strconv_uint64pow10), ("unicode/utf8.acceptRanges", laid_unicode_utf8_acceptRanges), ("errors.errorType", laid_errors_errorType), ("strconv.ErrRange", laid_strconv_ErrRange), ("strconv.ErrSyntax", laid_strconv_ErrSyntax), ("unicode/utf8.first", laid_unicode_utf8_first)], narrowed := true }
def ShuntTextsUptoSaid : Prop := shuntTextsUptoRow.holds Tryz.pinned (OpenSpec.upto shuntTextsSpec)

/-- 'couchettelaw03.ShuntWritten', WHERE WHAT IT READS IS OF BULK AT MOST 1048576: true; the input reads as it did. -/
def shuntWrittenUptoRow : OpenClaim := { program := "ytcaocbhbofejnaagreatdoor", sum := "0c1cf251bdbec749bc8472ed4b79b551edab7da0737b888b6632590ee5537b86", func := "couchette/couchettelaw03.ShuntWritten", spec := "shuntWritten", inPlace := ["internal/reflectlite.ValueOf", "(internal/reflectlite.Value).Type", "(internal/reflectlite.Value).IsNil", "internal/reflectlite.TypeOf", "(internal/reflectlite.Value).Elem", "(internal/reflectlite.Value).Set", "internal/abi.NoEscape", "internal/bytealg.MakeNoZero", "internal/bytealg.CountString", "internal/bytealg.IndexByteString", "internal/bytealg.IndexString"], unfollowed := true, recurses := true, named := ["errors.errorType", "internal/strconv.uint64pow10", "math/bits.deBruijn32tab", "math/bits.deBruijn64tab", "unicode/utf8.first", "unicode/utf8.acceptRanges", "internal/bytealg.MaxLen", "strconv.ErrSyntax", "strconv.ErrRange"], plainKeys := false, apart := false, laid := [("math/bits.deBruijn32tab", laid_math_bits_deBruijn32tab), ("math/bits.deBruijn64tab", laid_math_bits_deBruijn64tab), ("internal/strconv.uint64pow10", laid_internal_strconv_uint64pow10), ("unicode/utf8.acceptRanges", laid_unicode_utf8_acceptRanges), ("errors.errorType", laid_errors_errorType), ("strconv.ErrRange", laid_strconv_ErrRange), ("strconv.ErrSyntax", laid_strconv_ErrSyntax), ("unicode/utf8.first", laid_unicode_utf8_first)], narrowed := true }
def ShuntWrittenUptoSaid : Prop := shuntWrittenUptoRow.holds Tryz.pinned (OpenSpec.upto shuntWrittenSpec)

end Rows
end Go.Proofs.YtcaocbhbofejnaaGreatDoor

/-
  NARROWER THAN 'FOR EVERY INPUT', by the rows' own cells (each row's printed sentence says how): ShuntWarm: laid · ShuntBrake: laid · ShuntReach: laid · ShuntLeave: laid.
  DERIVED. THE GIVEN ROWS OF THIS SEAT. 4 by the template 'for every input the law returns true; each argument reads behind the call as it read before'; 0 by the template 'total and deterministic' (their statements: YtcaocbhbofejnaaDoorTotals.lean).
  GIVEN WITH THE SEED: the statements are not yours to turn. If you find one false, say at which input.
  Laid BY PROGRAM, IN A SANDBOX (cutbox-rows.mjs): the forced cells as the released guide's own fill.sh prints them over the translation 6bd20fc42b3edc04… (all of the seat's roots in one cut). By AI agents, Wed Nov 11 2026. No macro, syntax, notation, axiom, sorry.
-/
import Derived.Test.YtcaocbhbofejnaaDoorChecked
import GoSem.Claim
import GoSem.ClaimJoined
import GoSem.ClaimMapViews
import Derived.JoinedTies
import Derived.KernelRfl
namespace Go.Proofs.YtcaocbhbofejnaaDoor
/- THE CELL 'sum', in the pinned program and in every row, IS THE sha256 OF THE DUMP (.gsa) THAT YtcaocbhbofejnaaDoorProg.lean LOADS. Nothing in Lean hashes anything: it is a label: what it is worth is what the hold of that sum in a sandbox is worth. -/
noncomputable def Tryd.pinned : Pinned := { name := "ytcaocbhbofejnaadoor", sum := "6bd20fc42b3edc04b54ccc565d753550451b4db40a90f78af3eaa9033a54e0c9", checked := Tryd.checked }
namespace Rows
def none {H : Type} : Left H := { results := [], args := [] }

/- WHAT THE LISTED PACKAGE-LEVEL VARIABLES READ AS WHEN THE CALL BEGINS. Each datum BY PROGRAM (the guide's laid-datum.mjs) off the statement by which the dump's own 'gosem.cut.vars' lays the variable. In a bare row this is a premise. The card (YtcaocbhbofejnaaDoorCards.lean) ties it to the program's text. -/
def laid_errors_errorType {H : Type} : DataW H := .iface "internal/reflectlite.rtype" (.agg [.ptr (.lit (.string [101, 114, 114, 111, 114]))])

/-- 'couchettelaw03.ShuntWarm': WHATEVER THE INPUT: true; the input reads as it did. -/
def shuntWarmSpec : ChangeSpec := { name := "shuntWarm", fn := fun _ => fun
  | [d] => { results := [.lit (.bool true)], args := [d] }
  | _ => none }
def shuntWarmRow : OpenClaim := { program := "ytcaocbhbofejnaadoor", sum := "6bd20fc42b3edc04b54ccc565d753550451b4db40a90f78af3eaa9033a54e0c9", func := "couchette/couchettelaw03.ShuntWarm", spec := "shuntWarm", inPlace := ["internal/reflectlite.ValueOf", "(internal/reflectlite.Value).Type", "(internal/reflectlite.Value).IsNil", "internal/reflectlite.TypeOf", "(internal/reflectlite.Value).Elem", "(internal/reflectlite.Value).Set"], unfollowed := true, recurses := true, named := ["errors.errorType"], plainKeys := false, apart := false, laid := [("errors.errorType", laid_errors_errorType)] }
def ShuntWarmSaid : Prop := shuntWarmRow.holds Tryd.pinned (OpenSpec.ofChange shuntWarmSpec)

/-- ITS FALSE NEIGHBOUR: 'it returns false'. Refute it at one input. -/
def shuntWarmWrong : ChangeSpec := { name := "shuntWarm", fn := fun _ => fun
  | [d] => { results := [.lit (.bool false)], args := [d] }
  | _ => none }
def ShuntWarmWrongFalsely : Prop := shuntWarmRow.holds Tryd.pinned (OpenSpec.ofChange shuntWarmWrong)

/-- 'couchettelaw03.ShuntBrake': WHATEVER THE INPUT: true; the input reads as it did. -/
def shuntBrakeSpec : ChangeSpec := { name := "shuntBrake", fn := fun _ => fun
  | [d] => { results := [.lit (.bool true)], args := [d] }
  | _ => none }
def shuntBrakeRow : OpenClaim := { program := "ytcaocbhbofejnaadoor", sum := "6bd20fc42b3edc04b54ccc565d753550451b4db40a90f78af3eaa9033a54e0c9", func := "couchette/couchettelaw03.ShuntBrake", spec := "shuntBrake", inPlace := ["internal/reflectlite.ValueOf", "(internal/reflectlite.Value).Type", "(internal/reflectlite.Value).IsNil", "internal/reflectlite.TypeOf", "(internal/reflectlite.Value).Elem", "(internal/reflectlite.Value).Set"], unfollowed := true, recurses := true, named := ["errors.errorType"], plainKeys := false, apart := false, laid := [("errors.errorType", laid_errors_errorType)] }
def ShuntBrakeSaid : Prop := shuntBrakeRow.holds Tryd.pinned (OpenSpec.ofChange shuntBrakeSpec)

/-- ITS FALSE NEIGHBOUR: 'it returns false'. Refute it at one input. -/
def shuntBrakeWrong : ChangeSpec := { name := "shuntBrake", fn := fun _ => fun
  | [d] => { results := [.lit (.bool false)], args := [d] }
  | _ => none }
def ShuntBrakeWrongFalsely : Prop := shuntBrakeRow.holds Tryd.pinned (OpenSpec.ofChange shuntBrakeWrong)

/-- 'couchettelaw03.ShuntReach': WHATEVER THE INPUT: true; the input reads as it did. -/
def shuntReachSpec : ChangeSpec := { name := "shuntReach", fn := fun _ => fun
  | [d] => { results := [.lit (.bool true)], args := [d] }
  | _ => none }
def shuntReachRow : OpenClaim := { program := "ytcaocbhbofejnaadoor", sum := "6bd20fc42b3edc04b54ccc565d753550451b4db40a90f78af3eaa9033a54e0c9", func := "couchette/couchettelaw03.ShuntReach", spec := "shuntReach", inPlace := ["internal/reflectlite.ValueOf", "(internal/reflectlite.Value).Type", "(internal/reflectlite.Value).IsNil", "internal/reflectlite.TypeOf", "(internal/reflectlite.Value).Elem", "(internal/reflectlite.Value).Set"], unfollowed := true, recurses := true, named := ["errors.errorType"], plainKeys := false, apart := false, laid := [("errors.errorType", laid_errors_errorType)] }
def ShuntReachSaid : Prop := shuntReachRow.holds Tryd.pinned (OpenSpec.ofChange shuntReachSpec)

/-- ITS FALSE NEIGHBOUR: 'it returns false'. Refute it at one input. -/
def shuntReachWrong : ChangeSpec := { name := "shuntReach", fn := fun _ => fun
  | [d] => { results := [.lit (.bool false)], args := [d] }
  | _ => none }
def ShuntReachWrongFalsely : Prop := shuntReachRow.holds Tryd.pinned (OpenSpec.ofChange shuntReachWrong)

/-- 'couchettelaw03.ShuntLeave': WHATEVER THE INPUT: true; the input reads as it did. -/
def shuntLeaveSpec : ChangeSpec := { name := "shuntLeave", fn := fun _ => fun
  | [d] => { results := [.lit (.bool true)], args := [d] }
  | _ => none }
def shuntLeaveRow : OpenClaim := { program := "ytcaocbhbofejnaadoor", sum := "6bd20fc42b3edc04b54ccc565d753550451b4db40a90f78af3eaa9033a54e0c9", func := "couchette/couchettelaw03.ShuntLeave", spec := "shuntLeave", inPlace := ["internal/reflectlite.ValueOf", "(internal/reflectlite.Value).Type", "(internal/reflectlite.Value).IsNil", "internal/reflectlite.TypeOf", "(internal/reflectlite.Value).Elem", "(internal/reflectlite.Value).Set"], unfollowed := true, recurses := true, named := ["errors.errorType"], plainKeys := false, apart := false, laid := [("errors.errorType", laid_errors_errorType)] }
def ShuntLeaveSaid : Prop := shuntLeaveRow.holds Tryd.pinned (OpenSpec.ofChange shuntLeaveSpec)

/-- ITS FALSE NEIGHBOUR: 'it returns false'. Refute it at one input. -/
def shuntLeaveWrong : ChangeSpec := { name := "shuntLeave", fn := fun _ => fun
  | [d] => { results := [.lit (.bool false)], args := [d] }
  | _ => none }
def ShuntLeaveWrongFalsely : Prop := shuntLeaveRow.holds Tryd.pinned (OpenSpec.ofChange shuntLeaveWrong)

/- THE SECOND FORM. 'bulk': how many values and letters a reading holds, each counted each time it is reached (what is shared counts as often as it is met; a slice's spare places count too). A statement '..UptoSaid' is the law's where the arguments, and the package variables that the reading takes, are together of bulk at most 1048576: NARROWER than '..Said'. Prove '..Said' where nothing that the law and all that it calls make is longer than what came in: it says more and counts as full. Else prove '..UptoSaid'. A law counts once. -/
mutual
def uptoBulk {H : Type} : DataW H → Nat
  | .lit (.string bytes) => bytes.length + 1
  | .lit _ => 1
  | .nil => 1
  | .ptr d => uptoBulk d + 1
  | .slice elems spare => uptoBulkAll elems + uptoBulkAll spare + 1
  | .agg parts => uptoBulkAll parts + 1
  | .iface _ d => uptoBulk d + 1
  | .map entries => uptoBulkEntries entries + 1
  | .held _ => 1
def uptoBulkAll {H : Type} : List (DataW H) → Nat
  | [] => 0
  | d :: r => uptoBulk d + uptoBulkAll r
def uptoBulkEntries {H : Type} : List (Lit × DataW H) → Nat
  | [] => 0
  | x :: r => uptoBulkEntry x + uptoBulkEntries r
def uptoBulkEntry {H : Type} : Lit × DataW H → Nat
  | (.string bytes, d) => bytes.length + uptoBulk d + 1
  | (_, d) => uptoBulk d + 1
 end
def uptoSmall : (H : Type) → List (DataW H) → Bool := fun _ ds => decide (uptoBulkAll ds ≤ 1048576)
def OpenSpec.upto (s : _root_.Go.ChangeSpec) : _root_.Go.OpenSpec := { _root_.Go.OpenSpec.ofChange s with cond := some uptoSmall }

/-- 'couchettelaw03.ShuntWarm', WHERE WHAT IT READS IS OF BULK AT MOST 1048576: true; the input reads as it did. -/
def shuntWarmUptoRow : OpenClaim := { program := "ytcaocbhbofejnaadoor", sum := "6bd20fc42b3edc04b54ccc565d753550451b4db40a90f78af3eaa9033a54e0c9", func := "couchette/couchettelaw03.ShuntWarm", spec := "shuntWarm", inPlace := ["internal/reflectlite.ValueOf", "(internal/reflectlite.Value).Type", "(internal/reflectlite.Value).IsNil", "internal/reflectlite.TypeOf", "(internal/reflectlite.Value).Elem", "(internal/reflectlite.Value).Set"], unfollowed := true, recurses := true, named := ["errors.errorType"], plainKeys := false, apart := false, laid := [("errors.errorType", laid_errors_errorType)], narrowed := true }
def ShuntWarmUptoSaid : Prop := shuntWarmUptoRow.holds Tryd.pinned (OpenSpec.upto shuntWarmSpec)

/-- 'couchettelaw03.ShuntBrake', WHERE WHAT IT READS IS OF BULK AT MOST 1048576: true; the input reads as it did. -/
def shuntBrakeUptoRow : OpenClaim := { program := "ytcaocbhbofejnaadoor", sum := "6bd20fc42b3edc04b54ccc565d753550451b4db40a90f78af3eaa9033a54e0c9", func := "couchette/couchettelaw03.ShuntBrake", spec := "shuntBrake", inPlace := ["internal/reflectlite.ValueOf", "(internal/reflectlite.Value).Type", "(internal/reflectlite.Value).IsNil", "internal/reflectlite.TypeOf", "(internal/reflectlite.Value).Elem", "(internal/reflectlite.Value).Set"], unfollowed := true, recurses := true, named := ["errors.errorType"], plainKeys := false, apart := false, laid := [("errors.errorType", laid_errors_errorType)], narrowed := true }
def ShuntBrakeUptoSaid : Prop := shuntBrakeUptoRow.holds Tryd.pinned (OpenSpec.upto shuntBrakeSpec)

/-- 'couchettelaw03.ShuntReach', WHERE WHAT IT READS IS OF BULK AT MOST 1048576: true; the input reads as it did. -/
def shuntReachUptoRow : OpenClaim := { program := "ytcaocbhbofejnaadoor", sum := "6bd20fc42b3edc04b54ccc565d753550451b4db40a90f78af3eaa9033a54e0c9", func := "couchette/couchettelaw03.ShuntReach", spec := "shuntReach", inPlace := ["internal/reflectlite.ValueOf", "(internal/reflectlite.Value).Type", "(internal/reflectlite.Value).IsNil", "internal/reflectlite.TypeOf", "(internal/reflectlite.Value).Elem", "(internal/reflectlite.Value).Set"], unfollowed := true, recurses := true, named := ["errors.errorType"], plainKeys := false, apart := false, laid := [("errors.errorType", laid_errors_errorType)], narrowed := true }
def ShuntReachUptoSaid : Prop := shuntReachUptoRow.holds Tryd.pinned (OpenSpec.upto shuntReachSpec)

/-- 'couchettelaw03.ShuntLeave', WHERE WHAT IT READS IS OF BULK AT MOST 1048576: true; the input reads as it did. -/
def shuntLeaveUptoRow : OpenClaim := { program := "ytcaocbhbofejnaadoor", sum := "6bd20fc42b3edc04b54ccc565d753550451b4db40a90f78af3eaa9033a54e0c9", func := "couchette/couchettelaw03.ShuntLeave", spec := "shuntLeave", inPlace := ["internal/reflectlite.ValueOf", "(internal/reflectlite.Value).Type", "(internal/reflectlite.Value).IsNil", "internal/reflectlite.TypeOf", "(internal/reflectlite.Value).Elem", "(internal/reflectlite.Value).Set"], unfollowed := true, recurses := true, named := ["errors.errorType"], plainKeys := false, apart := false, laid := [("errors.errorType", laid_errors_errorType)], narrowed := true }
def ShuntLeaveUptoSaid : Prop := shuntLeaveUptoRow.holds Tryd.pinned (OpenSpec.upto shuntLeaveSpec)

end Rows
end Go.Proofs.YtcaocbhbofejnaaDoor

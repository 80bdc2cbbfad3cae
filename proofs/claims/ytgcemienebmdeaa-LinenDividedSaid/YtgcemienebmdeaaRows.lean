/-
  No cell of these rows narrows 'for every input' (looked for: loops, veiled, ifaces, maps, wideKeys, modest, calm, conditions, laid).
  DERIVED. THE GIVEN ROWS OF THIS SEAT. 4 by the template 'for every input the law returns true; each argument reads behind the call as it read before'; 0 by the template 'total and deterministic' (their statements: YtgcemienebmdeaaTotals.lean).
  GIVEN WITH THE SEED: the statements are not yours to turn. If you find one false, say at which input.
  Laid BY PROGRAM, IN A SANDBOX (cutbox-rows.mjs): the forced cells as the released guide's own fill.sh prints them over the translation a643409b4c4a923a… (all of the seat's roots in one cut). By AI agents, Wed Nov 11 2026. No macro, syntax, notation, axiom, sorry.
-/
import Derived.Test.YtgcemienebmdeaaChecked
import GoSem.Claim
import GoSem.ClaimJoined
import GoSem.ClaimMapViews
import Derived.JoinedTies
import Derived.KernelRfl
namespace Go.Proofs.Ytgcemienebmdeaa
/- THE CELL 'sum', in the pinned program and in every row, IS THE sha256 OF THE DUMP (.gsa) THAT YtgcemienebmdeaaProg.lean LOADS. Nothing in Lean hashes anything: it is a label: what it is worth is what the hold of that sum in a sandbox is worth. -/
noncomputable def Try.pinned : Pinned := { name := "ytgcemienebmdeaa", sum := "a643409b4c4a923ad8090fb31d52cdec0cbdd5bd49b693dfafafcd0d95942b25", checked := Try.checked }
namespace Rows
def none {H : Type} : Left H := { results := [], args := [] }

/-- 'couchettelaw07.LinenDivides': WHATEVER THE INPUT: true; the input reads as it did. -/
def linenDividesSpec : ChangeSpec := { name := "linenDivides", fn := fun _ => fun
  | [d1, d2, d3, d4] => { results := [.lit (.bool true)], args := [d1, d2, d3, d4] }
  | _ => none }
def linenDividesRow : OpenClaim := { program := "ytgcemienebmdeaa", sum := "a643409b4c4a923ad8090fb31d52cdec0cbdd5bd49b693dfafafcd0d95942b25", func := "couchette/couchettelaw07.LinenDivides", spec := "linenDivides", unfollowed := true, recurses := true, plainKeys := false, apart := false }
def LinenDividesSaid : Prop := linenDividesRow.holds Try.pinned (OpenSpec.ofChange linenDividesSpec)

/-- ITS FALSE NEIGHBOUR: 'it returns false'. Refute it at one input. -/
def linenDividesWrong : ChangeSpec := { name := "linenDivides", fn := fun _ => fun
  | [d1, d2, d3, d4] => { results := [.lit (.bool false)], args := [d1, d2, d3, d4] }
  | _ => none }
def LinenDividesWrongFalsely : Prop := linenDividesRow.holds Try.pinned (OpenSpec.ofChange linenDividesWrong)

/-- 'couchettelaw07.LinenHolders': WHATEVER THE INPUT: true; the input reads as it did. -/
def linenHoldersSpec : ChangeSpec := { name := "linenHolders", fn := fun _ => fun
  | [d] => { results := [.lit (.bool true)], args := [d] }
  | _ => none }
def linenHoldersRow : OpenClaim := { program := "ytgcemienebmdeaa", sum := "a643409b4c4a923ad8090fb31d52cdec0cbdd5bd49b693dfafafcd0d95942b25", func := "couchette/couchettelaw07.LinenHolders", spec := "linenHolders", unfollowed := true, recurses := true, plainKeys := false, apart := false }
def LinenHoldersSaid : Prop := linenHoldersRow.holds Try.pinned (OpenSpec.ofChange linenHoldersSpec)

/-- ITS FALSE NEIGHBOUR: 'it returns false'. Refute it at one input. -/
def linenHoldersWrong : ChangeSpec := { name := "linenHolders", fn := fun _ => fun
  | [d] => { results := [.lit (.bool false)], args := [d] }
  | _ => none }
def LinenHoldersWrongFalsely : Prop := linenHoldersRow.holds Try.pinned (OpenSpec.ofChange linenHoldersWrong)

/-- 'couchettelaw07.LinenDivided': WHATEVER THE INPUT: true; the input reads as it did. -/
def linenDividedSpec : ChangeSpec := { name := "linenDivided", fn := fun _ => fun
  | [d] => { results := [.lit (.bool true)], args := [d] }
  | _ => none }
def linenDividedRow : OpenClaim := { program := "ytgcemienebmdeaa", sum := "a643409b4c4a923ad8090fb31d52cdec0cbdd5bd49b693dfafafcd0d95942b25", func := "couchette/couchettelaw07.LinenDivided", spec := "linenDivided", unfollowed := true, recurses := true, plainKeys := false, apart := false }
def LinenDividedSaid : Prop := linenDividedRow.holds Try.pinned (OpenSpec.ofChange linenDividedSpec)

/-- ITS FALSE NEIGHBOUR: 'it returns false'. Refute it at one input. -/
def linenDividedWrong : ChangeSpec := { name := "linenDivided", fn := fun _ => fun
  | [d] => { results := [.lit (.bool false)], args := [d] }
  | _ => none }
def LinenDividedWrongFalsely : Prop := linenDividedRow.holds Try.pinned (OpenSpec.ofChange linenDividedWrong)

/-- 'couchettelaw07.LinenKept': WHATEVER THE INPUT: true; the input reads as it did. -/
def linenKeptSpec : ChangeSpec := { name := "linenKept", fn := fun _ => fun
  | [d] => { results := [.lit (.bool true)], args := [d] }
  | _ => none }
def linenKeptRow : OpenClaim := { program := "ytgcemienebmdeaa", sum := "a643409b4c4a923ad8090fb31d52cdec0cbdd5bd49b693dfafafcd0d95942b25", func := "couchette/couchettelaw07.LinenKept", spec := "linenKept", unfollowed := true, recurses := true, plainKeys := false, apart := false }
def LinenKeptSaid : Prop := linenKeptRow.holds Try.pinned (OpenSpec.ofChange linenKeptSpec)

/-- ITS FALSE NEIGHBOUR: 'it returns false'. Refute it at one input. -/
def linenKeptWrong : ChangeSpec := { name := "linenKept", fn := fun _ => fun
  | [d] => { results := [.lit (.bool false)], args := [d] }
  | _ => none }
def LinenKeptWrongFalsely : Prop := linenKeptRow.holds Try.pinned (OpenSpec.ofChange linenKeptWrong)

/- THE SECOND FORM. 'bulk': how many values and letters a reading holds, each counted each time it is reached (what is shared counts as often as it is met; a slice's spare places count too). A statement '..UptoSaid' is the law's where the arguments, and the package variables that the reading takes, are together of bulk at most 1048576: NARROWER than '..Said'. Prove '..Said' where nothing that the law and all that it calls make is longer than what came in: it says more and counts as full. Else prove '..UptoSaid'. A law counts once. -/
mutual
def uptoBulk {H : Type} : DataW H → Nat
  | .lit (.string bytes) => bytes.length + 1
  | .lit _ => 1
  | .nil => 1
  | .ptr d => uptoBulk d + 1
  | .slice elems spare => uptoBulkAll elems + uptoBulkAll spare + 1
  | .agg parts => uptoBulkAll parts + 1
  | .iface _ d => uptoBulk d + 1
  | .map entries => uptoBulkEntries entries + 1
  | .held _ => 1
def uptoBulkAll {H : Type} : List (DataW H) → Nat
  | [] => 0
  | d :: r => uptoBulk d + uptoBulkAll r
def uptoBulkEntries {H : Type} : List (Lit × DataW H) → Nat
  | [] => 0
  | x :: r => uptoBulkEntry x + uptoBulkEntries r
def uptoBulkEntry {H : Type} : Lit × DataW H → Nat
  | (.string bytes, d) => bytes.length + uptoBulk d + 1
  | (_, d) => uptoBulk d + 1
 end
def uptoSmall : (H : Type) → List (DataW H) → Bool := fun _ ds => decide (uptoBulkAll ds ≤ 1048576)
def OpenSpec.upto (s : _root_.Go.ChangeSpec) : _root_.Go.OpenSpec := { _root_.Go.OpenSpec.ofChange s with cond := some uptoSmall }

/-- 'couchettelaw07.LinenDivides', WHERE WHAT IT READS IS OF BULK AT MOST 1048576: true; the input reads as it did. -/
def linenDividesUptoRow : OpenClaim := { program := "ytgcemienebmdeaa", sum := "a643409b4c4a923ad8090fb31d52cdec0cbdd5bd49b693dfafafcd0d95942b25", func := "couchette/couchettelaw07.LinenDivides", spec := "linenDivides", unfollowed := true, recurses := true, plainKeys := false, apart := false, narrowed := true }
def LinenDividesUptoSaid : Prop := linenDividesUptoRow.holds Try.pinned (OpenSpec.upto linenDividesSpec)

/-- 'couchettelaw07.LinenHolders', WHERE WHAT IT READS IS OF BULK AT MOST 1048576: true; the input reads as it did. -/
def linenHoldersUptoRow : OpenClaim := { program := "ytgcemienebmdeaa", sum := "a643409b4c4a923ad8090fb31d52cdec0cbdd5bd49b693dfafafcd0d95942b25", func := "couchette/couchettelaw07.LinenHolders", spec := "linenHolders", unfollowed := true, recurses := true, plainKeys := false, apart := false, narrowed := true }
def LinenHoldersUptoSaid : Prop := linenHoldersUptoRow.holds Try.pinned (OpenSpec.upto linenHoldersSpec)

/-- 'couchettelaw07.LinenDivided', WHERE WHAT IT READS IS OF BULK AT MOST 1048576: true; the input reads as it did. -/
def linenDividedUptoRow : OpenClaim := { program := "ytgcemienebmdeaa", sum := "a643409b4c4a923ad8090fb31d52cdec0cbdd5bd49b693dfafafcd0d95942b25", func := "couchette/couchettelaw07.LinenDivided", spec := "linenDivided", unfollowed := true, recurses := true, plainKeys := false, apart := false, narrowed := true }
def LinenDividedUptoSaid : Prop := linenDividedUptoRow.holds Try.pinned (OpenSpec.upto linenDividedSpec)

/-- 'couchettelaw07.LinenKept', WHERE WHAT IT READS IS OF BULK AT MOST 1048576: true; the input reads as it did. -/
def linenKeptUptoRow : OpenClaim := { program := "ytgcemienebmdeaa", sum := "a643409b4c4a923ad8090fb31d52cdec0cbdd5bd49b693dfafafcd0d95942b25", func := "couchette/couchettelaw07.LinenKept", spec := "linenKept", unfollowed := true, recurses := true, plainKeys := false, apart := false, narrowed := true }
def LinenKeptUptoSaid : Prop := linenKeptUptoRow.holds Try.pinned (OpenSpec.upto linenKeptSpec)

end Rows
end Go.Proofs.Ytgcemienebmdeaa

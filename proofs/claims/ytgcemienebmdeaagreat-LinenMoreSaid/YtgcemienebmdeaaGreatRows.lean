/-
  No cell of these rows narrows 'for every input' (looked for: loops, veiled, ifaces, maps, wideKeys, modest, calm, conditions, laid).
  DERIVED. THE GIVEN ROWS OF THIS SEAT. 12 by the template 'for every input the law returns true; each argument reads behind the call as it read before'; 0 by the template 'total and deterministic' (their statements: YtgcemienebmdeaaGreatTotals.lean).
  GIVEN WITH THE SEED: the statements are not yours to turn. If you find one false, say at which input.
  Laid BY PROGRAM, IN A SANDBOX (cutbox-rows.mjs): the forced cells as the released guide's own fill.sh prints them over the translation b46ad1a66d452c77… (all of the seat's roots in one cut). By AI agents, Wed Nov 11 2026. No macro, syntax, notation, axiom, sorry.
-/
import Derived.Test.YtgcemienebmdeaaGreatChecked
import GoSem.Claim
import GoSem.ClaimJoined
import GoSem.ClaimMapViews
import Derived.JoinedTies
import Derived.KernelRfl
namespace Go.Proofs.YtgcemienebmdeaaGreat
/- THE CELL 'sum', in the pinned program and in every row, IS THE sha256 OF THE DUMP (.gsa) THAT YtgcemienebmdeaaGreatProg.lean LOADS. Nothing in Lean hashes anything: it is a label: what it is worth is what the hold of that sum in a sandbox is worth. -/
noncomputable def Tryz.pinned : Pinned := { name := "ytgcemienebmdeaagreat", sum := "b46ad1a66d452c771ae48ee98c7a5ab1e4f4b5243e11161b6b7d2e567c8a191f", checked := Tryz.checked }
namespace Rows
def none {H : Type} : Left H := { results := [], args := [] }

/-- 'couchettelaw07.LinenGaps': WHATEVER THE INPUT: true; the input reads as it did. -/
def linenGapsSpec : ChangeSpec := { name := "linenGaps", fn := fun _ => fun
  | [d1, d2, d3] => { results := [.lit (.bool true)], args := [d1, d2, d3] }
  | _ => none }
def linenGapsRow : OpenClaim := { program := "ytgcemienebmdeaagreat", sum := "b46ad1a66d452c771ae48ee98c7a5ab1e4f4b5243e11161b6b7d2e567c8a191f", func := "couchette/couchettelaw07.LinenGaps", spec := "linenGaps", unfollowed := true, recurses := true, plainKeys := false, leaving := true, apart := false }
def LinenGapsSaid : Prop := linenGapsRow.holds Tryz.pinned (OpenSpec.ofChange linenGapsSpec)

/-- ITS FALSE NEIGHBOUR: 'it returns false'. Refute it at one input. -/
def linenGapsWrong : ChangeSpec := { name := "linenGaps", fn := fun _ => fun
  | [d1, d2, d3] => { results := [.lit (.bool false)], args := [d1, d2, d3] }
  | _ => none }
def LinenGapsWrongFalsely : Prop := linenGapsRow.holds Tryz.pinned (OpenSpec.ofChange linenGapsWrong)

/-- 'couchettelaw07.LinenOwes': WHATEVER THE INPUT: true; the input reads as it did. -/
def linenOwesSpec : ChangeSpec := { name := "linenOwes", fn := fun _ => fun
  | [d1, d2, d3, d4] => { results := [.lit (.bool true)], args := [d1, d2, d3, d4] }
  | _ => none }
def linenOwesRow : OpenClaim := { program := "ytgcemienebmdeaagreat", sum := "b46ad1a66d452c771ae48ee98c7a5ab1e4f4b5243e11161b6b7d2e567c8a191f", func := "couchette/couchettelaw07.LinenOwes", spec := "linenOwes", unfollowed := true, recurses := true, plainKeys := false, leaving := true, apart := false }
def LinenOwesSaid : Prop := linenOwesRow.holds Tryz.pinned (OpenSpec.ofChange linenOwesSpec)

/-- ITS FALSE NEIGHBOUR: 'it returns false'. Refute it at one input. -/
def linenOwesWrong : ChangeSpec := { name := "linenOwes", fn := fun _ => fun
  | [d1, d2, d3, d4] => { results := [.lit (.bool false)], args := [d1, d2, d3, d4] }
  | _ => none }
def LinenOwesWrongFalsely : Prop := linenOwesRow.holds Tryz.pinned (OpenSpec.ofChange linenOwesWrong)

/-- 'couchettelaw07.LinenOwed': WHATEVER THE INPUT: true; the input reads as it did. -/
def linenOwedSpec : ChangeSpec := { name := "linenOwed", fn := fun _ => fun
  | [d] => { results := [.lit (.bool true)], args := [d] }
  | _ => none }
def linenOwedRow : OpenClaim := { program := "ytgcemienebmdeaagreat", sum := "b46ad1a66d452c771ae48ee98c7a5ab1e4f4b5243e11161b6b7d2e567c8a191f", func := "couchette/couchettelaw07.LinenOwed", spec := "linenOwed", unfollowed := true, recurses := true, plainKeys := false, leaving := true, apart := false }
def LinenOwedSaid : Prop := linenOwedRow.holds Tryz.pinned (OpenSpec.ofChange linenOwedSpec)

/-- ITS FALSE NEIGHBOUR: 'it returns false'. Refute it at one input. -/
def linenOwedWrong : ChangeSpec := { name := "linenOwed", fn := fun _ => fun
  | [d] => { results := [.lit (.bool false)], args := [d] }
  | _ => none }
def LinenOwedWrongFalsely : Prop := linenOwedRow.holds Tryz.pinned (OpenSpec.ofChange linenOwedWrong)

/-- 'couchettelaw07.LinenStruck': WHATEVER THE INPUT: true; the input reads as it did. -/
def linenStruckSpec : ChangeSpec := { name := "linenStruck", fn := fun _ => fun
  | [d1, d2, d3] => { results := [.lit (.bool true)], args := [d1, d2, d3] }
  | _ => none }
def linenStruckRow : OpenClaim := { program := "ytgcemienebmdeaagreat", sum := "b46ad1a66d452c771ae48ee98c7a5ab1e4f4b5243e11161b6b7d2e567c8a191f", func := "couchette/couchettelaw07.LinenStruck", spec := "linenStruck", unfollowed := true, recurses := true, plainKeys := false, leaving := true, apart := false }
def LinenStruckSaid : Prop := linenStruckRow.holds Tryz.pinned (OpenSpec.ofChange linenStruckSpec)

/-- ITS FALSE NEIGHBOUR: 'it returns false'. Refute it at one input. -/
def linenStruckWrong : ChangeSpec := { name := "linenStruck", fn := fun _ => fun
  | [d1, d2, d3] => { results := [.lit (.bool false)], args := [d1, d2, d3] }
  | _ => none }
def LinenStruckWrongFalsely : Prop := linenStruckRow.holds Tryz.pinned (OpenSpec.ofChange linenStruckWrong)

/-- 'couchettelaw07.LinenStocks': WHATEVER THE INPUT: true; the input reads as it did. -/
def linenStocksSpec : ChangeSpec := { name := "linenStocks", fn := fun _ => fun
  | [d1, d2, d3, d4, d5] => { results := [.lit (.bool true)], args := [d1, d2, d3, d4, d5] }
  | _ => none }
def linenStocksRow : OpenClaim := { program := "ytgcemienebmdeaagreat", sum := "b46ad1a66d452c771ae48ee98c7a5ab1e4f4b5243e11161b6b7d2e567c8a191f", func := "couchette/couchettelaw07.LinenStocks", spec := "linenStocks", unfollowed := true, recurses := true, plainKeys := false, leaving := true, apart := false }
def LinenStocksSaid : Prop := linenStocksRow.holds Tryz.pinned (OpenSpec.ofChange linenStocksSpec)

/-- ITS FALSE NEIGHBOUR: 'it returns false'. Refute it at one input. -/
def linenStocksWrong : ChangeSpec := { name := "linenStocks", fn := fun _ => fun
  | [d1, d2, d3, d4, d5] => { results := [.lit (.bool false)], args := [d1, d2, d3, d4, d5] }
  | _ => none }
def LinenStocksWrongFalsely : Prop := linenStocksRow.holds Tryz.pinned (OpenSpec.ofChange linenStocksWrong)

/-- 'couchettelaw07.LinenFewest': WHATEVER THE INPUT: true; the input reads as it did. -/
def linenFewestSpec : ChangeSpec := { name := "linenFewest", fn := fun _ => fun
  | [d] => { results := [.lit (.bool true)], args := [d] }
  | _ => none }
def linenFewestRow : OpenClaim := { program := "ytgcemienebmdeaagreat", sum := "b46ad1a66d452c771ae48ee98c7a5ab1e4f4b5243e11161b6b7d2e567c8a191f", func := "couchette/couchettelaw07.LinenFewest", spec := "linenFewest", unfollowed := true, recurses := true, plainKeys := false, leaving := true, apart := false }
def LinenFewestSaid : Prop := linenFewestRow.holds Tryz.pinned (OpenSpec.ofChange linenFewestSpec)

/-- ITS FALSE NEIGHBOUR: 'it returns false'. Refute it at one input. -/
def linenFewestWrong : ChangeSpec := { name := "linenFewest", fn := fun _ => fun
  | [d] => { results := [.lit (.bool false)], args := [d] }
  | _ => none }
def LinenFewestWrongFalsely : Prop := linenFewestRow.holds Tryz.pinned (OpenSpec.ofChange linenFewestWrong)

/-- 'couchettelaw07.LinenRenamed': WHATEVER THE INPUT: true; the input reads as it did. -/
def linenRenamedSpec : ChangeSpec := { name := "linenRenamed", fn := fun _ => fun
  | [d] => { results := [.lit (.bool true)], args := [d] }
  | _ => none }
def linenRenamedRow : OpenClaim := { program := "ytgcemienebmdeaagreat", sum := "b46ad1a66d452c771ae48ee98c7a5ab1e4f4b5243e11161b6b7d2e567c8a191f", func := "couchette/couchettelaw07.LinenRenamed", spec := "linenRenamed", unfollowed := true, recurses := true, plainKeys := false, leaving := true, apart := false }
def LinenRenamedSaid : Prop := linenRenamedRow.holds Tryz.pinned (OpenSpec.ofChange linenRenamedSpec)

/-- ITS FALSE NEIGHBOUR: 'it returns false'. Refute it at one input. -/
def linenRenamedWrong : ChangeSpec := { name := "linenRenamed", fn := fun _ => fun
  | [d] => { results := [.lit (.bool false)], args := [d] }
  | _ => none }
def LinenRenamedWrongFalsely : Prop := linenRenamedRow.holds Tryz.pinned (OpenSpec.ofChange linenRenamedWrong)

/-- 'couchettelaw07.LinenTrue': WHATEVER THE INPUT: true; the input reads as it did. -/
def linenTrueSpec : ChangeSpec := { name := "linenTrue", fn := fun _ => fun
  | [d] => { results := [.lit (.bool true)], args := [d] }
  | _ => none }
def linenTrueRow : OpenClaim := { program := "ytgcemienebmdeaagreat", sum := "b46ad1a66d452c771ae48ee98c7a5ab1e4f4b5243e11161b6b7d2e567c8a191f", func := "couchette/couchettelaw07.LinenTrue", spec := "linenTrue", unfollowed := true, recurses := true, plainKeys := false, leaving := true, apart := false }
def LinenTrueSaid : Prop := linenTrueRow.holds Tryz.pinned (OpenSpec.ofChange linenTrueSpec)

/-- ITS FALSE NEIGHBOUR: 'it returns false'. Refute it at one input. -/
def linenTrueWrong : ChangeSpec := { name := "linenTrue", fn := fun _ => fun
  | [d] => { results := [.lit (.bool false)], args := [d] }
  | _ => none }
def LinenTrueWrongFalsely : Prop := linenTrueRow.holds Tryz.pinned (OpenSpec.ofChange linenTrueWrong)

/-- 'couchettelaw07.LinenOrder': WHATEVER THE INPUT: true; the input reads as it did. -/
def linenOrderSpec : ChangeSpec := { name := "linenOrder", fn := fun _ => fun
  | [d] => { results := [.lit (.bool true)], args := [d] }
  | _ => none }
def linenOrderRow : OpenClaim := { program := "ytgcemienebmdeaagreat", sum := "b46ad1a66d452c771ae48ee98c7a5ab1e4f4b5243e11161b6b7d2e567c8a191f", func := "couchette/couchettelaw07.LinenOrder", spec := "linenOrder", unfollowed := true, recurses := true, plainKeys := false, leaving := true, apart := false }
def LinenOrderSaid : Prop := linenOrderRow.holds Tryz.pinned (OpenSpec.ofChange linenOrderSpec)

/-- ITS FALSE NEIGHBOUR: 'it returns false'. Refute it at one input. -/
def linenOrderWrong : ChangeSpec := { name := "linenOrder", fn := fun _ => fun
  | [d] => { results := [.lit (.bool false)], args := [d] }
  | _ => none }
def LinenOrderWrongFalsely : Prop := linenOrderRow.holds Tryz.pinned (OpenSpec.ofChange linenOrderWrong)

/-- 'couchettelaw07.LinenLate': WHATEVER THE INPUT: true; the input reads as it did. -/
def linenLateSpec : ChangeSpec := { name := "linenLate", fn := fun _ => fun
  | [d] => { results := [.lit (.bool true)], args := [d] }
  | _ => none }
def linenLateRow : OpenClaim := { program := "ytgcemienebmdeaagreat", sum := "b46ad1a66d452c771ae48ee98c7a5ab1e4f4b5243e11161b6b7d2e567c8a191f", func := "couchette/couchettelaw07.LinenLate", spec := "linenLate", unfollowed := true, recurses := true, plainKeys := false, leaving := true, apart := false }
def LinenLateSaid : Prop := linenLateRow.holds Tryz.pinned (OpenSpec.ofChange linenLateSpec)

/-- ITS FALSE NEIGHBOUR: 'it returns false'. Refute it at one input. -/
def linenLateWrong : ChangeSpec := { name := "linenLate", fn := fun _ => fun
  | [d] => { results := [.lit (.bool false)], args := [d] }
  | _ => none }
def LinenLateWrongFalsely : Prop := linenLateRow.holds Tryz.pinned (OpenSpec.ofChange linenLateWrong)

/-- 'couchettelaw07.LinenMore': WHATEVER THE INPUT: true; the input reads as it did. -/
def linenMoreSpec : ChangeSpec := { name := "linenMore", fn := fun _ => fun
  | [d1, d2, d3, d4] => { results := [.lit (.bool true)], args := [d1, d2, d3, d4] }
  | _ => none }
def linenMoreRow : OpenClaim := { program := "ytgcemienebmdeaagreat", sum := "b46ad1a66d452c771ae48ee98c7a5ab1e4f4b5243e11161b6b7d2e567c8a191f", func := "couchette/couchettelaw07.LinenMore", spec := "linenMore", unfollowed := true, recurses := true, plainKeys := false, leaving := true, apart := false }
def LinenMoreSaid : Prop := linenMoreRow.holds Tryz.pinned (OpenSpec.ofChange linenMoreSpec)

/-- ITS FALSE NEIGHBOUR: 'it returns false'. Refute it at one input. -/
def linenMoreWrong : ChangeSpec := { name := "linenMore", fn := fun _ => fun
  | [d1, d2, d3, d4] => { results := [.lit (.bool false)], args := [d1, d2, d3, d4] }
  | _ => none }
def LinenMoreWrongFalsely : Prop := linenMoreRow.holds Tryz.pinned (OpenSpec.ofChange linenMoreWrong)

/-- 'couchettelaw07.LinenMerged': WHATEVER THE INPUT: true; the input reads as it did. -/
def linenMergedSpec : ChangeSpec := { name := "linenMerged", fn := fun _ => fun
  | [d] => { results := [.lit (.bool true)], args := [d] }
  | _ => none }
def linenMergedRow : OpenClaim := { program := "ytgcemienebmdeaagreat", sum := "b46ad1a66d452c771ae48ee98c7a5ab1e4f4b5243e11161b6b7d2e567c8a191f", func := "couchette/couchettelaw07.LinenMerged", spec := "linenMerged", unfollowed := true, recurses := true, plainKeys := false, leaving := true, apart := false }
def LinenMergedSaid : Prop := linenMergedRow.holds Tryz.pinned (OpenSpec.ofChange linenMergedSpec)

/-- ITS FALSE NEIGHBOUR: 'it returns false'. Refute it at one input. -/
def linenMergedWrong : ChangeSpec := { name := "linenMerged", fn := fun _ => fun
  | [d] => { results := [.lit (.bool false)], args := [d] }
  | _ => none }
def LinenMergedWrongFalsely : Prop := linenMergedRow.holds Tryz.pinned (OpenSpec.ofChange linenMergedWrong)

/- THE SECOND FORM. 'bulk': how many values and letters a reading holds, each counted each time it is reached (what is shared counts as often as it is met; a slice's spare places count too). A statement '..UptoSaid' is the law's where the arguments, and the package variables that the reading takes, are together of bulk at most 1048576: NARROWER than '..Said'. Prove '..Said' where nothing that the law and all that it calls make is longer than what came in: it says more and counts as full. Else prove '..UptoSaid'. A law counts once. -/
mutual
def uptoBulk {H : Type} : DataW H → Nat
  | .lit (.string bytes) => bytes.length + 1
  | .lit _ => 1
  | .nil => 1
  | .ptr d => uptoBulk d + 1
  | .slice elems spare => uptoBulkAll elems + uptoBulkAll spare + 1
  | .agg parts => uptoBulkAll parts + 1
  | .iface _ d => uptoBulk d + 1
  | .map entries => uptoBulkEntries entries + 1
  | .held _ => 1
def uptoBulkAll {H : Type} : List (DataW H) → Nat
  | [] => 0
  | d :: r => uptoBulk d + uptoBulkAll r
def uptoBulkEntries {H : Type} : List (Lit × DataW H) → Nat
  | [] => 0
  | x :: r => uptoBulkEntry x + uptoBulkEntries r
def uptoBulkEntry {H : Type} : Lit × DataW H → Nat
  | (.string bytes, d) => bytes.length + uptoBulk d + 1
  | (_, d) => uptoBulk d + 1
 end
def uptoSmall : (H : Type) → List (DataW H) → Bool := fun _ ds => decide (uptoBulkAll ds ≤ 1048576)
def OpenSpec.upto (s : _root_.Go.ChangeSpec) : _root_.Go.OpenSpec := { _root_.Go.OpenSpec.ofChange s with cond := some uptoSmall }

/-- 'couchettelaw07.LinenGaps', WHERE WHAT IT READS IS OF BULK AT MOST 1048576: true; the input reads as it did. -/
def linenGapsUptoRow : OpenClaim := { program := "ytgcemienebmdeaagreat", sum := "b46ad1a66d452c771ae48ee98c7a5ab1e4f4b5243e11161b6b7d2e567c8a191f", func := "couchette/couchettelaw07.LinenGaps", spec := "linenGaps", unfollowed := true, recurses := true, plainKeys := false, leaving := true, apart := false, narrowed := true }
def LinenGapsUptoSaid : Prop := linenGapsUptoRow.holds Tryz.pinned (OpenSpec.upto linenGapsSpec)

/-- 'couchettelaw07.LinenOwes', WHERE WHAT IT READS IS OF BULK AT MOST 1048576: true; the input reads as it did. -/
def linenOwesUptoRow : OpenClaim := { program := "ytgcemienebmdeaagreat", sum := "b46ad1a66d452c771ae48ee98c7a5ab1e4f4b5243e11161b6b7d2e567c8a191f", func := "couchette/couchettelaw07.LinenOwes", spec := "linenOwes", unfollowed := true, recurses := true, plainKeys := false, leaving := true, apart := false, narrowed := true }
def LinenOwesUptoSaid : Prop := linenOwesUptoRow.holds Tryz.pinned (OpenSpec.upto linenOwesSpec)

/-- 'couchettelaw07.LinenOwed', WHERE WHAT IT READS IS OF BULK AT MOST 1048576: true; the input reads as it did. -/
def linenOwedUptoRow : OpenClaim := { program := "ytgcemienebmdeaagreat", sum := "b46ad1a66d452c771ae48ee98c7a5ab1e4f4b5243e11161b6b7d2e567c8a191f", func := "couchette/couchettelaw07.LinenOwed", spec := "linenOwed", unfollowed := true, recurses := true, plainKeys := false, leaving := true, apart := false, narrowed := true }
def LinenOwedUptoSaid : Prop := linenOwedUptoRow.holds Tryz.pinned (OpenSpec.upto linenOwedSpec)

/-- 'couchettelaw07.LinenStruck', WHERE WHAT IT READS IS OF BULK AT MOST 1048576: true; the input reads as it did. -/
def linenStruckUptoRow : OpenClaim := { program := "ytgcemienebmdeaagreat", sum := "b46ad1a66d452c771ae48ee98c7a5ab1e4f4b5243e11161b6b7d2e567c8a191f", func := "couchette/couchettelaw07.LinenStruck", spec := "linenStruck", unfollowed := true, recurses := true, plainKeys := false, leaving := true, apart := false, narrowed := true }
def LinenStruckUptoSaid : Prop := linenStruckUptoRow.holds Tryz.pinned (OpenSpec.upto linenStruckSpec)

/-- 'couchettelaw07.LinenStocks', WHERE WHAT IT READS IS OF BULK AT MOST 1048576: true; the input reads as it did. -/
def linenStocksUptoRow : OpenClaim := { program := "ytgcemienebmdeaagreat", sum := "b46ad1a66d452c771ae48ee98c7a5ab1e4f4b5243e11161b6b7d2e567c8a191f", func := "couchette/couchettelaw07.LinenStocks", spec := "linenStocks", unfollowed := true, recurses := true, plainKeys := false, leaving := true, apart := false, narrowed := true }
def LinenStocksUptoSaid : Prop := linenStocksUptoRow.holds Tryz.pinned (OpenSpec.upto linenStocksSpec)

/-- 'couchettelaw07.LinenFewest', WHERE WHAT IT READS IS OF BULK AT MOST 1048576: true; the input reads as it did. -/
def linenFewestUptoRow : OpenClaim := { program := "ytgcemienebmdeaagreat", sum := "b46ad1a66d452c771ae48ee98c7a5ab1e4f4b5243e11161b6b7d2e567c8a191f", func := "couchette/couchettelaw07.LinenFewest", spec := "linenFewest", unfollowed := true, recurses := true, plainKeys := false, leaving := true, apart := false, narrowed := true }
def LinenFewestUptoSaid : Prop := linenFewestUptoRow.holds Tryz.pinned (OpenSpec.upto linenFewestSpec)

/-- 'couchettelaw07.LinenRenamed', WHERE WHAT IT READS IS OF BULK AT MOST 1048576: true; the input reads as it did. -/
def linenRenamedUptoRow : OpenClaim := { program := "ytgcemienebmdeaagreat", sum := "b46ad1a66d452c771ae48ee98c7a5ab1e4f4b5243e11161b6b7d2e567c8a191f", func := "couchette/couchettelaw07.LinenRenamed", spec := "linenRenamed", unfollowed := true, recurses := true, plainKeys := false, leaving := true, apart := false, narrowed := true }
def LinenRenamedUptoSaid : Prop := linenRenamedUptoRow.holds Tryz.pinned (OpenSpec.upto linenRenamedSpec)

/-- 'couchettelaw07.LinenTrue', WHERE WHAT IT READS IS OF BULK AT MOST 1048576: true; the input reads as it did. -/
def linenTrueUptoRow : OpenClaim := { program := "ytgcemienebmdeaagreat", sum := "b46ad1a66d452c771ae48ee98c7a5ab1e4f4b5243e11161b6b7d2e567c8a191f", func := "couchette/couchettelaw07.LinenTrue", spec := "linenTrue", unfollowed := true, recurses := true, plainKeys := false, leaving := true, apart := false, narrowed := true }
def LinenTrueUptoSaid : Prop := linenTrueUptoRow.holds Tryz.pinned (OpenSpec.upto linenTrueSpec)

/-- 'couchettelaw07.LinenOrder', WHERE WHAT IT READS IS OF BULK AT MOST 1048576: true; the input reads as it did. -/
def linenOrderUptoRow : OpenClaim := { program := "ytgcemienebmdeaagreat", sum := "b46ad1a66d452c771ae48ee98c7a5ab1e4f4b5243e11161b6b7d2e567c8a191f", func := "couchette/couchettelaw07.LinenOrder", spec := "linenOrder", unfollowed := true, recurses := true, plainKeys := false, leaving := true, apart := false, narrowed := true }
def LinenOrderUptoSaid : Prop := linenOrderUptoRow.holds Tryz.pinned (OpenSpec.upto linenOrderSpec)

/-- 'couchettelaw07.LinenLate', WHERE WHAT IT READS IS OF BULK AT MOST 1048576: true; the input reads as it did. -/
def linenLateUptoRow : OpenClaim := { program := "ytgcemienebmdeaagreat", sum := "b46ad1a66d452c771ae48ee98c7a5ab1e4f4b5243e11161b6b7d2e567c8a191f", func := "couchette/couchettelaw07.LinenLate", spec := "linenLate", unfollowed := true, recurses := true, plainKeys := false, leaving := true, apart := false, narrowed := true }
def LinenLateUptoSaid : Prop := linenLateUptoRow.holds Tryz.pinned (OpenSpec.upto linenLateSpec)

/-- 'couchettelaw07.LinenMore', WHERE WHAT IT READS IS OF BULK AT MOST 1048576: true; the input reads as it did. -/
def linenMoreUptoRow : OpenClaim := { program := "ytgcemienebmdeaagreat", sum := "b46ad1a66d452c771ae48ee98c7a5ab1e4f4b5243e11161b6b7d2e567c8a191f", func := "couchette/couchettelaw07.LinenMore", spec := "linenMore", unfollowed := true, recurses := true, plainKeys := false, leaving := true, apart := false, narrowed := true }
def LinenMoreUptoSaid : Prop := linenMoreUptoRow.holds Tryz.pinned (OpenSpec.upto linenMoreSpec)

/-- 'couchettelaw07.LinenMerged', WHERE WHAT IT READS IS OF BULK AT MOST 1048576: true; the input reads as it did. -/
def linenMergedUptoRow : OpenClaim := { program := "ytgcemienebmdeaagreat", sum := "b46ad1a66d452c771ae48ee98c7a5ab1e4f4b5243e11161b6b7d2e567c8a191f", func := "couchette/couchettelaw07.LinenMerged", spec := "linenMerged", unfollowed := true, recurses := true, plainKeys := false, leaving := true, apart := false, narrowed := true }
def LinenMergedUptoSaid : Prop := linenMergedUptoRow.holds Tryz.pinned (OpenSpec.upto linenMergedSpec)

end Rows
end Go.Proofs.YtgcemienebmdeaaGreat

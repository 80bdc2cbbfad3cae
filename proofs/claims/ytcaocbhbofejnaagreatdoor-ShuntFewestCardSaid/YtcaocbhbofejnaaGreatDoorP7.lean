/- A part of the proof of the laws of this seat. -/
import Derived.Test.YtcaocbhbofejnaaGreatDoorP0
import Derived.Test.YtcaocbhbofejnaaGreatDoorTie
import Derived.Test.YtcaocbhbofejnaaGreatDoorCards
import Derived.Test.YtcaocbhbofejnaaGreatDoorProg
import Derived.Test.YtcaocbhbofejnaaGreatDoorP6
import Derived.ChangeVars
import Derived.JoinedOf
import Derived.RowKit
import Derived.RowKitTokens
import Derived.LaidLaws
import Derived.LaidHandle
import Derived.Stop.Joined
import Derived.SevenTiedAt
import Derived.WideKeyArgs
import Derived.ProofKit
import Derived.SizedLaws
set_option linter.unusedVariables false
set_option linter.unusedSimpArgs false
namespace Go.Proofs.YtcaocbhbofejnaaGreatDoor
open Go Go.ChangeShapes Go.WideShapes Go.RowKit Go.Sl
set_option maxRecDepth 100000
theorem Row.own : ownKnob Tryz.prog.godebug = none := by kernel_rfl
theorem Row.laidOut : laidOutB Tryz.prog = true := by kernel_rfl
theorem Row.et : Tryz.prog.globalNamed "errors.errorType" = some 0 := by kernel_rfl
theorem Row.oneRow : ((List.range 291).filter fun t => Tryz.prog.rowNamed t [101, 114, 114, 111, 114]) = [126] := by kernel_rfl
theorem Row.size : Tryz.prog.types.size = 291 := by kernel_rfl
theorem Row.cells : Tryz.prog.cellsOf 3 = 1 := by kernel_rfl
theorem Row.bytes : Tryz.prog.bytesOf 3 = 8 := by kernel_rfl
theorem handle_of_laid {W : World} (h : laidMetH Tryz.prog [("errors.errorType", Rows.laid_errors_errorType)] W) : Glob (PH W) := by
  have h' : laidMet Tryz.prog [] W ∧ handlesMet Tryz.prog [("errors.errorType", Rows.laid_errors_errorType)] W := h
  obtain ⟨name, u, ty, e1, e2, e3, e4, e5⟩ := h'.2 _ (List.mem_singleton.2 rfl)
  have en : name = [101, 114, 114, 111, 114] := (Option.some.inj e1).symm
  subst en
  obtain rfl : u = 208 := Option.some.inj (e2.symm.trans (by kernel_rfl))
  have hm : ty ∈ (List.range 291).filter fun t => Tryz.prog.rowNamed t [101, 114, 114, 111, 114] := List.mem_filter.2 ⟨List.mem_range.2 (by rw [← Row.size]; exact e3), e4⟩
  rw [Row.oneRow] at hm
  obtain rfl := List.mem_singleton.1 hm
  have hh : typeHandle Tryz.prog 126 = .pointer (some ⟨9, 126, none⟩) := by kernel_rfl
  rw [hh] at e5
  have hc : W.cell? ⟨0, 0, none⟩ = some (.iface 208 (.agg #[.pointer (some ⟨9, 126, none⟩)])) := by simpa using World.var?_cell Row.et e5 0
  obtain ⟨_, cs, T, fz, hb, hv⟩ := KN hc
  exact ⟨cs, T, fz, hb, hv⟩
noncomputable def laidWorld (os : Os) : World :=
  let w0 := World.holding Tryz.prog os ⟨#[], #[], []⟩
  { w0 with heap := w0.heap.modify 0 fun
      | .cells _ t frozen => .cells #[.iface 208 (.agg #[.pointer (some ⟨9, 126, none⟩)])] t frozen
      | o => o }
theorem laidWorld_met (os : Os) (args : Array Value) : laidMetH Tryz.prog [("errors.errorType", Rows.laid_errors_errorType)] ((laidWorld os).forCall (fun _ _ => 0) ⟨#[], args, []⟩).memory :=
  laidMetH_of_parts (laidMet_nil _ _) (by kernel_rfl)
theorem Row.lifts : (false == Tryz.pinned.checked.prog.liftsFinal) = true := by kernel_rfl
theorem Row.make : (Tryz.pinned.checked.prog.make == some Make.cut) = true := by kernel_rfl
theorem Row.looks : true = Tryz.pinned.checked.prog.looks [] := by kernel_rfl
end Go.Proofs.YtcaocbhbofejnaaGreatDoor

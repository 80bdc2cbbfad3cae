/- The law ShuntBack holds of the program: draws can be undone; Back leads to the yard that was, with as many draws. -/
import Derived.Test.YtcaocbhbofejnaaGreatDoorP7
import Derived.Test.YtcaocbhbofejnaaGreatDoorP6
import Derived.ChangeVars
import Derived.JoinedOf
import Derived.RowKit
import Derived.RowKitTokens
import Derived.LaidLaws
import Derived.LaidHandle
import Derived.Stop.Joined
import Derived.SevenTiedAt
import Derived.WideKeyArgs
import Derived.ProofKit
import Derived.SizedLaws
set_option linter.unusedVariables false
set_option linter.unusedSimpArgs false
namespace Go.Proofs.YtcaocbhbofejnaaGreatDoor
open Go Go.Sl Go.Sh
set_option maxRecDepth 100000
noncomputable def c_Reverse (p : List Nat) : Code := sub (bodyOf Tryz.f109) p
theorem Reverse_ct (I : Imm) (s : Value) (xs : List Shift) (s_Ms : Seg) (s_h : Own 52 3 shiftCell s xs s_Ms) (hl : xs.length ≤ 1000000) : Ct Tryz.prog 109 #[s] I (s_Ms) (fun v I' M' => ∃ s_Mt : Seg, v = .tuple #[] ∧ M' = s_Mt ∧ Own 52 3 shiftCell s (xs.reverse) s_Mt) := by
 obtain ⟨a4, a5, b4, c0⟩ := s_h.shape; subst b4
 refine fr (args := [_]) (N := 28) Tryz.func109 (fun F => ?_)
 show Run _ _ (c_Reverse []) _ _ [(0, .slice a4 xs.length a5)] _ _
 refine rnm (rqr ?_)
 refine sp 2 [(5, .int .i64 (↑(xs.length)))] ?_
 refine sd (dsb 6 (↑(xs.length)) (1)) ?_
 refine sp 2 [(3, .int .i64 ((↑(xs.length)) - 1)), (2, .int .i64 (0))] ?_
 refine seq_re 3 rfl (show (.int .i64 ((↑(xs.length)) - 1) : Value) = .int .i64 (↑xs.length - 1 - (↑(0 : Nat))) from congrArg (Value.int .i64) (by omega)) ?_
 refine se (rb 0 ?_)
 refine rl (fun mz a w => ∃ k : Nat, ∃ zs : List Shift, ∃ a0 : Seg, (k ≤ xs.length) ∧ (Rev noShift xs zs k) ∧ (Own 52 3 shiftCell (.slice a4 xs.length a5) (zs) a0) ∧ Slots 28 [(0, (.slice a4 xs.length a5)), (2, .int .i64 ↑k), (3, .int .i64 (↑xs.length - 1 - ↑k))] a ∧ a.defers = [] ∧ St I ((a0 ++ F)) w ∧ mz = xs.length - k) ?_ ?_
 ·intro a w hS hD hW
  exact ⟨_, 0, xs, s_Ms, Nat.zero_le _, Rev.start _ _, s_h, hS.sub (.cons 0 rfl (.cons 2 rfl (.cons 3 rfl (.nil _)))), hD, hW, rfl⟩
 rintro mz a w ⟨k, zs, a0, hk, a2, a1, hS, hD, hW, rfl⟩
 refine run_at hS hD hW ?_
 clear hS hD hW a w
 have b5 := a2.1
 refine rq (rqr ?_)
 refine sp 3 [(9, .bool (cmp .lss (↑k) (↑xs.length - 1 - ↑k)))] ?_
 refine se ?_
 refine rc 9 rfl (fun h1 => ?_) (fun h1 => ?_)
 ·
  have b0 := h1
  have h1 := lss_t h1
  refine rskip (pst_next (rq (rb 1 ?_)))
  refine rdX (M := ((a0 ++ []))) (F0 := F) [] 14 [(0, true), (1, true), (2, true), (3, true), (4, true), (5, true), (6, true), (7, true), (8, true), (9, true), (10, true), (11, true), (12, true), (13, false)] (by simp only [AA, CA, NA, List.append_nil]; exact PR _) hA_nil ?_
  refine ofx_all (det_pv (d := 14) (v := .slice a4 xs.length a5) (by kernel_rfl)) ?_
  refine ofx_all (det_pv (d := 15) (v := .int .i64 (↑k)) (by kernel_rfl)) ?_
  refine ofx_none (det_pv (d := 16) (v := .slice a4 xs.length a5) (by kernel_rfl)) ?_
  refine ofx_none (det_pv (d := 17) (v := .int .i64 (↑xs.length - 1 - ↑k)) (by kernel_rfl)) ?_
  refine ofx_all (det_pv (d := 18) (v := .slice a4 xs.length a5) (by kernel_rfl)) ?_
  refine ofx_all (det_pv (d := 19) (v := .int .i64 (↑xs.length - 1 - ↑k)) (by kernel_rfl)) ?_
  obtain ⟨b6, a6⟩ := a1.row noShift
  refine ofx_all (diI 20 3 (↑xs.length - 1 - ↑k) (fun _ => a6.addr (by omega)) (n := xs.length)) ?_
  refine ofx_all (dn 21 (oshifts_getN a6 (fun x hx => by simp [hx]) ((↑xs.length - 1 - ↑k : Int).toNat) (by omega))) ?_
  refine ofx_all (det_pv (d := 22) (v := .slice a4 xs.length a5) (by kernel_rfl)) ?_
  refine ofx_all (det_pv (d := 23) (v := .int .i64 (↑k)) (by kernel_rfl)) ?_
  obtain ⟨b7, a7⟩ := a1.row noShift
  refine ofx_all (di 24 3 (k) (fun _ => a7.addr (by omega)) (n := xs.length)) ?_
  refine ofx_all (dn 25 (oshifts_getN a7 (fun x hx => by simp [hx]) (k) (by omega))) ?_
  obtain ⟨b8, a8⟩ := a1.row noShift
  refine ofx_all (di 26 3 (k) (fun _ => a8.addr (by omega)) (n := xs.length)) ?_
  refine ofx_act (Mx := fun FX => ((a0 ++ FX))) rfl (fun FX => by simp only [AA, CA, NA, List.append_nil]; exact PR _) (fun FX => ?_)
  refine id (stp_storeOwnN (T := 52) (x := (.tmp 26)) (y := (.tmp 21)) (rc := fun i f => shiftCell ((zs).getD i noShift) f) noShift (k) (zs.getD ((↑xs.length - 1 - ↑k : Int).toNat) noShift) (ty := 0) (gd := none) (by kernel_rfl) rfl a1 a8 (by omega) rfl rfl (by kernel_rfl) rfl (one1_shift _) (PR _) (fun b2 b3 => ?_))
  refine ofx_nx (M1 := ((b2 ++ []))) (by simp only [AA, CA, NA, List.append_nil]; exact (PR _)) (.wait (by kernel_rfl) (.wait (by kernel_rfl) (.wait (by kernel_rfl) (.wait (by kernel_rfl) (.wait (by kernel_rfl) (.wait (by kernel_rfl) (.wait (by kernel_rfl) (.wait (by kernel_rfl) (.wait (by kernel_rfl) (.none (.none (.wait (by kernel_rfl) (.wait (by kernel_rfl) .nil))))))))))))) ?_
  refine ofx_end ?_
  refine seq_mem (M' := ((b2 ++ F))) (fun w h => by simpa only [AA, CA, NA, List.append_nil] using h) ?_
  refine nm ?_
  obtain ⟨b9, a3⟩ := b3.row noShift
  simp only [LS] at a3
  refine sd (diI 27 3 (↑xs.length - 1 - ↑k) (fun _ => a3.addr (by omega)) (n := xs.length)) ?_
  refine sS (stp_storeOwnN (T := 52) (x := (.tmp 27)) (y := (.tmp 25)) (rc := fun i f => shiftCell ((zs.set (k) (zs.getD ((↑xs.length - 1 - ↑k : Int).toNat) noShift)).getD i noShift) f) noShift ((↑xs.length - 1 - ↑k : Int).toNat) (zs.getD (k) noShift) (ty := 0) (gd := none) (by kernel_rfl) rfl b3 (by simpa only [LS] using a3) (by simp only [LS]; omega) rfl rfl (by kernel_rfl) rfl (one1_shift _) (PR _) (fun a9 b1 => ?_))
  refine nm (ee (pst_normal_block (pst_next (rr ?_))))
  refine sp 1 [(10, .int .i64 (↑k))] ?_
  refine sd (da 11 (↑k) (1)) ?_
  refine sp 1 [(12, .int .i64 (↑xs.length - 1 - ↑k))] ?_
  refine sd (dsb 13 (↑xs.length - 1 - ↑k) (1)) ?_
  refine sp 2 [(3, .int .i64 ((↑xs.length - 1 - ↑k) - 1)), (2, .int .i64 (↑k + 1))] ?_
  refine ee ?_
  refine pst_back (xs.length - (k+1)) (by omega) ?_
  intro a w hS hD hW
  exact ⟨k+1, (zs.set (k) (zs.getD ((↑xs.length - 1 - ↑k : Int).toNat) noShift)).set ((↑xs.length - 1 - ↑k : Int).toNat) (zs.getD (k) noShift), a9, by omega, a2.step (by omega) (by omega), b1, hS.sub (.consE 0 rfl rfl (.consE 2 rfl rfl (.consE 3 rfl (congrArg (Value.int .i64) (by omega)) (.nil _)))), hD, hW, rfl⟩
 have b0 := h1
 have h1 := lss_f h1
 refine rexit 0 ?_
 refine (pst_exit_pass (pst_exit_pass (pst_exit_block ?_)))
 refine pst_end0 (a0) (by kernel_rfl) (TA (TR _) _) (Imm.le.refl _) ?_
 exact ⟨_, rfl, rfl, ((a2.done (by omega)) ▸ a1)⟩

noncomputable def c_Back (p : List Nat) : Code := sub (bodyOf Tryz.f55) p
theorem Back_ct (I : Imm) (y : Value) (Y : Yard) (a : Value) (l : List Shift) (y_f : IsYard I y Y) (a_f : IsShifts I a l) (hG : Glob I) (hll : l.length ≤ 1000) : Ct Tryz.prog 55 #[y, a] I ([]) (fun v I' M' => ∃ u0 : Value, ∃ Ms0 : Seg, v = .tuple #[u0, .int .i64 ((backE Y l).2)] ∧ M' = Ms0 ∧ Own 52 3 shiftCell u0 ((backE Y l).1) Ms0) := by
 obtain ⟨y1, y2, y3, l1, e2, e3, e4⟩ := id y_f
 subst l1
 obtain ⟨a8, a9, j5, j8, h3, j6, j7, j9⟩ := id e2
 subst h3
 obtain ⟨b0, b2, k0, k3, h4, k1, k2, k4⟩ := id e3
 subst h4
 obtain ⟨b3, b4, k5, k8, i0, h5, k6, k7, k9, l0⟩ := id e4
 subst h5
 obtain ⟨e5, e6, l3, l6, i2, l4, l5, c7⟩ := id a_f
 subst i2
 refine fr (args := [_, _]) (N := 35) Tryz.func55 (fun F => ?_)
 show Run _ _ (c_Back []) _ _ [(0, .agg #[.slice a8 Y.cars.length a9, .slice b0 Y.room.length b2, .slice b3 Y.tracks.length b4]), (1, .slice e5 l.length e6)] _ _
 refine rnm (rqr ?_)
 refine sS (sb 2 26 #[.slice a8 Y.cars.length a9, .slice b0 Y.room.length b2, .slice b3 Y.tracks.length b4] (fun b1 => ?_))
 refine sp 2 [(5, .int .i64 (0)), (4, .slice none 0 0)] ?_
 refine se (rq (rqr ?_))
 refine sd (dnb 12 0 0 b1 [.slice a8 Y.cars.length a9, .slice b0 Y.room.length b2, .slice b3 Y.tracks.length b4]) ?_
 refine sp 1 [(13, .slice e5 l.length e6)] ?_
 refine sS (sc (some 14) (Play_ct _ _ (Y) _ _ (mkYard e2 e3 e4) a_f (by first | exact hG | exact hG.mono hI) :) (.refl _) (fun i9 I3 i6 c0 i3 => ?_))
 obtain ⟨l9, h9, h8, i5⟩ := i3
 rw [h9, h8]; clear h9 h8
 replace c7 := c7.mono c0
 have e1 := i5
 obtain ⟨j2, j3, j4, e0, c2, c4, c6⟩ := id e1
 subst e0
 obtain ⟨a0, a1, f5, f8, c1, f6, f7, f9⟩ := id c2
 subst c1
 obtain ⟨a2, a3, g0, g3, c3, g1, g2, g4⟩ := id c4
 subst c3
 obtain ⟨a4, a5, g5, g8, e8, c5, g6, g7, g9, h0⟩ := id c6
 subst c5
 refine nm ?_
 refine sp 3 [(16, .int .i64 (((play Y l).2))), (15, .agg #[.slice a0 (((play Y l).1).cars).length a1, .slice a2 (((play Y l).1).room).length a3, .slice a4 (((play Y l).1).tracks).length a5])] ?_
 refine sS (sal 6 26 #[.slice none 0 0, .slice none 0 0, .slice none 0 0] (fun c8 => ?_))
 refine sS (ss 0 0 c8 [.slice a0 (((play Y l).1).cars).length a1, .slice a2 (((play Y l).1).room).length a3, .slice a4 (((play Y l).1).tracks).length a5] [.slice a0 (((play Y l).1).cars).length a1, .slice a2 (((play Y l).1).room).length a3, .slice a4 (((play Y l).1).tracks).length a5] (_ :: _ :: _) (cs := [_, _, _]) rfl rfl ?_)
 refine sp 1 [(7, .int .i64 (((play Y l).2)))] ?_
 refine sn ?_
 refine sp 2 [(18, .bool (!(cmp .eql (((play Y l).2)) (0))))] ?_
 refine se ?_
 refine rc 18 rfl (fun h1 => ?_) (fun h1 => ?_)
 ·
  have f0 := h1
  have h1 := not_t h1
  have h1 := eql_f h1
  refine rqr ?_
  refine sp 3 [(5, .int .i64 (((play Y l).2))), (4, .slice none 0 0)] ?_
  refine se (rret ?_)
  refine (pst_ret_pass ?_)
  refine pst_ret2 (t := 4) (u := 5) ([]) (by kernel_rfl) rfl rfl (TC _ (TC _ (TR _))) c0 ?_
  exact ⟨_, _, (congrArg (fun n => Value.tuple #[_, .int .i64 n]) (show (play Y l).2 = _ from (congrArg Prod.snd (if_neg h1 : backE Y l = _)).symm)), rfl, ((show [] = _ from (congrArg Prod.fst (if_neg h1 : backE Y l = _)).symm) ▸ Own.nil _ _ _)⟩
 have f0 := h1
 have h1 := not_f h1
 have h1 := eql_t h1
 refine rskip (pst_next (rqr ?_))
 refine sp 1 [(8, .slice none 0 0)] ?_
 refine se (rq (rqr ?_))
 refine sp 3 [(22, .int .i64 (0)), (21, .int .i64 (↑(l.length))), (20, .slice e5 l.length e6)] ?_
 refine se (rb 0 ?_)
 refine rl (fun mz a w => ∃ J0 : Imm, ∃ k : Nat, ∃ b8 : Value, ∃ b6 : Seg, (I3.le J0) ∧ (k ≤ l.length) ∧ (Own 52 3 shiftCell b8 ((l.take k).map backShift) b6) ∧ Slots 35 [(8, b8), (22, .int .i64 ↑k), (4, .slice none 0 0), (5, .int .i64 (0)), (20, .slice e5 l.length e6), (21, .int .i64 (↑(l.length)))] a ∧ a.defers = [] ∧ St J0 ((c8, Obj.cells #[.slice a0 (((play Y l).1).cars).length a1, .slice a2 (((play Y l).1).room).length a3, .slice a4 (((play Y l).1).tracks).length a5] 26 (0, 0)) :: (b1, Obj.cells #[.slice a8 Y.cars.length a9, .slice b0 Y.room.length b2, .slice b3 Y.tracks.length b4] 26 (0, 0)) :: (b6 ++ F)) w ∧ mz = l.length - k) ?_ ?_
 ·intro a w hS hD hW
  exact ⟨_, I3, 0, (.slice none 0 0), [], Imm.le.refl _, Nat.zero_le _, (Own.nil _ _ _), hS.sub (.cons 8 rfl (.cons 22 rfl (.cons 4 rfl (.cons 5 rfl (.cons 20 rfl (.cons 21 rfl (.nil _))))))), hD, hW, rfl⟩
 rintro mz a w ⟨J0, k, b8, b6, hJ0, hk, b7, hS, hD, hW, rfl⟩
 refine run_at hS hD hW ?_
 clear hS hD hW a w
 replace c7 := c7.mono hJ0
 obtain ⟨a6, a7, b9, e7⟩ := b7.shape; subst b9
 refine rqr ?_
 refine sp 1 [(23, .bool (cmp .lss (↑k) (↑(l.length))))] ?_
 refine se (rq ?_)
 refine rc 23 rfl (fun h2 => ?_) (fun h2 => ?_)
 ·
  have f1 := h2
  have h2 := lss_t h2
  refine rskip (pst_next (rq (rb 1 (rqr ?_))))
  refine sd (di 24 3 (k) c7.addr) ?_
  refine sd (det_loadN (x := (.tmp 24)) (T := 52) (n := 3) (vs := [.int .i64 ((l.getD (k) noShift).frm), .int .i64 ((l.getD (k) noShift).to), .int .i64 ((l.getD (k) noShift).many)]) (d := 25) (ty := 52) (gd := none) (by kernel_rfl) rfl (by kernel_rfl) (by kernel_rfl) rfl rfl (shifts_getN c7 (k) (by omega))) ?_
  refine sS (sal 10 52 #[.int .i64 (0), .int .i64 (0), .int .i64 (0)] (fun e9 => ?_))
  refine sS (ss 0 0 e9 [.int .i64 ((l.getD (k) noShift).frm), .int .i64 ((l.getD (k) noShift).to), .int .i64 ((l.getD (k) noShift).many)] [.int .i64 ((l.getD (k) noShift).frm), .int .i64 ((l.getD (k) noShift).to), .int .i64 ((l.getD (k) noShift).many)] (_ :: _ :: _ :: _) (cs := [_, _, _]) rfl rfl ?_)
  refine se (rr ?_)
  refine sp 1 [(26, .slice a6 ((l.take k).map backShift).length a7)] ?_
  refine sd (dnb 27 0 0 e9 [.int .i64 ((l.getD (k) noShift).frm), .int .i64 ((l.getD (k) noShift).to), .int .i64 ((l.getD (k) noShift).many)]) ?_
  refine sS (sc (some 28) (back_ct _ (l.getD (k) noShift) :) (.refl _) (fun j0 i1 i7 d0 f2 => ?_))
  obtain ⟨d5, d2⟩ := f2
  rw [d5, d2]; clear d5 d2
  refine nm ?_
  refine sS (sbs 29 52 1 #[.int .i64 ((backShift (l.getD (k) noShift)).frm), .int .i64 ((backShift (l.getD (k) noShift)).to), .int .i64 ((backShift (l.getD (k) noShift)).many)] (fun l7 => ?_))
  refine sS (stp_append (d := 30) (x := (.tmp 26)) (y := (.tmp 29)) (T := 45) (T' := 45) (E := 52) (E' := 52) (sz := 3) (bs := 24) (z := .agg #[.int .i64 (0), .int .i64 (0), .int .i64 (0)]) (cell := shiftCell) (xs := (l.take k).map backShift) (ys := [backShift (l.getD (k) noShift)]) (Ms := b6) (ty := 45) (gd := none) (by kernel_rfl) rfl (by kernel_rfl) (by kernel_rfl) (by kernel_rfl) (by kernel_rfl) (by kernel_rfl) (by decide) (by kernel_rfl) rfl rfl (b7) ((PC _ ((PC _ ((PC _ (PM.symm)).trans (PM.symm))).trans (PM.symm))).trans (PM.symm)) (one_shiftCell _) (src_atS 0 rfl rfl) (by first | omega | (simp only [LC, LN, LA, List.length_map, LK]; omega)) (fun m0 c9 d4 => ?_))
  refine seq_mem (M' := ((e9, Obj.cells #[.int .i64 ((l.getD (k) noShift).frm), .int .i64 ((l.getD (k) noShift).to), .int .i64 ((l.getD (k) noShift).many)] 52 (0, 0)) :: (c8, Obj.cells #[.slice a0 (((play Y l).1).cars).length a1, .slice a2 (((play Y l).1).room).length a3, .slice a4 (((play Y l).1).tracks).length a5] 26 (0, 0)) :: (b1, Obj.cells #[.slice a8 Y.cars.length a9, .slice b0 Y.room.length b2, .slice b3 Y.tracks.length b4] 26 (0, 0)) :: (c9 ++ F))) (fun w h => (h.perm (List.perm_middle.trans (PC _ (List.perm_middle.trans (PC _ (List.perm_middle.trans (PC _ PM))))))).sub (TC _ (TR _))) ?_
  obtain ⟨d7, d8, f4, i4⟩ := d4.shape
  subst f4
  refine sp 1 [(8, .slice d7 (((l.take k).map backShift) ++ ([backShift (l.getD (k) noShift)])).length d8)] ?_
  refine ee (pst_normal_block (pst_next (rr ?_)))
  refine sd (da 31 (↑k) (1)) ?_
  refine sp 1 [(22, .int .i64 (↑k + 1))] ?_
  refine ee ?_
  refine pst_back (l.length - (k+1)) (by omega) ?_
  intro a w hS hD hW
  exact ⟨i1, k+1, .slice d7 (((l.take k).map backShift) ++ ([backShift (l.getD (k) noShift)])).length d8, c9, (Imm.le.trans hJ0 d0), by omega, (by rw [take_snoc (d := noShift) (xs := l) (k := k) (by omega), List.map_append]; exact d4), hS.sub (.consE 8 rfl rfl (.consE 22 rfl rfl (.cons 4 rfl (.cons 5 rfl (.cons 20 rfl (.cons 21 rfl (.nil _))))))), hD, (hW.perm (PR _)).sub (TC _ (TR _)), rfl⟩
 have f1 := h2
 have h2 := lss_f h2
 refine rexit 0 ?_
 refine (pst_exit_pass (pst_exit_pass (pst_exit_block ?_)))
 refine pst_next (rqr ?_)
 have h7 : l.take k = l := take_done (by omega)
 have l8 : ((l.take k).map backShift).length ≤ 1000 := by (rw [List.length_map, h7]; exact hll)
 refine sp 1 [(32, .slice a6 ((l.take k).map backShift).length a7)] ?_
 skip
 refine sS (sc (some 33) (F := ((c8, Obj.cells #[.slice a0 (((play Y l).1).cars).length a1, .slice a2 (((play Y l).1).room).length a3, .slice a4 (((play Y l).1).tracks).length a5] 26 (0, 0)) :: (b1, Obj.cells #[.slice a8 Y.cars.length a9, .slice b0 Y.room.length b2, .slice b3 Y.tracks.length b4] 26 (0, 0)) :: F)) (Reverse_ct _ _ _ _ b7 (by omega) :) ((PC _ (PM.symm)).trans (PM.symm)) (fun j1 l2 i8 d1 f3 => ?_))
 obtain ⟨b5, d6, d3, d9⟩ := f3
 rw [d6, d3]; clear d6 d3
 refine pm (M' := ((c8, Obj.cells #[.slice a0 (((play Y l).1).cars).length a1, .slice a2 (((play Y l).1).room).length a3, .slice a4 (((play Y l).1).tracks).length a5] 26 (0, 0)) :: (b1, Obj.cells #[.slice a8 Y.cars.length a9, .slice b0 Y.room.length b2, .slice b3 Y.tracks.length b4] 26 (0, 0)) :: (b5 ++ F))) (List.perm_middle.trans (PC _ PM)) ?_
 refine sn ?_
 refine sp 3 [(5, .int .i64 (0)), (4, .slice a6 ((l.take k).map backShift).length a7)] ?_
 refine se (rret ?_)
 have h6 : backE Y l = ((l.map backShift).reverse, 0) := if_pos (by omega)
 refine ppm (M' := ((b5 ++ (c8, Obj.cells #[.slice a0 (((play Y l).1).cars).length a1, .slice a2 (((play Y l).1).room).length a3, .slice a4 (((play Y l).1).tracks).length a5] 26 (0, 0)) :: (b1, Obj.cells #[.slice a8 Y.cars.length a9, .slice b0 Y.room.length b2, .slice b3 Y.tracks.length b4] 26 (0, 0)) :: F))) ((PC _ (PM.symm)).trans (PM.symm)) ?_
 refine pst_ret2 (t := 4) (u := 5) (b5) (by kernel_rfl) rfl rfl (TA (TC _ (TC _ (TR _))) _) (Imm.le.trans (Imm.le.trans c0 hJ0) d1) ?_
 exact ⟨_, _, (congrArg (fun n => Value.tuple #[_, .int .i64 n]) (show 0 = _ from (congrArg Prod.snd (h6)).symm)), rfl, ((show ((l.take k).map backShift).reverse = (backE Y l).1 from by rw [h6, h7]) ▸ d9)⟩

end Go.Proofs.YtcaocbhbofejnaaGreatDoor
namespace Go.Proofs.YtcaocbhbofejnaaGreatDoor
open Go Go.Sl Go.Sh
set_option maxRecDepth 100000
noncomputable def c_ShuntBack (p : List Nat) : Code := sub (bodyOf Tryz.f11) p
set_option maxHeartbeats 1000000 in
theorem ShuntBack_ct (I : Imm) (x : Value) (nums : List Int) (x_f : IsInts I x nums) (hG : Glob I) : Ct Tryz.prog 11 #[x] I ([]) (fun v I' M' => v = .bool (true) ∧ M' = []) := by
 obtain ⟨x1, x2, B6, B9, A2, B7, B8, C0⟩ := id x_f
 subst A2
 refine fr (args := [_]) (N := 62) Tryz.func11 (fun F => ?_)
 show Run _ _ (c_ShuntBack []) _ _ [(0, .slice x1 nums.length x2)] _ _
 refine rnm (rqr ?_)
 refine sp 1 [(2, .bool (false))] ?_
 refine sn ?_
 refine sp 1 [(12, .slice x1 nums.length x2)] ?_
 have i4 := NewBag_ct I _ _ x_f
 refine sS (sc (some 13) (i4 :) (.refl _) (fun B4 I1 B3 i9 y5 => ?_))
 obtain ⟨u6, A1, u8, u5⟩ := y5
 rw [u8, u5]; clear u8 u5
 replace hG := hG.mono i9
 refine nm ?_
 refine sp 1 [(3, .pointer (some ⟨u6, 0, none⟩))] ?_
 refine sn ?_
 refine sp 1 [(14, .pointer (some ⟨u6, 0, none⟩))] ?_
 have i5 := YardOf_ct I1 (u6) (A1) (5) (2) (by omega) (by omega)
 refine sS (sc (some 15) (F := (F)) (i5 :) (.refl _) (fun z3 A3 y8 g2 t2 => ?_))
 obtain ⟨d6, a0, v8, g5, v9, e4, x0, b1, d8, j6, j0, u0, y6, k2, k3, k4, d1⟩ := t2
 rw [j6, j0]; clear j6 j0
 replace hG := hG.mono g2
 obtain ⟨a4, a5, f9, o6⟩ := k2.shape
 subst f9
 obtain ⟨a6, a7, g0, o7⟩ := k3.shape
 subst g0
 obtain ⟨a8, a9, g1, o8⟩ := k4.shape
 subst g1
 have e8 := d1.1
 try simp only [LS, LA, LC, LN, LK] at e8
 refine seq_mem (M' := ((u6, Obj.cells #[.int .u64 (d6)] 95 (0, 0)) :: (g5 ++ (e4 ++ (d8 ++ F))))) (fun w h => by simpa only [AA, CA, NA] using h) ?_
 refine nm ?_
 have k1 : Valid a0 := u0
 have l3 := k1.fine; have u4 := k1.good; have B2 := k1.lens
 have A8 := l3.room1; have A9 := l3.len; have B0 := l3.room3; have B1 := l3.cars
 refine sS (sal 4 26 #[.slice none 0 0, .slice none 0 0, .slice none 0 0] (fun d9 => ?_))
 refine sS (ss 0 0 d9 [.slice a4 a0.cars.length a5, .slice a6 a0.room.length a7, .slice a8 b1.length a9] [.slice a4 a0.cars.length a5, .slice a6 a0.room.length a7, .slice a8 b1.length a9] (_ :: _ :: _) (cs := [_, _, _]) rfl rfl ?_)
 refine sn ?_
 refine sp 1 [(16, .pointer (some ⟨u6, 0, none⟩))] ?_
 refine sd (dnb 17 0 0 d9 [.slice a4 a0.cars.length a5, .slice a6 a0.room.length a7, .slice a8 b1.length a9]) ?_
 refine sfz (A := ((d9, Obj.cells #[.slice a4 a0.cars.length a5, .slice a6 a0.room.length a7, .slice a8 b1.length a9] 26 (0, 0)) :: (u6, Obj.cells #[.int .u64 (d6)] 95 (0, 0)) :: (e4 ++ (d8 ++ F)))) noCar k2 ((PC _ (PM.symm)).trans (PM.symm)) (fun A4 e7 a1 => ?_)
 replace hG := hG.mono e7
 replace d1 := d1.mono e7
 obtain ⟨p7, p9, p8, q2, g7, q0, q1, q3⟩ := id a1
 cases g7
 refine sfz (A := ((d9, Obj.cells #[.slice a4 a0.cars.length a5, .slice a6 a0.room.length a7, .slice a8 b1.length a9] 26 (0, 0)) :: (u6, Obj.cells #[.int .u64 (d6)] 95 (0, 0)) :: (d8 ++ F))) 0 k3 ((PC _ (PM.symm)).trans (PM.symm)) (fun A5 e0 a3 => ?_)
 replace hG := hG.mono e0
 replace d1 := d1.mono e0
 replace a1 := a1.mono e0
 obtain ⟨q4, q6, q5, q9, g8, q7, q8, r0⟩ := id a3
 cases g8
 refine sfz (A := ((d9, Obj.cells #[.slice a4 a0.cars.length a5, .slice a6 a0.room.length a7, .slice a8 b1.length a9] 26 (0, 0)) :: (u6, Obj.cells #[.int .u64 (d6)] 95 (0, 0)) :: F)) undef k4 ((PC _ (PM.symm)).trans (PM.symm)) (fun x4 d2 e5 => ?_)
 replace hG := hG.mono d2
 replace d1 := d1.mono d2
 replace a1 := a1.mono d2
 replace a3 := a3.mono d2
 obtain ⟨r1, r3, r2, r6, g9, r4, r5, r7⟩ := id e5
 cases g9
 have b0 := d1.isRows e5
 have i3 := d1.1
 obtain ⟨o9, p1, p0, p4, l1, g6, p2, p3, p5, p6⟩ := id b0
 injection g6 with fr45_e1 fr45_e2 fr45_e3; subst fr45_e1; subst fr45_e3
 have i6 := ridden_ct x4 (u6) (d6) _ (a0) (6) (mkYard a1 a3 b0) (by assumption) (by omega)
 refine sS (sc (some 18) (F := ((d9, Obj.cells #[.slice a4 a0.cars.length a5, .slice a6 a0.room.length a7, .slice a8 b1.length a9] 26 (0, 0)) :: F)) (i6 :) (PS _ _ _) (fun z4 A6 y9 d3 t3 => ?_))
 obtain ⟨d7, a2, x9, B5, i1, j7, j1, u1, y7, k5⟩ := t3
 rw [j7, j1]; clear j7 j1
 replace hG := hG.mono d3
 replace a1 := a1.mono d3
 replace a3 := a3.mono d3
 replace b0 := b0.mono d3
 obtain ⟨f1, f2, k9, v7⟩ := k5.shape
 subst k9
 refine seq_mem (M' := ((u6, Obj.cells #[.int .u64 (d7)] 95 (0, 0)) :: (i1 ++ (d9, Obj.cells #[.slice a4 a0.cars.length a5, .slice a6 a0.room.length a7, .slice a8 b1.length a9] 26 (0, 0)) :: F))) (fun w h => by simpa only [AA, CA, NA] using h) ?_
 refine pm (M' := ((u6, Obj.cells #[.int .u64 (d7)] 95 (0, 0)) :: (d9, Obj.cells #[.slice a4 a0.cars.length a5, .slice a6 a0.room.length a7, .slice a8 b1.length a9] 26 (0, 0)) :: (i1 ++ F))) (PC _ PM) ?_
 have u7 : playFrom a0 a2 = (x9, 0) := u1
 have t7 := play_valid k1 u7
 refine sp 1 [(5, .slice f1 a2.length f2)] ?_
 refine sn ?_
 refine sd (dnb 20 1 0 d9 [.slice a4 a0.cars.length a5, .slice a6 a0.room.length a7, .slice a8 b1.length a9]) ?_
 refine sp 1 [(21, .slice f1 a2.length f2)] ?_
 refine sfz (A := ((u6, Obj.cells #[.int .u64 (d7)] 95 (0, 0)) :: (d9, Obj.cells #[.slice a4 a0.cars.length a5, .slice a6 a0.room.length a7, .slice a8 b1.length a9] 26 (0, 0)) :: F)) noShift k5 ((PC _ (PM.symm)).trans (PM.symm)) (fun x5 d4 c9 => ?_)
 replace hG := hG.mono d4
 replace a1 := a1.mono d4
 replace a3 := a3.mono d4
 replace b0 := b0.mono d4
 obtain ⟨r8, s0, r9, s3, h0, s1, s2, s4⟩ := id c9
 cases h0
 have i7 := Play_ct x5 _ (a0) _ _ (mkYard a1 a3 b0) c9 (by first | exact hG | exact hG.mono hI)
 refine sS (sc (some 22) (i7 :) (.refl _) (fun z5 x6 z0 d0 t4 => ?_))
 obtain ⟨z8, j8, j2, t8⟩ := t4
 rw [j8, j2]; clear j8 j2
 replace hG := hG.mono d0
 replace a1 := a1.mono d0
 replace a3 := a3.mono d0
 replace b0 := b0.mono d0
 replace c9 := c9.mono d0
 have h6 := t8
 obtain ⟨v1, v2, v3, h5, b4, b7, c0⟩ := id h6
 subst h5
 obtain ⟨b2, b3, l4, l7, f3, l5, l6, l8⟩ := id b4
 subst f3
 obtain ⟨b5, b6, l9, m2, f4, m0, m1, m3⟩ := id b7
 subst f4
 obtain ⟨b8, b9, m4, m7, k7, f5, m5, m6, m8, m9⟩ := id c0
 subst f5
 refine nm ?_
 refine sp 3 [(24, .int .i64 (((play a0 a2).2))), (23, .agg #[.slice b2 (((play a0 a2).1).cars).length b3, .slice b5 (((play a0 a2).1).room).length b6, .slice b8 (((play a0 a2).1).tracks).length b9])] ?_
 refine sS (sal 6 26 #[.slice none 0 0, .slice none 0 0, .slice none 0 0] (fun l0 => ?_))
 refine sS (ss 0 0 l0 [.slice b2 (((play a0 a2).1).cars).length b3, .slice b5 (((play a0 a2).1).room).length b6, .slice b8 (((play a0 a2).1).tracks).length b9] [.slice b2 (((play a0 a2).1).cars).length b3, .slice b5 (((play a0 a2).1).room).length b6, .slice b8 (((play a0 a2).1).tracks).length b9] (_ :: _ :: _ :: _) (cs := [_, _, _]) rfl rfl ?_)
 refine sp 1 [(7, .int .i64 (((play a0 a2).2)))] ?_
 refine sn ?_
 refine sd (dnb 26 2 0 d9 [.slice a4 a0.cars.length a5, .slice a6 a0.room.length a7, .slice a8 b1.length a9]) ?_
 refine sp 1 [(27, .slice f1 a2.length f2)] ?_
 have i8 := Back_ct x6 _ (a0) _ _ (mkYard a1 a3 b0) c9 (by first | exact hG | exact hG.mono hI) (by omega)
 refine sS (sc (some 28) (i8 :) (.refl _) (fun z6 A7 z1 c1 t5 => ?_))
 obtain ⟨z9, i0, j9, j3, k6⟩ := t5
 rw [j9, j3]; clear j9 j3
 replace hG := hG.mono c1
 replace a1 := a1.mono c1
 replace a3 := a3.mono c1
 replace b0 := b0.mono c1
 replace b4 := b4.mono c1
 replace b7 := b7.mono c1
 replace c0 := c0.mono c1
 obtain ⟨e9, f0, h7, u2⟩ := k6.shape
 subst h7
 refine pm (M' := ((l0, Obj.cells #[.slice b2 (((play a0 a2).1).cars).length b3, .slice b5 (((play a0 a2).1).room).length b6, .slice b8 (((play a0 a2).1).tracks).length b9] 26 (0, 0)) :: (u6, Obj.cells #[.int .u64 (d7)] 95 (0, 0)) :: (d9, Obj.cells #[.slice a4 a0.cars.length a5, .slice a6 a0.room.length a7, .slice a8 b1.length a9] 26 (0, 0)) :: (i0 ++ F))) (List.perm_middle.trans (PC _ (List.perm_middle.trans (PC _ PM)))) ?_
 refine sp 5 [(9, .int .i64 (((backE a0 a2).2))), (8, .slice e9 ((backE a0 a2).1).length f0)] ?_
 refine se (rq ?_)
 obtain ⟨l2, u3⟩ := back_law k1 u7
 have y0 : (play a0 a2).2 = 0 := by rw [t7.1]
 have y1 : (backE a0 a2).2 = 0 := by rw [l2]
 have y2 : (play (play a0 a2).1 (backE a0 a2).1).2 = 0 := by simp only [t7.1, l2, u3]
 have y3 : (backE a0 a2).1.length = a2.length := by simp only [l2, List.length_reverse, List.length_map]
 have y4 : a0 = (play (play a0 a2).1 (backE a0 a2).1).1 := by simp only [t7.1, l2, u3]
 refine rr ?_
 refine sd (dnb 32 0 0 l0 [.slice b2 (((play a0 a2).1).cars).length b3, .slice b5 (((play a0 a2).1).room).length b6, .slice b8 (((play a0 a2).1).tracks).length b9]) ?_
 refine sp 1 [(33, .slice e9 ((backE a0 a2).1).length f0)] ?_
 refine sfz (A := ((l0, Obj.cells #[.slice b2 (((play a0 a2).1).cars).length b3, .slice b5 (((play a0 a2).1).room).length b6, .slice b8 (((play a0 a2).1).tracks).length b9] 26 (0, 0)) :: (u6, Obj.cells #[.int .u64 (d7)] 95 (0, 0)) :: (d9, Obj.cells #[.slice a4 a0.cars.length a5, .slice a6 a0.room.length a7, .slice a8 b1.length a9] 26 (0, 0)) :: F)) noShift k6 ((PC _ ((PC _ (PM.symm)).trans (PM.symm))).trans (PM.symm)) (fun x7 c2 e6 => ?_)
 replace hG := hG.mono c2
 replace a1 := a1.mono c2
 replace a3 := a3.mono c2
 replace b0 := b0.mono c2
 replace b4 := b4.mono c2
 replace b7 := b7.mono c2
 replace c0 := c0.mono c2
 obtain ⟨s5, s7, s6, t0, h1, s8, s9, t1⟩ := id e6
 cases h1
 have h2 := Play_ct x7 _ ((play a0 a2).1) _ _ (mkYard b4 b7 c0) e6 (by first | exact hG | exact hG.mono hI)
 refine sS (sc (some 34) (h2 :) (.refl _) (fun z7 x8 z2 d5 t6 => ?_))
 obtain ⟨A0, k0, j4, t9⟩ := t6
 rw [k0, j4]; clear k0 j4
 replace hG := hG.mono d5
 replace a1 := a1.mono d5
 replace a3 := a3.mono d5
 replace b0 := b0.mono d5
 have h9 := t9
 obtain ⟨v4, v5, v6, h8, e1, e2, e3⟩ := id h9
 subst h8
 obtain ⟨c3, c4, n0, n3, f6, n1, n2, n4⟩ := id e1
 subst f6
 obtain ⟨c5, c6, n5, n8, f7, n6, n7, n9⟩ := id e2
 subst f7
 obtain ⟨c7, c8, o0, o3, k8, f8, o1, o2, o4, o5⟩ := id e3
 subst f8
 refine nm ?_
 refine sp 3 [(36, .int .i64 (((play ((play a0 a2).1) ((backE a0 a2).1)).2))), (35, .agg #[.slice c3 (((play ((play a0 a2).1) ((backE a0 a2).1)).1).cars).length c4, .slice c5 (((play ((play a0 a2).1) ((backE a0 a2).1)).1).room).length c6, .slice c7 (((play ((play a0 a2).1) ((backE a0 a2).1)).1).tracks).length c8])] ?_
 refine sS (sal 10 26 #[.slice none 0 0, .slice none 0 0, .slice none 0 0] (fun i2 => ?_))
 refine sS (ss 0 0 i2 [.slice c3 (((play ((play a0 a2).1) ((backE a0 a2).1)).1).cars).length c4, .slice c5 (((play ((play a0 a2).1) ((backE a0 a2).1)).1).room).length c6, .slice c7 (((play ((play a0 a2).1) ((backE a0 a2).1)).1).tracks).length c8] [.slice c3 (((play ((play a0 a2).1) ((backE a0 a2).1)).1).cars).length c4, .slice c5 (((play ((play a0 a2).1) ((backE a0 a2).1)).1).room).length c6, .slice c7 (((play ((play a0 a2).1) ((backE a0 a2).1)).1).tracks).length c8] (_ :: _ :: _ :: _ :: _) (cs := [_, _, _]) rfl rfl ?_)
 refine sp 1 [(11, .int .i64 (((play ((play a0 a2).1) ((backE a0 a2).1)).2)))] ?_
 refine sn ?_
 refine sp 1 [(37, .int .i64 (((play a0 a2).2)))] ?_
 refine sd (dcm 38 .eql (((play a0 a2).2)) (0) true (by rw [y0]; rfl)) ?_
 refine sp 2 [(40, .int .i64 (((backE a0 a2).2))), (39, .bool (true))] ?_
 refine sd (dcm 41 .eql (((backE a0 a2).2)) (0) true (by rw [y1]; rfl)) ?_
 refine sp 3 [(44, .int .i64 (((play ((play a0 a2).1) ((backE a0 a2).1)).2))), (43, .bool (true))] ?_
 refine sd (dcm 45 .eql (((play ((play a0 a2).1) ((backE a0 a2).1)).2)) (0) true (by rw [y2]; rfl)) ?_
 refine sp 6 [(51, .int .i64 (↑(a2.length))), (49, .int .i64 (↑(((backE a0 a2).1).length))), (47, .bool (true))] ?_
 refine sd (dcm 52 .eql (↑(((backE a0 a2).1).length)) (↑(a2.length)) true (by rw [y3]; simp [cmp])) ?_
 refine sp 2 [(54, .bool (true))] ?_
 refine sd (dnb 55 3 0 d9 [.slice a4 a0.cars.length a5, .slice a6 a0.room.length a7, .slice a8 b1.length a9]) ?_
 refine sd (dnb 56 0 0 i2 [.slice c3 (((play ((play a0 a2).1) ((backE a0 a2).1)).1).cars).length c4, .slice c5 (((play ((play a0 a2).1) ((backE a0 a2).1)).1).room).length c6, .slice c7 (((play ((play a0 a2).1) ((backE a0 a2).1)).1).tracks).length c8]) ?_
 refine sd (dc 57 (fun I' hI => (EqualYards_ct I' _ (a0) _ ((play ((play a0 a2).1) ((backE a0 a2).1)).1) ((mkYard a1 a3 b0).mono hI) ((mkYard e1 e2 e3).mono hI) :))) ?_
 refine seq_re 57 rfl (show (.bool (decide (a0 = ((play ((play a0 a2).1) ((backE a0 a2).1)).1))) : Value) = .bool (true) from congrArg Value.bool (decide_eq_true (y4))) ?_
 refine sp 2 [(59, .bool (true))] ?_
 have h3 := shunting_ct x8 (by first | exact hG | exact hG.mono hI)
 refine sS (sc (some 60) (h3 :) (.refl _) (fun v0 x3 u9 h4 j5 => ?_))
 obtain ⟨g4, g3⟩ := j5
 rw [g4, g3]; clear g4 g3
 refine nm ?_
 refine sp 2 [(2, .bool (true))] ?_
 refine se (rret ?_)
 refine pst_ret1 (t := 2) [] (by kernel_rfl) rfl (TC _ (TC _ (TC _ (TC _ (TR _))))) (Imm.le.trans (Imm.le.trans (Imm.le.trans (Imm.le.trans (Imm.le.trans (Imm.le.trans (Imm.le.trans (Imm.le.trans (Imm.le.trans (Imm.le.trans (Imm.le.trans i9 g2) e7) e0) d2) d3) d4) d0) c1) c2) d5) h4) ?_
 exact ⟨rfl, rfl⟩

end Go.Proofs.YtcaocbhbofejnaaGreatDoor
namespace Go.Proofs.YtcaocbhbofejnaaGreatDoor
open Go Go.ChangeShapes Go.WideShapes Go.RowKit Go.Sl
set_option maxRecDepth 100000

theorem law_lifted (os : Os) (started : os.Started) (H : Type) (enc : TypeId × Value → H) :
    ReturnsInHanded {} Tryz.checked os 11 .any (fun w args => (Rows.shuntBackSpec.pre enc Tryz.prog Tryz.f11 [] false w args ∧ laidMetH Tryz.prog [("errors.errorType", Rows.laid_errors_errorType)] w) ∧ sizedMet enc Tryz.prog Tryz.f11 (OpenSpec.ofChange Rows.shuntBackSpec) false w args)
      (Rows.shuntBackSpec.post enc Tryz.prog Tryz.f11 false true false false) := by
  refine returnsInHanded_of_change_and (C := Tryz.checked) (X := fun w _ => laidMetH Tryz.prog [("errors.errorType", Rows.laid_errors_errorType)] w) (fun _ _ _ hh h => h.of_heap hh) Row.own started (by kernel_rfl) Tryz.func11
    (ChangeSpec.witness_at (enc := enc) (C := Tryz.checked) (os := os) (X := fun w _ => laidMetH Tryz.prog [("errors.errorType", Rows.laid_errors_errorType)] w) false (laidWorld os) #[.slice none 0 0] 8 rfl (by kernel_rfl) (by kernel_rfl) (by kernel_rfl) (by kernel_rfl) (by kernel_rfl) (laidWorld_met os _)) ?_
  intro W base args ds gs before hval0 hW _ hsz0 hL _
  have hsz : (DataW.weightsEach Tryz.prog (Tryz.f11.params.toList ++ Rows.shuntBackSpec.plain.varTypes Tryz.prog) (ds ++ gs)).all (· ≤ reachBytes) = true := hsz0
  have hval : ∀ (j : Nat) t v, Tryz.f11.params[j]? = some t → args[j]? = some v → Value.okWide Tryz.prog W .any base t v := hval0
  clear hsz0 hval0
  have hW' := hW
  obtain ⟨p, q, hA0, hV, rfl, hfz, hnd⟩ := hW
  have hA : DataW.TrodAll enc Tryz.prog W 0 (fun _ => true) true Tryz.f11.params.toList args.toList ds p := hA0
  rw [Tryz.params11] at hA hval
  obtain ⟨v0, d0, rfl, rfl, h0⟩ := trodAll_one hA
  obtain ⟨a0, len, cap, rfl⟩ := okWide_slice Tryz.underlying23 (hval 0 23 v0 rfl rfl)
  obtain ⟨rfl, rfl⟩ := trodVars_none hV
  have hg := handle_of_laid hL
  have h0k := h0
  obtain ⟨fu0, hf0⟩ := h0
  have hlt : ∀ x ∈ p, x.block < W.heap.size := fun x hx => by simpa using hW'.lt x (List.mem_append_left _ hx)
  obtain ⟨nums, hin⟩ : ∃ nums : List Int, IsInts (immOf W) (.slice a0 len cap) nums := by
    rcases open_ints Tryz.underlying23 Tryz.underlying3 Row.cells hf0 with ⟨hcs, hx⟩ | ⟨a, len', cap', zs, hcs, _, hl, hm, hz, hx, hcell, hwz⟩
    · simp [Value.cells] at hcs
      obtain ⟨rfl, rfl, rfl⟩ := hcs
      exact ⟨[], IsSl.nil _⟩
    · simp [Value.cells] at hcs
      obtain ⟨rfl, rfl, rfl⟩ := hcs
      simp only [Prod.mk.injEq] at hx
      obtain ⟨rfl, rfl⟩ := hx
      simp only [if_true] at hz
      have hreach : len * 8 ≤ 140737488351232 := by
        have := sized_slice hsz (j := 0) (t := 23) (e := 3) rfl rfl Tryz.underlying23
        rw [Row.bytes] at this
        simp only [lits, List.length_map, List.length_take, List.length_drop, reachBytes] at this
        omega
      refine ⟨zs.take len, isInts_of hl hm (by simp; omega) (by omega) fun i hi => ?_⟩
      have hi2 : i < len := by simp at hi; omega
      rw [hcell i (by omega)]
      congr 2
      simp [List.getD, List.getElem?_take, hi2]
  refine (ShuntBack_ct (immOf W) _ nums hin hg [] W (by simpa using st_immOf W)).mono fun e W' ⟨v, I', M', he, hle, ⟨hv, hM⟩, st'⟩ => ?_
  subst he
  subst hv
  obtain ⟨hsame, hos, hout⟩ := same_of_le hle st'
  have hk : ∀ may : MemPlace → Prop, W.keptBut W' may := fun may => keptBut_same hsame hos hout
  refine ⟨_, rfl, ?_⟩
  refine ⟨_, _, _, [], p, [], hW', ?_, ?_, ?_, hk _, fun h => by cases h⟩
  · exact trodAll_mk1 (shut_bool Tryz.underlying4 true)
  · refine trodAll_mk1 (WideElems.Trod_stays Row.laidOut (by kernel_rfl) (of_decide_eq_true (by kernel_rfl)) h0k (fun x hx => ?_) (fun x hx => by simpa using hlt x hx))
    exact sameAt_heap (hsame _ (hlt x hx))
  · rfl


theorem Row.f2 : (Rows.shuntBackRow.inPlace == Tryz.pinned.checked.prog.inPlace 11) = true := by kernel_rfl
theorem Row.f3 : (Rows.shuntBackRow.unfollowed == Tryz.pinned.checked.prog.unfollowed 11) = true := by kernel_rfl
theorem Row.f4 : (Rows.shuntBackRow.recurses == Tryz.pinned.checked.prog.recurses 11) = true := by kernel_rfl
theorem Row.f5 : (Rows.shuntBackRow.named == Tryz.pinned.checked.prog.varsNamed 11) = true := by kernel_rfl
theorem Row.goes : false = Rows.shuntBackRow.goesBy Tryz.pinned.checked.prog := by kernel_rfl
theorem Row.joined : joinedFacts Tryz.pinned.checked.prog 11 Tryz.f11 Rows.shuntBackSpec Rows.shuntBackRow = true :=
  joined_of (by kernel_rfl) Row.laidOut Row.f2 Row.f3 Row.f4 Row.f5 (by kernel_rfl) (by kernel_rfl) Row.lifts Row.make (by kernel_rfl)

theorem f_holds : Rows.ShuntBackSaid :=
  OpenClaim.holds_of_wide 11 Tryz.f11 rfl rfl rfl rfl rfl rfl rfl ⟨rfl, rfl, rfl, rfl, rfl⟩ rfl rfl rfl rfl rfl (by kernel_rfl) Tryz.func11 Row.joined
    (of_decide_eq_true (by kernel_rfl)) (by unfold Func.isWrapper; rw [if_neg (of_decide_eq_false (by kernel_rfl))]; exact ⟨rfl, rfl⟩)
    (fun os started H enc _ => law_lifted os started H enc)

theorem card_holds : Rows.ShuntBackCardSaid :=
  Claim7.holds_tied_plain_at .later [] [.handle] true (true, "15b79f9888323760d9f05ab32c03ca1db0faea4ca720a3d6f842981fea83c54b") true
    f_holds (fun _ h => by cases h) (by kernel_rfl) (fun _ h => by cases h) shuntBack_row_tie rfl ⟨rfl, rfl⟩ (by kernel_rfl) rfl
    (fun f fn hf hfn => by
      obtain rfl : f = 11 := Option.some.inj (hf.symm.trans (by kernel_rfl))
      obtain rfl : fn = Tryz.f11 := (Option.some.inj (Tryz.func11.symm.trans hfn)).symm
      exact ⟨Row.looks, fun j t ht => by
        rw [Tryz.params11] at ht
        have h3 : t = 23 := by
          rcases j with _ | j
          · simpa using ht.symm
          · simp at ht
        subst h3
        exact (show Tryz.prog.wantsStandIn 23 = false by kernel_rfl)⟩)
    Row.goes
#print axioms card_holds
end Go.Proofs.YtcaocbhbofejnaaGreatDoor

/- A part of the proof of the laws of this seat. -/
import Derived.Test.YtcaocbhbofejnaaDoorP1
import Derived.Test.YtcaocbhbofejnaaDoorProg
import Derived.WalkKit
import Derived.LaidEql
import Derived.Stop.Asserts
import Derived.RowKitTokens
import Derived.Test.YtcaocbhbofejnaaDoorP0
set_option linter.unusedVariables false
set_option linter.unusedSimpArgs false
namespace Go.Proofs.YtcaocbhbofejnaaDoor
open Go Go.Sl Go.Sh
set_option maxRecDepth 100000
noncomputable def c_checkCoach (p : List Nat) : Code := sub (bodyOf Tryd.f64) p
theorem checkCoach_ct (I : Imm) (c : Car) : CtV Tryd.prog 64 #[.agg #[.int .i64 c.len, .int .i64 c.wt, .int .i64 c.brk, .int .i64 c.grp, .bool c.pipe, .bool c.heat]] I (.int .i64 (carErr c)) := by
 refine fn_of_run (fn := Tryd.f64) (args := [_]) (N := 27) Tryd.func64 rfl (by kernel_rfl) (Nat.le_of_ble_eq_true rfl) (fun F => ?_)
 show Run _ _ (c_checkCoach []) _ _ [(0, .agg #[.int .i64 (c.len), .int .i64 (c.wt), .int .i64 (c.brk), .int .i64 (c.grp), .bool (c.pipe), .bool (c.heat)])] _ _
 refine rnm ?_
 refine rqr ?_
 refine sS (sb 1 40 #[.int .i64 (c.len), .int .i64 (c.wt), .int .i64 (c.brk), .int .i64 (c.grp), .bool (c.pipe), .bool (c.heat)] (fun b1 => ?_))
 refine sp 1 [(2, .int .i64 (0))] ?_
 refine se ?_
 refine rq ?_
 refine rq ?_
 refine run_cut (fun a w => Slots 27 [(2, .int .i64 (0)), (26, .bool ((!(inB c.len 1 4)) || ((!(inB c.wt 1 60)) || ((!(inB c.brk 0 c.wt)) || (!(inB c.grp 0 3))))))] a ∧ a.defers = [] ∧ St I ((b1, Obj.cells #[.int .i64 (c.len), .int .i64 (c.wt), .int .i64 (c.brk), .int .i64 (c.grp), .bool (c.pipe), .bool (c.heat)] 40 (0, 0)) :: F) w) ?_ ?_
 ·
  refine rr ?_
  refine sp 1 [(3, .pointer (some ⟨b1, 0, none⟩))] ?_
  refine sd (dlb 4 0 0 b1 (.int .i64 (c.len))) ?_
  refine sd (dc 5 (fun I' hI => (in_ct I' (c.len) (1) (4) :))) ?_
  refine sp 2 [(7, .bool (!(inB c.len 1 4)))] ?_
  refine seq_split 7 rfl (fun h1 => ?_) (fun h1 => ?_)
  ·
   have h1_b := h1
   have h1_b := not_t h1_b
   have h1_b_p := inB_f h1_b
   refine sp 19 [(26, .bool (true))] ?_
   refine ee ?_
   refine pst_meet (fun a w hS hD hW => ⟨hS.sub (.cons 2 rfl (.consE 26 rfl (congrArg Value.bool (by simp only [h1, Bool.true_and, Bool.false_and, Bool.and_true, Bool.and_false, Bool.true_or, Bool.false_or, Bool.or_true, Bool.or_false, cond_true, cond_false])) (.nil _))), hD, hW⟩)
  ·
   have h1_b := h1
   have h1_b := not_f h1_b
   have h1_b_p := inB_t h1_b
   refine sp 1 [(8, .pointer (some ⟨b1, 1, none⟩))] ?_
   refine sd (dlb 9 0 1 b1 (.int .i64 (c.wt))) ?_
   refine sd (dc 10 (fun I' hI => (in_ct I' (c.wt) (1) (60) :))) ?_
   refine sp 3 [(13, .bool (!(inB c.wt 1 60)))] ?_
   refine seq_split 13 rfl (fun h2 => ?_) (fun h2 => ?_)
   ·
    have h2_b := h2
    have h2_b := not_t h2_b
    have h2_b_p := inB_f h2_b
    refine sp 13 [(26, .bool (true))] ?_
    refine ee ?_
    refine pst_meet (fun a w hS hD hW => ⟨hS.sub (.cons 2 rfl (.consE 26 rfl (congrArg Value.bool (by simp only [h1, h2, Bool.true_and, Bool.false_and, Bool.and_true, Bool.and_false, Bool.true_or, Bool.false_or, Bool.or_true, Bool.or_false, cond_true, cond_false])) (.nil _))), hD, hW⟩)
   ·
    have h2_b := h2
    have h2_b := not_f h2_b
    have h2_b_p := inB_t h2_b
    refine sp 1 [(14, .pointer (some ⟨b1, 2, none⟩))] ?_
    refine sd (dlb 15 0 2 b1 (.int .i64 (c.brk))) ?_
    refine sp 1 [(16, .pointer (some ⟨b1, 1, none⟩))] ?_
    refine sd (dlb 17 0 1 b1 (.int .i64 (c.wt))) ?_
    refine sd (dc 18 (fun I' hI => (in_ct I' (c.brk) (0) (c.wt) :))) ?_
    refine sp 3 [(21, .bool (!(inB c.brk 0 c.wt)))] ?_
    refine seq_split 21 rfl (fun h3 => ?_) (fun h3 => ?_)
    ·
     have h3_b := h3
     have h3_b := not_t h3_b
     have h3_b_p := inB_f h3_b
     refine sp 5 [(26, .bool (true))] ?_
     refine ee ?_
     refine pst_meet (fun a w hS hD hW => ⟨hS.sub (.cons 2 rfl (.consE 26 rfl (congrArg Value.bool (by simp only [h1, h2, h3, Bool.true_and, Bool.false_and, Bool.and_true, Bool.and_false, Bool.true_or, Bool.false_or, Bool.or_true, Bool.or_false, cond_true, cond_false])) (.nil _))), hD, hW⟩)
    ·
     have h3_b := h3
     have h3_b := not_f h3_b
     have h3_b_p := inB_t h3_b
     refine sp 1 [(22, .pointer (some ⟨b1, 3, none⟩))] ?_
     refine sd (dlb 23 0 3 b1 (.int .i64 (c.grp))) ?_
     refine sd (dc 24 (fun I' hI => (in_ct I' (c.grp) (0) (3) :))) ?_
     refine sp 2 [(26, .bool (!(inB c.grp 0 3)))] ?_
     refine ee ?_
     refine pst_meet (fun a w hS hD hW => ⟨hS.sub (.cons 2 rfl (.consE 26 rfl (congrArg Value.bool (by simp only [h1, h2, h3, Bool.true_and, Bool.false_and, Bool.and_true, Bool.and_false, Bool.true_or, Bool.false_or, Bool.or_true, Bool.or_false, cond_true, cond_false])) (.nil _))), hD, hW⟩)
 ·rintro a w ⟨hS, hD, hW⟩
  refine run_at hS hD hW ?_
  clear hS hD hW a w
  refine rc 26 rfl (fun h4 => ?_) (fun h4 => ?_)
  ·
   have h4_r := h4
   refine rqr ?_
   refine sp 1 [(2, .int .i64 (1))] ?_
   refine se ?_
   refine rret ?_
   refine (pst_ret_pass ?_)
   refine pst_ret1 (t := 2) [] (by kernel_rfl) rfl (List.Sublist.cons _ (List.Sublist.refl _)) (Imm.le.refl _) ?_
   exact ⟨by rw [carErr, nand4, h4]; rfl, rfl⟩
  ·
   have h4_r := h4
   obtain ⟨h4_1, h4_2⟩ := or_f h4
   have h4_1 := not_f h4_1
   have h4_1_p := inB_t h4_1
   obtain ⟨h4_2_1, h4_2_2⟩ := or_f h4_2
   have h4_2_1 := not_f h4_2_1
   have h4_2_1_p := inB_t h4_2_1
   obtain ⟨h4_2_2_1, h4_2_2_2⟩ := or_f h4_2_2
   have h4_2_2_1 := not_f h4_2_2_1
   have h4_2_2_1_p := inB_t h4_2_2_1
   have h4_2_2_2 := not_f h4_2_2_2
   have h4_2_2_2_p := inB_t h4_2_2_2
   refine rskip ?_
   refine pst_next ?_
   refine rqr ?_
   refine sp 1 [(2, .int .i64 (0))] ?_
   refine se ?_
   refine rret ?_
   refine pst_ret1 (t := 2) [] (by kernel_rfl) rfl (List.Sublist.cons _ (List.Sublist.refl _)) (Imm.le.refl _) ?_
   exact ⟨by rw [carErr, nand4, h4]; rfl, rfl⟩

noncomputable def c_long (p : List Nat) : Code := sub (bodyOf Tryd.f79) p
theorem long_ct (I : Imm) (a : Value) (t : List Int) (b : Value) (cs : List Car) (a_f : IsInts I a t) (b_f : IsCars I b cs) (ho : Ok cs t) (hs : Small cs) : CtV Tryd.prog 79 #[a, b] I (.int .i64 (lenOf cs t)) := by
 obtain ⟨a_a, a_c, a_b, a_o, a_e, a_l, a_m, a_r⟩ := id a_f
 subst a_e
 obtain ⟨b_a, b_c, b_b, b_o, b_e, b_l, b_m, b_r⟩ := id b_f
 subst b_e
 refine fn_of_run (fn := Tryd.f79) (args := [_, _]) (N := 23) Tryd.func79 rfl (by kernel_rfl) (Nat.le_of_ble_eq_true rfl) (fun F => ?_)
 show Run _ _ (c_long []) _ _ [(0, .slice a_a t.length a_c), (1, .slice b_a cs.length b_c)] _ _
 refine rnm ?_
 refine rqr ?_
 refine sp 1 [(4, .int .i64 (0))] ?_
 refine sn ?_
 refine sp 1 [(5, .int .i64 (0))] ?_
 refine se ?_
 refine rq ?_
 refine rqr ?_
 refine sp 3 [(10, .int .i64 (0)), (9, .int .i64 (↑(t.length))), (8, .slice a_a t.length a_c)] ?_
 refine se ?_
 refine rb 0 ?_
 refine rl (fun mz a w => ∃ k : Nat, (k ≤ t.length) ∧ Slots 23 [(5, .int .i64 (lenOf cs (t.take k))), (10, .int .i64 ↑k), (1, .slice b_a cs.length b_c), (4, .int .i64 (0)), (8, .slice a_a t.length a_c), (9, .int .i64 (↑(t.length)))] a ∧ a.defers = [] ∧ St I (F) w ∧ mz = t.length - k) ?_ ?_
 ·intro a w hS hD hW
  exact ⟨_, 0, Nat.zero_le _, hS.sub (.cons 5 rfl (.cons 10 rfl (.cons 1 rfl (.cons 4 rfl (.cons 8 rfl (.cons 9 rfl (.nil _))))))), hD, hW, rfl⟩
 ·rintro mz a w ⟨k, hk, hS, hD, hW, rfl⟩
  refine run_at hS hD hW ?_
  clear hS hD hW a w
  refine rqr ?_
  refine sp 1 [(11, .bool (cmp .lss (↑k) (↑(t.length))))] ?_
  refine se ?_
  refine rq ?_
  refine rc 11 rfl (fun h1 => ?_) (fun h1 => ?_)
  ·
   have h1_r := h1
   have h1 := lss_t h1
   refine rskip ?_
   refine pst_next ?_
   refine rq ?_
   refine rb 1 ?_
   refine rqr ?_
   refine sd (di 12 1 (k) a_r.addr) ?_
   refine sd (dl 13 (ints_get a_r (k) (by omega))) ?_
   refine sp 1 [(7, .int .i64 (t.getD (k) 0))] ?_
   refine se ?_
   refine rr ?_
   refine sp 3 [(16, .int .i64 (t.getD (k) 0)), (15, .slice b_a cs.length b_c), (14, .int .i64 (lenOf cs (t.take k)))] ?_
   have hc := ho.at k (by omega)
   refine sd (diI 17 6 (t.getD (k) 0) b_r.addr) ?_
   refine sp 1 [(18, .pointer (some ⟨b_b, b_o + ((t.getD (k) 0 : Int).toNat) * 6, none⟩))] ?_
   refine sd (dl 19 (cars_get b_r ((t.getD (k) 0 : Int).toNat) (by omega) 0 (by decide) (v := .int .i64 ((cs.getD ((t.getD (k) 0 : Int).toNat) noCar).len)) rfl)) ?_
   refine sd (da 20 (lenOf cs (t.take k)) ((cs.getD ((t.getD (k) 0 : Int).toNat) noCar).len) (hr := by have h1 := lenOf_bound hs (t.take k); have h2 := hs.at (t.getD k 0); simp only [carAt, List.length_take] at h1 h2; omega)) ?_
   refine sp 1 [(5, .int .i64 ((lenOf cs (t.take k)) + ((cs.getD ((t.getD (k) 0 : Int).toNat) noCar).len)))] ?_
   refine ee ?_
   refine pst_normal_block ?_
   refine pst_next ?_
   refine rr ?_
   refine sd (da 21 (↑k) (1)) ?_
   refine sp 1 [(10, .int .i64 (↑k + 1))] ?_
   refine ee ?_
   refine pst_back (t.length - (k+1)) (by omega) ?_
   intro a w hS hD hW
   exact ⟨k+1, by omega, hS.sub (.consE 5 rfl (congrArg (Value.int .i64) (lenOf_succ (by omega)).symm) (.consE 10 rfl rfl (.cons 1 rfl (.cons 4 rfl (.cons 8 rfl (.cons 9 rfl (.nil _))))))), hD, hW, rfl⟩
  ·
   have h1_r := h1
   have h1 := lss_f h1
   refine rexit 0 ?_
   refine (pst_exit_pass (pst_exit_pass (pst_exit_block ?_)))
   refine pst_next ?_
   refine rqr ?_
   refine sp 2 [(4, .int .i64 (lenOf cs (t.take k)))] ?_
   refine se ?_
   refine rret ?_
   refine pst_ret1 (t := 4) [] (by kernel_rfl) rfl (List.Sublist.refl _) (Imm.le.refl _) ?_
   exact ⟨by rw [take_done (by omega)], rfl⟩

noncomputable def c_coupled (p : List Nat) : Code := sub (bodyOf Tryd.f34) p
theorem coupled_ct (I : Imm) (a : Value) (t : List Int) (b : Value) (cs : List Car) (j : Int) (a_f : IsInts I a t) (b_f : IsCars I b cs) (ho : Ok cs t) : CtV Tryd.prog 34 #[a, b, .int .i64 j] I (.bool (coupled cs t j)) := by
 obtain ⟨a_a, a_c, a_b, a_o, a_e, a_l, a_m, a_r⟩ := id a_f
 subst a_e
 obtain ⟨b_a, b_c, b_b, b_o, b_e, b_l, b_m, b_r⟩ := id b_f
 subst b_e
 refine fn_of_run (fn := Tryd.f34) (args := [_, _, _]) (N := 43) Tryd.func34 rfl (by kernel_rfl) (Nat.le_of_ble_eq_true rfl) (fun F => ?_)
 show Run _ _ (c_coupled []) _ _ [(0, .slice a_a t.length a_c), (1, .slice b_a cs.length b_c), (2, .int .i64 (j))] _ _
 refine rnm ?_
 refine rqr ?_
 refine sp 1 [(6, .bool (false))] ?_
 refine se ?_
 refine rq ?_
 refine run_cut (fun a w => Slots 43 [(6, .bool ((inB j 1 ((↑(t.length)) - 1)) && ((cmp .gtr ((cs.getD ((t.getD ((j : Int).toNat) 0 : Int).toNat) noCar).grp) (0)) && (cmp .eql ((cs.getD ((t.getD ((j : Int).toNat) 0 : Int).toNat) noCar).grp) ((cs.getD ((t.getD ((j - 1 : Int).toNat) 0 : Int).toNat) noCar).grp)))))] a ∧ a.defers = [] ∧ St I (F) w) ?_ ?_
 ·
  refine rd0 34 ?_
  refine ox 3 [(9, .int .i64 (↑(t.length))), (7, .int .i64 (j))] ?_
  refine ofp_det (dsb 10 (↑(t.length)) (1)) ?_
  refine ofp_det (dc 11 (fun I' hI => (in_ct I' (j) (1) ((↑(t.length)) - 1) :))) ?_
  refine ox 1 [(12, .bool (inB j 1 ((↑(t.length)) - 1)))] ?_
  refine ofp_split 12 (fun h1 => ?_) (fun h1 => ?_)
  ·
   have h1_b := h1
   have h1_b_p := inB_t h1_b
   refine ox 3 [(15, .int .i64 (j)), (14, .slice a_a t.length a_c), (13, .slice b_a cs.length b_c)] ?_
   refine ofp_det (diI 16 1 (j) a_r.addr) ?_
   refine ofp_det (dl 17 (ints_get a_r ((j : Int).toNat) (by omega))) ?_
   have hc := ho.at j.toNat (by omega)
   refine ofp_det (diI 18 6 (t.getD ((j : Int).toNat) 0) b_r.addr) ?_
   refine ox 1 [(19, .pointer (some ⟨b_b, b_o + ((t.getD ((j : Int).toNat) 0 : Int).toNat) * 6 + 3, none⟩))] ?_
   refine ofp_det (dl 20 (cars_get b_r ((t.getD ((j : Int).toNat) 0 : Int).toNat) (by omega) 3 (by decide) (v := .int .i64 ((cs.getD ((t.getD ((j : Int).toNat) 0 : Int).toNat) noCar).grp)) rfl)) ?_
   refine ox 3 [(23, .bool (cmp .gtr ((cs.getD ((t.getD ((j : Int).toNat) 0 : Int).toNat) noCar).grp) (0)))] ?_
   refine ofp_split 23 (fun h2 => ?_) (fun h2 => ?_)
   ·
    have h2_b := h2
    have h2_b := gtr_t h2_b
    refine ox 3 [(26, .int .i64 (j)), (25, .slice a_a t.length a_c), (24, .slice b_a cs.length b_c)] ?_
    refine ofp_det (diI 27 1 (j) a_r.addr) ?_
    refine ofp_det (dl 28 (ints_get a_r ((j : Int).toNat) (by omega))) ?_
    have hc := ho.at j.toNat (by omega)
    refine ofp_det (diI 29 6 (t.getD ((j : Int).toNat) 0) b_r.addr) ?_
    refine ox 1 [(30, .pointer (some ⟨b_b, b_o + ((t.getD ((j : Int).toNat) 0 : Int).toNat) * 6 + 3, none⟩))] ?_
    refine ofp_det (dl 31 (cars_get b_r ((t.getD ((j : Int).toNat) 0 : Int).toNat) (by omega) 3 (by decide) (v := .int .i64 ((cs.getD ((t.getD ((j : Int).toNat) 0 : Int).toNat) noCar).grp)) rfl)) ?_
    refine ox 3 [(34, .int .i64 (j)), (33, .slice a_a t.length a_c), (32, .slice b_a cs.length b_c)] ?_
    refine ofp_det (dsb 35 (j) (1)) ?_
    refine ofp_det (diI 36 1 (j - 1) a_r.addr) ?_
    refine ofp_det (dl 37 (ints_get a_r ((j - 1 : Int).toNat) (by omega))) ?_
    have hc2 := ho.at (j - 1).toNat (by omega)
    refine ofp_det (diI 38 6 (t.getD ((j - 1 : Int).toNat) 0) b_r.addr) ?_
    refine ox 1 [(39, .pointer (some ⟨b_b, b_o + ((t.getD ((j - 1 : Int).toNat) 0 : Int).toNat) * 6 + 3, none⟩))] ?_
    refine ofp_det (dl 40 (cars_get b_r ((t.getD ((j - 1 : Int).toNat) 0 : Int).toNat) (by omega) 3 (by decide) (v := .int .i64 ((cs.getD ((t.getD ((j - 1 : Int).toNat) 0 : Int).toNat) noCar).grp)) rfl)) ?_
    refine ofp_end0 ?_
    refine sp 3 [(6, .bool (cmp .eql ((cs.getD ((t.getD ((j : Int).toNat) 0 : Int).toNat) noCar).grp) ((cs.getD ((t.getD ((j - 1 : Int).toNat) 0 : Int).toNat) noCar).grp)))] ?_
    refine ee ?_
    refine pst_meet (fun a w hS hD hW => ⟨hS.sub (.consE 6 rfl (congrArg Value.bool (by simp only [h1, h2, Bool.true_and, Bool.false_and, Bool.and_true, Bool.and_false, Bool.true_or, Bool.false_or, Bool.or_true, Bool.or_false, cond_true, cond_false])) (.nil _)), hD, hW⟩)
   ·
    have h2_b := h2
    have h2_b := gtr_f h2_b
    refine ox 17 [(40, undef), (31, undef)] ?_
    refine ofp_end0 ?_
    refine sp 3 [(6, .bool (false))] ?_
    refine ee ?_
    refine pst_meet (fun a w hS hD hW => ⟨hS.sub (.consE 6 rfl (congrArg Value.bool (by simp only [h1, h2, Bool.true_and, Bool.false_and, Bool.and_true, Bool.and_false, Bool.true_or, Bool.false_or, Bool.or_true, Bool.or_false, cond_true, cond_false])) (.nil _)), hD, hW⟩)
  ·
   have h1_b := h1
   have h1_b_p := inB_f h1_b
   refine ox 28 [(40, undef), (31, undef), (23, .bool (false))] ?_
   refine ofp_end0 ?_
   refine sp 3 [(6, .bool (false))] ?_
   refine ee ?_
   refine pst_meet (fun a w hS hD hW => ⟨hS.sub (.consE 6 rfl (congrArg Value.bool (by simp only [h1, Bool.true_and, Bool.false_and, Bool.and_true, Bool.and_false, Bool.true_or, Bool.false_or, Bool.or_true, Bool.or_false, cond_true, cond_false])) (.nil _)), hD, hW⟩)
 ·rintro a w ⟨hS, hD, hW⟩
  refine run_at hS hD hW ?_
  clear hS hD hW a w
  refine rret ?_
  refine pst_ret1 (t := 6) [] (by kernel_rfl) rfl (List.Sublist.refl _) (Imm.le.refl _) ?_
  exact ⟨by simp only [coupled, carAt, cmp_gtr, cmp_eql, Bool.and_assoc]; rfl, rfl⟩

noncomputable def c_checkGroups (p : List Nat) : Code := sub (bodyOf Tryd.f80) p
theorem checkGroups_ct (I : Imm) (y : Value) (Y : Yard) (y_f : IsYard I y Y) (ho : OkAll Y.cars Y.tracks) : CtV Tryd.prog 80 #[y] I (.int .i64 (groupsErr Y)) := by
 obtain ⟨y1, y2, y3, y_e, y1_f, y2_f, y3_f⟩ := id y_f
 subst y_e
 obtain ⟨y1_a, y1_c, y1_b, y1_o, y1_e, y1_l, y1_m, y1_r⟩ := id y1_f
 subst y1_e
 obtain ⟨y2_a, y2_c, y2_b, y2_o, y2_e, y2_l, y2_m, y2_r⟩ := id y2_f
 subst y2_e
 obtain ⟨y3_a, y3_c, y3_b, y3_o, y3_vs, y3_e, y3_l, y3_m, y3_r, y3_w⟩ := id y3_f
 subst y3_e
 refine fn_of_run (fn := Tryd.f80) (args := [_]) (N := 49) Tryd.func80 rfl (by kernel_rfl) (Nat.le_of_ble_eq_true rfl) (fun F => ?_)
 show Run _ _ (c_checkGroups []) _ _ [(0, .agg #[.slice y1_a Y.cars.length y1_c, .slice y2_a Y.room.length y2_c, .slice y3_a Y.tracks.length y3_c])] _ _
 refine rnm ?_
 refine rqr ?_
 refine sS (sb 1 26 #[.slice y1_a Y.cars.length y1_c, .slice y2_a Y.room.length y2_c, .slice y3_a Y.tracks.length y3_c] (fun b1 => ?_))
 refine sp 1 [(2, .int .i64 (0))] ?_
 refine sn ?_
 refine sS (stp_makeMap (d := 9) (T := 71) (ty := 71) (gd := none) (by kernel_rfl) rfl (fun b3 => ?_))
 refine sp 1 [(3, .map (some b3))] ?_
 refine se ?_
 refine rq ?_
 refine rqr ?_
 refine sp 1 [(10, .pointer (some ⟨b1, 2, none⟩))] ?_
 refine sd (dlb 11 1 2 b1 (.slice y3_a Y.tracks.length y3_c)) ?_
 refine sp 2 [(13, .int .i64 (0)), (12, .int .i64 (↑(Y.tracks.length)))] ?_
 refine se ?_
 refine rb 0 ?_
 refine rl (fun mz a w => ∃ k : Nat, ∃ met : List Int, ∃ es0_3 : Array MapEntry, ∃ cl0_3 : Nat, (k ≤ Y.tracks.length) ∧ (groupsErr Y = goGs Y.cars (Y.tracks.drop k) met) ∧ (MapIs encI es0_3 (trues (met))) ∧ Slots 49 [(13, .int .i64 ↑k), (1, .pointer (some ⟨b1, 0, none⟩)), (3, .map (some b3)), (11, .slice y3_a Y.tracks.length y3_c), (12, .int .i64 (↑(Y.tracks.length)))] a ∧ a.defers = [] ∧ St I ((b3, Obj.map es0_3 cl0_3) :: (b1, Obj.cells #[.slice y1_a Y.cars.length y1_c, .slice y2_a Y.room.length y2_c, .slice y3_a Y.tracks.length y3_c] 26 (0, 0)) :: F) w ∧ mz = Y.tracks.length - k) ?_ ?_
 ·intro a w hS hD hW
  exact ⟨_, 0, [], #[], 0, Nat.zero_le _, rfl, (MapIs.nil _), hS.sub (.cons 13 rfl (.cons 1 rfl (.cons 3 rfl (.cons 11 rfl (.cons 12 rfl (.nil _)))))), hD, hW, rfl⟩
 ·rintro mz a w ⟨k, met, es0_3, cl0_3, hk, hr, his0_3, hS, hD, hW, rfl⟩
  refine run_at hS hD hW ?_
  clear hS hD hW a w
  refine rqr ?_
  refine sp 1 [(14, .bool (cmp .lss (↑k) (↑(Y.tracks.length))))] ?_
  refine se ?_
  refine rq ?_
  refine rc 14 rfl (fun h1 => ?_) (fun h1 => ?_)
  ·
   have h1_r := h1
   have h1 := lss_t h1
   refine rskip ?_
   refine pst_next ?_
   refine rq ?_
   refine rb 1 ?_
   refine rqr ?_
   refine sd (di 15 1 (k) y3_r.addr) ?_
   have r5_f := y3_w (k) (by omega)
   obtain ⟨r5_a, r5_c, r5_b, r5_o, r5_e, r5_l, r5_m, r5_r⟩ := id r5_f
   rw [r5_e] at r5_f
   refine sd (det_eq (dl 16 (rows_get y3_r (k) (by omega))) r5_e) ?_
   refine sp 1 [(5, .slice r5_a (Y.tracks.getD (k) []).length r5_c)] ?_
   refine sn ?_
   refine sp 3 [(19, .int .i64 (0)), (18, .int .i64 (↑((Y.tracks.getD (k) []).length))), (17, .slice r5_a (Y.tracks.getD (k) []).length r5_c)] ?_
   refine se ?_
   refine rb 2 ?_
   refine rl (fun mz a w => ∃ j : Nat, ∃ met2 : List Int, ∃ es1_3 : Array MapEntry, ∃ cl1_3 : Nat, (j ≤ (Y.tracks.getD (k) []).length) ∧ (groupsErr Y = goG Y.cars (Y.tracks.getD (k) []) (goGs Y.cars (Y.tracks.drop (k + 1))) j ((Y.tracks.getD (k) []).drop j) met2) ∧ (MapIs encI es1_3 (trues (met2))) ∧ Slots 49 [(19, .int .i64 ↑j), (1, .pointer (some ⟨b1, 0, none⟩)), (3, .map (some b3)), (5, .slice r5_a (Y.tracks.getD (k) []).length r5_c), (11, .slice y3_a Y.tracks.length y3_c), (12, .int .i64 (↑(Y.tracks.length))), (13, .int .i64 (↑k)), (17, .slice r5_a (Y.tracks.getD (k) []).length r5_c), (18, .int .i64 (↑((Y.tracks.getD (k) []).length)))] a ∧ a.defers = [] ∧ St I ((b3, Obj.map es1_3 cl1_3) :: (b1, Obj.cells #[.slice y1_a Y.cars.length y1_c, .slice y2_a Y.room.length y2_c, .slice y3_a Y.tracks.length y3_c] 26 (0, 0)) :: F) w ∧ mz = (Y.tracks.getD (k) []).length - j) ?_ ?_
   ·intro a w hS hD hW
    exact ⟨_, 0, met, es0_3, cl0_3, Nat.zero_le _, hr.trans (goGs_step (by omega)), his0_3, hS.sub (.cons 19 rfl (.cons 1 rfl (.cons 3 rfl (.cons 5 rfl (.cons 11 rfl (.cons 12 rfl (.cons 13 rfl (.cons 17 rfl (.cons 18 rfl (.nil _)))))))))), hD, hW, rfl⟩
   ·rintro mz a w ⟨j, met2, es1_3, cl1_3, hj, hr2, his1_3, hS, hD, hW, rfl⟩
    refine run_at hS hD hW ?_
    clear hS hD hW a w
    refine rqr ?_
    refine sp 1 [(20, .bool (cmp .lss (↑j) (↑((Y.tracks.getD (k) []).length))))] ?_
    refine se ?_
    refine rq ?_
    refine rc 20 rfl (fun h2 => ?_) (fun h2 => ?_)
    ·
     have h2_r := h2
     have h2 := lss_t h2
     refine rskip ?_
     refine pst_next ?_
     refine rq ?_
     refine rb 3 ?_
     refine rqr ?_
     refine sp 1 [(21, .int .i64 (↑j))] ?_
     refine sd (di 22 1 (j) r5_r.addr) ?_
     refine sd (dl 23 (ints_get r5_r (j) (by omega))) ?_
     refine sp 2 [(7, .int .i64 ((Y.tracks.getD (k) []).getD (j) 0)), (6, .int .i64 (↑j))] ?_
     refine sn ?_
     refine sp 1 [(24, .pointer (some ⟨b1, 0, none⟩))] ?_
     refine sd (dlb 25 1 0 b1 (.slice y1_a Y.cars.length y1_c)) ?_
     refine sp 1 [(26, .int .i64 ((Y.tracks.getD (k) []).getD (j) 0))] ?_
     have hc := (ho.at k (by omega)).at j (by omega)
     refine sd (diI 27 6 ((Y.tracks.getD (k) []).getD (j) 0) y1_r.addr) ?_
     refine sp 1 [(28, .pointer (some ⟨y1_b, y1_o + (((Y.tracks.getD (k) []).getD (j) 0 : Int).toNat) * 6 + 3, none⟩))] ?_
     refine sd (dl 29 (cars_get y1_r (((Y.tracks.getD (k) []).getD (j) 0 : Int).toNat) (by omega) 3 (by decide) (v := .int .i64 ((Y.cars.getD (((Y.tracks.getD (k) []).getD (j) 0 : Int).toNat) noCar).grp)) rfl)) ?_
     refine sp 1 [(8, .int .i64 ((Y.cars.getD (((Y.tracks.getD (k) []).getD (j) 0 : Int).toNat) noCar).grp))] ?_
     refine se ?_
     refine rq ?_
     refine rq ?_
     refine run_cut (fun a w => Slots 49 [(1, .pointer (some ⟨b1, 0, none⟩)), (3, .map (some b3)), (5, .slice r5_a (Y.tracks.getD (k) []).length r5_c), (8, .int .i64 ((Y.cars.getD (((Y.tracks.getD (k) []).getD (j) 0 : Int).toNat) noCar).grp)), (11, .slice y3_a Y.tracks.length y3_c), (12, .int .i64 (↑(Y.tracks.length))), (13, .int .i64 (↑k)), (17, .slice r5_a (Y.tracks.getD (k) []).length r5_c), (18, .int .i64 (↑((Y.tracks.getD (k) []).length))), (19, .int .i64 (↑j)), (44, .bool ((cmp .gtr ((Y.cars.getD (((Y.tracks.getD (k) []).getD (j) 0 : Int).toNat) noCar).grp) (0)) && ((decide (((Y.cars.getD (((Y.tracks.getD (k) []).getD (j) 0 : Int).toNat) noCar).grp : Int) ∈ met2)) && (!(coupled Y.cars (Y.tracks.getD (k) []) ↑j)))))] a ∧ a.defers = [] ∧ St I ((b3, Obj.map es1_3 cl1_3) :: (b1, Obj.cells #[.slice y1_a Y.cars.length y1_c, .slice y2_a Y.room.length y2_c, .slice y3_a Y.tracks.length y3_c] 26 (0, 0)) :: F) w) ?_ ?_
     ·
      refine rr ?_
      refine sp 3 [(32, .bool (cmp .gtr ((Y.cars.getD (((Y.tracks.getD (k) []).getD (j) 0 : Int).toNat) noCar).grp) (0)))] ?_
      refine seq_split 32 rfl (fun h3 => ?_) (fun h3 => ?_)
      ·
       have h3_b := h3
       have h3_b := gtr_t h3_b
       refine sp 2 [(34, .int .i64 ((Y.cars.getD (((Y.tracks.getD (k) []).getD (j) 0 : Int).toNat) noCar).grp)), (33, .map (some b3))] ?_
       refine sd (det_lookup (x := (.tmp 33)) (y := (.tmp 34)) (T := 71) (kt := 3) (et := 4) (k := ((Y.cars.getD (((Y.tracks.getD (k) []).getD (j) 0 : Int).toNat) noCar).grp : Int)) (kvs := trues (met2)) (z := .bool false) (d := 35) (ty := 4) (gd := (some (2, true))) (by kernel_rfl) (by kernel_rfl) (by kernel_rfl) (keyOk_int (tyI64_spec (by kernel_rfl))) rfl rfl (by kernel_rfl) (.inl (List.mem_of_getElem? (i := 0) rfl)) his1_3 (getKv_trues _ _)) ?_
       refine sp 2 [(37, .bool (decide (((Y.cars.getD (((Y.tracks.getD (k) []).getD (j) 0 : Int).toNat) noCar).grp : Int) ∈ met2)))] ?_
       refine seq_split 37 rfl (fun h4 => ?_) (fun h4 => ?_)
       ·
        have h4_b := h4
        have h4_b := dec_t h4_b
        refine sp 2 [(39, .pointer (some ⟨b1, 0, none⟩)), (38, .slice r5_a (Y.tracks.getD (k) []).length r5_c)] ?_
        refine sd (dlb 40 1 0 b1 (.slice y1_a Y.cars.length y1_c)) ?_
        refine sp 1 [(41, .int .i64 (↑j))] ?_
        refine sd (dc 42 (fun I' hI => (coupled_ct I' _ _ _ _ (↑j) (r5_f.mono hI) (y1_f.mono hI) (by exact ho.at k (by omega)) :))) ?_
        refine sp 2 [(44, .bool (!(coupled Y.cars (Y.tracks.getD (k) []) ↑j)))] ?_
        refine ee ?_
        refine pst_meet (fun a w hS hD hW => ⟨hS.sub (.cons 1 rfl (.cons 3 rfl (.cons 5 rfl (.cons 8 rfl (.cons 11 rfl (.cons 12 rfl (.cons 13 rfl (.cons 17 rfl (.cons 18 rfl (.cons 19 rfl (.consE 44 rfl (congrArg Value.bool (by simp only [h3, h4, Bool.true_and, Bool.false_and, Bool.and_true, Bool.and_false, Bool.true_or, Bool.false_or, Bool.or_true, Bool.or_false, cond_true, cond_false])) (.nil _)))))))))))), hD, hW⟩)
       ·
        have h4_b := h4
        have h4_b := dec_f h4_b
        refine sp 7 [(44, .bool (false))] ?_
        refine ee ?_
        refine pst_meet (fun a w hS hD hW => ⟨hS.sub (.cons 1 rfl (.cons 3 rfl (.cons 5 rfl (.cons 8 rfl (.cons 11 rfl (.cons 12 rfl (.cons 13 rfl (.cons 17 rfl (.cons 18 rfl (.cons 19 rfl (.consE 44 rfl (congrArg Value.bool (by simp only [h3, h4, Bool.true_and, Bool.false_and, Bool.and_true, Bool.and_false, Bool.true_or, Bool.false_or, Bool.or_true, Bool.or_false, cond_true, cond_false])) (.nil _)))))))))))), hD, hW⟩)
      ·
       have h3_b := h3
       have h3_b := gtr_f h3_b
       refine sp 12 [(44, .bool (false))] ?_
       refine ee ?_
       refine pst_meet (fun a w hS hD hW => ⟨hS.sub (.cons 1 rfl (.cons 3 rfl (.cons 5 rfl (.cons 8 rfl (.cons 11 rfl (.cons 12 rfl (.cons 13 rfl (.cons 17 rfl (.cons 18 rfl (.cons 19 rfl (.consE 44 rfl (congrArg Value.bool (by simp only [h3, Bool.true_and, Bool.false_and, Bool.and_true, Bool.and_false, Bool.true_or, Bool.false_or, Bool.or_true, Bool.or_false, cond_true, cond_false])) (.nil _)))))))))))), hD, hW⟩)
     ·rintro a w ⟨hS, hD, hW⟩
      refine run_at hS hD hW ?_
      clear hS hD hW a w
      refine rc 44 rfl (fun h5 => ?_) (fun h5 => ?_)
      ·
       have h5_r := h5
       obtain ⟨h5_1, h5_2⟩ := and_t h5
       have h5_1 := gtr_t h5_1
       obtain ⟨h5_2_1, h5_2_2⟩ := and_t h5_2
       have h5_2_1 := dec_t h5_2_1
       have h5_2_2 := not_t h5_2_2
       refine rqr ?_
       refine sp 1 [(2, .int .i64 (12))] ?_
       refine se ?_
       refine rret ?_
       refine (pst_ret_pass (pst_ret_block (pst_ret_pass (pst_ret_pass (pst_ret_block (pst_ret_block (pst_ret_pass (pst_ret_pass (pst_ret_block (pst_ret_pass ?_))))))))))
       refine pst_ret1 (t := 2) [] (by kernel_rfl) rfl (List.Sublist.cons _ (List.Sublist.cons _ (List.Sublist.refl _))) (Imm.le.refl _) ?_
       exact ⟨congrArg (Value.int .i64) (hr2.trans (goG_hit (by omega) h5)).symm, rfl⟩
      ·
       have h5_r := h5
       refine rskip ?_
       refine pst_next ?_
       refine rr ?_
       refine sp 2 [(46, .int .i64 ((Y.cars.getD (((Y.tracks.getD (k) []).getD (j) 0 : Int).toNat) noCar).grp)), (45, .map (some b3))] ?_
       refine sS (stp_mapUpdate (x := (.tmp 45)) (y := (.tmp 46)) (u := (.const (.bool true))) (T := 71) (kt := 3) (et := 4) (k := ((Y.cars.getD (((Y.tracks.getD (k) []).getD (j) 0 : Int).toNat) noCar).grp : Int)) (kvs := trues (met2)) 0 (ty := 0) (gd := none) (by kernel_rfl) rfl (by kernel_rfl) (keyOk_int (tyI64_spec (by kernel_rfl))) rfl rfl rfl rfl his1_3 (fun es6 cl6 his6 => ?_))
       rw [upd_trues] at his6
       refine nm ?_
       refine ee ?_
       refine pst_normal_block ?_
       refine pst_next ?_
       refine rr ?_
       refine sd (da 47 (↑j) (1)) ?_
       refine sp 1 [(19, .int .i64 (↑j + 1))] ?_
       refine ee ?_
       refine pst_back ((Y.tracks.getD (k) []).length - (j+1)) (by omega) ?_
       intro a w hS hD hW
       exact ⟨j+1, if ((Y.cars.getD (((Y.tracks.getD (k) []).getD (j) 0 : Int).toNat) noCar).grp : Int) ∈ met2 then met2 else met2 ++ [((Y.cars.getD (((Y.tracks.getD (k) []).getD (j) 0 : Int).toNat) noCar).grp : Int)], es6, cl6, by omega, hr2.trans (goG_miss (by omega) h5), his6, hS.sub (.consE 19 rfl rfl (.cons 1 rfl (.cons 3 rfl (.cons 5 rfl (.cons 11 rfl (.cons 12 rfl (.cons 13 rfl (.cons 17 rfl (.cons 18 rfl (.nil _)))))))))), hD, hW, rfl⟩
    ·
     have h2_r := h2
     have h2 := lss_f h2
     refine rexit 2 ?_
     refine (pst_exit_pass (pst_exit_pass (pst_exit_block ?_)))
     refine pst_normal_block ?_
     refine pst_next ?_
     refine rr ?_
     refine sd (da 48 (↑k) (1)) ?_
     refine sp 1 [(13, .int .i64 (↑k + 1))] ?_
     refine ee ?_
     refine pst_back (Y.tracks.length - (k+1)) (by omega) ?_
     intro a w hS hD hW
     exact ⟨k+1, met2, es1_3, cl1_3, by omega, hr2.trans (goG_done (by omega)), his1_3, hS.sub (.consE 13 rfl rfl (.cons 1 rfl (.cons 3 rfl (.cons 11 rfl (.cons 12 rfl (.nil _)))))), hD, hW, rfl⟩
  ·
   have h1_r := h1
   have h1 := lss_f h1
   refine rexit 0 ?_
   refine (pst_exit_pass (pst_exit_pass (pst_exit_block ?_)))
   refine pst_next ?_
   refine rqr ?_
   refine sp 1 [(2, .int .i64 (0))] ?_
   refine se ?_
   refine rret ?_
   refine pst_ret1 (t := 2) [] (by kernel_rfl) rfl (List.Sublist.cons _ (List.Sublist.cons _ (List.Sublist.refl _))) (Imm.le.refl _) ?_
   exact ⟨congrArg (Value.int .i64) (hr.trans (goGs_done (by omega))).symm, rfl⟩

noncomputable def c_checkTracks (p : List Nat) : Code := sub (bodyOf Tryd.f65) p
theorem checkTracks_ct (I : Imm) (y : Value) (Y : Yard) (y_f : IsYard I y Y) (hs : Small Y.cars) : CtV Tryd.prog 65 #[y] I (.int .i64 (tracksErr Y)) := by
 obtain ⟨y1, y2, y3, y_e, y1_f, y2_f, y3_f⟩ := id y_f
 subst y_e
 obtain ⟨y1_a, y1_c, y1_b, y1_o, y1_e, y1_l, y1_m, y1_r⟩ := id y1_f
 subst y1_e
 obtain ⟨y2_a, y2_c, y2_b, y2_o, y2_e, y2_l, y2_m, y2_r⟩ := id y2_f
 subst y2_e
 obtain ⟨y3_a, y3_c, y3_b, y3_o, y3_vs, y3_e, y3_l, y3_m, y3_r, y3_w⟩ := id y3_f
 subst y3_e
 refine fn_of_run (fn := Tryd.f65) (args := [_]) (N := 64) Tryd.func65 rfl (by kernel_rfl) (Nat.le_of_ble_eq_true rfl) (fun F => ?_)
 show Run _ _ (c_checkTracks []) _ _ [(0, .agg #[.slice y1_a Y.cars.length y1_c, .slice y2_a Y.room.length y2_c, .slice y3_a Y.tracks.length y3_c])] _ _
 refine rnm ?_
 refine rqr ?_
 refine sS (sb 1 26 #[.slice y1_a Y.cars.length y1_c, .slice y2_a Y.room.length y2_c, .slice y3_a Y.tracks.length y3_c] (fun b1 => ?_))
 refine sp 1 [(2, .int .i64 (0))] ?_
 refine se ?_
 refine rq ?_
 refine rqr ?_
 refine sp 1 [(8, .pointer (some ⟨b1, 2, none⟩))] ?_
 refine sd (dlb 9 0 2 b1 (.slice y3_a Y.tracks.length y3_c)) ?_
 refine sp 2 [(11, .pointer (some ⟨b1, 1, none⟩)), (10, .int .i64 (↑(Y.tracks.length)))] ?_
 refine sd (dlb 12 0 1 b1 (.slice y2_a Y.room.length y2_c)) ?_
 refine sp 2 [(14, .bool (!(cmp .eql (↑(Y.tracks.length)) (↑(Y.room.length)))))] ?_
 refine se ?_
 refine rc 14 rfl (fun h1 => ?_) (fun h1 => ?_)
 ·
  have h1_r := h1
  have h1 := not_t h1
  have h1 := eql_f h1
  refine rqr ?_
  refine sp 1 [(2, .int .i64 (2))] ?_
  refine se ?_
  refine rret ?_
  refine (pst_ret_pass ?_)
  refine pst_ret1 (t := 2) [] (by kernel_rfl) rfl (List.Sublist.cons _ (List.Sublist.refl _)) (Imm.le.refl _) ?_
  exact ⟨congrArg (Value.int .i64) (by rw [tracksErr, if_neg (by omega)]), rfl⟩
 ·
  have h1_r := h1
  have h1 := not_f h1
  have h1 := eql_t h1
  refine rskip ?_
  refine pst_next ?_
  refine rqr ?_
  refine sS (stp_makeMap (d := 15) (T := 71) (ty := 71) (gd := none) (by kernel_rfl) rfl (fun b3 => ?_))
  refine sp 1 [(3, .map (some b3))] ?_
  refine se ?_
  refine rq ?_
  refine rqr ?_
  refine sp 1 [(16, .pointer (some ⟨b1, 2, none⟩))] ?_
  refine sd (dlb 17 1 2 b1 (.slice y3_a Y.tracks.length y3_c)) ?_
  refine sp 2 [(19, .int .i64 (0)), (18, .int .i64 (↑(Y.tracks.length)))] ?_
  refine se ?_
  refine rb 0 ?_
  refine rl (fun mz a w => ∃ k : Nat, ∃ met : List Int, ∃ es0_3 : Array MapEntry, ∃ cl0_3 : Nat, (k ≤ Y.tracks.length) ∧ (goTracks Y.cars (fun met => if met.length < Y.cars.length then 7 else groupsErr Y) Y.tracks Y.room [] = goTracks Y.cars (fun met => if met.length < Y.cars.length then 7 else groupsErr Y) (Y.tracks.drop k) (Y.room.drop k) met) ∧ (OkAll Y.cars (Y.tracks.take k)) ∧ (MapIs encI es0_3 (trues (met))) ∧ Slots 64 [(19, .int .i64 ↑k), (1, .pointer (some ⟨b1, 0, none⟩)), (3, .map (some b3)), (17, .slice y3_a Y.tracks.length y3_c), (18, .int .i64 (↑(Y.tracks.length)))] a ∧ a.defers = [] ∧ St I ((b3, Obj.map es0_3 cl0_3) :: (b1, Obj.cells #[.slice y1_a Y.cars.length y1_c, .slice y2_a Y.room.length y2_c, .slice y3_a Y.tracks.length y3_c] 26 (0, 0)) :: F) w ∧ mz = Y.tracks.length - k) ?_ ?_
  ·intro a w hS hD hW
   exact ⟨_, 0, [], #[], 0, Nat.zero_le _, rfl, OkAll.nil, (MapIs.nil _), hS.sub (.cons 19 rfl (.cons 1 rfl (.cons 3 rfl (.cons 17 rfl (.cons 18 rfl (.nil _)))))), hD, hW, rfl⟩
  ·rintro mz a w ⟨k, met, es0_3, cl0_3, hk, hr, hok, his0_3, hS, hD, hW, rfl⟩
   refine run_at hS hD hW ?_
   clear hS hD hW a w
   refine rqr ?_
   refine sp 1 [(20, .bool (cmp .lss (↑k) (↑(Y.tracks.length))))] ?_
   refine se ?_
   refine rq ?_
   refine rc 20 rfl (fun h2 => ?_) (fun h2 => ?_)
   ·
    have h2_r := h2
    have h2 := lss_t h2
    refine rskip ?_
    refine pst_next ?_
    refine rq ?_
    refine rb 1 ?_
    refine rqr ?_
    refine sp 1 [(21, .int .i64 (↑k))] ?_
    refine sd (di 22 1 (k) y3_r.addr) ?_
    have r5_f := y3_w (k) (by omega)
    obtain ⟨r5_a, r5_c, r5_b, r5_o, r5_e, r5_l, r5_m, r5_r⟩ := id r5_f
    rw [r5_e] at r5_f
    refine sd (det_eq (dl 23 (rows_get y3_r (k) (by omega))) r5_e) ?_
    refine sp 2 [(5, .slice r5_a (Y.tracks.getD (k) []).length r5_c), (4, .int .i64 (↑k))] ?_
    refine se ?_
    refine rq ?_
    refine rqr ?_
    refine sp 3 [(26, .int .i64 (0)), (25, .int .i64 (↑((Y.tracks.getD (k) []).length))), (24, .slice r5_a (Y.tracks.getD (k) []).length r5_c)] ?_
    refine se ?_
    refine rb 2 ?_
    refine rl (fun mz a w => ∃ j : Nat, ∃ met2 : List Int, ∃ es1_3 : Array MapEntry, ∃ cl1_3 : Nat, (j ≤ (Y.tracks.getD (k) []).length) ∧ (goTracks Y.cars (fun met => if met.length < Y.cars.length then 7 else groupsErr Y) Y.tracks Y.room [] = goTrack Y.cars.length (fun met' => if lenOf Y.cars (Y.tracks.getD (k) []) > Y.room.getD k 0 then 9 else goTracks Y.cars (fun met => if met.length < Y.cars.length then 7 else groupsErr Y) (Y.tracks.drop (k + 1)) (Y.room.drop (k + 1)) met') ((Y.tracks.getD (k) []).drop j) met2) ∧ (Ok Y.cars ((Y.tracks.getD (k) []).take j)) ∧ (MapIs encI es1_3 (trues (met2))) ∧ Slots 64 [(26, .int .i64 ↑j), (1, .pointer (some ⟨b1, 0, none⟩)), (3, .map (some b3)), (4, .int .i64 (↑k)), (5, .slice r5_a (Y.tracks.getD (k) []).length r5_c), (17, .slice y3_a Y.tracks.length y3_c), (18, .int .i64 (↑(Y.tracks.length))), (19, .int .i64 (↑k)), (24, .slice r5_a (Y.tracks.getD (k) []).length r5_c), (25, .int .i64 (↑((Y.tracks.getD (k) []).length)))] a ∧ a.defers = [] ∧ St I ((b3, Obj.map es1_3 cl1_3) :: (b1, Obj.cells #[.slice y1_a Y.cars.length y1_c, .slice y2_a Y.room.length y2_c, .slice y3_a Y.tracks.length y3_c] 26 (0, 0)) :: F) w ∧ mz = (Y.tracks.getD (k) []).length - j) ?_ ?_
    ·intro a w hS hD hW
     exact ⟨_, 0, met, es0_3, cl0_3, Nat.zero_le _, hr.trans (goTracks_step (by omega)), Ok.nil, his0_3, hS.sub (.cons 26 rfl (.cons 1 rfl (.cons 3 rfl (.cons 4 rfl (.cons 5 rfl (.cons 17 rfl (.cons 18 rfl (.cons 19 rfl (.cons 24 rfl (.cons 25 rfl (.nil _))))))))))), hD, hW, rfl⟩
    ·rintro mz a w ⟨j, met2, es1_3, cl1_3, hj, hr2, hok2, his1_3, hS, hD, hW, rfl⟩
     refine run_at hS hD hW ?_
     clear hS hD hW a w
     refine rqr ?_
     refine sp 1 [(27, .bool (cmp .lss (↑j) (↑((Y.tracks.getD (k) []).length))))] ?_
     refine se ?_
     refine rq ?_
     refine rc 27 rfl (fun h3 => ?_) (fun h3 => ?_)
     ·
      have h3_r := h3
      have h3 := lss_t h3
      refine rskip ?_
      refine pst_next ?_
      refine rq ?_
      refine rb 3 ?_
      refine rqr ?_
      refine sd (di 28 1 (j) r5_r.addr) ?_
      refine sd (dl 29 (ints_get r5_r (j) (by omega))) ?_
      refine sp 1 [(7, .int .i64 ((Y.tracks.getD (k) []).getD (j) 0))] ?_
      refine se ?_
      refine rq ?_
      refine rb 4 ?_
      refine rqr ?_
      refine sp 2 [(32, .pointer (some ⟨b1, 0, none⟩)), (31, .int .i64 ((Y.tracks.getD (k) []).getD (j) 0))] ?_
      refine sd (dlb 33 1 0 b1 (.slice y1_a Y.cars.length y1_c)) ?_
      refine sp 1 [(34, .int .i64 (↑(Y.cars.length)))] ?_
      refine sd (dsb 35 (↑(Y.cars.length)) (1)) ?_
      refine sd (dc 36 (fun I' hI => (in_ct I' ((Y.tracks.getD (k) []).getD (j) 0) (0) ((↑(Y.cars.length)) - 1) :))) ?_
      refine sp 2 [(30, .bool (!(inB ((Y.tracks.getD (k) []).getD (j) 0) 0 ((↑(Y.cars.length)) - 1))))] ?_
      refine se ?_
      refine rc 30 rfl (fun h4 => ?_) (fun h4 => ?_)
      ·
       have h4_r := h4
       have h4 := not_t h4
       have h4_p := inB_f h4
       refine rqr ?_
       refine sp 1 [(2, .int .i64 (3))] ?_
       refine se ?_
       refine rret ?_
       refine (pst_ret_block (pst_ret_pass (pst_ret_block (pst_ret_pass (pst_ret_pass (pst_ret_block (pst_ret_pass (pst_ret_block (pst_ret_pass (pst_ret_pass (pst_ret_block (pst_ret_pass ?_))))))))))))
       refine pst_ret1 (t := 2) [] (by kernel_rfl) rfl (List.Sublist.cons _ (List.Sublist.cons _ (List.Sublist.refl _))) (Imm.le.refl _) ?_
       exact ⟨congrArg (Value.int .i64) (by rw [tracksErr, if_pos (by omega)]; exact (hr2.trans (goTrack_bad (by omega) h4)).symm), rfl⟩
      ·
       have h4_r := h4
       have h4 := not_f h4
       have h4_p := inB_t h4
       refine rqr ?_
       refine sp 2 [(40, .int .i64 ((Y.tracks.getD (k) []).getD (j) 0)), (39, .map (some b3))] ?_
       refine sd (det_lookup (x := (.tmp 39)) (y := (.tmp 40)) (T := 71) (kt := 3) (et := 4) (k := ((Y.tracks.getD (k) []).getD (j) 0 : Int)) (kvs := trues (met2)) (z := .bool false) (d := 41) (ty := 4) (gd := none) (by kernel_rfl) rfl (by kernel_rfl) (keyOk_int (tyI64_spec (by kernel_rfl))) rfl rfl (by kernel_rfl) (.inl (List.mem_of_getElem? (i := 0) rfl)) his1_3 (getKv_trues _ _)) ?_
       refine sp 1 [(38, .bool (decide (((Y.tracks.getD (k) []).getD (j) 0 : Int) ∈ met2)))] ?_
       refine se ?_
       refine rc 38 rfl (fun h5 => ?_) (fun h5 => ?_)
       ·
        have h5_r := h5
        have h5 := dec_t h5
        refine rqr ?_
        refine sp 1 [(2, .int .i64 (4))] ?_
        refine se ?_
        refine rret ?_
        refine (pst_ret_block (pst_ret_pass (pst_ret_block (pst_ret_pass (pst_ret_pass (pst_ret_block (pst_ret_pass (pst_ret_block (pst_ret_pass (pst_ret_pass (pst_ret_block (pst_ret_pass ?_))))))))))))
        refine pst_ret1 (t := 2) [] (by kernel_rfl) rfl (List.Sublist.cons _ (List.Sublist.cons _ (List.Sublist.refl _))) (Imm.le.refl _) ?_
        exact ⟨congrArg (Value.int .i64) (by rw [tracksErr, if_pos (by omega)]; exact (hr2.trans (goTrack_twice (by omega) h4 h5)).symm), rfl⟩
       ·
        have h5_r := h5
        have h5 := dec_f h5
        refine rskip ?_
        refine pst_normal_block ?_
        refine pst_next ?_
        refine rr ?_
        refine sp 2 [(43, .int .i64 ((Y.tracks.getD (k) []).getD (j) 0)), (42, .map (some b3))] ?_
        refine sS (stp_mapUpdate (x := (.tmp 42)) (y := (.tmp 43)) (u := (.const (.bool true))) (T := 71) (kt := 3) (et := 4) (k := ((Y.tracks.getD (k) []).getD (j) 0 : Int)) (kvs := trues (met2)) 0 (ty := 0) (gd := none) (by kernel_rfl) rfl (by kernel_rfl) (keyOk_int (tyI64_spec (by kernel_rfl))) rfl rfl rfl rfl his1_3 (fun es6 cl6 his6 => ?_))
        rw [upd_trues] at his6
        rw [if_neg h5] at his6
        refine nm ?_
        refine ee ?_
        refine pst_normal_block ?_
        refine pst_next ?_
        refine rr ?_
        refine sd (da 44 (↑j) (1)) ?_
        refine sp 1 [(26, .int .i64 (↑j + 1))] ?_
        refine ee ?_
        refine pst_back ((Y.tracks.getD (k) []).length - (j+1)) (by omega) ?_
        intro a w hS hD hW
        exact ⟨j+1, met2 ++ [((Y.tracks.getD (k) []).getD (j) 0 : Int)], es6, cl6, by omega, hr2.trans (goTrack_next (by omega) h4 h5), hok2.snoc (c := 0) (by omega) (by omega), his6, hS.sub (.consE 26 rfl rfl (.cons 1 rfl (.cons 3 rfl (.cons 4 rfl (.cons 5 rfl (.cons 17 rfl (.cons 18 rfl (.cons 19 rfl (.cons 24 rfl (.cons 25 rfl (.nil _))))))))))), hD, hW, rfl⟩
     ·
      have h3_r := h3
      have h3 := lss_f h3
      refine rexit 2 ?_
      refine (pst_exit_pass (pst_exit_pass (pst_exit_block ?_)))
      refine pst_next ?_
      refine rq ?_
      refine rd0 9 ?_
      refine ox 2 [(46, .pointer (some ⟨b1, 0, none⟩)), (45, .slice r5_a (Y.tracks.getD (k) []).length r5_c)] ?_
      refine ofp_det (dlb 47 1 0 b1 (.slice y1_a Y.cars.length y1_c)) ?_
      refine ofp_det (dc 48 (fun I' hI => (long_ct I' _ _ _ _ (r5_f.mono hI) (y1_f.mono hI) (by exact hok2.all (by omega)) (by assumption) :))) ?_
      refine ox 1 [(49, .pointer (some ⟨b1, 1, none⟩))] ?_
      refine ofp_det (dlb 50 1 1 b1 (.slice y2_a Y.room.length y2_c)) ?_
      refine ox 1 [(51, .int .i64 (↑k))] ?_
      refine ofp_det (di 52 1 (k) y2_r.addr) ?_
      refine ofp_det (dl 53 (ints_get y2_r (k) (by omega))) ?_
      refine ofp_end0 ?_
      refine sp 1 [(54, .bool (cmp .gtr ((lenOf Y.cars (Y.tracks.getD (k) []))) (Y.room.getD (k) 0)))] ?_
      refine se ?_
      refine rc 54 rfl (fun h6 => ?_) (fun h6 => ?_)
      ·
       have h6_r := h6
       have h6 := gtr_t h6
       refine rqr ?_
       refine sp 1 [(2, .int .i64 (9))] ?_
       refine se ?_
       refine rret ?_
       refine (pst_ret_block (pst_ret_pass (pst_ret_pass (pst_ret_block (pst_ret_pass ?_)))))
       refine pst_ret1 (t := 2) [] (by kernel_rfl) rfl (List.Sublist.cons _ (List.Sublist.cons _ (List.Sublist.refl _))) (Imm.le.refl _) ?_
       exact ⟨congrArg (Value.int .i64) (by rw [tracksErr, if_pos (by omega)]; exact (hr2.trans ((goTrack_done (by omega)).trans (if_pos (by omega)))).symm), rfl⟩
      ·
       have h6_r := h6
       have h6 := gtr_f h6
       refine rskip ?_
       refine pst_normal_block ?_
       refine pst_next ?_
       refine rr ?_
       refine sd (da 55 (↑k) (1)) ?_
       refine sp 1 [(19, .int .i64 (↑k + 1))] ?_
       refine ee ?_
       refine pst_back (Y.tracks.length - (k+1)) (by omega) ?_
       intro a w hS hD hW
       exact ⟨k+1, met2, es1_3, cl1_3, by omega, hr2.trans ((goTrack_done (by omega)).trans (if_neg (by omega))), hok.snoc (by omega) (hok2.all (by omega)), his1_3, hS.sub (.consE 19 rfl rfl (.cons 1 rfl (.cons 3 rfl (.cons 17 rfl (.cons 18 rfl (.nil _)))))), hD, hW, rfl⟩
   ·
    have h2_r := h2
    have h2 := lss_f h2
    refine rexit 0 ?_
    refine (pst_exit_pass (pst_exit_pass (pst_exit_block ?_)))
    refine pst_next ?_
    refine rq ?_
    refine rqr ?_
    refine sp 1 [(56, .map (some b3))] ?_
    refine sd (det_eq (det_len_map (x := (.tmp 56)) (T := 71) (K := 3) (E := 4) (d := 57) (ty := 3) (gd := none) (by kernel_rfl) rfl (by kernel_rfl) rfl (.inl (List.mem_of_getElem? (i := 0) rfl))) (congrArg (fun n : Nat => Value.int .i64 ↑n) ((MapIs.size his0_3).trans (trues_length _)))) ?_
    refine sp 1 [(58, .pointer (some ⟨b1, 0, none⟩))] ?_
    refine sd (dlb 59 1 0 b1 (.slice y1_a Y.cars.length y1_c)) ?_
    refine sp 2 [(61, .bool (cmp .lss (↑(met.length)) (↑(Y.cars.length))))] ?_
    refine se ?_
    refine rc 61 rfl (fun h7 => ?_) (fun h7 => ?_)
    ·
     have h7_r := h7
     have h7 := lss_t h7
     refine rqr ?_
     refine sp 1 [(2, .int .i64 (7))] ?_
     refine se ?_
     refine rret ?_
     refine (pst_ret_pass ?_)
     refine pst_ret1 (t := 2) [] (by kernel_rfl) rfl (List.Sublist.cons _ (List.Sublist.cons _ (List.Sublist.refl _))) (Imm.le.refl _) ?_
     exact ⟨congrArg (Value.int .i64) (by rw [tracksErr, if_pos (by omega)]; exact (hr.trans ((goTracks_done (by omega)).trans (if_pos (by omega)))).symm), rfl⟩
    ·
     have h7_r := h7
     have h7 := lss_f h7
     refine rskip ?_
     refine pst_next ?_
     refine rqr ?_
     refine sd (dnb 62 1 0 b1 [.slice y1_a Y.cars.length y1_c, .slice y2_a Y.room.length y2_c, .slice y3_a Y.tracks.length y3_c]) ?_
     have ho := hok.all (by omega)
     refine sd (dc 63 (fun I' hI => (checkGroups_ct I' _ (Y) ((mkYard y1_f y2_f y3_f).mono hI) (by assumption) :))) ?_
     refine sp 1 [(2, .int .i64 ((groupsErr Y)))] ?_
     refine se ?_
     refine rret ?_
     refine pst_ret1 (t := 2) [] (by kernel_rfl) rfl (List.Sublist.cons _ (List.Sublist.cons _ (List.Sublist.refl _))) (Imm.le.refl _) ?_
     exact ⟨congrArg (Value.int .i64) (by rw [tracksErr, if_pos (by omega)]; exact (hr.trans ((goTracks_done (by omega)).trans (if_neg (by omega)))).symm), rfl⟩

noncomputable def c_Check (p : List Nat) : Code := sub (bodyOf Tryd.f33) p
theorem Check_ct (I : Imm) (y : Value) (Y : Yard) (y_f : IsYard I y Y) : CtV Tryd.prog 33 #[y] I (.int .i64 (checkErr Y)) := by
 obtain ⟨y1, y2, y3, y_e, y1_f, y2_f, y3_f⟩ := id y_f
 subst y_e
 obtain ⟨y1_a, y1_c, y1_b, y1_o, y1_e, y1_l, y1_m, y1_r⟩ := id y1_f
 subst y1_e
 obtain ⟨y2_a, y2_c, y2_b, y2_o, y2_e, y2_l, y2_m, y2_r⟩ := id y2_f
 subst y2_e
 obtain ⟨y3_a, y3_c, y3_b, y3_o, y3_vs, y3_e, y3_l, y3_m, y3_r, y3_w⟩ := id y3_f
 subst y3_e
 refine fn_of_run (fn := Tryd.f33) (args := [_]) (N := 48) Tryd.func33 rfl (by kernel_rfl) (Nat.le_of_ble_eq_true rfl) (fun F => ?_)
 show Run _ _ (c_Check []) _ _ [(0, .agg #[.slice y1_a Y.cars.length y1_c, .slice y2_a Y.room.length y2_c, .slice y3_a Y.tracks.length y3_c])] _ _
 refine rnm ?_
 refine rqr ?_
 refine sS (sb 1 26 #[.slice y1_a Y.cars.length y1_c, .slice y2_a Y.room.length y2_c, .slice y3_a Y.tracks.length y3_c] (fun b1 => ?_))
 refine sp 1 [(2, .int .i64 (0))] ?_
 refine se ?_
 refine rq ?_
 refine rqr ?_
 refine sp 1 [(8, .pointer (some ⟨b1, 0, none⟩))] ?_
 refine sd (dlb 9 0 0 b1 (.slice y1_a Y.cars.length y1_c)) ?_
 refine sp 2 [(11, .bool (cmp .gtr (↑(Y.cars.length)) (5)))] ?_
 refine se ?_
 refine rc 11 rfl (fun h1 => ?_) (fun h1 => ?_)
 ·
  have h1_r := h1
  have h1 := gtr_t h1
  refine rqr ?_
  refine sp 1 [(2, .int .i64 (6))] ?_
  refine se ?_
  refine rret ?_
  refine (pst_ret_pass ?_)
  refine pst_ret1 (t := 2) [] (by kernel_rfl) rfl (List.Sublist.cons _ (List.Sublist.refl _)) (Imm.le.refl _) ?_
  exact ⟨congrArg (Value.int .i64) ((checkErr_many (by omega)).symm), rfl⟩
 ·
  have h1_r := h1
  have h1 := gtr_f h1
  refine rskip ?_
  refine pst_next ?_
  refine rq ?_
  refine rqr ?_
  refine sp 1 [(12, .pointer (some ⟨b1, 0, none⟩))] ?_
  refine sd (dlb 13 0 0 b1 (.slice y1_a Y.cars.length y1_c)) ?_
  refine sp 2 [(15, .int .i64 (0)), (14, .int .i64 (↑(Y.cars.length)))] ?_
  refine se ?_
  refine rb 0 ?_
  refine rl (fun mz a w => ∃ k : Nat, (k ≤ Y.cars.length) ∧ (∀ c ∈ Y.cars.take k, carErr c = 0) ∧ Slots 48 [(15, .int .i64 ↑k), (1, .pointer (some ⟨b1, 0, none⟩)), (13, .slice y1_a Y.cars.length y1_c), (14, .int .i64 (↑(Y.cars.length)))] a ∧ a.defers = [] ∧ St I ((b1, Obj.cells #[.slice y1_a Y.cars.length y1_c, .slice y2_a Y.room.length y2_c, .slice y3_a Y.tracks.length y3_c] 26 (0, 0)) :: F) w ∧ mz = Y.cars.length - k) ?_ ?_
  ·intro a w hS hD hW
   exact ⟨_, 0, Nat.zero_le _, (fun c h => by simp at h), hS.sub (.cons 15 rfl (.cons 1 rfl (.cons 13 rfl (.cons 14 rfl (.nil _))))), hD, hW, rfl⟩
  ·rintro mz a w ⟨k, hk, hc, hS, hD, hW, rfl⟩
   refine run_at hS hD hW ?_
   clear hS hD hW a w
   refine rqr ?_
   refine sp 1 [(16, .bool (cmp .lss (↑k) (↑(Y.cars.length))))] ?_
   refine se ?_
   refine rq ?_
   refine rc 16 rfl (fun h2 => ?_) (fun h2 => ?_)
   ·
    have h2_r := h2
    have h2 := lss_t h2
    refine rskip ?_
    refine pst_next ?_
    refine rq ?_
    refine rb 1 ?_
    refine rqr ?_
    refine sd (di 17 6 (k) y1_r.addr) ?_
    refine sd (det_loadN (x := (.tmp 17)) (T := 40) (n := 6) (vs := [.int .i64 ((Y.cars.getD (k) noCar).len), .int .i64 ((Y.cars.getD (k) noCar).wt), .int .i64 ((Y.cars.getD (k) noCar).brk), .int .i64 ((Y.cars.getD (k) noCar).grp), .bool ((Y.cars.getD (k) noCar).pipe), .bool ((Y.cars.getD (k) noCar).heat)]) (d := 18) (ty := 40) (gd := none) (by kernel_rfl) rfl (by kernel_rfl) (by kernel_rfl) rfl rfl (cars_getN y1_r (k) (by omega))) ?_
    refine sS (sal 4 40 #[.int .i64 (0), .int .i64 (0), .int .i64 (0), .int .i64 (0), .bool (false), .bool (false)] (fun b3 => ?_))
    refine sS (ss 0 0 b3 [.int .i64 ((Y.cars.getD (k) noCar).len), .int .i64 ((Y.cars.getD (k) noCar).wt), .int .i64 ((Y.cars.getD (k) noCar).brk), .int .i64 ((Y.cars.getD (k) noCar).grp), .bool ((Y.cars.getD (k) noCar).pipe), .bool ((Y.cars.getD (k) noCar).heat)] [.int .i64 ((Y.cars.getD (k) noCar).len), .int .i64 ((Y.cars.getD (k) noCar).wt), .int .i64 ((Y.cars.getD (k) noCar).brk), .int .i64 ((Y.cars.getD (k) noCar).grp), .bool ((Y.cars.getD (k) noCar).pipe), .bool ((Y.cars.getD (k) noCar).heat)] (_ :: _ :: _) (cs := [_, _, _, _, _, _]) rfl rfl ?_)
    refine sn ?_
    refine sd (dnb 19 0 0 b3 [.int .i64 ((Y.cars.getD (k) noCar).len), .int .i64 ((Y.cars.getD (k) noCar).wt), .int .i64 ((Y.cars.getD (k) noCar).brk), .int .i64 ((Y.cars.getD (k) noCar).grp), .bool ((Y.cars.getD (k) noCar).pipe), .bool ((Y.cars.getD (k) noCar).heat)]) ?_
    refine sd (dc 20 (fun I' hI => (checkCoach_ct I' (Y.cars.getD (k) noCar) :))) ?_
    refine sp 1 [(5, .int .i64 ((carErr (Y.cars.getD (k) noCar))))] ?_
    refine sn ?_
    refine sp 2 [(22, .bool (!(cmp .eql ((carErr (Y.cars.getD (k) noCar))) (0))))] ?_
    refine se ?_
    refine rc 22 rfl (fun h3 => ?_) (fun h3 => ?_)
    ·
     have h3_r := h3
     have h3 := not_t h3
     have h3 := eql_f h3
     refine rqr ?_
     refine sp 2 [(2, .int .i64 ((carErr (Y.cars.getD (k) noCar))))] ?_
     refine se ?_
     refine rret ?_
     refine (pst_ret_block (pst_ret_pass (pst_ret_pass (pst_ret_block (pst_ret_pass ?_)))))
     refine pst_ret1 (t := 2) [] (by kernel_rfl) rfl (List.Sublist.cons _ (List.Sublist.cons _ (List.Sublist.refl _))) (Imm.le.refl _) ?_
     exact ⟨congrArg (Value.int .i64) ((checkErr_car (by omega) (by omega) h3)), rfl⟩
    ·
     have h3_r := h3
     have h3 := not_f h3
     have h3 := eql_t h3
     refine rskip ?_
     refine pst_normal_block ?_
     refine pst_next ?_
     refine rr ?_
     refine sd (da 24 (↑k) (1)) ?_
     refine sp 1 [(15, .int .i64 (↑k + 1))] ?_
     refine ee ?_
     refine pst_back (Y.cars.length - (k+1)) (by omega) ?_
     intro a w hS hD hW
     exact ⟨k+1, by omega, all_snoc hc (by omega) h3, hS.sub (.consE 15 rfl rfl (.cons 1 rfl (.cons 13 rfl (.cons 14 rfl (.nil _))))), hD, (hW.perm (List.Perm.refl _)).sub (List.Sublist.cons _ (List.Sublist.refl _)), rfl⟩
   ·
    have h2_r := h2
    have h2 := lss_f h2
    refine rexit 0 ?_
    refine (pst_exit_pass (pst_exit_pass (pst_exit_block ?_)))
    refine pst_next ?_
    refine rq ?_
    refine rb 2 ?_
    refine rqr ?_
    refine sp 1 [(26, .pointer (some ⟨b1, 1, none⟩))] ?_
    refine sd (dlb 27 0 1 b1 (.slice y2_a Y.room.length y2_c)) ?_
    refine sp 3 [(25, .bool (cmp .eql (↑(Y.room.length)) (0)))] ?_
    refine se ?_
    refine rc 25 rfl (fun h4 => ?_) (fun h4 => ?_)
    ·
     have h4_r := h4
     have h4 := eql_t h4
     refine rqr ?_
     refine sp 1 [(2, .int .i64 (7))] ?_
     refine se ?_
     refine rret ?_
     refine (pst_ret_block (pst_ret_pass ?_))
     refine pst_ret1 (t := 2) [] (by kernel_rfl) rfl (List.Sublist.cons _ (List.Sublist.refl _)) (Imm.le.refl _) ?_
     exact ⟨congrArg (Value.int .i64) ((checkErr_few (by omega) (all_done hc (by omega)) (by omega)).symm), rfl⟩
    ·
     have h4_r := h4
     have h4 := eql_f h4
     refine rqr ?_
     refine sp 1 [(31, .pointer (some ⟨b1, 1, none⟩))] ?_
     refine sd (dlb 32 0 1 b1 (.slice y2_a Y.room.length y2_c)) ?_
     refine sp 3 [(30, .bool (cmp .gtr (↑(Y.room.length)) (3)))] ?_
     refine se ?_
     refine rc 30 rfl (fun h5 => ?_) (fun h5 => ?_)
     ·
      have h5_r := h5
      have h5 := gtr_t h5
      refine rqr ?_
      refine sp 1 [(2, .int .i64 (6))] ?_
      refine se ?_
      refine rret ?_
      refine (pst_ret_block (pst_ret_pass ?_))
      refine pst_ret1 (t := 2) [] (by kernel_rfl) rfl (List.Sublist.cons _ (List.Sublist.refl _)) (Imm.le.refl _) ?_
      exact ⟨congrArg (Value.int .i64) ((checkErr_many2 (by omega) (all_done hc (by omega)) (by omega)).symm), rfl⟩
     ·
      have h5_r := h5
      have h5 := gtr_f h5
      refine rskip ?_
      refine pst_normal_block ?_
      refine pst_next ?_
      refine rq ?_
      refine rqr ?_
      refine sp 1 [(35, .pointer (some ⟨b1, 1, none⟩))] ?_
      refine sd (dlb 36 0 1 b1 (.slice y2_a Y.room.length y2_c)) ?_
      refine sp 2 [(38, .int .i64 (0)), (37, .int .i64 (↑(Y.room.length)))] ?_
      refine se ?_
      refine rb 3 ?_
      refine rl (fun mz a w => ∃ m : Nat, (m ≤ Y.room.length) ∧ (∀ c ∈ Y.room.take m, inB c 0 20 = true) ∧ Slots 48 [(38, .int .i64 ↑m), (1, .pointer (some ⟨b1, 0, none⟩)), (36, .slice y2_a Y.room.length y2_c), (37, .int .i64 (↑(Y.room.length)))] a ∧ a.defers = [] ∧ St I ((b1, Obj.cells #[.slice y1_a Y.cars.length y1_c, .slice y2_a Y.room.length y2_c, .slice y3_a Y.tracks.length y3_c] 26 (0, 0)) :: F) w ∧ mz = Y.room.length - m) ?_ ?_
      ·intro a w hS hD hW
       exact ⟨_, 0, Nat.zero_le _, (fun c h => by simp at h), hS.sub (.cons 38 rfl (.cons 1 rfl (.cons 36 rfl (.cons 37 rfl (.nil _))))), hD, hW, rfl⟩
      ·rintro mz a w ⟨m, hm, hrm, hS, hD, hW, rfl⟩
       refine run_at hS hD hW ?_
       clear hS hD hW a w
       refine rqr ?_
       refine sp 1 [(39, .bool (cmp .lss (↑m) (↑(Y.room.length))))] ?_
       refine se ?_
       refine rq ?_
       refine rc 39 rfl (fun h6 => ?_) (fun h6 => ?_)
       ·
        have h6_r := h6
        have h6 := lss_t h6
        refine rskip ?_
        refine pst_next ?_
        refine rq ?_
        refine rb 4 ?_
        refine rqr ?_
        refine sd (di 40 1 (m) y2_r.addr) ?_
        refine sd (dl 41 (ints_get y2_r (m) (by omega))) ?_
        refine sp 1 [(7, .int .i64 (Y.room.getD (m) 0))] ?_
        refine sn ?_
        refine sp 1 [(42, .int .i64 (Y.room.getD (m) 0))] ?_
        refine sd (dc 43 (fun I' hI => (in_ct I' (Y.room.getD (m) 0) (0) (20) :))) ?_
        refine sp 1 [(44, .bool (!(inB (Y.room.getD (m) 0) 0 20)))] ?_
        refine se ?_
        refine rc 44 rfl (fun h7 => ?_) (fun h7 => ?_)
        ·
         have h7_r := h7
         have h7 := not_t h7
         have h7_p := inB_f h7
         refine rqr ?_
         refine sp 1 [(2, .int .i64 (1))] ?_
         refine se ?_
         refine rret ?_
         refine (pst_ret_block (pst_ret_pass (pst_ret_pass (pst_ret_block (pst_ret_pass ?_)))))
         refine pst_ret1 (t := 2) [] (by kernel_rfl) rfl (List.Sublist.cons _ (List.Sublist.refl _)) (Imm.le.refl _) ?_
         exact ⟨congrArg (Value.int .i64) ((checkErr_room (by omega) (all_done hc (by omega)) (by omega) (by omega) (by omega) h7).symm), rfl⟩
        ·
         have h7_r := h7
         have h7 := not_f h7
         have h7_p := inB_t h7
         refine rskip ?_
         refine pst_normal_block ?_
         refine pst_next ?_
         refine rr ?_
         refine sd (da 45 (↑m) (1)) ?_
         refine sp 1 [(38, .int .i64 (↑m + 1))] ?_
         refine ee ?_
         refine pst_back (Y.room.length - (m+1)) (by omega) ?_
         intro a w hS hD hW
         exact ⟨m+1, by omega, all_snoc (d := 0) hrm (by omega) h7, hS.sub (.consE 38 rfl rfl (.cons 1 rfl (.cons 36 rfl (.cons 37 rfl (.nil _))))), hD, hW, rfl⟩
       ·
        have h6_r := h6
        have h6 := lss_f h6
        refine rexit 3 ?_
        refine (pst_exit_pass (pst_exit_pass (pst_exit_block ?_)))
        refine pst_next ?_
        refine rqr ?_
        refine sd (dnb 46 0 0 b1 [.slice y1_a Y.cars.length y1_c, .slice y2_a Y.room.length y2_c, .slice y3_a Y.tracks.length y3_c]) ?_
        refine sd (dc 47 (fun I' hI => (checkTracks_ct I' _ (Y) ((mkYard y1_f y2_f y3_f).mono hI) (by exact small_of_ok (all_done hc (by omega))) :))) ?_
        refine sp 1 [(2, .int .i64 ((tracksErr Y)))] ?_
        refine se ?_
        refine rret ?_
        refine pst_ret1 (t := 2) [] (by kernel_rfl) rfl (List.Sublist.cons _ (List.Sublist.refl _)) (Imm.le.refl _) ?_
        exact ⟨congrArg (Value.int .i64) ((checkErr_tracks (by omega) (all_done hc (by omega)) (by omega) (by omega) (all_done hrm (by omega))).symm), rfl⟩

end Go.Proofs.YtcaocbhbofejnaaDoor
set_option maxRecDepth 100000
namespace Go.Proofs.YtcaocbhbofejnaaDoor
open Go.RowKit Go.Extern.Stop Go.Stop Go.Extern

theorem as_nil (t : Value) (w : World) :
    Calls Tryd.prog 78 #[.nilIface, t] w fun e w' => e = .returned (.bool false) ∧ w' = w := by
  go_enter Tryd.func78, Tryd.ntmps78
  go_wp2
  go_ret
  exact ⟨rfl, rfl⟩

theorem As.valueOf27 (t : Addr) (w : World) : (ReflectliteValue.unpack (.iface 124 (.pointer (some t)))).run Tryd.prog w
    = .ok (.agg #[.pointer (some ⟨1, 124, none⟩), .pointer (some ⟨w.heap.size, 0, none⟩), .int .u64 150]) (w.alloc (.cells #[.pointer (some t)] 124)) := by kernel_rfl
theorem As.type27 (a : Addr) (w : World) : (ReflectliteValue.methodAny (ReflectliteValue.valueError "reflectlite.Value.Type" 0) (fun t _ _ _ => ReflectliteType.toType t) #[.agg #[.pointer (some ⟨1, 124, none⟩), .pointer (some a), .int .u64 150]]).run Tryd.prog w
    = .ok (.iface 144 (.agg #[.pointer (some ⟨1, 124, none⟩)])) w := by kernel_rfl
theorem As.methodKind (h : Value) (w : World) : (Go.method 287 144 (.agg #[h]) "Kind").run Tryd.prog w = .ok (106, h) w := by kernel_rfl
theorem As.kind27 (w : World) : ((ReflectliteType.abiMethod fun t => (fun a : Nat => Value.int IntKind.u8 (a : Int)) <$> Rtype.kind t) #[.pointer (some ⟨1, 124, none⟩)]).run Tryd.prog w = .ok (.int .u8 22) w := by kernel_rfl
theorem As.kind25 (w : World) : ((ReflectliteType.abiMethod fun t => (fun a : Nat => Value.int IntKind.u8 (a : Int)) <$> Rtype.kind t) #[.pointer (some ⟨1, 122, none⟩)]).run Tryd.prog w = .ok (.int .u8 25) w := by kernel_rfl

theorem rlm (z : Sem Value) (f : TypeId → Addr → Nat → Nat → Sem Value) (v : Value) :
    ReflectliteValue.method z f #[v] = (do match ← ReflectliteValue.parts v with | none => z | some (t, a, fl) => f t a fl (fl % 32)) := rfl
theorem As.parts27 (a : Addr) (w : World) : (ReflectliteValue.parts (.agg #[.pointer (some ⟨1, 124, none⟩), .pointer (some a), .int .u64 150])).run Tryd.prog w = .ok (some (124, a, 150)) w := by kernel_rfl
theorem As.isNil27 (a p : Addr) (W : World) (ha : W.cell? a = some (.pointer (some p))) :
    (ReflectliteValue.method (ReflectliteValue.valueError "reflectlite.Value.IsNil" 0) ReflectliteValue.isNil #[.agg #[.pointer (some ⟨1, 124, none⟩), .pointer (some a), .int .u64 150]]).run Tryd.prog W = .ok (.bool false) W := by
  rw [rlm]
  simp only [Sem.run_bind, As.parts27, Result.andThen]
  simp [ReflectliteValue.isNil, loadVar, isAgg, underlying, Tryd.underlying124, ha, Result.andThen]

theorem As.methodElem (h : Value) (w : World) : (Go.method 287 144 (.agg #[h]) "Elem").run Tryd.prog w = .ok (117, .agg #[h]) w := by kernel_rfl
theorem As.methodImplements (h : Value) (w : World) : (Go.method 287 144 (.agg #[h]) "Implements").run Tryd.prog w = .ok (118, .agg #[h]) w := by kernel_rfl
theorem As.methodAssignableTo (h : Value) (w : World) : (Go.method 287 144 (.agg #[h]) "AssignableTo").run Tryd.prog w = .ok (115, .agg #[h]) w := by kernel_rfl
theorem As.elem27 (w : World) : (ReflectliteType.method ReflectliteType.elem #[.agg #[.pointer (some ⟨1, 124, none⟩)]]).run Tryd.prog w = .ok (.iface 144 (.agg #[.pointer (some ⟨1, 122, none⟩)])) w := by kernel_rfl
theorem As.implements25 (w : World) : (ReflectliteType.relation "Implements" ReflectliteType.implements_ #[.agg #[.pointer (some ⟨1, 122, none⟩)], .iface 144 (.agg #[.pointer (some ⟨1, 108, none⟩)])]).run Tryd.prog w = .ok (.bool true) w := by kernel_rfl
theorem As.typeOf25 (v : Value) (w : World) : (ReflectliteType.typeOf #[.iface 122 v]).run Tryd.prog w = .ok (.iface 144 (.agg #[.pointer (some ⟨1, 122, none⟩)])) w := by kernel_rfl
theorem As.assignable25 (w : World) : (ReflectliteType.relation "AssignableTo" ReflectliteType.assignableTo #[.agg #[.pointer (some ⟨1, 122, none⟩)], .iface 144 (.agg #[.pointer (some ⟨1, 122, none⟩)])]).run Tryd.prog w = .ok (.bool true) w := by kernel_rfl
theorem As.valueOf25 (e : Int) (w : World) : (ReflectliteValue.unpack (.iface 122 (.agg #[.int .i64 e]))).run Tryd.prog w
    = .ok (.agg #[.pointer (some ⟨1, 122, none⟩), .pointer (some ⟨w.heap.size, 0, none⟩), .int .u64 153]) (w.alloc (.cells #[.int .i64 e] 122)) := by kernel_rfl

theorem As.elemOf27 (w : World) : (Rtype.elem? 124).run Tryd.prog w = .ok (some 122) w := by kernel_rfl
theorem As.mk25 (p : Addr) (w : World) : (ReflectliteValue.mk 122 p ReflectliteValue.flagAddr).run Tryd.prog w = .ok (.agg #[.pointer (some ⟨1, 122, none⟩), .pointer (some p), .int .u64 409]) w := by kernel_rfl
theorem As.elemV27 (a p : Addr) (W : World) (ha : W.cell? a = some (.pointer (some p))) :
    (ReflectliteValue.method (ReflectliteValue.valueError "reflectlite.Value.Elem" 0) ReflectliteValue.elem #[.agg #[.pointer (some ⟨1, 124, none⟩), .pointer (some a), .int .u64 150]]).run Tryd.prog W
      = .ok (.agg #[.pointer (some ⟨1, 122, none⟩), .pointer (some p), .int .u64 409]) W := by
  rw [rlm]
  simp only [Sem.run_bind, As.parts27, Result.andThen]
  simp [ReflectliteValue.elem, loadVar, isAgg, underlying, Tryd.underlying124, ha, Result.andThen, As.elemOf27, As.mk25]
theorem rls (v x : Value) : ReflectliteValue.set #[v, x] = (do
    let (some (dst, a, fl), some (src, b, _)) := (← ReflectliteValue.parts v, ← ReflectliteValue.parts x)
      | unsupported (.noEntry "extern/(internal/reflectlite.Value).Set.zeroValue")
    if fl / ReflectliteValue.flagAddr % 2 == 0 then unsupported (.noEntry "extern/(internal/reflectlite.Value).Set.unaddressable")
    let val ← loadVar src b
    if ← Rtype.directlyAssignable dst src then storeVar dst a val
    else if ← Rtype.implements dst src then
      if (← Rtype.kind src) == 20 then
        match val with
        | .nilIface => unsupported (.noEntry "extern/reflectlite: a nil value of one interface type handed on as a value of another")
        | _ => storeVar dst a val
      else storeVar dst a (.iface src val)
    else panicString ("reflectlite.Set: value of type " ++ (← Rtype.spelt src) ++ " is not assignable to type " ++ (← Rtype.spelt dst))
    pure (.tuple #[])) := rfl
theorem As.parts25a (a : Addr) (w : World) : (ReflectliteValue.parts (.agg #[.pointer (some ⟨1, 122, none⟩), .pointer (some a), .int .u64 409])).run Tryd.prog w = .ok (some (122, a, 409)) w := by kernel_rfl
theorem As.parts25 (a : Addr) (w : World) : (ReflectliteValue.parts (.agg #[.pointer (some ⟨1, 122, none⟩), .pointer (some a), .int .u64 153])).run Tryd.prog w = .ok (some (122, a, 153)) w := by kernel_rfl
theorem As.direct25 (w : World) : (Rtype.directlyAssignable 122 122).run Tryd.prog w = .ok true w := by kernel_rfl
theorem As.size25 (w : World) : (sizeOf 122).run Tryd.prog w = .ok 1 w := by kernel_rfl
theorem As.loadV (b : Addr) (e : Int) (W : World) (hb : W.cell? b = some (.int .i64 e)) : (loadVar 122 b).run Tryd.prog W = .ok (.agg #[.int .i64 e]) W := by
  have hs := As.size25 W
  unfold loadVar
  rw [Sem.run_bind, show (isAgg 122).run Tryd.prog W = .ok true W from by kernel_rfl]
  show (do pure (Value.agg (← loadCells b (← sizeOf 122))) : Sem Value).run Tryd.prog W = _
  rw [Sem.run_bind, hs]
  show (loadCells b 1 >>= fun x => pure (Value.agg x)).run Tryd.prog W = _
  rw [Sem.run_bind]
  have hl : (loadCells b 1).run Tryd.prog W = .ok #[.int .i64 e] W := by
    show (Sem.load Mode.plain (Addr.add b 0) Sem.pure >>= fun v => loadCellsFrom b 1 0 (#[].push v)).run Tryd.prog W = _
    rw [Sem.run_bind]
    have hb' : W.cell? (Addr.add b 0) = some (.int .i64 e) := by rw [show Addr.add b 0 = b from by cases b; rfl]; exact hb
    simp only [Sem.run, hb', Result.andThen]
    rfl
  rw [hl]; rfl
theorem As.storeV (a : Addr) (e : Int) (old : Value) (W : World) (ht : W.cell? a = some old) (hf : W.frozen? a = false) : (storeVar 122 a (.agg #[.int .i64 e])).run Tryd.prog W = .ok () (W.setCell a (.int .i64 e)) := by
  unfold storeVar
  rw [Sem.run_bind, As.size25]
  show (storeCells a [.int .i64 e]).run Tryd.prog W = _
  have ha : Addr.add a 0 = a := by cases a; rfl
  show (store (Addr.add a 0) (.int .i64 e) >>= fun _ => storeCells a [] 1).run Tryd.prog W = _
  rw [Sem.run_bind, ha, run_store Tryd.prog W a _ _ (by rfl)]
  simp only [ht, hf]
  rfl
theorem As.set25 (ta b : Addr) (e : Int) (old : Value) (W : World) (hb : W.cell? b = some (.int .i64 e)) (ht : W.cell? ta = some old) (hf : W.frozen? ta = false) :
    (ReflectliteValue.set #[.agg #[.pointer (some ⟨1, 122, none⟩), .pointer (some ta), .int .u64 409], .agg #[.pointer (some ⟨1, 122, none⟩), .pointer (some b), .int .u64 153]]).run Tryd.prog W
      = .ok (.tuple #[]) (W.setCell ta (.int .i64 e)) := by
  rw [rls]
  simp only [Sem.run_bind, As.parts25a, As.parts25, Result.andThen]
  simp [ReflectliteValue.flagAddr, As.loadV b e W hb, Result.andThen, As.direct25, As.storeV ta e old W ht hf]

set_option maxHeartbeats 4000000 in
theorem as_hit (e : Int) (t : Addr) (old : Value) (w : World) (hg : w.cell? ⟨0, 0, none⟩ = some (.iface 144 (.agg #[.pointer (some ⟨1, 108, none⟩)]))) (ht0 : w.cell? t = some old) (hf0 : w.frozen? t = false) :
    Calls Tryd.prog 78 #[.iface 122 (.agg #[.int .i64 e]), .iface 124 (.pointer (some t))] w fun ev w' => ev = .returned (.bool true) ∧ w' = ((((w.alloc (.cells #[.pointer (some t)] 124)).alloc (.cells #[.pointer (some ⟨1, 124, none⟩), .pointer (some ⟨w.heap.size, 0, none⟩), .int .u64 150] 133)).alloc (.cells #[.pointer (some ⟨1, 124, none⟩), .pointer (some ⟨w.heap.size, 0, none⟩), .int .u64 150] 133)).alloc (.cells #[.int .i64 e] 122)).setCell t (.int .i64 e) := by
  have h6 := @run_callFunc_extern Tryd.prog 84 _ (fun args => ReflectliteValue.unpack (args.getD 0 (.tuple #[]))) Tryd.func84 (by kernel_rfl) (by kernel_rfl) (by kernel_rfl) (by kernel_rfl)
  have h7 := @run_callFunc_extern Tryd.prog 85 _ (ReflectliteValue.methodAny (ReflectliteValue.valueError "reflectlite.Value.Type" 0) (fun t _ _ _ => ReflectliteType.toType t)) Tryd.func85 (by kernel_rfl) (by kernel_rfl) (by kernel_rfl) (by kernel_rfl)
  have h8 := @run_callFunc_extern Tryd.prog 86 _ (ReflectliteValue.method (ReflectliteValue.valueError "reflectlite.Value.IsNil" 0) ReflectliteValue.isNil) Tryd.func86 (by kernel_rfl) (by kernel_rfl) (by kernel_rfl) (by kernel_rfl)
  have h27 := @run_callFunc_extern Tryd.prog 106 _ (ReflectliteType.abiMethod fun t => do pure (.int .u8 (← Rtype.kind t))) Tryd.func106 (by kernel_rfl) (by kernel_rfl) (by kernel_rfl) (by kernel_rfl)
  have h37 := @run_callFunc_extern Tryd.prog 117 _ (ReflectliteType.method ReflectliteType.elem) Tryd.func117 (by kernel_rfl) (by kernel_rfl) (by kernel_rfl) (by kernel_rfl)
  have h38 := @run_callFunc_extern Tryd.prog 118 _ (ReflectliteType.relation "Implements" ReflectliteType.implements_) Tryd.func118 (by kernel_rfl) (by kernel_rfl) (by kernel_rfl) (by kernel_rfl)
  have h10 := @run_callFunc_extern Tryd.prog 89 _ ReflectliteType.typeOf Tryd.func89 (by kernel_rfl) (by kernel_rfl) (by kernel_rfl) (by kernel_rfl)
  have h35 := @run_callFunc_extern Tryd.prog 115 _ (ReflectliteType.relation "AssignableTo" ReflectliteType.assignableTo) Tryd.func115 (by kernel_rfl) (by kernel_rfl) (by kernel_rfl) (by kernel_rfl)
  have h11 := @run_callFunc_extern Tryd.prog 90 _ (ReflectliteValue.method (ReflectliteValue.valueError "reflectlite.Value.Elem" 0) ReflectliteValue.elem) Tryd.func90 (by kernel_rfl) (by kernel_rfl) (by kernel_rfl) (by kernel_rfl)
  have h12 := @run_callFunc_extern Tryd.prog 91 _ ReflectliteValue.set Tryd.func91 (by kernel_rfl) (by kernel_rfl) (by kernel_rfl) (by kernel_rfl)
  have tO := As.typeOf25
  have mA := As.methodAssignableTo
  have a25 := As.assignable25
  have v25 := As.valueOf25
  have f6 := As.valueOf27
  have f7 := As.type27
  have mK := As.methodKind
  have mE := As.methodElem
  have mI := As.methodImplements
  have k27 := As.kind27
  have k25 := As.kind25
  have e27 := As.elem27
  have i25 := As.implements25
  have n8 := As.isNil27 ⟨w.heap.size, 0, none⟩ t ((w.alloc (.cells #[.pointer (some t)] 124)).alloc (.cells #[.pointer (some ⟨1, 124, none⟩), .pointer (some ⟨w.heap.size, 0, none⟩), .int .u64 150] 133)) (by simp)
  have hlt : 0 < w.heap.size := by
    rcases Nat.eq_zero_or_pos w.heap.size with h0 | h
    · simp [World.cell?, h0] at hg
    · exact h
  have hg2 : ((w.alloc (.cells #[.pointer (some t)] 124)).alloc (.cells #[.pointer (some ⟨1, 124, none⟩), .pointer (some ⟨w.heap.size, 0, none⟩), .int .u64 150] 133)).cell? ⟨0, 0, none⟩ = some (.iface 144 (.agg #[.pointer (some ⟨1, 108, none⟩)])) := by
    rw [World.cell?_alloc_lt _ _ ⟨0, 0, none⟩ (by simp), World.cell?_alloc_lt _ _ ⟨0, 0, none⟩ hlt]; exact hg
  have htl : t.block < w.heap.size := by
    rcases Nat.lt_or_ge t.block w.heap.size with h | h
    · exact h
    · simp [World.cell?, Array.getElem?_eq_none h] at ht0
  have el := As.elemV27 ⟨w.heap.size, 0, none⟩ t (((w.alloc (.cells #[.pointer (some t)] 124)).alloc (.cells #[.pointer (some ⟨1, 124, none⟩), .pointer (some ⟨w.heap.size, 0, none⟩), .int .u64 150] 133)).alloc (.cells #[.pointer (some ⟨1, 124, none⟩), .pointer (some ⟨w.heap.size, 0, none⟩), .int .u64 150] 133)) (by rw [World.cell?_alloc_lt _ _ ⟨w.heap.size, 0, none⟩ (by simp; omega)]; simp)
  have st := As.set25 t ⟨w.heap.size + 1 + 1 + 1, 0, none⟩ e old ((((w.alloc (.cells #[.pointer (some t)] 124)).alloc (.cells #[.pointer (some ⟨1, 124, none⟩), .pointer (some ⟨w.heap.size, 0, none⟩), .int .u64 150] 133)).alloc (.cells #[.pointer (some ⟨1, 124, none⟩), .pointer (some ⟨w.heap.size, 0, none⟩), .int .u64 150] 133)).alloc (.cells #[.int .i64 e] 122))
    (by rw [World.cell?_alloc_at _ _ _ _ (by simp)]; rfl)
    (by rw [World.cell?_alloc_lt _ _ t (by simp; omega), World.cell?_alloc_lt _ _ t (by simp; omega), World.cell?_alloc_lt _ _ t (by simp; omega), World.cell?_alloc_lt _ _ t htl]; exact ht0)
    (by rw [World.frozen?_alloc_old _ _ t (by simp; omega), World.frozen?_alloc_old _ _ t (by simp; omega), World.frozen?_alloc_old _ _ t (by simp; omega), World.frozen?_alloc_old _ _ t (Nat.ne_of_lt htl)]; exact hf0)
  go_enter Tryd.func78, Tryd.ntmps78
  go_wp2
  refine wp_loop_rounds 1 ?_
  rw [rounds_succ]
  go_wp2
  go_ret
  exact ⟨rfl, rfl⟩
end Go.Proofs.YtcaocbhbofejnaaDoor
namespace Go.Sh
open Go Go.Sl

theorem goTrack_inv {n : Nat} {fin : List Int → Int} : ∀ (t met : List Int), met.Nodup → goTrack n fin t met = 0 → (∀ c ∈ t, 0 ≤ c ∧ c < n) ∧ (met ++ t).Nodup ∧ fin (met ++ t) = 0 := by
  intro t
  induction t with
  | nil => intro met hn h; exact ⟨fun _ h => by simp at h, by simpa using hn, by simpa [goTrack] using h⟩
  | cons c r ih =>
    intro met hn h
    simp only [goTrack] at h
    split at h
    · rename_i h1
      split at h
      · cases h
      · rename_i h2
        have hn' : (met ++ [c]).Nodup := List.nodup_append.2 ⟨hn, by simp, fun a ha b hb => by simp at hb; subst hb; intro e; subst e; exact h2 ha⟩
        obtain ⟨g1, g2, g3⟩ := ih (met ++ [c]) hn' h
        have := inB_t h1
        rw [List.append_assoc] at g2 g3
        refine ⟨fun x hx => ?_, g2, g3⟩
        rcases List.mem_cons.1 hx with e | hx
        · subst e; omega
        · exact g1 x hx
    · cases h

theorem goTracks_inv {cs : List Car} {fin : List Int → Int} : ∀ (ts : List (List Int)) (rm met : List Int), met.Nodup → goTracks cs fin ts rm met = 0 →
    OkAll cs ts ∧ (met ++ ts.flatten).Nodup ∧ fin (met ++ ts.flatten) = 0 ∧ ∀ k, k < ts.length → lenOf cs (ts.getD k []) ≤ rm.getD k 0 := by
  intro ts
  induction ts with
  | nil => intro rm met hn h; exact ⟨OkAll.nil, by simpa using hn, by simpa [goTracks] using h, fun k hk => by simp at hk⟩
  | cons t r ih =>
    intro rm met hn h
    simp only [goTracks] at h
    obtain ⟨g1, g2, g3⟩ := goTrack_inv t met hn h
    split at g3
    · cases g3
    · rename_i hl
      obtain ⟨k1, k2, k3, k4⟩ := ih rm.tail (met ++ t) g2 g3
      rw [List.append_assoc] at k2 k3
      refine ⟨fun x hx => ?_, by simpa using k2, by simpa using k3, fun k hk => ?_⟩
      · rcases List.mem_cons.1 hx with e | hx
        · subst e; exact g1
        · exact k1 x hx
      · cases k with
        | zero =>
          simp only [List.getD_cons_zero]
          have : rm.headD 0 = rm.getD 0 0 := by cases rm <;> rfl
          omega
        | succ k =>
          have := k4 k (by simpa using hk)
          simp only [List.getD_cons_succ]
          have e : rm.tail.getD k 0 = rm.getD (k + 1) 0 := by cases rm <;> rfl
          omega

structure Fine (Y : Yard) : Prop where
  cars : Y.cars.length ≤ 5
  carOk : ∀ c ∈ Y.cars, carErr c = 0
  room1 : 0 < Y.room.length
  room3 : Y.room.length ≤ 3
  roomOk : ∀ n ∈ Y.room, inB n 0 20 = true
  len : Y.tracks.length = Y.room.length
  ok : OkAll Y.cars Y.tracks
  nodup : Y.tracks.flatten.Nodup
  fits : ∀ k, k < Y.tracks.length → lenOf Y.cars (Y.tracks.getD k []) ≤ Y.room.getD k 0
  all : Y.cars.length ≤ Y.tracks.flatten.length
  groups : groupsErr Y = 0

theorem Valid.fine {Y : Yard} (h : Valid Y) : Fine Y := by
  unfold Valid checkErr at h
  split at h
  · cases h
  rename_i h1
  split at h
  · rename_i h2
    split at h
    · cases h
    rename_i h3
    split at h
    · cases h
    rename_i h4
    split at h
    · rename_i h5
      unfold tracksErr at h
      split at h
      · rename_i h6
        obtain ⟨g1, g2, g3, g4⟩ := goTracks_inv _ _ [] (by simp) h
        simp only [List.nil_append] at g2 g3
        split at g3
        · cases g3
        · rename_i h7
          exact ⟨by omega, fun c hc => of_decide_eq_true (List.all_eq_true.1 h2 c hc), by omega, by omega, fun n hn => List.all_eq_true.1 h5 n hn, h6, g1, g2, g4, by omega, g3⟩
      · cases h
    · cases h
  · cases h

theorem range_bound {l : List Int} {n : Nat} (hn : l.Nodup) (h : ∀ c ∈ l, 0 ≤ c ∧ c < n) : l.length ≤ n := by
  have hs : l ⊆ (List.range n).map (fun k : Nat => (k : Int)) := fun c hc => by
    have := h c hc
    exact List.mem_map.2 ⟨c.toNat, List.mem_range.2 (by omega), by omega⟩
  have := hn.length_le_of_subset hs
  simpa using this
theorem flatten_ok {cs : List Car} {ts : List (List Int)} (h : OkAll cs ts) : Ok cs ts.flatten := fun c hc => by
  obtain ⟨t, ht, hc⟩ := List.mem_flatten.1 hc
  exact h t ht c hc
theorem Fine.sum {Y : Yard} (h : Fine Y) : Y.tracks.flatten.length ≤ 5 := Nat.le_trans (range_bound h.nodup (flatten_ok h.ok)) h.cars
theorem Fine.good {Y : Yard} (h : Fine Y) : GoodY Y := ⟨h.ok, small_of_ok h.carOk, h.len.symm, h.sum⟩
theorem Valid.good {Y : Yard} (h : Valid Y) : GoodY Y := h.fine.good
theorem Valid.lens {Y : Yard} (h : Valid Y) : Y.cars.length ≤ 1000000 ∧ Y.room.length ≤ 1000000 ∧ Y.tracks.length ≤ 1000000 := by
  have := h.fine.cars; have := h.fine.room3; have := h.fine.len; omega

structure MayOk (Y : Yard) (s : Shift) : Prop where
  frm : 0 ≤ s.frm ∧ s.frm < Y.tracks.length
  to : 0 ≤ s.to ∧ s.to < Y.tracks.length
  ne : s.frm ≠ s.to
  many : 1 ≤ s.many ∧ s.many ≤ (Y.tracks.getD s.frm.toNat []).length
  free : coupled Y.cars (trk Y s.frm) (cutAt Y s) = false
  fits : lenOf Y.cars ((trk Y s.frm).drop (cutAt Y s).toNat) + lenOf Y.cars (trk Y s.to) ≤ Y.room.getD s.to.toNat 0
theorem mayOk {Y : Yard} {s : Shift} (h : mayErr Y s = 0) : MayOk Y s := by
  unfold mayErr at h
  split at h
  · rename_i h1
    split at h
    · rename_i h2
      split at h
      · cases h
      rename_i h3
      split at h
      · cases h
      rename_i h4
      split at h
      · cases h
      rename_i h5
      split at h
      · cases h
      rename_i h6
      have := inB_t h1
      have := inB_t h2
      simp only [Bool.or_eq_true, not_or, Bool.not_eq_true, decide_eq_true_eq, Int.not_lt] at h6
      exact ⟨by omega, by omega, h3, ⟨by omega, by have := h5; unfold trk at this; omega⟩, h6.1, h6.2⟩
    · cases h
  · cases h
theorem mayErr_ok {Y : Yard} {s : Shift} (h : mayErr Y s = 0) : (0 ≤ s.frm ∧ s.frm < Y.tracks.length) ∧ (0 ≤ s.to ∧ s.to < Y.tracks.length) ∧ (0 ≤ s.many ∧ s.many ≤ (Y.tracks.getD s.frm.toNat []).length) := by
  have := mayOk h
  exact ⟨this.frm, this.to, by have := this.many; omega⟩

theorem okAll_set {cs : List Car} {ts : List (List Int)} (h : OkAll cs ts) (i : Nat) {x : List Int} (hx : Ok cs x) : OkAll cs (ts.set i x) := fun t ht => by
  rcases List.mem_or_eq_of_mem_set ht with ht | e
  · exact h t ht
  · subst e; exact hx
theorem OkAll.trk {Y : Yard} (h : OkAll Y.cars Y.tracks) {i : Int} (hi : 0 ≤ i ∧ i < Y.tracks.length) : Ok Y.cars (trk Y i) := h.at i.toNat (by omega)
theorem GoodY.moved {Y : Yard} {s : Shift} (h : GoodY Y) (hm : mayErr Y s = 0) : GoodY (moved Y s) := by
  have m := mayOk hm
  refine ⟨?_, h.small, by simp only [Go.Sh.moved, List.length_set]; exact h.len, ?_⟩
  · exact okAll_set (okAll_set h.ok _ ((h.ok.trk m.to).append ((h.ok.trk m.frm).drop _))) _ ((h.ok.trk m.frm).take _)
  · rw [(moved_flatten m.frm m.to m.ne).length_eq]; exact h.sum

theorem play_bad {Y : Yard} {l : List Shift} (h : checkErr Y ≠ 0) : play Y l = (noYard, checkErr Y) := if_neg h
theorem play_good {Y : Yard} {l : List Shift} (h : Valid Y) : play Y l = playFrom Y l := if_pos h
theorem playFrom_next {Y : Yard} {l : List Shift} {k : Nat} (hk : k < l.length) (h : mayErr Y (l.getD k noShift) = 0) : playFrom Y (l.drop k) = playFrom (moved Y (l.getD k noShift)) (l.drop (k + 1)) := by
  rw [drop_cons (d := noShift) hk]; simp only [playFrom]; rw [if_pos h]
theorem playFrom_bad {Y : Yard} {l : List Shift} {k : Nat} (hk : k < l.length) (h : mayErr Y (l.getD k noShift) ≠ 0) : playFrom Y (l.drop k) = (noYard, mayErr Y (l.getD k noShift)) := by
  rw [drop_cons (d := noShift) hk]; simp only [playFrom]; rw [if_neg h]
theorem playFrom_done {Y : Yard} {l : List Shift} {k : Nat} (hk : l.length ≤ k) : playFrom Y (l.drop k) = (Y, 0) := by rw [drop_done hk]; rfl

def sumBy (f : Car → Int) (cs : List Car) (t : List Int) : Int := (t.map fun c => f (carAt cs c)).sum
theorem sumBy_succ {f : Car → Int} {cs : List Car} {t : List Int} {k : Nat} (hk : k < t.length) : sumBy f cs (t.take (k + 1)) = sumBy f cs (t.take k) + f (carAt cs (t.getD k 0)) := by
  rw [take_snoc (d := 0) hk]; simp [sumBy]
theorem sumBy_bound {f : Car → Int} {cs : List Car} (h : ∀ c, 0 ≤ f (carAt cs c) ∧ f (carAt cs c) ≤ 60) (t : List Int) : 0 ≤ sumBy f cs t ∧ sumBy f cs t ≤ 60 * t.length := by
  induction t with
  | nil => simp [sumBy]
  | cons c t ih =>
    have := h c
    simp only [sumBy, List.map_cons, List.sum_cons, List.length_cons] at ih ⊢
    omega
theorem carOk_range {c : Car} (h : carErr c = 0) : (1 ≤ c.len ∧ c.len ≤ 4) ∧ (1 ≤ c.wt ∧ c.wt ≤ 60) ∧ (0 ≤ c.brk ∧ c.brk ≤ c.wt) ∧ (0 ≤ c.grp ∧ c.grp ≤ 3) := by
  rw [carErr] at h
  split at h
  · rename_i hb
    simp only [Bool.and_eq_true] at hb
    exact ⟨inB_t hb.1.1.1, inB_t hb.1.1.2, inB_t hb.1.2, inB_t hb.2⟩
  · cases h
theorem Fine.car {Y : Yard} (h : Fine Y) (c : Int) : (0 ≤ (carAt Y.cars c).brk ∧ (carAt Y.cars c).brk ≤ 60) ∧ (0 ≤ (carAt Y.cars c).wt ∧ (carAt Y.cars c).wt ≤ 60) := by
  unfold carAt
  by_cases hc : c.toNat < Y.cars.length
  · have := carOk_range (h.carOk _ (getD_mem (d := noCar) hc)); omega
  · simp [List.getD, List.getElem?_eq_none (Nat.le_of_not_lt hc), noCar]
def brakeOf (Y : Yard) : Int × Int :=
  if checkErr Y = 0 then
    (if sumBy Car.wt Y.cars (trk Y 0) = 0 then (0, 11) else (100 * sumBy Car.brk Y.cars (trk Y 0) / sumBy Car.wt Y.cars (trk Y 0), 0))
  else (0, checkErr Y)
theorem brake_bad {Y : Yard} (h : checkErr Y ≠ 0) : brakeOf Y = (0, checkErr Y) := if_neg h
theorem brake_none {Y : Yard} (h : Valid Y) (h0 : sumBy Car.wt Y.cars (trk Y 0) = 0) : brakeOf Y = (0, 11) := (if_pos h).trans (if_pos h0)
theorem brake_some {Y : Yard} (h : Valid Y) (h0 : sumBy Car.wt Y.cars (trk Y 0) ≠ 0) : brakeOf Y = (100 * sumBy Car.brk Y.cars (trk Y 0) / sumBy Car.wt Y.cars (trk Y 0), 0) := (if_pos h).trans (if_neg h0)
end Go.Sh
namespace Go.Proofs.YtcaocbhbofejnaaDoor
open Go Go.Sl Go.Sh
set_option maxRecDepth 100000
def errV (e : Int) : Value := if e = 0 then .nilIface else .iface 122 (.agg #[.int .i64 e])
def Glob (I : Imm) : Prop := ∃ cs T fz, I.blk 0 = some (.cells cs T fz) ∧ cs[0]? = some (.iface 144 (.agg #[.pointer (some ⟨1, 108, none⟩)]))
theorem Glob.mono {I J : Imm} (h : Glob I) (le : I.le J) : Glob J := by
 obtain ⟨cs, T, fz, h1, h2⟩ := h
 exact ⟨cs, T, fz, le.blk _ _ h1, h2⟩
theorem As_ct (I : Imm) (e : Int) (p : Nat) (p_s : Int) (hG : Glob I) (h0 : p_s = 0) : Ct Tryd.prog 78 #[errV e, .iface 124 (.pointer (some ⟨p, 0, none⟩))] I [(p, Obj.cells #[.int .i64 p_s] 122 (0, 0))]
  (fun v I' M' => v = .bool (decide (e ≠ 0)) ∧ M' = [(p, Obj.cells #[.int .i64 e] 122 (0, 0))]) := by
 subst h0
 intro F w st
 by_cases he : e = 0
 ·subst he
  refine (as_nil _ w).mono fun ev w' ⟨h1, h2⟩ => ?_
  subst h1 h2
  exact ⟨_, I, _, rfl, Imm.le.refl I, ⟨rfl, rfl⟩, st⟩
 ·have hE : errV e = .iface 122 (.agg #[.int .i64 e]) := if_neg he
  have hin : (p, Obj.cells #[.int .i64 0] 122 (0, 0)) ∈ [(p, Obj.cells #[.int .i64 0] 122 (0, 0))] ++ F := by simp
  have hh := st.mem _ _ hin
  have hg : w.cell? ⟨0, 0, none⟩ = some (.iface 144 (.agg #[.pointer (some ⟨1, 108, none⟩)])) := by
   obtain ⟨cs, T, fz, h1, h2⟩ := hG
   have := st.imm _ _ h1
   simp [World.cell?, this, h2]
  have ht : w.cell? ⟨p, 0, none⟩ = some (.int .i64 0) := by simp [World.cell?, hh]
  have hf : w.frozen? ⟨p, 0, none⟩ = false := by simp [World.frozen?, hh]
  rw [hE]
  refine (as_hit e ⟨p, 0, none⟩ _ w hg ht hf).mono fun ev w' ⟨h1, h2⟩ => ?_
  subst h1
  have st4 := (((st.more (.cells #[.pointer (some ⟨p, 0, none⟩)] 124)).more (.cells #[.pointer (some ⟨1, 124, none⟩), .pointer (some ⟨w.heap.size, 0, none⟩), .int .u64 150] 133)).more (.cells #[.pointer (some ⟨1, 124, none⟩), .pointer (some ⟨w.heap.size, 0, none⟩), .int .u64 150] 133)).more (.cells #[.int .i64 e] 122)
  refine ⟨_, I, _, rfl, Imm.le.refl I, ⟨by simp [he], rfl⟩, ?_⟩
  subst h2
  refine st4.put (i := 0) (r := p) (o := .cells #[.int .i64 e] 122 (0, 0)) (o' := .cells #[.int .i64 0] 122 (0, 0)) rfl rfl rfl rfl ?_ (fun b hb => Go.RowKit.Below.heap_setCell _ _ _ _ hb)
  have h4 := st4.mem _ _ hin
  simp only [World.setCell, Array.getElem?_modify, if_true, h4, Option.map_some]
  simp

noncomputable def c_errnoOf (p : List Nat) : Code := sub (bodyOf Tryd.f62) p
theorem errnoOf_ct (I : Imm) (e : Int) (hG : Glob I) : CtV Tryd.prog 62 #[errV e] I (.int .i64 (e)) := by
 refine fn_of_run (fn := Tryd.f62) (args := [_]) (N := 9) Tryd.func62 rfl (by kernel_rfl) (Nat.le_of_ble_eq_true rfl) (fun F => ?_)
 show Run _ _ (c_errnoOf []) _ _ [(0, errV (e))] _ _
 refine rnm ?_
 refine rqr ?_
 refine sp 1 [(2, .int .i64 (0))] ?_
 refine sn ?_
 refine sS (sal 3 122 #[.int .i64 (0)] (fun b1 => ?_))
 refine se ?_
 refine rq ?_
 refine rqr ?_
 refine sp 2 [(5, .iface 124 (.pointer (some ⟨b1, 0, none⟩))), (4, errV (e))] ?_
 refine sS (sc (some 6) (F := (F)) (As_ct _ (e) (b1) (0) (by first | exact hG | exact hG.mono hI) (by rfl) :) (.refl _) (fun rv8 I3 rm9 hle4 hp5 => ?_))
 obtain ⟨hv6, hm7⟩ := hp5
 rw [hv6, hm7]; clear hv6 hm7
 refine nm ?_
 show Seq _ _ _ _ _ _ ((6, .bool (decide (e ≠ 0))) :: _) _ _
 refine se ?_
 refine rc 6 rfl (fun h1 => ?_) (fun h1 => ?_)
 ·
  have h1_r := h1
  have h1 := dec_t h1
  refine rqr ?_
  refine sp 1 [(7, .pointer (some ⟨b1, 0, none⟩))] ?_
  refine sd (dlb 8 0 0 b1 (.int .i64 (e))) ?_
  refine sp 1 [(2, .int .i64 (e))] ?_
  refine se ?_
  refine rret ?_
  refine (pst_ret_pass ?_)
  refine pst_ret1 (t := 2) [] (by kernel_rfl) rfl (List.Sublist.cons _ (List.Sublist.refl _)) hle4 ?_
  exact ⟨rfl, rfl⟩
 ·
  have h1_r := h1
  have h1 := dec_f h1
  refine rskip ?_
  refine pst_next ?_
  refine rqr ?_
  refine sp 1 [(2, .int .i64 (0))] ?_
  refine se ?_
  refine rret ?_
  refine pst_ret1 (t := 2) [] (by kernel_rfl) rfl (List.Sublist.cons _ (List.Sublist.refl _)) hle4 ?_
  exact ⟨congrArg (Value.int .i64) (by omega), rfl⟩

noncomputable def c_back (p : List Nat) : Code := sub (bodyOf Tryd.f88) p
theorem back_ct (I : Imm) (s : Shift) : Ct Tryd.prog 88 #[.agg #[.int .i64 s.frm, .int .i64 s.to, .int .i64 s.many]] I ([]) (fun v I' M' => v = .agg #[.int .i64 (backShift s).frm, .int .i64 (backShift s).to, .int .i64 (backShift s).many] ∧ M' = []) := by
 refine fn_of_run (fn := Tryd.f88) (args := [_]) (N := 10) Tryd.func88 rfl (by kernel_rfl) (Nat.le_of_ble_eq_true rfl) (fun F => ?_)
 show Run _ _ (c_back []) _ _ [(0, .agg #[.int .i64 (s.frm), .int .i64 (s.to), .int .i64 (s.many)])] _ _
 refine rnm ?_
 refine rqr ?_
 refine sS (sb 1 54 #[.int .i64 (s.frm), .int .i64 (s.to), .int .i64 (s.many)] (fun b1 => ?_))
 refine sS (sal 2 54 #[.int .i64 (0), .int .i64 (0), .int .i64 (0)] (fun b3 => ?_))
 refine sn ?_
 refine sp 1 [(3, .pointer (some ⟨b1, 1, none⟩))] ?_
 refine sd (dlb 4 1 1 b1 (.int .i64 (s.to))) ?_
 refine sp 1 [(5, .pointer (some ⟨b1, 0, none⟩))] ?_
 refine sd (dlb 6 1 0 b1 (.int .i64 (s.frm))) ?_
 refine sp 1 [(7, .pointer (some ⟨b1, 2, none⟩))] ?_
 refine sd (dlb 8 1 2 b1 (.int .i64 (s.many))) ?_
 refine sp 1 [(9, .agg #[.int .i64 (s.to), .int .i64 (s.frm), .int .i64 (s.many)])] ?_
 refine sS (ss 0 0 b3 [.int .i64 (s.to), .int .i64 (s.frm), .int .i64 (s.many)] [.int .i64 (s.to), .int .i64 (s.frm), .int .i64 (s.many)] (_ :: _ :: _) (cs := [_, _, _]) rfl rfl ?_)
 refine se ?_
 refine rret ?_
 refine pst_retC1 (t := 2) (T := 54) (n := 3) [] (by kernel_rfl) rfl (by kernel_rfl) rfl (seesN_mem (n := 3) (cs := #[.int .i64 (s.to), .int .i64 (s.frm), .int .i64 (s.many)]) (b := b3) (off := 0) (T := 54) (fz := (0, 0)) (vs := [.int .i64 (s.to), .int .i64 (s.frm), .int .i64 (s.many)]) (by simp) rfl) (.inl ⟨by kernel_rfl, rfl⟩) (List.Sublist.cons _ (List.Sublist.cons _ (List.Sublist.refl _))) (Imm.le.refl _) ?_
 exact ⟨rfl, rfl⟩

noncomputable def c_copied (p : List Nat) : Code := sub (bodyOf Tryd.f50) p
theorem copied_ct (I : Imm) (y : Value) (Y : Yard) (y_f : IsYard I y Y) (h1 : Y.cars.length ≤ 1000000) (h2 : Y.room.length ≤ 1000000) (h3 : Y.tracks.length ≤ 1000000) (h4 : ∀ x ∈ Y.tracks, x.length ≤ 1000000) : Ct Tryd.prog 50 #[y] I ([]) (fun v I' M' => ∃ u_0 : Value, ∃ Ms_0 : Seg, ∃ u_1 : Value, ∃ Ms_1 : Seg, ∃ u_2 : Value, ∃ ws_2 : List Value, ∃ Ms_2 : Seg, v = .agg #[u_0, u_1, u_2] ∧ M' = Ms_0 ++ (Ms_1 ++ (Ms_2)) ∧ Own 40 6 carCell u_0 ((Y).cars) Ms_0 ∧ Own 3 1 intCell u_1 ((Y).room) Ms_1 ∧ Own 22 1 valCell u_2 ws_2 Ms_2 ∧ RowsV I' ws_2 ((Y).tracks)) := by
 obtain ⟨y1, y2, y3, y_e, y1_f, y2_f, y3_f⟩ := id y_f
 subst y_e
 obtain ⟨y1_a, y1_c, y1_b, y1_o, y1_e, y1_l, y1_m, y1_r⟩ := id y1_f
 subst y1_e
 obtain ⟨y2_a, y2_c, y2_b, y2_o, y2_e, y2_l, y2_m, y2_r⟩ := id y2_f
 subst y2_e
 obtain ⟨y3_a, y3_c, y3_b, y3_o, y3_vs, y3_e, y3_l, y3_m, y3_r, y3_w⟩ := id y3_f
 subst y3_e
 refine fn_of_run (fn := Tryd.f50) (args := [_]) (N := 32) Tryd.func50 rfl (by kernel_rfl) (Nat.le_of_ble_eq_true rfl) (fun F => ?_)
 show Run _ _ (c_copied []) _ _ [(0, .agg #[.slice y1_a Y.cars.length y1_c, .slice y2_a Y.room.length y2_c, .slice y3_a Y.tracks.length y3_c])] _ _
 refine rnm ?_
 refine rqr ?_
 refine sS (sb 1 26 #[.slice y1_a Y.cars.length y1_c, .slice y2_a Y.room.length y2_c, .slice y3_a Y.tracks.length y3_c] (fun b1 => ?_))
 refine sS (sal 2 26 #[.slice none 0 0, .slice none 0 0, .slice none 0 0] (fun b3 => ?_))
 refine se ?_
 refine rq ?_
 refine rd 7 [(0, true), (1, true), (3, true), (4, true), (2, false), (6, true), (5, false)] ((b3, Obj.cells #[.slice none 0 0, .slice none 0 0, .slice none 0 0] 26 (0, 0)) :: (b1, Obj.cells #[.slice y1_a Y.cars.length y1_c, .slice y2_a Y.room.length y2_c, .slice y3_a Y.tracks.length y3_c] 26 (0, 0)) :: []) (F) ?_
 refine ox 1 [(6, .pointer (some ⟨b1, 0, none⟩))] ?_
 refine ofp_det (dlb 7 1 0 b1 (.slice y1_a Y.cars.length y1_c)) ?_
 refine ox 1 [(9, .pointer (some ⟨b1, 1, none⟩))] ?_
 refine ofp_det (dlb 10 1 1 b1 (.slice y2_a Y.room.length y2_c)) ?_
 refine ofp_stp (sc (some 8) (F := ((b3, Obj.cells #[.slice none 0 0, .slice none 0 0, .slice none 0 0] 26 (0, 0)) :: (b1, Obj.cells #[.slice y1_a Y.cars.length y1_c, .slice y2_a Y.room.length y2_c, .slice y3_a Y.tracks.length y3_c] 26 (0, 0)) :: F)) (CloneCars_ct _ _ _ y1_f (by omega) :) (List.Perm.refl _) (fun rv13 I5 rm14 hle6 hp7 => ?_))
 obtain ⟨u10, Ms11, hv8, hm9, qh12⟩ := hp7
 rw [hv8, hm9]; clear hv8 hm9
 replace y2_f := y2_f.mono hle6
 replace y3_r := y3_r.mono hle6
 replace y3_w := fun i hi => (y3_w i hi).mono hle6
 obtain ⟨u10_a, u10_c, u10_e, u10_l⟩ := qh12.shape
 subst u10_e
 refine ofp_settle (S' := ((Ms11 ++ F))) (List.perm_middle.trans (List.Perm.cons _ List.perm_middle)) ?_
 show OFP _ _ _ _ _ _ ((8, .slice u10_a Y.cars.length u10_c) :: _) _ _
 refine ox 1 [(12, .pointer (some ⟨b1, 0, none⟩))] ?_
 refine ofp_stp (sc (some 11) (F := ((b3, Obj.cells #[.slice none 0 0, .slice none 0 0, .slice none 0 0] 26 (0, 0)) :: (b1, Obj.cells #[.slice y1_a Y.cars.length y1_c, .slice y2_a Y.room.length y2_c, .slice y3_a Y.tracks.length y3_c] 26 (0, 0)) :: (Ms11 ++ F))) (CloneInts_ct _ _ _ y2_f (by omega) :) (List.Perm.refl _) (fun rv23 I15 rm24 hle16 hp17 => ?_))
 obtain ⟨u20, Ms21, hv18, hm19, qh22⟩ := hp17
 rw [hv18, hm19]; clear hv18 hm19
 replace y3_r := y3_r.mono hle16
 replace y3_w := fun i hi => (y3_w i hi).mono hle16
 obtain ⟨u20_a, u20_c, u20_e, u20_l⟩ := qh22.shape
 subst u20_e
 refine ofp_settle (S' := ((Ms21 ++ (Ms11 ++ F)))) (List.perm_middle.trans (List.Perm.cons _ List.perm_middle)) ?_
 show OFP _ _ _ _ _ _ ((11, .slice u20_a Y.room.length u20_c) :: _) _ _
 refine ofp_end ?_
 refine nm ?_
 refine nm ?_
 refine sS (ss 1 0 b1 [.slice u10_a Y.cars.length u10_c] [.slice u10_a Y.cars.length u10_c, .slice y2_a Y.room.length y2_c, .slice y3_a Y.tracks.length y3_c] (_ :: _ :: _) (cs := [_, _, _]) rfl rfl ?_)
 refine sp 1 [(13, .pointer (some ⟨b1, 1, none⟩))] ?_
 refine sS (ss 1 1 b1 [.slice u20_a Y.room.length u20_c] [.slice u10_a Y.cars.length u10_c, .slice u20_a Y.room.length u20_c, .slice y3_a Y.tracks.length y3_c] (_ :: _ :: _) (cs := [_, _, _]) rfl rfl ?_)
 refine sn ?_
 refine sp 1 [(14, .pointer (some ⟨b1, 2, none⟩))] ?_
 refine sd (dlb 15 1 2 b1 (.slice y3_a Y.tracks.length y3_c)) ?_
 refine sp 1 [(3, .slice y3_a Y.tracks.length y3_c)] ?_
 refine sn ?_
 refine sp 1 [(16, .pointer (some ⟨b1, 2, none⟩))] ?_
 refine sS (ss 1 2 b1 [.slice none 0 0] [.slice u10_a Y.cars.length u10_c, .slice u20_a Y.room.length u20_c, .slice none 0 0] (_ :: _ :: _) (cs := [_, _, _]) rfl rfl ?_)
 refine se ?_
 refine rq ?_
 refine rqr ?_
 refine sp 3 [(19, .int .i64 (0)), (18, .int .i64 (↑(Y.tracks.length))), (17, .slice y3_a Y.tracks.length y3_c)] ?_
 refine se ?_
 refine rb 0 ?_
 refine rl (fun mz a w => ∃ J0 : Imm, ∃ k : Nat, ∃ ov0_c1_2 : Value, ∃ oM0_c1_2 : Seg, ∃ ow0_c1_2 : List Value, (I15.le J0) ∧ (k ≤ Y.tracks.length) ∧ (RowsV J0 ow0_c1_2 (Y.tracks.take k)) ∧ (Own 22 1 valCell ov0_c1_2 (ow0_c1_2) oM0_c1_2) ∧ Slots 32 [(19, .int .i64 ↑k), (1, .pointer (some ⟨b1, 0, none⟩)), (2, .pointer (some ⟨b3, 0, none⟩)), (17, .slice y3_a Y.tracks.length y3_c), (18, .int .i64 (↑(Y.tracks.length)))] a ∧ a.defers = [] ∧ St J0 ((b3, Obj.cells #[.slice none 0 0, .slice none 0 0, .slice none 0 0] 26 (0, 0)) :: (b1, Obj.cells #[.slice u10_a Y.cars.length u10_c, .slice u20_a Y.room.length u20_c, ov0_c1_2] 26 (0, 0)) :: (Ms21 ++ (Ms11 ++ (oM0_c1_2 ++ F)))) w ∧ mz = Y.tracks.length - k) ?_ ?_
 ·intro a w hS hD hW
  exact ⟨_, I15, 0, (.slice none 0 0), [], [], Imm.le.refl _, Nat.zero_le _, (RowsV.nil _), (Own.nil _ _ _), hS.sub (.cons 19 rfl (.cons 1 rfl (.cons 2 rfl (.cons 17 rfl (.cons 18 rfl (.nil _)))))), hD, hW, rfl⟩
 ·rintro mz a w ⟨J0, k, ov0_c1_2, oM0_c1_2, ow0_c1_2, hJ0, hk, or0_c1_2, oh0_c1_2, hS, hD, hW, rfl⟩
  refine run_at hS hD hW ?_
  clear hS hD hW a w
  replace y3_r := y3_r.mono hJ0
  replace y3_w := fun i hi => (y3_w i hi).mono hJ0
  obtain ⟨ov0_c1_2_a, ov0_c1_2_c, ov0_c1_2_e, ov0_c1_2_l⟩ := oh0_c1_2.shape; subst ov0_c1_2_e
  have or0_c1_2_len := or0_c1_2.1
  try simp only [List.length_set, List.length_append, List.length_cons, List.length_nil, List.length_take] at or0_c1_2_len
  refine rqr ?_
  refine sp 1 [(20, .bool (cmp .lss (↑k) (↑(Y.tracks.length))))] ?_
  refine se ?_
  refine rq ?_
  refine rc 20 rfl (fun h1 => ?_) (fun h1 => ?_)
  ·
   have h1_r := h1
   have h1 := lss_t h1
   refine rskip ?_
   refine pst_next ?_
   refine rq ?_
   refine rb 1 ?_
   refine rqr ?_
   refine sd (di 21 1 (k) y3_r.addr) ?_
   have r25_f := y3_w (k) (by omega)
   obtain ⟨r25_a, r25_c, r25_b, r25_o, r25_e, r25_l, r25_m, r25_r⟩ := id r25_f
   rw [r25_e] at r25_f
   refine sd (det_eq (dl 22 (rows_get y3_r (k) (by omega))) r25_e) ?_
   refine sp 1 [(5, .slice r25_a (Y.tracks.getD (k) []).length r25_c)] ?_
   refine se ?_
   refine rd 5 [(0, true), (1, true), (2, true), (3, false), (4, false)] ((b3, Obj.cells #[.slice none 0 0, .slice none 0 0, .slice none 0 0] 26 (0, 0)) :: (b1, Obj.cells #[.slice u10_a Y.cars.length u10_c, .slice u20_a Y.room.length u20_c, .slice ov0_c1_2_a ow0_c1_2.length ov0_c1_2_c] 26 (0, 0)) :: []) ((Ms21 ++ (Ms11 ++ (oM0_c1_2 ++ F)))) ?_
   refine ox 1 [(23, .pointer (some ⟨b1, 2, none⟩))] ?_
   refine ofp_det (dlb 24 1 2 b1 (.slice ov0_c1_2_a ow0_c1_2.length ov0_c1_2_c)) ?_
   refine ox 1 [(25, .slice r25_a (Y.tracks.getD (k) []).length r25_c)] ?_
   refine ofp_stp (sc (some 26) (F := ((b3, Obj.cells #[.slice none 0 0, .slice none 0 0, .slice none 0 0] 26 (0, 0)) :: (b1, Obj.cells #[.slice u10_a Y.cars.length u10_c, .slice u20_a Y.room.length u20_c, .slice ov0_c1_2_a ow0_c1_2.length ov0_c1_2_c] 26 (0, 0)) :: (Ms21 ++ (Ms11 ++ (oM0_c1_2 ++ F))))) (CloneInts_ct _ _ _ r25_f (by exact h4 _ (getD_mem (by omega))) :) (List.Perm.refl _) (fun rv34 I26 rm35 hle27 hp28 => ?_))
   obtain ⟨u31, Ms32, hv29, hm30, qh33⟩ := hp28
   rw [hv29, hm30]; clear hv29 hm30
   replace or0_c1_2 := or0_c1_2.mono hle27
   obtain ⟨u31_a, u31_c, u31_e, u31_l⟩ := qh33.shape
   subst u31_e
   refine ofp_settle (S' := ((Ms32 ++ (Ms21 ++ (Ms11 ++ (oM0_c1_2 ++ F)))))) (List.perm_middle.trans (List.Perm.cons _ List.perm_middle)) ?_
   show OFP _ _ _ _ _ _ ((26, .slice u31_a ((Y.tracks.getD (k) [])).length u31_c) :: _) _ _
   refine ofp_stp (sbs 27 22 1 #[.slice u31_a ((Y.tracks.getD (k) [])).length u31_c] (fun b36 => ?_))
   refine ofp_settle (S' := ((b36, Obj.cells #[.slice u31_a ((Y.tracks.getD (k) [])).length u31_c] 22 (0, 0)) :: (Ms32 ++ (Ms21 ++ (Ms11 ++ (oM0_c1_2 ++ F)))))) ((List.Perm.swap _ _ _).trans (List.Perm.cons _ (List.Perm.swap _ _ _))) ?_
   refine ofp_end ?_
   refine nm ?_
   refine nm ?_
   refine sfz (A := ((b3, Obj.cells #[.slice none 0 0, .slice none 0 0, .slice none 0 0] 26 (0, 0)) :: (b1, Obj.cells #[.slice u10_a Y.cars.length u10_c, .slice u20_a Y.room.length u20_c, .slice ov0_c1_2_a ow0_c1_2.length ov0_c1_2_c] 26 (0, 0)) :: (b36, Obj.cells #[.slice u31_a ((Y.tracks.getD (k) [])).length u31_c] 22 (0, 0)) :: (Ms21 ++ (Ms11 ++ (oM0_c1_2 ++ F))))) 0 qh33 ((List.Perm.cons _ ((List.Perm.cons _ (List.perm_middle.symm)).trans (List.perm_middle.symm))).trans (List.perm_middle.symm)) (fun I38 hle39 fz40_f => ?_)
   replace or0_c1_2 := or0_c1_2.mono hle39
   obtain ⟨fz40_a, fz40_c, fz40_b, fz40_o, fz40_e, fz40_l, fz40_m, fz40_r⟩ := id fz40_f
   cases fz40_e
   refine sS (stp_append (d := 28) (x := (.tmp 24)) (y := (.tmp 27)) (T := 24) (T' := 24) (E := 22) (E' := 22) (sz := 1) (bs := 24) (z := .slice none 0 0) (cell := valCell) (xs := ow0_c1_2) (ys := [(.slice u31_a ((Y.tracks.getD (k) [])).length u31_c : Value)]) (Ms := oM0_c1_2) (ty := 24) (gd := none) (by kernel_rfl) rfl (by kernel_rfl) (by kernel_rfl) (by kernel_rfl) (by kernel_rfl) (by kernel_rfl) (by decide) (by kernel_rfl) rfl rfl (oh0_c1_2) ((List.Perm.cons _ ((List.Perm.cons _ ((List.Perm.cons _ ((List.Perm.append_left _ (List.perm_append_comm_assoc _ _ _)).trans (List.perm_append_comm_assoc _ _ _))).trans (List.perm_middle.symm))).trans (List.perm_middle.symm))).trans (List.perm_middle.symm)) (one_valCell rfl) (src_atS 2 rfl rfl) (by first | omega | (have hq := or0_c1_2.1; simp only [List.length_cons, List.length_nil, List.length_append, List.length_take, List.length_drop] at hq ⊢; omega)) (fun v41 Ms41 ho41 => ?_))
   refine seq_mem (M' := ((b3, Obj.cells #[.slice none 0 0, .slice none 0 0, .slice none 0 0] 26 (0, 0)) :: (b1, Obj.cells #[.slice u10_a Y.cars.length u10_c, .slice u20_a Y.room.length u20_c, .slice ov0_c1_2_a ow0_c1_2.length ov0_c1_2_c] 26 (0, 0)) :: (Ms41 ++ (Ms21 ++ (Ms11 ++ F))))) (fun w h => (h.perm (((List.Perm.append_left _ ((List.Perm.cons _ (List.Perm.swap _ _ _)).trans (List.Perm.swap _ _ _))).trans List.perm_middle).trans (List.Perm.cons _ (List.perm_middle.trans (List.Perm.cons _ List.perm_middle))))).sub (List.Sublist.cons _ (List.Sublist.refl _))) ?_
   obtain ⟨oa41, oc41, oe41, ol41⟩ := ho41.shape
   subst oe41
   show Seq _ _ _ _ _ _ ((28, .slice oa41 (ow0_c1_2 ++ ([(.slice u31_a ((Y.tracks.getD (k) [])).length u31_c : Value)])).length oc41) :: _) _ _
   have orw42 := (or0_c1_2).snoc fz40_f
   refine sp 1 [(29, .pointer (some ⟨b1, 2, none⟩))] ?_
   refine sS (ss 1 2 b1 [.slice oa41 (ow0_c1_2 ++ ([(.slice u31_a ((Y.tracks.getD (k) [])).length u31_c : Value)])).length oc41] [.slice u10_a Y.cars.length u10_c, .slice u20_a Y.room.length u20_c, .slice oa41 (ow0_c1_2 ++ ([(.slice u31_a ((Y.tracks.getD (k) [])).length u31_c : Value)])).length oc41] (_ :: _ :: _) (cs := [_, _, _]) rfl rfl ?_)
   refine ee ?_
   refine pst_normal_block ?_
   refine pst_next ?_
   refine rr ?_
   refine sd (da 30 (↑k) (1)) ?_
   refine sp 1 [(19, .int .i64 (↑k + 1))] ?_
   refine ee ?_
   refine pst_back (Y.tracks.length - (k+1)) (by omega) ?_
   intro a w hS hD hW
   exact ⟨I38, k+1, .slice oa41 (ow0_c1_2 ++ ([(.slice u31_a ((Y.tracks.getD (k) [])).length u31_c : Value)])).length oc41, Ms41, ow0_c1_2 ++ ([(.slice u31_a ((Y.tracks.getD (k) [])).length u31_c : Value)]), (Imm.le.trans (Imm.le.trans hJ0 hle27) hle39), by omega, ((take_snoc (d := []) (xs := Y.tracks) (k := k) (by omega)).symm ▸ orw42), ho41, hS.sub (.consE 19 rfl rfl (.cons 1 rfl (.cons 2 rfl (.cons 17 rfl (.cons 18 rfl (.nil _)))))), hD, hW.perm (List.Perm.cons _ (List.Perm.cons _ ((List.perm_append_comm_assoc _ _ _).trans (List.Perm.append_left _ (List.perm_append_comm_assoc _ _ _))))), rfl⟩
  ·
   have h1_r := h1
   have h1 := lss_f h1
   refine rexit 0 ?_
   refine (pst_exit_pass (pst_exit_pass (pst_exit_block ?_)))
   refine pst_next ?_
   refine rqr ?_
   refine sd (dnb 31 1 0 b1 [.slice u10_a Y.cars.length u10_c, .slice u20_a Y.room.length u20_c, .slice ov0_c1_2_a ow0_c1_2.length ov0_c1_2_c]) ?_
   refine sS (ss 0 0 b3 [.slice u10_a Y.cars.length u10_c, .slice u20_a Y.room.length u20_c, .slice ov0_c1_2_a ow0_c1_2.length ov0_c1_2_c] [.slice u10_a Y.cars.length u10_c, .slice u20_a Y.room.length u20_c, .slice ov0_c1_2_a ow0_c1_2.length ov0_c1_2_c] (_ :: _ :: _) (cs := [_, _, _]) rfl rfl ?_)
   refine se ?_
   refine rret ?_
   refine ppm (M' := ((Ms11 ++ (Ms21 ++ (oM0_c1_2 ++ (b3, Obj.cells #[.slice u10_a Y.cars.length u10_c, .slice u20_a Y.room.length u20_c, .slice ov0_c1_2_a ow0_c1_2.length ov0_c1_2_c] 26 (0, 0)) :: (b1, Obj.cells #[.slice u10_a Y.cars.length u10_c, .slice u20_a Y.room.length u20_c, .slice ov0_c1_2_a ow0_c1_2.length ov0_c1_2_c] 26 (0, 0)) :: F))))) (((List.Perm.cons _ ((List.Perm.cons _ (List.perm_append_comm_assoc _ _ _)).trans (List.perm_middle.symm))).trans (List.perm_middle.symm)).trans (List.Perm.append_left _ (((List.Perm.cons _ (List.perm_middle.symm)).trans (List.perm_middle.symm)).trans (List.Perm.append_left _ ((List.Perm.cons _ (List.perm_middle.symm)).trans (List.perm_middle.symm)))))) ?_
   refine pst_retC1 (t := 2) (T := 26) (n := 3) (Ms11 ++ (Ms21 ++ (oM0_c1_2))) (by kernel_rfl) rfl (by kernel_rfl) rfl (seesN_mem (n := 3) (cs := #[.slice u10_a Y.cars.length u10_c, .slice u20_a Y.room.length u20_c, .slice ov0_c1_2_a ow0_c1_2.length ov0_c1_2_c]) (b := b3) (off := 0) (T := 26) (fz := (0, 0)) (vs := [.slice u10_a Y.cars.length u10_c, .slice u20_a Y.room.length u20_c, .slice ov0_c1_2_a ow0_c1_2.length ov0_c1_2_c]) (by simp) rfl) (.inl ⟨by kernel_rfl, rfl⟩) (by simp only [List.append_assoc, List.nil_append, List.cons_append]; exact (List.Sublist.append_left (List.Sublist.append_left (List.Sublist.append_left (List.Sublist.cons _ (List.Sublist.cons _ (List.Sublist.refl _))) _) _) _)) (Imm.le.trans (Imm.le.trans hle6 hle16) hJ0) ?_
   exact ⟨_, _, _, _, _, _, _, rfl, rfl, qh12, qh22, oh0_c1_2, ((take_done (xs := Y.tracks) (k := k) (by omega)) ▸ or0_c1_2)⟩

noncomputable def c_may (p : List Nat) : Code := sub (bodyOf Tryd.f63) p
theorem may_ct (I : Imm) (y : Nat) (y_1 y_2 y_3 : Value) (y_ws : List Value) (y_Ms : Seg) (Y : Yard) (s : Shift) (y_1f : IsCars I y_1 Y.cars) (y_2f : IsInts I y_2 Y.room) (y_3h : Own 22 1 valCell y_3 y_ws y_Ms) (y_3r : RowsV I y_ws Y.tracks) (ho : OkAll Y.cars Y.tracks) (hs : Small Y.cars) (hl : Y.room.length = Y.tracks.length) (hq : ∀ t ∈ Y.tracks, t.length ≤ 1000000) : Ct Tryd.prog 63 #[.pointer (some ⟨y, 0, none⟩), .agg #[.int .i64 s.frm, .int .i64 s.to, .int .i64 s.many]] I ([(y, Obj.cells #[y_1, y_2, y_3] 87 (0, 0))] ++ (y_Ms)) (fun v I' M' => v = errV (mayErr Y s) ∧ M' = [(y, Obj.cells #[y_1, y_2, y_3] 87 (0, 0))] ++ (y_Ms)) := by
 have y_1_f := y_1f
 obtain ⟨y_1_a, y_1_c, y_1_b, y_1_o, y_1_e, y_1_l, y_1_m, y_1_r⟩ := id y_1_f
 subst y_1_e
 have y_2_f := y_2f
 obtain ⟨y_2_a, y_2_c, y_2_b, y_2_o, y_2_e, y_2_l, y_2_m, y_2_r⟩ := id y_2_f
 subst y_2_e
 obtain ⟨y_3_a, y_3_c, y_3_e, y_3_l⟩ := y_3h.shape; subst y_3_e
 have y_3r_len := y_3r.1
 try simp only [List.length_set, List.length_append, List.length_cons, List.length_nil, List.length_take] at y_3r_len
 refine fn_of_run (fn := Tryd.f63) (args := [_, _]) (N := 120) Tryd.func63 rfl (by kernel_rfl) (Nat.le_of_ble_eq_true rfl) (fun F => ?_)
 show Run _ _ (c_may []) _ _ [(0, .pointer (some ⟨y, 0, none⟩)), (1, .agg #[.int .i64 (s.frm), .int .i64 (s.to), .int .i64 (s.many)])] _ _
 refine rnm ?_
 refine rqr ?_
 refine sS (sb 3 54 #[.int .i64 (s.frm), .int .i64 (s.to), .int .i64 (s.many)] (fun b1 => ?_))
 refine sp 1 [(4, .nilIface)] ?_
 refine se ?_
 refine rq ?_
 refine rqr ?_
 refine sp 4 [(11, .pointer (some ⟨y, 2, none⟩))] ?_
 refine sd (dlb 12 1 2 y (.slice y_3_a y_ws.length y_3_c)) ?_
 refine sp 2 [(5, .int .i64 (↑(y_ws.length)))] ?_
 refine se ?_
 refine rb 0 ?_
 refine rq ?_
 refine rqr ?_
 refine sp 1 [(15, .pointer (some ⟨b1, 0, none⟩))] ?_
 refine sd (dlb 16 0 0 b1 (.int .i64 (s.frm))) ?_
 refine sp 1 [(17, .int .i64 (↑(y_ws.length)))] ?_
 refine sd (dsb 18 (↑(y_ws.length)) (1)) ?_
 refine sd (dc 19 (fun I' hI => (in_ct I' (s.frm) (0) ((↑(y_ws.length)) - 1) :))) ?_
 refine sp 2 [(14, .bool (!(inB s.frm 0 ((↑(y_ws.length)) - 1))))] ?_
 refine se ?_
 refine rc 14 rfl (fun h1 => ?_) (fun h1 => ?_)
 ·
  have h1_r := h1
  have h1 := not_t h1
  have h1_p := inB_f h1
  refine rskip ?_
  refine pst_next ?_
  refine run_re 14 rfl (congrArg Value.bool h1_r) ?_
  refine rct 14 rfl ?_
  refine rqr ?_
  refine sp 3 [(4, .iface 122 (.agg #[.int .i64 (3)]))] ?_
  refine se ?_
  refine rret ?_
  refine (pst_ret_block (pst_ret_pass ?_))
  refine ppm (M' := ((y, Obj.cells #[.slice y_1_a Y.cars.length y_1_c, .slice y_2_a Y.room.length y_2_c, .slice y_3_a y_ws.length y_3_c] 87 (0, 0)) :: (y_Ms ++ (b1, Obj.cells #[.int .i64 (s.frm), .int .i64 (s.to), .int .i64 (s.many)] 54 (0, 0)) :: F))) ((List.Perm.swap _ _ _).trans (List.Perm.cons _ (List.perm_middle.symm))) ?_
  refine pst_ret1 (t := 4) ([(y, Obj.cells #[.slice y_1_a Y.cars.length y_1_c, .slice y_2_a Y.room.length y_2_c, .slice y_3_a y_ws.length y_3_c] 87 (0, 0))] ++ (y_Ms)) (by kernel_rfl) rfl (by simp only [List.append_assoc, List.nil_append, List.cons_append]; exact (List.Sublist.cons_cons _ (List.Sublist.append_left (List.Sublist.cons _ (List.Sublist.refl _)) _))) (Imm.le.refl _) ?_
  exact ⟨(show errV 3 = _ from congrArg errV (mayErr_1 y_3r_len h1).symm), rfl⟩
 ·
  have h1_r := h1
  have h1 := not_f h1
  have h1_p := inB_t h1
  refine rr ?_
  refine sp 1 [(21, .pointer (some ⟨b1, 1, none⟩))] ?_
  refine sd (dlb 22 0 1 b1 (.int .i64 (s.to))) ?_
  refine sp 1 [(23, .int .i64 (↑(y_ws.length)))] ?_
  refine sd (dsb 24 (↑(y_ws.length)) (1)) ?_
  refine sd (dc 25 (fun I' hI => (in_ct I' (s.to) (0) ((↑(y_ws.length)) - 1) :))) ?_
  refine sp 2 [(14, .bool (!(inB s.to 0 ((↑(y_ws.length)) - 1))))] ?_
  refine se ?_
  refine rc 14 rfl (fun h2 => ?_) (fun h2 => ?_)
  ·
   have h2_r := h2
   have h2 := not_t h2
   have h2_p := inB_f h2
   refine rqr ?_
   refine sp 3 [(4, .iface 122 (.agg #[.int .i64 (3)]))] ?_
   refine se ?_
   refine rret ?_
   refine (pst_ret_block (pst_ret_pass ?_))
   refine ppm (M' := ((y, Obj.cells #[.slice y_1_a Y.cars.length y_1_c, .slice y_2_a Y.room.length y_2_c, .slice y_3_a y_ws.length y_3_c] 87 (0, 0)) :: (y_Ms ++ (b1, Obj.cells #[.int .i64 (s.frm), .int .i64 (s.to), .int .i64 (s.many)] 54 (0, 0)) :: F))) ((List.Perm.swap _ _ _).trans (List.Perm.cons _ (List.perm_middle.symm))) ?_
   refine pst_ret1 (t := 4) ([(y, Obj.cells #[.slice y_1_a Y.cars.length y_1_c, .slice y_2_a Y.room.length y_2_c, .slice y_3_a y_ws.length y_3_c] 87 (0, 0))] ++ (y_Ms)) (by kernel_rfl) rfl (by simp only [List.append_assoc, List.nil_append, List.cons_append]; exact (List.Sublist.cons_cons _ (List.Sublist.append_left (List.Sublist.cons _ (List.Sublist.refl _)) _))) (Imm.le.refl _) ?_
   exact ⟨(show errV 3 = _ from congrArg errV (mayErr_2 y_3r_len h1 h2).symm), rfl⟩
  ·
   have h2_r := h2
   have h2 := not_f h2
   have h2_p := inB_t h2
   refine rqr ?_
   refine sp 1 [(30, .pointer (some ⟨b1, 0, none⟩))] ?_
   refine sd (dlb 31 0 0 b1 (.int .i64 (s.frm))) ?_
   refine sp 1 [(32, .pointer (some ⟨b1, 1, none⟩))] ?_
   refine sd (dlb 33 0 1 b1 (.int .i64 (s.to))) ?_
   refine sp 2 [(29, .bool (cmp .eql (s.frm) (s.to)))] ?_
   refine se ?_
   refine rc 29 rfl (fun h3 => ?_) (fun h3 => ?_)
   ·
    have h3_r := h3
    have h3 := eql_t h3
    refine rqr ?_
    refine sp 3 [(4, .iface 122 (.agg #[.int .i64 (4)]))] ?_
    refine se ?_
    refine rret ?_
    refine (pst_ret_block (pst_ret_pass ?_))
    refine ppm (M' := ((y, Obj.cells #[.slice y_1_a Y.cars.length y_1_c, .slice y_2_a Y.room.length y_2_c, .slice y_3_a y_ws.length y_3_c] 87 (0, 0)) :: (y_Ms ++ (b1, Obj.cells #[.int .i64 (s.frm), .int .i64 (s.to), .int .i64 (s.many)] 54 (0, 0)) :: F))) ((List.Perm.swap _ _ _).trans (List.Perm.cons _ (List.perm_middle.symm))) ?_
    refine pst_ret1 (t := 4) ([(y, Obj.cells #[.slice y_1_a Y.cars.length y_1_c, .slice y_2_a Y.room.length y_2_c, .slice y_3_a y_ws.length y_3_c] 87 (0, 0))] ++ (y_Ms)) (by kernel_rfl) rfl (by simp only [List.append_assoc, List.nil_append, List.cons_append]; exact (List.Sublist.cons_cons _ (List.Sublist.append_left (List.Sublist.cons _ (List.Sublist.refl _)) _))) (Imm.le.refl _) ?_
    exact ⟨(show errV 4 = _ from congrArg errV (mayErr_3 y_3r_len h1 h2 h3).symm), rfl⟩
   ·
    have h3_r := h3
    have h3 := eql_f h3
    refine rqr ?_
    refine sp 1 [(38, .pointer (some ⟨b1, 2, none⟩))] ?_
    refine sd (dlb 39 0 2 b1 (.int .i64 (s.many))) ?_
    refine sp 2 [(37, .bool (cmp .lss (s.many) (1)))] ?_
    refine se ?_
    refine rc 37 rfl (fun h4 => ?_) (fun h4 => ?_)
    ·
     have h4_r := h4
     have h4 := lss_t h4
     refine rqr ?_
     refine sp 3 [(4, .iface 122 (.agg #[.int .i64 (7)]))] ?_
     refine se ?_
     refine rret ?_
     refine (pst_ret_block (pst_ret_pass ?_))
     refine ppm (M' := ((y, Obj.cells #[.slice y_1_a Y.cars.length y_1_c, .slice y_2_a Y.room.length y_2_c, .slice y_3_a y_ws.length y_3_c] 87 (0, 0)) :: (y_Ms ++ (b1, Obj.cells #[.int .i64 (s.frm), .int .i64 (s.to), .int .i64 (s.many)] 54 (0, 0)) :: F))) ((List.Perm.swap _ _ _).trans (List.Perm.cons _ (List.perm_middle.symm))) ?_
     refine pst_ret1 (t := 4) ([(y, Obj.cells #[.slice y_1_a Y.cars.length y_1_c, .slice y_2_a Y.room.length y_2_c, .slice y_3_a y_ws.length y_3_c] 87 (0, 0))] ++ (y_Ms)) (by kernel_rfl) rfl (by simp only [List.append_assoc, List.nil_append, List.cons_append]; exact (List.Sublist.cons_cons _ (List.Sublist.append_left (List.Sublist.cons _ (List.Sublist.refl _)) _))) (Imm.le.refl _) ?_
     exact ⟨(show errV 7 = _ from congrArg errV (mayErr_4 y_3r_len h1 h2 (by omega) (by omega)).symm), rfl⟩
    ·
     have h4_r := h4
     have h4 := lss_f h4
     refine rq ?_
     refine rd0 12 ?_
     refine ox 1 [(44, .pointer (some ⟨b1, 2, none⟩))] ?_
     refine ofp_det (dlb 45 0 2 b1 (.int .i64 (s.many))) ?_
     refine ox 4 [(49, .pointer (some ⟨y, 2, none⟩))] ?_
     refine ofp_det (dlb 50 1 2 y (.slice y_3_a y_ws.length y_3_c)) ?_
     refine ox 1 [(51, .pointer (some ⟨b1, 0, none⟩))] ?_
     refine ofp_det (dlb 52 0 0 b1 (.int .i64 (s.frm))) ?_
     obtain ⟨ob3, orr4⟩ := y_3h.row undef
     refine ofp_det (diI 53 1 (s.frm) orr4.addr) ?_
     have r5_f := y_3r.2 ((s.frm : Int).toNat) (by omega)
     obtain ⟨r5_a, r5_c, r5_b, r5_o, r5_e, r5_l, r5_m, r5_r⟩ := id r5_f
     rw [r5_e] at r5_f
     refine ofp_det (det_eq (dl 54 (orr4.get ((s.frm : Int).toNat) (by omega) 0 (by decide) _ _ (fun x hx => by simp [hx]))) r5_e) ?_
     refine ox 1 [(55, .int .i64 (↑((Y.tracks.getD ((s.frm : Int).toNat) []).length)))] ?_
     refine ofp_end0 ?_
     refine sp 2 [(43, .bool (cmp .gtr (s.many) (↑((Y.tracks.getD ((s.frm : Int).toNat) []).length))))] ?_
     refine se ?_
     refine rc 43 rfl (fun h5 => ?_) (fun h5 => ?_)
     ·
      have h5_r := h5
      have h5 := gtr_t h5
      refine rqr ?_
      refine sp 3 [(4, .iface 122 (.agg #[.int .i64 (6)]))] ?_
      refine se ?_
      refine rret ?_
      refine (pst_ret_block (pst_ret_pass ?_))
      refine ppm (M' := ((y, Obj.cells #[.slice y_1_a Y.cars.length y_1_c, .slice y_2_a Y.room.length y_2_c, .slice y_3_a y_ws.length y_3_c] 87 (0, 0)) :: (y_Ms ++ (b1, Obj.cells #[.int .i64 (s.frm), .int .i64 (s.to), .int .i64 (s.many)] 54 (0, 0)) :: F))) ((List.Perm.swap _ _ _).trans (List.Perm.cons _ (List.perm_middle.symm))) ?_
      refine pst_ret1 (t := 4) ([(y, Obj.cells #[.slice y_1_a Y.cars.length y_1_c, .slice y_2_a Y.room.length y_2_c, .slice y_3_a y_ws.length y_3_c] 87 (0, 0))] ++ (y_Ms)) (by kernel_rfl) rfl (by simp only [List.append_assoc, List.nil_append, List.cons_append]; exact (List.Sublist.cons_cons _ (List.Sublist.append_left (List.Sublist.cons _ (List.Sublist.refl _)) _))) (Imm.le.refl _) ?_
      exact ⟨(show errV 6 = _ from congrArg errV (mayErr_5 y_3r_len h1 h2 (by omega) (by omega) h5).symm), rfl⟩
     ·
      have h5_r := h5
      have h5 := gtr_f h5
      refine rskip ?_
      refine pst_normal_block ?_
      refine pst_next ?_
      refine rq ?_
      refine rd0 7 ?_
      refine ox 4 [(62, .pointer (some ⟨y, 2, none⟩))] ?_
      refine ofp_det (dlb 63 1 2 y (.slice y_3_a y_ws.length y_3_c)) ?_
      refine ox 1 [(64, .pointer (some ⟨b1, 0, none⟩))] ?_
      refine ofp_det (dlb 65 0 0 b1 (.int .i64 (s.frm))) ?_
      refine ofp_end0 ?_
      obtain ⟨ob6, orr7⟩ := y_3h.row undef
      refine sd (diI 66 1 (s.frm) orr7.addr) ?_
      have r8_f := y_3r.2 ((s.frm : Int).toNat) (by omega)
      obtain ⟨r8_a, r8_c, r8_b, r8_o, r8_e, r8_l, r8_m, r8_r⟩ := id r8_f
      rw [r8_e] at r8_f
      refine sd (det_eq (dl 67 (orr7.get ((s.frm : Int).toNat) (by omega) 0 (by decide) _ _ (fun x hx => by simp [hx]))) r8_e) ?_
      refine sp 1 [(6, .slice r8_a (Y.tracks.getD ((s.frm : Int).toNat) []).length r8_c)] ?_
      refine sn ?_
      refine sp 3 [(70, .pointer (some ⟨b1, 2, none⟩)), (69, .int .i64 (↑((Y.tracks.getD ((s.frm : Int).toNat) []).length)))] ?_
      refine sd (dlb 71 0 2 b1 (.int .i64 (s.many))) ?_
      refine sd (dsb 72 (↑((Y.tracks.getD ((s.frm : Int).toNat) []).length)) (s.many)) ?_
      refine sp 1 [(7, .int .i64 ((↑((Y.tracks.getD ((s.frm : Int).toNat) []).length)) - s.many))] ?_
      refine se ?_
      refine rq ?_
      refine rq ?_
      refine run_cut (fun a w => Slots 120 [(4, .nilIface), (117, .bool ((coupled Y.cars (Y.tracks.getD ((s.frm : Int).toNat) []) ((↑((Y.tracks.getD ((s.frm : Int).toNat) []).length)) - s.many)) || (cmp .gtr (((lenOf Y.cars ((Y.tracks.getD ((s.frm : Int).toNat) []).drop (((↑((Y.tracks.getD ((s.frm).toNat) []).length) : Int) - s.many).toNat)))) + ((lenOf Y.cars (Y.tracks.getD ((s.to : Int).toNat) [])))) (Y.room.getD ((s.to : Int).toNat) 0))))] a ∧ a.defers = [] ∧ St I ((b1, Obj.cells #[.int .i64 (s.frm), .int .i64 (s.to), .int .i64 (s.many)] 54 (0, 0)) :: (y, Obj.cells #[.slice y_1_a Y.cars.length y_1_c, .slice y_2_a Y.room.length y_2_c, .slice y_3_a y_ws.length y_3_c] 87 (0, 0)) :: (y_Ms ++ F)) w) ?_ ?_
      ·
       refine rd0 43 ?_
       refine ox 5 [(77, .pointer (some ⟨y, 0, none⟩)), (73, .slice r8_a (Y.tracks.getD ((s.frm : Int).toNat) []).length r8_c)] ?_
       refine ofp_det (dlb 78 1 0 y (.slice y_1_a Y.cars.length y_1_c)) ?_
       refine ox 1 [(79, .int .i64 ((↑((Y.tracks.getD ((s.frm : Int).toNat) []).length)) - s.many))] ?_
       skip
       refine ofp_det (dc 80 (fun I' hI => (coupled_ct I' _ _ _ _ ((↑((Y.tracks.getD ((s.frm : Int).toNat) []).length)) - s.many) (r8_f.mono hI) (y_1_f.mono hI) (by exact ho.at s.frm.toNat (by omega)) :))) ?_
       refine ox 1 [(81, .bool (coupled Y.cars (Y.tracks.getD ((s.frm : Int).toNat) []) ((↑((Y.tracks.getD ((s.frm : Int).toNat) []).length)) - s.many)))] ?_
       refine ofp_split 81 (fun h6 => ?_) (fun h6 => ?_)
       ·
        have h6_b := h6
        refine ox 34 [(115, undef), (106, undef)] ?_
        refine ofp_end0 ?_
        refine sp 2 [(117, .bool (true))] ?_
        refine ee ?_
        refine pst_meet (fun a w hS hD hW => ⟨hS.sub (.cons 4 rfl (.consE 117 rfl (congrArg Value.bool (by simp only [h6, Bool.true_and, Bool.false_and, Bool.and_true, Bool.and_false, Bool.true_or, Bool.false_or, Bool.or_true, Bool.or_false, cond_true, cond_false])) (.nil _))), hD, hW⟩)
       ·
        have h6_b := h6
        refine ox 2 [(83, .int .i64 ((↑((Y.tracks.getD ((s.frm : Int).toNat) []).length)) - s.many)), (82, .slice r8_a (Y.tracks.getD ((s.frm : Int).toNat) []).length r8_c)] ?_
        have s9_f := r8_f.cutLo (((↑((Y.tracks.getD ((s.frm).toNat) []).length) : Int) - s.many).toNat) (by omega)
        obtain ⟨s9_a, s9_c, s9_b, s9_o, s9_e, s9_l, s9_m, s9_r⟩ := id s9_f
        rw [s9_e] at s9_f
        refine ofp_det (det_eq (det_slice (x := (.tmp 82)) (lo := (some (.tmp 83))) (hi := none) (T := 68) (e := 3) (sz := 1) (((↑((Y.tracks.getD ((s.frm).toNat) []).length) : Int) - s.many).toNat) ((Y.tracks.getD ((s.frm : Int).toNat) []).length) (d := 84) (ty := 68) (gd := (some (8, false))) (by kernel_rfl) (by kernel_rfl) (by kernel_rfl) (by kernel_rfl) rfl (.inr ⟨_, .i64, rfl, (look_int rfl (by omega))⟩) (.inl ⟨rfl, rfl⟩) (by omega) (by omega)) s9_e) ?_
        refine ox 4 [(88, .pointer (some ⟨y, 0, none⟩))] ?_
        refine ofp_det (dlb 89 1 0 y (.slice y_1_a Y.cars.length y_1_c)) ?_
        refine ofp_det (dc 90 (fun I' hI => (long_ct I' _ _ _ _ (s9_f.mono hI) (y_1_f.mono hI) (by exact (ho.at s.frm.toNat (by omega)).drop _) (by assumption) :))) ?_
        refine ox 4 [(94, .pointer (some ⟨y, 2, none⟩))] ?_
        refine ofp_det (dlb 95 1 2 y (.slice y_3_a y_ws.length y_3_c)) ?_
        refine ox 1 [(96, .pointer (some ⟨b1, 1, none⟩))] ?_
        refine ofp_det (dlb 97 0 1 b1 (.int .i64 (s.to))) ?_
        obtain ⟨ob10, orr11⟩ := y_3h.row undef
        refine ofp_det (diI 98 1 (s.to) orr11.addr) ?_
        have r12_f := y_3r.2 ((s.to : Int).toNat) (by omega)
        obtain ⟨r12_a, r12_c, r12_b, r12_o, r12_e, r12_l, r12_m, r12_r⟩ := id r12_f
        rw [r12_e] at r12_f
        refine ofp_det (det_eq (dl 99 (orr11.get ((s.to : Int).toNat) (by omega) 0 (by decide) _ _ (fun x hx => by simp [hx]))) r12_e) ?_
        refine ox 4 [(103, .pointer (some ⟨y, 0, none⟩))] ?_
        refine ofp_det (dlb 104 1 0 y (.slice y_1_a Y.cars.length y_1_c)) ?_
        refine ofp_det (dc 105 (fun I' hI => (long_ct I' _ _ _ _ (r12_f.mono hI) (y_1_f.mono hI) (by exact ho.at s.to.toNat (by omega)) (by assumption) :))) ?_
        refine ofp_det (da 106 ((lenOf Y.cars ((Y.tracks.getD ((s.frm : Int).toNat) []).drop (((↑((Y.tracks.getD ((s.frm).toNat) []).length) : Int) - s.many).toNat)))) ((lenOf Y.cars (Y.tracks.getD ((s.to : Int).toNat) []))) (hr := by have q1 := lenOf_bound hs ((Y.tracks.getD s.frm.toNat []).drop ((↑((Y.tracks.getD ((s.frm).toNat) []).length) : Int) - s.many).toNat); have q2 := lenOf_bound hs (Y.tracks.getD s.to.toNat []); have q3 := hq _ (getD_mem (d := []) (xs := Y.tracks) (k := s.frm.toNat) (by omega)); have q4 := hq _ (getD_mem (d := []) (xs := Y.tracks) (k := s.to.toNat) (by omega)); simp only [List.length_drop] at q1; omega)) ?_
        refine ox 4 [(110, .pointer (some ⟨y, 1, none⟩))] ?_
        refine ofp_det (dlb 111 1 1 y (.slice y_2_a Y.room.length y_2_c)) ?_
        refine ox 1 [(112, .pointer (some ⟨b1, 1, none⟩))] ?_
        refine ofp_det (dlb 113 0 1 b1 (.int .i64 (s.to))) ?_
        refine ofp_det (diI 114 1 (s.to) y_2_r.addr) ?_
        refine ofp_det (dl 115 (ints_get y_2_r ((s.to : Int).toNat) (by omega))) ?_
        refine ofp_end0 ?_
        refine sp 2 [(117, .bool (cmp .gtr (((lenOf Y.cars ((Y.tracks.getD ((s.frm : Int).toNat) []).drop (((↑((Y.tracks.getD ((s.frm).toNat) []).length) : Int) - s.many).toNat)))) + ((lenOf Y.cars (Y.tracks.getD ((s.to : Int).toNat) [])))) (Y.room.getD ((s.to : Int).toNat) 0)))] ?_
        refine ee ?_
        refine pst_meet (fun a w hS hD hW => ⟨hS.sub (.cons 4 rfl (.consE 117 rfl (congrArg Value.bool (by simp only [h6, Bool.true_and, Bool.false_and, Bool.and_true, Bool.and_false, Bool.true_or, Bool.false_or, Bool.or_true, Bool.or_false, cond_true, cond_false])) (.nil _))), hD, hW⟩)
      ·rintro a w ⟨hS, hD, hW⟩
       refine run_at hS hD hW ?_
       clear hS hD hW a w
       refine rc 117 rfl (fun h7 => ?_) (fun h7 => ?_)
       ·
        have h7_r := h7
        refine rqr ?_
        refine sp 3 [(4, .iface 122 (.agg #[.int .i64 (9)]))] ?_
        refine se ?_
        refine rret ?_
        refine (pst_ret_pass ?_)
        refine ppm (M' := ((y, Obj.cells #[.slice y_1_a Y.cars.length y_1_c, .slice y_2_a Y.room.length y_2_c, .slice y_3_a y_ws.length y_3_c] 87 (0, 0)) :: (y_Ms ++ (b1, Obj.cells #[.int .i64 (s.frm), .int .i64 (s.to), .int .i64 (s.many)] 54 (0, 0)) :: F))) ((List.Perm.swap _ _ _).trans (List.Perm.cons _ (List.perm_middle.symm))) ?_
        refine pst_ret1 (t := 4) ([(y, Obj.cells #[.slice y_1_a Y.cars.length y_1_c, .slice y_2_a Y.room.length y_2_c, .slice y_3_a y_ws.length y_3_c] 87 (0, 0))] ++ (y_Ms)) (by kernel_rfl) rfl (by simp only [List.append_assoc, List.nil_append, List.cons_append]; exact (List.Sublist.cons_cons _ (List.Sublist.append_left (List.Sublist.cons _ (List.Sublist.refl _)) _))) (Imm.le.refl _) ?_
        exact ⟨(show errV 9 = _ from congrArg errV (mayErr_6 y_3r_len h1 h2 (by omega) (by omega) (Int.not_lt.2 h5) h7_r).symm), rfl⟩
       ·
        have h7_r := h7
        obtain ⟨h7_1, h7_2⟩ := or_f h7
        have h7_2 := gtr_f h7_2
        refine rskip ?_
        refine pst_next ?_
        refine rqr ?_
        refine sp 1 [(4, .nilIface)] ?_
        refine se ?_
        refine rret ?_
        refine ppm (M' := ((y, Obj.cells #[.slice y_1_a Y.cars.length y_1_c, .slice y_2_a Y.room.length y_2_c, .slice y_3_a y_ws.length y_3_c] 87 (0, 0)) :: (y_Ms ++ (b1, Obj.cells #[.int .i64 (s.frm), .int .i64 (s.to), .int .i64 (s.many)] 54 (0, 0)) :: F))) ((List.Perm.swap _ _ _).trans (List.Perm.cons _ (List.perm_middle.symm))) ?_
        refine pst_ret1 (t := 4) ([(y, Obj.cells #[.slice y_1_a Y.cars.length y_1_c, .slice y_2_a Y.room.length y_2_c, .slice y_3_a y_ws.length y_3_c] 87 (0, 0))] ++ (y_Ms)) (by kernel_rfl) rfl (by simp only [List.append_assoc, List.nil_append, List.cons_append]; exact (List.Sublist.cons_cons _ (List.Sublist.append_left (List.Sublist.cons _ (List.Sublist.refl _)) _))) (Imm.le.refl _) ?_
        exact ⟨(show errV 0 = _ from congrArg errV (mayErr_7 y_3r_len h1 h2 (by omega) (by omega) (Int.not_lt.2 h5) h7_r).symm), rfl⟩

noncomputable def c_move (p : List Nat) : Code := sub (bodyOf Tryd.f53) p
theorem move_ct (I : Imm) (y : Nat) (y_1 y_2 y_3 : Value) (y_ws : List Value) (y_Ms : Seg) (Y : Yard) (s : Shift) (y_1f : IsCars I y_1 Y.cars) (y_2f : IsInts I y_2 Y.room) (y_3h : Own 22 1 valCell y_3 y_ws y_Ms) (y_3r : RowsV I y_ws Y.tracks) (hf : 0 ≤ s.frm ∧ s.frm < Y.tracks.length) (ht : 0 ≤ s.to ∧ s.to < Y.tracks.length) (hm : 0 ≤ s.many ∧ s.many ≤ (Y.tracks.getD s.frm.toNat []).length) (hq : ∀ t ∈ Y.tracks, t.length ≤ 1000000) : Ct Tryd.prog 53 #[.pointer (some ⟨y, 0, none⟩), .agg #[.int .i64 s.frm, .int .i64 s.to, .int .i64 s.many]] I ([(y, Obj.cells #[y_1, y_2, y_3] 87 (0, 0))] ++ (y_Ms)) (fun v I' M' => ∃ y_wt : List Value, ∃ y_Mt : Seg, v = .tuple #[] ∧ M' = [(y, Obj.cells #[y_1, y_2, y_3] 87 (0, 0))] ++ (y_Mt) ∧ Own 22 1 valCell y_3 y_wt y_Mt ∧ RowsV I' y_wt (moved Y s).tracks) := by
 have y_1_f := y_1f
 obtain ⟨y_1_a, y_1_c, y_1_b, y_1_o, y_1_e, y_1_l, y_1_m, y_1_r⟩ := id y_1_f
 subst y_1_e
 have y_2_f := y_2f
 obtain ⟨y_2_a, y_2_c, y_2_b, y_2_o, y_2_e, y_2_l, y_2_m, y_2_r⟩ := id y_2_f
 subst y_2_e
 obtain ⟨y_3_a, y_3_c, y_3_e, y_3_l⟩ := y_3h.shape; subst y_3_e
 have y_3r_len := y_3r.1
 try simp only [List.length_set, List.length_append, List.length_cons, List.length_nil, List.length_take] at y_3r_len
 refine fn_of_run (fn := Tryd.f53) (args := [_, _]) (N := 54) Tryd.func53 rfl (by kernel_rfl) (Nat.le_of_ble_eq_true rfl) (fun F => ?_)
 show Run _ _ (c_move []) _ _ [(0, .pointer (some ⟨y, 0, none⟩)), (1, .agg #[.int .i64 (s.frm), .int .i64 (s.to), .int .i64 (s.many)])] _ _
 refine rnm ?_
 refine rqr ?_
 refine sS (sb 3 54 #[.int .i64 (s.frm), .int .i64 (s.to), .int .i64 (s.many)] (fun b1 => ?_))
 refine se ?_
 refine rq ?_
 refine rd0 7 ?_
 refine ox 4 [(9, .pointer (some ⟨y, 2, none⟩))] ?_
 refine ofp_det (dlb 10 1 2 y (.slice y_3_a y_ws.length y_3_c)) ?_
 refine ox 1 [(11, .pointer (some ⟨b1, 0, none⟩))] ?_
 refine ofp_det (dlb 12 0 0 b1 (.int .i64 (s.frm))) ?_
 refine ofp_end0 ?_
 obtain ⟨ob3, orr4⟩ := y_3h.row undef
 refine sd (diI 13 1 (s.frm) orr4.addr) ?_
 have r5_f := y_3r.2 ((s.frm : Int).toNat) (by omega)
 obtain ⟨r5_a, r5_c, r5_b, r5_o, r5_e, r5_l, r5_m, r5_r⟩ := id r5_f
 rw [r5_e] at r5_f
 refine sd (det_eq (dl 14 (orr4.get ((s.frm : Int).toNat) (by omega) 0 (by decide) _ _ (fun x hx => by simp [hx]))) r5_e) ?_
 refine sp 1 [(4, .slice r5_a (Y.tracks.getD ((s.frm : Int).toNat) []).length r5_c)] ?_
 refine sn ?_
 refine sp 3 [(17, .pointer (some ⟨b1, 2, none⟩)), (16, .int .i64 (↑((Y.tracks.getD ((s.frm : Int).toNat) []).length)))] ?_
 refine sd (dlb 18 0 2 b1 (.int .i64 (s.many))) ?_
 refine sd (dsb 19 (↑((Y.tracks.getD ((s.frm : Int).toNat) []).length)) (s.many)) ?_
 refine sp 1 [(5, .int .i64 ((↑((Y.tracks.getD ((s.frm : Int).toNat) []).length)) - s.many))] ?_
 refine se ?_
 refine rq ?_
 refine rd 21 [(0, true), (1, true), (2, true), (3, true), (4, true), (5, true), (6, true), (7, true), (8, true), (9, true), (10, true), (11, true), (12, true), (13, true), (14, true), (15, true), (17, true), (18, true), (19, true), (16, false), (20, false)] ((b1, Obj.cells #[.int .i64 (s.frm), .int .i64 (s.to), .int .i64 (s.many)] 54 (0, 0)) :: (y, Obj.cells #[.slice y_1_a Y.cars.length y_1_c, .slice y_2_a Y.room.length y_2_c, .slice y_3_a y_ws.length y_3_c] 87 (0, 0)) :: y_Ms) (F) ?_
 refine ox 4 [(23, .pointer (some ⟨y, 2, none⟩))] ?_
 refine ofp_det (dlb 24 1 2 y (.slice y_3_a y_ws.length y_3_c)) ?_
 refine ox 1 [(25, .pointer (some ⟨b1, 1, none⟩))] ?_
 refine ofp_det (dlb 26 0 1 b1 (.int .i64 (s.to))) ?_
 refine ox 4 [(30, .pointer (some ⟨y, 2, none⟩))] ?_
 refine ofp_det (dlb 31 1 2 y (.slice y_3_a y_ws.length y_3_c)) ?_
 refine ox 1 [(32, .pointer (some ⟨b1, 1, none⟩))] ?_
 refine ofp_det (dlb 33 0 1 b1 (.int .i64 (s.to))) ?_
 obtain ⟨ob6, orr7⟩ := y_3h.row undef
 refine ofp_det (diI 34 1 (s.to) orr7.addr) ?_
 have r8_f := y_3r.2 ((s.to : Int).toNat) (by omega)
 obtain ⟨r8_a, r8_c, r8_b, r8_o, r8_e, r8_l, r8_m, r8_r⟩ := id r8_f
 rw [r8_e] at r8_f
 refine ofp_det (det_eq (dl 35 (orr7.get ((s.to : Int).toNat) (by omega) 0 (by decide) _ _ (fun x hx => by simp [hx]))) r8_e) ?_
 refine ox 2 [(38, .int .i64 ((↑((Y.tracks.getD ((s.frm : Int).toNat) []).length)) - s.many)), (37, .slice r5_a (Y.tracks.getD ((s.frm : Int).toNat) []).length r5_c)] ?_
 have s9_f := r5_f.cutLo (((↑((Y.tracks.getD ((s.frm).toNat) []).length) : Int) - s.many).toNat) (by omega)
 obtain ⟨s9_a, s9_c, s9_b, s9_o, s9_e, s9_l, s9_m, s9_r⟩ := id s9_f
 rw [s9_e] at s9_f
 refine ofp_det (det_eq (det_slice (x := (.tmp 37)) (lo := (some (.tmp 38))) (hi := none) (T := 22) (e := 3) (sz := 1) (((↑((Y.tracks.getD ((s.frm).toNat) []).length) : Int) - s.many).toNat) ((Y.tracks.getD ((s.frm : Int).toNat) []).length) (d := 39) (ty := 22) (gd := none) (by kernel_rfl) rfl (by kernel_rfl) (by kernel_rfl) rfl (.inr ⟨_, .i64, rfl, (look_int rfl (by omega))⟩) (.inl ⟨rfl, rfl⟩) (by omega) (by omega)) s9_e) ?_
 refine ofp_stp (sc (some 36) (F := ((b1, Obj.cells #[.int .i64 (s.frm), .int .i64 (s.to), .int .i64 (s.many)] 54 (0, 0)) :: (y, Obj.cells #[.slice y_1_a Y.cars.length y_1_c, .slice y_2_a Y.room.length y_2_c, .slice y_3_a y_ws.length y_3_c] 87 (0, 0)) :: (y_Ms ++ F))) (CloneInts_ct _ _ _ r8_f (by have qto := hq _ (getD_mem (d := []) (xs := Y.tracks) (k := s.to.toNat) (by omega)); omega) :) (List.Perm.refl _) (fun rv18 I10 rm19 hle11 hp12 => ?_))
 obtain ⟨u15, Ms16, hv13, hm14, qh17⟩ := hp12
 rw [hv13, hm14]; clear hv13 hm14
 replace y_3r := y_3r.mono hle11
 replace r5_f := r5_f.mono hle11
 replace s9_f := s9_f.mono hle11
 obtain ⟨u15_a, u15_c, u15_e, u15_l⟩ := qh17.shape
 subst u15_e
 refine ofp_settle (S' := ((Ms16 ++ F))) (List.perm_middle.trans (List.Perm.cons _ (List.perm_middle.trans (List.Perm.cons _ (List.perm_append_comm_assoc _ _ _))))) ?_
 show OFP _ _ _ _ _ _ ((36, .slice u15_a ((Y.tracks.getD ((s.to : Int).toNat) [])).length u15_c) :: _) _ _
 refine ofp_stp (stp_append (d := 40) (x := (.tmp 36)) (y := (.tmp 39)) (T := 22) (T' := 22) (E := 3) (E' := 3) (sz := 1) (bs := 8) (z := .int .i64 (0)) (cell := intCell) (xs := (Y.tracks.getD ((s.to : Int).toNat) [])) (ys := (Y.tracks.getD ((s.frm : Int).toNat) []).drop (((↑((Y.tracks.getD ((s.frm).toNat) []).length) : Int) - s.many).toNat)) (Ms := Ms16) (ty := 22) (gd := none) (by kernel_rfl) rfl (by kernel_rfl) (by kernel_rfl) (by kernel_rfl) (by kernel_rfl) (by kernel_rfl) (by decide) (by kernel_rfl) rfl rfl (qh17) ((List.Perm.cons _ ((List.Perm.cons _ (List.perm_append_comm_assoc _ _ _)).trans (List.perm_middle.symm))).trans (List.perm_middle.symm)) (one_intCell _) s9_f.src (by first | omega | (have qto := hq _ (getD_mem (d := []) (xs := Y.tracks) (k := s.to.toNat) (by omega)); have qfrm := hq _ (getD_mem (d := []) (xs := Y.tracks) (k := s.frm.toNat) (by omega)); simp only [List.length_drop]; omega)) (fun v20 Ms20 ho20 => ?_))
 refine ofp_settle (S' := ((Ms20 ++ F))) (List.perm_middle.trans (List.Perm.cons _ (List.perm_middle.trans (List.Perm.cons _ (List.perm_append_comm_assoc _ _ _))))) ?_
 obtain ⟨oa20, oc20, oe20, ol20⟩ := ho20.shape
 subst oe20
 show OFP _ _ _ _ _ _ ((40, .slice oa20 (((Y.tracks.getD ((s.to : Int).toNat) [])) ++ ((Y.tracks.getD ((s.frm : Int).toNat) []).drop (((↑((Y.tracks.getD ((s.frm).toNat) []).length) : Int) - s.many).toNat))).length oc20) :: _) _ _
 refine ofp_end ?_
 refine nm ?_
 refine nm ?_
 obtain ⟨ob21, orr22⟩ := y_3h.row undef
 refine sd (diI 41 1 (s.to) orr22.addr) ?_
 have qto := hq _ (getD_mem (d := []) (xs := Y.tracks) (k := s.to.toNat) (by omega)); have qfrm := hq _ (getD_mem (d := []) (xs := Y.tracks) (k := s.frm.toNat) (by omega)); have q5 : (Y.tracks.getD s.to.toNat [] ++ (Y.tracks.getD s.frm.toNat []).drop ((↑((Y.tracks.getD ((s.frm).toNat) []).length) : Int) - s.many).toNat).length ≤ 2000000 := by (simp only [List.length_append, List.length_drop]; omega)
 refine sfz (A := ((b1, Obj.cells #[.int .i64 (s.frm), .int .i64 (s.to), .int .i64 (s.many)] 54 (0, 0)) :: (y, Obj.cells #[.slice y_1_a Y.cars.length y_1_c, .slice y_2_a Y.room.length y_2_c, .slice y_3_a y_ws.length y_3_c] 87 (0, 0)) :: (y_Ms ++ F))) 0 ho20 ((List.Perm.cons _ ((List.Perm.cons _ (List.perm_append_comm_assoc _ _ _)).trans (List.perm_middle.symm))).trans (List.perm_middle.symm)) (fun I23 hle24 fz25_f => ?_)
 replace y_3r := y_3r.mono hle24
 replace r5_f := r5_f.mono hle24
 obtain ⟨fz25_a, fz25_c, fz25_b, fz25_o, fz25_e, fz25_l, fz25_m, fz25_r⟩ := id fz25_f
 cases fz25_e
 refine sS (stp_storeOwn (T := 22) (x := (.tmp 41)) (y := (.tmp 40)) (rc := fun i f => valCell ((y_ws).getD i undef) f) undef ((s.to : Int).toNat) 0 ((.slice oa20 (((Y.tracks.getD ((s.to : Int).toNat) [])) ++ ((Y.tracks.getD ((s.frm : Int).toNat) []).drop (((↑((Y.tracks.getD ((s.frm).toNat) []).length) : Int) - s.many).toNat))).length oc20 : Value)) (ty := 0) (gd := none) (by kernel_rfl) rfl y_3h orr22 (by omega) (by decide) rfl rfl (by kernel_rfl) rfl rfl (by intro f hf; match f, hf with | 0, _ => rfl) ((List.Perm.cons _ (List.perm_middle.symm)).trans (List.perm_middle.symm)) (fun Ms26 ho26 => ?_))
 refine pm (M' := ((b1, Obj.cells #[.int .i64 (s.frm), .int .i64 (s.to), .int .i64 (s.many)] 54 (0, 0)) :: (y, Obj.cells #[.slice y_1_a Y.cars.length y_1_c, .slice y_2_a Y.room.length y_2_c, .slice y_3_a y_ws.length y_3_c] 87 (0, 0)) :: (Ms26 ++ F))) (List.perm_middle.trans (List.Perm.cons _ List.perm_middle)) ?_
 have orw27 := y_3r.set fz25_f ((s.to : Int).toNat)
 have orw27_len := orw27.1
 try simp only [List.length_set, List.length_append, List.length_cons, List.length_nil, List.length_take] at orw27_len
 refine se ?_
 refine rd 11 [(0, true), (1, true), (2, true), (3, true), (4, true), (5, true), (6, true), (7, true), (8, true), (9, true), (10, false)] ((b1, Obj.cells #[.int .i64 (s.frm), .int .i64 (s.to), .int .i64 (s.many)] 54 (0, 0)) :: (y, Obj.cells #[.slice y_1_a Y.cars.length y_1_c, .slice y_2_a Y.room.length y_2_c, .slice y_3_a y_ws.length y_3_c] 87 (0, 0)) :: Ms26) (F) ?_
 refine ox 4 [(45, .pointer (some ⟨y, 2, none⟩))] ?_
 refine ofp_det (dlb 46 1 2 y (.slice y_3_a y_ws.length y_3_c)) ?_
 refine ox 1 [(47, .pointer (some ⟨b1, 0, none⟩))] ?_
 refine ofp_det (dlb 48 0 0 b1 (.int .i64 (s.frm))) ?_
 refine ox 2 [(50, .int .i64 ((↑((Y.tracks.getD ((s.frm : Int).toNat) []).length)) - s.many)), (49, .slice r5_a (Y.tracks.getD ((s.frm : Int).toNat) []).length r5_c)] ?_
 have s28_f := r5_f.cutHi (((↑((Y.tracks.getD ((s.frm).toNat) []).length) : Int) - s.many).toNat) (by omega)
 obtain ⟨s28_a, s28_c, s28_b, s28_o, s28_e, s28_l, s28_m, s28_r⟩ := id s28_f
 rw [s28_e] at s28_f
 refine ofp_det (det_eq (det_slice (x := (.tmp 49)) (lo := none) (hi := (some (.tmp 50))) (T := 22) (e := 3) (sz := 1) (0) (((↑((Y.tracks.getD ((s.frm).toNat) []).length) : Int) - s.many).toNat) (d := 51) (ty := 22) (gd := none) (by kernel_rfl) rfl (by kernel_rfl) (by kernel_rfl) rfl (.inl ⟨rfl, rfl⟩) (.inr ⟨_, .i64, rfl, (look_int rfl (by omega))⟩) (by omega) (by omega)) s28_e) ?_
 refine ofp_stp (sc (some 52) (F := ((b1, Obj.cells #[.int .i64 (s.frm), .int .i64 (s.to), .int .i64 (s.many)] 54 (0, 0)) :: (y, Obj.cells #[.slice y_1_a Y.cars.length y_1_c, .slice y_2_a Y.room.length y_2_c, .slice y_3_a y_ws.length y_3_c] 87 (0, 0)) :: (Ms26 ++ F))) (CloneInts_ct _ _ _ s28_f (by have qfrm := hq _ (getD_mem (d := []) (xs := Y.tracks) (k := s.frm.toNat) (by omega)); simp only [List.length_take]; omega) :) (List.Perm.refl _) (fun rv37 I29 rm38 hle30 hp31 => ?_))
 obtain ⟨u34, Ms35, hv32, hm33, qh36⟩ := hp31
 rw [hv32, hm33]; clear hv32 hm33
 replace orw27 := orw27.mono hle30
 obtain ⟨u34_a, u34_c, u34_e, u34_l⟩ := qh36.shape
 subst u34_e
 refine ofp_settle (S' := ((Ms35 ++ F))) (List.perm_middle.trans (List.Perm.cons _ (List.perm_middle.trans (List.Perm.cons _ (List.perm_append_comm_assoc _ _ _))))) ?_
 show OFP _ _ _ _ _ _ ((52, .slice u34_a (((Y.tracks.getD ((s.frm : Int).toNat) []).take (((↑((Y.tracks.getD ((s.frm).toNat) []).length) : Int) - s.many).toNat))).length u34_c) :: _) _ _
 refine ofp_end ?_
 refine nm ?_
 refine nm ?_
 obtain ⟨ob39, orr40⟩ := ho26.row undef
 simp only [List.length_set] at orr40
 refine sd (diI 53 1 (s.frm) (fun _ => orr40.addr (by omega)) (n := y_ws.length)) ?_
 have qfrm := hq _ (getD_mem (d := []) (xs := Y.tracks) (k := s.frm.toNat) (by omega)); have q6 : ((Y.tracks.getD s.frm.toNat []).take ((↑((Y.tracks.getD ((s.frm).toNat) []).length) : Int) - s.many).toNat).length ≤ 1000000 := by (simp only [List.length_take]; omega)
 refine sfz (A := ((b1, Obj.cells #[.int .i64 (s.frm), .int .i64 (s.to), .int .i64 (s.many)] 54 (0, 0)) :: (y, Obj.cells #[.slice y_1_a Y.cars.length y_1_c, .slice y_2_a Y.room.length y_2_c, .slice y_3_a y_ws.length y_3_c] 87 (0, 0)) :: (Ms26 ++ F))) 0 qh36 ((List.Perm.cons _ ((List.Perm.cons _ (List.perm_append_comm_assoc _ _ _)).trans (List.perm_middle.symm))).trans (List.perm_middle.symm)) (fun I41 hle42 fz43_f => ?_)
 replace orw27 := orw27.mono hle42
 obtain ⟨fz43_a, fz43_c, fz43_b, fz43_o, fz43_e, fz43_l, fz43_m, fz43_r⟩ := id fz43_f
 cases fz43_e
 refine sS (stp_storeOwn (T := 22) (x := (.tmp 53)) (y := (.tmp 52)) (rc := fun i f => valCell ((y_ws.set ((s.to : Int).toNat) ((.slice oa20 (((Y.tracks.getD ((s.to : Int).toNat) [])) ++ ((Y.tracks.getD ((s.frm : Int).toNat) []).drop (((↑((Y.tracks.getD ((s.frm).toNat) []).length) : Int) - s.many).toNat))).length oc20 : Value))).getD i undef) f) undef ((s.frm : Int).toNat) 0 ((.slice u34_a (((Y.tracks.getD ((s.frm : Int).toNat) []).take (((↑((Y.tracks.getD ((s.frm).toNat) []).length) : Int) - s.many).toNat))).length u34_c : Value)) (ty := 0) (gd := none) (by kernel_rfl) rfl ho26 (by simpa only [List.length_set] using orr40) (by simp only [List.length_set]; omega) (by decide) rfl rfl (by kernel_rfl) rfl rfl (by intro f hf; match f, hf with | 0, _ => rfl) ((List.Perm.cons _ (List.perm_middle.symm)).trans (List.perm_middle.symm)) (fun Ms44 ho44 => ?_))
 refine pm (M' := ((b1, Obj.cells #[.int .i64 (s.frm), .int .i64 (s.to), .int .i64 (s.many)] 54 (0, 0)) :: (y, Obj.cells #[.slice y_1_a Y.cars.length y_1_c, .slice y_2_a Y.room.length y_2_c, .slice y_3_a y_ws.length y_3_c] 87 (0, 0)) :: (Ms44 ++ F))) (List.perm_middle.trans (List.Perm.cons _ List.perm_middle)) ?_
 have orw45 := orw27.set fz43_f ((s.frm : Int).toNat)
 have orw45_len := orw45.1
 try simp only [List.length_set, List.length_append, List.length_cons, List.length_nil, List.length_take] at orw45_len
 refine ee ?_
 refine ppm (M' := ((y, Obj.cells #[.slice y_1_a Y.cars.length y_1_c, .slice y_2_a Y.room.length y_2_c, .slice y_3_a y_ws.length y_3_c] 87 (0, 0)) :: (Ms44 ++ (b1, Obj.cells #[.int .i64 (s.frm), .int .i64 (s.to), .int .i64 (s.many)] 54 (0, 0)) :: F))) ((List.Perm.swap _ _ _).trans (List.Perm.cons _ (List.perm_middle.symm))) ?_
 refine pst_end0 ([(y, Obj.cells #[.slice y_1_a Y.cars.length y_1_c, .slice y_2_a Y.room.length y_2_c, .slice y_3_a y_ws.length y_3_c] 87 (0, 0))] ++ (Ms44)) (by kernel_rfl) (by simp only [List.append_assoc, List.nil_append, List.cons_append]; exact (List.Sublist.cons_cons _ (List.Sublist.append_left (List.Sublist.cons _ (List.Sublist.refl _)) _))) (Imm.le.trans (Imm.le.trans (Imm.le.trans hle11 hle24) hle30) hle42) ?_
 exact ⟨_, _, rfl, rfl, ho44, orw45⟩

noncomputable def c_Play (p : List Nat) : Code := sub (bodyOf Tryd.f29) p
theorem Play_ct (I : Imm) (y : Value) (Y : Yard) (a : Value) (l : List Shift) (y_f : IsYard I y Y) (a_f : IsShifts I a l) (hG : Glob I) : Ct Tryd.prog 29 #[y, a] I ([]) (fun v I' M' => ∃ u0 : Value, v = .tuple #[u0, .int .i64 ((play Y l).2)] ∧ M' = [] ∧ IsYard I' u0 ((play Y l).1)) := by
 obtain ⟨y1, y2, y3, y_e, y1_f, y2_f, y3_f⟩ := id y_f
 subst y_e
 obtain ⟨y1_a, y1_c, y1_b, y1_o, y1_e, y1_l, y1_m, y1_r⟩ := id y1_f
 subst y1_e
 obtain ⟨y2_a, y2_c, y2_b, y2_o, y2_e, y2_l, y2_m, y2_r⟩ := id y2_f
 subst y2_e
 obtain ⟨y3_a, y3_c, y3_b, y3_o, y3_vs, y3_e, y3_l, y3_m, y3_r, y3_w⟩ := id y3_f
 subst y3_e
 obtain ⟨a_a, a_c, a_b, a_o, a_e, a_l, a_m, a_r⟩ := id a_f
 subst a_e
 refine fn_of_run (fn := Tryd.f29) (args := [_, _]) (N := 43) Tryd.func29 rfl (by kernel_rfl) (Nat.le_of_ble_eq_true rfl) (fun F => ?_)
 show Run _ _ (c_Play []) _ _ [(0, .agg #[.slice y1_a Y.cars.length y1_c, .slice y2_a Y.room.length y2_c, .slice y3_a Y.tracks.length y3_c]), (1, .slice a_a l.length a_c)] _ _
 refine rnm ?_
 refine rqr ?_
 refine sS (sb 2 26 #[.slice y1_a Y.cars.length y1_c, .slice y2_a Y.room.length y2_c, .slice y3_a Y.tracks.length y3_c] (fun b1 => ?_))
 refine sS (sal 4 26 #[.slice none 0 0, .slice none 0 0, .slice none 0 0] (fun b3 => ?_))
 refine sp 1 [(5, .int .i64 (0))] ?_
 refine se ?_
 refine rq ?_
 refine rqr ?_
 refine sd (dnb 11 1 0 b1 [.slice y1_a Y.cars.length y1_c, .slice y2_a Y.room.length y2_c, .slice y3_a Y.tracks.length y3_c]) ?_
 refine sd (dc 12 (fun I' hI => (Check_ct I' _ (Y) ((mkYard y1_f y2_f y3_f).mono hI) :))) ?_
 refine sp 1 [(6, .int .i64 ((checkErr Y)))] ?_
 refine sn ?_
 refine sp 2 [(14, .bool (!(cmp .eql ((checkErr Y)) (0))))] ?_
 refine se ?_
 refine rc 14 rfl (fun h1 => ?_) (fun h1 => ?_)
 ·
  have h1_r := h1
  have h1 := not_t h1
  have h1 := eql_f h1
  refine rqr ?_
  refine sp 2 [(16, .int .i64 ((checkErr Y))), (15, .agg #[.slice none 0 0, .slice none 0 0, .slice none 0 0])] ?_
  refine sS (ss 0 0 b3 [.slice none 0 0, .slice none 0 0, .slice none 0 0] [.slice none 0 0, .slice none 0 0, .slice none 0 0] (_ :: _ :: _) (cs := [_, _, _]) rfl rfl ?_)
  refine sp 1 [(5, .int .i64 ((checkErr Y)))] ?_
  refine se ?_
  refine rret ?_
  refine (pst_ret_pass ?_)
  refine pst_retC1t (t := 4) (u := 5) (T := 26) (n := 3) [] (by kernel_rfl) rfl (by kernel_rfl) rfl (seesN_mem (n := 3) (cs := #[.slice none 0 0, .slice none 0 0, .slice none 0 0]) (b := b3) (off := 0) (T := 26) (fz := (0, 0)) (vs := [.slice none 0 0, .slice none 0 0, .slice none 0 0]) (by simp) rfl) (.inl ⟨by kernel_rfl, rfl⟩) rfl (List.Sublist.cons _ (List.Sublist.cons _ (List.Sublist.refl _))) (Imm.le.refl _) ?_
  exact ⟨_, (congrArg (fun n => Value.tuple #[_, .int .i64 n]) (show checkErr Y = _ from (congrArg Prod.snd (play_bad h1)).symm)), rfl, ((show noYard = _ from (congrArg Prod.fst (play_bad h1)).symm) ▸ (mkYard (IsSl.nil _) (IsSl.nil _) (IsRows.nil _)))⟩
 ·
  have h1_r := h1
  have h1 := not_f h1
  have h1 := eql_t h1
  refine rskip ?_
  refine pst_next ?_
  refine rqr ?_
  refine sd (dnb 17 1 0 b1 [.slice y1_a Y.cars.length y1_c, .slice y2_a Y.room.length y2_c, .slice y3_a Y.tracks.length y3_c]) ?_
  have hv : Valid Y := by (show checkErr Y = 0; omega)
  have hg0 : GoodY Y := hv.good
  have hl1 := hv.lens
  refine sS (sc (some 18) (F := ((b3, Obj.cells #[.slice none 0 0, .slice none 0 0, .slice none 0 0] 26 (0, 0)) :: (b1, Obj.cells #[.slice y1_a Y.cars.length y1_c, .slice y2_a Y.room.length y2_c, .slice y3_a Y.tracks.length y3_c] 26 (0, 0)) :: F)) (copied_ct _ _ (Y) (mkYard y1_f y2_f y3_f) (by omega) (by omega) (by omega) (by exact hg0.le) :) (.refl _) (fun rv21 I5 rm22 hle6 hp7 => ?_))
  obtain ⟨u_010, Ms_011, u_112, Ms_113, u_214, ws_215, Ms_216, hv8, hm9, qh17, qh18, qh19, qr20⟩ := hp7
  rw [hv8, hm9]; clear hv8 hm9
  replace a_r := a_r.mono hle6
  replace hG := hG.mono hle6
  obtain ⟨u_010_a, u_010_c, u_010_e, u_010_l⟩ := qh17.shape
  subst u_010_e
  obtain ⟨u_112_a, u_112_c, u_112_e, u_112_l⟩ := qh18.shape
  subst u_112_e
  obtain ⟨u_214_a, u_214_c, u_214_e, u_214_l⟩ := qh19.shape
  subst u_214_e
  have qr20_len := qr20.1
  try simp only [List.length_set, List.length_append, List.length_cons, List.length_nil, List.length_take] at qr20_len
  refine seq_mem (M' := ((Ms_011 ++ (Ms_113 ++ (Ms_216 ++ (b3, Obj.cells #[.slice none 0 0, .slice none 0 0, .slice none 0 0] 26 (0, 0)) :: (b1, Obj.cells #[.slice y1_a Y.cars.length y1_c, .slice y2_a Y.room.length y2_c, .slice y3_a Y.tracks.length y3_c] 26 (0, 0)) :: F))))) (fun w h => by simpa only [List.append_assoc, List.cons_append, List.nil_append] using h) ?_
  refine pm (M' := ((b3, Obj.cells #[.slice none 0 0, .slice none 0 0, .slice none 0 0] 26 (0, 0)) :: (b1, Obj.cells #[.slice y1_a Y.cars.length y1_c, .slice y2_a Y.room.length y2_c, .slice y3_a Y.tracks.length y3_c] 26 (0, 0)) :: (Ms_011 ++ (Ms_113 ++ (Ms_216 ++ F))))) (((List.Perm.append_left _ ((List.Perm.append_left _ List.perm_middle).trans List.perm_middle)).trans List.perm_middle).trans (List.Perm.cons _ ((List.Perm.append_left _ ((List.Perm.append_left _ List.perm_middle).trans List.perm_middle)).trans List.perm_middle))) ?_
  show Seq _ _ _ _ _ _ ((18, .agg #[.slice u_010_a Y.cars.length u_010_c, .slice u_112_a Y.room.length u_112_c, .slice u_214_a ws_215.length u_214_c]) :: _) _ _
  refine sfz (A := ((b3, Obj.cells #[.slice none 0 0, .slice none 0 0, .slice none 0 0] 26 (0, 0)) :: (b1, Obj.cells #[.slice y1_a Y.cars.length y1_c, .slice y2_a Y.room.length y2_c, .slice y3_a Y.tracks.length y3_c] 26 (0, 0)) :: (Ms_113 ++ (Ms_216 ++ F)))) noCar qh17 ((List.Perm.cons _ (List.perm_middle.symm)).trans (List.perm_middle.symm)) (fun I23 hle24 fz25_f => ?_)
  replace a_r := a_r.mono hle24
  replace hG := hG.mono hle24
  replace qr20 := qr20.mono hle24
  obtain ⟨fz25_a, fz25_c, fz25_b, fz25_o, fz25_e, fz25_l, fz25_m, fz25_r⟩ := id fz25_f
  cases fz25_e
  refine sfz (A := ((b3, Obj.cells #[.slice none 0 0, .slice none 0 0, .slice none 0 0] 26 (0, 0)) :: (b1, Obj.cells #[.slice y1_a Y.cars.length y1_c, .slice y2_a Y.room.length y2_c, .slice y3_a Y.tracks.length y3_c] 26 (0, 0)) :: (Ms_216 ++ F))) 0 qh18 ((List.Perm.cons _ (List.perm_middle.symm)).trans (List.perm_middle.symm)) (fun I26 hle27 fz28_f => ?_)
  replace a_r := a_r.mono hle27
  replace hG := hG.mono hle27
  replace qr20 := qr20.mono hle27
  replace fz25_f := fz25_f.mono hle27
  obtain ⟨fz28_a, fz28_c, fz28_b, fz28_o, fz28_e, fz28_l, fz28_m, fz28_r⟩ := id fz28_f
  cases fz28_e
  refine sp 1 [(19, .agg #[.slice u_010_a Y.cars.length u_010_c, .slice u_112_a Y.room.length u_112_c, .slice u_214_a ws_215.length u_214_c])] ?_
  refine sS (sb 20 87 #[.slice u_010_a Y.cars.length u_010_c, .slice u_112_a Y.room.length u_112_c, .slice u_214_a ws_215.length u_214_c] (fun b29 => ?_))
  refine sp 1 [(7, .pointer (some ⟨b29, 0, none⟩))] ?_
  refine se ?_
  refine rq ?_
  refine rqr ?_
  refine sp 3 [(23, .int .i64 (0)), (22, .int .i64 (↑(l.length))), (21, .slice a_a l.length a_c)] ?_
  refine se ?_
  refine rb 0 ?_
  refine rl (fun mz a w => ∃ J0 : Imm, ∃ k : Nat, ∃ ts : List (List Int), ∃ ov0_c7_2 : Value, ∃ oM0_c7_2 : Seg, ∃ ow0_c7_2 : List Value, (I26.le J0) ∧ (k ≤ l.length) ∧ (playFrom Y l = playFrom (⟨Y.cars, Y.room, ts⟩ : Yard) (l.drop k)) ∧ (GoodY (⟨Y.cars, Y.room, ts⟩ : Yard)) ∧ (RowsV J0 ow0_c7_2 (ts)) ∧ (Own 22 1 valCell ov0_c7_2 (ow0_c7_2) oM0_c7_2) ∧ Slots 43 [(23, .int .i64 ↑k), (4, .pointer (some ⟨b3, 0, none⟩)), (7, .pointer (some ⟨b29, 0, none⟩)), (21, .slice a_a l.length a_c), (22, .int .i64 (↑(l.length)))] a ∧ a.defers = [] ∧ St J0 ((b29, Obj.cells #[.slice u_010_a Y.cars.length u_010_c, .slice u_112_a Y.room.length u_112_c, ov0_c7_2] 87 (0, 0)) :: (b3, Obj.cells #[.slice none 0 0, .slice none 0 0, .slice none 0 0] 26 (0, 0)) :: (b1, Obj.cells #[.slice y1_a Y.cars.length y1_c, .slice y2_a Y.room.length y2_c, .slice y3_a Y.tracks.length y3_c] 26 (0, 0)) :: (oM0_c7_2 ++ F)) w ∧ mz = l.length - k) ?_ ?_
  ·intro a w hS hD hW
   exact ⟨_, I26, 0, Y.tracks, .slice u_214_a ws_215.length u_214_c, Ms_216, ws_215, Imm.le.refl _, Nat.zero_le _, rfl, hg0, qr20, qh19, hS.sub (.cons 23 rfl (.cons 4 rfl (.cons 7 rfl (.cons 21 rfl (.cons 22 rfl (.nil _)))))), hD, hW, rfl⟩
  ·rintro mz a w ⟨J0, k, ts, ov0_c7_2, oM0_c7_2, ow0_c7_2, hJ0, hk, hr, hg, or0_c7_2, oh0_c7_2, hS, hD, hW, rfl⟩
   refine run_at hS hD hW ?_
   clear hS hD hW a w
   replace a_r := a_r.mono hJ0
   replace hG := hG.mono hJ0
   replace fz25_f := fz25_f.mono hJ0
   replace fz28_f := fz28_f.mono hJ0
   obtain ⟨ov0_c7_2_a, ov0_c7_2_c, ov0_c7_2_e, ov0_c7_2_l⟩ := oh0_c7_2.shape; subst ov0_c7_2_e
   have or0_c7_2_len := or0_c7_2.1
   try simp only [List.length_set, List.length_append, List.length_cons, List.length_nil, List.length_take] at or0_c7_2_len
   have hgl : Y.room.length = ts.length := hg.len
   refine rqr ?_
   refine sp 1 [(24, .bool (cmp .lss (↑k) (↑(l.length))))] ?_
   refine se ?_
   refine rq ?_
   refine rc 24 rfl (fun h2 => ?_) (fun h2 => ?_)
   ·
    have h2_r := h2
    have h2 := lss_t h2
    refine rskip ?_
    refine pst_next ?_
    refine rq ?_
    refine rb 1 ?_
    refine rqr ?_
    refine sd (di 25 3 (k) a_r.addr) ?_
    refine sd (det_loadN (x := (.tmp 25)) (T := 54) (n := 3) (vs := [.int .i64 ((l.getD (k) noShift).frm), .int .i64 ((l.getD (k) noShift).to), .int .i64 ((l.getD (k) noShift).many)]) (d := 26) (ty := 54) (gd := none) (by kernel_rfl) rfl (by kernel_rfl) (by kernel_rfl) rfl rfl (shifts_getN a_r (k) (by omega))) ?_
    refine sS (sal 9 54 #[.int .i64 (0), .int .i64 (0), .int .i64 (0)] (fun b31 => ?_))
    refine sS (ss 0 0 b31 [.int .i64 ((l.getD (k) noShift).frm), .int .i64 ((l.getD (k) noShift).to), .int .i64 ((l.getD (k) noShift).many)] [.int .i64 ((l.getD (k) noShift).frm), .int .i64 ((l.getD (k) noShift).to), .int .i64 ((l.getD (k) noShift).many)] (_ :: _ :: _ :: _ :: _) (cs := [_, _, _]) rfl rfl ?_)
    refine se ?_
    refine rq ?_
    refine rqr ?_
    refine sp 1 [(27, .pointer (some ⟨b29, 0, none⟩))] ?_
    refine sd (dnb 28 0 0 b31 [.int .i64 ((l.getD (k) noShift).frm), .int .i64 ((l.getD (k) noShift).to), .int .i64 ((l.getD (k) noShift).many)]) ?_
    refine sS (sc (some 29) (F := ((b31, Obj.cells #[.int .i64 ((l.getD (k) noShift).frm), .int .i64 ((l.getD (k) noShift).to), .int .i64 ((l.getD (k) noShift).many)] 54 (0, 0)) :: (b3, Obj.cells #[.slice none 0 0, .slice none 0 0, .slice none 0 0] 26 (0, 0)) :: (b1, Obj.cells #[.slice y1_a Y.cars.length y1_c, .slice y2_a Y.room.length y2_c, .slice y3_a Y.tracks.length y3_c] 26 (0, 0)) :: F)) (may_ct _ (b29) _ _ _ _ _ ((⟨Y.cars, Y.room, ts⟩ : Yard)) (l.getD (k) noShift) fz25_f fz28_f oh0_c7_2 or0_c7_2 (by exact hg.ok) (by exact hg.small) (by exact hg.len) (by exact hg.le) :) ((List.Perm.swap _ _ _).trans (List.Perm.cons _ ((List.Perm.cons _ ((List.Perm.cons _ (List.perm_middle.symm)).trans (List.perm_middle.symm))).trans (List.perm_middle.symm)))) (fun rv38 I33 rm39 hle34 hp35 => ?_))
    obtain ⟨hv36, hm37⟩ := hp35
    rw [hv36, hm37]; clear hv36 hm37
    replace hG := hG.mono hle34
    replace fz25_f := fz25_f.mono hle34
    replace fz28_f := fz28_f.mono hle34
    replace or0_c7_2 := or0_c7_2.mono hle34
    refine seq_mem (M' := ((b29, Obj.cells #[.slice u_010_a Y.cars.length u_010_c, .slice u_112_a Y.room.length u_112_c, .slice ov0_c7_2_a ow0_c7_2.length ov0_c7_2_c] 87 (0, 0)) :: (oM0_c7_2 ++ (b31, Obj.cells #[.int .i64 ((l.getD (k) noShift).frm), .int .i64 ((l.getD (k) noShift).to), .int .i64 ((l.getD (k) noShift).many)] 54 (0, 0)) :: (b3, Obj.cells #[.slice none 0 0, .slice none 0 0, .slice none 0 0] 26 (0, 0)) :: (b1, Obj.cells #[.slice y1_a Y.cars.length y1_c, .slice y2_a Y.room.length y2_c, .slice y3_a Y.tracks.length y3_c] 26 (0, 0)) :: F))) (fun w h => by simpa only [List.append_assoc, List.cons_append, List.nil_append] using h) ?_
    refine pm (M' := ((b29, Obj.cells #[.slice u_010_a Y.cars.length u_010_c, .slice u_112_a Y.room.length u_112_c, .slice ov0_c7_2_a ow0_c7_2.length ov0_c7_2_c] 87 (0, 0)) :: (b31, Obj.cells #[.int .i64 ((l.getD (k) noShift).frm), .int .i64 ((l.getD (k) noShift).to), .int .i64 ((l.getD (k) noShift).many)] 54 (0, 0)) :: (b3, Obj.cells #[.slice none 0 0, .slice none 0 0, .slice none 0 0] 26 (0, 0)) :: (b1, Obj.cells #[.slice y1_a Y.cars.length y1_c, .slice y2_a Y.room.length y2_c, .slice y3_a Y.tracks.length y3_c] 26 (0, 0)) :: (oM0_c7_2 ++ F))) (List.Perm.cons _ (List.perm_middle.trans (List.Perm.cons _ (List.perm_middle.trans (List.Perm.cons _ List.perm_middle))))) ?_
    show Seq _ _ _ _ _ _ ((29, errV ((mayErr ((⟨Y.cars, Y.room, ts⟩ : Yard)) (l.getD (k) noShift)))) :: _) _ _
    refine sd (dc 30 (fun I' hI => (errnoOf_ct I' ((mayErr ((⟨Y.cars, Y.room, ts⟩ : Yard)) (l.getD (k) noShift))) (by first | exact hG | exact hG.mono hI) :))) ?_
    refine sp 1 [(10, .int .i64 ((((mayErr ((⟨Y.cars, Y.room, ts⟩ : Yard)) (l.getD (k) noShift))))))] ?_
    refine sn ?_
    refine sp 2 [(32, .bool (!(cmp .eql ((((mayErr ((⟨Y.cars, Y.room, ts⟩ : Yard)) (l.getD (k) noShift))))) (0))))] ?_
    refine se ?_
    refine rc 32 rfl (fun h3 => ?_) (fun h3 => ?_)
    ·
     have h3_r := h3
     have h3 := not_t h3
     have h3 := eql_f h3
     refine rqr ?_
     refine sp 2 [(34, .int .i64 ((((mayErr ((⟨Y.cars, Y.room, ts⟩ : Yard)) (l.getD (k) noShift)))))), (33, .agg #[.slice none 0 0, .slice none 0 0, .slice none 0 0])] ?_
     refine sS (ss 2 0 b3 [.slice none 0 0, .slice none 0 0, .slice none 0 0] [.slice none 0 0, .slice none 0 0, .slice none 0 0] (_ :: _ :: _ :: _ :: _) (cs := [_, _, _]) rfl rfl ?_)
     refine sp 1 [(5, .int .i64 ((((mayErr ((⟨Y.cars, Y.room, ts⟩ : Yard)) (l.getD (k) noShift))))))] ?_
     refine se ?_
     refine rret ?_
     refine (pst_ret_pass (pst_ret_block (pst_ret_pass (pst_ret_pass (pst_ret_block (pst_ret_pass ?_))))))
     refine pst_retC1t (t := 4) (u := 5) (T := 26) (n := 3) [] (by kernel_rfl) rfl (by kernel_rfl) rfl (seesN_mem (n := 3) (cs := #[.slice none 0 0, .slice none 0 0, .slice none 0 0]) (b := b3) (off := 0) (T := 26) (fz := (0, 0)) (vs := [.slice none 0 0, .slice none 0 0, .slice none 0 0]) (by simp) rfl) (.inl ⟨by kernel_rfl, rfl⟩) rfl (List.Sublist.cons _ (List.Sublist.cons _ (List.Sublist.cons _ (List.Sublist.cons _ (List.Sublist.trans (List.Sublist.refl _) (List.sublist_append_right _ _)))))) (Imm.le.trans (Imm.le.trans (Imm.le.trans (Imm.le.trans hle6 hle24) hle27) hJ0) hle34) ?_
     exact ⟨_, (congrArg (fun n => Value.tuple #[_, .int .i64 n]) (show mayErr _ _ = _ from (congrArg Prod.snd ((play_good hv).trans (hr.trans (playFrom_bad (by omega) h3)))).symm)), rfl, ((show noYard = _ from (congrArg Prod.fst ((play_good hv).trans (hr.trans (playFrom_bad (by omega) h3)))).symm) ▸ (mkYard (IsSl.nil _) (IsSl.nil _) (IsRows.nil _)))⟩
    ·
     have h3_r := h3
     have h3 := not_f h3
     have h3 := eql_t h3
     refine rskip ?_
     refine pst_next ?_
     refine rr ?_
     refine sp 1 [(35, .pointer (some ⟨b29, 0, none⟩))] ?_
     refine sd (dnb 36 1 0 b31 [.int .i64 ((l.getD (k) noShift).frm), .int .i64 ((l.getD (k) noShift).to), .int .i64 ((l.getD (k) noShift).many)]) ?_
     have hmv := mayErr_ok h3
     refine sS (sc (some 37) (F := ((b31, Obj.cells #[.int .i64 ((l.getD (k) noShift).frm), .int .i64 ((l.getD (k) noShift).to), .int .i64 ((l.getD (k) noShift).many)] 54 (0, 0)) :: (b3, Obj.cells #[.slice none 0 0, .slice none 0 0, .slice none 0 0] 26 (0, 0)) :: (b1, Obj.cells #[.slice y1_a Y.cars.length y1_c, .slice y2_a Y.room.length y2_c, .slice y3_a Y.tracks.length y3_c] 26 (0, 0)) :: F)) (move_ct _ (b29) _ _ _ _ _ ((⟨Y.cars, Y.room, ts⟩ : Yard)) (l.getD (k) noShift) fz25_f fz28_f oh0_c7_2 or0_c7_2 (by exact hmv.1) (by exact hmv.2.1) (by exact hmv.2.2) (by exact hg.le) :) (List.Perm.cons _ ((List.Perm.cons _ ((List.Perm.cons _ (List.perm_middle.symm)).trans (List.perm_middle.symm))).trans (List.perm_middle.symm))) (fun rv49 I40 rm50 hle41 hp42 => ?_))
     obtain ⟨y_wt45, y_Mt46, hv43, hm44, qwh47, qwr48⟩ := hp42
     rw [hv43, hm44]; clear hv43 hm44
     replace fz25_f := fz25_f.mono hle41
     replace fz28_f := fz28_f.mono hle41
     replace or0_c7_2 := or0_c7_2.mono hle41
     obtain ⟨wk51_a, wk51_c, wk51_e, wk51_l⟩ := id qwh47.shape
     have qwr48_len := qwr48.1
     try simp only [List.length_set, List.length_append, List.length_cons, List.length_nil, List.length_take] at qwr48_len
     refine seq_mem (M' := ((b29, Obj.cells #[.slice u_010_a Y.cars.length u_010_c, .slice u_112_a Y.room.length u_112_c, .slice ov0_c7_2_a ow0_c7_2.length ov0_c7_2_c] 87 (0, 0)) :: (y_Mt46 ++ (b31, Obj.cells #[.int .i64 ((l.getD (k) noShift).frm), .int .i64 ((l.getD (k) noShift).to), .int .i64 ((l.getD (k) noShift).many)] 54 (0, 0)) :: (b3, Obj.cells #[.slice none 0 0, .slice none 0 0, .slice none 0 0] 26 (0, 0)) :: (b1, Obj.cells #[.slice y1_a Y.cars.length y1_c, .slice y2_a Y.room.length y2_c, .slice y3_a Y.tracks.length y3_c] 26 (0, 0)) :: F))) (fun w h => by simpa only [List.append_assoc, List.cons_append, List.nil_append] using h) ?_
     refine pm (M' := ((b29, Obj.cells #[.slice u_010_a Y.cars.length u_010_c, .slice u_112_a Y.room.length u_112_c, .slice ov0_c7_2_a ow0_c7_2.length ov0_c7_2_c] 87 (0, 0)) :: (b31, Obj.cells #[.int .i64 ((l.getD (k) noShift).frm), .int .i64 ((l.getD (k) noShift).to), .int .i64 ((l.getD (k) noShift).many)] 54 (0, 0)) :: (b3, Obj.cells #[.slice none 0 0, .slice none 0 0, .slice none 0 0] 26 (0, 0)) :: (b1, Obj.cells #[.slice y1_a Y.cars.length y1_c, .slice y2_a Y.room.length y2_c, .slice y3_a Y.tracks.length y3_c] 26 (0, 0)) :: (y_Mt46 ++ F))) (List.Perm.cons _ (List.perm_middle.trans (List.Perm.cons _ (List.perm_middle.trans (List.Perm.cons _ List.perm_middle))))) ?_
     show Seq _ _ _ _ _ _ ((37, .tuple #[]) :: _) _ _
     refine ee ?_
     refine pst_normal_block ?_
     refine pst_next ?_
     refine rr ?_
     refine sd (da 38 (↑k) (1)) ?_
     refine sp 1 [(23, .int .i64 (↑k + 1))] ?_
     refine ee ?_
     refine pst_back (l.length - (k+1)) (by omega) ?_
     intro a w hS hD hW
     exact ⟨I40, k+1, (moved (⟨Y.cars, Y.room, ts⟩ : Yard) (l.getD k noShift)).tracks, .slice ov0_c7_2_a ow0_c7_2.length ov0_c7_2_c, y_Mt46, y_wt45, (Imm.le.trans (Imm.le.trans hJ0 hle34) hle41), by omega, hr.trans (playFrom_next (by omega) h3), hg.moved h3, qwr48, qwh47, hS.sub (.consE 23 rfl rfl (.cons 4 rfl (.cons 7 rfl (.cons 21 rfl (.cons 22 rfl (.nil _)))))), hD, (hW.perm (List.Perm.swap _ _ _)).sub (List.Sublist.cons _ (List.Sublist.refl _)), rfl⟩
   ·
    have h2_r := h2
    have h2 := lss_f h2
    refine rexit 0 ?_
    refine (pst_exit_pass (pst_exit_pass (pst_exit_block ?_)))
    refine pst_next ?_
    refine rqr ?_
    refine sfz (A := ((b29, Obj.cells #[.slice u_010_a Y.cars.length u_010_c, .slice u_112_a Y.room.length u_112_c, .slice ov0_c7_2_a ow0_c7_2.length ov0_c7_2_c] 87 (0, 0)) :: (b3, Obj.cells #[.slice none 0 0, .slice none 0 0, .slice none 0 0] 26 (0, 0)) :: (b1, Obj.cells #[.slice y1_a Y.cars.length y1_c, .slice y2_a Y.room.length y2_c, .slice y3_a Y.tracks.length y3_c] 26 (0, 0)) :: F)) undef oh0_c7_2 ((List.Perm.cons _ ((List.Perm.cons _ (List.perm_middle.symm)).trans (List.perm_middle.symm))).trans (List.perm_middle.symm)) (fun I52 hle53 fz54_f => ?_)
    replace fz25_f := fz25_f.mono hle53
    replace fz28_f := fz28_f.mono hle53
    replace or0_c7_2 := or0_c7_2.mono hle53
    obtain ⟨fz54_a, fz54_c, fz54_b, fz54_o, fz54_e, fz54_l, fz54_m, fz54_r⟩ := id fz54_f
    cases fz54_e
    have fr55_f := or0_c7_2.isRows fz54_f
    have fr55_len := or0_c7_2.1
    obtain ⟨fr55_a, fr55_c, fr55_b, fr55_o, fr55_vs, fr55_e, fr55_l, fr55_m, fr55_r, fr55_w⟩ := id fr55_f
    injection fr55_e with fr55_e1 fr55_e2 fr55_e3; subst fr55_e1; subst fr55_e3
    refine sp 3 [(41, .pointer (some ⟨b29, 0, none⟩))] ?_
    refine sd (dnb 42 0 0 b29 [.slice u_010_a Y.cars.length u_010_c, .slice u_112_a Y.room.length u_112_c, .slice ov0_c7_2_a ow0_c7_2.length ov0_c7_2_c]) ?_
    refine sS (ss 1 0 b3 [.slice u_010_a Y.cars.length u_010_c, .slice u_112_a Y.room.length u_112_c, .slice ov0_c7_2_a ow0_c7_2.length ov0_c7_2_c] [.slice u_010_a Y.cars.length u_010_c, .slice u_112_a Y.room.length u_112_c, .slice ov0_c7_2_a ow0_c7_2.length ov0_c7_2_c] (_ :: _ :: _ :: _) (cs := [_, _, _]) rfl rfl ?_)
    refine sp 1 [(5, .int .i64 (0))] ?_
    refine se ?_
    refine rret ?_
    refine pst_retC1t (t := 4) (u := 5) (T := 26) (n := 3) [] (by kernel_rfl) rfl (by kernel_rfl) rfl (seesN_mem (n := 3) (cs := #[.slice u_010_a Y.cars.length u_010_c, .slice u_112_a Y.room.length u_112_c, .slice ov0_c7_2_a ow0_c7_2.length ov0_c7_2_c]) (b := b3) (off := 0) (T := 26) (fz := (0, 0)) (vs := [.slice u_010_a Y.cars.length u_010_c, .slice u_112_a Y.room.length u_112_c, .slice ov0_c7_2_a ow0_c7_2.length ov0_c7_2_c]) (by simp) rfl) (.inl ⟨by kernel_rfl, rfl⟩) rfl (List.Sublist.cons _ (List.Sublist.cons _ (List.Sublist.cons _ (List.Sublist.refl _)))) (Imm.le.trans (Imm.le.trans (Imm.le.trans (Imm.le.trans hle6 hle24) hle27) hJ0) hle53) ?_
    exact ⟨_, (congrArg (fun n => Value.tuple #[_, .int .i64 n]) (show 0 = _ from (congrArg Prod.snd ((play_good hv).trans (hr.trans (playFrom_done (by omega))))).symm)), rfl, ((show (⟨Y.cars, Y.room, ts⟩ : Yard) = _ from (congrArg Prod.fst ((play_good hv).trans (hr.trans (playFrom_done (by omega))))).symm) ▸ (mkYard fz25_f fz28_f fr55_f))⟩

end Go.Proofs.YtcaocbhbofejnaaDoor
namespace Go.Proofs.YtcaocbhbofejnaaDoor
open Go Go.Sl Go.Sh
set_option maxRecDepth 100000
noncomputable def c_Draw (p : List Nat) : Code := sub (bodyOf Tryd.f21) p
theorem Draw_ct (I : Imm) (y : Value) (Y : Yard) (s : Shift) (y_f : IsYard I y Y) (hG : Glob I) : Ct Tryd.prog 21 #[y, .agg #[.int .i64 s.frm, .int .i64 s.to, .int .i64 s.many]] I ([]) (fun v I' M' => ∃ u0 : Value, v = .tuple #[u0, .int .i64 ((play Y [s]).2)] ∧ M' = [] ∧ IsYard I' u0 ((play Y [s]).1)) := by
 obtain ⟨y1, y2, y3, y_e, y1_f, y2_f, y3_f⟩ := id y_f
 subst y_e
 obtain ⟨y1_a, y1_c, y1_b, y1_o, y1_e, y1_l, y1_m, y1_r⟩ := id y1_f
 subst y1_e
 obtain ⟨y2_a, y2_c, y2_b, y2_o, y2_e, y2_l, y2_m, y2_r⟩ := id y2_f
 subst y2_e
 obtain ⟨y3_a, y3_c, y3_b, y3_o, y3_vs, y3_e, y3_l, y3_m, y3_r, y3_w⟩ := id y3_f
 subst y3_e
 refine fn_of_run (fn := Tryd.f21) (args := [_, _]) (N := 12) Tryd.func21 rfl (by kernel_rfl) (Nat.le_of_ble_eq_true rfl) (fun F => ?_)
 show Run _ _ (c_Draw []) _ _ [(0, .agg #[.slice y1_a Y.cars.length y1_c, .slice y2_a Y.room.length y2_c, .slice y3_a Y.tracks.length y3_c]), (1, .agg #[.int .i64 (s.frm), .int .i64 (s.to), .int .i64 (s.many)])] _ _
 refine rnm ?_
 refine rqr ?_
 refine sS (sb 2 26 #[.slice y1_a Y.cars.length y1_c, .slice y2_a Y.room.length y2_c, .slice y3_a Y.tracks.length y3_c] (fun b1 => ?_))
 refine sS (sb 3 54 #[.int .i64 (s.frm), .int .i64 (s.to), .int .i64 (s.many)] (fun b3 => ?_))
 refine sS (sal 4 26 #[.slice none 0 0, .slice none 0 0, .slice none 0 0] (fun b5 => ?_))
 refine sp 1 [(5, .int .i64 (0))] ?_
 refine sn ?_
 refine sd (dnb 6 2 0 b1 [.slice y1_a Y.cars.length y1_c, .slice y2_a Y.room.length y2_c, .slice y3_a Y.tracks.length y3_c]) ?_
 refine sd (dnb 7 1 0 b3 [.int .i64 (s.frm), .int .i64 (s.to), .int .i64 (s.many)]) ?_
 refine sS (sbs 8 54 1 #[.int .i64 (s.frm), .int .i64 (s.to), .int .i64 (s.many)] (fun b7 => ?_))
 refine pm (M' := ((b5, Obj.cells #[.slice none 0 0, .slice none 0 0, .slice none 0 0] 26 (0, 0)) :: (b3, Obj.cells #[.int .i64 (s.frm), .int .i64 (s.to), .int .i64 (s.many)] 54 (0, 0)) :: (b1, Obj.cells #[.slice y1_a Y.cars.length y1_c, .slice y2_a Y.room.length y2_c, .slice y3_a Y.tracks.length y3_c] 26 (0, 0)) :: ([(b7, Obj.cells #[.int .i64 (s.frm), .int .i64 (s.to), .int .i64 (s.many)] 54 (0, 0))] ++ F))) ((List.Perm.swap _ _ _).trans (List.Perm.cons _ ((List.Perm.swap _ _ _).trans (List.Perm.cons _ (List.Perm.swap _ _ _))))) ?_
 have ho9 : Own 54 3 shiftCell (.slice (some ⟨b7, 0, none⟩) 1 1) ([s] : List Shift) [(b7, Obj.cells #[.int .i64 (s.frm), .int .i64 (s.to), .int .i64 (s.many)] 54 (0, 0))] := Own.lit rfl rfl
 refine sfz (A := ((b5, Obj.cells #[.slice none 0 0, .slice none 0 0, .slice none 0 0] 26 (0, 0)) :: (b3, Obj.cells #[.int .i64 (s.frm), .int .i64 (s.to), .int .i64 (s.many)] 54 (0, 0)) :: (b1, Obj.cells #[.slice y1_a Y.cars.length y1_c, .slice y2_a Y.room.length y2_c, .slice y3_a Y.tracks.length y3_c] 26 (0, 0)) :: F)) noShift ho9 ((List.Perm.cons _ ((List.Perm.cons _ (List.perm_middle.symm)).trans (List.perm_middle.symm))).trans (List.perm_middle.symm)) (fun I10 hle11 fz12_f => ?_)
 replace y1_f := y1_f.mono hle11
 replace y2_f := y2_f.mono hle11
 replace y3_f := y3_f.mono hle11
 replace hG := hG.mono hle11
 obtain ⟨fz12_a, fz12_c, fz12_b, fz12_o, fz12_e, fz12_l, fz12_m, fz12_r⟩ := id fz12_f
 cases fz12_e
 refine sS (sc (some 9) (F := ((b5, Obj.cells #[.slice none 0 0, .slice none 0 0, .slice none 0 0] 26 (0, 0)) :: (b3, Obj.cells #[.int .i64 (s.frm), .int .i64 (s.to), .int .i64 (s.many)] 54 (0, 0)) :: (b1, Obj.cells #[.slice y1_a Y.cars.length y1_c, .slice y2_a Y.room.length y2_c, .slice y3_a Y.tracks.length y3_c] 26 (0, 0)) :: F)) (Play_ct _ _ (Y) _ _ (mkYard y1_f y2_f y3_f) fz12_f (by first | exact hG | exact hG.mono hI) :) (.refl _) (fun rv20 I13 rm21 hle14 hp15 => ?_))
 obtain ⟨u018, hv16, hm17, qf19⟩ := hp15
 rw [hv16, hm17]; clear hv16 hm17
 have u018_f := qf19
 obtain ⟨u0181, u0182, u0183, u018_e, u0181_f, u0182_f, u0183_f⟩ := id u018_f
 subst u018_e
 obtain ⟨u0181_a, u0181_c, u0181_b, u0181_o, u0181_e, u0181_l, u0181_m, u0181_r⟩ := id u0181_f
 subst u0181_e
 obtain ⟨u0182_a, u0182_c, u0182_b, u0182_o, u0182_e, u0182_l, u0182_m, u0182_r⟩ := id u0182_f
 subst u0182_e
 obtain ⟨u0183_a, u0183_c, u0183_b, u0183_o, u0183_vs, u0183_e, u0183_l, u0183_m, u0183_r, u0183_w⟩ := id u0183_f
 subst u0183_e
 refine nm ?_
 show Seq _ _ _ _ _ _ ((9, .tuple #[.agg #[.slice u0181_a (((play Y (([s] : List Shift))).1).cars).length u0181_c, .slice u0182_a (((play Y (([s] : List Shift))).1).room).length u0182_c, .slice u0183_a (((play Y (([s] : List Shift))).1).tracks).length u0183_c], .int .i64 (((play Y (([s] : List Shift))).2))]) :: _) _ _
 refine sp 2 [(11, .int .i64 (((play Y (([s] : List Shift))).2))), (10, .agg #[.slice u0181_a (((play Y (([s] : List Shift))).1).cars).length u0181_c, .slice u0182_a (((play Y (([s] : List Shift))).1).room).length u0182_c, .slice u0183_a (((play Y (([s] : List Shift))).1).tracks).length u0183_c])] ?_
 refine sS (ss 0 0 b5 [.slice u0181_a (((play Y (([s] : List Shift))).1).cars).length u0181_c, .slice u0182_a (((play Y (([s] : List Shift))).1).room).length u0182_c, .slice u0183_a (((play Y (([s] : List Shift))).1).tracks).length u0183_c] [.slice u0181_a (((play Y (([s] : List Shift))).1).cars).length u0181_c, .slice u0182_a (((play Y (([s] : List Shift))).1).room).length u0182_c, .slice u0183_a (((play Y (([s] : List Shift))).1).tracks).length u0183_c] (_ :: _ :: _ :: _) (cs := [_, _, _]) rfl rfl ?_)
 refine sp 1 [(5, .int .i64 (((play Y (([s] : List Shift))).2)))] ?_
 refine se ?_
 refine rret ?_
 refine pst_retC1t (t := 4) (u := 5) (T := 26) (n := 3) [] (by kernel_rfl) rfl (by kernel_rfl) rfl (seesN_mem (n := 3) (cs := #[.slice u0181_a (((play Y (([s] : List Shift))).1).cars).length u0181_c, .slice u0182_a (((play Y (([s] : List Shift))).1).room).length u0182_c, .slice u0183_a (((play Y (([s] : List Shift))).1).tracks).length u0183_c]) (b := b5) (off := 0) (T := 26) (fz := (0, 0)) (vs := [.slice u0181_a (((play Y (([s] : List Shift))).1).cars).length u0181_c, .slice u0182_a (((play Y (([s] : List Shift))).1).room).length u0182_c, .slice u0183_a (((play Y (([s] : List Shift))).1).tracks).length u0183_c]) (by simp) rfl) (.inl ⟨by kernel_rfl, rfl⟩) rfl (List.Sublist.cons _ (List.Sublist.cons _ (List.Sublist.cons _ (List.Sublist.refl _)))) (Imm.le.trans hle11 hle14) ?_
 exact ⟨_, rfl, rfl, (mkYard u0181_f u0182_f u0183_f)⟩

noncomputable def c_Brake (p : List Nat) : Code := sub (bodyOf Tryd.f17) p
theorem Brake_ct (I : Imm) (y : Value) (Y : Yard) (y_f : IsYard I y Y) : Ct Tryd.prog 17 #[y] I ([]) (fun v I' M' => v = .tuple #[.int .i64 ((brakeOf Y).1), .int .i64 ((brakeOf Y).2)] ∧ M' = []) := by
 obtain ⟨y1, y2, y3, y_e, y1_f, y2_f, y3_f⟩ := id y_f
 subst y_e
 obtain ⟨y1_a, y1_c, y1_b, y1_o, y1_e, y1_l, y1_m, y1_r⟩ := id y1_f
 subst y1_e
 obtain ⟨y2_a, y2_c, y2_b, y2_o, y2_e, y2_l, y2_m, y2_r⟩ := id y2_f
 subst y2_e
 obtain ⟨y3_a, y3_c, y3_b, y3_o, y3_vs, y3_e, y3_l, y3_m, y3_r, y3_w⟩ := id y3_f
 subst y3_e
 refine fn_of_run (fn := Tryd.f17) (args := [_]) (N := 46) Tryd.func17 rfl (by kernel_rfl) (Nat.le_of_ble_eq_true rfl) (fun F => ?_)
 show Run _ _ (c_Brake []) _ _ [(0, .agg #[.slice y1_a Y.cars.length y1_c, .slice y2_a Y.room.length y2_c, .slice y3_a Y.tracks.length y3_c])] _ _
 refine rnm ?_
 refine rqr ?_
 refine sS (sb 1 26 #[.slice y1_a Y.cars.length y1_c, .slice y2_a Y.room.length y2_c, .slice y3_a Y.tracks.length y3_c] (fun b1 => ?_))
 refine sp 2 [(3, .int .i64 (0)), (2, .int .i64 (0))] ?_
 refine se ?_
 refine rq ?_
 refine rqr ?_
 refine sd (dnb 9 0 0 b1 [.slice y1_a Y.cars.length y1_c, .slice y2_a Y.room.length y2_c, .slice y3_a Y.tracks.length y3_c]) ?_
 refine sd (dc 10 (fun I' hI => (Check_ct I' _ (Y) ((mkYard y1_f y2_f y3_f).mono hI) :))) ?_
 refine sp 1 [(4, .int .i64 ((checkErr Y)))] ?_
 refine sn ?_
 refine sp 2 [(12, .bool (!(cmp .eql ((checkErr Y)) (0))))] ?_
 refine se ?_
 refine rc 12 rfl (fun h1 => ?_) (fun h1 => ?_)
 ·
  have h1_r := h1
  have h1 := not_t h1
  have h1 := eql_f h1
  refine rqr ?_
  refine sp 3 [(3, .int .i64 ((checkErr Y))), (2, .int .i64 (0))] ?_
  refine se ?_
  refine rret ?_
  refine (pst_ret_pass ?_)
  refine pst_ret2 (t := 2) (u := 3) [] (by kernel_rfl) rfl rfl (List.Sublist.cons _ (List.Sublist.refl _)) (Imm.le.refl _) ?_
  exact ⟨(congrArg (fun p : Int × Int => Value.tuple #[.int .i64 p.1, .int .i64 p.2]) (brake_bad h1).symm), rfl⟩
 ·
  have h1_r := h1
  have h1 := not_f h1
  have h1 := eql_t h1
  refine rskip ?_
  refine pst_next ?_
  refine rqr ?_
  refine sp 2 [(6, .int .i64 (0)), (5, .int .i64 (0))] ?_
  refine se ?_
  refine rq ?_
  refine rqr ?_
  have hvv : Valid Y := by (show checkErr Y = 0; omega)
  have hv := hvv.fine
  have hv1 := hv.room1
  have hv2 := hv.len
  have hv3 := hv.good.le _ (getD_mem (d := []) (xs := Y.tracks) (k := 0) (by omega))
  have hv4 := hv.ok.at 0 (by omega)
  refine sp 1 [(14, .pointer (some ⟨b1, 2, none⟩))] ?_
  refine sd (dlb 15 0 2 b1 (.slice y3_a Y.tracks.length y3_c)) ?_
  refine sd (di 16 1 (0) y3_r.addr) ?_
  have r3_f := y3_w (0) (by omega)
  obtain ⟨r3_a, r3_c, r3_b, r3_o, r3_e, r3_l, r3_m, r3_r⟩ := id r3_f
  rw [r3_e] at r3_f
  refine sd (det_eq (dl 17 (rows_get y3_r (0) (by omega))) r3_e) ?_
  refine sp 2 [(19, .int .i64 (0)), (18, .int .i64 (↑((Y.tracks.getD (0) []).length)))] ?_
  refine se ?_
  refine rb 0 ?_
  refine rl (fun mz a w => ∃ k : Nat, (k ≤ (Y.tracks.getD (0) []).length) ∧ Slots 46 [(5, .int .i64 (sumBy Car.brk Y.cars ((Y.tracks.getD (0) []).take k))), (6, .int .i64 (sumBy Car.wt Y.cars ((Y.tracks.getD (0) []).take k))), (19, .int .i64 ↑k), (1, .pointer (some ⟨b1, 0, none⟩)), (2, .int .i64 (0)), (3, .int .i64 (0)), (17, .slice r3_a (Y.tracks.getD (0) []).length r3_c), (18, .int .i64 (↑((Y.tracks.getD (0) []).length)))] a ∧ a.defers = [] ∧ St I ((b1, Obj.cells #[.slice y1_a Y.cars.length y1_c, .slice y2_a Y.room.length y2_c, .slice y3_a Y.tracks.length y3_c] 26 (0, 0)) :: F) w ∧ mz = (Y.tracks.getD (0) []).length - k) ?_ ?_
  ·intro a w hS hD hW
   exact ⟨_, 0, Nat.zero_le _, hS.sub (.cons 5 rfl (.cons 6 rfl (.cons 19 rfl (.cons 1 rfl (.cons 2 rfl (.cons 3 rfl (.cons 17 rfl (.cons 18 rfl (.nil _))))))))), hD, hW, rfl⟩
  ·rintro mz a w ⟨k, hk, hS, hD, hW, rfl⟩
   refine run_at hS hD hW ?_
   clear hS hD hW a w
   refine rqr ?_
   refine sp 1 [(20, .bool (cmp .lss (↑k) (↑((Y.tracks.getD (0) []).length))))] ?_
   refine se ?_
   refine rq ?_
   refine rc 20 rfl (fun h2 => ?_) (fun h2 => ?_)
   ·
    have h2_r := h2
    have h2 := lss_t h2
    refine rskip ?_
    refine pst_next ?_
    refine rq ?_
    refine rb 1 ?_
    refine rqr ?_
    refine sd (di 21 1 (k) r3_r.addr) ?_
    refine sd (dl 22 (ints_get r3_r (k) (by omega))) ?_
    refine sp 1 [(8, .int .i64 ((Y.tracks.getD (0) []).getD (k) 0))] ?_
    refine se ?_
    refine rd0' 17 [(0, true), (1, true), (2, true), (3, true), (4, true), (5, true), (6, true), (7, true), (8, true), (9, true), (10, true), (11, true), (12, true), (13, true), (14, true), (15, true), (16, false)] ?_
    refine ox 2 [(24, .pointer (some ⟨b1, 0, none⟩)), (23, .int .i64 (sumBy Car.brk Y.cars ((Y.tracks.getD (0) []).take k)))] ?_
    refine ofp_det (dlb 25 0 0 b1 (.slice y1_a Y.cars.length y1_c)) ?_
    refine ox 1 [(26, .int .i64 ((Y.tracks.getD (0) []).getD (k) 0))] ?_
    have hc := hv4.at k (by omega)
    refine ofp_det (diI 27 6 ((Y.tracks.getD (0) []).getD (k) 0) y1_r.addr) ?_
    refine ox 1 [(28, .pointer (some ⟨y1_b, y1_o + (((Y.tracks.getD (0) []).getD (k) 0 : Int).toNat) * 6 + 2, none⟩))] ?_
    refine ofp_det (dl 29 (cars_get y1_r (((Y.tracks.getD (0) []).getD (k) 0 : Int).toNat) (by omega) 2 (by decide) (v := .int .i64 ((Y.cars.getD (((Y.tracks.getD (0) []).getD (k) 0 : Int).toNat) noCar).brk)) rfl)) ?_
    refine ofp_det (da 30 (sumBy Car.brk Y.cars ((Y.tracks.getD (0) []).take k)) ((Y.cars.getD (((Y.tracks.getD (0) []).getD (k) 0 : Int).toNat) noCar).brk) (hr := by have q1 := sumBy_bound (fun c => (hv.car c).1) ((Y.tracks.getD (0) []).take k); have q2 := (hv.car ((Y.tracks.getD (0) []).getD k 0)).1; simp only [carAt, List.length_take] at q1 q2; omega)) ?_
    refine ox 2 [(32, .pointer (some ⟨b1, 0, none⟩)), (31, .int .i64 (sumBy Car.wt Y.cars ((Y.tracks.getD (0) []).take k)))] ?_
    refine ofp_det (dlb 33 0 0 b1 (.slice y1_a Y.cars.length y1_c)) ?_
    refine ox 1 [(34, .int .i64 ((Y.tracks.getD (0) []).getD (k) 0))] ?_
    refine ofp_det (diI 35 6 ((Y.tracks.getD (0) []).getD (k) 0) y1_r.addr) ?_
    refine ox 1 [(36, .pointer (some ⟨y1_b, y1_o + (((Y.tracks.getD (0) []).getD (k) 0 : Int).toNat) * 6 + 1, none⟩))] ?_
    refine ofp_det (dl 37 (cars_get y1_r (((Y.tracks.getD (0) []).getD (k) 0 : Int).toNat) (by omega) 1 (by decide) (v := .int .i64 ((Y.cars.getD (((Y.tracks.getD (0) []).getD (k) 0 : Int).toNat) noCar).wt)) rfl)) ?_
    refine ofp_det (da 38 (sumBy Car.wt Y.cars ((Y.tracks.getD (0) []).take k)) ((Y.cars.getD (((Y.tracks.getD (0) []).getD (k) 0 : Int).toNat) noCar).wt) (hr := by have q1 := sumBy_bound (fun c => (hv.car c).2) ((Y.tracks.getD (0) []).take k); have q2 := (hv.car ((Y.tracks.getD (0) []).getD k 0)).2; simp only [carAt, List.length_take] at q1 q2; omega)) ?_
    refine ofp_stp (stp_of_det (det_pv (d := 5) (v := .int .i64 ((sumBy Car.brk Y.cars ((Y.tracks.getD (0) []).take k)) + ((Y.cars.getD (((Y.tracks.getD (0) []).getD (k) 0 : Int).toNat) noCar).brk))) (by kernel_rfl)) (by kernel_rfl) (ofp_stay ?_))
    refine ofp_end0 ?_
    refine sp 1 [(6, .int .i64 ((sumBy Car.wt Y.cars ((Y.tracks.getD (0) []).take k)) + ((Y.cars.getD (((Y.tracks.getD (0) []).getD (k) 0 : Int).toNat) noCar).wt)))] ?_
    refine ee ?_
    refine pst_normal_block ?_
    refine pst_next ?_
    refine rr ?_
    refine sd (da 39 (↑k) (1)) ?_
    refine sp 1 [(19, .int .i64 (↑k + 1))] ?_
    refine ee ?_
    refine pst_back ((Y.tracks.getD (0) []).length - (k+1)) (by omega) ?_
    intro a w hS hD hW
    exact ⟨k+1, by omega, hS.sub (.consE 5 rfl (congrArg (Value.int .i64) (sumBy_succ (f := Car.brk) (by omega)).symm) (.consE 6 rfl (congrArg (Value.int .i64) (sumBy_succ (f := Car.wt) (by omega)).symm) (.consE 19 rfl rfl (.cons 1 rfl (.cons 2 rfl (.cons 3 rfl (.cons 17 rfl (.cons 18 rfl (.nil _))))))))), hD, hW, rfl⟩
   ·
    have h2_r := h2
    have h2 := lss_f h2
    refine rexit 0 ?_
    refine (pst_exit_pass (pst_exit_pass (pst_exit_block ?_)))
    refine pst_next ?_
    refine rq ?_
    refine rqr ?_
    have hkk := take_done (xs := Y.tracks.getD (0) []) (k := k) (by omega)
    rw [hkk]
    have hb := sumBy_bound (fun c => (hv.car c).1) (Y.tracks.getD (0) []); have hw := sumBy_bound (fun c => (hv.car c).2) (Y.tracks.getD (0) [])
    refine sp 2 [(41, .bool (cmp .eql (sumBy Car.wt Y.cars (Y.tracks.getD (0) [])) (0)))] ?_
    refine se ?_
    refine rc 41 rfl (fun h3 => ?_) (fun h3 => ?_)
    ·
     have h3_r := h3
     have h3 := eql_t h3
     refine rqr ?_
     refine sp 2 [(3, .int .i64 (11)), (2, .int .i64 (0))] ?_
     refine se ?_
     refine rret ?_
     refine (pst_ret_pass ?_)
     refine pst_ret2 (t := 2) (u := 3) [] (by kernel_rfl) rfl rfl (List.Sublist.cons _ (List.Sublist.refl _)) (Imm.le.refl _) ?_
     exact ⟨(congrArg (fun p : Int × Int => Value.tuple #[.int .i64 p.1, .int .i64 p.2]) (brake_none hvv h3).symm), rfl⟩
    ·
     have h3_r := h3
     have h3 := eql_f h3
     refine rskip ?_
     refine pst_next ?_
     refine rqr ?_
     refine sp 1 [(42, .int .i64 (sumBy Car.brk Y.cars (Y.tracks.getD (0) [])))] ?_
     refine sd (dmu 43 (100) (sumBy Car.brk Y.cars (Y.tracks.getD (0) []))) ?_
     refine sp 1 [(44, .int .i64 (sumBy Car.wt Y.cars (Y.tracks.getD (0) [])))] ?_
     refine sd (det_quo (x := (.tmp 43)) (y := (.tmp 44)) (T := 3) (T' := 3) (d := 45) (ty := 3) (gd := none) (by kernel_rfl) rfl rfl rfl (by omega) (by omega)) ?_
     refine sp 2 [(3, .int .i64 (0)), (2, .int .i64 ((100 * (sumBy Car.brk Y.cars (Y.tracks.getD (0) []))) / (sumBy Car.wt Y.cars (Y.tracks.getD (0) []))))] ?_
     refine se ?_
     refine rret ?_
     refine pst_ret2 (t := 2) (u := 3) [] (by kernel_rfl) rfl rfl (List.Sublist.cons _ (List.Sublist.refl _)) (Imm.le.refl _) ?_
     exact ⟨(congrArg (fun p : Int × Int => Value.tuple #[.int .i64 p.1, .int .i64 p.2]) (brake_some hvv h3).symm), rfl⟩

end Go.Proofs.YtcaocbhbofejnaaDoor
namespace Go.Sl
open Go

inductive SK where
  | i (k : IntKind)
  | b
  | s
  deriving DecidableEq

def skV : Value → Option SK
  | .int k _ => some (.i k)
  | .bool _ => some .b
  | .string _ => some .s
  | _ => none
def scE : Value → Value → Bool
  | .int _ a, .int _ b => a == b
  | .bool a, .bool b => a == b
  | .string a, .string b => a == b
  | _, _ => false

def flatFields (rec : TypeId → Option (Nat × List (Nat × SK))) (sz : Nat) : List Field → Option (List (Nat × SK))
  | [] => some []
  | f :: r => if f.name = "_" then none else match rec f.type, flatFields rec sz r with
    | some (sf, L), some M => if f.offset + sf ≤ sz then some (L.map (fun x => (f.offset + x.1, x.2)) ++ M) else none
    | _, _ => none

def flatT (P : Program) : Nat → TypeId → Option (Nat × List (Nat × SK))
  | 0, _ => none
  | n + 1, t =>
    match P.underlying t, tySize P t with
    | some (.int k), some 1 => some (1, [(0, .i k)])
    | some .bool, some 1 => some (1, [(0, .b)])
    | some .string, some 1 => some (1, [(0, .s)])
    | some (.array len e), some sz => match flatT P n e with
      | some (se, L) => if len * se = sz then some (sz, (List.range len).flatMap fun i => L.map fun x => (i * se + x.1, x.2)) else none
      | none => none
    | some (.struct fs), some sz => if P.stoodInHeld t then none else match flatFields (flatT P n) sz fs.toList with
      | some L => some (sz, L)
      | none => none
    | _, _ => none

def okC (xs : Array Value) (L : List (Nat × SK)) : Bool := L.all fun x => match xs[x.1]? with
  | some v => decide (skV v = some x.2)
  | none => false
def eqC (xs ys : Array Value) (L : List (Nat × SK)) : Bool := L.all fun x => match xs[x.1]?, ys[x.1]? with
  | some a, some b => scE a b
  | _, _ => false

def CellsOf (P : Program) (t : TypeId) (v : Value) (xs : Array Value) : Prop := (tyAgg P t = some true ∧ v = .agg xs) ∨ (tyAgg P t = some false ∧ xs = #[v])

section
variable {P : Program} {I : Imm} {M : Seg}

theorem flat_size {n : Nat} {t : TypeId} {sz : Nat} {L : List (Nat × SK)} (h : flatT P n t = some (sz, L)) : tySize P t = some sz := by
  cases n with
  | zero => cases h
  | succ n =>
    unfold flatT at h
    split at h
    · cases h; assumption
    · cases h; assumption
    · cases h; assumption
    · split at h
      · split at h
        · cases h; assumption
        · cases h
      · cases h
    · split at h
      · cases h
      · split at h
        · cases h; assumption
        · cases h
    · cases h

theorem flat_agg {n : Nat} {t : TypeId} {sz : Nat} {L : List (Nat × SK)} (h : flatT P n t = some (sz, L)) : tyAgg P t = some true ∨ (tyAgg P t = some false ∧ sz = 1) := by
  cases n with
  | zero => cases h
  | succ n =>
    unfold flatT at h
    unfold tyAgg
    split at h <;> rename_i hu hs <;> first | (cases h; done) | (rw [hu]; first | exact .inl rfl | (cases h; exact .inr ⟨rfl, rfl⟩))

theorem wpL_partF {n : Nat} {t : TypeId} {sz off : Nat} {L : List (Nat × SK)} {cs : Array Value} {Q : Value → Seg → Prop} (h : flatT P n t = some (sz, L)) (hle : off + sz ≤ cs.size)
    (hq : ∀ v, CellsOf P t v (cs.extract off (off + sz)) → Q v M) : wpL P (part t cs off) Q I M := by
  unfold part
  rcases flat_agg h with ha | ⟨ha, rfl⟩
  · rw [wpL_bind, wpL_isAgg ha]
    simp only [if_true]
    rw [wpL_bind, wpL_sizeOf (flat_size h)]
    exact hq _ (.inl ⟨ha, rfl⟩)
  · rw [wpL_bind, wpL_isAgg ha]
    have hlt : off < cs.size := by omega
    simp only [Bool.false_eq_true, if_false, Array.getElem?_eq_getElem hlt]
    refine hq _ (.inr ⟨ha, ?_⟩)
    apply Array.ext
    · simp; omega
    · intro i h1 h2
      have : i = 0 := by simp at h2; omega
      subst this
      simp

theorem okC_map {xs : Array Value} {L : List (Nat × SK)} {off sz : Nat} (hle : off + sz ≤ xs.size) (hL : ∀ x ∈ L, x.1 < sz) :
    okC xs (L.map fun x => (off + x.1, x.2)) = okC (xs.extract off (off + sz)) L := by
  induction L with
  | nil => rfl
  | cons x L ih =>
    have hx := hL x List.mem_cons_self
    have ih' := ih (fun y hy => hL y (List.mem_cons_of_mem _ hy))
    have e : (xs.extract off (off + sz))[x.1]? = xs[off + x.1]? := by
      rw [Array.getElem?_extract]
      rw [if_pos (by omega)]
    simp only [okC, List.map_cons, List.all_cons, e] at ih' ⊢
    rw [ih']
theorem eqC_map {xs ys : Array Value} {L : List (Nat × SK)} {off sz : Nat} (hx : off + sz ≤ xs.size) (hy : off + sz ≤ ys.size) (hL : ∀ x ∈ L, x.1 < sz) :
    eqC xs ys (L.map fun x => (off + x.1, x.2)) = eqC (xs.extract off (off + sz)) (ys.extract off (off + sz)) L := by
  induction L with
  | nil => rfl
  | cons x L ih =>
    have hx' := hL x List.mem_cons_self
    have ih' := ih (fun y hy => hL y (List.mem_cons_of_mem _ hy))
    have e : (xs.extract off (off + sz))[x.1]? = xs[off + x.1]? := by
      rw [Array.getElem?_extract, if_pos (by omega)]
    have e' : (ys.extract off (off + sz))[x.1]? = ys[off + x.1]? := by
      rw [Array.getElem?_extract, if_pos (by omega)]
    simp only [eqC, List.map_cons, List.all_cons, e, e'] at ih' ⊢
    rw [ih']
theorem okC_append {xs : Array Value} {A B : List (Nat × SK)} : okC xs (A ++ B) = (okC xs A && okC xs B) := by simp [okC]
theorem eqC_append {xs ys : Array Value} {A B : List (Nat × SK)} : eqC xs ys (A ++ B) = (eqC xs ys A && eqC xs ys B) := by simp [eqC]

theorem flat_lt : ∀ (n : Nat) (t : TypeId) (sz : Nat) (L : List (Nat × SK)), flatT P n t = some (sz, L) → ∀ x ∈ L, x.1 < sz := by
  intro n
  induction n with
  | zero => intro t sz L h; cases h
  | succ n ih =>
    intro t sz L h x hx
    unfold flatT at h
    split at h
    · cases h; simp at hx; subst hx; simp
    · cases h; simp at hx; subst hx; simp
    · cases h; simp at hx; subst hx; simp
    · rename_i len e sz' hu hs
      split at h
      · rename_i se Le he
        split at h
        · cases h
          obtain ⟨i, hi, hx⟩ := List.mem_flatMap.1 hx
          obtain ⟨y, hy, rfl⟩ := List.mem_map.1 hx
          have h1 := ih _ _ _ he y hy
          have h2 := List.mem_range.1 hi
          have : i * se + se ≤ len * se := by rw [← Nat.succ_mul]; exact Nat.mul_le_mul_right _ h2
          simp only; omega
        · cases h
      · cases h
    · split at h
      · cases h
      · split at h
        · rename_i fs sz' hu hs _ L' hf
          cases h
          have key : ∀ (fs : List Field) (L : List (Nat × SK)), flatFields (flatT P n) sz fs = some L → ∀ x ∈ L, x.1 < sz := by
            intro fs
            induction fs with
            | nil => intro L hL x hx; simp only [flatFields, Option.some.injEq] at hL; subst hL; simp at hx
            | cons f fs ihf =>
              intro L hL x hx
              simp only [flatFields] at hL
              split at hL
              · cases hL
              · split at hL
                · rename_i sf Lf Mf h1 h2
                  split at hL
                  · rename_i hle
                    cases hL
                    rcases List.mem_append.1 hx with hx | hx
                    · obtain ⟨y, hy, rfl⟩ := List.mem_map.1 hx
                      have := ih _ _ _ h1 y hy
                      simp only; omega
                    · exact ihf _ h2 x hx
                  · cases hL
                · cases hL
          exact key _ _ hf x hx
        · cases h
    · cases h

theorem wpL_equalF : ∀ (n : Nat) (t : TypeId) (sz : Nat) (L : List (Nat × SK)), flatT P n t = some (sz, L) → ∀ (d : Nat), n ≤ d → ∀ (v u : Value) (xs ys : Array Value), CellsOf P t v xs → CellsOf P t u ys → xs.size = sz → ys.size = sz →
    okC xs L = true → okC ys L = true → ∀ (Q : Bool → Seg → Prop), Q (eqC xs ys L) M → wpL P (Op.equalIn d t v u) Q I M := by
  intro n
  induction n with
  | zero => intro t sz L h; cases h
  | succ n ih =>
    intro t sz L h d hd v u xs ys hv hu hxs hys okx oky Q hq
    obtain ⟨d, rfl⟩ : ∃ d', d = d' + 1 := ⟨d - 1, by omega⟩
    have hfl := h
    unfold flatT at h
    split at h
    · rename_i k hun hs
      cases h
      have ha : tyAgg P t = some false := by unfold tyAgg; rw [hun]
      rcases hv with ⟨hv, _⟩ | ⟨_, rfl⟩
      · rw [ha] at hv; cases hv
      rcases hu with ⟨hu, _⟩ | ⟨_, rfl⟩
      · rw [ha] at hu; cases hu
      have h1 : skV v = some (.i k) := by simpa [okC] using okx
      have h2 : skV u = some (.i k) := by simpa [okC] using oky
      cases v <;> simp [skV] at h1
      cases u <;> simp [skV] at h2
      subst h1; subst h2
      unfold Op.equalIn
      rw [wpL_bind, wpL_underlying hun]
      simp only [if_true]
      simp [eqC, scE] at hq
      exact hq
    · rename_i hun hs
      cases h
      have ha : tyAgg P t = some false := by unfold tyAgg; rw [hun]
      rcases hv with ⟨hv, _⟩ | ⟨_, rfl⟩
      · rw [ha] at hv; cases hv
      rcases hu with ⟨hu, _⟩ | ⟨_, rfl⟩
      · rw [ha] at hu; cases hu
      have h1 : skV v = some .b := by simpa [okC] using okx
      have h2 : skV u = some .b := by simpa [okC] using oky
      cases v <;> simp [skV] at h1
      cases u <;> simp [skV] at h2
      unfold Op.equalIn
      rw [wpL_bind, wpL_underlying hun]
      simp [eqC, scE] at hq
      exact hq
    · rename_i hun hs
      cases h
      have ha : tyAgg P t = some false := by unfold tyAgg; rw [hun]
      rcases hv with ⟨hv, _⟩ | ⟨_, rfl⟩
      · rw [ha] at hv; cases hv
      rcases hu with ⟨hu, _⟩ | ⟨_, rfl⟩
      · rw [ha] at hu; cases hu
      have h1 : skV v = some .s := by simpa [okC] using okx
      have h2 : skV u = some .s := by simpa [okC] using oky
      cases v <;> simp [skV] at h1
      cases u <;> simp [skV] at h2
      unfold Op.equalIn
      rw [wpL_bind, wpL_underlying hun]
      simp [eqC, scE] at hq
      exact hq
    · rename_i len e sz' hun hs
      split at h
      · rename_i se Le he
        split at h
        · rename_i hsz
          cases h
          have ha : tyAgg P t = some true := by unfold tyAgg; rw [hun]
          rcases hv with ⟨_, rfl⟩ | ⟨hv, _⟩
          case inr => rw [ha] at hv; cases hv
          rcases hu with ⟨_, rfl⟩ | ⟨hu, _⟩
          case inr => rw [ha] at hu; cases hu
          unfold Op.equalIn
          rw [wpL_bind, wpL_underlying hun]
          simp only
          rw [wpL_bind, wpL_sizeOf (flat_size he)]
          have key : ∀ (m j : Nat) (Q : Bool → Seg → Prop), j + m = len → okC xs ((List.range' j m).flatMap fun i => Le.map fun x => (i * se + x.1, x.2)) = true → okC ys ((List.range' j m).flatMap fun i => Le.map fun x => (i * se + x.1, x.2)) = true →
              Q (eqC xs ys ((List.range' j m).flatMap fun i => Le.map fun x => (i * se + x.1, x.2))) M → wpL P (do
                for i in List.range' j m do
                  if !(← Op.equalIn d e (← part e xs (i * se)) (← part e ys (i * se))) then return false
                pure true : Sem Bool) Q I M := by
            intro m
            induction m with
            | zero => intro j Q _ _ _ hq; simpa [eqC, wpL_pure] using hq
            | succ m ihm =>
              intro j Q hj ok1 ok2 hq
              rw [List.range'_succ, List.flatMap_cons] at ok1 ok2 hq
              rw [okC_append, Bool.and_eq_true] at ok1 ok2
              rw [eqC_append] at hq
              have hle : j * se + se ≤ len * se := by rw [← Nat.succ_mul]; exact Nat.mul_le_mul_right _ (by omega)
              have hlt := flat_lt n e se Le he
              rw [okC_map (sz := se) (by omega) hlt] at ok1 ok2
              rw [eqC_map (sz := se) (by omega) (by omega) hlt] at hq
              rw [List.range'_succ]
              have next := fun hq => ihm (j + 1) Q (by omega) ok1.2 ok2.2 hq
              simp only [List.forIn_cons] at next ⊢
              rw [wpL_bind, wpL_bind, wpL_bind]
              refine wpL_partF he (by omega) fun a ca => ?_
              rw [wpL_bind]
              refine wpL_partF he (by omega) fun b cb => ?_
              rw [wpL_bind]
              refine ih e se Le he d (by omega) a b _ _ ca cb (by simp; omega) (by simp; omega) ok1.1 ok2.1 _ ?_
              cases hb : eqC (xs.extract (j * se) (j * se + se)) (ys.extract (j * se) (j * se + se)) Le with
              | false => rw [hb] at hq; exact hq
              | true =>
                rw [hb, Bool.true_and] at hq
                have := next hq
                rw [wpL_bind] at this
                exact this
          rw [Std.Legacy.Range.forIn_eq_forIn_range']
          have := key len 0 Q (by omega) (by rwa [← List.range_eq_range']) (by rwa [← List.range_eq_range']) (by rwa [← List.range_eq_range'])
          simpa using this
        · cases h
      · cases h
    · rename_i fs sz' hun hs
      split at h
      · cases h
      · rename_i hst
        split at h
        · rename_i L' hf
          cases h
          have ha : tyAgg P t = some true := by unfold tyAgg; rw [hun]
          rcases hv with ⟨_, rfl⟩ | ⟨hv, _⟩
          case inr => rw [ha] at hv; cases hv
          rcases hu with ⟨_, rfl⟩ | ⟨hu, _⟩
          case inr => rw [ha] at hu; cases hu
          unfold Op.equalIn
          rw [wpL_bind, wpL_underlying hun]
          show wpL P (program >>= _) Q I M
          rw [wpL_bind]
          show wpL P _ Q I M
          simp only [hst, Bool.false_eq_true, if_false]
          have key : ∀ (fs : List Field) (L : List (Nat × SK)), flatFields (flatT P n) sz fs = some L → okC xs L = true → okC ys L = true → Q (eqC xs ys L) M → wpL P (do
              for f in fs do
                if f.name ≠ "_" then
                  if !(← Op.equalIn d f.type (← part f.type xs f.offset) (← part f.type ys f.offset)) then return false
              pure true : Sem Bool) Q I M := by
            intro fs
            induction fs with
            | nil => intro L hL _ _ hq; simp only [flatFields, Option.some.injEq] at hL; subst hL; exact hq
            | cons f fs ihf =>
              intro L hL ok1 ok2 hq
              simp only [flatFields] at hL
              split at hL
              · cases hL
              · rename_i hne
                split at hL
                · rename_i sf Lf Mf h1 h2
                  split at hL
                  · rename_i hle
                    cases hL
                    have hlt := flat_lt n f.type sf Lf h1
                    rw [okC_append, okC_map (sz := sf) (by omega) hlt, Bool.and_eq_true] at ok1 ok2
                    rw [eqC_append, eqC_map (sz := sf) (by omega) (by omega) hlt] at hq
                    have next := fun hq => ihf Mf h2 ok1.2 ok2.2 hq
                    simp only [List.forIn_cons] at next ⊢
                    rw [wpL_bind, wpL_bind]
                    simp only [ne_eq, hne, not_false_eq_true, if_true]
                    rw [wpL_bind]
                    refine wpL_partF h1 (by omega) fun a ca => ?_
                    rw [wpL_bind]
                    refine wpL_partF h1 (by omega) fun b cb => ?_
                    rw [wpL_bind]
                    refine ih f.type sf Lf h1 d (by omega) a b _ _ ca cb (by simp; omega) (by simp; omega) ok1.1 ok2.1 _ ?_
                    cases hb : eqC (xs.extract f.offset (f.offset + sf)) (ys.extract f.offset (f.offset + sf)) Lf with
                    | false => rw [hb] at hq; exact hq
                    | true =>
                      rw [hb, Bool.true_and] at hq
                      have := next hq
                      rw [wpL_bind] at this
                      exact this
                  · cases hL
                · cases hL
          have := key fs.toList _ hf okx oky hq
          simp only [Array.forIn_toList] at this
          exact this
        · cases h
    · cases h

theorem wpL_checkF : ∀ (n : Nat) (t : TypeId) (sz : Nat) (L : List (Nat × SK)), flatT P n t = some (sz, L) → ∀ (d : Nat), n ≤ d → ∀ (em : Bool) (v : Value) (xs : Array Value), CellsOf P t v xs → xs.size = sz →
    ∀ (Q : Unit → Seg → Prop), Q () M → wpL P (Instr.checkKey em d t v) Q I M := by
  intro n
  induction n with
  | zero => intro t sz L h; cases h
  | succ n ih =>
    intro t sz L h d hd em v xs hv hxs Q hq
    obtain ⟨d, rfl⟩ : ∃ d', d = d' + 1 := ⟨d - 1, by omega⟩
    unfold flatT at h
    split at h
    · rename_i k hun hs
      unfold Instr.checkKey
      rw [wpL_bind, wpL_underlying hun]
      exact hq
    · rename_i hun hs
      unfold Instr.checkKey
      rw [wpL_bind, wpL_underlying hun]
      exact hq
    · rename_i hun hs
      unfold Instr.checkKey
      rw [wpL_bind, wpL_underlying hun]
      exact hq
    · rename_i len e sz' hun hs
      split at h
      · rename_i se Le he
        split at h
        · rename_i hsz
          cases h
          have ha : tyAgg P t = some true := by unfold tyAgg; rw [hun]
          rcases hv with ⟨_, rfl⟩ | ⟨hv, _⟩
          case inr => rw [ha] at hv; cases hv
          unfold Instr.checkKey
          rw [wpL_bind, wpL_underlying hun]
          simp only
          have key : ∀ (m j : Nat) (Q : Unit → Seg → Prop), j + m = len → Q () M → wpL P (do
                for i in List.range' j m do Instr.checkKey em d e (← part e xs (i * (← sizeOf e))) : Sem Unit) Q I M := by
            intro m
            induction m with
            | zero => intro j Q _ hq; simpa [wpL_pure] using hq
            | succ m ihm =>
              intro j Q hj hq
              have hle : j * se + se ≤ len * se := by rw [← Nat.succ_mul]; exact Nat.mul_le_mul_right _ (by omega)
              rw [List.range'_succ]
              have next := ihm (j + 1) Q (by omega) hq
              simp only [List.forIn_cons] at next ⊢
              rw [wpL_bind, wpL_bind, wpL_bind, wpL_sizeOf (flat_size he), wpL_bind]
              refine wpL_partF he (by omega) fun a ca => ?_
              rw [wpL_bind]
              refine ih e se Le he d (by omega) em a _ ca (by simp; omega) _ ?_
              rw [wpL_bind] at next
              exact next
          rw [Std.Legacy.Range.forIn_eq_forIn_range']
          have := key len 0 Q (by omega) hq
          simpa using this
        · cases h
      · cases h
    · rename_i fs sz' hun hs
      split at h
      · cases h
      · split at h
        · rename_i L' hf
          cases h
          have ha : tyAgg P t = some true := by unfold tyAgg; rw [hun]
          rcases hv with ⟨_, rfl⟩ | ⟨hv, _⟩
          case inr => rw [ha] at hv; cases hv
          unfold Instr.checkKey
          rw [wpL_bind, wpL_underlying hun]
          simp only
          have key : ∀ (fs : List Field) (L : List (Nat × SK)), flatFields (flatT P n) sz fs = some L → Q () M → wpL P (do
              for f in fs do
                if f.name ≠ "_" then Instr.checkKey em d f.type (← part f.type xs f.offset) : Sem Unit) Q I M := by
            intro fs
            induction fs with
            | nil => intro L hL hq; exact hq
            | cons f fs ihf =>
              intro L hL hq
              simp only [flatFields] at hL
              split at hL
              · cases hL
              · rename_i hne
                split at hL
                · rename_i sf Lf Mf h1 h2
                  split at hL
                  · rename_i hle
                    have next := ihf Mf h2 hq
                    simp only [List.forIn_cons] at next ⊢
                    simp only [ne_eq, hne, not_false_eq_true, if_true]
                    rw [wpL_bind, wpL_bind, wpL_bind]
                    refine wpL_partF h1 (by omega) fun a ca => ?_
                    rw [wpL_bind]
                    refine ih f.type sf Lf h1 d (by omega) em a _ ca (by simp; omega) _ ?_
                    rw [wpL_bind] at next
                    exact next
                  · cases hL
                · cases hL
          have := key fs.toList _ hf hq
          simp only [Array.forIn_toList] at this
          exact this
        · cases h
    · cases h

theorem keyOk_flat {κ : Type} [DecidableEq κ] {kt : TypeId} {n sz : Nat} {L : List (Nat × SK)} (hflat : flatT P n kt = some (sz, L)) (hn : n ≤ 10000) (hagg : tyAgg P kt = some true) (cells : κ → Array Value) (hsz : ∀ k, (cells k).size = sz)
    (hok : ∀ k, okC (cells k) L = true) (heq : ∀ a b, eqC (cells a) (cells b) L = decide (a = b)) : KeyOk P kt (fun k => .agg (cells k)) where
  inj := fun a b e => by
    simp only [Value.agg.injEq] at e
    have h1 := heq a a
    have h2 := heq a b
    rw [← e, h1] at h2
    simpa using h2
  check := fun em k Q I M hq => wpL_checkF n kt sz L hflat 10000 hn em _ _ (.inl ⟨hagg, rfl⟩) (hsz k) Q hq
  find := fun k es kvs Q I M hes hq => by
    unfold Instr.findKey
    obtain ⟨td, htd, hfn⟩ : ∃ td, P.underlying kt = some td ∧ ∀ (x y : Value), Instr.sameNow td (.agg x.cells) y = none := by
      unfold tyAgg at hagg
      split at hagg
      · rename_i h; exact ⟨_, h, fun _ _ => rfl⟩
      · rename_i h; exact ⟨_, h, fun _ _ => rfl⟩
      · cases hagg
      · cases hagg
    rw [wpL_bind, wpL_underlying htd]
    have ask : ∀ (es : List MapEntry) (kvs : List (κ × Value)) (i : Nat) (Q : Option (Nat × Value) → Seg → Prop), es.map (fun e => (e.key, e.val)) = kvs.map (entOf fun k => .agg (cells k)) → Q (findKv k kvs i) M →
        wpL P (Instr.findAsking kt (.agg (cells k)) es i) Q I M := by
      intro es
      induction es with
      | nil =>
        intro kvs i Q h hq
        cases kvs with
        | nil => exact hq
        | cons x r => simp at h
      | cons e es ih =>
        intro kvs i Q h hq
        cases kvs with
        | nil => simp at h
        | cons x r =>
          simp only [List.map_cons, List.cons.injEq, entOf, Prod.mk.injEq] at h
          obtain ⟨⟨h1, h2⟩, h3⟩ := h
          unfold Instr.findAsking
          rw [wpL_bind]
          unfold Op.equal
          rw [h1]
          refine wpL_equalF n kt sz L hflat _ (by show n ≤ 10000; exact hn) _ _ _ _ (.inl ⟨hagg, rfl⟩) (.inl ⟨hagg, rfl⟩) (hsz _) (hsz _) (hok _) (hok _) _ ?_
          rw [heq]
          simp only [findKv] at hq
          by_cases hx : x.1 = k
          · rw [if_pos hx] at hq
            rw [if_pos (by simp [hx]), h2]
            exact hq
          · rw [if_neg hx] at hq
            rw [if_neg (by simpa using Ne.symm hx)]
            exact ih r (i + 1) Q h3 hq
    cases es with
    | nil =>
      cases kvs with
      | nil => exact hq
      | cons x r => simp at hes
    | cons e es =>
      have h1 : Instr.findNow td (.agg (cells k)) (e :: es) 0 = none := by
        have := hfn (.agg (cells k)) e.key
        have h2 : (Value.agg (cells k)).cells = cells k := rfl
        rw [h2] at this
        simp only [Instr.findNow, this]
      simp only [h1]
      exact ask (e :: es) kvs 0 Q hes hq
end
end Go.Sl

/- A part of the proof that stands in YtcaocbhbofejnaaDoorShuntBrakeLaw. -/
import Derived.Test.YtcaocbhbofejnaaDoorShuntBrakeP4
set_option linter.unusedVariables false
set_option linter.unusedSimpArgs false
namespace Go.Proofs.YtcaocbhbofejnaaDoor
open Go Go.Sl Go.Sh
set_option maxRecDepth 100000
noncomputable def c_mayh (p : List Nat) : Code := sub (bodyOf Tryd.f63) p
theorem mayh_ct (I : Imm) (y : Nat) (y_1 y_2 y_3 : Value) (Y : Yard) (s : Shift) (y_b : I.blk y = some (Obj.cells #[y_1, y_2, y_3] 87 (0, 0))) (y_1f : IsCars I y_1 Y.cars) (y_2f : IsInts I y_2 Y.room) (y_3f : IsRows I y_3 Y.tracks) (ho : OkAll Y.cars Y.tracks) (hs : Small Y.cars) (hl : Y.room.length = Y.tracks.length) (hq : ∀ t ∈ Y.tracks, t.length ≤ 1000000) : Ct Tryd.prog 63 #[.pointer (some ⟨y, 0, none⟩), .agg #[.int .i64 s.frm, .int .i64 s.to, .int .i64 s.many]] I ([]) (fun v I' M' => v = errV (mayErr Y s) ∧ M' = []) := by
 have y_1_f := y_1f
 obtain ⟨y_1_a, y_1_c, y_1_b, y_1_o, y_1_e, y_1_l, y_1_m, y_1_r⟩ := id y_1_f
 subst y_1_e
 have y_2_f := y_2f
 obtain ⟨y_2_a, y_2_c, y_2_b, y_2_o, y_2_e, y_2_l, y_2_m, y_2_r⟩ := id y_2_f
 subst y_2_e
 have y_3_f := y_3f
 obtain ⟨y_3_a, y_3_c, y_3_b, y_3_o, y_3_vs, y_3_e, y_3_l, y_3_m, y_3_r, y_3_w⟩ := id y_3_f
 subst y_3_e
 have y_3r_len : (Y.tracks).length = (Y.tracks).length := rfl
 refine fn_of_run (fn := Tryd.f63) (args := [_, _]) (N := 120) Tryd.func63 rfl (by kernel_rfl) (Nat.le_of_ble_eq_true rfl) (fun F => ?_)
 show Run _ _ (c_mayh []) _ _ [(0, .pointer (some ⟨y, 0, none⟩)), (1, .agg #[.int .i64 (s.frm), .int .i64 (s.to), .int .i64 (s.many)])] _ _
 refine rnm ?_
 refine rqr ?_
 refine sS (sb 3 54 #[.int .i64 (s.frm), .int .i64 (s.to), .int .i64 (s.many)] (fun b1 => ?_))
 refine sp 1 [(4, .nilIface)] ?_
 refine se ?_
 refine rq ?_
 refine rqr ?_
 refine sp 2 [(9, .pointer (some ⟨y, 0, none⟩))] ?_
 refine sd (det_fieldAddr (x := (.tmp 9)) (T := 87) (k := 0) (o := 0) (d := 10) (ty := 0) (gd := none) (by kernel_rfl) rfl (by kernel_rfl) rfl) ?_
 refine sd (det_fieldAddr (x := (.tmp 10)) (T := 26) (k := 2) (o := 2) (d := 11) (ty := 0) (gd := none) (by kernel_rfl) rfl (by kernel_rfl) rfl) ?_
 refine sd (det_load (v := .slice y_3_a Y.tracks.length y_3_c) (x := (.tmp 11)) (T := 24) (d := 12) (ty := 24) (gd := none) (by kernel_rfl) rfl (by kernel_rfl) rfl (sees_held y_b rfl)) ?_
 refine sp 2 [(5, .int .i64 (↑(Y.tracks.length)))] ?_
 refine se ?_
 refine rb 0 ?_
 refine rq ?_
 refine rqr ?_
 refine sp 1 [(15, .pointer (some ⟨b1, 0, none⟩))] ?_
 refine sd (dlb 16 0 0 b1 (.int .i64 (s.frm))) ?_
 refine sp 1 [(17, .int .i64 (↑(Y.tracks.length)))] ?_
 refine sd (dsb 18 (↑(Y.tracks.length)) (1)) ?_
 refine sd (dc 19 (fun I' hI => (in_ct I' (s.frm) (0) ((↑(Y.tracks.length)) - 1) :))) ?_
 refine sp 2 [(14, .bool (!(inB s.frm 0 ((↑(Y.tracks.length)) - 1))))] ?_
 refine se ?_
 refine rc 14 rfl (fun h1 => ?_) (fun h1 => ?_)
 ·
  have h1_r := h1
  have h1 := not_t h1
  have h1_p := inB_f h1
  refine rskip ?_
  refine pst_next ?_
  refine run_re 14 rfl (congrArg Value.bool h1_r) ?_
  refine rct 14 rfl ?_
  refine rqr ?_
  refine sp 3 [(4, .iface 122 (.agg #[.int .i64 (3)]))] ?_
  refine se ?_
  refine rret ?_
  refine (pst_ret_block (pst_ret_pass ?_))
  refine pst_ret1 (t := 4) [] (by kernel_rfl) rfl (List.Sublist.cons _ (List.Sublist.refl _)) (Imm.le.refl _) ?_
  exact ⟨(show errV 3 = _ from congrArg errV (mayErr_1 y_3r_len h1).symm), rfl⟩
 ·
  have h1_r := h1
  have h1 := not_f h1
  have h1_p := inB_t h1
  refine rr ?_
  refine sp 1 [(21, .pointer (some ⟨b1, 1, none⟩))] ?_
  refine sd (dlb 22 0 1 b1 (.int .i64 (s.to))) ?_
  refine sp 1 [(23, .int .i64 (↑(Y.tracks.length)))] ?_
  refine sd (dsb 24 (↑(Y.tracks.length)) (1)) ?_
  refine sd (dc 25 (fun I' hI => (in_ct I' (s.to) (0) ((↑(Y.tracks.length)) - 1) :))) ?_
  refine sp 2 [(14, .bool (!(inB s.to 0 ((↑(Y.tracks.length)) - 1))))] ?_
  refine se ?_
  refine rc 14 rfl (fun h2 => ?_) (fun h2 => ?_)
  ·
   have h2_r := h2
   have h2 := not_t h2
   have h2_p := inB_f h2
   refine rqr ?_
   refine sp 3 [(4, .iface 122 (.agg #[.int .i64 (3)]))] ?_
   refine se ?_
   refine rret ?_
   refine (pst_ret_block (pst_ret_pass ?_))
   refine pst_ret1 (t := 4) [] (by kernel_rfl) rfl (List.Sublist.cons _ (List.Sublist.refl _)) (Imm.le.refl _) ?_
   exact ⟨(show errV 3 = _ from congrArg errV (mayErr_2 y_3r_len h1 h2).symm), rfl⟩
  ·
   have h2_r := h2
   have h2 := not_f h2
   have h2_p := inB_t h2
   refine rqr ?_
   refine sp 1 [(30, .pointer (some ⟨b1, 0, none⟩))] ?_
   refine sd (dlb 31 0 0 b1 (.int .i64 (s.frm))) ?_
   refine sp 1 [(32, .pointer (some ⟨b1, 1, none⟩))] ?_
   refine sd (dlb 33 0 1 b1 (.int .i64 (s.to))) ?_
   refine sp 2 [(29, .bool (cmp .eql (s.frm) (s.to)))] ?_
   refine se ?_
   refine rc 29 rfl (fun h3 => ?_) (fun h3 => ?_)
   ·
    have h3_r := h3
    have h3 := eql_t h3
    refine rqr ?_
    refine sp 3 [(4, .iface 122 (.agg #[.int .i64 (4)]))] ?_
    refine se ?_
    refine rret ?_
    refine (pst_ret_block (pst_ret_pass ?_))
    refine pst_ret1 (t := 4) [] (by kernel_rfl) rfl (List.Sublist.cons _ (List.Sublist.refl _)) (Imm.le.refl _) ?_
    exact ⟨(show errV 4 = _ from congrArg errV (mayErr_3 y_3r_len h1 h2 h3).symm), rfl⟩
   ·
    have h3_r := h3
    have h3 := eql_f h3
    refine rqr ?_
    refine sp 1 [(38, .pointer (some ⟨b1, 2, none⟩))] ?_
    refine sd (dlb 39 0 2 b1 (.int .i64 (s.many))) ?_
    refine sp 2 [(37, .bool (cmp .lss (s.many) (1)))] ?_
    refine se ?_
    refine rc 37 rfl (fun h4 => ?_) (fun h4 => ?_)
    ·
     have h4_r := h4
     have h4 := lss_t h4
     refine rqr ?_
     refine sp 3 [(4, .iface 122 (.agg #[.int .i64 (7)]))] ?_
     refine se ?_
     refine rret ?_
     refine (pst_ret_block (pst_ret_pass ?_))
     refine pst_ret1 (t := 4) [] (by kernel_rfl) rfl (List.Sublist.cons _ (List.Sublist.refl _)) (Imm.le.refl _) ?_
     exact ⟨(show errV 7 = _ from congrArg errV (mayErr_4 y_3r_len h1 h2 (by omega) (by omega)).symm), rfl⟩
    ·
     have h4_r := h4
     have h4 := lss_f h4
     refine rq ?_
     refine rd0 12 ?_
     refine ox 1 [(44, .pointer (some ⟨b1, 2, none⟩))] ?_
     refine ofp_det (dlb 45 0 2 b1 (.int .i64 (s.many))) ?_
     refine ox 2 [(47, .pointer (some ⟨y, 0, none⟩))] ?_
     refine ofp_det (det_fieldAddr (x := (.tmp 47)) (T := 87) (k := 0) (o := 0) (d := 48) (ty := 0) (gd := none) (by kernel_rfl) rfl (by kernel_rfl) rfl) ?_
     refine ofp_det (det_fieldAddr (x := (.tmp 48)) (T := 26) (k := 2) (o := 2) (d := 49) (ty := 0) (gd := none) (by kernel_rfl) rfl (by kernel_rfl) rfl) ?_
     refine ofp_det (det_load (v := .slice y_3_a Y.tracks.length y_3_c) (x := (.tmp 49)) (T := 24) (d := 50) (ty := 24) (gd := none) (by kernel_rfl) rfl (by kernel_rfl) rfl (sees_held y_b rfl)) ?_
     refine ox 1 [(51, .pointer (some ⟨b1, 0, none⟩))] ?_
     refine ofp_det (dlb 52 0 0 b1 (.int .i64 (s.frm))) ?_
     refine ofp_det (diI 53 1 (s.frm) y_3_r.addr) ?_
     have r3_f := y_3_w ((s.frm : Int).toNat) (by omega)
     obtain ⟨r3_a, r3_c, r3_b, r3_o, r3_e, r3_l, r3_m, r3_r⟩ := id r3_f
     rw [r3_e] at r3_f
     refine ofp_det (det_eq (dl 54 (rows_get y_3_r ((s.frm : Int).toNat) (by omega))) r3_e) ?_
     refine ox 1 [(55, .int .i64 (↑((Y.tracks.getD ((s.frm : Int).toNat) []).length)))] ?_
     refine ofp_end0 ?_
     refine sp 2 [(43, .bool (cmp .gtr (s.many) (↑((Y.tracks.getD ((s.frm : Int).toNat) []).length))))] ?_
     refine se ?_
     refine rc 43 rfl (fun h5 => ?_) (fun h5 => ?_)
     ·
      have h5_r := h5
      have h5 := gtr_t h5
      refine rqr ?_
      refine sp 3 [(4, .iface 122 (.agg #[.int .i64 (6)]))] ?_
      refine se ?_
      refine rret ?_
      refine (pst_ret_block (pst_ret_pass ?_))
      refine pst_ret1 (t := 4) [] (by kernel_rfl) rfl (List.Sublist.cons _ (List.Sublist.refl _)) (Imm.le.refl _) ?_
      exact ⟨(show errV 6 = _ from congrArg errV (mayErr_5 y_3r_len h1 h2 (by omega) (by omega) h5).symm), rfl⟩
     ·
      have h5_r := h5
      have h5 := gtr_f h5
      refine rskip ?_
      refine pst_normal_block ?_
      refine pst_next ?_
      refine rq ?_
      refine rd0 7 ?_
      refine ox 2 [(60, .pointer (some ⟨y, 0, none⟩))] ?_
      refine ofp_det (det_fieldAddr (x := (.tmp 60)) (T := 87) (k := 0) (o := 0) (d := 61) (ty := 0) (gd := none) (by kernel_rfl) rfl (by kernel_rfl) rfl) ?_
      refine ofp_det (det_fieldAddr (x := (.tmp 61)) (T := 26) (k := 2) (o := 2) (d := 62) (ty := 0) (gd := none) (by kernel_rfl) rfl (by kernel_rfl) rfl) ?_
      refine ofp_det (det_load (v := .slice y_3_a Y.tracks.length y_3_c) (x := (.tmp 62)) (T := 24) (d := 63) (ty := 24) (gd := none) (by kernel_rfl) rfl (by kernel_rfl) rfl (sees_held y_b rfl)) ?_
      refine ox 1 [(64, .pointer (some ⟨b1, 0, none⟩))] ?_
      refine ofp_det (dlb 65 0 0 b1 (.int .i64 (s.frm))) ?_
      refine ofp_end0 ?_
      refine sd (diI 66 1 (s.frm) y_3_r.addr) ?_
      have r4_f := y_3_w ((s.frm : Int).toNat) (by omega)
      obtain ⟨r4_a, r4_c, r4_b, r4_o, r4_e, r4_l, r4_m, r4_r⟩ := id r4_f
      rw [r4_e] at r4_f
      refine sd (det_eq (dl 67 (rows_get y_3_r ((s.frm : Int).toNat) (by omega))) r4_e) ?_
      refine sp 1 [(6, .slice r4_a (Y.tracks.getD ((s.frm : Int).toNat) []).length r4_c)] ?_
      refine sn ?_
      refine sp 3 [(70, .pointer (some ⟨b1, 2, none⟩)), (69, .int .i64 (↑((Y.tracks.getD ((s.frm : Int).toNat) []).length)))] ?_
      refine sd (dlb 71 0 2 b1 (.int .i64 (s.many))) ?_
      refine sd (dsb 72 (↑((Y.tracks.getD ((s.frm : Int).toNat) []).length)) (s.many)) ?_
      refine sp 1 [(7, .int .i64 ((↑((Y.tracks.getD ((s.frm : Int).toNat) []).length)) - s.many))] ?_
      refine se ?_
      refine rq ?_
      refine rq ?_
      refine run_cut (fun a w => Slots 120 [(4, .nilIface), (117, .bool ((coupled Y.cars (Y.tracks.getD ((s.frm : Int).toNat) []) ((↑((Y.tracks.getD ((s.frm : Int).toNat) []).length)) - s.many)) || (cmp .gtr (((lenOf Y.cars ((Y.tracks.getD ((s.frm : Int).toNat) []).drop (((↑((Y.tracks.getD ((s.frm).toNat) []).length) : Int) - s.many).toNat)))) + ((lenOf Y.cars (Y.tracks.getD ((s.to : Int).toNat) [])))) (Y.room.getD ((s.to : Int).toNat) 0))))] a ∧ a.defers = [] ∧ St I ((b1, Obj.cells #[.int .i64 (s.frm), .int .i64 (s.to), .int .i64 (s.many)] 54 (0, 0)) :: F) w) ?_ ?_
      ·
       refine rd0 43 ?_
       refine ox 3 [(75, .pointer (some ⟨y, 0, none⟩)), (73, .slice r4_a (Y.tracks.getD ((s.frm : Int).toNat) []).length r4_c)] ?_
       refine ofp_det (det_fieldAddr (x := (.tmp 75)) (T := 87) (k := 0) (o := 0) (d := 76) (ty := 0) (gd := none) (by kernel_rfl) rfl (by kernel_rfl) rfl) ?_
       refine ofp_det (det_fieldAddr (x := (.tmp 76)) (T := 26) (k := 0) (o := 0) (d := 77) (ty := 0) (gd := none) (by kernel_rfl) rfl (by kernel_rfl) rfl) ?_
       refine ofp_det (det_load (v := .slice y_1_a Y.cars.length y_1_c) (x := (.tmp 77)) (T := 23) (d := 78) (ty := 23) (gd := none) (by kernel_rfl) rfl (by kernel_rfl) rfl (sees_held y_b rfl)) ?_
       refine ox 1 [(79, .int .i64 ((↑((Y.tracks.getD ((s.frm : Int).toNat) []).length)) - s.many))] ?_
       skip
       refine ofp_det (dc 80 (fun I' hI => (coupled_ct I' _ _ _ _ ((↑((Y.tracks.getD ((s.frm : Int).toNat) []).length)) - s.many) (r4_f.mono hI) (y_1_f.mono hI) (by exact ho.at s.frm.toNat (by omega)) :))) ?_
       refine ox 1 [(81, .bool (coupled Y.cars (Y.tracks.getD ((s.frm : Int).toNat) []) ((↑((Y.tracks.getD ((s.frm : Int).toNat) []).length)) - s.many)))] ?_
       refine ofp_split 81 (fun h6 => ?_) (fun h6 => ?_)
       ·
        have h6_b := h6
        refine ox 34 [(115, undef), (106, undef)] ?_
        refine ofp_end0 ?_
        refine sp 2 [(117, .bool (true))] ?_
        refine ee ?_
        refine pst_meet (fun a w hS hD hW => ⟨hS.sub (.cons 4 rfl (.consE 117 rfl (congrArg Value.bool (by simp only [h6, Bool.true_and, Bool.false_and, Bool.and_true, Bool.and_false, Bool.true_or, Bool.false_or, Bool.or_true, Bool.or_false, cond_true, cond_false])) (.nil _))), hD, hW⟩)
       ·
        have h6_b := h6
        refine ox 2 [(83, .int .i64 ((↑((Y.tracks.getD ((s.frm : Int).toNat) []).length)) - s.many)), (82, .slice r4_a (Y.tracks.getD ((s.frm : Int).toNat) []).length r4_c)] ?_
        have s5_f := r4_f.cutLo (((↑((Y.tracks.getD ((s.frm).toNat) []).length) : Int) - s.many).toNat) (by omega)
        obtain ⟨s5_a, s5_c, s5_b, s5_o, s5_e, s5_l, s5_m, s5_r⟩ := id s5_f
        rw [s5_e] at s5_f
        refine ofp_det (det_eq (det_slice (x := (.tmp 82)) (lo := (some (.tmp 83))) (hi := none) (T := 68) (e := 3) (sz := 1) (((↑((Y.tracks.getD ((s.frm).toNat) []).length) : Int) - s.many).toNat) ((Y.tracks.getD ((s.frm : Int).toNat) []).length) (d := 84) (ty := 68) (gd := (some (8, false))) (by kernel_rfl) (by kernel_rfl) (by kernel_rfl) (by kernel_rfl) rfl (.inr ⟨_, .i64, rfl, (look_int rfl (by omega))⟩) (.inl ⟨rfl, rfl⟩) (by omega) (by omega)) s5_e) ?_
        refine ox 2 [(86, .pointer (some ⟨y, 0, none⟩))] ?_
        refine ofp_det (det_fieldAddr (x := (.tmp 86)) (T := 87) (k := 0) (o := 0) (d := 87) (ty := 0) (gd := (some (8, false))) (by kernel_rfl) (by kernel_rfl) (by kernel_rfl) rfl) ?_
        refine ofp_det (det_fieldAddr (x := (.tmp 87)) (T := 26) (k := 0) (o := 0) (d := 88) (ty := 0) (gd := (some (8, false))) (by kernel_rfl) (by kernel_rfl) (by kernel_rfl) rfl) ?_
        refine ofp_det (det_load (v := .slice y_1_a Y.cars.length y_1_c) (x := (.tmp 88)) (T := 23) (d := 89) (ty := 23) (gd := (some (8, false))) (by kernel_rfl) (by kernel_rfl) (by kernel_rfl) rfl (sees_held y_b rfl)) ?_
        refine ofp_det (dc 90 (fun I' hI => (long_ct I' _ _ _ _ (s5_f.mono hI) (y_1_f.mono hI) (by exact (ho.at s.frm.toNat (by omega)).drop _) (by assumption) :))) ?_
        refine ox 2 [(92, .pointer (some ⟨y, 0, none⟩))] ?_
        refine ofp_det (det_fieldAddr (x := (.tmp 92)) (T := 87) (k := 0) (o := 0) (d := 93) (ty := 0) (gd := (some (8, false))) (by kernel_rfl) (by kernel_rfl) (by kernel_rfl) rfl) ?_
        refine ofp_det (det_fieldAddr (x := (.tmp 93)) (T := 26) (k := 2) (o := 2) (d := 94) (ty := 0) (gd := (some (8, false))) (by kernel_rfl) (by kernel_rfl) (by kernel_rfl) rfl) ?_
        refine ofp_det (det_load (v := .slice y_3_a Y.tracks.length y_3_c) (x := (.tmp 94)) (T := 24) (d := 95) (ty := 24) (gd := (some (8, false))) (by kernel_rfl) (by kernel_rfl) (by kernel_rfl) rfl (sees_held y_b rfl)) ?_
        refine ox 1 [(96, .pointer (some ⟨b1, 1, none⟩))] ?_
        refine ofp_det (dlb 97 0 1 b1 (.int .i64 (s.to))) ?_
        refine ofp_det (diI 98 1 (s.to) y_3_r.addr) ?_
        have r6_f := y_3_w ((s.to : Int).toNat) (by omega)
        obtain ⟨r6_a, r6_c, r6_b, r6_o, r6_e, r6_l, r6_m, r6_r⟩ := id r6_f
        rw [r6_e] at r6_f
        refine ofp_det (det_eq (dl 99 (rows_get y_3_r ((s.to : Int).toNat) (by omega))) r6_e) ?_
        refine ox 2 [(101, .pointer (some ⟨y, 0, none⟩))] ?_
        refine ofp_det (det_fieldAddr (x := (.tmp 101)) (T := 87) (k := 0) (o := 0) (d := 102) (ty := 0) (gd := (some (8, false))) (by kernel_rfl) (by kernel_rfl) (by kernel_rfl) rfl) ?_
        refine ofp_det (det_fieldAddr (x := (.tmp 102)) (T := 26) (k := 0) (o := 0) (d := 103) (ty := 0) (gd := (some (8, false))) (by kernel_rfl) (by kernel_rfl) (by kernel_rfl) rfl) ?_
        refine ofp_det (det_load (v := .slice y_1_a Y.cars.length y_1_c) (x := (.tmp 103)) (T := 23) (d := 104) (ty := 23) (gd := (some (8, false))) (by kernel_rfl) (by kernel_rfl) (by kernel_rfl) rfl (sees_held y_b rfl)) ?_
        refine ofp_det (dc 105 (fun I' hI => (long_ct I' _ _ _ _ (r6_f.mono hI) (y_1_f.mono hI) (by exact ho.at s.to.toNat (by omega)) (by assumption) :))) ?_
        refine ofp_det (da 106 ((lenOf Y.cars ((Y.tracks.getD ((s.frm : Int).toNat) []).drop (((↑((Y.tracks.getD ((s.frm).toNat) []).length) : Int) - s.many).toNat)))) ((lenOf Y.cars (Y.tracks.getD ((s.to : Int).toNat) []))) (hr := by have q1 := lenOf_bound hs ((Y.tracks.getD s.frm.toNat []).drop ((↑((Y.tracks.getD ((s.frm).toNat) []).length) : Int) - s.many).toNat); have q2 := lenOf_bound hs (Y.tracks.getD s.to.toNat []); have q3 := hq _ (getD_mem (d := []) (xs := Y.tracks) (k := s.frm.toNat) (by omega)); have q4 := hq _ (getD_mem (d := []) (xs := Y.tracks) (k := s.to.toNat) (by omega)); simp only [List.length_drop] at q1; omega)) ?_
        refine ox 2 [(108, .pointer (some ⟨y, 0, none⟩))] ?_
        refine ofp_det (det_fieldAddr (x := (.tmp 108)) (T := 87) (k := 0) (o := 0) (d := 109) (ty := 0) (gd := (some (8, false))) (by kernel_rfl) (by kernel_rfl) (by kernel_rfl) rfl) ?_
        refine ofp_det (det_fieldAddr (x := (.tmp 109)) (T := 26) (k := 1) (o := 1) (d := 110) (ty := 0) (gd := (some (8, false))) (by kernel_rfl) (by kernel_rfl) (by kernel_rfl) rfl) ?_
        refine ofp_det (det_load (v := .slice y_2_a Y.room.length y_2_c) (x := (.tmp 110)) (T := 22) (d := 111) (ty := 22) (gd := (some (8, false))) (by kernel_rfl) (by kernel_rfl) (by kernel_rfl) rfl (sees_held y_b rfl)) ?_
        refine ox 1 [(112, .pointer (some ⟨b1, 1, none⟩))] ?_
        refine ofp_det (dlb 113 0 1 b1 (.int .i64 (s.to))) ?_
        refine ofp_det (diI 114 1 (s.to) y_2_r.addr) ?_
        refine ofp_det (dl 115 (ints_get y_2_r ((s.to : Int).toNat) (by omega))) ?_
        refine ofp_end0 ?_
        refine sp 2 [(117, .bool (cmp .gtr (((lenOf Y.cars ((Y.tracks.getD ((s.frm : Int).toNat) []).drop (((↑((Y.tracks.getD ((s.frm).toNat) []).length) : Int) - s.many).toNat)))) + ((lenOf Y.cars (Y.tracks.getD ((s.to : Int).toNat) [])))) (Y.room.getD ((s.to : Int).toNat) 0)))] ?_
        refine ee ?_
        refine pst_meet (fun a w hS hD hW => ⟨hS.sub (.cons 4 rfl (.consE 117 rfl (congrArg Value.bool (by simp only [h6, Bool.true_and, Bool.false_and, Bool.and_true, Bool.and_false, Bool.true_or, Bool.false_or, Bool.or_true, Bool.or_false, cond_true, cond_false])) (.nil _))), hD, hW⟩)
      ·rintro a w ⟨hS, hD, hW⟩
       refine run_at hS hD hW ?_
       clear hS hD hW a w
       refine rc 117 rfl (fun h7 => ?_) (fun h7 => ?_)
       ·
        have h7_r := h7
        refine rqr ?_
        refine sp 3 [(4, .iface 122 (.agg #[.int .i64 (9)]))] ?_
        refine se ?_
        refine rret ?_
        refine (pst_ret_pass ?_)
        refine pst_ret1 (t := 4) [] (by kernel_rfl) rfl (List.Sublist.cons _ (List.Sublist.refl _)) (Imm.le.refl _) ?_
        exact ⟨(show errV 9 = _ from congrArg errV (mayErr_6 y_3r_len h1 h2 (by omega) (by omega) (Int.not_lt.2 h5) h7_r).symm), rfl⟩
       ·
        have h7_r := h7
        obtain ⟨h7_1, h7_2⟩ := or_f h7
        have h7_2 := gtr_f h7_2
        refine rskip ?_
        refine pst_next ?_
        refine rqr ?_
        refine sp 1 [(4, .nilIface)] ?_
        refine se ?_
        refine rret ?_
        refine pst_ret1 (t := 4) [] (by kernel_rfl) rfl (List.Sublist.cons _ (List.Sublist.refl _)) (Imm.le.refl _) ?_
        exact ⟨(show errV 0 = _ from congrArg errV (mayErr_7 y_3r_len h1 h2 (by omega) (by omega) (Int.not_lt.2 h5) h7_r).symm), rfl⟩

noncomputable def c_shifts1h (p : List Nat) : Code := sub (bodyOf Tryd.f72) p
set_option maxHeartbeats 1000000 in
theorem shifts1h_iter (I0 : Imm) (y by_ bm : Nat) (y_1 y_2 y_3 : Value) (Y : Yard) (hG : Glob I0) (hy : I0.blk by_ = some (Obj.cells #[.pointer (some ⟨y, 0, none⟩)] 85 (0, 0))) (hm : I0.blk bm = some (Obj.cells #[.func (.func 63) #[] #[]] 114 (0, 0))) (y_b : I0.blk y = some (Obj.cells #[y_1, y_2, y_3] 87 (0, 0))) (y_1f : IsCars I0 y_1 Y.cars) (y_2f : IsInts I0 y_2 Y.room) (y_3f : IsRows I0 y_3 Y.tracks) (hgood : GoodY Y) (h3 : Y.tracks.length ≤ 1000000) : IterCt Tryd.prog 72 [.pointer (some ⟨by_, 0, none⟩), .pointer (some ⟨bm, 0, none⟩)] encS (draws Y) NoR I0 := by
 intro L Cl Sp hmono hround I Mr M hI0 hR hCl
 obtain rfl : Mr = [] := hR
 replace hy := hI0.blk _ _ hy
 replace hm := hI0.blk _ _ hm
 replace y_b := hI0.blk _ _ y_b
 replace y_1f := y_1f.mono hI0
 replace y_2f := y_2f.mono hI0
 replace y_3f := y_3f.mono hI0
 have y_1_f := y_1f
 obtain ⟨y_1_a, y_1_c, y_1_b, y_1_o, y_1_e, y_1_l, y_1_m, y_1_r⟩ := id y_1_f
 subst y_1_e
 have y_2_f := y_2f
 obtain ⟨y_2_a, y_2_c, y_2_b, y_2_o, y_2_e, y_2_l, y_2_m, y_2_r⟩ := id y_2_f
 subst y_2_e
 have y_3_f := y_3f
 obtain ⟨y_3_a, y_3_c, y_3_b, y_3_o, y_3_vs, y_3_e, y_3_l, y_3_m, y_3_r, y_3_w⟩ := id y_3_f
 subst y_3_e
 have y_3r_len : (Y.tracks).length = (Y.tracks).length := rfl
 refine fn_of_run (fn := Tryd.f72) (args := [_, _, _]) (N := 56) Tryd.func72 rfl (by kernel_rfl) (Nat.le_of_ble_eq_true rfl) (fun F => ?_)
 show Run _ _ (c_shifts1h []) _ _ [(0, .func (.yield L) #[] #[]), (1, .pointer (some ⟨by_, 0, none⟩)), (2, .pointer (some ⟨bm, 0, none⟩))] _ _
 refine run_mem (M' := ((M ++ F))) (fun w h => by simpa only [List.append_assoc, List.cons_append, List.nil_append] using h) ?_
 refine rnm ?_
 have hq3 := hgood.le
 refine rqr ?_
 refine sd (det_load (v := .pointer (some ⟨y, 0, none⟩)) (x := (.tmp 1)) (T := 85) (d := 8) (ty := 85) (gd := none) (by kernel_rfl) rfl (by kernel_rfl) rfl (sees_held hy rfl)) ?_
 refine sp 1 [(9, .pointer (some ⟨y, 0, none⟩))] ?_
 refine sd (det_fieldAddr (x := (.tmp 9)) (T := 87) (k := 0) (o := 0) (d := 10) (ty := 0) (gd := none) (by kernel_rfl) rfl (by kernel_rfl) rfl) ?_
 refine sd (det_fieldAddr (x := (.tmp 10)) (T := 26) (k := 2) (o := 2) (d := 11) (ty := 0) (gd := none) (by kernel_rfl) rfl (by kernel_rfl) rfl) ?_
 refine sd (det_load (v := .slice y_3_a Y.tracks.length y_3_c) (x := (.tmp 11)) (T := 24) (d := 12) (ty := 24) (gd := none) (by kernel_rfl) rfl (by kernel_rfl) rfl (sees_held y_b rfl)) ?_
 refine sp 2 [(14, .int .i64 (0)), (13, .int .i64 (↑(Y.tracks.length)))] ?_
 refine se ?_
 refine rb 0 ?_
 refine rl (fun mz a w => ∃ J0 : Imm, ∃ k : Nat, ∃ xs1 : List Shift, ∃ Mc1 : Seg, (I.le J0) ∧ (k ≤ Y.tracks.length) ∧ (xs1 ++ drawsY Y k = draws Y) ∧ (Cl xs1 J0 Mc1) ∧ Slots 56 [(14, .int .i64 ↑k), (0, .func (.yield L) #[] #[]), (1, .pointer (some ⟨by_, 0, none⟩)), (2, .pointer (some ⟨bm, 0, none⟩)), (13, .int .i64 (↑(Y.tracks.length)))] a ∧ a.defers = [] ∧ St J0 ((Mc1 ++ F)) w ∧ mz = Y.tracks.length - k) ?_ ?_
 ·intro a w hS hD hW
  exact ⟨_, I, 0, [], M, Imm.le.refl _, Nat.zero_le _, rfl, hCl, hS.sub (.cons 14 rfl (.cons 0 rfl (.cons 1 rfl (.cons 2 rfl (.cons 13 rfl (.nil _)))))), hD, hW, rfl⟩
 ·rintro mz a w ⟨J0, k, xs1, Mc1, hJ0, hk, hx1, hCl, hS, hD, hW, rfl⟩
  refine run_at hS hD hW ?_
  clear hS hD hW a w
  replace hy := hJ0.blk _ _ hy
  replace hm := hJ0.blk _ _ hm
  replace y_1_f := y_1_f.mono hJ0
  replace y_2_f := y_2_f.mono hJ0
  replace y_3_f := y_3_f.mono hJ0
  replace y_3_r := y_3_r.mono hJ0
  replace y_3_w := fun i hi => (y_3_w i hi).mono hJ0
  replace y_b := hJ0.blk _ _ y_b
  refine rqr ?_
  refine sp 1 [(15, .bool (cmp .lss (↑k) (↑(Y.tracks.length))))] ?_
  refine se ?_
  refine rq ?_
  refine rc 15 rfl (fun h1 => ?_) (fun h1 => ?_)
  ·
   have h1_r := h1
   have h1 := lss_t h1
   refine rskip ?_
   refine pst_next ?_
   refine rq ?_
   refine rb 1 ?_
   refine rqr ?_
   refine sp 2 [(4, .int .i64 (↑k))] ?_
   refine sn ?_
   refine sd (det_load (v := .pointer (some ⟨y, 0, none⟩)) (x := (.tmp 1)) (T := 85) (d := 17) (ty := 85) (gd := none) (by kernel_rfl) rfl (by kernel_rfl) rfl (sees_held hy rfl)) ?_
   refine sp 1 [(18, .pointer (some ⟨y, 0, none⟩))] ?_
   refine sd (det_fieldAddr (x := (.tmp 18)) (T := 87) (k := 0) (o := 0) (d := 19) (ty := 0) (gd := none) (by kernel_rfl) rfl (by kernel_rfl) rfl) ?_
   refine sd (det_fieldAddr (x := (.tmp 19)) (T := 26) (k := 2) (o := 2) (d := 20) (ty := 0) (gd := none) (by kernel_rfl) rfl (by kernel_rfl) rfl) ?_
   refine sd (det_load (v := .slice y_3_a Y.tracks.length y_3_c) (x := (.tmp 20)) (T := 24) (d := 21) (ty := 24) (gd := none) (by kernel_rfl) rfl (by kernel_rfl) rfl (sees_held y_b rfl)) ?_
   refine sp 2 [(23, .int .i64 (0)), (22, .int .i64 (↑(Y.tracks.length)))] ?_
   refine se ?_
   refine rb 2 ?_
   refine rl (fun mz a w => ∃ J1 : Imm, ∃ t : Nat, ∃ xs2 : List Shift, ∃ Mc2 : Seg, (J0.le J1) ∧ (t ≤ Y.tracks.length) ∧ (xs2 ++ (drawsF Y k t ++ drawsY Y (k + 1)) = draws Y) ∧ (Cl xs2 J1 Mc2) ∧ Slots 56 [(23, .int .i64 ↑t), (0, .func (.yield L) #[] #[]), (1, .pointer (some ⟨by_, 0, none⟩)), (2, .pointer (some ⟨bm, 0, none⟩)), (4, .int .i64 (↑k)), (13, .int .i64 (↑(Y.tracks.length))), (14, .int .i64 (↑k)), (22, .int .i64 (↑(Y.tracks.length)))] a ∧ a.defers = [] ∧ St J1 ((Mc2 ++ F)) w ∧ mz = Y.tracks.length - t) ?_ ?_
   ·intro a w hS hD hW
    exact ⟨_, J0, 0, xs1, Mc1, Imm.le.refl _, Nat.zero_le _, by rw [← hx1, drawsY_step (Y := Y) (f := k) (by omega)], hCl, hS.sub (.cons 23 rfl (.cons 0 rfl (.cons 1 rfl (.cons 2 rfl (.cons 4 rfl (.cons 13 rfl (.cons 14 rfl (.cons 22 rfl (.nil _))))))))), hD, hW, rfl⟩
   ·rintro mz a w ⟨J1, t, xs2, Mc2, hJ1, ht, hx2, hCl, hS, hD, hW, rfl⟩
    refine run_at hS hD hW ?_
    clear hS hD hW a w
    replace hy := hJ1.blk _ _ hy
    replace hm := hJ1.blk _ _ hm
    replace y_1_f := y_1_f.mono hJ1
    replace y_2_f := y_2_f.mono hJ1
    replace y_3_f := y_3_f.mono hJ1
    replace y_3_r := y_3_r.mono hJ1
    replace y_3_w := fun i hi => (y_3_w i hi).mono hJ1
    replace y_b := hJ1.blk _ _ y_b
    refine rqr ?_
    refine sp 1 [(24, .bool (cmp .lss (↑t) (↑(Y.tracks.length))))] ?_
    refine se ?_
    refine rq ?_
    refine rc 24 rfl (fun h2 => ?_) (fun h2 => ?_)
    ·
     have h2_r := h2
     have h2 := lss_t h2
     refine rskip ?_
     refine pst_next ?_
     refine rq ?_
     refine rb 3 ?_
     refine rqr ?_
     refine sp 2 [(5, .int .i64 (↑t))] ?_
     refine sn ?_
     refine sp 1 [(6, .int .i64 (1))] ?_
     refine se ?_
     refine rb 4 ?_
     refine rl (fun mz a w => ∃ J2 : Imm, ∃ j : Nat, ∃ xs3 : List Shift, ∃ Mc3 : Seg, (J1.le J2) ∧ (j ≤ (Y.tracks.getD (k) []).length) ∧ (xs3 ++ (drawsFT Y k t j ++ (drawsF Y k (t + 1) ++ drawsY Y (k + 1))) = draws Y) ∧ (Cl xs3 J2 Mc3) ∧ Slots 56 [(6, .int .i64 (↑j + 1)), (0, .func (.yield L) #[] #[]), (1, .pointer (some ⟨by_, 0, none⟩)), (2, .pointer (some ⟨bm, 0, none⟩)), (4, .int .i64 (↑k)), (5, .int .i64 (↑t)), (13, .int .i64 (↑(Y.tracks.length))), (14, .int .i64 (↑k)), (22, .int .i64 (↑(Y.tracks.length))), (23, .int .i64 (↑t))] a ∧ a.defers = [] ∧ St J2 ((Mc3 ++ F)) w ∧ mz = (Y.tracks.getD (k) []).length - j) ?_ ?_
     ·intro a w hS hD hW
      exact ⟨_, J1, 0, xs2, Mc2, Imm.le.refl _, Nat.zero_le _, by rw [← hx2, drawsF_step (Y := Y) (f := k) (t := t) (by omega), List.append_assoc], hCl, hS.sub (.cons 6 rfl (.cons 0 rfl (.cons 1 rfl (.cons 2 rfl (.cons 4 rfl (.cons 5 rfl (.cons 13 rfl (.cons 14 rfl (.cons 22 rfl (.cons 23 rfl (.nil _))))))))))), hD, hW, rfl⟩
     ·rintro mz a w ⟨J2, j, xs3, Mc3, hJ2, hj, hx3, hCl, hS, hD, hW, rfl⟩
      refine run_at hS hD hW ?_
      clear hS hD hW a w
      replace hy := hJ2.blk _ _ hy
      replace hm := hJ2.blk _ _ hm
      replace y_1_f := y_1_f.mono hJ2
      replace y_2_f := y_2_f.mono hJ2
      replace y_3_f := y_3_f.mono hJ2
      replace y_3_r := y_3_r.mono hJ2
      replace y_3_w := fun i hi => (y_3_w i hi).mono hJ2
      replace y_b := hJ2.blk _ _ y_b
      refine rq ?_
      refine rqr ?_
      refine sp 1 [(26, .int .i64 (↑j + 1))] ?_
      refine sd (det_load (v := .pointer (some ⟨y, 0, none⟩)) (x := (.tmp 1)) (T := 85) (d := 27) (ty := 85) (gd := none) (by kernel_rfl) rfl (by kernel_rfl) rfl (sees_held hy rfl)) ?_
      refine sp 1 [(28, .pointer (some ⟨y, 0, none⟩))] ?_
      refine sd (det_fieldAddr (x := (.tmp 28)) (T := 87) (k := 0) (o := 0) (d := 29) (ty := 0) (gd := none) (by kernel_rfl) rfl (by kernel_rfl) rfl) ?_
      refine sd (det_fieldAddr (x := (.tmp 29)) (T := 26) (k := 2) (o := 2) (d := 30) (ty := 0) (gd := none) (by kernel_rfl) rfl (by kernel_rfl) rfl) ?_
      refine sd (det_load (v := .slice y_3_a Y.tracks.length y_3_c) (x := (.tmp 30)) (T := 24) (d := 31) (ty := 24) (gd := none) (by kernel_rfl) rfl (by kernel_rfl) rfl (sees_held y_b rfl)) ?_
      refine sp 1 [(32, .int .i64 (↑k))] ?_
      refine sd (di 33 1 (k) y_3_r.addr) ?_
      have r1_f := y_3_w (k) (by omega)
      obtain ⟨r1_a, r1_c, r1_b, r1_o, r1_e, r1_l, r1_m, r1_r⟩ := id r1_f
      rw [r1_e] at r1_f
      refine sd (det_eq (dl 34 (rows_get y_3_r (k) (by omega))) r1_e) ?_
      refine sp 2 [(36, .bool (cmp .leq (↑j + 1) (↑((Y.tracks.getD (k) []).length))))] ?_
      refine se ?_
      refine rc 36 rfl (fun h3 => ?_) (fun h3 => ?_)
      ·
       have h3_r := h3
       have h3 := leq_t h3
       refine rskip ?_
       refine pst_next ?_
       refine rq ?_
       refine rb 5 ?_
       refine rqr ?_
       refine sp 4 [(42, .agg #[.int .i64 (↑k), .int .i64 (↑t), .int .i64 (↑j + 1)])] ?_
       refine sS (sal 7 54 #[.int .i64 (0), .int .i64 (0), .int .i64 (0)] (fun b2 => ?_))
       refine sS (ss 0 0 b2 [.int .i64 (↑k), .int .i64 (↑t), .int .i64 (↑j + 1)] [.int .i64 (↑k), .int .i64 (↑t), .int .i64 (↑j + 1)] (_ :: _) (cs := [_, _, _]) rfl rfl ?_)
       refine sn ?_
       refine sd (det_load (v := .func (.func 63) #[] #[]) (x := (.tmp 2)) (T := 114) (d := 43) (ty := 114) (gd := none) (by kernel_rfl) rfl (by kernel_rfl) rfl (sees_held hm rfl)) ?_
       refine sd (det_load (v := .pointer (some ⟨y, 0, none⟩)) (x := (.tmp 1)) (T := 85) (d := 44) (ty := 85) (gd := none) (by kernel_rfl) rfl (by kernel_rfl) rfl (sees_held hy rfl)) ?_
       refine sd (dnb 45 0 0 b2 [.int .i64 (↑k), .int .i64 (↑t), .int .i64 (↑j + 1)]) ?_
       have hct11 := mayh_ct J2 (y) _ _ _ (Y) ((⟨↑k, ↑t, ↑j + 1⟩ : Shift)) y_b y_1_f y_2_f y_3_f (by exact hgood.ok) (by exact hgood.small) (by exact hgood.len) (by exact hgood.le)
       refine sS (sc (some 46) (F := ((b2, Obj.cells #[.int .i64 (↑k), .int .i64 (↑t), .int .i64 (↑j + 1)] 54 (0, 0)) :: (Mc3 ++ F))) (hct11 :) (.refl _) (fun rv9 I4 rm10 hle5 hp6 => ?_))
       obtain ⟨hv7, hm8⟩ := hp6
       rw [hv7, hm8]; clear hv7 hm8
       replace hy := hle5.blk _ _ hy
       replace hm := hle5.blk _ _ hm
       replace y_b := hle5.blk _ _ y_b
       replace hCl := hmono _ _ _ _ hle5 hCl
       refine nm ?_
       show Seq _ _ _ _ _ _ ((46, errV ((mayErr Y ((⟨↑k, ↑t, ↑j + 1⟩ : Shift))))) :: _) _ _
       refine sd (det_eqIface (x := (.tmp 46)) (T := 108) (T' := 108) (d := 47) (ty := 4) (gd := none) (by kernel_rfl) rfl (by kernel_rfl) rfl (isNI_err _)) ?_
       refine sp 1 [(48, .bool (decide ((mayErr Y ((⟨↑k, ↑t, ↑j + 1⟩ : Shift))) = 0)))] ?_
       refine seq_split 48 rfl (fun h4 => ?_) (fun h4 => ?_)
       ·
        have h4_b := h4
        have h4_b := dec_t h4_b
        refine sp 1 [(49, .func (.yield L) #[] #[])] ?_
        refine sd (dnb 50 0 0 b2 [.int .i64 (↑k), .int .i64 (↑t), .int .i64 (↑j + 1)]) ?_
        have hme : mayErr Y (mk3 k t (j + 1)) = 0 := h4_b
        have hpre : xs3 ++ [mk3 k t (j + 1)] <+: draws Y := ⟨_, by rw [← hx3, drawsFT_yes (by omega) hme]; simp; rfl⟩
        refine sS (stp_yield (d := some 51) (f := (.tmp 49)) (args := #[.tmp 50]) (tys := #[54]) (pre := ([] ++ Mc3)) (F := ((b2, Obj.cells #[.int .i64 (↑k), .int .i64 (↑t), .int .i64 (↑j + 1)] 54 (0, 0)) :: F)) (ty := 4) (gd := (some (5, true))) (by kernel_rfl) (by kernel_rfl) rfl rfl (hround xs3 (mk3 k t (j + 1)) _ [] Mc3 hpre (Imm.le.trans (Imm.le.trans (Imm.le.trans (Imm.le.trans hI0 hJ0) hJ1) hJ2) hle5) rfl hCl) (by simpa only [List.append_assoc, List.cons_append, List.nil_append] using (List.perm_middle.symm)) (fun yv IY MY hIY hYP => ?_))
        rcases hYP with ⟨rfl, Mr4, Mc4, rfl, hR4, hCl4⟩ | ⟨rfl, hSp4⟩
        ·
         obtain rfl : Mr4 = [] := hR4
         replace hy := hIY.blk _ _ hy
         replace hm := hIY.blk _ _ hm
         replace y_b := hIY.blk _ _ y_b
         replace hCl := hmono _ _ _ _ hIY hCl
         replace hCl := hCl4
         refine seq_mem (M' := ((Mc4 ++ (b2, Obj.cells #[.int .i64 (↑k), .int .i64 (↑t), .int .i64 (↑j + 1)] 54 (0, 0)) :: F))) (fun w h => by simpa only [List.append_assoc, List.cons_append, List.nil_append] using h) ?_
         refine pm (M' := ((b2, Obj.cells #[.int .i64 (↑k), .int .i64 (↑t), .int .i64 (↑j + 1)] 54 (0, 0)) :: (Mc4 ++ F))) List.perm_middle ?_
         refine sp 2 [(53, .bool (!(true)))] ?_
         refine se ?_
         refine rcf 53 rfl ?_
         refine rskip ?_
         refine pst_normal_block ?_
         refine pst_next ?_
         refine rr ?_
         refine sp 1 [(37, .int .i64 (↑j + 1))] ?_
         refine sd (da 38 (↑j + 1) (1)) ?_
         refine sp 1 [(6, .int .i64 ((↑j + 1) + 1))] ?_
         refine ee ?_
         refine pst_back ((Y.tracks.getD (k) []).length - (j+1)) (by omega) ?_
         intro a w hS hD hW
         exact ⟨IY, j+1, xs3 ++ [mk3 k t (j + 1)], Mc4, (Imm.le.trans (Imm.le.trans hJ2 hle5) hIY), by omega, by rw [← hx3, drawsFT_yes (by omega) hme]; simp, hCl, hS.sub (.consE 6 rfl rfl (.cons 0 rfl (.cons 1 rfl (.cons 2 rfl (.cons 4 rfl (.cons 5 rfl (.cons 13 rfl (.cons 14 rfl (.cons 22 rfl (.cons 23 rfl (.nil _))))))))))), hD, (hW.perm (List.Perm.refl _)).sub (List.Sublist.cons _ (List.Sublist.refl _)), rfl⟩
        ·
         replace hy := hIY.blk _ _ hy
         replace hm := hIY.blk _ _ hm
         replace y_b := hIY.blk _ _ y_b
         replace hCl := hmono _ _ _ _ hIY hCl
         refine seq_mem (M' := ((MY ++ (b2, Obj.cells #[.int .i64 (↑k), .int .i64 (↑t), .int .i64 (↑j + 1)] 54 (0, 0)) :: F))) (fun w h => by simpa only [List.append_assoc, List.cons_append, List.nil_append] using h) ?_
         refine pm (M' := ((b2, Obj.cells #[.int .i64 (↑k), .int .i64 (↑t), .int .i64 (↑j + 1)] 54 (0, 0)) :: (MY ++ F))) List.perm_middle ?_
         refine sp 2 [(53, .bool (!(false)))] ?_
         refine se ?_
         refine rct 53 rfl ?_
         refine rret ?_
         refine (pst_ret_block (pst_ret_pass (pst_ret_pass (pst_ret_block (pst_ret_block (pst_ret_pass (pst_ret_pass (pst_ret_block (pst_ret_block (pst_ret_pass (pst_ret_pass (pst_ret_block ?_))))))))))))
         refine ppm (M' := ((MY ++ (b2, Obj.cells #[.int .i64 (↑k), .int .i64 (↑t), .int .i64 (↑j + 1)] 54 (0, 0)) :: F))) (List.perm_middle.symm) ?_
         refine pst_ret0 (MY) (by kernel_rfl) (List.Sublist.append_left (List.Sublist.cons _ (List.Sublist.refl _)) _) (Imm.le.trans (Imm.le.trans (Imm.le.trans (Imm.le.trans hJ0 hJ1) hJ2) hle5) hIY) ?_
         exact .inr ⟨_, hSp4⟩
       ·
        have h4_b := h4
        have h4_b := dec_f h4_b
        refine sp 5 [(53, .bool (false))] ?_
        refine se ?_
        refine rcf 53 rfl ?_
        refine rskip ?_
        refine pst_normal_block ?_
        refine pst_next ?_
        refine rr ?_
        refine sp 1 [(37, .int .i64 (↑j + 1))] ?_
        refine sd (da 38 (↑j + 1) (1)) ?_
        refine sp 1 [(6, .int .i64 ((↑j + 1) + 1))] ?_
        refine ee ?_
        refine pst_back ((Y.tracks.getD (k) []).length - (j+1)) (by omega) ?_
        intro a w hS hD hW
        exact ⟨I4, j+1, xs3, Mc3, (Imm.le.trans hJ2 hle5), by omega, by rw [← hx3, drawsFT_no (by omega) (show mayErr Y (mk3 k t (j + 1)) ≠ 0 from h4_b)], hCl, hS.sub (.consE 6 rfl rfl (.cons 0 rfl (.cons 1 rfl (.cons 2 rfl (.cons 4 rfl (.cons 5 rfl (.cons 13 rfl (.cons 14 rfl (.cons 22 rfl (.cons 23 rfl (.nil _))))))))))), hD, (hW.perm (List.Perm.refl _)).sub (List.Sublist.cons _ (List.Sublist.refl _)), rfl⟩
      ·
       have h3_r := h3
       have h3 := leq_f h3
       refine rexit 4 ?_
       refine (pst_exit_pass (pst_exit_pass (pst_exit_block ?_)))
       refine pst_normal_block ?_
       refine pst_next ?_
       refine rr ?_
       refine sd (da 54 (↑t) (1)) ?_
       refine sp 1 [(23, .int .i64 (↑t + 1))] ?_
       refine ee ?_
       refine pst_back (Y.tracks.length - (t+1)) (by omega) ?_
       intro a w hS hD hW
       exact ⟨J2, t+1, xs3, Mc3, (Imm.le.trans hJ1 hJ2), by omega, by rw [← hx3, drawsFT_done (Y := Y) (f := k) (t := t) (k := j) (by omega), List.nil_append], hCl, hS.sub (.consE 23 rfl rfl (.cons 0 rfl (.cons 1 rfl (.cons 2 rfl (.cons 4 rfl (.cons 13 rfl (.cons 14 rfl (.cons 22 rfl (.nil _))))))))), hD, hW, rfl⟩
    ·
     have h2_r := h2
     have h2 := lss_f h2
     refine rexit 2 ?_
     refine (pst_exit_pass (pst_exit_pass (pst_exit_block ?_)))
     refine pst_normal_block ?_
     refine pst_next ?_
     refine rr ?_
     refine sd (da 55 (↑k) (1)) ?_
     refine sp 1 [(14, .int .i64 (↑k + 1))] ?_
     refine ee ?_
     refine pst_back (Y.tracks.length - (k+1)) (by omega) ?_
     intro a w hS hD hW
     exact ⟨J1, k+1, xs2, Mc2, (Imm.le.trans hJ0 hJ1), by omega, by rw [← hx2, drawsF_done (Y := Y) (f := k) (t := t) (by omega), List.nil_append], hCl, hS.sub (.consE 14 rfl rfl (.cons 0 rfl (.cons 1 rfl (.cons 2 rfl (.cons 13 rfl (.nil _)))))), hD, hW, rfl⟩
  ·
   have h1_r := h1
   have h1 := lss_f h1
   refine rexit 0 ?_
   refine (pst_exit_pass (pst_exit_pass (pst_exit_block ?_)))
   refine pst_end0 (Mc1) (by kernel_rfl) (List.Sublist.append_left (List.Sublist.refl _) _) hJ0 ?_
   exact .inl ⟨[], Mc1, rfl, rfl, (show xs1 = draws Y by rw [← hx1, drawsY_done (Y := Y) (f := k) (by omega), List.append_nil]) ▸ hCl⟩

end Go.Proofs.YtcaocbhbofejnaaDoor
namespace Go.Proofs.YtcaocbhbofejnaaDoor
open Go Go.Sl Go.Sh
set_option maxRecDepth 100000
noncomputable def c_Reach (p : List Nat) : Code := sub (bodyOf Tryd.f19) p
set_option maxHeartbeats 2000000 in
theorem Reach_ct (I : Imm) (y : Value) (Y : Yard) (dr : Int) (y_f : IsYard I y Y) (hG : Glob I) : Ct Tryd.prog 19 #[y, .int .i64 dr] I ([]) (fun v I' M' => v = .tuple #[.int .i64 ((reachE Y dr).1), .int .i64 ((reachE Y dr).2)] ∧ M' = []) := by
 obtain ⟨y1, y2, y3, y_e, y1_f, y2_f, y3_f⟩ := id y_f
 subst y_e
 obtain ⟨y1_a, y1_c, y1_b, y1_o, y1_e, y1_l, y1_m, y1_r⟩ := id y1_f
 subst y1_e
 obtain ⟨y2_a, y2_c, y2_b, y2_o, y2_e, y2_l, y2_m, y2_r⟩ := id y2_f
 subst y2_e
 obtain ⟨y3_a, y3_c, y3_b, y3_o, y3_vs, y3_e, y3_l, y3_m, y3_r, y3_w⟩ := id y3_f
 subst y3_e
 refine fnM_of_run (fn := Tryd.f19) (args := [_, _]) (N := 73) Tryd.func19 rfl (by kernel_rfl) (Nat.le_of_ble_eq_true rfl) (fun F => ?_)
 show Run _ _ (c_Reach []) _ _ [(0, .agg #[.slice y1_a Y.cars.length y1_c, .slice y2_a Y.room.length y2_c, .slice y3_a Y.tracks.length y3_c]), (1, .int .i64 (dr))] _ _
 refine rnm ?_
 refine rqr ?_
 refine sS (sb 2 26 #[.slice y1_a Y.cars.length y1_c, .slice y2_a Y.room.length y2_c, .slice y3_a Y.tracks.length y3_c] (fun b1 => ?_))
 refine sp 2 [(5, .int .i64 (0)), (4, .int .i64 (0))] ?_
 refine se ?_
 refine rq ?_
 refine rqr ?_
 refine sd (dnb 16 0 0 b1 [.slice y1_a Y.cars.length y1_c, .slice y2_a Y.room.length y2_c, .slice y3_a Y.tracks.length y3_c]) ?_
 refine sd (dc 17 (fun I' hI => (Check_ct I' _ (Y) ((mkYard y1_f y2_f y3_f).mono hI) :))) ?_
 refine sp 1 [(6, .int .i64 ((checkErr Y)))] ?_
 refine sn ?_
 refine sp 2 [(19, .bool (!(cmp .eql ((checkErr Y)) (0))))] ?_
 refine se ?_
 refine rc 19 rfl (fun h1 => ?_) (fun h1 => ?_)
 ·
  have h1_r := h1
  have h1 := not_t h1
  have h1 := eql_f h1
  refine rqr ?_
  refine sp 3 [(5, .int .i64 ((checkErr Y))), (4, .int .i64 (0))] ?_
  refine se ?_
  refine rret ?_
  refine (pst_ret_pass ?_)
  refine pst_marks (R := ((b1, Obj.cells #[.slice y1_a Y.cars.length y1_c, .slice y2_a Y.room.length y2_c, .slice y3_a Y.tracks.length y3_c] 26 (0, 0)) :: F)) [] (.inl rfl) (List.Perm.refl _) ?_
  refine pst_ret2 (t := 4) (u := 5) [] (by kernel_rfl) rfl rfl (List.Sublist.cons _ (List.Sublist.refl _)) (Imm.le.refl _) ?_
  exact ⟨(congrArg (fun p : Int × Int => Value.tuple #[.int .i64 p.1, .int .i64 p.2]) (reachE_bad h1).symm), rfl⟩
 ·
  have h1_r := h1
  have h1 := not_f h1
  have h1 := eql_t h1
  refine rskip ?_
  refine pst_next ?_
  refine rq ?_
  refine rq ?_
  have hvl : Valid Y := by (show checkErr Y = 0; omega)
  have hfa := hvl.fine; have hgood := hvl.good; have hl1 := hvl.lens
  refine rr ?_
  refine sp 1 [(21, .int .i64 (dr))] ?_
  refine sd (dc 22 (fun I' hI => (in_ct I' (dr) (0) (4) :))) ?_
  refine sp 1 [(23, .bool (!(inB dr 0 4)))] ?_
  refine se ?_
  refine rc 23 rfl (fun h2 => ?_) (fun h2 => ?_)
  ·
   have h2_r := h2
   have h2 := not_t h2
   have h2_p := inB_f h2
   refine rqr ?_
   refine sp 2 [(5, .int .i64 (1)), (4, .int .i64 (0))] ?_
   refine se ?_
   refine rret ?_
   refine (pst_ret_pass ?_)
   refine pst_marks (R := ((b1, Obj.cells #[.slice y1_a Y.cars.length y1_c, .slice y2_a Y.room.length y2_c, .slice y3_a Y.tracks.length y3_c] 26 (0, 0)) :: F)) [] (.inl rfl) (List.Perm.refl _) ?_
   refine pst_ret2 (t := 4) (u := 5) [] (by kernel_rfl) rfl rfl (List.Sublist.cons _ (List.Sublist.refl _)) (Imm.le.refl _) ?_
   exact ⟨(congrArg (fun p : Int × Int => Value.tuple #[.int .i64 p.1, .int .i64 p.2]) (reachE_far hvl h2).symm), rfl⟩
  ·
   have h2_r := h2
   have h2 := not_f h2
   have h2_p := inB_t h2
   have hin : inB dr 0 4 = true := h2
   refine rskip ?_
   refine pst_next ?_
   refine rq ?_
   obtain ⟨d, hdd⟩ : ∃ d : Nat, dr = ↑d := ⟨dr.toNat, by have := inB_t hin; omega⟩
   have hd4 := inB_t hin
   refine rr ?_
   refine sd (dnb 24 0 0 b1 [.slice y1_a Y.cars.length y1_c, .slice y2_a Y.room.length y2_c, .slice y3_a Y.tracks.length y3_c]) ?_
   have hct21 := copied_ct I _ (Y) (mkYard y1_f y2_f y3_f) (by omega) (by omega) (by omega) (by exact hgood.le)
   refine sS (sc (some 25) (F := ((b1, Obj.cells #[.slice y1_a Y.cars.length y1_c, .slice y2_a Y.room.length y2_c, .slice y3_a Y.tracks.length y3_c] 26 (0, 0)) :: F)) (hct21 :) (.refl _) (fun rv19 I3 rm20 hle4 hp5 => ?_))
   obtain ⟨u_08, Ms_09, u_110, Ms_111, u_212, ws_213, Ms_214, hv6, hm7, qh15, qh16, qh17, qr18⟩ := hp5
   rw [hv6, hm7]; clear hv6 hm7
   replace hG := hG.mono hle4
   obtain ⟨u_08_a, u_08_c, u_08_e, u_08_l⟩ := qh15.shape
   subst u_08_e
   obtain ⟨u_110_a, u_110_c, u_110_e, u_110_l⟩ := qh16.shape
   subst u_110_e
   obtain ⟨u_212_a, u_212_c, u_212_e, u_212_l⟩ := qh17.shape
   subst u_212_e
   have qr18_len := qr18.1
   try simp only [List.length_set, List.length_append, List.length_cons, List.length_nil, List.length_take] at qr18_len
   refine seq_mem (M' := ((Ms_09 ++ (Ms_111 ++ (Ms_214 ++ (b1, Obj.cells #[.slice y1_a Y.cars.length y1_c, .slice y2_a Y.room.length y2_c, .slice y3_a Y.tracks.length y3_c] 26 (0, 0)) :: F))))) (fun w h => by simpa only [List.append_assoc, List.cons_append, List.nil_append] using h) ?_
   refine pm (M' := ((b1, Obj.cells #[.slice y1_a Y.cars.length y1_c, .slice y2_a Y.room.length y2_c, .slice y3_a Y.tracks.length y3_c] 26 (0, 0)) :: (Ms_09 ++ (Ms_111 ++ (Ms_214 ++ F))))) ((List.Perm.append_left _ ((List.Perm.append_left _ List.perm_middle).trans List.perm_middle)).trans List.perm_middle) ?_
   show Seq _ _ _ _ _ _ ((25, .agg #[.slice u_08_a Y.cars.length u_08_c, .slice u_110_a Y.room.length u_110_c, .slice u_212_a ws_213.length u_212_c]) :: _) _ _
   refine sfz (A := ((b1, Obj.cells #[.slice y1_a Y.cars.length y1_c, .slice y2_a Y.room.length y2_c, .slice y3_a Y.tracks.length y3_c] 26 (0, 0)) :: (Ms_111 ++ (Ms_214 ++ F)))) noCar qh15 (List.perm_middle.symm) (fun I22 hle23 fz24_f => ?_)
   replace hG := hG.mono hle23
   replace qr18 := qr18.mono hle23
   obtain ⟨fz24_a, fz24_c, fz24_b, fz24_o, fz24_e, fz24_l, fz24_m, fz24_r⟩ := id fz24_f
   cases fz24_e
   refine sfz (A := ((b1, Obj.cells #[.slice y1_a Y.cars.length y1_c, .slice y2_a Y.room.length y2_c, .slice y3_a Y.tracks.length y3_c] 26 (0, 0)) :: (Ms_214 ++ F))) 0 qh16 (List.perm_middle.symm) (fun I25 hle26 fz27_f => ?_)
   replace hG := hG.mono hle26
   replace qr18 := qr18.mono hle26
   replace fz24_f := fz24_f.mono hle26
   obtain ⟨fz27_a, fz27_c, fz27_b, fz27_o, fz27_e, fz27_l, fz27_m, fz27_r⟩ := id fz27_f
   cases fz27_e
   refine sp 1 [(26, .agg #[.slice u_08_a Y.cars.length u_08_c, .slice u_110_a Y.room.length u_110_c, .slice u_212_a ws_213.length u_212_c])] ?_
   refine sS (sb 27 87 #[.slice u_08_a Y.cars.length u_08_c, .slice u_110_a Y.room.length u_110_c, .slice u_212_a ws_213.length u_212_c] (fun b28 => ?_))
   refine sp 1 [(7, .pointer (some ⟨b28, 0, none⟩))] ?_
   refine sn ?_
   refine sS (stp_makeMap (d := 28) (T := 92) (ty := 92) (gd := none) (by kernel_rfl) rfl (fun b30 => ?_))
   refine sp 1 [(29, .pointer (some ⟨b28, 0, none⟩))] ?_
   have hct39 := where_ct I25 (b28) _ _ _ _ _ (Y) fz24_f fz27_f qh17 qr18 (by exact hgood.ok) (by exact hfa.cars) (by omega)
   refine sS (sc (some 30) (F := ((b30, Obj.map #[] 0) :: (b1, Obj.cells #[.slice y1_a Y.cars.length y1_c, .slice y2_a Y.room.length y2_c, .slice y3_a Y.tracks.length y3_c] 26 (0, 0)) :: F)) (hct39 :) ((List.Perm.swap _ _ _).trans (List.Perm.cons _ ((List.Perm.cons _ (List.perm_middle.symm)).trans (List.perm_middle.symm)))) (fun rv37 I32 rm38 hle33 hp34 => ?_))
   obtain ⟨hv35, hm36⟩ := hp34
   rw [hv35, hm36]; clear hv35 hm36
   replace hG := hG.mono hle33
   replace qr18 := qr18.mono hle33
   replace fz24_f := fz24_f.mono hle33
   replace fz27_f := fz27_f.mono hle33
   refine seq_mem (M' := ((b28, Obj.cells #[.slice u_08_a Y.cars.length u_08_c, .slice u_110_a Y.room.length u_110_c, .slice u_212_a ws_213.length u_212_c] 87 (0, 0)) :: (Ms_214 ++ (b30, Obj.map #[] 0) :: (b1, Obj.cells #[.slice y1_a Y.cars.length y1_c, .slice y2_a Y.room.length y2_c, .slice y3_a Y.tracks.length y3_c] 26 (0, 0)) :: F))) (fun w h => by simpa only [List.append_assoc, List.cons_append, List.nil_append] using h) ?_
   refine pm (M' := ((b28, Obj.cells #[.slice u_08_a Y.cars.length u_08_c, .slice u_110_a Y.room.length u_110_c, .slice u_212_a ws_213.length u_212_c] 87 (0, 0)) :: (b30, Obj.map #[] 0) :: (b1, Obj.cells #[.slice y1_a Y.cars.length y1_c, .slice y2_a Y.room.length y2_c, .slice y3_a Y.tracks.length y3_c] 26 (0, 0)) :: (Ms_214 ++ F))) (List.Perm.cons _ (List.perm_middle.trans (List.Perm.cons _ List.perm_middle))) ?_
   show Seq _ _ _ _ _ _ ((30, .agg (plCells (placeOf Y).val)) :: _) _ _
   refine sS (stp_insert (x := (.tmp 28)) (y := (.tmp 30)) (u := (.const (.bool true))) (T := 92) (kt := 90) (et := 4) (k := (placeOf Y)) (kvs := trues ([])) 1 (ty := 0) (gd := none) (by kernel_rfl) rfl (by kernel_rfl) (keyOk_place (by kernel_rfl) (by kernel_rfl)) rfl rfl rfl rfl (MapIs.nil _) (fun es40 cl40 his40 => ?_))
   rw [upd_trues] at his40
   rw [if_neg (by simp)] at his40
   refine nm ?_
   refine sp 1 [(31, .map (some b30))] ?_
   refine sS (sal 8 92 #[.map none] (fun b41 => ?_))
   refine sS (ss 0 0 b41 [.map (some b30)] [.map (some b30)] (_ :: _ :: _ :: _ :: _) (cs := [_]) rfl rfl ?_)
   refine se ?_
   refine rq ?_
   refine rn_freeze (B := ((b41, Obj.cells #[.map (some b30)] 92 (0, 0)) :: (b28, Obj.cells #[.slice u_08_a Y.cars.length u_08_c, .slice u_110_a Y.room.length u_110_c, .slice u_212_a ws_213.length u_212_c] 87 (0, 0)) :: (b30, Obj.map es40 cl40) :: (b1, Obj.cells #[.slice y1_a Y.cars.length y1_c, .slice y2_a Y.room.length y2_c, .slice y3_a Y.tracks.length y3_c] 26 (0, 0)) :: F)) undef qh17 (by first | omega | (simp only [List.length_set, List.length_cons, List.length_nil, List.length_append, List.length_take, List.length_drop] <;> omega) | decide) ((List.Perm.cons _ ((List.Perm.cons _ ((List.Perm.cons _ (List.perm_middle.symm)).trans (List.perm_middle.symm))).trans (List.perm_middle.symm))).trans (List.perm_middle.symm)) (List.Perm.refl _) (fun I43 hle44 fz45_f => ?_)
   replace hG := hG.mono hle44
   replace qr18 := qr18.mono hle44
   replace fz24_f := fz24_f.mono hle44
   replace fz27_f := fz27_f.mono hle44
   obtain ⟨fz45_a, fz45_c, fz45_b, fz45_o, fz45_e, fz45_l, fz45_m, fz45_r⟩ := id fz45_f
   cases fz45_e
   have fr46_f := qr18.isRows fz45_f
   have fr46_len := qr18.1
   obtain ⟨fr46_a, fr46_c, fr46_b, fr46_o, fr46_vs, fr46_e, fr46_l, fr46_m, fr46_r, fr46_w⟩ := id fr46_f
   injection fr46_e with fr46_e1 fr46_e2 fr46_e3; subst fr46_e1; subst fr46_e3
   refine run_hold (b := b28) (o := Obj.cells #[.slice u_08_a Y.cars.length u_08_c, .slice u_110_a Y.room.length u_110_c, .slice u_212_a ws_213.length u_212_c] 87 (0, 0)) (M0 := ((b41, Obj.cells #[.map (some b30)] 92 (0, 0)) :: (b30, Obj.map es40 cl40) :: (b1, Obj.cells #[.slice y1_a Y.cars.length y1_c, .slice y2_a Y.room.length y2_c, .slice y3_a Y.tracks.length y3_c] 26 (0, 0)) :: F)) (List.Perm.swap _ _ _) (fun I47 hle48 hb49 => ?_)
   replace hG := hG.mono hle48
   replace fz24_f := fz24_f.mono hle48
   replace fz27_f := fz27_f.mono hle48
   replace fr46_f := fr46_f.mono hle48
   refine run_hold (b := b41) (o := Obj.cells #[.map (some b30)] 92 (0, 0)) (M0 := ((b30, Obj.map es40 cl40) :: (b1, Obj.cells #[.slice y1_a Y.cars.length y1_c, .slice y2_a Y.room.length y2_c, .slice y3_a Y.tracks.length y3_c] 26 (0, 0)) :: F)) (List.Perm.refl _) (fun I50 hle51 hb52 => ?_)
   replace hG := hG.mono hle51
   replace fz24_f := fz24_f.mono hle51
   replace fz27_f := fz27_f.mono hle51
   replace fr46_f := fr46_f.mono hle51
   replace hb49 := hle51.blk _ _ hb49
   refine rr ?_
   refine sp 1 [(32, .pointer (some ⟨b28, 0, none⟩))] ?_
   refine sS (sbs 33 85 1 #[.pointer (some ⟨b28, 0, none⟩)] (fun b53 => ?_))
   refine sp 1 [(9, .slice (some ⟨b53, 0, none⟩) 1 1)] ?_
   refine se ?_
   refine rq ?_
   refine rq ?_
   refine rn_mem (M' := ((b30, Obj.map es40 cl40) :: (b1, Obj.cells #[.slice y1_a Y.cars.length y1_c, .slice y2_a Y.room.length y2_c, .slice y3_a Y.tracks.length y3_c] 26 (0, 0)) :: ([(b53, Obj.cells #[.pointer (some ⟨b28, 0, none⟩)] 85 (0, 0))] ++ F))) (fun w h => h.perm ((List.Perm.swap _ _ _).trans (List.Perm.cons _ (List.Perm.swap _ _ _)))) ?_
   have ho55 : Own 85 1 valCell (.slice (some ⟨b53, 0, none⟩) 1 1) ([(.pointer (some ⟨b28, 0, none⟩) : Value)] : List Value) [(b53, Obj.cells #[.pointer (some ⟨b28, 0, none⟩)] 85 (0, 0))] := Own.lit rfl rfl
   have hnow : YardsH 87 I50 [.pointer (some ⟨b28, 0, none⟩)] [Y] := (YardsH.nil _ _).snoc (YardH.mk hb49 fz24_f fz27_f fr46_f)
   refine rr ?_
   refine sp 1 [(34, .int .i64 (dr))] ?_
   refine seq_re 34 rfl (show (.int .i64 (dr) : Value) = .int .i64 (↑d) from congrArg (Value.int .i64) hdd) ?_
   refine sp 1 [(35, .int .i64 (0))] ?_
   refine se ?_
   refine rb 0 ?_
   refine rl (fun mz a w => ∃ J0 : Imm, ∃ k : Nat, ∃ nv : Value, ∃ nps : List Value, ∃ nM : Seg, ∃ zs : List Yard, ∃ met : List Sh.Place, ∃ es : Array MapEntry, ∃ cl : Nat, ∃ Ds : List Nat, (I50.le J0) ∧ (k ≤ d) ∧ (reachM d [placeOf Y] [Y] = reachM (d - k) met zs) ∧ (VisOk Y (met, zs)) ∧ (Own 85 1 valCell nv nps nM) ∧ (YardsH 87 J0 nps zs) ∧ (MapIs encP es (trues met)) ∧ Slots 73 [(9, nv), (35, .int .i64 ↑k), (4, .int .i64 (0)), (5, .int .i64 (0)), (8, .pointer (some ⟨b41, 0, none⟩)), (34, .int .i64 (↑d))] a ∧ a.defers = Ds.map Sl.mark ∧ St J0 ((b30, Obj.map es cl) :: (b1, Obj.cells #[.slice y1_a Y.cars.length y1_c, .slice y2_a Y.room.length y2_c, .slice y3_a Y.tracks.length y3_c] 26 (0, 0)) :: (nM ++ (Sl.blocksOf Ds ++ F))) w ∧ mz = d - k) ?_ ?_
   ·intro a w hS hD hW
    exact ⟨_, I50, 0, (.slice (some ⟨b53, 0, none⟩) 1 1), ([(.pointer (some ⟨b28, 0, none⟩) : Value)] : List Value), [(b53, Obj.cells #[.pointer (some ⟨b28, 0, none⟩)] 85 (0, 0))], [Y], [placeOf Y], es40, cl40, [], Imm.le.refl _, Nat.zero_le _, rfl, VisOk.start Y, ho55, hnow, his40, hS.sub (.cons 9 rfl (.cons 35 rfl (.cons 4 rfl (.cons 5 rfl (.cons 8 rfl (.cons 34 rfl (.nil _))))))), hD, hW, rfl⟩
   ·rintro mz a w ⟨J0, k, nv, nps, nM, zs, met, es, cl, Ds, hJ0, hk, hr, hvo, no, hnow, hism, hS, hD, hW, rfl⟩
    refine run_at hS hD hW ?_
    clear hS hD hW a w
    replace hG := hG.mono hJ0
    replace hb49 := hJ0.blk _ _ hb49
    replace hb52 := hJ0.blk _ _ hb52
    obtain ⟨nv_a, nv_c, nv_e, nv_l⟩ := no.shape; subst nv_e
    have hnl := hnow.1
    have hzc : zs.length ≤ 5000 := (hvo.count hfa).2
    refine rqr ?_
    refine sp 1 [(36, .bool (cmp .lss (↑k) (↑d)))] ?_
    refine se ?_
    refine rq ?_
    refine rc 36 rfl (fun h3 => ?_) (fun h3 => ?_)
    ·
     have h3_r := h3
     have h3 := lss_t h3
     refine rskip ?_
     refine pst_next ?_
     refine rq ?_
     refine rb 1 ?_
     refine rqr ?_
     refine sS (sal 10 93 #[.slice none 0 0] (fun b56 => ?_))
     refine se ?_
     refine rq ?_
     refine rqr ?_
     refine sp 3 [(39, .int .i64 (0)), (38, .int .i64 (↑(nps.length))), (37, .slice nv_a nps.length nv_c)] ?_
     refine se ?_
     refine rb 2 ?_
     refine rl (fun mz a w => ∃ J1 : Imm, ∃ j : Nat, ∃ xv : Value, ∃ xps : List Value, ∃ xM : Seg, ∃ es1 : Array MapEntry, ∃ cl1 : Nat, ∃ Ds1 : List Nat, (J0.le J1) ∧ (j ≤ zs.length) ∧ (Own 85 1 valCell xv xps xM) ∧ (YardsH 87 J1 xps (visJ met zs j).2) ∧ (MapIs encP es1 (trues (visJ met zs j).1)) ∧ Slots 73 [(39, .int .i64 ↑j), (4, .int .i64 (0)), (5, .int .i64 (0)), (8, .pointer (some ⟨b41, 0, none⟩)), (9, .slice nv_a nps.length nv_c), (10, .pointer (some ⟨b56, 0, none⟩)), (34, .int .i64 (↑d)), (35, .int .i64 (↑k)), (37, .slice nv_a nps.length nv_c), (38, .int .i64 (↑(nps.length)))] a ∧ a.defers = Ds1.map Sl.mark ∧ St J1 ((b56, Obj.cells #[xv] 93 (0, 0)) :: (b30, Obj.map es1 cl1) :: (b1, Obj.cells #[.slice y1_a Y.cars.length y1_c, .slice y2_a Y.room.length y2_c, .slice y3_a Y.tracks.length y3_c] 26 (0, 0)) :: (nM ++ (Sl.blocksOf Ds1 ++ (xM ++ F)))) w ∧ mz = zs.length - j) ?_ ?_
     ·intro a w hS hD hW
      exact ⟨_, J0, 0, (.slice none 0 0), [], [], es, cl, Ds, Imm.le.refl _, Nat.zero_le _, Own.nil _ _ _, (by rw [visJ_zero]; exact YardsH.nil _ _), (by rw [visJ_zero]; exact hism), hS.sub (.cons 39 rfl (.cons 4 rfl (.cons 5 rfl (.cons 8 rfl (.cons 9 rfl (.cons 10 rfl (.cons 34 rfl (.cons 35 rfl (.cons 37 rfl (.cons 38 rfl (.nil _))))))))))), hD, hW, rfl⟩
     ·rintro mz a w ⟨J1, j, xv, xps, xM, es1, cl1, Ds1, hJ1, hj, xo, xh, his1, hS, hD, hW, rfl⟩
      refine run_at hS hD hW ?_
      clear hS hD hW a w
      replace hG := hG.mono hJ1
      replace hb49 := hJ1.blk _ _ hb49
      replace hb52 := hJ1.blk _ _ hb52
      replace hnow := hnow.mono hJ1
      obtain ⟨xv_a, xv_c, xv_e, xv_l⟩ := xo.shape; subst xv_e
      refine rqr ?_
      refine sp 1 [(40, .bool (cmp .lss (↑j) (↑(nps.length))))] ?_
      refine se ?_
      refine rq ?_
      refine rc 40 rfl (fun h4 => ?_) (fun h4 => ?_)
      ·
       have h4_r := h4
       have h4 := lss_t h4
       refine rskip ?_
       refine pst_next ?_
       refine rq ?_
       refine rb 3 ?_
       refine rqr ?_
       obtain ⟨ob58, orr59⟩ := no.row undef
       refine sd (di 41 1 (j) orr59.addr) ?_
       obtain ⟨xb, hx_1, hx_2, hx_3, hx_e, hx_b, hx_1f, hx_2f, hx_3f⟩ := hnow.2 (j) (by omega)
       have hx_1_f := hx_1f
       obtain ⟨hx_1_a, hx_1_c, hx_1_b, hx_1_o, hx_1_e, hx_1_l, hx_1_m, hx_1_r⟩ := id hx_1_f
       subst hx_1_e
       have hx_2_f := hx_2f
       obtain ⟨hx_2_a, hx_2_c, hx_2_b, hx_2_o, hx_2_e, hx_2_l, hx_2_m, hx_2_r⟩ := id hx_2_f
       subst hx_2_e
       have hx_3_f := hx_3f
       obtain ⟨hx_3_a, hx_3_c, hx_3_b, hx_3_o, hx_3_vs, hx_3_e, hx_3_l, hx_3_m, hx_3_r, hx_3_w⟩ := id hx_3_f
       subst hx_3_e
       have hx_3r_len : ((zs.getD (j) noYard).tracks).length = ((zs.getD (j) noYard).tracks).length := rfl
       refine sd (det_eq (dl 42 (orr59.get (j) (by omega) 0 (by decide) _ _ (fun x hx => by simp [hx]))) hx_e) ?_
       refine sS (sal 12 85 #[.pointer none] (fun b60 => ?_))
       refine sS (ss 0 0 b60 [.pointer (some ⟨xb, 0, none⟩)] [.pointer (some ⟨xb, 0, none⟩)] (_ :: _ :: _ :: _ :: _) (cs := [_]) rfl rfl ?_)
       refine se ?_
       refine rq ?_
       have hkx : Kin Y (zs.getD (j) noYard) := hvo.kin _ (getD_mem (d := noYard) (xs := zs) (k := j) (by omega))
       have hgx := Kin.good hfa hkx; have hlx := hkx.lens hfa; have hgx5 := hkx.cars5 hfa
       have hvj : VisOk Y (visJ met zs j) := hvo.j hfa j
       refine run_hold (b := b60) (o := Obj.cells #[.pointer (some ⟨xb, 0, none⟩)] 85 (0, 0)) (M0 := ((b56, Obj.cells #[.slice xv_a xps.length xv_c] 93 (0, 0)) :: (b30, Obj.map es1 cl1) :: (b1, Obj.cells #[.slice y1_a Y.cars.length y1_c, .slice y2_a Y.room.length y2_c, .slice y3_a Y.tracks.length y3_c] 26 (0, 0)) :: (nM ++ (Sl.blocksOf Ds1 ++ (xM ++ F))))) (List.Perm.refl _) (fun I62 hle63 hb64 => ?_)
       replace hG := hG.mono hle63
       replace hb49 := hle63.blk _ _ hb49
       replace hb52 := hle63.blk _ _ hb52
       replace xh := xh.mono hle63
       replace hx_1_f := hx_1_f.mono hle63
       replace hx_2_f := hx_2_f.mono hle63
       replace hx_3_f := hx_3_f.mono hle63
       replace hx_b := hle63.blk _ _ hx_b
       refine rr ?_
       refine sd (det_load (v := .pointer (some ⟨xb, 0, none⟩)) (x := (.tmp 12)) (T := 85) (d := 43) (ty := 85) (gd := none) (by kernel_rfl) rfl (by kernel_rfl) rfl (sees_held hb64 rfl)) ?_
       have hct76 := shifts_ct I62 (xb)
       refine sS (sc (some 44) (F := ((b56, Obj.cells #[.slice xv_a xps.length xv_c] 93 (0, 0)) :: (b30, Obj.map es1 cl1) :: (b1, Obj.cells #[.slice y1_a Y.cars.length y1_c, .slice y2_a Y.room.length y2_c, .slice y3_a Y.tracks.length y3_c] 26 (0, 0)) :: (nM ++ (Sl.blocksOf Ds1 ++ (xM ++ F))))) (hct76 :) (.refl _) (fun rv74 I65 rm75 hle66 hp67 => ?_))
       obtain ⟨by_70, bm71, hv68, hm69, qp72, qp73⟩ := hp67
       rw [hv68, hm69]; clear hv68 hm69
       replace hG := hG.mono hle66
       replace hb49 := hle66.blk _ _ hb49
       replace hb52 := hle66.blk _ _ hb52
       replace xh := xh.mono hle66
       replace hx_1_f := hx_1_f.mono hle66
       replace hx_2_f := hx_2_f.mono hle66
       replace hx_3_f := hx_3_f.mono hle66
       replace hx_b := hle66.blk _ _ hx_b
       replace hb64 := hle66.blk _ _ hb64
       refine nm ?_
       show Seq _ _ _ _ _ _ ((44, .func (.func 72) #[] #[.pointer (some ⟨by_70, 0, none⟩), .pointer (some ⟨bm71, 0, none⟩)]) :: _) _ _
       refine se ?_
       refine rb 4 ?_
       refine run_rangeFunc (α := Shift) (g := (.tmp 44)) (ps := #[45]) (assign := c_Reach [1, 1, 1, 1, 1, 1, 0, 1, 0, 0, 1, 1, 0, 0, 1, 0, 1, 0, 0, 1, 1, 0, 0, 1, 1, 0, 0]) (body := c_Reach [1, 1, 1, 1, 1, 1, 0, 1, 0, 0, 1, 1, 0, 0, 1, 0, 1, 0, 0, 1, 1, 0, 0, 1, 1, 0, 1]) (gf := 72) (cv := [.pointer (some ⟨by_70, 0, none⟩), .pointer (some ⟨bm71, 0, none⟩)]) (enc := encS) (seq := draws (zs.getD (j) noYard)) (R := NoR) (Mr := []) (M0 := ((b30, Obj.map es1 cl1) :: (b56, Obj.cells #[.slice xv_a xps.length xv_c] 93 (0, 0)) :: xM)) (F0 := ((b1, Obj.cells #[.slice y1_a Y.cars.length y1_c, .slice y2_a Y.room.length y2_c, .slice y3_a Y.tracks.length y3_c] 26 (0, 0)) :: (nM ++ (Sl.blocksOf Ds1 ++ F))))
        (fun xs I M => ∃ es cl nv nps nM, M = (b30, Obj.map es cl) :: (b56, Obj.cells #[nv] 93 (0, 0)) :: nM ∧ MapIs encP es (trues (visX (visJ met zs j) (zs.getD (j) noYard) xs).1) ∧ Own 85 1 valCell nv nps nM ∧ YardsH 87 I nps (visX (visJ met zs j) (zs.getD (j) noYard) xs).2) (fun _ _ _ _ => False) (fun x k => [(4, .int .i64 (0)), (5, .int .i64 (0)), (8, .pointer (some ⟨b41, 0, none⟩)), (10, .pointer (some ⟨b56, 0, none⟩)), (12, .pointer (some ⟨b60, 0, none⟩)), (13, .pointer (some ⟨k, 0, none⟩))]) (fun x k => [(k, Obj.cells #[.int .i64 (x.frm), .int .i64 (x.to), .int .i64 (x.many)] 54 (0, 0))])
        (by kernel_rfl) rfl (by kernel_rfl) (fun _ => rfl) (by kernel_rfl) (shifts1h_iter I65 xb by_70 bm71 _ _ _ (zs.getD (j) noYard) hG qp72 qp73 hx_b hx_1_f hx_2_f hx_3_f hgx hlx.2.2) ((fun xs I J M hle ⟨a, b, c, d, e, h1, h2, h3, h4⟩ => ⟨a, b, c, d, e, h1, h2, h3, h4.mono hle⟩)) (by simpa only [List.append_assoc, List.cons_append, List.nil_append] using ((List.Perm.swap _ _ _).trans (List.Perm.cons _ (List.Perm.cons _ ((List.Perm.cons _ ((List.Perm.append_left _ (List.perm_append_comm_assoc _ _ _)).trans (List.perm_append_comm_assoc _ _ _))).trans (List.perm_middle.symm)))))) rfl ⟨_, _, _, _, _, rfl, his1, xo, xh⟩ ?_ ?_ ?_ ?_
       ·intro L x I1 M1
        refine run_sub (l' := [(4, .int .i64 (0)), (5, .int .i64 (0)), (8, .pointer (some ⟨b41, 0, none⟩)), (10, .pointer (some ⟨b56, 0, none⟩)), (12, .pointer (some ⟨b60, 0, none⟩)), (45, .agg #[.int .i64 (x.frm), .int .i64 (x.to), .int .i64 (x.many)])]) (.cons 4 rfl (.cons 5 rfl (.cons 8 rfl (.cons 10 rfl (.cons 12 rfl (.cons 45 rfl (.nil _))))))) ?_
        refine rr ?_
        refine sS (sal 13 54 #[.int .i64 (0), .int .i64 (0), .int .i64 (0)] (fun b79 => ?_))
        refine sS (ss 0 0 b79 [.int .i64 (x.frm), .int .i64 (x.to), .int .i64 (x.many)] [.int .i64 (x.frm), .int .i64 (x.to), .int .i64 (x.many)] (_ :: _) (cs := [_, _, _]) rfl rfl ?_)
        refine ee ?_
        exact pst_meet (fun a w hS hD hW => ⟨b79, hS.sub (.cons 4 rfl (.cons 5 rfl (.cons 8 rfl (.cons 10 rfl (.cons 12 rfl (.cons 13 rfl (.nil _))))))), hD, hW⟩)
       ·intro L x k xs I1 Mr1 M1 F1 hpre hle1 hR1 hC1
        replace hb49 := hle1.blk _ _ hb49
        replace hb52 := hle1.blk _ _ hb52
        replace xh := xh.mono hle1
        replace hx_1_f := hx_1_f.mono hle1
        replace hx_2_f := hx_2_f.mono hle1
        replace hx_3_f := hx_3_f.mono hle1
        replace hx_b := hle1.blk _ _ hx_b
        replace hb64 := hle1.blk _ _ hb64
        replace qp72 := hle1.blk _ _ qp72
        replace qp73 := hle1.blk _ _ qp73
        obtain rfl : Mr1 = [] := hR1
        obtain ⟨es3, cl3, xv3, xps3, xM3, rfl, his3, xo3, xh3⟩ := hC1
        obtain ⟨xv3_a, xv3_c, xv3_e, xv3_l⟩ := xo3.shape; subst xv3_e
        have hmx : mayErr (zs.getD (j) noYard) x = 0 := mem_draws_may (mem_of_prefix hpre)
        have hvx : VisOk Y (visX (visJ met zs j) (zs.getD (j) noYard) xs) := VisOk.x hfa hvj hkx (prefix_left hpre)
        have hcx := (hvx.count hfa).2
        have hxl := xh3.1
        have hkz : Kin Y (moved (zs.getD (j) noYard) x) := hkx.moved hmx
        have hgz := Kin.good hfa hkz; have hlz := hkz.lens hfa; have hgz5 := hkz.cars5 hfa
        have hmo := mayErr_ok hmx
        refine run_mem (M' := ((k, Obj.cells #[.int .i64 (x.frm), .int .i64 (x.to), .int .i64 (x.many)] 54 (0, 0)) :: (b30, Obj.map es3 cl3) :: (b56, Obj.cells #[.slice xv3_a xps3.length xv3_c] 93 (0, 0)) :: (xM3 ++ F1))) (fun w h => by simpa only [List.append_assoc, List.cons_append, List.nil_append] using h) ?_
        refine rnm ?_
        refine rb 5 ?_
        refine rqr ?_
        refine sd (det_load (v := .pointer (some ⟨xb, 0, none⟩)) (x := (.tmp 12)) (T := 85) (d := 46) (ty := 85) (gd := none) (by kernel_rfl) rfl (by kernel_rfl) rfl (sees_held hb64 rfl)) ?_
        refine sp 1 [(47, .pointer (some ⟨xb, 0, none⟩))] ?_
        refine sd (det_fieldAddr (x := (.tmp 47)) (T := 87) (k := 0) (o := 0) (d := 48) (ty := 0) (gd := none) (by kernel_rfl) rfl (by kernel_rfl) rfl) ?_
        refine sd (det_loadN (x := (.tmp 48)) (T := 26) (n := 3) (vs := [.slice hx_1_a ((zs.getD (j) noYard).cars).length hx_1_c, .slice hx_2_a ((zs.getD (j) noYard).room).length hx_2_c, .slice hx_3_a ((zs.getD (j) noYard).tracks).length hx_3_c]) (d := 49) (ty := 26) (gd := none) (by kernel_rfl) rfl (by kernel_rfl) (by kernel_rfl) rfl rfl (seesN_held (n := 3) hx_b rfl)) ?_
        have hct99 := copied_ct I1 _ (zs.getD (j) noYard) (mkYard hx_1_f hx_2_f hx_3_f) (by omega) (by omega) (by omega) (by exact hgx.le)
        refine sS (sc (some 50) (F := ((k, Obj.cells #[.int .i64 (x.frm), .int .i64 (x.to), .int .i64 (x.many)] 54 (0, 0)) :: (b30, Obj.map es3 cl3) :: (b56, Obj.cells #[.slice xv3_a xps3.length xv3_c] 93 (0, 0)) :: (xM3 ++ F1))) (hct99 :) (.refl _) (fun rv97 I81 rm98 hle82 hp83 => ?_))
        obtain ⟨u_086, Ms_087, u_188, Ms_189, u_290, ws_291, Ms_292, hv84, hm85, qh93, qh94, qh95, qr96⟩ := hp83
        rw [hv84, hm85]; clear hv84 hm85
        replace hb49 := hle82.blk _ _ hb49
        replace hb52 := hle82.blk _ _ hb52
        replace hx_b := hle82.blk _ _ hx_b
        replace hb64 := hle82.blk _ _ hb64
        replace qp72 := hle82.blk _ _ qp72
        replace qp73 := hle82.blk _ _ qp73
        replace xh3 := xh3.mono hle82
        obtain ⟨u_086_a, u_086_c, u_086_e, u_086_l⟩ := qh93.shape
        subst u_086_e
        obtain ⟨u_188_a, u_188_c, u_188_e, u_188_l⟩ := qh94.shape
        subst u_188_e
        obtain ⟨u_290_a, u_290_c, u_290_e, u_290_l⟩ := qh95.shape
        subst u_290_e
        have qr96_len := qr96.1
        try simp only [List.length_set, List.length_append, List.length_cons, List.length_nil, List.length_take] at qr96_len
        refine seq_mem (M' := ((Ms_087 ++ (Ms_189 ++ (Ms_292 ++ (k, Obj.cells #[.int .i64 (x.frm), .int .i64 (x.to), .int .i64 (x.many)] 54 (0, 0)) :: (b30, Obj.map es3 cl3) :: (b56, Obj.cells #[.slice xv3_a xps3.length xv3_c] 93 (0, 0)) :: (xM3 ++ F1)))))) (fun w h => by simpa only [List.append_assoc, List.cons_append, List.nil_append] using h) ?_
        refine pm (M' := ((k, Obj.cells #[.int .i64 (x.frm), .int .i64 (x.to), .int .i64 (x.many)] 54 (0, 0)) :: (b30, Obj.map es3 cl3) :: (b56, Obj.cells #[.slice xv3_a xps3.length xv3_c] 93 (0, 0)) :: (Ms_087 ++ (Ms_189 ++ (Ms_292 ++ (xM3 ++ F1)))))) (((List.Perm.append_left _ ((List.Perm.append_left _ List.perm_middle).trans List.perm_middle)).trans List.perm_middle).trans (List.Perm.cons _ (((List.Perm.append_left _ ((List.Perm.append_left _ List.perm_middle).trans List.perm_middle)).trans List.perm_middle).trans (List.Perm.cons _ ((List.Perm.append_left _ ((List.Perm.append_left _ List.perm_middle).trans List.perm_middle)).trans List.perm_middle))))) ?_
        show Seq _ _ _ _ _ _ ((50, .agg #[.slice u_086_a (((zs.getD (j) noYard)).cars).length u_086_c, .slice u_188_a (((zs.getD (j) noYard)).room).length u_188_c, .slice u_290_a ws_291.length u_290_c]) :: _) _ _
        refine sfz (A := ((k, Obj.cells #[.int .i64 (x.frm), .int .i64 (x.to), .int .i64 (x.many)] 54 (0, 0)) :: (b30, Obj.map es3 cl3) :: (b56, Obj.cells #[.slice xv3_a xps3.length xv3_c] 93 (0, 0)) :: (Ms_189 ++ (Ms_292 ++ (xM3 ++ F1))))) noCar qh93 ((List.Perm.cons _ ((List.Perm.cons _ (List.perm_middle.symm)).trans (List.perm_middle.symm))).trans (List.perm_middle.symm)) (fun I100 hle101 fz102_f => ?_)
        replace hb49 := hle101.blk _ _ hb49
        replace hb52 := hle101.blk _ _ hb52
        replace hx_b := hle101.blk _ _ hx_b
        replace hb64 := hle101.blk _ _ hb64
        replace qp72 := hle101.blk _ _ qp72
        replace qp73 := hle101.blk _ _ qp73
        replace xh3 := xh3.mono hle101
        replace qr96 := qr96.mono hle101
        obtain ⟨fz102_a, fz102_c, fz102_b, fz102_o, fz102_e, fz102_l, fz102_m, fz102_r⟩ := id fz102_f
        cases fz102_e
        refine sfz (A := ((k, Obj.cells #[.int .i64 (x.frm), .int .i64 (x.to), .int .i64 (x.many)] 54 (0, 0)) :: (b30, Obj.map es3 cl3) :: (b56, Obj.cells #[.slice xv3_a xps3.length xv3_c] 93 (0, 0)) :: (Ms_292 ++ (xM3 ++ F1)))) 0 qh94 ((List.Perm.cons _ ((List.Perm.cons _ (List.perm_middle.symm)).trans (List.perm_middle.symm))).trans (List.perm_middle.symm)) (fun I103 hle104 fz105_f => ?_)
        replace hb49 := hle104.blk _ _ hb49
        replace hb52 := hle104.blk _ _ hb52
        replace hx_b := hle104.blk _ _ hx_b
        replace hb64 := hle104.blk _ _ hb64
        replace qp72 := hle104.blk _ _ qp72
        replace qp73 := hle104.blk _ _ qp73
        replace xh3 := xh3.mono hle104
        replace qr96 := qr96.mono hle104
        replace fz102_f := fz102_f.mono hle104
        obtain ⟨fz105_a, fz105_c, fz105_b, fz105_o, fz105_e, fz105_l, fz105_m, fz105_r⟩ := id fz105_f
        cases fz105_e
        refine sp 1 [(51, .agg #[.slice u_086_a (((zs.getD (j) noYard)).cars).length u_086_c, .slice u_188_a (((zs.getD (j) noYard)).room).length u_188_c, .slice u_290_a ws_291.length u_290_c])] ?_
        refine sS (sb 52 87 #[.slice u_086_a (((zs.getD (j) noYard)).cars).length u_086_c, .slice u_188_a (((zs.getD (j) noYard)).room).length u_188_c, .slice u_290_a ws_291.length u_290_c] (fun b106 => ?_))
        refine sp 1 [(14, .pointer (some ⟨b106, 0, none⟩))] ?_
        refine sn ?_
        refine sp 1 [(53, .pointer (some ⟨b106, 0, none⟩))] ?_
        refine sd (dnb 54 1 0 k [.int .i64 (x.frm), .int .i64 (x.to), .int .i64 (x.many)]) ?_
        have hct119 := move_ct I103 (b106) _ _ _ _ _ (((zs.getD (j) noYard))) (x) fz102_f fz105_f qh95 qr96 (by exact hmo.1) (by exact hmo.2.1) (by exact hmo.2.2) (by exact hgx.le)
        refine sS (sc (some 55) (F := ((k, Obj.cells #[.int .i64 (x.frm), .int .i64 (x.to), .int .i64 (x.many)] 54 (0, 0)) :: (b30, Obj.map es3 cl3) :: (b56, Obj.cells #[.slice xv3_a xps3.length xv3_c] 93 (0, 0)) :: (xM3 ++ F1))) (hct119 :) (List.Perm.cons _ ((List.Perm.cons _ ((List.Perm.cons _ (List.perm_middle.symm)).trans (List.perm_middle.symm))).trans (List.perm_middle.symm))) (fun rv117 I108 rm118 hle109 hp110 => ?_))
        obtain ⟨y_wt113, y_Mt114, hv111, hm112, qwh115, qwr116⟩ := hp110
        rw [hv111, hm112]; clear hv111 hm112
        replace hb49 := hle109.blk _ _ hb49
        replace hb52 := hle109.blk _ _ hb52
        replace hx_b := hle109.blk _ _ hx_b
        replace hb64 := hle109.blk _ _ hb64
        replace qp72 := hle109.blk _ _ qp72
        replace qp73 := hle109.blk _ _ qp73
        replace xh3 := xh3.mono hle109
        replace fz102_f := fz102_f.mono hle109
        replace fz105_f := fz105_f.mono hle109
        obtain ⟨wk120_a, wk120_c, wk120_e, wk120_l⟩ := id qwh115.shape
        have qwr116_len := qwr116.1
        try simp only [List.length_set, List.length_append, List.length_cons, List.length_nil, List.length_take] at qwr116_len
        refine seq_mem (M' := ((b106, Obj.cells #[.slice u_086_a (((zs.getD (j) noYard)).cars).length u_086_c, .slice u_188_a (((zs.getD (j) noYard)).room).length u_188_c, .slice u_290_a ws_291.length u_290_c] 87 (0, 0)) :: (y_Mt114 ++ (k, Obj.cells #[.int .i64 (x.frm), .int .i64 (x.to), .int .i64 (x.many)] 54 (0, 0)) :: (b30, Obj.map es3 cl3) :: (b56, Obj.cells #[.slice xv3_a xps3.length xv3_c] 93 (0, 0)) :: (xM3 ++ F1)))) (fun w h => by simpa only [List.append_assoc, List.cons_append, List.nil_append] using h) ?_
        refine pm (M' := ((b106, Obj.cells #[.slice u_086_a (((zs.getD (j) noYard)).cars).length u_086_c, .slice u_188_a (((zs.getD (j) noYard)).room).length u_188_c, .slice u_290_a ws_291.length u_290_c] 87 (0, 0)) :: (k, Obj.cells #[.int .i64 (x.frm), .int .i64 (x.to), .int .i64 (x.many)] 54 (0, 0)) :: (b30, Obj.map es3 cl3) :: (b56, Obj.cells #[.slice xv3_a xps3.length xv3_c] 93 (0, 0)) :: (y_Mt114 ++ (xM3 ++ F1)))) (List.Perm.cons _ (List.perm_middle.trans (List.Perm.cons _ (List.perm_middle.trans (List.Perm.cons _ List.perm_middle))))) ?_
        show Seq _ _ _ _ _ _ ((55, .tuple #[]) :: _) _ _
        refine sn ?_
        refine sp 1 [(56, .pointer (some ⟨b106, 0, none⟩))] ?_
        have hct128 := where_ct I108 (b106) _ _ _ _ _ (moved (((zs.getD (j) noYard))) x) fz102_f fz105_f qwh115 qwr116 (by exact hgz.ok) (by exact hgz5) (by omega)
        refine sS (sc (some 57) (F := ((k, Obj.cells #[.int .i64 (x.frm), .int .i64 (x.to), .int .i64 (x.many)] 54 (0, 0)) :: (b30, Obj.map es3 cl3) :: (b56, Obj.cells #[.slice xv3_a xps3.length xv3_c] 93 (0, 0)) :: (xM3 ++ F1))) (hct128 :) (List.Perm.cons _ ((List.Perm.cons _ ((List.Perm.cons _ (List.perm_middle.symm)).trans (List.perm_middle.symm))).trans (List.perm_middle.symm))) (fun rv126 I121 rm127 hle122 hp123 => ?_))
        obtain ⟨hv124, hm125⟩ := hp123
        rw [hv124, hm125]; clear hv124 hm125
        replace hb49 := hle122.blk _ _ hb49
        replace hb52 := hle122.blk _ _ hb52
        replace hx_b := hle122.blk _ _ hx_b
        replace hb64 := hle122.blk _ _ hb64
        replace qp72 := hle122.blk _ _ qp72
        replace qp73 := hle122.blk _ _ qp73
        replace xh3 := xh3.mono hle122
        replace fz102_f := fz102_f.mono hle122
        replace fz105_f := fz105_f.mono hle122
        replace qwr116 := qwr116.mono hle122
        refine seq_mem (M' := ((b106, Obj.cells #[.slice u_086_a (((zs.getD (j) noYard)).cars).length u_086_c, .slice u_188_a (((zs.getD (j) noYard)).room).length u_188_c, .slice u_290_a ws_291.length u_290_c] 87 (0, 0)) :: (y_Mt114 ++ (k, Obj.cells #[.int .i64 (x.frm), .int .i64 (x.to), .int .i64 (x.many)] 54 (0, 0)) :: (b30, Obj.map es3 cl3) :: (b56, Obj.cells #[.slice xv3_a xps3.length xv3_c] 93 (0, 0)) :: (xM3 ++ F1)))) (fun w h => by simpa only [List.append_assoc, List.cons_append, List.nil_append] using h) ?_
        refine pm (M' := ((b106, Obj.cells #[.slice u_086_a (((zs.getD (j) noYard)).cars).length u_086_c, .slice u_188_a (((zs.getD (j) noYard)).room).length u_188_c, .slice u_290_a ws_291.length u_290_c] 87 (0, 0)) :: (k, Obj.cells #[.int .i64 (x.frm), .int .i64 (x.to), .int .i64 (x.many)] 54 (0, 0)) :: (b30, Obj.map es3 cl3) :: (b56, Obj.cells #[.slice xv3_a xps3.length xv3_c] 93 (0, 0)) :: (y_Mt114 ++ (xM3 ++ F1)))) (List.Perm.cons _ (List.perm_middle.trans (List.Perm.cons _ (List.perm_middle.trans (List.Perm.cons _ List.perm_middle))))) ?_
        show Seq _ _ _ _ _ _ ((57, .agg (plCells (placeOf (moved (((zs.getD (j) noYard))) x)).val)) :: _) _ _
        refine sS (sal 15 90 #[.int .i64 (0), .int .i64 (0), .int .i64 (0), .int .i64 (0), .int .i64 (0), .int .i64 (0), .int .i64 (0), .int .i64 (0), .int .i64 (0), .int .i64 (0)] (fun b129 => ?_))
        refine sS (stp_storeW (T := 90) (x := (.tmp 15)) (y := (.tmp 57)) (n := 10) (vs := plCells (placeOf (moved (((zs.getD (j) noYard))) x)).val) (M' := ((b129, Obj.cells (plCells (placeOf (moved (((zs.getD (j) noYard))) x)).val) 90 (0, 0)) :: (b106, Obj.cells #[.slice u_086_a (((zs.getD (j) noYard)).cars).length u_086_c, .slice u_188_a (((zs.getD (j) noYard)).room).length u_188_c, .slice u_290_a ws_291.length u_290_c] 87 (0, 0)) :: (k, Obj.cells #[.int .i64 (x.frm), .int .i64 (x.to), .int .i64 (x.many)] 54 (0, 0)) :: (b30, Obj.map es3 cl3) :: (b56, Obj.cells #[.slice xv3_a xps3.length xv3_c] 93 (0, 0)) :: (y_Mt114 ++ (xM3 ++ F1)))) 0 (ty := 0) (gd := none) (by kernel_rfl) rfl rfl rfl (by kernel_rfl) rfl (plCells_size _) (plCells_one _) rfl (rfl) rfl ?_)
        refine se ?_
        refine rq ?_
        refine rn_freeze (B := ((b129, Obj.cells (plCells (placeOf (moved (((zs.getD (j) noYard))) x)).val) 90 (0, 0)) :: (b106, Obj.cells #[.slice u_086_a (((zs.getD (j) noYard)).cars).length u_086_c, .slice u_188_a (((zs.getD (j) noYard)).room).length u_188_c, .slice u_290_a ws_291.length u_290_c] 87 (0, 0)) :: (k, Obj.cells #[.int .i64 (x.frm), .int .i64 (x.to), .int .i64 (x.many)] 54 (0, 0)) :: (b30, Obj.map es3 cl3) :: (b56, Obj.cells #[.slice xv3_a xps3.length xv3_c] 93 (0, 0)) :: (xM3 ++ F1))) undef qwh115 (by first | omega | (simp only [List.length_set, List.length_cons, List.length_nil, List.length_append, List.length_take, List.length_drop] <;> omega) | decide) ((List.Perm.cons _ ((List.Perm.cons _ ((List.Perm.cons _ ((List.Perm.cons _ (List.perm_middle.symm)).trans (List.perm_middle.symm))).trans (List.perm_middle.symm))).trans (List.perm_middle.symm))).trans (List.perm_middle.symm)) (List.Perm.refl _) (fun I131 hle132 fz133_f => ?_)
        replace hb49 := hle132.blk _ _ hb49
        replace hb52 := hle132.blk _ _ hb52
        replace hx_b := hle132.blk _ _ hx_b
        replace hb64 := hle132.blk _ _ hb64
        replace qp72 := hle132.blk _ _ qp72
        replace qp73 := hle132.blk _ _ qp73
        replace xh3 := xh3.mono hle132
        replace fz102_f := fz102_f.mono hle132
        replace fz105_f := fz105_f.mono hle132
        replace qwr116 := qwr116.mono hle132
        obtain ⟨fz133_a, fz133_c, fz133_b, fz133_o, fz133_e, fz133_l, fz133_m, fz133_r⟩ := id fz133_f
        first | cases fz133_e | (injection fz133_e with fz133_e1 fz133_e2 fz133_e3; subst fz133_e1; subst fz133_e3; try rw [← fz133_e2] at fz133_f)
        have fr134_f := qwr116.isRows fz133_f
        have fr134_len := qwr116.1
        obtain ⟨fr134_a, fr134_c, fr134_b, fr134_o, fr134_vs, fr134_e, fr134_l, fr134_m, fr134_r, fr134_w⟩ := id fr134_f
        injection fr134_e with fr134_e1 fr134_e2 fr134_e3; subst fr134_e1; subst fr134_e3
        refine run_hold (b := b106) (o := Obj.cells #[.slice u_086_a (((zs.getD (j) noYard)).cars).length u_086_c, .slice u_188_a (((zs.getD (j) noYard)).room).length u_188_c, .slice u_290_a ws_291.length u_290_c] 87 (0, 0)) (M0 := ((b129, Obj.cells (plCells (placeOf (moved (((zs.getD (j) noYard))) x)).val) 90 (0, 0)) :: (k, Obj.cells #[.int .i64 (x.frm), .int .i64 (x.to), .int .i64 (x.many)] 54 (0, 0)) :: (b30, Obj.map es3 cl3) :: (b56, Obj.cells #[.slice xv3_a xps3.length xv3_c] 93 (0, 0)) :: (xM3 ++ F1))) (List.Perm.swap _ _ _) (fun I135 hle136 hb137 => ?_)
        replace hb49 := hle136.blk _ _ hb49
        replace hb52 := hle136.blk _ _ hb52
        replace hx_b := hle136.blk _ _ hx_b
        replace hb64 := hle136.blk _ _ hb64
        replace qp72 := hle136.blk _ _ qp72
        replace qp73 := hle136.blk _ _ qp73
        replace xh3 := xh3.mono hle136
        replace fz102_f := fz102_f.mono hle136
        replace fz105_f := fz105_f.mono hle136
        replace fr134_f := fr134_f.mono hle136
        refine rr ?_
        refine sd (det_load (v := .map (some b30)) (x := (.tmp 8)) (T := 92) (d := 58) (ty := 92) (gd := none) (by kernel_rfl) rfl (by kernel_rfl) rfl (sees_held hb52 rfl)) ?_
        refine sd (det_loadW (x := (.tmp 15)) (T := 90) (n := 10) (d := 59) (ty := 90) (gd := none) (by kernel_rfl) rfl (by kernel_rfl) (by kernel_rfl) (plCells_size _) rfl (.inl (List.mem_of_getElem? (i := 0) rfl))) ?_
        refine sd (det_lookup (x := (.tmp 58)) (y := (.tmp 59)) (T := 92) (kt := 90) (et := 4) (k := (placeOf (moved (((zs.getD (j) noYard))) x))) (kvs := trues ((visX (visJ met zs j) (zs.getD (j) noYard) xs).1)) (z := .bool false) (d := 60) (ty := 4) (gd := none) (by kernel_rfl) rfl (by kernel_rfl) (keyOk_place (by kernel_rfl) (by kernel_rfl)) rfl rfl (by kernel_rfl) (.inl (List.mem_of_getElem? (i := 2) rfl)) his3 (getKv_trues _ _)) ?_
        refine sd (det_not (x := (.tmp 60)) (T := 4) (d := 61) (ty := 4) (gd := none) (by kernel_rfl) rfl rfl) ?_
        refine se ?_
        refine rc 61 rfl (fun h5 => ?_) (fun h5 => ?_)
        ·
         have h5_r := h5
         have h5 := not_t h5
         have h5 := decI_f h5
         refine rqr ?_
         refine sd (det_load (v := .map (some b30)) (x := (.tmp 8)) (T := 92) (d := 62) (ty := 92) (gd := none) (by kernel_rfl) rfl (by kernel_rfl) rfl (sees_held hb52 rfl)) ?_
         refine sd (det_loadW (x := (.tmp 15)) (T := 90) (n := 10) (d := 63) (ty := 90) (gd := none) (by kernel_rfl) rfl (by kernel_rfl) (by kernel_rfl) (plCells_size _) rfl (.inl (List.mem_of_getElem? (i := 0) rfl))) ?_
         refine sS (stp_mapUpdate (x := (.tmp 62)) (y := (.tmp 63)) (u := (.const (.bool true))) (T := 92) (kt := 90) (et := 4) (k := (placeOf (moved (((zs.getD (j) noYard))) x))) (kvs := trues ((visX (visJ met zs j) (zs.getD (j) noYard) xs).1)) 2 (ty := 0) (gd := none) (by kernel_rfl) rfl (by kernel_rfl) (keyOk_place (by kernel_rfl) (by kernel_rfl)) rfl rfl rfl rfl his3 (fun es138 cl138 his138 => ?_))
         rw [upd_trues] at his138
         rw [if_neg h5] at his138
         refine nm ?_
         refine se ?_
         refine rr ?_
         refine sd (dlb 64 3 0 b56 (.slice xv3_a xps3.length xv3_c)) ?_
         refine sp 1 [(65, .pointer (some ⟨b106, 0, none⟩))] ?_
         refine sS (sbs 66 85 1 #[.pointer (some ⟨b106, 0, none⟩)] (fun b139 => ?_))
         refine sS (stp_append (d := 67) (x := (.tmp 64)) (y := (.tmp 66)) (T := 93) (T' := 93) (E := 85) (E' := 85) (sz := 1) (bs := 8) (z := .pointer none) (cell := valCell) (xs := xps3) (ys := [(.pointer (some ⟨b106, 0, none⟩) : Value)]) (Ms := xM3) (ty := 93) (gd := none) (by kernel_rfl) rfl (by kernel_rfl) (by kernel_rfl) (by kernel_rfl) (by kernel_rfl) (by kernel_rfl) (by decide) (by kernel_rfl) rfl rfl (xo3) ((List.Perm.cons _ ((List.Perm.cons _ ((List.Perm.cons _ ((List.Perm.cons _ (List.perm_middle.symm)).trans (List.perm_middle.symm))).trans (List.perm_middle.symm))).trans (List.perm_middle.symm))).trans (List.perm_middle.symm)) (one_valCell rfl) (src_atS 0 rfl rfl) (by first | omega | (simp only [List.length_cons, List.length_nil, List.length_append, List.length_take, List.length_drop]; omega)) (fun v141 Ms141 ho141 => ?_))
         refine seq_mem (M' := ((b129, Obj.cells (plCells (placeOf (moved (((zs.getD (j) noYard))) x)).val) 90 (0, 0)) :: (k, Obj.cells #[.int .i64 (x.frm), .int .i64 (x.to), .int .i64 (x.many)] 54 (0, 0)) :: (b30, Obj.map es138 cl138) :: (b56, Obj.cells #[.slice xv3_a xps3.length xv3_c] 93 (0, 0)) :: (Ms141 ++ F1))) (fun w h => (h.perm (List.perm_middle.trans (List.Perm.cons _ (List.perm_middle.trans (List.Perm.cons _ (List.perm_middle.trans (List.Perm.cons _ (List.perm_middle.trans (List.Perm.cons _ List.perm_middle))))))))).sub (List.Sublist.cons _ (List.Sublist.refl _))) ?_
         obtain ⟨oa141, oc141, oe141, ol141⟩ := ho141.shape
         subst oe141
         show Seq _ _ _ _ _ _ ((67, .slice oa141 (xps3 ++ ([(.pointer (some ⟨b106, 0, none⟩) : Value)])).length oc141) :: _) _ _
         have xh4 := xh3.snoc (YardH.mk (Y := moved (zs.getD (j) noYard) x) hb137 fz102_f fz105_f fr134_f)
         refine sS (ss 3 0 b56 [.slice oa141 (xps3 ++ ([(.pointer (some ⟨b106, 0, none⟩) : Value)])).length oc141] [.slice oa141 (xps3 ++ ([(.pointer (some ⟨b106, 0, none⟩) : Value)])).length oc141] (_ :: _ :: _ :: _ :: _) (cs := [_]) rfl rfl ?_)
         refine ee ?_
         refine pst_normal_block ?_
         refine pst_round (M' := ((b30, Obj.map es138 cl138) :: (b56, Obj.cells #[.slice oa141 (xps3 ++ ([(.pointer (some ⟨b106, 0, none⟩) : Value)])).length oc141] 93 (0, 0)) :: Ms141)) (Imm.le.trans (Imm.le.trans (Imm.le.trans (Imm.le.trans (Imm.le.trans (Imm.le.trans hle82 hle101) hle104) hle109) hle122) hle132) hle136) ?_ (by simp only [List.append_assoc, List.nil_append, List.cons_append]; exact (List.Sublist.cons _ (List.Sublist.cons _ (List.Sublist.refl _))))
         exact ⟨[], _, rfl, rfl, ⟨_, _, _, _, _, rfl, (by rw [visX_snoc, visit_new h5]; exact his138), ho141, (by rw [visX_snoc, visit_new h5]; exact xh4)⟩⟩
        ·
         have h5_r := h5
         have h5 := not_f h5
         have h5 := decI_t h5
         refine rskip ?_
         refine pst_normal_block ?_
         refine pst_round (M' := ((b30, Obj.map es3 cl3) :: (b56, Obj.cells #[.slice xv3_a xps3.length xv3_c] 93 (0, 0)) :: xM3)) (Imm.le.trans (Imm.le.trans (Imm.le.trans (Imm.le.trans (Imm.le.trans (Imm.le.trans hle82 hle101) hle104) hle109) hle122) hle132) hle136) ?_ (by simp only [List.append_assoc, List.nil_append, List.cons_append]; exact (List.Sublist.cons _ (List.Sublist.cons _ (List.Sublist.refl _))))
         exact ⟨[], _, rfl, rfl, ⟨_, _, _, _, _, rfl, (by rw [visX_snoc, visit_old h5]; exact his3), xo3, (by rw [visX_snoc, visit_old h5]; exact xh3)⟩⟩
       ·intro D I2 Mr2 M2 hle2 hR2 hC2
        replace hb49 := hle2.blk _ _ hb49
        replace hb52 := hle2.blk _ _ hb52
        replace xh := xh.mono hle2
        replace hx_b := hle2.blk _ _ hx_b
        replace hb64 := hle2.blk _ _ hb64
        replace qp72 := hle2.blk _ _ qp72
        replace qp73 := hle2.blk _ _ qp73
        obtain rfl : Mr2 = [] := hR2
        obtain ⟨es5, cl5, xv5, xps5, xM5, rfl, his5, xo5, xh5⟩ := hC2
        obtain ⟨xv5_a, xv5_c, xv5_e, xv5_l⟩ := xo5.shape; subst xv5_e
        refine pst_mem (M' := ((D, Obj.deferred (some [])) :: (b30, Obj.map es5 cl5) :: (b56, Obj.cells #[.slice xv5_a xps5.length xv5_c] 93 (0, 0)) :: (xM5 ++ (b1, Obj.cells #[.slice y1_a Y.cars.length y1_c, .slice y2_a Y.room.length y2_c, .slice y3_a Y.tracks.length y3_c] 26 (0, 0)) :: (nM ++ (Sl.blocksOf Ds1 ++ F))))) (fun w h => by simpa only [List.append_assoc, List.cons_append, List.nil_append] using h) ?_
        refine ppm (M' := ((D, Obj.deferred (some [])) :: (b30, Obj.map es5 cl5) :: (b56, Obj.cells #[.slice xv5_a xps5.length xv5_c] 93 (0, 0)) :: (b1, Obj.cells #[.slice y1_a Y.cars.length y1_c, .slice y2_a Y.room.length y2_c, .slice y3_a Y.tracks.length y3_c] 26 (0, 0)) :: (xM5 ++ (nM ++ (Sl.blocksOf Ds1 ++ F))))) (List.Perm.cons _ (List.Perm.cons _ (List.Perm.cons _ List.perm_middle))) ?_
        refine pst_normal_block ?_
        refine pst_normal_block ?_
        refine pst_next ?_
        refine rr ?_
        refine sd (da 68 (↑j) (1)) ?_
        refine sp 1 [(39, .int .i64 (↑j + 1))] ?_
        refine ee ?_
        refine ppm (M' := ((Sl.blocksOf (D :: Ds1) ++ (b30, Obj.map es5 cl5) :: (b56, Obj.cells #[.slice xv5_a xps5.length xv5_c] 93 (0, 0)) :: (b1, Obj.cells #[.slice y1_a Y.cars.length y1_c, .slice y2_a Y.room.length y2_c, .slice y3_a Y.tracks.length y3_c] 26 (0, 0)) :: (xM5 ++ (nM ++ F))))) (List.Perm.cons _ ((List.Perm.cons _ ((List.Perm.cons _ ((List.Perm.cons _ ((List.Perm.append_left _ (List.perm_append_comm_assoc _ _ _)).trans (List.perm_append_comm_assoc _ _ _))).trans (List.perm_middle.symm))).trans (List.perm_middle.symm))).trans (List.perm_middle.symm))) ?_
        refine pst_back (zs.length - (j+1)) (by omega) ?_
        intro a w hS hD hW
        exact ⟨I2, j+1, (.slice xv5_a xps5.length xv5_c), xps5, xM5, es5, cl5, D :: Ds1, (Imm.le.trans (Imm.le.trans (Imm.le.trans hJ1 hle63) hle66) hle2), by omega, xo5, (by rw [visJ_succ (by omega)]; exact xh5), (by rw [visJ_succ (by omega)]; exact his5), hS.sub (.consE 39 rfl rfl (.cons 4 rfl (.cons 5 rfl (.cons 8 rfl (.cons 9 rfl (.cons 10 rfl (.cons 34 rfl (.cons 35 rfl (.cons 37 rfl (.cons 38 rfl (.nil _))))))))))), hD, hW.perm (((List.Perm.append_left _ (List.Perm.swap _ _ _)).trans List.perm_middle).trans (List.Perm.cons _ (List.perm_middle.trans (List.Perm.cons _ (List.perm_middle.trans (List.Perm.cons _ ((List.Perm.append_left _ (List.perm_append_comm_assoc _ _ _)).trans (List.perm_append_comm_assoc _ _ _)))))))), rfl⟩
       ·intro D c xs I2 M2 hle2 hS2
        exact hS2.elim
      ·
       have h4_r := h4
       have h4 := lss_f h4
       refine rexit 2 ?_
       refine (pst_exit_pass (pst_exit_pass (pst_exit_block ?_)))
       refine pst_next ?_
       refine rr ?_
       refine sd (dlb 69 0 0 b56 (.slice xv_a xps.length xv_c)) ?_
       refine sp 1 [(9, .slice xv_a xps.length xv_c)] ?_
       refine ee ?_
       refine pst_normal_block ?_
       refine pst_next ?_
       refine rr ?_
       refine sd (da 70 (↑k) (1)) ?_
       refine sp 1 [(35, .int .i64 (↑k + 1))] ?_
       refine ee ?_
       refine pst_back (d - (k+1)) (by omega) ?_
       intro a w hS hD hW
       exact ⟨J1, k+1, (.slice xv_a xps.length xv_c), xps, xM, (visJ met zs j).2, (visJ met zs j).1, es1, cl1, Ds1, (Imm.le.trans hJ0 hJ1), by omega, hr.trans (reach_step (by omega) (by omega)), (hvo.j hfa j), xo, xh, his1, hS.sub (.consE 9 rfl rfl (.consE 35 rfl rfl (.cons 4 rfl (.cons 5 rfl (.cons 8 rfl (.cons 34 rfl (.nil _))))))), hD, (hW.perm (List.Perm.cons _ (((List.Perm.cons _ (List.perm_middle.symm)).trans (List.perm_middle.symm)).trans (List.Perm.append_left _ (List.Perm.cons _ (List.Perm.cons _ (List.perm_append_comm_assoc _ _ _))))))).sub (List.Sublist.cons _ (List.Sublist.trans (List.Sublist.refl _) (List.sublist_append_right _ _))), rfl⟩
    ·
     have h3_r := h3
     have h3 := lss_f h3
     refine rexit 0 ?_
     refine (pst_exit_pass (pst_exit_pass (pst_exit_block ?_)))
     refine pst_next ?_
     refine rqr ?_
     refine sd (det_load (v := .map (some b30)) (x := (.tmp 8)) (T := 92) (d := 71) (ty := 92) (gd := none) (by kernel_rfl) rfl (by kernel_rfl) rfl (sees_held hb52 rfl)) ?_
     refine sd (det_eq (det_len_map (x := (.tmp 71)) (T := 92) (K := 90) (E := 4) (d := 72) (ty := 3) (gd := none) (by kernel_rfl) rfl (by kernel_rfl) rfl (.inl (List.mem_of_getElem? (i := 0) rfl))) (congrArg (fun n : Nat => Value.int .i64 ↑n) ((MapIs.size hism).trans (trues_length _)))) ?_
     refine sp 2 [(5, .int .i64 (0)), (4, .int .i64 (↑(met.length)))] ?_
     refine se ?_
     refine rret ?_
     have hre := reach_end hr (by omega)
     have hrk := reachE_ok hvl hin
     rw [show dr.toNat = d by omega, hre] at hrk
     refine pst_marks (R := ((b30, Obj.map es cl) :: (b1, Obj.cells #[.slice y1_a Y.cars.length y1_c, .slice y2_a Y.room.length y2_c, .slice y3_a Y.tracks.length y3_c] 26 (0, 0)) :: (nM ++ F))) (Ds) (.inl rfl) ((List.Perm.cons _ ((List.Perm.cons _ (List.perm_append_comm_assoc _ _ _)).trans (List.perm_middle.symm))).trans (List.perm_middle.symm)) ?_
     refine pst_ret2 (t := 4) (u := 5) [] (by kernel_rfl) rfl rfl (List.Sublist.cons _ (List.Sublist.cons _ (List.Sublist.trans (List.Sublist.refl _) (List.sublist_append_right _ _)))) (Imm.le.trans (Imm.le.trans (Imm.le.trans (Imm.le.trans (Imm.le.trans (Imm.le.trans (Imm.le.trans hle4 hle23) hle26) hle33) hle44) hle48) hle51) hJ0) ?_
     exact ⟨(congrArg (fun p : Int × Int => Value.tuple #[.int .i64 p.1, .int .i64 p.2]) hrk.symm), rfl⟩

end Go.Proofs.YtcaocbhbofejnaaDoor
namespace Go.Sl
open Go
theorem IsRows.split {I : Imm} {v : Value} {xss : List (List Int)} (h : IsRows I v xss) : ∃ vs : List Value, IsVals I v vs ∧ RowsV I vs xss := by
  obtain ⟨a, c, b, o, f, h1, h2, h3, h4, h5⟩ := h
  have hl : ((List.range xss.length).map f).length = xss.length := by simp
  have hg : ∀ i, i < xss.length → ((List.range xss.length).map f).getD i undef = f i := fun i hi => by simp [List.getD, hi]
  refine ⟨(List.range xss.length).map f, ⟨a, c, b, o, by rw [hl]; exact h1, by rw [hl]; exact h2, by rw [hl]; exact h3, ?_⟩, hl, fun i hi => by rw [hg i hi]; exact h5 i hi⟩
  rw [hl]
  refine ⟨h4.addr, fun i hi g hg2 => ?_⟩
  have := h4.get i hi g hg2
  show ICell I _ (((List.range xss.length).map f).getD i undef)
  rw [hg i hi]
  exact this
theorem RowsV.take {I : Imm} {vs : List Value} {xss : List (List Int)} (h : RowsV I vs xss) (k : Nat) : RowsV I (vs.take k) (xss.take k) := by
  refine ⟨by simp [h.1], fun i hi => ?_⟩
  have hi2 : i < k ∧ i < xss.length := by rw [List.length_take] at hi; omega
  have := h.2 i hi2.2
  simp only [List.getD] at this ⊢
  rw [List.getElem?_take_of_lt hi2.1, List.getElem?_take_of_lt hi2.1]
  exact this
theorem RowsV.drop {I : Imm} {vs : List Value} {xss : List (List Int)} (h : RowsV I vs xss) (k : Nat) : RowsV I (vs.drop k) (xss.drop k) := by
  refine ⟨by simp [h.1], fun i hi => ?_⟩
  have hi2 : k + i < xss.length := by simp at hi; omega
  have := h.2 (k + i) hi2
  simp only [List.getD] at this ⊢
  rw [List.getElem?_drop, List.getElem?_drop]
  exact this
theorem RowsV.append {I : Imm} {vs ws : List Value} {xss yss : List (List Int)} (h : RowsV I vs xss) (k : RowsV I ws yss) : RowsV I (vs ++ ws) (xss ++ yss) := by
  have h1 := h.1
  refine ⟨by simp [h.1, k.1], fun i hi => ?_⟩
  simp only [List.length_append] at hi
  by_cases e : i < xss.length
  · have := h.2 i e
    simp only [List.getD] at this ⊢
    rw [List.getElem?_append_left (by omega), List.getElem?_append_left e]
    exact this
  · have := k.2 (i - xss.length) (by omega)
    simp only [List.getD] at this ⊢
    rw [List.getElem?_append_right (by omega), List.getElem?_append_right (by omega), h1]
    exact this
end Go.Sl
namespace Go.Sh
open Go Go.Sl

section
variable {xs ys : List Int} {k : Nat}
end
def wholeL (n : Nat) : List Int := (List.range n).map fun i : Nat => (i : Int)
theorem wholeL_succ (n : Nat) : wholeL (n + 1) = wholeL n ++ [(n : Int)] := by simp [wholeL, List.range_succ]
theorem wholeL_length (n : Nat) : (wholeL n).length = n := by simp [wholeL]
section
variable {o l : List Int} {k : Nat}
end

section
variable {α β : Type}
def ordFrom (f : α → β → β) (d : α) (bl : List α) (rec : List α → List β) (k : Nat) : List β := (List.range' k (bl.length - k)).flatMap fun i => (rec (bl.eraseIdx i)).map (f (bl.getD i d))
def ordN (f : α → β → β) (d : α) (z : β) : Nat → List α → List β
  | 0, _ => [z]
  | n + 1, bl => ordFrom f d bl (ordN f d z n) 0
variable {f : α → β → β} {d : α} {bl : List α} {rec : List α → List β} {k : Nat}
theorem ordFrom_go (hk : k < bl.length) : ordFrom f d bl rec k = (rec (bl.eraseIdx k)).map (f (bl.getD k d)) ++ ordFrom f d bl rec (k + 1) := by
  unfold ordFrom; rw [range_cons hk]; simp
theorem ordFrom_done (hk : bl.length ≤ k) : ordFrom f d bl rec k = [] := by
  unfold ordFrom; rw [show bl.length - k = 0 by omega]; rfl
theorem map_step {xs : List β} {g : β → β} {j : Nat} {b : β} (hj : j < xs.length) : (xs.drop j).map g = g (xs.getD j b) :: (xs.drop (j + 1)).map g := by
  rw [drop_cons (d := b) hj]; rfl
theorem map_end {xs : List β} {g : β → β} {j : Nat} (hj : xs.length ≤ j) : (xs.drop j).map g = [] := by rw [drop_done hj]; rfl
theorem erase_take {k : Nat} : bl.take k ++ bl.drop (k + 1) = bl.eraseIdx k := (List.eraseIdx_eq_take_drop_succ ..).symm
theorem erase_len {n : Nat} (hk : k < bl.length) (h : bl.length = n + 1) : (bl.eraseIdx k).length = n := by rw [List.length_eraseIdx, if_pos hk]; omega
theorem ordN_count : ∀ (n : Nat) (bl : List α) {z : β}, bl.length = n → (ordN f d z n bl).length = fact n := by
  intro n
  induction n with
  | zero => intro bl z _; rfl
  | succ n ih =>
    intro bl z h
    simp only [ordN, ordFrom, List.length_flatMap, List.length_map]
    have e : (List.range' 0 (bl.length - 0)).map (fun i => (ordN f d z n (bl.eraseIdx i)).length) = (List.range' 0 (bl.length - 0)).map fun _ => fact n := by
      refine List.map_congr_left fun i hi => ?_
      have := List.mem_range'_1.1 hi
      exact ih _ (erase_len (by omega) h)
    rw [e, List.map_const', List.sum_replicate_nat, List.length_range', h]
    simp [fact]
end
def rowsN : Nat → List (List Int) → List (List Int) := ordN (fun b r => b ++ r) [] []
theorem fact_le5 {n : Nat} (h : n ≤ 5) : fact n ≤ 120 := by
  match n, h with
  | 0, _ | 1, _ | 2, _ | 3, _ | 4, _ | 5, _ => decide
theorem rowsN_len {m : Nat} : ∀ (n : Nat) (bl : List (List Int)), bl.length = n → (∀ b ∈ bl, b.length ≤ m) → ∀ x ∈ rowsN n bl, x.length ≤ m * n := by
  intro n
  induction n with
  | zero => intro bl _ _ x hx; simp [rowsN, ordN] at hx; subst hx; simp
  | succ n ih =>
    intro bl h hb x hx
    simp only [rowsN, ordN, ordFrom, List.mem_flatMap, List.mem_map] at hx
    obtain ⟨i, hi, y, hy, rfl⟩ := hx
    have hi := List.mem_range'_1.1 hi
    have h1 := ih _ (erase_len (by omega) h) (fun b hb2 => hb b (List.mem_of_mem_eraseIdx hb2)) y hy
    have h2 := hb _ (getD_mem (d := []) (xs := bl) (k := i) (by omega))
    rw [List.length_append, Nat.mul_succ]; omega
def exYard : Yard := ⟨[⟨2, 30, 25, 0, true, false⟩, ⟨1, 20, 10, 0, false, true⟩, ⟨2, 40, 30, 1, true, true⟩, ⟨1, 10, 0, 1, false, true⟩], [10, 3, 2], [[0, 1, 2, 3], [], []]⟩
def exFour : List Shift := [⟨0, 1, 2⟩, ⟨0, 2, 1⟩, ⟨1, 0, 2⟩, ⟨2, 0, 1⟩]
theorem coupled_raw {cs : List Car} {t : List Int} {k : Nat} (hk : k < t.length) : coupled cs t ↑k = (decide (0 < (k : Int)) && (decide (0 < (carAt cs (t.getD k 0)).grp) && decide ((carAt cs (t.getD k 0)).grp = (carAt cs (t.getD ((k : Int) - 1).toNat 0)).grp))) := by
  unfold coupled inB
  have e1 : (↑k : Int).toNat = k := by omega
  rw [e1, Bool.and_assoc]
  have e3 : (decide ((1 : Int) ≤ ↑k) && decide ((↑k : Int) ≤ ↑t.length - 1)) = decide (0 < (k : Int)) := by
    by_cases h : 0 < (k : Int)
    · have h1 : (1 : Int) ≤ ↑k := by omega
      have h2 : (↑k : Int) ≤ ↑t.length - 1 := by omega
      rw [decide_eq_true h, decide_eq_true h1, decide_eq_true h2]; rfl
    · have h1 : ¬ (1 : Int) ≤ ↑k := by omega
      rw [decide_eq_false h, decide_eq_false h1]; rfl
  rw [e3]
end Go.Sh
namespace Go.Sl
open Go
theorem RowsV.one {I : Imm} {vs : List Value} {xss : List (List Int)} (h : RowsV I vs xss) : vs.all oneCell = true := by
  rw [List.all_eq_true]
  intro v hv
  obtain ⟨i, hi, rfl⟩ := List.mem_iff_getElem.1 hv
  have := h.2 i (h.1 ▸ hi)
  obtain ⟨a, c, b, o, e, _⟩ := this
  rw [List.getD, List.getElem?_eq_getElem hi] at e
  simp only [Option.getD_some] at e
  rw [e]; rfl
end Go.Sl
namespace Go.Proofs.YtcaocbhbofejnaaDoor
open Go Go.Sl Go.Sh
set_option maxRecDepth 100000
end Go.Proofs.YtcaocbhbofejnaaDoor
namespace Go.Proofs.YtcaocbhbofejnaaDoor
open Go Go.Sl Go.Sh
set_option maxRecDepth 100000
noncomputable def c_drawl (p : List Nat) : Code := sub (bodyOf Tryd.f44) p
theorem drawl_ct (I : Imm) (f : Int) (t : Int) (m : Int) : Ct Tryd.prog 44 #[.int .i64 f, .int .i64 t, .int .i64 m] I ([]) (fun v I' M' => v = .agg #[.int .i64 ((⟨f, t, m⟩ : Shift)).frm, .int .i64 ((⟨f, t, m⟩ : Shift)).to, .int .i64 ((⟨f, t, m⟩ : Shift)).many] ∧ M' = []) := by
 refine fn_of_run (fn := Tryd.f44) (args := [_, _, _]) (N := 11) Tryd.func44 rfl (by kernel_rfl) (Nat.le_of_ble_eq_true rfl) (fun F => ?_)
 show Run _ _ (c_drawl []) _ _ [(0, .int .i64 (f)), (1, .int .i64 (t)), (2, .int .i64 (m))] _ _
 refine rnm ?_
 refine rqr ?_
 refine sS (sal 6 54 #[.int .i64 (0), .int .i64 (0), .int .i64 (0)] (fun b1 => ?_))
 refine sn ?_
 refine sp 4 [(10, .agg #[.int .i64 (f), .int .i64 (t), .int .i64 (m)])] ?_
 refine sS (ss 0 0 b1 [.int .i64 (f), .int .i64 (t), .int .i64 (m)] [.int .i64 (f), .int .i64 (t), .int .i64 (m)] (_ :: _) (cs := [_, _, _]) rfl rfl ?_)
 refine se ?_
 refine rret ?_
 refine pst_retC1 (t := 6) (T := 54) (n := 3) [] (by kernel_rfl) rfl (by kernel_rfl) rfl (seesN_mem (n := 3) (cs := #[.int .i64 (f), .int .i64 (t), .int .i64 (m)]) (b := b1) (off := 0) (T := 54) (fz := (0, 0)) (vs := [.int .i64 (f), .int .i64 (t), .int .i64 (m)]) (by simp) rfl) (.inl ⟨by kernel_rfl, rfl⟩) (List.Sublist.cons _ (List.Sublist.refl _)) (Imm.le.refl _) ?_
 exact ⟨rfl, rfl⟩

noncomputable def c_four (p : List Nat) : Code := sub (bodyOf Tryd.f47) p
theorem four_ct (I : Imm) : Ct Tryd.prog 47 #[] I ([]) (fun v I' M' => ∃ u : Value, ∃ Ms : Seg, v = u ∧ M' = Ms ∧ Own 54 3 shiftCell u (exFour) Ms) := by
 refine fn_of_run (fn := Tryd.f47) (args := []) (N := 6) Tryd.func47 rfl (by kernel_rfl) (Nat.le_of_ble_eq_true rfl) (fun F => ?_)
 show Run _ _ (c_four []) _ _ [] _ _
 refine rnm ?_
 refine rqr ?_
 refine sp 1 [(0, .slice none 0 0)] ?_
 refine sn ?_
 refine sS (sc (some 1) (F := (F)) (drawl_ct _ (0) (1) (2) :) (.refl _) (fun rv6 I1 rm7 hle2 hp3 => ?_))
 obtain ⟨hv4, hm5⟩ := hp3
 rw [hv4, hm5]; clear hv4 hm5
 refine nm ?_
 show Seq _ _ _ _ _ _ ((1, .agg #[.int .i64 (((⟨0, 1, 2⟩ : Shift)).frm), .int .i64 (((⟨0, 1, 2⟩ : Shift)).to), .int .i64 (((⟨0, 1, 2⟩ : Shift)).many)]) :: _) _ _
 refine sS (sc (some 2) (F := (F)) (drawl_ct _ (0) (2) (1) :) (.refl _) (fun rv13 I8 rm14 hle9 hp10 => ?_))
 obtain ⟨hv11, hm12⟩ := hp10
 rw [hv11, hm12]; clear hv11 hm12
 refine nm ?_
 show Seq _ _ _ _ _ _ ((2, .agg #[.int .i64 (((⟨0, 2, 1⟩ : Shift)).frm), .int .i64 (((⟨0, 2, 1⟩ : Shift)).to), .int .i64 (((⟨0, 2, 1⟩ : Shift)).many)]) :: _) _ _
 refine sS (sc (some 3) (F := (F)) (drawl_ct _ (1) (0) (2) :) (.refl _) (fun rv20 I15 rm21 hle16 hp17 => ?_))
 obtain ⟨hv18, hm19⟩ := hp17
 rw [hv18, hm19]; clear hv18 hm19
 refine nm ?_
 show Seq _ _ _ _ _ _ ((3, .agg #[.int .i64 (((⟨1, 0, 2⟩ : Shift)).frm), .int .i64 (((⟨1, 0, 2⟩ : Shift)).to), .int .i64 (((⟨1, 0, 2⟩ : Shift)).many)]) :: _) _ _
 refine sS (sc (some 4) (F := (F)) (drawl_ct _ (2) (0) (1) :) (.refl _) (fun rv27 I22 rm28 hle23 hp24 => ?_))
 obtain ⟨hv25, hm26⟩ := hp24
 rw [hv25, hm26]; clear hv25 hm26
 refine nm ?_
 show Seq _ _ _ _ _ _ ((4, .agg #[.int .i64 (((⟨2, 0, 1⟩ : Shift)).frm), .int .i64 (((⟨2, 0, 1⟩ : Shift)).to), .int .i64 (((⟨2, 0, 1⟩ : Shift)).many)]) :: _) _ _
 refine sS (sbs 5 54 4 #[.int .i64 (((⟨0, 1, 2⟩ : Shift)).frm), .int .i64 (((⟨0, 1, 2⟩ : Shift)).to), .int .i64 (((⟨0, 1, 2⟩ : Shift)).many), .int .i64 (((⟨0, 2, 1⟩ : Shift)).frm), .int .i64 (((⟨0, 2, 1⟩ : Shift)).to), .int .i64 (((⟨0, 2, 1⟩ : Shift)).many), .int .i64 (((⟨1, 0, 2⟩ : Shift)).frm), .int .i64 (((⟨1, 0, 2⟩ : Shift)).to), .int .i64 (((⟨1, 0, 2⟩ : Shift)).many), .int .i64 (((⟨2, 0, 1⟩ : Shift)).frm), .int .i64 (((⟨2, 0, 1⟩ : Shift)).to), .int .i64 (((⟨2, 0, 1⟩ : Shift)).many)] (fun b29 => ?_))
 refine pm (M' := (([(b29, Obj.cells #[.int .i64 (((⟨0, 1, 2⟩ : Shift)).frm), .int .i64 (((⟨0, 1, 2⟩ : Shift)).to), .int .i64 (((⟨0, 1, 2⟩ : Shift)).many), .int .i64 (((⟨0, 2, 1⟩ : Shift)).frm), .int .i64 (((⟨0, 2, 1⟩ : Shift)).to), .int .i64 (((⟨0, 2, 1⟩ : Shift)).many), .int .i64 (((⟨1, 0, 2⟩ : Shift)).frm), .int .i64 (((⟨1, 0, 2⟩ : Shift)).to), .int .i64 (((⟨1, 0, 2⟩ : Shift)).many), .int .i64 (((⟨2, 0, 1⟩ : Shift)).frm), .int .i64 (((⟨2, 0, 1⟩ : Shift)).to), .int .i64 (((⟨2, 0, 1⟩ : Shift)).many)] 54 (0, 0))] ++ F))) (List.Perm.refl _) ?_
 have ho31 : Own 54 3 shiftCell (.slice (some ⟨b29, 0, none⟩) 4 4) ([(⟨0, 1, 2⟩ : Shift), (⟨0, 2, 1⟩ : Shift), (⟨1, 0, 2⟩ : Shift), (⟨2, 0, 1⟩ : Shift)] : List Shift) [(b29, Obj.cells #[.int .i64 (((⟨0, 1, 2⟩ : Shift)).frm), .int .i64 (((⟨0, 1, 2⟩ : Shift)).to), .int .i64 (((⟨0, 1, 2⟩ : Shift)).many), .int .i64 (((⟨0, 2, 1⟩ : Shift)).frm), .int .i64 (((⟨0, 2, 1⟩ : Shift)).to), .int .i64 (((⟨0, 2, 1⟩ : Shift)).many), .int .i64 (((⟨1, 0, 2⟩ : Shift)).frm), .int .i64 (((⟨1, 0, 2⟩ : Shift)).to), .int .i64 (((⟨1, 0, 2⟩ : Shift)).many), .int .i64 (((⟨2, 0, 1⟩ : Shift)).frm), .int .i64 (((⟨2, 0, 1⟩ : Shift)).to), .int .i64 (((⟨2, 0, 1⟩ : Shift)).many)] 54 (0, 0))] := Own.lit rfl rfl
 refine sp 1 [(0, .slice (some ⟨b29, 0, none⟩) 4 4)] ?_
 refine se ?_
 refine rret ?_
 refine pst_ret1 (t := 0) ([(b29, Obj.cells #[.int .i64 (((⟨0, 1, 2⟩ : Shift)).frm), .int .i64 (((⟨0, 1, 2⟩ : Shift)).to), .int .i64 (((⟨0, 1, 2⟩ : Shift)).many), .int .i64 (((⟨0, 2, 1⟩ : Shift)).frm), .int .i64 (((⟨0, 2, 1⟩ : Shift)).to), .int .i64 (((⟨0, 2, 1⟩ : Shift)).many), .int .i64 (((⟨1, 0, 2⟩ : Shift)).frm), .int .i64 (((⟨1, 0, 2⟩ : Shift)).to), .int .i64 (((⟨1, 0, 2⟩ : Shift)).many), .int .i64 (((⟨2, 0, 1⟩ : Shift)).frm), .int .i64 (((⟨2, 0, 1⟩ : Shift)).to), .int .i64 (((⟨2, 0, 1⟩ : Shift)).many)] 54 (0, 0))]) (by kernel_rfl) rfl (List.Sublist.cons_cons _ (List.Sublist.refl _)) (Imm.le.trans (Imm.le.trans (Imm.le.trans hle2 hle9) hle16) hle23) ?_
 exact ⟨_, _, rfl, rfl, ho31⟩

noncomputable def c_yard (p : List Nat) : Code := sub (bodyOf Tryd.f43) p
theorem yard_ct (I : Imm) : Ct Tryd.prog 43 #[] I ([]) (fun v I' M' => ∃ u_0 : Value, ∃ Ms_0 : Seg, ∃ u_1 : Value, ∃ Ms_1 : Seg, ∃ u_2 : Value, ∃ ws_2 : List Value, ∃ Ms_2 : Seg, v = .agg #[u_0, u_1, u_2] ∧ M' = Ms_0 ++ (Ms_1 ++ (Ms_2)) ∧ Own 40 6 carCell u_0 ((exYard).cars) Ms_0 ∧ Own 3 1 intCell u_1 ((exYard).room) Ms_1 ∧ Own 22 1 valCell u_2 ws_2 Ms_2 ∧ RowsV I' ws_2 ((exYard).tracks)) := by
 refine fn_of_run (fn := Tryd.f43) (args := []) (N := 10) Tryd.func43 rfl (by kernel_rfl) (Nat.le_of_ble_eq_true rfl) (fun F => ?_)
 show Run _ _ (c_yard []) _ _ [] _ _
 refine rnm ?_
 refine rqr ?_
 refine sS (sal 0 26 #[.slice none 0 0, .slice none 0 0, .slice none 0 0] (fun b1 => ?_))
 refine sn ?_
 refine sp 4 [(4, .agg #[.int .i64 (1), .int .i64 (10), .int .i64 (0), .int .i64 (1), .bool (false), .bool (true)]), (3, .agg #[.int .i64 (2), .int .i64 (40), .int .i64 (30), .int .i64 (1), .bool (true), .bool (true)]), (2, .agg #[.int .i64 (1), .int .i64 (20), .int .i64 (10), .int .i64 (0), .bool (false), .bool (true)]), (1, .agg #[.int .i64 (2), .int .i64 (30), .int .i64 (25), .int .i64 (0), .bool (true), .bool (false)])] ?_
 refine sS (sbs 5 40 4 #[.int .i64 (2), .int .i64 (30), .int .i64 (25), .int .i64 (0), .bool (true), .bool (false), .int .i64 (1), .int .i64 (20), .int .i64 (10), .int .i64 (0), .bool (false), .bool (true), .int .i64 (2), .int .i64 (40), .int .i64 (30), .int .i64 (1), .bool (true), .bool (true), .int .i64 (1), .int .i64 (10), .int .i64 (0), .int .i64 (1), .bool (false), .bool (true)] (fun b3 => ?_))
 refine sS (sbs 6 3 3 #[.int .i64 (10), .int .i64 (3), .int .i64 (2)] (fun b5 => ?_))
 refine sS (sbs 7 3 4 #[.int .i64 (0), .int .i64 (1), .int .i64 (2), .int .i64 (3)] (fun b7 => ?_))
 refine pm (M' := ((b5, Obj.cells #[.int .i64 (10), .int .i64 (3), .int .i64 (2)] 3 (0, 0)) :: (b3, Obj.cells #[.int .i64 (2), .int .i64 (30), .int .i64 (25), .int .i64 (0), .bool (true), .bool (false), .int .i64 (1), .int .i64 (20), .int .i64 (10), .int .i64 (0), .bool (false), .bool (true), .int .i64 (2), .int .i64 (40), .int .i64 (30), .int .i64 (1), .bool (true), .bool (true), .int .i64 (1), .int .i64 (10), .int .i64 (0), .int .i64 (1), .bool (false), .bool (true)] 40 (0, 0)) :: (b1, Obj.cells #[.slice none 0 0, .slice none 0 0, .slice none 0 0] 26 (0, 0)) :: ([(b7, Obj.cells #[.int .i64 (0), .int .i64 (1), .int .i64 (2), .int .i64 (3)] 3 (0, 0))] ++ F))) ((List.Perm.swap _ _ _).trans (List.Perm.cons _ ((List.Perm.swap _ _ _).trans (List.Perm.cons _ (List.Perm.swap _ _ _))))) ?_
 have ho9 : Own 3 1 intCell (.slice (some ⟨b7, 0, none⟩) 4 4) ([(0 : Int), (1 : Int), (2 : Int), (3 : Int)] : List Int) [(b7, Obj.cells #[.int .i64 (0), .int .i64 (1), .int .i64 (2), .int .i64 (3)] 3 (0, 0))] := Own.lit rfl rfl
 refine sfz (A := ((b5, Obj.cells #[.int .i64 (10), .int .i64 (3), .int .i64 (2)] 3 (0, 0)) :: (b3, Obj.cells #[.int .i64 (2), .int .i64 (30), .int .i64 (25), .int .i64 (0), .bool (true), .bool (false), .int .i64 (1), .int .i64 (20), .int .i64 (10), .int .i64 (0), .bool (false), .bool (true), .int .i64 (2), .int .i64 (40), .int .i64 (30), .int .i64 (1), .bool (true), .bool (true), .int .i64 (1), .int .i64 (10), .int .i64 (0), .int .i64 (1), .bool (false), .bool (true)] 40 (0, 0)) :: (b1, Obj.cells #[.slice none 0 0, .slice none 0 0, .slice none 0 0] 26 (0, 0)) :: F)) 0 ho9 ((List.Perm.cons _ ((List.Perm.cons _ (List.perm_middle.symm)).trans (List.perm_middle.symm))).trans (List.perm_middle.symm)) (fun I10 hle11 fz12_f => ?_)
 obtain ⟨fz12_a, fz12_c, fz12_b, fz12_o, fz12_e, fz12_l, fz12_m, fz12_r⟩ := id fz12_f
 cases fz12_e
 refine sS (sbs 8 22 3 #[.slice (some ⟨b7, 0, none⟩) 4 4, .slice none 0 0, .slice none 0 0] (fun b13 => ?_))
 refine pm (M' := ((b13, Obj.cells #[.slice (some ⟨b7, 0, none⟩) 4 4, .slice none 0 0, .slice none 0 0] 22 (0, 0)) :: (b5, Obj.cells #[.int .i64 (10), .int .i64 (3), .int .i64 (2)] 3 (0, 0)) :: (b1, Obj.cells #[.slice none 0 0, .slice none 0 0, .slice none 0 0] 26 (0, 0)) :: ([(b3, Obj.cells #[.int .i64 (2), .int .i64 (30), .int .i64 (25), .int .i64 (0), .bool (true), .bool (false), .int .i64 (1), .int .i64 (20), .int .i64 (10), .int .i64 (0), .bool (false), .bool (true), .int .i64 (2), .int .i64 (40), .int .i64 (30), .int .i64 (1), .bool (true), .bool (true), .int .i64 (1), .int .i64 (10), .int .i64 (0), .int .i64 (1), .bool (false), .bool (true)] 40 (0, 0))] ++ F))) (List.Perm.cons _ (List.Perm.cons _ (List.Perm.swap _ _ _))) ?_
 have ho15 : Own 40 6 carCell (.slice (some ⟨b3, 0, none⟩) 4 4) ([(⟨2, 30, 25, 0, true, false⟩ : Car), (⟨1, 20, 10, 0, false, true⟩ : Car), (⟨2, 40, 30, 1, true, true⟩ : Car), (⟨1, 10, 0, 1, false, true⟩ : Car)] : List Car) [(b3, Obj.cells #[.int .i64 (2), .int .i64 (30), .int .i64 (25), .int .i64 (0), .bool (true), .bool (false), .int .i64 (1), .int .i64 (20), .int .i64 (10), .int .i64 (0), .bool (false), .bool (true), .int .i64 (2), .int .i64 (40), .int .i64 (30), .int .i64 (1), .bool (true), .bool (true), .int .i64 (1), .int .i64 (10), .int .i64 (0), .int .i64 (1), .bool (false), .bool (true)] 40 (0, 0))] := Own.lit rfl rfl
 refine pm (M' := ((b13, Obj.cells #[.slice (some ⟨b7, 0, none⟩) 4 4, .slice none 0 0, .slice none 0 0] 22 (0, 0)) :: (b1, Obj.cells #[.slice none 0 0, .slice none 0 0, .slice none 0 0] 26 (0, 0)) :: ([(b5, Obj.cells #[.int .i64 (10), .int .i64 (3), .int .i64 (2)] 3 (0, 0))] ++ ([(b3, Obj.cells #[.int .i64 (2), .int .i64 (30), .int .i64 (25), .int .i64 (0), .bool (true), .bool (false), .int .i64 (1), .int .i64 (20), .int .i64 (10), .int .i64 (0), .bool (false), .bool (true), .int .i64 (2), .int .i64 (40), .int .i64 (30), .int .i64 (1), .bool (true), .bool (true), .int .i64 (1), .int .i64 (10), .int .i64 (0), .int .i64 (1), .bool (false), .bool (true)] 40 (0, 0))] ++ F)))) (List.Perm.cons _ (List.Perm.swap _ _ _)) ?_
 have ho16 : Own 3 1 intCell (.slice (some ⟨b5, 0, none⟩) 3 3) ([(10 : Int), (3 : Int), (2 : Int)] : List Int) [(b5, Obj.cells #[.int .i64 (10), .int .i64 (3), .int .i64 (2)] 3 (0, 0))] := Own.lit rfl rfl
 refine pm (M' := ((b1, Obj.cells #[.slice none 0 0, .slice none 0 0, .slice none 0 0] 26 (0, 0)) :: ([(b13, Obj.cells #[.slice (some ⟨b7, 0, none⟩) 4 4, .slice none 0 0, .slice none 0 0] 22 (0, 0))] ++ ([(b5, Obj.cells #[.int .i64 (10), .int .i64 (3), .int .i64 (2)] 3 (0, 0))] ++ ([(b3, Obj.cells #[.int .i64 (2), .int .i64 (30), .int .i64 (25), .int .i64 (0), .bool (true), .bool (false), .int .i64 (1), .int .i64 (20), .int .i64 (10), .int .i64 (0), .bool (false), .bool (true), .int .i64 (2), .int .i64 (40), .int .i64 (30), .int .i64 (1), .bool (true), .bool (true), .int .i64 (1), .int .i64 (10), .int .i64 (0), .int .i64 (1), .bool (false), .bool (true)] 40 (0, 0))] ++ F))))) (List.Perm.swap _ _ _) ?_
 have ho17 : Own 22 1 valCell (.slice (some ⟨b13, 0, none⟩) 3 3) ([(.slice (some ⟨b7, 0, none⟩) 4 4 : Value), (.slice none 0 0 : Value), (.slice none 0 0 : Value)] : List Value) [(b13, Obj.cells #[.slice (some ⟨b7, 0, none⟩) 4 4, .slice none 0 0, .slice none 0 0] 22 (0, 0))] := Own.lit rfl rfl
 have orw18 := ((((RowsV.nil I10).snoc fz12_f).snoc (IsSl.nil _)).snoc (IsSl.nil _))
 simp only [List.nil_append, List.cons_append] at orw18
 refine sp 1 [(9, .agg #[.slice (some ⟨b3, 0, none⟩) 4 4, .slice (some ⟨b5, 0, none⟩) 3 3, .slice (some ⟨b13, 0, none⟩) 3 3])] ?_
 refine sS (ss 0 0 b1 [.slice (some ⟨b3, 0, none⟩) 4 4, .slice (some ⟨b5, 0, none⟩) 3 3, .slice (some ⟨b13, 0, none⟩) 3 3] [.slice (some ⟨b3, 0, none⟩) 4 4, .slice (some ⟨b5, 0, none⟩) 3 3, .slice (some ⟨b13, 0, none⟩) 3 3] (_ :: _) (cs := [_, _, _]) rfl rfl ?_)
 refine se ?_
 refine rret ?_
 refine ppm (M' := (([(b3, Obj.cells #[.int .i64 (2), .int .i64 (30), .int .i64 (25), .int .i64 (0), .bool (true), .bool (false), .int .i64 (1), .int .i64 (20), .int .i64 (10), .int .i64 (0), .bool (false), .bool (true), .int .i64 (2), .int .i64 (40), .int .i64 (30), .int .i64 (1), .bool (true), .bool (true), .int .i64 (1), .int .i64 (10), .int .i64 (0), .int .i64 (1), .bool (false), .bool (true)] 40 (0, 0))] ++ ([(b5, Obj.cells #[.int .i64 (10), .int .i64 (3), .int .i64 (2)] 3 (0, 0))] ++ ([(b13, Obj.cells #[.slice (some ⟨b7, 0, none⟩) 4 4, .slice none 0 0, .slice none 0 0] 22 (0, 0))] ++ (b1, Obj.cells #[.slice (some ⟨b3, 0, none⟩) 4 4, .slice (some ⟨b5, 0, none⟩) 3 3, .slice (some ⟨b13, 0, none⟩) 3 3] 26 (0, 0)) :: F))))) (((List.Perm.cons _ ((List.Perm.append_left _ (List.perm_append_comm_assoc _ _ _)).trans (List.perm_append_comm_assoc _ _ _))).trans (List.perm_middle.symm)).trans (List.Perm.append_left _ (((List.Perm.cons _ (List.perm_append_comm_assoc _ _ _)).trans (List.perm_middle.symm)).trans (List.Perm.append_left _ (List.perm_middle.symm))))) ?_
 refine pst_retC1 (t := 0) (T := 26) (n := 3) ([(b3, Obj.cells #[.int .i64 (2), .int .i64 (30), .int .i64 (25), .int .i64 (0), .bool (true), .bool (false), .int .i64 (1), .int .i64 (20), .int .i64 (10), .int .i64 (0), .bool (false), .bool (true), .int .i64 (2), .int .i64 (40), .int .i64 (30), .int .i64 (1), .bool (true), .bool (true), .int .i64 (1), .int .i64 (10), .int .i64 (0), .int .i64 (1), .bool (false), .bool (true)] 40 (0, 0))] ++ ([(b5, Obj.cells #[.int .i64 (10), .int .i64 (3), .int .i64 (2)] 3 (0, 0))] ++ ([(b13, Obj.cells #[.slice (some ⟨b7, 0, none⟩) 4 4, .slice none 0 0, .slice none 0 0] 22 (0, 0))]))) (by kernel_rfl) rfl (by kernel_rfl) rfl (seesN_mem (n := 3) (cs := #[.slice (some ⟨b3, 0, none⟩) 4 4, .slice (some ⟨b5, 0, none⟩) 3 3, .slice (some ⟨b13, 0, none⟩) 3 3]) (b := b1) (off := 0) (T := 26) (fz := (0, 0)) (vs := [.slice (some ⟨b3, 0, none⟩) 4 4, .slice (some ⟨b5, 0, none⟩) 3 3, .slice (some ⟨b13, 0, none⟩) 3 3]) (by simp) rfl) (.inl ⟨by kernel_rfl, rfl⟩) (by simp only [List.append_assoc, List.nil_append, List.cons_append]; exact (List.Sublist.cons_cons _ (List.Sublist.cons_cons _ (List.Sublist.cons_cons _ (List.Sublist.cons _ (List.Sublist.refl _)))))) hle11 ?_
 exact ⟨_, _, _, _, _, _, _, rfl, rfl, ho15, ho16, ho17, orw18⟩

end Go.Proofs.YtcaocbhbofejnaaDoor
namespace Go.Proofs.YtcaocbhbofejnaaDoor
open Go Go.Sl Go.Sh
set_option maxRecDepth 100000
def RowsAt (m : Nat) : Prop := ∀ (I : Imm) (b : Value) (bl : List (List Int)) (n : Nat) (b_f : IsRows I b bl) (hn : bl.length = n) (h5 : n ≤ 5) (hel : ∀ x ∈ bl, x.length ≤ 5), n = m → Ct Tryd.prog 10 #[b] I ([]) (fun v I' M' => ∃ u : Value, ∃ ws : List Value, ∃ Ms : Seg, v = u ∧ M' = Ms ∧ Own 22 1 valCell u ws Ms ∧ RowsV I' ws (rowsN n bl))
noncomputable def c_Rows (p : List Nat) : Code := sub (bodyOf Tryd.f10) p
set_option maxHeartbeats 1000000 in
theorem rows_of (I : Imm) (b : Value) (bl : List (List Int)) (n : Nat) (b_f : IsRows I b bl) (hn : bl.length = n) (h5 : n ≤ 5) (hel : ∀ x ∈ bl, x.length ≤ 5) (ht : ∀ m, m + 1 = n → RowsAt m) : Ct Tryd.prog 10 #[b] I ([]) (fun v I' M' => ∃ u : Value, ∃ ws : List Value, ∃ Ms : Seg, v = u ∧ M' = Ms ∧ Own 22 1 valCell u ws Ms ∧ RowsV I' ws (rowsN n bl)) := by
 obtain ⟨bvs, bw_f, hrw⟩ := IsRows.split b_f
 obtain ⟨bw_a, bw_c, bw_b, bw_o, bw_e, bw_l, bw_m, bw_r⟩ := id bw_f
 subst bw_e
 have hrw_len := hrw.1
 try simp only [List.length_set, List.length_append, List.length_cons, List.length_nil, List.length_take] at hrw_len
 refine fn_of_run (fn := Tryd.f10) (args := [_]) (N := 49) Tryd.func10 rfl (by kernel_rfl) (Nat.le_of_ble_eq_true rfl) (fun F => ?_)
 show Run _ _ (c_Rows []) _ _ [(0, .slice bw_a bvs.length bw_c)] _ _
 refine rnm ?_
 refine rqr ?_
 refine sp 1 [(2, .slice none 0 0)] ?_
 refine se ?_
 refine rq ?_
 refine rqr ?_
 refine sp 3 [(9, .bool (cmp .eql (↑(bvs.length)) (0)))] ?_
 refine se ?_
 refine rc 9 rfl (fun h1 => ?_) (fun h1 => ?_)
 ·
  have h1_r := h1
  have h1 := eql_t h1
  have hn0 : n = 0 := by omega
  refine rqr ?_
  refine sS (sbs 10 22 1 #[.slice none 0 0] (fun b1 => ?_))
  refine pm (M' := (([(b1, Obj.cells #[.slice none 0 0] 22 (0, 0))] ++ F))) (List.Perm.refl _) ?_
  have ho3 : Own 22 1 valCell (.slice (some ⟨b1, 0, none⟩) 1 1) ([(.slice none 0 0 : Value)] : List Value) [(b1, Obj.cells #[.slice none 0 0] 22 (0, 0))] := Own.lit rfl rfl
  have orw4 := ((RowsV.nil I).snoc (IsSl.nil _))
  simp only [List.nil_append, List.cons_append] at orw4
  refine sp 1 [(2, .slice (some ⟨b1, 0, none⟩) 1 1)] ?_
  refine se ?_
  refine rret ?_
  refine (pst_ret_pass ?_)
  refine pst_ret1 (t := 2) ([(b1, Obj.cells #[.slice none 0 0] 22 (0, 0))]) (by kernel_rfl) rfl (List.Sublist.cons_cons _ (List.Sublist.refl _)) (Imm.le.refl _) ?_
  exact ⟨_, _, _, rfl, rfl, ho3, ((show [[]] = rowsN n bl from by rw [hn0]; rfl) ▸ orw4)⟩
 ·
  have h1_r := h1
  have h1 := eql_f h1
  obtain ⟨m, hnm⟩ : ∃ m, n = m + 1 := ⟨n - 1, by omega⟩
  have hs := ht m (by omega)
  have hct := ordN_count (f := fun b r => b ++ r) (d := []) (z := []) (m + 1) bl (by omega)
  have hf5 := fact_le5 (n := m + 1) (by omega)
  have hcl : (rowsN (m + 1) bl).length ≤ 120 := by (show (ordN _ _ _ _ _).length ≤ 120); omega
  refine rskip ?_
  refine pst_next ?_
  refine rqr ?_
  refine sp 1 [(3, .slice none 0 0)] ?_
  refine se ?_
  refine rq ?_
  refine rqr ?_
  refine sp 1 [(4, .int .i64 (0))] ?_
  refine se ?_
  refine rb 0 ?_
  refine rl (fun mz a w => ∃ J0 : Imm, ∃ k : Nat, ∃ out : List (List Int), ∃ ov0_3 : Value, ∃ oM0_3 : Seg, ∃ ow0_3 : List Value, (I.le J0) ∧ (k ≤ bl.length) ∧ (rowsN (m + 1) bl = out ++ ordFrom (fun b r => b ++ r) [] bl (rowsN m) k) ∧ (RowsV J0 ow0_3 (out)) ∧ (Own 22 1 valCell ov0_3 (ow0_3) oM0_3) ∧ Slots 49 [(3, ov0_3), (4, .int .i64 ↑k), (0, .slice bw_a bvs.length bw_c), (2, .slice none 0 0)] a ∧ a.defers = [] ∧ St J0 ((oM0_3 ++ F)) w ∧ mz = bl.length - k) ?_ ?_
  ·intro a w hS hD hW
   exact ⟨_, I, 0, [], (.slice none 0 0), [], [], Imm.le.refl _, Nat.zero_le _, rfl, (RowsV.nil _), (Own.nil _ _ _), hS.sub (.cons 3 rfl (.cons 4 rfl (.cons 0 rfl (.cons 2 rfl (.nil _))))), hD, hW, rfl⟩
  ·rintro mz a w ⟨J0, k, out, ov0_3, oM0_3, ow0_3, hJ0, hk, hr, or0_3, oh0_3, hS, hD, hW, rfl⟩
   refine run_at hS hD hW ?_
   clear hS hD hW a w
   replace bw_f := bw_f.mono hJ0
   replace bw_r := bw_r.mono hJ0
   replace hrw := hrw.mono hJ0
   obtain ⟨ov0_3_a, ov0_3_c, ov0_3_e, ov0_3_l⟩ := oh0_3.shape; subst ov0_3_e
   have or0_3_len := or0_3.1
   try simp only [List.length_set, List.length_append, List.length_cons, List.length_nil, List.length_take] at or0_3_len
   refine rq ?_
   refine rqr ?_
   refine sp 4 [(14, .bool (cmp .lss (↑k) (↑(bvs.length))))] ?_
   refine se ?_
   refine rc 14 rfl (fun h2 => ?_) (fun h2 => ?_)
   ·
    have h2_r := h2
    have h2 := lss_t h2
    refine rskip ?_
    refine pst_next ?_
    refine rq ?_
    refine rb 1 ?_
    refine rq ?_
    refine rd 9 [(1, true), (2, true), (3, true), (5, true), (6, true), (7, true), (8, true), (0, false), (4, false)] ([]) ((oM0_3 ++ F)) ?_
    refine ox 2 [(19, .int .i64 (↑k)), (18, .slice bw_a bvs.length bw_c)] ?_
    have s5_f := bw_f.cutHi (k) (by omega)
    obtain ⟨s5_a, s5_c, s5_b, s5_o, s5_e, s5_l, s5_m, s5_r⟩ := id s5_f
    rw [s5_e] at s5_f
    have orw6 := hrw.take (k)
    have orw6_len := orw6.1
    try simp only [List.length_set, List.length_append, List.length_cons, List.length_nil, List.length_take] at orw6_len
    refine ofp_det (det_eq (det_slice (x := (.tmp 18)) (lo := none) (hi := (some (.tmp 19))) (T := 24) (e := 22) (sz := 1) (0) (k) (d := 20) (ty := 24) (gd := none) (by kernel_rfl) rfl (by kernel_rfl) (by kernel_rfl) rfl (.inl ⟨rfl, rfl⟩) (.inr ⟨_, .i64, rfl, rfl⟩) (by omega) (by omega)) s5_e) ?_
    refine ox 2 [(23, .int .i64 (↑k)), (22, .slice bw_a bvs.length bw_c)] ?_
    refine ofp_det (da 24 (↑k) (1)) ?_
    have s7_f := bw_f.cutLo (k + 1) (by omega)
    obtain ⟨s7_a, s7_c, s7_b, s7_o, s7_e, s7_l, s7_m, s7_r⟩ := id s7_f
    rw [s7_e] at s7_f
    have orw8 := hrw.drop (k + 1)
    have orw8_len := orw8.1
    try simp only [List.length_set, List.length_append, List.length_cons, List.length_nil, List.length_take] at orw8_len
    refine ofp_det (det_eq (det_slice (x := (.tmp 22)) (lo := (some (.tmp 24))) (hi := none) (T := 24) (e := 22) (sz := 1) (k + 1) (bvs.length) (d := 25) (ty := 24) (gd := none) (by kernel_rfl) rfl (by kernel_rfl) (by kernel_rfl) rfl (.inr ⟨_, .i64, rfl, rfl⟩) (.inl ⟨rfl, rfl⟩) (by omega) (by omega)) s7_e) ?_
    refine ofp_stp (sbs 17 22 0 #[] (fun b9 => ?_))
    refine ofp_settle (S' := ((b9, Obj.cells #[] 22 (0, 0)) :: (oM0_3 ++ F))) (List.Perm.refl _) ?_
    have ho11 : Own 22 1 valCell (.slice (some ⟨b9, 0, none⟩) 0 0) ([] : List Value) [(b9, Obj.cells #[] 22 (0, 0))] := Own.lit rfl rfl
    refine ofp_stp (stp_append (d := 21) (x := (.tmp 17)) (y := (.tmp 20)) (T := 24) (T' := 24) (E := 22) (E' := 22) (sz := 1) (bs := 24) (z := .slice none 0 0) (cell := valCell) (xs := ([] : List Value)) (ys := bvs.take (k)) (Ms := [(b9, Obj.cells #[] 22 (0, 0))]) (ty := 24) (gd := none) (by kernel_rfl) rfl (by kernel_rfl) (by kernel_rfl) (by kernel_rfl) (by kernel_rfl) (by kernel_rfl) (by decide) (by kernel_rfl) rfl rfl (ho11) (List.Perm.refl _) (one_valCell orw6.one) s5_f.src (by first | omega | (simp only [List.length_cons, List.length_nil, List.length_append, List.length_take, List.length_drop]; omega)) (fun v12 Ms12 ho12 => ?_))
    rw [List.nil_append] at ho12
    refine ofp_settle (S' := ((Ms12 ++ (oM0_3 ++ F)))) (List.Perm.refl _) ?_
    obtain ⟨oa12, oc12, oe12, ol12⟩ := ho12.shape
    subst oe12
    show OFP _ _ _ _ _ _ ((21, .slice oa12 (bvs.take (k)).length oc12) :: _) _ _
    have orw13 := (RowsV.nil _).append orw6
    simp only [List.nil_append] at orw13
    refine ofp_end ?_
    refine nm ?_
    refine nm ?_
    refine sS (stp_append (d := 26) (x := (.tmp 21)) (y := (.tmp 25)) (T := 24) (T' := 24) (E := 22) (E' := 22) (sz := 1) (bs := 24) (z := .slice none 0 0) (cell := valCell) (xs := bvs.take (k)) (ys := bvs.drop (k + 1)) (Ms := Ms12) (ty := 24) (gd := none) (by kernel_rfl) rfl (by kernel_rfl) (by kernel_rfl) (by kernel_rfl) (by kernel_rfl) (by kernel_rfl) (by decide) (by kernel_rfl) rfl rfl (ho12) (List.Perm.refl _) (one_valCell orw8.one) s7_f.src (by first | omega | (have hq := orw13.1; simp only [List.length_cons, List.length_nil, List.length_append, List.length_take, List.length_drop] at hq ⊢; omega)) (fun v14 Ms14 ho14 => ?_))
    refine nm ?_
    obtain ⟨oa14, oc14, oe14, ol14⟩ := ho14.shape
    subst oe14
    show Seq _ _ _ _ _ _ ((26, .slice oa14 ((bvs.take (k)) ++ (bvs.drop (k + 1))).length oc14) :: _) _ _
    have orw15 := (orw13).append orw8
    refine sfz undef ho14 (.refl _) (fun I16 hle17 fz18_f => ?_)
    replace bw_r := bw_r.mono hle17
    replace hrw := hrw.mono hle17
    replace or0_3 := or0_3.mono hle17
    replace orw15 := orw15.mono hle17
    obtain ⟨fz18_a, fz18_c, fz18_b, fz18_o, fz18_e, fz18_l, fz18_m, fz18_r⟩ := id fz18_f
    cases fz18_e
    have fr19_f := orw15.isRows fz18_f
    have fr19_len := orw15.1
    obtain ⟨fr19_a, fr19_c, fr19_b, fr19_o, fr19_vs, fr19_e, fr19_l, fr19_m, fr19_r, fr19_w⟩ := id fr19_f
    injection fr19_e with fr19_e1 fr19_e2 fr19_e3; subst fr19_e1; subst fr19_e3
    have hct32 := hs I16 _ _ (m) fr19_f (by rw [erase_take]; exact erase_len (by omega) (by omega)) (by omega) (by rw [erase_take]; exact fun x hx => hel x (List.mem_of_mem_eraseIdx hx)) (by rfl)
    refine sS (sc (some 27) (F := ((oM0_3 ++ F))) (hct32 :) (.refl _) (fun rv30 I20 rm31 hle21 hp22 => ?_))
    obtain ⟨u25, ws26, Ms27, hv23, hm24, qh28, qr29⟩ := hp22
    rw [hv23, hm24]; clear hv23 hm24
    replace bw_r := bw_r.mono hle21
    replace hrw := hrw.mono hle21
    replace or0_3 := or0_3.mono hle21
    obtain ⟨u25_a, u25_c, u25_e, u25_l⟩ := qh28.shape
    subst u25_e
    have qr29_len := qr29.1
    try simp only [List.length_set, List.length_append, List.length_cons, List.length_nil, List.length_take] at qr29_len
    refine nm ?_
    show Seq _ _ _ _ _ _ ((27, .slice u25_a ws26.length u25_c) :: _) _ _
    rw [erase_take] at qr29
    have qr29_len := qr29.1
    try simp only [List.length_set, List.length_append, List.length_cons, List.length_nil, List.length_take] at qr29_len
    have hrl := qr29.1
    have hrc := ordN_count (f := fun b r => b ++ r) (d := []) (z := []) m (bl.eraseIdx k) (erase_len (k := k) (by omega) (by omega))
    have hrf := fact_le5 (n := m) (by omega)
    have hrd : (rowsN m (bl.eraseIdx k)).length ≤ 120 := by (show (ordN _ _ _ _ _).length ≤ 120); omega
    refine sp 1 [(5, .slice u25_a ws26.length u25_c)] ?_
    refine sn ?_
    refine sp 1 [(6, .int .i64 (0))] ?_
    refine se ?_
    refine rb 2 ?_
    refine rl (fun mz a w => ∃ J1 : Imm, ∃ j : Nat, ∃ out2 : List (List Int), ∃ ov1_3 : Value, ∃ oM1_3 : Seg, ∃ ow1_3 : List Value, (I20.le J1) ∧ (j ≤ (rowsN m (bl.eraseIdx k)).length) ∧ (rowsN (m + 1) bl = out2 ++ (((rowsN m (bl.eraseIdx k)).drop j).map (fun r => bl.getD k [] ++ r) ++ ordFrom (fun b r => b ++ r) [] bl (rowsN m) (k + 1))) ∧ (RowsV J1 ow1_3 (out2)) ∧ (Own 22 1 valCell ov1_3 (ow1_3) oM1_3) ∧ Slots 49 [(3, ov1_3), (6, .int .i64 ↑j), (0, .slice bw_a bvs.length bw_c), (2, .slice none 0 0), (4, .int .i64 (↑k)), (5, .slice u25_a ws26.length u25_c)] a ∧ a.defers = [] ∧ St J1 ((Ms27 ++ (oM1_3 ++ F))) w ∧ mz = (rowsN m (bl.eraseIdx k)).length - j) ?_ ?_
    ·intro a w hS hD hW
     exact ⟨_, I20, 0, out, .slice ov0_3_a ow0_3.length ov0_3_c, oM0_3, ow0_3, Imm.le.refl _, Nat.zero_le _, hr.trans (by rw [ordFrom_go (by omega), List.drop_zero]), or0_3, oh0_3, hS.sub (.cons 3 rfl (.cons 6 rfl (.cons 0 rfl (.cons 2 rfl (.cons 4 rfl (.cons 5 rfl (.nil _))))))), hD, hW, rfl⟩
    ·rintro mz a w ⟨J1, j, out2, ov1_3, oM1_3, ow1_3, hJ1, hj, hr2, or1_3, oh1_3, hS, hD, hW, rfl⟩
     refine run_at hS hD hW ?_
     clear hS hD hW a w
     replace bw_r := bw_r.mono hJ1
     replace hrw := hrw.mono hJ1
     replace or0_3 := or0_3.mono hJ1
     replace qr29 := qr29.mono hJ1
     obtain ⟨ov1_3_a, ov1_3_c, ov1_3_e, ov1_3_l⟩ := oh1_3.shape; subst ov1_3_e
     have or1_3_len := or1_3.1
     try simp only [List.length_set, List.length_append, List.length_cons, List.length_nil, List.length_take] at or1_3_len
     refine rq ?_
     refine rqr ?_
     refine sp 4 [(31, .bool (cmp .lss (↑j) (↑(ws26.length))))] ?_
     refine se ?_
     refine rc 31 rfl (fun h3 => ?_) (fun h3 => ?_)
     ·
      have h3_r := h3
      have h3 := lss_t h3
      refine rskip ?_
      refine pst_next ?_
      refine rq ?_
      refine rb 3 ?_
      have hel1 := hel _ (getD_mem (d := []) (xs := bl) (k := k) (by omega))
      have hel2 := rowsN_len (m := 5) m (bl.eraseIdx k) (erase_len (k := k) (by omega) (by omega)) (fun x hx => hel x (List.mem_of_mem_eraseIdx hx)) _ (getD_mem (d := []) (xs := (rowsN m (bl.eraseIdx k))) (k := j) (by omega))
      have hln := congrArg List.length hr2
      rw [map_step (b := []) (by omega)] at hln
      simp only [List.length_append, List.length_cons] at hln
      refine rd 13 [(0, true), (2, true), (3, true), (4, true), (5, true), (7, true), (8, true), (9, true), (10, true), (1, false), (6, false), (11, false), (12, false)] (Ms27) ((oM1_3 ++ F)) ?_
      refine ox 3 [(37, .int .i64 (↑k)), (36, .slice bw_a bvs.length bw_c), (34, .slice ov1_3_a ow1_3.length ov1_3_c)] ?_
      refine ofp_det (di 38 1 (k) bw_r.addr) ?_
      have r33_f := hrw.2 (k) (by omega)
      obtain ⟨r33_a, r33_c, r33_b, r33_o, r33_e, r33_l, r33_m, r33_r⟩ := id r33_f
      rw [r33_e] at r33_f
      refine ofp_det (det_eq (dl 39 (vals_get bw_r (k) (by omega))) r33_e) ?_
      refine ox 2 [(42, .int .i64 (↑j)), (41, .slice u25_a ws26.length u25_c)] ?_
      obtain ⟨ob34, orr35⟩ := qh28.row undef
      refine ofp_det (di 43 1 (j) orr35.addr) ?_
      have r36_f := qr29.2 (j) (by omega)
      obtain ⟨r36_a, r36_c, r36_b, r36_o, r36_e, r36_l, r36_m, r36_r⟩ := id r36_f
      rw [r36_e] at r36_f
      refine ofp_det (det_eq (dl 44 (orr35.get (j) (by omega) 0 (by decide) _ _ (fun x hx => by simp [hx]))) r36_e) ?_
      refine ofp_stp (sbs 35 3 0 #[] (fun b37 => ?_))
      refine ofp_settle (S' := ((b37, Obj.cells #[] 3 (0, 0)) :: (oM1_3 ++ F))) (List.perm_middle.symm) ?_
      have ho39 : Own 3 1 intCell (.slice (some ⟨b37, 0, none⟩) 0 0) ([] : List Int) [(b37, Obj.cells #[] 3 (0, 0))] := Own.lit rfl rfl
      refine ofp_stp (stp_append (d := 40) (x := (.tmp 35)) (y := (.tmp 39)) (T := 22) (T' := 22) (E := 3) (E' := 3) (sz := 1) (bs := 8) (z := .int .i64 (0)) (cell := intCell) (xs := ([] : List Int)) (ys := bl.getD (k) []) (Ms := [(b37, Obj.cells #[] 3 (0, 0))]) (ty := 22) (gd := none) (by kernel_rfl) rfl (by kernel_rfl) (by kernel_rfl) (by kernel_rfl) (by kernel_rfl) (by kernel_rfl) (by decide) (by kernel_rfl) rfl rfl (ho39) List.perm_middle (one_intCell _) r33_f.src (by first | omega | (simp only [List.length_cons, List.length_nil, List.length_append, List.length_take, List.length_drop]; omega)) (fun v40 Ms40 ho40 => ?_))
      rw [List.nil_append] at ho40
      refine ofp_settle (S' := ((Ms40 ++ (oM1_3 ++ F)))) (List.perm_append_comm_assoc _ _ _) ?_
      obtain ⟨oa40, oc40, oe40, ol40⟩ := ho40.shape
      subst oe40
      show OFP _ _ _ _ _ _ ((40, .slice oa40 (bl.getD (k) []).length oc40) :: _) _ _
      refine ofp_stp (stp_append (d := 45) (x := (.tmp 40)) (y := (.tmp 44)) (T := 22) (T' := 22) (E := 3) (E' := 3) (sz := 1) (bs := 8) (z := .int .i64 (0)) (cell := intCell) (xs := bl.getD (k) []) (ys := ((rowsN m (bl.eraseIdx k))).getD (j) []) (Ms := Ms40) (ty := 22) (gd := none) (by kernel_rfl) rfl (by kernel_rfl) (by kernel_rfl) (by kernel_rfl) (by kernel_rfl) (by kernel_rfl) (by decide) (by kernel_rfl) rfl rfl (ho40) (List.perm_append_comm_assoc _ _ _) (one_intCell _) r36_f.src (by first | omega | (simp only [List.length_cons, List.length_nil, List.length_append, List.length_take, List.length_drop]; omega)) (fun v41 Ms41 ho41 => ?_))
      refine ofp_settle (S' := ((Ms41 ++ (oM1_3 ++ F)))) (List.perm_append_comm_assoc _ _ _) ?_
      obtain ⟨oa41, oc41, oe41, ol41⟩ := ho41.shape
      subst oe41
      show OFP _ _ _ _ _ _ ((45, .slice oa41 ((bl.getD (k) []) ++ (((rowsN m (bl.eraseIdx k))).getD (j) [])).length oc41) :: _) _ _
      refine ofp_stp (sbs 46 22 1 #[.slice oa41 ((bl.getD (k) []) ++ (((rowsN m (bl.eraseIdx k))).getD (j) [])).length oc41] (fun b42 => ?_))
      refine ofp_settle (S' := ((b42, Obj.cells #[.slice oa41 ((bl.getD (k) []) ++ (((rowsN m (bl.eraseIdx k))).getD (j) [])).length oc41] 22 (0, 0)) :: (Ms41 ++ (oM1_3 ++ F)))) (List.perm_middle.symm) ?_
      refine ofp_end ?_
      refine nm ?_
      refine pm (M' := ((b42, Obj.cells #[.slice oa41 ((bl.getD (k) []) ++ (((rowsN m (bl.eraseIdx k))).getD (j) [])).length oc41] 22 (0, 0)) :: (Ms27 ++ (Ms41 ++ (oM1_3 ++ F))))) List.perm_middle ?_
      refine sfz (A := ((b42, Obj.cells #[.slice oa41 ((bl.getD (k) []) ++ (((rowsN m (bl.eraseIdx k))).getD (j) [])).length oc41] 22 (0, 0)) :: (Ms27 ++ (oM1_3 ++ F)))) 0 ho41 ((List.Perm.cons _ (List.perm_append_comm_assoc _ _ _)).trans (List.perm_middle.symm)) (fun I44 hle45 fz46_f => ?_)
      replace or0_3 := or0_3.mono hle45
      replace or1_3 := or1_3.mono hle45
      obtain ⟨fz46_a, fz46_c, fz46_b, fz46_o, fz46_e, fz46_l, fz46_m, fz46_r⟩ := id fz46_f
      cases fz46_e
      refine sS (stp_append (d := 47) (x := (.tmp 34)) (y := (.tmp 46)) (T := 24) (T' := 24) (E := 22) (E' := 22) (sz := 1) (bs := 24) (z := .slice none 0 0) (cell := valCell) (xs := ow1_3) (ys := [(.slice oa41 ((bl.getD (k) []) ++ (((rowsN m (bl.eraseIdx k))).getD (j) [])).length oc41 : Value)]) (Ms := oM1_3) (ty := 24) (gd := none) (by kernel_rfl) rfl (by kernel_rfl) (by kernel_rfl) (by kernel_rfl) (by kernel_rfl) (by kernel_rfl) (by decide) (by kernel_rfl) rfl rfl (oh1_3) ((List.Perm.cons _ (List.perm_append_comm_assoc _ _ _)).trans (List.perm_middle.symm)) (one_valCell rfl) (src_atS 0 rfl rfl) (by first | omega | (have hq := or1_3.1; simp only [List.length_cons, List.length_nil, List.length_append, List.length_take, List.length_drop] at hq ⊢; omega)) (fun v47 Ms47 ho47 => ?_))
      refine seq_mem (M' := ((Ms47 ++ (Ms27 ++ F)))) (fun w h => (h.perm List.perm_middle).sub (List.Sublist.cons _ (List.Sublist.refl _))) ?_
      obtain ⟨oa47, oc47, oe47, ol47⟩ := ho47.shape
      subst oe47
      show Seq _ _ _ _ _ _ ((47, .slice oa47 (ow1_3 ++ ([(.slice oa41 ((bl.getD (k) []) ++ (((rowsN m (bl.eraseIdx k))).getD (j) [])).length oc41 : Value)])).length oc47) :: _) _ _
      have orw48 := (or1_3).snoc fz46_f
      refine sp 1 [(3, .slice oa47 (ow1_3 ++ ([(.slice oa41 ((bl.getD (k) []) ++ (((rowsN m (bl.eraseIdx k))).getD (j) [])).length oc41 : Value)])).length oc47)] ?_
      refine ee ?_
      refine pst_normal_block ?_
      refine pst_next ?_
      refine rr ?_
      refine sp 1 [(32, .int .i64 (↑j))] ?_
      refine sd (da 33 (↑j) (1)) ?_
      refine sp 1 [(6, .int .i64 (↑j + 1))] ?_
      refine ee ?_
      refine pst_back ((rowsN m (bl.eraseIdx k)).length - (j+1)) (by omega) ?_
      intro a w hS hD hW
      exact ⟨I44, j+1, out2 ++ [(bl.getD (k) []) ++ (((rowsN m (bl.eraseIdx k))).getD (j) [])], .slice oa47 (ow1_3 ++ ([(.slice oa41 ((bl.getD (k) []) ++ (((rowsN m (bl.eraseIdx k))).getD (j) [])).length oc41 : Value)])).length oc47, Ms47, ow1_3 ++ ([(.slice oa41 ((bl.getD (k) []) ++ (((rowsN m (bl.eraseIdx k))).getD (j) [])).length oc41 : Value)]), (Imm.le.trans hJ1 hle45), by omega, hr2.trans (by rw [map_step (b := []) (by omega)]; simp only [List.append_assoc, List.cons_append, List.nil_append]), orw48, ho47, hS.sub (.consE 3 rfl rfl (.consE 6 rfl rfl (.cons 0 rfl (.cons 2 rfl (.cons 4 rfl (.cons 5 rfl (.nil _))))))), hD, hW.perm (List.perm_append_comm_assoc _ _ _), rfl⟩
     ·
      have h3_r := h3
      have h3 := lss_f h3
      refine rexit 2 ?_
      refine (pst_exit_pass (pst_exit_pass (pst_exit_block ?_)))
      refine pst_normal_block ?_
      refine pst_next ?_
      refine rr ?_
      refine sp 1 [(15, .int .i64 (↑k))] ?_
      refine sd (da 16 (↑k) (1)) ?_
      refine sp 1 [(4, .int .i64 (↑k + 1))] ?_
      refine ee ?_
      refine pst_back (bl.length - (k+1)) (by omega) ?_
      intro a w hS hD hW
      exact ⟨J1, k+1, out2, .slice ov1_3_a ow1_3.length ov1_3_c, oM1_3, ow1_3, (Imm.le.trans (Imm.le.trans (Imm.le.trans hJ0 hle17) hle21) hJ1), by omega, hr2.trans (by rw [map_end (by omega), List.nil_append]), or1_3, oh1_3, hS.sub (.consE 3 rfl rfl (.consE 4 rfl rfl (.cons 0 rfl (.cons 2 rfl (.nil _))))), hD, (hW.perm (List.Perm.refl _)).sub (List.Sublist.trans (List.Sublist.refl _) (List.sublist_append_right _ _)), rfl⟩
   ·
    have h2_r := h2
    have h2 := lss_f h2
    refine rexit 0 ?_
    refine (pst_exit_pass (pst_exit_pass (pst_exit_block ?_)))
    refine pst_next ?_
    refine rqr ?_
    refine sp 2 [(2, .slice ov0_3_a ow0_3.length ov0_3_c)] ?_
    refine se ?_
    refine rret ?_
    refine pst_ret1 (t := 2) (oM0_3) (by kernel_rfl) rfl (List.Sublist.append_left (List.Sublist.refl _) _) hJ0 ?_
    exact ⟨_, _, _, rfl, rfl, oh0_3, ((show out = rowsN n bl from by rw [hnm, hr, ordFrom_done (by omega), List.append_nil]) ▸ or0_3)⟩

theorem rows_all (n : Nat) : RowsAt n := by
 induction n with
 | zero => intro I b bl n b_f hn h5 hel hdn; exact rows_of I b bl n b_f hn h5 hel (fun m hm => by omega)
 | succ m ih => intro I b bl n b_f hn h5 hel hdn; exact rows_of I b bl n b_f hn h5 hel (fun k hk => (show m = k by omega) ▸ ih)
theorem rows_ct (I : Imm) (b : Value) (bl : List (List Int)) (n : Nat) (b_f : IsRows I b bl) (hn : bl.length = n) (h5 : n ≤ 5) (hel : ∀ x ∈ bl, x.length ≤ 5) : Ct Tryd.prog 10 #[b] I ([]) (fun v I' M' => ∃ u : Value, ∃ ws : List Value, ∃ Ms : Seg, v = u ∧ M' = Ms ∧ Own 22 1 valCell u ws Ms ∧ RowsV I' ws (rowsN n bl)) := rows_all n I b bl n b_f hn h5 hel rfl
end Go.Proofs.YtcaocbhbofejnaaDoor
namespace Go.Proofs.YtcaocbhbofejnaaDoor
open Go Go.Sl Go.Sh
set_option maxRecDepth 100000
noncomputable def c_Blocks (p : List Nat) : Code := sub (bodyOf Tryd.f11) p
theorem Blocks_ct (I : Imm) (y : Value) (Y : Yard) (y_f : IsYard I y Y) (ho : Ok Y.cars (Y.tracks.getD (0) [])) (h1 : 0 < Y.tracks.length) (hl : (Y.tracks.getD (0) []).length ≤ 1000000) : Ct Tryd.prog 11 #[y] I ([]) (fun v I' M' => ∃ u : Value, ∃ ws : List Value, ∃ Ms : Seg, v = u ∧ M' = Ms ∧ Own 22 1 valCell u ws Ms ∧ RowsV I' ws (blocksOf Y.cars (Y.tracks.getD (0) []))) := by
 obtain ⟨y1, y2, y3, y_e, y1_f, y2_f, y3_f⟩ := id y_f
 subst y_e
 obtain ⟨y1_a, y1_c, y1_b, y1_o, y1_e, y1_l, y1_m, y1_r⟩ := id y1_f
 subst y1_e
 obtain ⟨y2_a, y2_c, y2_b, y2_o, y2_e, y2_l, y2_m, y2_r⟩ := id y2_f
 subst y2_e
 obtain ⟨y3_a, y3_c, y3_b, y3_o, y3_vs, y3_e, y3_l, y3_m, y3_r, y3_w⟩ := id y3_f
 subst y3_e
 refine fn_of_run (fn := Tryd.f11) (args := [_]) (N := 72) Tryd.func11 rfl (by kernel_rfl) (Nat.le_of_ble_eq_true rfl) (fun F => ?_)
 show Run _ _ (c_Blocks []) _ _ [(0, .agg #[.slice y1_a Y.cars.length y1_c, .slice y2_a Y.room.length y2_c, .slice y3_a Y.tracks.length y3_c])] _ _
 refine rnm ?_
 refine rqr ?_
 refine sS (sb 1 26 #[.slice y1_a Y.cars.length y1_c, .slice y2_a Y.room.length y2_c, .slice y3_a Y.tracks.length y3_c] (fun b1 => ?_))
 refine sp 1 [(2, .slice none 0 0)] ?_
 refine sn ?_
 refine sp 1 [(3, .slice none 0 0)] ?_
 refine se ?_
 refine rq ?_
 refine rqr ?_
 refine sp 1 [(4, .int .i64 (0))] ?_
 refine se ?_
 refine rb 0 ?_
 refine rl (fun mz a w => ∃ k : Nat, ∃ bv : Value, ∃ vs : List Value, ∃ bM : Seg, ∃ eM : Seg, (k ≤ (Y.tracks.getD (0) []).length) ∧ (Own 22 1 valCell bv vs bM) ∧ (OwnEach 3 vs (blocksTo Y.cars (Y.tracks.getD (0) []) k) eM) ∧ Slots 72 [(3, bv), (4, .int .i64 ↑k), (1, .pointer (some ⟨b1, 0, none⟩)), (2, .slice none 0 0)] a ∧ a.defers = [] ∧ St I ((b1, Obj.cells #[.slice y1_a Y.cars.length y1_c, .slice y2_a Y.room.length y2_c, .slice y3_a Y.tracks.length y3_c] 26 (0, 0)) :: (bM ++ (eM ++ F))) w ∧ mz = (Y.tracks.getD (0) []).length - k) ?_ ?_
 ·intro a w hS hD hW
  exact ⟨_, 0, (.slice none 0 0), [], [], [], Nat.zero_le _, Own.nil _ _ _, OwnEach.nil, hS.sub (.cons 3 rfl (.cons 4 rfl (.cons 1 rfl (.cons 2 rfl (.nil _))))), hD, hW, rfl⟩
 ·rintro mz a w ⟨k, bv, vs, bM, eM, hk, bo, hea, hS, hD, hW, rfl⟩
  refine run_at hS hD hW ?_
  clear hS hD hW a w
  obtain ⟨bv_a, bv_c, bv_e, bv_l⟩ := bo.shape; subst bv_e
  have hbl := hea.length
  have hbt := blocksTo_len Y.cars (Y.tracks.getD (0) []) k
  refine rq ?_
  refine rqr ?_
  refine sp 2 [(8, .pointer (some ⟨b1, 2, none⟩)), (7, .int .i64 (↑k))] ?_
  refine sd (dlb 9 0 2 b1 (.slice y3_a Y.tracks.length y3_c)) ?_
  refine sd (di 10 1 (0) y3_r.addr) ?_
  have r3_f := y3_w (0) (by omega)
  obtain ⟨r3_a, r3_c, r3_b, r3_o, r3_e, r3_l, r3_m, r3_r⟩ := id r3_f
  rw [r3_e] at r3_f
  refine sd (det_eq (dl 11 (rows_get y3_r (0) (by omega))) r3_e) ?_
  refine sp 2 [(13, .bool (cmp .lss (↑k) (↑((Y.tracks.getD (0) []).length))))] ?_
  refine se ?_
  refine rc 13 rfl (fun h1 => ?_) (fun h1 => ?_)
  ·
   have h1_r := h1
   have h1 := lss_t h1
   refine rskip ?_
   refine pst_next ?_
   refine rq ?_
   refine rb 1 ?_
   refine rqr ?_
   refine sp 1 [(16, .pointer (some ⟨b1, 2, none⟩))] ?_
   refine sd (dlb 17 0 2 b1 (.slice y3_a Y.tracks.length y3_c)) ?_
   refine sd (di 18 1 (0) y3_r.addr) ?_
   have r4_f := y3_w (0) (by omega)
   obtain ⟨r4_a, r4_c, r4_b, r4_o, r4_e, r4_l, r4_m, r4_r⟩ := id r4_f
   rw [r4_e] at r4_f
   refine sd (det_eq (dl 19 (rows_get y3_r (0) (by omega))) r4_e) ?_
   refine sp 1 [(20, .int .i64 (↑k))] ?_
   refine sd (di 21 1 (k) r4_r.addr) ?_
   refine sd (dl 22 (ints_get r4_r (k) (by omega))) ?_
   refine sp 1 [(5, .int .i64 ((Y.tracks.getD (0) []).getD (k) 0))] ?_
   refine sn ?_
   have hc := ho.at k (by omega)
   refine sp 1 [(23, .pointer (some ⟨b1, 0, none⟩))] ?_
   refine sd (dlb 24 0 0 b1 (.slice y1_a Y.cars.length y1_c)) ?_
   refine sp 1 [(25, .int .i64 ((Y.tracks.getD (0) []).getD (k) 0))] ?_
   refine sd (diI 26 6 ((Y.tracks.getD (0) []).getD (k) 0) y1_r.addr) ?_
   refine sp 1 [(27, .pointer (some ⟨y1_b, y1_o + (((Y.tracks.getD (0) []).getD (k) 0 : Int).toNat) * 6 + 3, none⟩))] ?_
   refine sd (dl 28 (cars_get y1_r (((Y.tracks.getD (0) []).getD (k) 0 : Int).toNat) (by omega) 3 (by decide) (v := .int .i64 ((Y.cars.getD (((Y.tracks.getD (0) []).getD (k) 0 : Int).toNat) noCar).grp)) rfl)) ?_
   refine sp 1 [(6, .int .i64 ((Y.cars.getD (((Y.tracks.getD (0) []).getD (k) 0 : Int).toNat) noCar).grp))] ?_
   refine se ?_
   refine rq ?_
   refine run_cut (fun a w => Slots 72 [(1, .pointer (some ⟨b1, 0, none⟩)), (2, .slice none 0 0), (3, .slice bv_a vs.length bv_c), (4, .int .i64 (↑k)), (5, .int .i64 ((Y.tracks.getD (0) []).getD (k) 0)), (51, .bool ((cmp .gtr (↑k) (0)) && ((cmp .gtr ((Y.cars.getD (((Y.tracks.getD (0) []).getD (k) 0 : Int).toNat) noCar).grp) (0)) && (cmp .eql ((Y.cars.getD (((Y.tracks.getD (0) []).getD (k) 0 : Int).toNat) noCar).grp) ((Y.cars.getD (((Y.tracks.getD (0) []).getD ((↑k - 1 : Int).toNat) 0 : Int).toNat) noCar).grp)))))] a ∧ a.defers = [] ∧ St I ((b1, Obj.cells #[.slice y1_a Y.cars.length y1_c, .slice y2_a Y.room.length y2_c, .slice y3_a Y.tracks.length y3_c] 26 (0, 0)) :: (bM ++ (eM ++ F))) w) ?_ ?_
   ·
    refine rd0 21 ?_
    refine ox 3 [(31, .bool (cmp .gtr (↑k) (0)))] ?_
    refine ofp_split 31 (fun h2 => ?_) (fun h2 => ?_)
    ·
     have h2_b := h2
     have h2_b := gtr_t h2_b
     refine ox 4 [(35, .bool (cmp .gtr ((Y.cars.getD (((Y.tracks.getD (0) []).getD (k) 0 : Int).toNat) noCar).grp) (0)))] ?_
     refine ofp_split 35 (fun h3 => ?_) (fun h3 => ?_)
     ·
      have h3_b := h3
      have h3_b := gtr_t h3_b
      refine ox 2 [(37, .pointer (some ⟨b1, 0, none⟩)), (36, .int .i64 ((Y.cars.getD (((Y.tracks.getD (0) []).getD (k) 0 : Int).toNat) noCar).grp))] ?_
      refine ofp_det (dlb 38 0 0 b1 (.slice y1_a Y.cars.length y1_c)) ?_
      refine ox 1 [(39, .pointer (some ⟨b1, 2, none⟩))] ?_
      refine ofp_det (dlb 40 0 2 b1 (.slice y3_a Y.tracks.length y3_c)) ?_
      refine ofp_det (di 41 1 (0) y3_r.addr) ?_
      have r5_f := y3_w (0) (by omega)
      obtain ⟨r5_a, r5_c, r5_b, r5_o, r5_e, r5_l, r5_m, r5_r⟩ := id r5_f
      rw [r5_e] at r5_f
      refine ofp_det (det_eq (dl 42 (rows_get y3_r (0) (by omega))) r5_e) ?_
      refine ox 1 [(43, .int .i64 (↑k))] ?_
      refine ofp_det (dsb 44 (↑k) (1)) ?_
      refine ofp_det (diI 45 1 (↑k - 1) r5_r.addr) ?_
      refine ofp_det (dl 46 (ints_get r5_r ((↑k - 1 : Int).toNat) (by omega))) ?_
      have hc2 := ho.at ((↑k : Int) - 1).toNat (by omega)
      refine ofp_det (diI 47 6 ((Y.tracks.getD (0) []).getD ((↑k - 1 : Int).toNat) 0) y1_r.addr) ?_
      refine ox 1 [(48, .pointer (some ⟨y1_b, y1_o + (((Y.tracks.getD (0) []).getD ((↑k - 1 : Int).toNat) 0 : Int).toNat) * 6 + 3, none⟩))] ?_
      refine ofp_det (dl 49 (cars_get y1_r (((Y.tracks.getD (0) []).getD ((↑k - 1 : Int).toNat) 0 : Int).toNat) (by omega) 3 (by decide) (v := .int .i64 ((Y.cars.getD (((Y.tracks.getD (0) []).getD ((↑k - 1 : Int).toNat) 0 : Int).toNat) noCar).grp)) rfl)) ?_
      refine ofp_end0 ?_
      refine sp 2 [(51, .bool (cmp .eql ((Y.cars.getD (((Y.tracks.getD (0) []).getD (k) 0 : Int).toNat) noCar).grp) ((Y.cars.getD (((Y.tracks.getD (0) []).getD ((↑k - 1 : Int).toNat) 0 : Int).toNat) noCar).grp)))] ?_
      refine ee ?_
      refine pst_meet (fun a w hS hD hW => ⟨hS.sub (.cons 1 rfl (.cons 2 rfl (.cons 3 rfl (.cons 4 rfl (.cons 5 rfl (.consE 51 rfl (congrArg Value.bool (by simp only [h2, h3, Bool.true_and, Bool.false_and, Bool.and_true, Bool.and_false, Bool.true_or, Bool.false_or, Bool.or_true, Bool.or_false, cond_true, cond_false])) (.nil _))))))), hD, hW⟩)
     ·
      have h3_b := h3
      have h3_b := gtr_f h3_b
      refine ox 14 [(49, undef), (36, undef)] ?_
      refine ofp_end0 ?_
      refine sp 2 [(51, .bool (false))] ?_
      refine ee ?_
      refine pst_meet (fun a w hS hD hW => ⟨hS.sub (.cons 1 rfl (.cons 2 rfl (.cons 3 rfl (.cons 4 rfl (.cons 5 rfl (.consE 51 rfl (congrArg Value.bool (by simp only [h2, h3, Bool.true_and, Bool.false_and, Bool.and_true, Bool.and_false, Bool.true_or, Bool.false_or, Bool.or_true, Bool.or_false, cond_true, cond_false])) (.nil _))))))), hD, hW⟩)
    ·
     have h2_b := h2
     have h2_b := gtr_f h2_b
     refine ox 18 [(49, undef), (36, undef), (35, .bool (false))] ?_
     refine ofp_end0 ?_
     refine sp 2 [(51, .bool (false))] ?_
     refine ee ?_
     refine pst_meet (fun a w hS hD hW => ⟨hS.sub (.cons 1 rfl (.cons 2 rfl (.cons 3 rfl (.cons 4 rfl (.cons 5 rfl (.consE 51 rfl (congrArg Value.bool (by simp only [h2, Bool.true_and, Bool.false_and, Bool.and_true, Bool.and_false, Bool.true_or, Bool.false_or, Bool.or_true, Bool.or_false, cond_true, cond_false])) (.nil _))))))), hD, hW⟩)
   ·rintro a w ⟨hS, hD, hW⟩
    refine run_at hS hD hW ?_
    clear hS hD hW a w
    refine rc 51 rfl (fun h4 => ?_) (fun h4 => ?_)
    ·
     have h4_r := h4
     obtain ⟨h4_1, h4_2⟩ := and_t h4
     have h4_1 := gtr_t h4_1
     obtain ⟨h4_2_1, h4_2_2⟩ := and_t h4_2
     have h4_2_1 := gtr_t h4_2_1
     have h4_2_2 := eql_t h4_2_2
     have hcp : coupled Y.cars (Y.tracks.getD (0) []) ↑k = true := (coupled_raw (by omega)).trans (by have hh := h4_r; simp only [cmp_gtr, cmp_eql] at hh; exact hh)
     have hcq := coupled_pos hcp
     have hb2 := hbt.2.1 (by omega)
     have hel := hbt.2.2 _ (getD_mem (d := []) (xs := blocksTo Y.cars (Y.tracks.getD (0) []) k) (k := ((↑(vs.length)) - 1 : Int).toNat) (by omega))
     obtain ⟨eMs6, eR6, eo6, ep6, ek6⟩ := OwnEach.pull hea (((↑(vs.length)) - 1 : Int).toNat) (by omega)
     obtain ⟨ev6_a, ev6_c, ev6_e, ev6_l⟩ := eo6.shape
     rw [ev6_e] at eo6
     refine rn_mem (M' := ((eMs6 ++ (eR6 ++ (b1, Obj.cells #[.slice y1_a Y.cars.length y1_c, .slice y2_a Y.room.length y2_c, .slice y3_a Y.tracks.length y3_c] 26 (0, 0)) :: (bM ++ F))))) (fun w h => ?_) ?_
     ·have h2 := h.perm ((List.Perm.cons _ (List.perm_append_comm_assoc _ _ _)).trans (List.perm_middle.symm))
      have h3 := St.permL (A' := eMs6 ++ eR6) (A := eM) (by simpa only [List.append_assoc, List.append_nil] using ep6) (by simpa only [List.append_assoc] using h2)
      simpa only [List.append_assoc] using h3
     refine rn_mem (M' := ((b1, Obj.cells #[.slice y1_a Y.cars.length y1_c, .slice y2_a Y.room.length y2_c, .slice y3_a Y.tracks.length y3_c] 26 (0, 0)) :: (eMs6 ++ (eR6 ++ (bM ++ F))))) (fun w h => h.perm ((List.Perm.append_left _ List.perm_middle).trans List.perm_middle)) ?_
     refine rr ?_
     refine sp 3 [(54, .int .i64 (↑(vs.length))), (52, .slice bv_a vs.length bv_c)] ?_
     refine sd (dsb 55 (↑(vs.length)) (1)) ?_
     refine sp 3 [(58, .int .i64 (↑(vs.length))), (56, .slice bv_a vs.length bv_c)] ?_
     refine sd (dsb 59 (↑(vs.length)) (1)) ?_
     obtain ⟨ob7, orr8⟩ := bo.row undef
     refine sd (diI 60 1 ((↑(vs.length)) - 1) orr8.addr) ?_
     refine sd (det_eq (det_load (x := (.tmp 60)) (T := 22) (d := 61) (ty := 22) (gd := none) (by kernel_rfl) rfl (by kernel_rfl) rfl (orr8.get (((↑(vs.length)) - 1 : Int).toNat) (by omega) 0 (by decide) _ _ (fun x hx => by simp [hx]))) ev6_e) ?_
     refine sp 1 [(62, .int .i64 ((Y.tracks.getD (0) []).getD (k) 0))] ?_
     refine sS (sbs 63 3 1 #[.int .i64 ((Y.tracks.getD (0) []).getD (k) 0)] (fun b9 => ?_))
     refine sS (stp_append (d := 64) (x := (.tmp 61)) (y := (.tmp 63)) (T := 22) (T' := 22) (E := 3) (E' := 3) (sz := 1) (bs := 8) (z := .int .i64 (0)) (cell := intCell) (xs := (blocksTo Y.cars (Y.tracks.getD (0) []) k).getD (((↑(vs.length)) - 1 : Int).toNat) []) (ys := [((Y.tracks.getD (0) []).getD (k) 0 : Int)]) (Ms := eMs6) (ty := 22) (gd := none) (by kernel_rfl) rfl (by kernel_rfl) (by kernel_rfl) (by kernel_rfl) (by kernel_rfl) (by kernel_rfl) (by decide) (by kernel_rfl) rfl rfl (eo6) ((List.Perm.cons _ (List.perm_middle.symm)).trans (List.perm_middle.symm)) (one_intCell _) (src_atS 0 rfl rfl) (by first | omega | (simp only [List.length_cons, List.length_nil, List.length_append, List.length_take, List.length_drop]; omega)) (fun v11 Ms11 ho11 => ?_))
     refine seq_mem (M' := ((b1, Obj.cells #[.slice y1_a Y.cars.length y1_c, .slice y2_a Y.room.length y2_c, .slice y3_a Y.tracks.length y3_c] 26 (0, 0)) :: (Ms11 ++ (eR6 ++ (bM ++ F))))) (fun w h => (h.perm (List.perm_middle.trans (List.Perm.cons _ List.perm_middle))).sub (List.Sublist.cons _ (List.Sublist.refl _))) ?_
     obtain ⟨oa11, oc11, oe11, ol11⟩ := ho11.shape
     subst oe11
     show Seq _ _ _ _ _ _ ((64, .slice oa11 (((blocksTo Y.cars (Y.tracks.getD (0) []) k).getD (((↑(vs.length)) - 1 : Int).toNat) []) ++ ([((Y.tracks.getD (0) []).getD (k) 0 : Int)])).length oc11) :: _) _ _
     obtain ⟨ob12, orr13⟩ := bo.row undef
     refine sd (diI 65 1 ((↑(vs.length)) - 1) orr13.addr) ?_
     refine sS (stp_storeOwn (T := 22) (x := (.tmp 65)) (y := (.tmp 64)) (rc := fun i f => valCell ((vs).getD i undef) f) undef (((↑(vs.length)) - 1 : Int).toNat) 0 ((.slice oa11 (((blocksTo Y.cars (Y.tracks.getD (0) []) k).getD (((↑(vs.length)) - 1 : Int).toNat) []) ++ ([((Y.tracks.getD (0) []).getD (k) 0 : Int)])).length oc11 : Value)) (ty := 0) (gd := none) (by kernel_rfl) rfl bo orr13 (by omega) (by decide) rfl rfl (by kernel_rfl) rfl rfl (by intro f hf; match f, hf with | 0, _ => rfl) ((List.Perm.cons _ ((List.Perm.append_left _ (List.perm_append_comm_assoc _ _ _)).trans (List.perm_append_comm_assoc _ _ _))).trans (List.perm_middle.symm)) (fun Ms14 ho14 => ?_))
     refine pm (M' := ((b1, Obj.cells #[.slice y1_a Y.cars.length y1_c, .slice y2_a Y.room.length y2_c, .slice y3_a Y.tracks.length y3_c] 26 (0, 0)) :: (Ms14 ++ (Ms11 ++ (eR6 ++ F))))) List.perm_middle ?_
     obtain ⟨eM14, hea14, ep14⟩ := ek6 _ _ _ ho11
     refine seq_mem (I' := I) (M' := ((eM14 ++ (b1, Obj.cells #[.slice y1_a Y.cars.length y1_c, .slice y2_a Y.room.length y2_c, .slice y3_a Y.tracks.length y3_c] 26 (0, 0)) :: (Ms14 ++ F)))) (fun w h => ?_) ?_
     ·have h2 := h.perm (((List.Perm.cons _ (List.perm_append_comm_assoc _ _ _)).trans (List.perm_middle.symm)).trans (List.Perm.append_left _ ((List.Perm.cons _ (List.perm_append_comm_assoc _ _ _)).trans (List.perm_middle.symm))))
      simp only [← List.append_assoc] at h2
      have h3 := St.permL (A' := eM14) (A := Ms11 ++ eR6) (by simpa only [List.append_assoc, List.append_nil] using ep14.symm) (by simpa only [List.append_assoc] using h2)
      simpa only [List.append_assoc] using h3
     refine pm (M' := ((b1, Obj.cells #[.slice y1_a Y.cars.length y1_c, .slice y2_a Y.room.length y2_c, .slice y3_a Y.tracks.length y3_c] 26 (0, 0)) :: (eM14 ++ (Ms14 ++ F)))) List.perm_middle ?_
     refine ee ?_
     refine pst_normal_block ?_
     refine pst_next ?_
     refine rr ?_
     refine sp 1 [(14, .int .i64 (↑k))] ?_
     refine sd (da 15 (↑k) (1)) ?_
     refine sp 1 [(4, .int .i64 (↑k + 1))] ?_
     refine ee ?_
     refine pst_back ((Y.tracks.getD (0) []).length - (k+1)) (by omega) ?_
     intro a w hS hD hW
     exact ⟨k+1, (.slice bv_a vs.length bv_c), vs.set (((↑(vs.length)) - 1 : Int).toNat) ((.slice oa11 (((blocksTo Y.cars (Y.tracks.getD (0) []) k).getD (((↑(vs.length)) - 1 : Int).toNat) []) ++ ([((Y.tracks.getD (0) []).getD (k) 0 : Int)])).length oc11 : Value)), Ms14, eM14, by omega, ho14, (by rw [blocksTo_yesI (i := ((↑(vs.length)) - 1 : Int).toNat) hcp (by omega)]; exact hea14), hS.sub (.consE 3 rfl rfl (.consE 4 rfl rfl (.cons 1 rfl (.cons 2 rfl (.nil _))))), hD, hW.perm (List.Perm.cons _ (List.perm_append_comm_assoc _ _ _)), rfl⟩
    ·
     have h4_r := h4
     have hcp : coupled Y.cars (Y.tracks.getD (0) []) ↑k = false := (coupled_raw (by omega)).trans (by have hh := h4_r; simp only [cmp_gtr, cmp_eql] at hh; exact hh)
     refine rr ?_
     refine sp 2 [(67, .int .i64 ((Y.tracks.getD (0) []).getD (k) 0)), (66, .slice bv_a vs.length bv_c)] ?_
     refine sS (sbs 68 3 1 #[.int .i64 ((Y.tracks.getD (0) []).getD (k) 0)] (fun b15 => ?_))
     refine sS (sbs 69 22 1 #[.slice (some ⟨b15, 0, none⟩) 1 1] (fun b17 => ?_))
     refine pm (M' := ((b17, Obj.cells #[.slice (some ⟨b15, 0, none⟩) 1 1] 22 (0, 0)) :: (b1, Obj.cells #[.slice y1_a Y.cars.length y1_c, .slice y2_a Y.room.length y2_c, .slice y3_a Y.tracks.length y3_c] 26 (0, 0)) :: ([(b15, Obj.cells #[.int .i64 ((Y.tracks.getD (0) []).getD (k) 0)] 3 (0, 0))] ++ (bM ++ (eM ++ F))))) (List.Perm.cons _ (List.Perm.swap _ _ _)) ?_
     have ho19 : Own 3 1 intCell (.slice (some ⟨b15, 0, none⟩) 1 1) ([((Y.tracks.getD (0) []).getD (k) 0 : Int)] : List Int) [(b15, Obj.cells #[.int .i64 ((Y.tracks.getD (0) []).getD (k) 0)] 3 (0, 0))] := Own.lit rfl rfl
     refine sS (stp_append (d := 70) (x := (.tmp 66)) (y := (.tmp 69)) (T := 24) (T' := 24) (E := 22) (E' := 22) (sz := 1) (bs := 24) (z := .slice none 0 0) (cell := valCell) (xs := vs) (ys := [(.slice (some ⟨b15, 0, none⟩) 1 1 : Value)]) (Ms := bM) (ty := 24) (gd := none) (by kernel_rfl) rfl (by kernel_rfl) (by kernel_rfl) (by kernel_rfl) (by kernel_rfl) (by kernel_rfl) (by decide) (by kernel_rfl) rfl rfl (bo) ((List.Perm.cons _ ((List.Perm.cons _ (List.perm_append_comm_assoc _ _ _)).trans (List.perm_middle.symm))).trans (List.perm_middle.symm)) (one_valCell rfl) (src_atS 0 rfl rfl) (by first | omega | (simp only [List.length_cons, List.length_nil, List.length_append, List.length_take, List.length_drop]; omega)) (fun v20 Ms20 ho20 => ?_))
     refine seq_mem (M' := ((b1, Obj.cells #[.slice y1_a Y.cars.length y1_c, .slice y2_a Y.room.length y2_c, .slice y3_a Y.tracks.length y3_c] 26 (0, 0)) :: (Ms20 ++ ([(b15, Obj.cells #[.int .i64 ((Y.tracks.getD (0) []).getD (k) 0)] 3 (0, 0))] ++ (eM ++ F))))) (fun w h => (h.perm (List.perm_middle.trans (List.Perm.cons _ List.perm_middle))).sub (List.Sublist.cons _ (List.Sublist.refl _))) ?_
     obtain ⟨oa20, oc20, oe20, ol20⟩ := ho20.shape
     subst oe20
     show Seq _ _ _ _ _ _ ((70, .slice oa20 (vs ++ ([(.slice (some ⟨b15, 0, none⟩) 1 1 : Value)])).length oc20) :: _) _ _
     have hea20 := OwnEach.snoc hea ho19
     obtain ⟨eM20, heM20_d⟩ : ∃ X, X = eM ++ [(b15, Obj.cells #[.int .i64 ((Y.tracks.getD (0) []).getD (k) 0)] 3 (0, 0))] := ⟨_, rfl⟩; rw [← heM20_d] at hea20
     refine seq_mem (I' := I) (M' := ((eM20 ++ (b1, Obj.cells #[.slice y1_a Y.cars.length y1_c, .slice y2_a Y.room.length y2_c, .slice y3_a Y.tracks.length y3_c] 26 (0, 0)) :: (Ms20 ++ F)))) (fun w h => ?_) ?_
     ·have h2 := h.perm (((List.Perm.cons _ ((List.Perm.append_left _ (List.perm_append_comm_assoc _ _ _)).trans (List.perm_append_comm_assoc _ _ _))).trans (List.perm_middle.symm)).trans (List.Perm.append_left _ ((List.Perm.cons _ (List.perm_append_comm_assoc _ _ _)).trans (List.perm_middle.symm))))
      simp only [← List.append_assoc] at h2
      have h3 := St.permL (A' := eM20) (A := eM ++ [(b15, Obj.cells #[.int .i64 ((Y.tracks.getD (0) []).getD (k) 0)] 3 (0, 0))]) (by simpa only [List.append_assoc, List.append_nil] using (heM20_d ▸ List.Perm.refl _)) (by simpa only [List.append_assoc] using h2)
      simpa only [List.append_assoc] using h3
     refine pm (M' := ((b1, Obj.cells #[.slice y1_a Y.cars.length y1_c, .slice y2_a Y.room.length y2_c, .slice y3_a Y.tracks.length y3_c] 26 (0, 0)) :: (eM20 ++ (Ms20 ++ F)))) List.perm_middle ?_
     refine sp 1 [(3, .slice oa20 (vs ++ ([(.slice (some ⟨b15, 0, none⟩) 1 1 : Value)])).length oc20)] ?_
     refine ee ?_
     refine pst_normal_block ?_
     refine pst_next ?_
     refine rr ?_
     refine sp 1 [(14, .int .i64 (↑k))] ?_
     refine sd (da 15 (↑k) (1)) ?_
     refine sp 1 [(4, .int .i64 (↑k + 1))] ?_
     refine ee ?_
     refine pst_back ((Y.tracks.getD (0) []).length - (k+1)) (by omega) ?_
     intro a w hS hD hW
     exact ⟨k+1, (.slice oa20 (vs ++ ([(.slice (some ⟨b15, 0, none⟩) 1 1 : Value)])).length oc20), vs ++ ([(.slice (some ⟨b15, 0, none⟩) 1 1 : Value)]), Ms20, eM20, by omega, ho20, (by rw [blocksTo_no hcp]; exact hea20), hS.sub (.consE 3 rfl rfl (.consE 4 rfl rfl (.cons 1 rfl (.cons 2 rfl (.nil _))))), hD, hW.perm (List.Perm.cons _ (List.perm_append_comm_assoc _ _ _)), rfl⟩
  ·
   have h1_r := h1
   have h1 := lss_f h1
   refine rexit 0 ?_
   refine (pst_exit_pass (pst_exit_pass (pst_exit_block ?_)))
   refine pst_next ?_
   refine rq ?_
   have hkk : k = (Y.tracks.getD (0) []).length := by omega
   have hbt2 := (blocksTo_len Y.cars (Y.tracks.getD (0) []) k).2.2
   refine rn_freezeEach (B := ((b1, Obj.cells #[.slice y1_a Y.cars.length y1_c, .slice y2_a Y.room.length y2_c, .slice y3_a Y.tracks.length y3_c] 26 (0, 0)) :: (bM ++ F))) hea (by intro xs hx; have := hbt2 xs hx; omega) ((List.Perm.cons _ (List.perm_append_comm_assoc _ _ _)).trans (List.perm_middle.symm)) (List.Perm.refl _) (fun I21 hle22 orw23 => ?_)
   have orw23_len := orw23.1
   try simp only [List.length_set, List.length_append, List.length_cons, List.length_nil, List.length_take] at orw23_len
   refine rr ?_
   refine sp 2 [(2, .slice bv_a vs.length bv_c)] ?_
   refine se ?_
   refine rret ?_
   refine ppm (M' := ((bM ++ (b1, Obj.cells #[.slice y1_a Y.cars.length y1_c, .slice y2_a Y.room.length y2_c, .slice y3_a Y.tracks.length y3_c] 26 (0, 0)) :: F))) (List.perm_middle.symm) ?_
   refine pst_ret1 (t := 2) (bM) (by kernel_rfl) rfl (List.Sublist.append_left (List.Sublist.cons _ (List.Sublist.refl _)) _) hle22 ?_
   exact ⟨_, _, _, rfl, rfl, bo, ((show blocksTo Y.cars (Y.tracks.getD (0) []) k = blocksOf Y.cars (Y.tracks.getD (0) []) from by rw [hkk]; rfl) ▸ orw23)⟩

end Go.Proofs.YtcaocbhbofejnaaDoor
namespace Go.Sh
open Go Go.Sl
set_option maxRecDepth 100000
theorem ex_warm : warmE exYard = ([0, 2, 3, 1], 1, 0) := by decide +kernel
theorem ex_reach : reachE exYard 3 = (4, 0) := by decide +kernel
theorem ex_draw : (play exYard [⟨0, 1, 2⟩]).2 = 0 ∧ (play exYard [⟨0, 1, 2⟩]).1.tracks = [[0, 1], [2, 3], []] := by decide +kernel
theorem ex_fewest : (fewestE exYard [0, 2, 3, 1]).1 = exFour ∧ (fewestE exYard [0, 2, 3, 1]).2 = 0 := by decide +kernel
theorem ex_lacks : (lacksE exYard [1, 2, 3, 0]).1 = [1, 2] ∧ (lacksE exYard [1, 2, 3, 0]).2 = 0 := by decide +kernel
end Go.Sh

/- A part of the proof that stands in YtcaocbhbofejnaaDoorShuntBrakeLaw. -/
import Derived.Test.YtcaocbhbofejnaaDoorShuntBrakeP6
import Derived.Test.YtcaocbhbofejnaaDoorShuntBrakeP0
import Derived.ChangeSame
import Derived.ChangeSlices
import Derived.WideShapes
set_option linter.unusedVariables false
set_option linter.unusedSimpArgs false
namespace Go.Proofs.YtcaocbhbofejnaaDoor
open Go Go.Sl Go.Sh
set_option maxRecDepth 100000
noncomputable def c_ShuntBrake (p : List Nat) : Code := sub (bodyOf Tryd.f4) p
set_option maxHeartbeats 1000000 in
theorem ShuntBrake_ct (I : Imm) (x : Value) (nums : List Int) (x_f : IsInts I x nums) (hG : Glob I) : Ct Tryd.prog 4 #[x] I ([]) (fun v I' M' => v = .bool (true) ∧ M' = []) := by
 obtain ⟨x_a, x_c, x_b, x_o, x_e, x_l, x_m, x_r⟩ := id x_f
 subst x_e
 refine fn_of_run (fn := Tryd.f4) (args := [_]) (N := 116) Tryd.func4 rfl (by kernel_rfl) (Nat.le_of_ble_eq_true rfl) (fun F => ?_)
 show Run _ _ (c_ShuntBrake []) _ _ [(0, .slice x_a nums.length x_c)] _ _
 refine rnm ?_
 refine rqr ?_
 refine sp 1 [(2, .bool (false))] ?_
 refine sn ?_
 refine sp 1 [(16, .slice x_a nums.length x_c)] ?_
 have hct10 := NewBag_ct I _ _ x_f
 refine sS (sc (some 17) (F := (F)) (hct10 :) (.refl _) (fun rv8 I1 rm9 hle2 hp3 => ?_))
 obtain ⟨u6, us7, hv4, hm5⟩ := hp3
 rw [hv4, hm5]; clear hv4 hm5
 replace hG := hG.mono hle2
 refine nm ?_
 show Seq _ _ _ _ _ _ ((17, .pointer (some ⟨u6, 0, none⟩)) :: _) _ _
 refine sp 1 [(3, .pointer (some ⟨u6, 0, none⟩))] ?_
 refine sn ?_
 refine sp 1 [(18, .pointer (some ⟨u6, 0, none⟩))] ?_
 have hct33 := YardOf_ct I1 (u6) (us7) (5) (2) (by omega) (by omega)
 refine sS (sc (some 19) (F := (F)) (hct33 :) (.refl _) (fun rv31 I11 rm32 hle12 hp13 => ?_))
 obtain ⟨p_t16, Y17, u_018, Ms_019, u_120, Ms_121, u_222, ws_223, Ms_224, hv14, hm15, qp25, qp26, qh27, qh28, qh29, qr30⟩ := hp13
 rw [hv14, hm15]; clear hv14 hm15
 replace hG := hG.mono hle12
 obtain ⟨u_018_a, u_018_c, u_018_e, u_018_l⟩ := qh27.shape
 subst u_018_e
 obtain ⟨u_120_a, u_120_c, u_120_e, u_120_l⟩ := qh28.shape
 subst u_120_e
 obtain ⟨u_222_a, u_222_c, u_222_e, u_222_l⟩ := qh29.shape
 subst u_222_e
 have qr30_len := qr30.1
 try simp only [List.length_set, List.length_append, List.length_cons, List.length_nil, List.length_take] at qr30_len
 refine seq_mem (M' := ((u6, Obj.cells #[.int .u64 (p_t16)] 65 (0, 0)) :: (Ms_019 ++ (Ms_121 ++ (Ms_224 ++ F))))) (fun w h => by simpa only [List.append_assoc, List.cons_append, List.nil_append] using h) ?_
 refine nm ?_
 show Seq _ _ _ _ _ _ ((19, .agg #[.slice u_018_a Y17.cars.length u_018_c, .slice u_120_a Y17.room.length u_120_c, .slice u_222_a ws_223.length u_222_c]) :: _) _ _
 have hvl : Valid Y17 := qp25
 have hfa := hvl.fine; have hwo := hfa.warm; have hgood := hvl.good; have hl1 := hvl.lens
 have hf1 := hfa.room1; have hf2 := hfa.len
 have hok : Ok Y17.cars (Y17.tracks.getD (0) []) := hwo.ok
 have htl : (Y17.tracks.getD (0) []).length ≤ 5 := hwo.tl
 have hbl : (blocksOf Y17.cars (Y17.tracks.getD (0) [])).length ≤ 5 := hwo.bl
 have hbe : ∀ x ∈ blocksOf Y17.cars (Y17.tracks.getD (0) []), x.length ≤ 5 := hwo.each
 refine sS (sal 4 26 #[.slice none 0 0, .slice none 0 0, .slice none 0 0] (fun b34 => ?_))
 refine sS (ss 0 0 b34 [.slice u_018_a Y17.cars.length u_018_c, .slice u_120_a Y17.room.length u_120_c, .slice u_222_a ws_223.length u_222_c] [.slice u_018_a Y17.cars.length u_018_c, .slice u_120_a Y17.room.length u_120_c, .slice u_222_a ws_223.length u_222_c] (_ :: _ :: _) (cs := [_, _, _]) rfl rfl ?_)
 refine sn ?_
 refine sd (dnb 21 0 0 b34 [.slice u_018_a Y17.cars.length u_018_c, .slice u_120_a Y17.room.length u_120_c, .slice u_222_a ws_223.length u_222_c]) ?_
 refine sfz (A := ((b34, Obj.cells #[.slice u_018_a Y17.cars.length u_018_c, .slice u_120_a Y17.room.length u_120_c, .slice u_222_a ws_223.length u_222_c] 26 (0, 0)) :: (u6, Obj.cells #[.int .u64 (p_t16)] 65 (0, 0)) :: (Ms_121 ++ (Ms_224 ++ F)))) noCar qh27 ((List.Perm.cons _ (List.perm_middle.symm)).trans (List.perm_middle.symm)) (fun I36 hle37 fz38_f => ?_)
 replace hG := hG.mono hle37
 replace qr30 := qr30.mono hle37
 obtain ⟨fz38_a, fz38_c, fz38_b, fz38_o, fz38_e, fz38_l, fz38_m, fz38_r⟩ := id fz38_f
 cases fz38_e
 refine sfz (A := ((b34, Obj.cells #[.slice u_018_a Y17.cars.length u_018_c, .slice u_120_a Y17.room.length u_120_c, .slice u_222_a ws_223.length u_222_c] 26 (0, 0)) :: (u6, Obj.cells #[.int .u64 (p_t16)] 65 (0, 0)) :: (Ms_224 ++ F))) 0 qh28 ((List.Perm.cons _ (List.perm_middle.symm)).trans (List.perm_middle.symm)) (fun I39 hle40 fz41_f => ?_)
 replace hG := hG.mono hle40
 replace qr30 := qr30.mono hle40
 replace fz38_f := fz38_f.mono hle40
 replace fz38_r := fz38_r.mono hle40
 obtain ⟨fz41_a, fz41_c, fz41_b, fz41_o, fz41_e, fz41_l, fz41_m, fz41_r⟩ := id fz41_f
 cases fz41_e
 refine sfz (A := ((b34, Obj.cells #[.slice u_018_a Y17.cars.length u_018_c, .slice u_120_a Y17.room.length u_120_c, .slice u_222_a ws_223.length u_222_c] 26 (0, 0)) :: (u6, Obj.cells #[.int .u64 (p_t16)] 65 (0, 0)) :: F)) undef qh29 ((List.Perm.cons _ (List.perm_middle.symm)).trans (List.perm_middle.symm)) (fun I42 hle43 fz44_f => ?_)
 replace hG := hG.mono hle43
 replace qr30 := qr30.mono hle43
 replace fz38_f := fz38_f.mono hle43
 replace fz38_r := fz38_r.mono hle43
 replace fz41_f := fz41_f.mono hle43
 obtain ⟨fz44_a, fz44_c, fz44_b, fz44_o, fz44_e, fz44_l, fz44_m, fz44_r⟩ := id fz44_f
 cases fz44_e
 have fr45_f := qr30.isRows fz44_f
 have fr45_len := qr30.1
 obtain ⟨fr45_a, fr45_c, fr45_b, fr45_o, fr45_vs, fr45_e, fr45_l, fr45_m, fr45_r, fr45_w⟩ := id fr45_f
 injection fr45_e with fr45_e1 fr45_e2 fr45_e3; subst fr45_e1; subst fr45_e3
 have hct53 := Brake_ct I42 _ (Y17) (mkYard fz38_f fz41_f fr45_f)
 refine sS (sc (some 22) (F := ((b34, Obj.cells #[.slice u_018_a Y17.cars.length u_018_c, .slice u_120_a Y17.room.length u_120_c, .slice u_222_a ws_223.length u_222_c] 26 (0, 0)) :: (u6, Obj.cells #[.int .u64 (p_t16)] 65 (0, 0)) :: F)) (hct53 :) (.refl _) (fun rv51 I46 rm52 hle47 hp48 => ?_))
 obtain ⟨hv49, hm50⟩ := hp48
 rw [hv49, hm50]; clear hv49 hm50
 replace hG := hG.mono hle47
 replace fz38_f := fz38_f.mono hle47
 replace fz38_r := fz38_r.mono hle47
 replace fz41_f := fz41_f.mono hle47
 replace fr45_f := fr45_f.mono hle47
 replace fr45_r := fr45_r.mono hle47
 replace fr45_w := fun i hi => (fr45_w i hi).mono hle47
 refine nm ?_
 show Seq _ _ _ _ _ _ ((22, .tuple #[.int .i64 (((brakeOf Y17).1)), .int .i64 (((brakeOf Y17).2))]) :: _) _ _
 refine sp 5 [(6, .int .i64 (((brakeOf Y17).2))), (5, .int .i64 (((brakeOf Y17).1)))] ?_
 refine sn ?_
 refine sp 1 [(25, .pointer (some ⟨b34, 2, none⟩))] ?_
 refine sd (dlb 26 0 2 b34 (.slice u_222_a ws_223.length u_222_c)) ?_
 refine sd (di 27 1 (0) (fun _ => fr45_r.addr (by omega)) (n := ws_223.length)) ?_
 have r54_f := fr45_w (0) (by omega)
 obtain ⟨r54_a, r54_c, r54_b, r54_o, r54_e, r54_l, r54_m, r54_r⟩ := id r54_f
 rw [r54_e] at r54_f
 refine sd (det_eq (dl 28 (rows_get fr45_r (0) (by omega))) r54_e) ?_
 refine sp 1 [(7, .slice r54_a (Y17.tracks.getD (0) []).length r54_c)] ?_
 refine se ?_
 refine rq ?_
 refine rqr ?_
 refine sp 3 [(31, .bool (cmp .eql (↑((Y17.tracks.getD (0) []).length)) (0)))] ?_
 refine se ?_
 refine rc 31 rfl (fun h1 => ?_) (fun h1 => ?_)
 ·
  have h1_r := h1
  have h1 := eql_t h1
  refine rqr ?_
  have hbe0 := brake_empty hvl (show (trk Y17 0).length = 0 from by (show (Y17.tracks.getD (0) []).length = 0); omega)
  refine seq_re 6 rfl (show (.int .i64 (((brakeOf Y17).2)) : Value) = .int .i64 (11) from congrArg (Value.int .i64) (congrArg Prod.snd hbe0)) ?_
  refine seq_re 5 rfl (show (.int .i64 (((brakeOf Y17).1)) : Value) = .int .i64 (0) from congrArg (Value.int .i64) (congrArg Prod.fst hbe0)) ?_
  refine sp 1 [(32, .int .i64 (11))] ?_
  refine sd (dcm 33 .eql (11) (11) true (by rfl)) ?_
  refine sp 2 [(35, .int .i64 (0)), (34, .bool (true))] ?_
  refine sd (dcm 36 .eql (0) (0) true (by rfl)) ?_
  refine sp 2 [(38, .bool (true))] ?_
  have hct62 := shunting_ct I46 (by first | exact hG | exact hG.mono hI)
  refine sS (sc (some 39) (F := ((b34, Obj.cells #[.slice u_018_a Y17.cars.length u_018_c, .slice u_120_a Y17.room.length u_120_c, .slice u_222_a ws_223.length u_222_c] 26 (0, 0)) :: (u6, Obj.cells #[.int .u64 (p_t16)] 65 (0, 0)) :: F)) (hct62 :) (.refl _) (fun rv60 I55 rm61 hle56 hp57 => ?_))
  obtain ⟨hv58, hm59⟩ := hp57
  rw [hv58, hm59]; clear hv58 hm59
  replace hG := hG.mono hle56
  replace fz38_f := fz38_f.mono hle56
  replace fz38_r := fz38_r.mono hle56
  replace fz41_f := fz41_f.mono hle56
  replace fr45_f := fr45_f.mono hle56
  replace r54_r := r54_r.mono hle56
  refine nm ?_
  show Seq _ _ _ _ _ _ ((39, .bool (true)) :: _) _ _
  refine sp 2 [(2, .bool (true))] ?_
  refine se ?_
  refine rret ?_
  refine (pst_ret_pass ?_)
  refine pst_ret1 (t := 2) [] (by kernel_rfl) rfl (List.Sublist.cons _ (List.Sublist.cons _ (List.Sublist.refl _))) (Imm.le.trans (Imm.le.trans (Imm.le.trans (Imm.le.trans (Imm.le.trans (Imm.le.trans hle2 hle12) hle37) hle40) hle43) hle47) hle56) ?_
  exact ⟨rfl, rfl⟩
 ·
  have h1_r := h1
  have h1 := eql_f h1
  refine rskip ?_
  refine pst_next ?_
  refine rqr ?_
  have hbf := brake_full hvl (show (trk Y17 0).length ≠ 0 from by (show (Y17.tracks.getD (0) []).length ≠ 0); omega)
  refine sp 2 [(9, .int .i64 (0)), (8, .int .i64 (100))] ?_
  refine se ?_
  refine rq ?_
  refine rqr ?_
  refine sp 1 [(10, .int .i64 (0))] ?_
  refine se ?_
  refine rb 0 ?_
  refine rl (fun mz a w => ∃ k : Nat, ∃ ww : Int, ∃ bb : Int, (k ≤ (Y17.tracks.getD (0) []).length) ∧ (ww = worstM Y17.cars ((Y17.tracks.getD (0) []).take k)) ∧ (bb = bestM Y17.cars ((Y17.tracks.getD (0) []).take k)) ∧ Slots 116 [(8, .int .i64 ww), (9, .int .i64 bb), (10, .int .i64 ↑k), (2, .bool (false)), (3, .pointer (some ⟨u6, 0, none⟩)), (4, .pointer (some ⟨b34, 0, none⟩)), (5, .int .i64 (((brakeOf Y17).1))), (6, .int .i64 (((brakeOf Y17).2))), (7, .slice r54_a (Y17.tracks.getD (0) []).length r54_c)] a ∧ a.defers = [] ∧ St I46 ((b34, Obj.cells #[.slice u_018_a Y17.cars.length u_018_c, .slice u_120_a Y17.room.length u_120_c, .slice u_222_a ws_223.length u_222_c] 26 (0, 0)) :: (u6, Obj.cells #[.int .u64 (p_t16)] 65 (0, 0)) :: F) w ∧ mz = (Y17.tracks.getD (0) []).length - k) ?_ ?_
  ·intro a w hS hD hW
   exact ⟨_, 0, 100, 0, Nat.zero_le _, rfl, rfl, hS.sub (.cons 8 rfl (.cons 9 rfl (.cons 10 rfl (.cons 2 rfl (.cons 3 rfl (.cons 4 rfl (.cons 5 rfl (.cons 6 rfl (.cons 7 rfl (.nil _)))))))))), hD, hW, rfl⟩
  ·rintro mz a w ⟨k, ww, bb, hk, hww, hbb, hS, hD, hW, rfl⟩
   refine run_at hS hD hW ?_
   clear hS hD hW a w
   refine rq ?_
   refine rqr ?_
   refine sp 4 [(44, .bool (cmp .lss (↑k) (↑((Y17.tracks.getD (0) []).length))))] ?_
   refine se ?_
   refine rc 44 rfl (fun h2 => ?_) (fun h2 => ?_)
   ·
    have h2_r := h2
    have h2 := lss_t h2
    refine rskip ?_
    refine pst_next ?_
    refine rq ?_
    refine rb 1 ?_
    refine rq ?_
    refine rd 9 [(0, true), (1, true), (2, true), (3, true), (4, true), (5, true), (6, true), (7, true), (8, false)] ((b34, Obj.cells #[.slice u_018_a Y17.cars.length u_018_c, .slice u_120_a Y17.room.length u_120_c, .slice u_222_a ws_223.length u_222_c] 26 (0, 0)) :: (u6, Obj.cells #[.int .u64 (p_t16)] 65 (0, 0)) :: []) (F) ?_
    refine ox 1 [(47, .pointer (some ⟨b34, 0, none⟩))] ?_
    refine ofp_det (dlb 48 0 0 b34 (.slice u_018_a Y17.cars.length u_018_c)) ?_
    refine ox 2 [(50, .int .i64 (↑k)), (49, .slice r54_a (Y17.tracks.getD (0) []).length r54_c)] ?_
    refine ofp_det (di 51 1 (k) r54_r.addr) ?_
    refine ofp_det (dl 52 (ints_get r54_r (k) (by omega))) ?_
    have hc := hok.at k (by omega)
    refine ofp_det (diI 53 6 ((Y17.tracks.getD (0) []).getD (k) 0) fz38_r.addr) ?_
    refine ofp_det (det_loadN (x := (.tmp 53)) (T := 40) (n := 6) (vs := [.int .i64 ((Y17.cars.getD (((Y17.tracks.getD (0) []).getD (k) 0 : Int).toNat) noCar).len), .int .i64 ((Y17.cars.getD (((Y17.tracks.getD (0) []).getD (k) 0 : Int).toNat) noCar).wt), .int .i64 ((Y17.cars.getD (((Y17.tracks.getD (0) []).getD (k) 0 : Int).toNat) noCar).brk), .int .i64 ((Y17.cars.getD (((Y17.tracks.getD (0) []).getD (k) 0 : Int).toNat) noCar).grp), .bool ((Y17.cars.getD (((Y17.tracks.getD (0) []).getD (k) 0 : Int).toNat) noCar).pipe), .bool ((Y17.cars.getD (((Y17.tracks.getD (0) []).getD (k) 0 : Int).toNat) noCar).heat)]) (d := 54) (ty := 40) (gd := none) (by kernel_rfl) rfl (by kernel_rfl) (by kernel_rfl) rfl rfl (cars_getN fz38_r (((Y17.tracks.getD (0) []).getD (k) 0 : Int).toNat) (by omega))) ?_
    refine ofp_stp (sal 11 40 #[.int .i64 (0), .int .i64 (0), .int .i64 (0), .int .i64 (0), .bool (false), .bool (false)] (fun b63 => ?_))
    refine ofp_settle (S' := ((b63, Obj.cells #[.int .i64 (0), .int .i64 (0), .int .i64 (0), .int .i64 (0), .bool (false), .bool (false)] 40 (0, 0)) :: F)) ((List.Perm.swap _ _ _).trans (List.Perm.cons _ (List.Perm.swap _ _ _))) ?_
    refine ofp_end ?_
    refine nm ?_
    refine nm ?_
    refine sS (ss 2 0 b63 [.int .i64 ((Y17.cars.getD (((Y17.tracks.getD (0) []).getD (k) 0 : Int).toNat) noCar).len), .int .i64 ((Y17.cars.getD (((Y17.tracks.getD (0) []).getD (k) 0 : Int).toNat) noCar).wt), .int .i64 ((Y17.cars.getD (((Y17.tracks.getD (0) []).getD (k) 0 : Int).toNat) noCar).brk), .int .i64 ((Y17.cars.getD (((Y17.tracks.getD (0) []).getD (k) 0 : Int).toNat) noCar).grp), .bool ((Y17.cars.getD (((Y17.tracks.getD (0) []).getD (k) 0 : Int).toNat) noCar).pipe), .bool ((Y17.cars.getD (((Y17.tracks.getD (0) []).getD (k) 0 : Int).toNat) noCar).heat)] [.int .i64 ((Y17.cars.getD (((Y17.tracks.getD (0) []).getD (k) 0 : Int).toNat) noCar).len), .int .i64 ((Y17.cars.getD (((Y17.tracks.getD (0) []).getD (k) 0 : Int).toNat) noCar).wt), .int .i64 ((Y17.cars.getD (((Y17.tracks.getD (0) []).getD (k) 0 : Int).toNat) noCar).brk), .int .i64 ((Y17.cars.getD (((Y17.tracks.getD (0) []).getD (k) 0 : Int).toNat) noCar).grp), .bool ((Y17.cars.getD (((Y17.tracks.getD (0) []).getD (k) 0 : Int).toNat) noCar).pipe), .bool ((Y17.cars.getD (((Y17.tracks.getD (0) []).getD (k) 0 : Int).toNat) noCar).heat)] (_ :: _ :: _ :: _) (cs := [_, _, _, _, _, _]) rfl rfl ?_)
    refine se ?_
    refine rd0' 17 [(0, true), (1, true), (2, true), (3, true), (4, true), (5, true), (6, true), (7, true), (8, true), (9, true), (10, true), (11, true), (12, true), (13, true), (14, true), (15, true), (16, false)] ?_
    refine ox 2 [(56, .pointer (some ⟨b63, 2, none⟩)), (55, .int .i64 (ww))] ?_
    refine ofp_det (dlb 57 2 2 b63 (.int .i64 ((Y17.cars.getD (((Y17.tracks.getD (0) []).getD (k) 0 : Int).toNat) noCar).brk))) ?_
    have hcr := carOk_range (hfa.carIn (hok.at k (by omega)))
    simp only [carAt] at hcr
    refine ofp_det (dmu 58 (100) ((Y17.cars.getD (((Y17.tracks.getD (0) []).getD (k) 0 : Int).toNat) noCar).brk)) ?_
    refine ox 1 [(59, .pointer (some ⟨b63, 1, none⟩))] ?_
    refine ofp_det (dlb 60 2 1 b63 (.int .i64 ((Y17.cars.getD (((Y17.tracks.getD (0) []).getD (k) 0 : Int).toNat) noCar).wt))) ?_
    refine ofp_det (det_quo (x := (.tmp 58)) (y := (.tmp 60)) (T := 3) (T' := 3) (d := 61) (ty := 3) (gd := none) (by kernel_rfl) rfl rfl rfl (by omega) (by omega)) ?_
    refine ox 3 [(64, .pointer (some ⟨b63, 2, none⟩)), (63, .int .i64 (bb)), (62, .int .i64 ((if ((100 * ((Y17.cars.getD (((Y17.tracks.getD (0) []).getD (k) 0 : Int).toNat) noCar).brk)) / ((Y17.cars.getD (((Y17.tracks.getD (0) []).getD (k) 0 : Int).toNat) noCar).wt) : Int) < (ww : Int) then (100 * ((Y17.cars.getD (((Y17.tracks.getD (0) []).getD (k) 0 : Int).toNat) noCar).brk)) / ((Y17.cars.getD (((Y17.tracks.getD (0) []).getD (k) 0 : Int).toNat) noCar).wt) else ww)))] ?_
    refine ofp_det (dlb 65 2 2 b63 (.int .i64 ((Y17.cars.getD (((Y17.tracks.getD (0) []).getD (k) 0 : Int).toNat) noCar).brk))) ?_
    refine ofp_det (dmu 66 (100) ((Y17.cars.getD (((Y17.tracks.getD (0) []).getD (k) 0 : Int).toNat) noCar).brk)) ?_
    refine ox 1 [(67, .pointer (some ⟨b63, 1, none⟩))] ?_
    refine ofp_det (dlb 68 2 1 b63 (.int .i64 ((Y17.cars.getD (((Y17.tracks.getD (0) []).getD (k) 0 : Int).toNat) noCar).wt))) ?_
    refine ofp_det (det_quo (x := (.tmp 66)) (y := (.tmp 68)) (T := 3) (T' := 3) (d := 69) (ty := 3) (gd := none) (by kernel_rfl) rfl rfl rfl (by omega) (by omega)) ?_
    refine ox 1 [(70, .int .i64 ((if (bb : Int) < ((100 * ((Y17.cars.getD (((Y17.tracks.getD (0) []).getD (k) 0 : Int).toNat) noCar).brk)) / ((Y17.cars.getD (((Y17.tracks.getD (0) []).getD (k) 0 : Int).toNat) noCar).wt) : Int) then (100 * ((Y17.cars.getD (((Y17.tracks.getD (0) []).getD (k) 0 : Int).toNat) noCar).brk)) / ((Y17.cars.getD (((Y17.tracks.getD (0) []).getD (k) 0 : Int).toNat) noCar).wt) else bb)))] ?_
    refine ofp_stp (stp_of_det (det_pv (d := 8) (v := .int .i64 ((if ((100 * ((Y17.cars.getD (((Y17.tracks.getD (0) []).getD (k) 0 : Int).toNat) noCar).brk)) / ((Y17.cars.getD (((Y17.tracks.getD (0) []).getD (k) 0 : Int).toNat) noCar).wt) : Int) < (ww : Int) then (100 * ((Y17.cars.getD (((Y17.tracks.getD (0) []).getD (k) 0 : Int).toNat) noCar).brk)) / ((Y17.cars.getD (((Y17.tracks.getD (0) []).getD (k) 0 : Int).toNat) noCar).wt) else ww))) (by kernel_rfl)) (by kernel_rfl) (ofp_stay ?_))
    refine ofp_end0 ?_
    refine sp 1 [(9, .int .i64 ((if (bb : Int) < ((100 * ((Y17.cars.getD (((Y17.tracks.getD (0) []).getD (k) 0 : Int).toNat) noCar).brk)) / ((Y17.cars.getD (((Y17.tracks.getD (0) []).getD (k) 0 : Int).toNat) noCar).wt) : Int) then (100 * ((Y17.cars.getD (((Y17.tracks.getD (0) []).getD (k) 0 : Int).toNat) noCar).brk)) / ((Y17.cars.getD (((Y17.tracks.getD (0) []).getD (k) 0 : Int).toNat) noCar).wt) else bb)))] ?_
    refine ee ?_
    refine pst_normal_block ?_
    refine pst_next ?_
    refine rr ?_
    refine sp 1 [(45, .int .i64 (↑k))] ?_
    refine sd (da 46 (↑k) (1)) ?_
    refine sp 1 [(10, .int .i64 (↑k + 1))] ?_
    refine ee ?_
    refine pst_back ((Y17.tracks.getD (0) []).length - (k+1)) (by omega) ?_
    intro a w hS hD hW
    exact ⟨k+1, (if ((100 * ((Y17.cars.getD (((Y17.tracks.getD (0) []).getD (k) 0 : Int).toNat) noCar).brk)) / ((Y17.cars.getD (((Y17.tracks.getD (0) []).getD (k) 0 : Int).toNat) noCar).wt) : Int) < (ww : Int) then (100 * ((Y17.cars.getD (((Y17.tracks.getD (0) []).getD (k) 0 : Int).toNat) noCar).brk)) / ((Y17.cars.getD (((Y17.tracks.getD (0) []).getD (k) 0 : Int).toNat) noCar).wt) else ww), (if (bb : Int) < ((100 * ((Y17.cars.getD (((Y17.tracks.getD (0) []).getD (k) 0 : Int).toNat) noCar).brk)) / ((Y17.cars.getD (((Y17.tracks.getD (0) []).getD (k) 0 : Int).toNat) noCar).wt) : Int) then (100 * ((Y17.cars.getD (((Y17.tracks.getD (0) []).getD (k) 0 : Int).toNat) noCar).brk)) / ((Y17.cars.getD (((Y17.tracks.getD (0) []).getD (k) 0 : Int).toNat) noCar).wt) else bb), by omega, (by rw [worstM_succ (by omega), ← hww]; rfl), (by rw [bestM_succ (by omega), ← hbb]; rfl), hS.sub (.consE 8 rfl rfl (.consE 9 rfl rfl (.consE 10 rfl rfl (.cons 2 rfl (.cons 3 rfl (.cons 4 rfl (.cons 5 rfl (.cons 6 rfl (.cons 7 rfl (.nil _)))))))))), hD, (hW.perm ((List.Perm.cons _ (List.Perm.swap _ _ _)).trans (List.Perm.swap _ _ _))).sub (List.Sublist.cons _ (List.Sublist.refl _)), rfl⟩
   ·
    have h2_r := h2
    have h2 := lss_f h2
    refine rexit 0 ?_
    refine (pst_exit_pass (pst_exit_pass (pst_exit_block ?_)))
    refine pst_next ?_
    refine rqr ?_
    refine sd (dnb 71 0 0 b34 [.slice u_018_a Y17.cars.length u_018_c, .slice u_120_a Y17.room.length u_120_c, .slice u_222_a ws_223.length u_222_c]) ?_
    have hct83 := CopyYard_ct I46 _ (Y17) (mkYard fz38_f fz41_f fr45_f) (by first | omega | exact hgood.le) (by first | omega | exact hgood.le) (by first | omega | exact hgood.le) (by first | omega | exact hgood.le)
    refine sS (sc (some 72) (F := ((b34, Obj.cells #[.slice u_018_a Y17.cars.length u_018_c, .slice u_120_a Y17.room.length u_120_c, .slice u_222_a ws_223.length u_222_c] 26 (0, 0)) :: (u6, Obj.cells #[.int .u64 (p_t16)] 65 (0, 0)) :: F)) (hct83 :) (.refl _) (fun rv81 I65 rm82 hle66 hp67 => ?_))
    obtain ⟨u_070, Ms_071, u_172, Ms_173, u_274, ws_275, Ms_276, hv68, hm69, qh77, qh78, qh79, qr80⟩ := hp67
    rw [hv68, hm69]; clear hv68 hm69
    replace hG := hG.mono hle66
    replace fz38_f := fz38_f.mono hle66
    replace fz41_f := fz41_f.mono hle66
    replace fr45_f := fr45_f.mono hle66
    obtain ⟨u_070_a, u_070_c, u_070_e, u_070_l⟩ := qh77.shape
    subst u_070_e
    obtain ⟨u_172_a, u_172_c, u_172_e, u_172_l⟩ := qh78.shape
    subst u_172_e
    obtain ⟨u_274_a, u_274_c, u_274_e, u_274_l⟩ := qh79.shape
    subst u_274_e
    have qr80_len := qr80.1
    try simp only [List.length_set, List.length_append, List.length_cons, List.length_nil, List.length_take] at qr80_len
    refine seq_mem (M' := ((Ms_071 ++ (Ms_173 ++ (Ms_276 ++ (b34, Obj.cells #[.slice u_018_a Y17.cars.length u_018_c, .slice u_120_a Y17.room.length u_120_c, .slice u_222_a ws_223.length u_222_c] 26 (0, 0)) :: (u6, Obj.cells #[.int .u64 (p_t16)] 65 (0, 0)) :: F))))) (fun w h => by simpa only [List.append_assoc, List.cons_append, List.nil_append] using h) ?_
    refine pm (M' := ((b34, Obj.cells #[.slice u_018_a Y17.cars.length u_018_c, .slice u_120_a Y17.room.length u_120_c, .slice u_222_a ws_223.length u_222_c] 26 (0, 0)) :: (u6, Obj.cells #[.int .u64 (p_t16)] 65 (0, 0)) :: (Ms_071 ++ (Ms_173 ++ (Ms_276 ++ F))))) (((List.Perm.append_left _ ((List.Perm.append_left _ List.perm_middle).trans List.perm_middle)).trans List.perm_middle).trans (List.Perm.cons _ ((List.Perm.append_left _ ((List.Perm.append_left _ List.perm_middle).trans List.perm_middle)).trans List.perm_middle))) ?_
    show Seq _ _ _ _ _ _ ((72, .agg #[.slice u_070_a Y17.cars.length u_070_c, .slice u_172_a Y17.room.length u_172_c, .slice u_274_a ws_275.length u_274_c]) :: _) _ _
    refine sS (sal 12 26 #[.slice none 0 0, .slice none 0 0, .slice none 0 0] (fun b84 => ?_))
    refine sS (ss 0 0 b84 [.slice u_070_a Y17.cars.length u_070_c, .slice u_172_a Y17.room.length u_172_c, .slice u_274_a ws_275.length u_274_c] [.slice u_070_a Y17.cars.length u_070_c, .slice u_172_a Y17.room.length u_172_c, .slice u_274_a ws_275.length u_274_c] (_ :: _ :: _ :: _) (cs := [_, _, _]) rfl rfl ?_)
    refine sn ?_
    refine sd (dnb 73 1 0 b34 [.slice u_018_a Y17.cars.length u_018_c, .slice u_120_a Y17.room.length u_120_c, .slice u_222_a ws_223.length u_222_c]) ?_
    have hct98 := Blocks_ct I65 _ (Y17) (mkYard fz38_f fz41_f fr45_f) (by exact hok) (by omega) (by omega)
    refine sS (sc (some 74) (F := ((b84, Obj.cells #[.slice u_070_a Y17.cars.length u_070_c, .slice u_172_a Y17.room.length u_172_c, .slice u_274_a ws_275.length u_274_c] 26 (0, 0)) :: (b34, Obj.cells #[.slice u_018_a Y17.cars.length u_018_c, .slice u_120_a Y17.room.length u_120_c, .slice u_222_a ws_223.length u_222_c] 26 (0, 0)) :: (u6, Obj.cells #[.int .u64 (p_t16)] 65 (0, 0)) :: (Ms_071 ++ (Ms_173 ++ (Ms_276 ++ F))))) (hct98 :) (.refl _) (fun rv96 I86 rm97 hle87 hp88 => ?_))
    obtain ⟨u91, ws92, Ms93, hv89, hm90, qh94, qr95⟩ := hp88
    rw [hv89, hm90]; clear hv89 hm90
    replace hG := hG.mono hle87
    replace qr80 := qr80.mono hle87
    obtain ⟨u91_a, u91_c, u91_e, u91_l⟩ := qh94.shape
    subst u91_e
    have qr95_len := qr95.1
    try simp only [List.length_set, List.length_append, List.length_cons, List.length_nil, List.length_take] at qr95_len
    refine pm (M' := ((b84, Obj.cells #[.slice u_070_a Y17.cars.length u_070_c, .slice u_172_a Y17.room.length u_172_c, .slice u_274_a ws_275.length u_274_c] 26 (0, 0)) :: (b34, Obj.cells #[.slice u_018_a Y17.cars.length u_018_c, .slice u_120_a Y17.room.length u_120_c, .slice u_222_a ws_223.length u_222_c] 26 (0, 0)) :: (u6, Obj.cells #[.int .u64 (p_t16)] 65 (0, 0)) :: (Ms93 ++ (Ms_071 ++ (Ms_173 ++ (Ms_276 ++ F)))))) (List.perm_middle.trans (List.Perm.cons _ (List.perm_middle.trans (List.Perm.cons _ List.perm_middle)))) ?_
    show Seq _ _ _ _ _ _ ((74, .slice u91_a ws92.length u91_c) :: _) _ _
    refine sfz (A := ((b84, Obj.cells #[.slice u_070_a Y17.cars.length u_070_c, .slice u_172_a Y17.room.length u_172_c, .slice u_274_a ws_275.length u_274_c] 26 (0, 0)) :: (b34, Obj.cells #[.slice u_018_a Y17.cars.length u_018_c, .slice u_120_a Y17.room.length u_120_c, .slice u_222_a ws_223.length u_222_c] 26 (0, 0)) :: (u6, Obj.cells #[.int .u64 (p_t16)] 65 (0, 0)) :: (Ms_071 ++ (Ms_173 ++ (Ms_276 ++ F))))) undef qh94 ((List.Perm.cons _ ((List.Perm.cons _ (List.perm_middle.symm)).trans (List.perm_middle.symm))).trans (List.perm_middle.symm)) (fun I99 hle100 fz101_f => ?_)
    replace hG := hG.mono hle100
    replace qr80 := qr80.mono hle100
    replace qr95 := qr95.mono hle100
    obtain ⟨fz101_a, fz101_c, fz101_b, fz101_o, fz101_e, fz101_l, fz101_m, fz101_r⟩ := id fz101_f
    cases fz101_e
    have fr102_f := qr95.isRows fz101_f
    have fr102_len := qr95.1
    obtain ⟨fr102_a, fr102_c, fr102_b, fr102_o, fr102_vs, fr102_e, fr102_l, fr102_m, fr102_r, fr102_w⟩ := id fr102_f
    injection fr102_e with fr102_e1 fr102_e2 fr102_e3; subst fr102_e1; subst fr102_e3
    have hct115 := rows_ct I99 _ _ ((blocksOf Y17.cars (Y17.tracks.getD (0) [])).length) fr102_f (by rfl) (by omega) (by exact hbe)
    refine sS (sc (some 75) (F := ((b84, Obj.cells #[.slice u_070_a Y17.cars.length u_070_c, .slice u_172_a Y17.room.length u_172_c, .slice u_274_a ws_275.length u_274_c] 26 (0, 0)) :: (b34, Obj.cells #[.slice u_018_a Y17.cars.length u_018_c, .slice u_120_a Y17.room.length u_120_c, .slice u_222_a ws_223.length u_222_c] 26 (0, 0)) :: (u6, Obj.cells #[.int .u64 (p_t16)] 65 (0, 0)) :: (Ms_071 ++ (Ms_173 ++ (Ms_276 ++ F))))) (hct115 :) (.refl _) (fun rv113 I103 rm114 hle104 hp105 => ?_))
    obtain ⟨u108, ws109, Ms110, hv106, hm107, qh111, qr112⟩ := hp105
    rw [hv106, hm107]; clear hv106 hm107
    replace hG := hG.mono hle104
    replace qr80 := qr80.mono hle104
    obtain ⟨u108_a, u108_c, u108_e, u108_l⟩ := qh111.shape
    subst u108_e
    have qr112_len := qr112.1
    try simp only [List.length_set, List.length_append, List.length_cons, List.length_nil, List.length_take] at qr112_len
    refine pm (M' := ((b84, Obj.cells #[.slice u_070_a Y17.cars.length u_070_c, .slice u_172_a Y17.room.length u_172_c, .slice u_274_a ws_275.length u_274_c] 26 (0, 0)) :: (b34, Obj.cells #[.slice u_018_a Y17.cars.length u_018_c, .slice u_120_a Y17.room.length u_120_c, .slice u_222_a ws_223.length u_222_c] 26 (0, 0)) :: (u6, Obj.cells #[.int .u64 (p_t16)] 65 (0, 0)) :: (Ms110 ++ (Ms_071 ++ (Ms_173 ++ (Ms_276 ++ F)))))) (List.perm_middle.trans (List.Perm.cons _ (List.perm_middle.trans (List.Perm.cons _ List.perm_middle)))) ?_
    show Seq _ _ _ _ _ _ ((75, .slice u108_a ws109.length u108_c) :: _) _ _
    refine sp 1 [(13, .slice u108_a ws109.length u108_c)] ?_
    refine se ?_
    refine rq ?_
    have hrl := ordN_count (f := fun b r => b ++ r) (d := []) (z := []) _ (blocksOf Y17.cars (Y17.tracks.getD (0) [])) rfl
    have hrp := fact_le5 (n := (blocksOf Y17.cars (Y17.tracks.getD (0) [])).length) (by omega)
    have hrn : (rowsN (blocksOf Y17.cars (Y17.tracks.getD (0) [])).length (blocksOf Y17.cars (Y17.tracks.getD (0) []))).length = fact (blocksOf Y17.cars (Y17.tracks.getD (0) [])).length := hrl
    have hfp : ∀ n, 0 < fact n := fun n => by induction n with
     | zero => decide
     | succ n ih => exact Nat.mul_pos (by omega) ih
    have hfq := hfp (blocksOf Y17.cars (Y17.tracks.getD (0) [])).length
    refine rpm (M' := ((b84, Obj.cells #[.slice u_070_a Y17.cars.length u_070_c, .slice u_172_a Y17.room.length u_172_c, .slice u_274_a ws_275.length u_274_c] 26 (0, 0)) :: (b34, Obj.cells #[.slice u_018_a Y17.cars.length u_018_c, .slice u_120_a Y17.room.length u_120_c, .slice u_222_a ws_223.length u_222_c] 26 (0, 0)) :: (Ms110 ++ (u6, Obj.cells #[.int .u64 (p_t16)] 65 (0, 0)) :: (Ms_071 ++ (Ms_173 ++ (Ms_276 ++ F)))))) (List.Perm.cons _ (List.Perm.cons _ (List.perm_middle.symm))) ?_
    refine rd 10 [(0, true), (1, true), (2, true), (3, true), (4, true), (5, true), (6, true), (7, false), (8, true), (9, true)] ((b84, Obj.cells #[.slice u_070_a Y17.cars.length u_070_c, .slice u_172_a Y17.room.length u_172_c, .slice u_274_a ws_275.length u_274_c] 26 (0, 0)) :: (b34, Obj.cells #[.slice u_018_a Y17.cars.length u_018_c, .slice u_120_a Y17.room.length u_120_c, .slice u_222_a ws_223.length u_222_c] 26 (0, 0)) :: Ms110) ((u6, Obj.cells #[.int .u64 (p_t16)] 65 (0, 0)) :: (Ms_071 ++ (Ms_173 ++ (Ms_276 ++ F)))) ?_
    refine ox 1 [(76, .pointer (some ⟨b84, 2, none⟩))] ?_
    refine ofp_det (dlb 77 0 2 b84 (.slice u_274_a ws_275.length u_274_c)) ?_
    refine ox 4 [(81, .int .i64 (↑(ws109.length))), (79, .pointer (some ⟨u6, 0, none⟩)), (78, .slice u108_a ws109.length u108_c)] ?_
    refine ofp_det (dsb 82 (↑(ws109.length)) (1)) ?_
    have hct126 := Up_ct I103 (u6) (p_t16) ((↑(ws109.length)) - 1) (by omega)
    refine ofp_stp (sc (some 83) (F := ((b84, Obj.cells #[.slice u_070_a Y17.cars.length u_070_c, .slice u_172_a Y17.room.length u_172_c, .slice u_274_a ws_275.length u_274_c] 26 (0, 0)) :: (b34, Obj.cells #[.slice u_018_a Y17.cars.length u_018_c, .slice u_120_a Y17.room.length u_120_c, .slice u_222_a ws_223.length u_222_c] 26 (0, 0)) :: (Ms110 ++ (Ms_071 ++ (Ms_173 ++ (Ms_276 ++ F)))))) (hct126 :) ((List.Perm.cons _ ((List.Perm.cons _ List.perm_middle).trans (List.Perm.swap _ _ _))).trans (List.Perm.swap _ _ _)) (fun rv124 I116 rm125 hle117 hp118 => ?_))
    obtain ⟨p_t121, n122, hv119, hm120, qp123⟩ := hp118
    rw [hv119, hm120]; clear hv119 hm120
    replace hG := hG.mono hle117
    replace qr80 := qr80.mono hle117
    replace qr112 := qr112.mono hle117
    refine ofp_settle (S' := ((u6, Obj.cells #[.int .u64 (p_t121)] 65 (0, 0)) :: (Ms_071 ++ (Ms_173 ++ (Ms_276 ++ F))))) ((List.Perm.swap _ _ _).trans (List.Perm.cons _ ((List.Perm.swap _ _ _).trans (List.Perm.cons _ (List.perm_middle.symm))))) ?_
    show OFP _ _ _ _ _ _ ((83, .int .i64 (↑n122)) :: _) _ _
    obtain ⟨ob127, orr128⟩ := qh111.row undef
    refine ofp_det (di 84 1 (n122) orr128.addr) ?_
    have r129_f := qr112.2 (n122) (by omega)
    obtain ⟨r129_a, r129_c, r129_b, r129_o, r129_e, r129_l, r129_m, r129_r⟩ := id r129_f
    rw [r129_e] at r129_f
    refine ofp_det (det_eq (dl 85 (orr128.get (n122) (by omega) 0 (by decide) _ _ (fun x hx => by simp [hx]))) r129_e) ?_
    refine ofp_end ?_
    refine nm ?_
    refine pm (M' := ((b84, Obj.cells #[.slice u_070_a Y17.cars.length u_070_c, .slice u_172_a Y17.room.length u_172_c, .slice u_274_a ws_275.length u_274_c] 26 (0, 0)) :: (b34, Obj.cells #[.slice u_018_a Y17.cars.length u_018_c, .slice u_120_a Y17.room.length u_120_c, .slice u_222_a ws_223.length u_222_c] 26 (0, 0)) :: (u6, Obj.cells #[.int .u64 (p_t121)] 65 (0, 0)) :: (Ms110 ++ (Ms_071 ++ (Ms_173 ++ (Ms_276 ++ F)))))) (List.Perm.cons _ (List.Perm.cons _ List.perm_middle)) ?_
    obtain ⟨ob130, orr131⟩ := qh79.row undef
    refine sd (di 86 1 (0) orr131.addr) ?_
    refine sS (stp_storeOwn (T := 22) (x := (.tmp 86)) (y := (.tmp 85)) (rc := fun i f => valCell ((ws_275).getD i undef) f) undef (0) 0 ((.slice r129_a ((rowsN ((blocksOf Y17.cars (Y17.tracks.getD (0) [])).length) (blocksOf Y17.cars (Y17.tracks.getD (0) []))).getD (n122) []).length r129_c : Value)) (ty := 0) (gd := none) (by kernel_rfl) rfl qh79 orr131 (by omega) (by decide) rfl rfl (by kernel_rfl) rfl rfl (by intro f hf; match f, hf with | 0, _ => rfl) ((List.Perm.cons _ ((List.Perm.cons _ ((List.Perm.cons _ ((List.Perm.append_left _ ((List.Perm.append_left _ (List.perm_append_comm_assoc _ _ _)).trans (List.perm_append_comm_assoc _ _ _))).trans (List.perm_append_comm_assoc _ _ _))).trans (List.perm_middle.symm))).trans (List.perm_middle.symm))).trans (List.perm_middle.symm)) (fun Ms132 ho132 => ?_))
    refine pm (M' := ((b84, Obj.cells #[.slice u_070_a Y17.cars.length u_070_c, .slice u_172_a Y17.room.length u_172_c, .slice u_274_a ws_275.length u_274_c] 26 (0, 0)) :: (b34, Obj.cells #[.slice u_018_a Y17.cars.length u_018_c, .slice u_120_a Y17.room.length u_120_c, .slice u_222_a ws_223.length u_222_c] 26 (0, 0)) :: (u6, Obj.cells #[.int .u64 (p_t121)] 65 (0, 0)) :: (Ms132 ++ (Ms110 ++ (Ms_071 ++ (Ms_173 ++ F)))))) (List.perm_middle.trans (List.Perm.cons _ (List.perm_middle.trans (List.Perm.cons _ List.perm_middle)))) ?_
    have orw133 := qr80.set r129_f (0)
    have orw133_len := orw133.1
    try simp only [List.length_set, List.length_append, List.length_cons, List.length_nil, List.length_take] at orw133_len
    refine sn ?_
    refine sd (dnb 88 0 0 b84 [.slice u_070_a Y17.cars.length u_070_c, .slice u_172_a Y17.room.length u_172_c, .slice u_274_a ws_275.length u_274_c]) ?_
    refine sfz (A := ((b84, Obj.cells #[.slice u_070_a Y17.cars.length u_070_c, .slice u_172_a Y17.room.length u_172_c, .slice u_274_a ws_275.length u_274_c] 26 (0, 0)) :: (b34, Obj.cells #[.slice u_018_a Y17.cars.length u_018_c, .slice u_120_a Y17.room.length u_120_c, .slice u_222_a ws_223.length u_222_c] 26 (0, 0)) :: (u6, Obj.cells #[.int .u64 (p_t121)] 65 (0, 0)) :: (Ms132 ++ (Ms110 ++ (Ms_173 ++ F))))) noCar qh77 ((List.Perm.cons _ ((List.Perm.cons _ ((List.Perm.cons _ ((List.Perm.append_left _ (List.perm_append_comm_assoc _ _ _)).trans (List.perm_append_comm_assoc _ _ _))).trans (List.perm_middle.symm))).trans (List.perm_middle.symm))).trans (List.perm_middle.symm)) (fun I134 hle135 fz136_f => ?_)
    replace hG := hG.mono hle135
    replace orw133 := orw133.mono hle135
    obtain ⟨fz136_a, fz136_c, fz136_b, fz136_o, fz136_e, fz136_l, fz136_m, fz136_r⟩ := id fz136_f
    cases fz136_e
    refine sfz (A := ((b84, Obj.cells #[.slice u_070_a Y17.cars.length u_070_c, .slice u_172_a Y17.room.length u_172_c, .slice u_274_a ws_275.length u_274_c] 26 (0, 0)) :: (b34, Obj.cells #[.slice u_018_a Y17.cars.length u_018_c, .slice u_120_a Y17.room.length u_120_c, .slice u_222_a ws_223.length u_222_c] 26 (0, 0)) :: (u6, Obj.cells #[.int .u64 (p_t121)] 65 (0, 0)) :: (Ms132 ++ (Ms110 ++ F)))) 0 qh78 ((List.Perm.cons _ ((List.Perm.cons _ ((List.Perm.cons _ ((List.Perm.append_left _ (List.perm_append_comm_assoc _ _ _)).trans (List.perm_append_comm_assoc _ _ _))).trans (List.perm_middle.symm))).trans (List.perm_middle.symm))).trans (List.perm_middle.symm)) (fun I137 hle138 fz139_f => ?_)
    replace hG := hG.mono hle138
    replace orw133 := orw133.mono hle138
    replace fz136_f := fz136_f.mono hle138
    obtain ⟨fz139_a, fz139_c, fz139_b, fz139_o, fz139_e, fz139_l, fz139_m, fz139_r⟩ := id fz139_f
    cases fz139_e
    refine sfz (A := ((b84, Obj.cells #[.slice u_070_a Y17.cars.length u_070_c, .slice u_172_a Y17.room.length u_172_c, .slice u_274_a ws_275.length u_274_c] 26 (0, 0)) :: (b34, Obj.cells #[.slice u_018_a Y17.cars.length u_018_c, .slice u_120_a Y17.room.length u_120_c, .slice u_222_a ws_223.length u_222_c] 26 (0, 0)) :: (u6, Obj.cells #[.int .u64 (p_t121)] 65 (0, 0)) :: (Ms110 ++ F))) undef ho132 ((List.Perm.cons _ ((List.Perm.cons _ (List.perm_middle.symm)).trans (List.perm_middle.symm))).trans (List.perm_middle.symm)) (fun I140 hle141 fz142_f => ?_)
    replace hG := hG.mono hle141
    replace orw133 := orw133.mono hle141
    replace fz136_f := fz136_f.mono hle141
    replace fz139_f := fz139_f.mono hle141
    obtain ⟨fz142_a, fz142_c, fz142_b, fz142_o, fz142_e, fz142_l, fz142_m, fz142_r⟩ := id fz142_f
    simp only [List.length_set] at fz142_e fz142_l fz142_m fz142_r
    first | cases fz142_e | (injection fz142_e with fz142_e1 fz142_e2 fz142_e3; subst fz142_e1; subst fz142_e3; try rw [← fz142_e2] at fz142_f)
    have fr143_f := orw133.isRows fz142_f
    have fr143_len := orw133.1
    obtain ⟨fr143_a, fr143_c, fr143_b, fr143_o, fr143_vs, fr143_e, fr143_l, fr143_m, fr143_r, fr143_w⟩ := id fr143_f
    injection fr143_e with fr143_e1 fr143_e2 fr143_e3; subst fr143_e1; subst fr143_e3
    have hct151 := Brake_ct I140 _ ((⟨Y17.cars, Y17.room, Y17.tracks.set (0) ((rowsN ((blocksOf Y17.cars (Y17.tracks.getD (0) [])).length) (blocksOf Y17.cars (Y17.tracks.getD (0) []))).getD (n122) [])⟩ : Yard)) (mkYard fz136_f fz139_f fr143_f)
    refine sS (sc (some 89) (F := ((b84, Obj.cells #[.slice u_070_a Y17.cars.length u_070_c, .slice u_172_a Y17.room.length u_172_c, .slice u_274_a ws_275.length u_274_c] 26 (0, 0)) :: (b34, Obj.cells #[.slice u_018_a Y17.cars.length u_018_c, .slice u_120_a Y17.room.length u_120_c, .slice u_222_a ws_223.length u_222_c] 26 (0, 0)) :: (u6, Obj.cells #[.int .u64 (p_t121)] 65 (0, 0)) :: (Ms110 ++ F))) (hct151 :) (.refl _) (fun rv149 I144 rm150 hle145 hp146 => ?_))
    obtain ⟨hv147, hm148⟩ := hp146
    rw [hv147, hm148]; clear hv147 hm148
    replace hG := hG.mono hle145
    refine nm ?_
    show Seq _ _ _ _ _ _ ((89, .tuple #[.int .i64 (((brakeOf ((⟨Y17.cars, Y17.room, Y17.tracks.set (0) ((rowsN ((blocksOf Y17.cars (Y17.tracks.getD (0) [])).length) (blocksOf Y17.cars (Y17.tracks.getD (0) []))).getD (n122) [])⟩ : Yard))).1)), .int .i64 (((brakeOf ((⟨Y17.cars, Y17.room, Y17.tracks.set (0) ((rowsN ((blocksOf Y17.cars (Y17.tracks.getD (0) [])).length) (blocksOf Y17.cars (Y17.tracks.getD (0) []))).getD (n122) [])⟩ : Yard))).2))]) :: _) _ _
    refine sp 5 [(15, .int .i64 (((brakeOf ((⟨Y17.cars, Y17.room, Y17.tracks.set (0) ((rowsN ((blocksOf Y17.cars (Y17.tracks.getD (0) [])).length) (blocksOf Y17.cars (Y17.tracks.getD (0) []))).getD (n122) [])⟩ : Yard))).2))), (14, .int .i64 (((brakeOf ((⟨Y17.cars, Y17.room, Y17.tracks.set (0) ((rowsN ((blocksOf Y17.cars (Y17.tracks.getD (0) [])).length) (blocksOf Y17.cars (Y17.tracks.getD (0) []))).getD (n122) [])⟩ : Yard))).1)))] ?_
    have hbr := brake_row hvl (show (trk Y17 0).length ≠ 0 from by (show (Y17.tracks.getD (0) []).length ≠ 0); omega) (r := (rowsN ((blocksOf Y17.cars (Y17.tracks.getD (0) [])).length) (blocksOf Y17.cars (Y17.tracks.getD (0) []))).getD (n122) []) (by
     have hq : n122 < (rowsN (blocksOf Y17.cars (Y17.tracks.getD (0) [])).length (blocksOf Y17.cars (Y17.tracks.getD (0) []))).length := by omega
     exact getD_mem hq)
    have hbg := hbr.trans hbf.1
    refine seq_re 14 rfl (show (.int .i64 (((brakeOf ((⟨Y17.cars, Y17.room, Y17.tracks.set (0) ((rowsN ((blocksOf Y17.cars (Y17.tracks.getD (0) [])).length) (blocksOf Y17.cars (Y17.tracks.getD (0) []))).getD (n122) [])⟩ : Yard))).1)) : Value) = .int .i64 ((100 * sumBy Car.brk Y17.cars (trk Y17 0) / sumBy Car.wt Y17.cars (trk Y17 0))) from congrArg (Value.int .i64) (congrArg Prod.fst hbg)) ?_
    refine seq_re 15 rfl (show (.int .i64 (((brakeOf ((⟨Y17.cars, Y17.room, Y17.tracks.set (0) ((rowsN ((blocksOf Y17.cars (Y17.tracks.getD (0) [])).length) (blocksOf Y17.cars (Y17.tracks.getD (0) []))).getD (n122) [])⟩ : Yard))).2)) : Value) = .int .i64 (0) from congrArg (Value.int .i64) (congrArg Prod.snd hbg)) ?_
    refine seq_re 5 rfl (show (.int .i64 (((brakeOf Y17).1)) : Value) = .int .i64 ((100 * sumBy Car.brk Y17.cars (trk Y17 0) / sumBy Car.wt Y17.cars (trk Y17 0))) from congrArg (Value.int .i64) (congrArg Prod.fst hbf.1)) ?_
    refine seq_re 6 rfl (show (.int .i64 (((brakeOf Y17).2)) : Value) = .int .i64 (0) from congrArg (Value.int .i64) (congrArg Prod.snd hbf.1)) ?_
    have hkk : (Y17.tracks.getD (0) []).take k = trk Y17 0 := take_done (by omega)
    have hb1 := hbf.2.1; have hb2 := hbf.2.2
    rw [← hkk] at hb1 hb2
    rw [← hww] at hb1; rw [← hbb] at hb2
    rw [hkk] at hb1 hb2
    refine sn ?_
    refine sp 1 [(92, .int .i64 (0))] ?_
    refine sd (dcm 93 .eql (0) (0) true (by rfl)) ?_
    refine sp 2 [(95, .int .i64 (0)), (94, .bool (true))] ?_
    refine sd (dcm 96 .eql (0) (0) true (by rfl)) ?_
    refine sp 4 [(100, .int .i64 ((100 * sumBy Car.brk Y17.cars (trk Y17 0) / sumBy Car.wt Y17.cars (trk Y17 0)))), (99, .int .i64 ((100 * sumBy Car.brk Y17.cars (trk Y17 0) / sumBy Car.wt Y17.cars (trk Y17 0)))), (98, .bool (true))] ?_
    refine sd (dcm 101 .eql ((100 * sumBy Car.brk Y17.cars (trk Y17 0) / sumBy Car.wt Y17.cars (trk Y17 0))) ((100 * sumBy Car.brk Y17.cars (trk Y17 0) / sumBy Car.wt Y17.cars (trk Y17 0))) true (by simp [cmp])) ?_
    refine sp 4 [(105, .int .i64 ((100 * sumBy Car.brk Y17.cars (trk Y17 0) / sumBy Car.wt Y17.cars (trk Y17 0)))), (104, .int .i64 (ww)), (103, .bool (true))] ?_
    refine sd (dcm 106 .leq (ww) ((100 * sumBy Car.brk Y17.cars (trk Y17 0) / sumBy Car.wt Y17.cars (trk Y17 0))) true (by simp only [cmp, decide_eq_true_eq]; omega)) ?_
    refine sp 4 [(110, .int .i64 (bb)), (109, .int .i64 ((100 * sumBy Car.brk Y17.cars (trk Y17 0) / sumBy Car.wt Y17.cars (trk Y17 0)))), (108, .bool (true))] ?_
    refine sd (dcm 111 .leq ((100 * sumBy Car.brk Y17.cars (trk Y17 0) / sumBy Car.wt Y17.cars (trk Y17 0))) (bb) true (by simp only [cmp, decide_eq_true_eq]; omega)) ?_
    refine sp 2 [(113, .bool (true))] ?_
    have hct159 := shunting_ct I144 (by first | exact hG | exact hG.mono hI)
    refine sS (sc (some 114) (F := ((b84, Obj.cells #[.slice u_070_a Y17.cars.length u_070_c, .slice u_172_a Y17.room.length u_172_c, .slice u_274_a ws_275.length u_274_c] 26 (0, 0)) :: (b34, Obj.cells #[.slice u_018_a Y17.cars.length u_018_c, .slice u_120_a Y17.room.length u_120_c, .slice u_222_a ws_223.length u_222_c] 26 (0, 0)) :: (u6, Obj.cells #[.int .u64 (p_t121)] 65 (0, 0)) :: (Ms110 ++ F))) (hct159 :) (.refl _) (fun rv157 I152 rm158 hle153 hp154 => ?_))
    obtain ⟨hv155, hm156⟩ := hp154
    rw [hv155, hm156]; clear hv155 hm156
    refine nm ?_
    show Seq _ _ _ _ _ _ ((114, .bool (true)) :: _) _ _
    refine sp 2 [(2, .bool (true))] ?_
    refine se ?_
    refine rret ?_
    refine pst_ret1 (t := 2) [] (by kernel_rfl) rfl (List.Sublist.cons _ (List.Sublist.cons _ (List.Sublist.cons _ (List.Sublist.trans (List.Sublist.refl _) (List.sublist_append_right _ _))))) (Imm.le.trans (Imm.le.trans (Imm.le.trans (Imm.le.trans (Imm.le.trans (Imm.le.trans (Imm.le.trans (Imm.le.trans (Imm.le.trans (Imm.le.trans (Imm.le.trans (Imm.le.trans (Imm.le.trans (Imm.le.trans (Imm.le.trans hle2 hle12) hle37) hle40) hle43) hle47) hle66) hle87) hle100) hle104) hle117) hle135) hle138) hle141) hle145) hle153) ?_
    exact ⟨rfl, rfl⟩

end Go.Proofs.YtcaocbhbofejnaaDoor
namespace Go.Sl
open Go Go.ChangeShapes Go.WideShapes

def immOf (W : World) : Imm := ⟨W.os, W.tape, W.output, fun b => W.heap[b]?⟩
theorem st_immOf (W : World) : St (immOf W) [] W := ⟨rfl, rfl, rfl, fun _ _ h => h, fun _ _ h => by simp at h, by simp, fun _ _ h => by simp at h⟩
theorem spot_of_cell {W : World} {a : Addr} {v : Value} (h : W.cell? a = some v) : a.spot = none ∧ ∃ cs T fz, W.heap[a.block]? = some (.cells cs T fz) ∧ cs[a.off]? = some v := by
  unfold World.cell? at h
  split at h
  · rename_i cs T fz hb
    split at h
    · cases h
    · rename_i hs
      refine ⟨by cases hx : a.spot with | none => rfl | some _ => rw [hx] at hs; simp at hs, cs, T, fz, hb, h⟩
  · cases h
theorem same_of_le {W W' : World} {J : Imm} {M : Seg} (le : (immOf W).le J) (st : St J M W') : (∀ b, b < W.heap.size → W'.heap[b]? = W.heap[b]?) ∧ W'.os = W.os ∧ W'.output = W.output := by
  refine ⟨fun b hb => ?_, st.os.trans le.os, st.output.trans le.output⟩
  have h : (immOf W).blk b = some W.heap[b] := by show W.heap[b]? = _; simp [hb]
  rw [st.imm b _ (le.blk b _ h)]
  exact h.symm
theorem keptBut_same {W W' : World} {may : MemPlace → Prop} (h : ∀ b, b < W.heap.size → W'.heap[b]? = W.heap[b]?) (ho : W'.os = W.os) (hu : W'.output = W.output) : W.keptBut W' may := by
  refine ⟨ho, hu, fun i hi => ?_⟩
  rw [h i hi]
  have : W.heap[i]? = some W.heap[i] := by simp [hi]
  rw [this]
  cases W.heap[i] <;> simp
theorem sameAt_heap {W W' : World} {p : MemPlace} (h : W'.heap[p.block]? = W.heap[p.block]?) : W.sameAt W' p := by
  cases p <;> simp only [MemPlace.block] at h <;> simp [World.sameAt, World.cell?, World.frozen?, h]
theorem isInts_of {W : World} {a : Addr} {len cap : Nat} {zs : List Int} (hl : len ≤ cap) (hm : cap ≤ maxLen) (hz : zs.length = len) (hr : len ≤ 140737488355328)
    (hc : ∀ i, i < zs.length → W.cell? (a.add i) = some (.int .i64 (zs.getD i 0))) : IsInts (immOf W) (.slice (some a) len cap) zs := by
  subst hz
  refine ⟨some a, cap, a.block, a.off, rfl, hl, hr, ⟨fun h0 => ?_, fun i hi f hf => ?_⟩⟩
  · have := hc 0 h0
    obtain ⟨h1, _⟩ := spot_of_cell this
    have hs : a.spot = none := by
      unfold Addr.add at h1; simpa using h1
    cases a with
    | mk b o s => simp only at hs; subst hs; rfl
  · have hcell := hc i hi
    obtain ⟨h1, cs, T, fz, hb, hv⟩ := spot_of_cell hcell
    have e : a.add i = ⟨a.block, a.off + i, none⟩ := by
      cases a with
      | mk b o s =>
        have hs : s = none := by
          have h0 := hc 0 (by omega)
          obtain ⟨g1, _⟩ := spot_of_cell h0
          unfold Addr.add at g1; simpa using g1
        subst hs
        exact addr_add b o i
    rw [e] at hb hv
    obtain rfl : f = 0 := by omega
    exact ⟨rfl, cs, T, fz, by rw [Nat.mul_one]; exact hb, by simp only [Nat.mul_one, Nat.add_zero]; exact hv⟩
end Go.Sl

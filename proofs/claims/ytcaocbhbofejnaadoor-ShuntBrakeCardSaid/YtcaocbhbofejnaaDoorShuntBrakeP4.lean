/- A part of the proof that stands in YtcaocbhbofejnaaDoorShuntBrakeLaw. -/
import Derived.Test.YtcaocbhbofejnaaDoorShuntBrakeP3
import Derived.Test.YtcaocbhbofejnaaDoorShuntBrakeP1
import Derived.Test.YtcaocbhbofejnaaDoorShuntBrakeP0
set_option linter.unusedVariables false
set_option linter.unusedSimpArgs false
namespace Go.Proofs.YtcaocbhbofejnaaDoor
open Go Go.Sl Go.Sh
set_option maxRecDepth 100000
theorem search_all (n : Nat) : SearchAt n := by
 induction n with
 | zero => intro I y y_1 y_2 y_3 y_ws y_Ms Y d r r_es r_cl m g gs A ps y_1f y_2f y_3h y_3r r_is g_f hG hgo hka hfa hd hdn; exact search_of I y y_1 y_2 y_3 y_ws y_Ms Y d r r_es r_cl m g gs A ps y_1f y_2f y_3h y_3r r_is g_f hG hgo hka hfa hd (fun n hn => by omega)
 | succ n ih => intro I y y_1 y_2 y_3 y_ws y_Ms Y d r r_es r_cl m g gs A ps y_1f y_2f y_3h y_3r r_is g_f hG hgo hka hfa hd hdn; exact search_of I y y_1 y_2 y_3 y_ws y_Ms Y d r r_es r_cl m g gs A ps y_1f y_2f y_3h y_3r r_is g_f hG hgo hka hfa hd (fun k hk => (show n = k by omega) ▸ ih)
theorem search_ct (I : Imm) (y : Nat) (y_1 y_2 y_3 : Value) (y_ws : List Value) (y_Ms : Seg) (Y : Yard) (d : Nat) (r : Nat) (r_es : Array MapEntry) (r_cl : Nat) (m : Met) (g : Value) (gs : List Value) (A : Yard) (ps : List (Yard → Bool)) (y_1f : IsCars I y_1 Y.cars) (y_2f : IsInts I y_2 Y.room) (y_3h : Own 22 1 valCell y_3 y_ws y_Ms) (y_3r : RowsV I y_ws Y.tracks) (r_is : MapIs encP r_es (metV m)) (g_f : IsVals I g gs) (hG : Glob I) (hgo : GoalsOk Tryd.prog 22 87 I A gs ps) (hka : Kin A Y) (hfa : Fine A) (hd : d ≤ 4) : Ct Tryd.prog 75 #[.pointer (some ⟨y, 0, none⟩), .int .i64 ↑d, .map (some r), g] I ([(y, Obj.cells #[y_1, y_2, y_3] 87 (0, 0))] ++ (y_Ms ++ ([(r, Obj.map r_es r_cl)]))) (fun v I' M' => ∃ y_wt : List Value, ∃ y_Mt : Seg, ∃ r_et : Array MapEntry, ∃ r_ct : Nat, ∃ u0 : Value, ∃ Ms0 : Seg, v = .tuple #[u0, .bool ((searchM (allP ps) d Y m).1.isSome)] ∧ M' = [(y, Obj.cells #[y_1, y_2, y_3] 87 (0, 0))] ++ (y_Mt ++ ([(r, Obj.map r_et r_ct)] ++ (Ms0))) ∧ Own 22 1 valCell y_3 y_wt y_Mt ∧ RowsV I' y_wt (Y).tracks ∧ MapIs encP r_et (metV ((searchM (allP ps) d Y m).2)) ∧ Own 54 3 shiftCell u0 ((searchM (allP ps) d Y m).1.getD []) Ms0) := search_all d I y y_1 y_2 y_3 y_ws y_Ms Y d r r_es r_cl m g gs A ps y_1f y_2f y_3h y_3r r_is g_f hG hgo hka hfa hd rfl
noncomputable def c_fewest (p : List Nat) : Code := sub (bodyOf Tryd.f58) p
theorem fewest_ct (I : Imm) (y : Value) (Y : Yard) (g : Value) (gs : List Value) (ps : List (Yard → Bool)) (y_f : IsYard I y Y) (g_f : IsVals I g gs) (hG : Glob I) (hgo : GoalsOk Tryd.prog 22 87 I Y gs ps) (hv : Valid Y) : Ct Tryd.prog 58 #[y, g] I ([]) (fun v I' M' => ∃ u0 : Value, ∃ Ms0 : Seg, v = .tuple #[u0, .int .i64 (errOf (fewestM (allP ps) Y))] ∧ M' = Ms0 ∧ Own 54 3 shiftCell u0 ((fewestM (allP ps) Y).getD []) Ms0) := by
 obtain ⟨y1, y2, y3, y_e, y1_f, y2_f, y3_f⟩ := id y_f
 subst y_e
 obtain ⟨y1_a, y1_c, y1_b, y1_o, y1_e, y1_l, y1_m, y1_r⟩ := id y1_f
 subst y1_e
 obtain ⟨y2_a, y2_c, y2_b, y2_o, y2_e, y2_l, y2_m, y2_r⟩ := id y2_f
 subst y2_e
 obtain ⟨y3_a, y3_c, y3_b, y3_o, y3_vs, y3_e, y3_l, y3_m, y3_r, y3_w⟩ := id y3_f
 subst y3_e
 obtain ⟨g_a, g_c, g_b, g_o, g_e, g_l, g_m, g_r⟩ := id g_f
 subst g_e
 refine fn_of_run (fn := Tryd.f58) (args := [_, _]) (N := 28) Tryd.func58 rfl (by kernel_rfl) (Nat.le_of_ble_eq_true rfl) (fun F => ?_)
 show Run _ _ (c_fewest []) _ _ [(0, .agg #[.slice y1_a Y.cars.length y1_c, .slice y2_a Y.room.length y2_c, .slice y3_a Y.tracks.length y3_c]), (1, .slice g_a gs.length g_c)] _ _
 refine rnm ?_
 have hfa := hv.fine; have hgood := hv.good; have hl1 := hv.lens
 refine rqr ?_
 refine sS (sb 2 26 #[.slice y1_a Y.cars.length y1_c, .slice y2_a Y.room.length y2_c, .slice y3_a Y.tracks.length y3_c] (fun b1 => ?_))
 refine sp 2 [(5, .int .i64 (0)), (4, .slice none 0 0)] ?_
 refine sn ?_
 refine sd (dnb 10 0 0 b1 [.slice y1_a Y.cars.length y1_c, .slice y2_a Y.room.length y2_c, .slice y3_a Y.tracks.length y3_c]) ?_
 have hct21 := copied_ct I _ (Y) (mkYard y1_f y2_f y3_f) (by omega) (by omega) (by omega) (by exact hgood.le)
 refine sS (sc (some 11) (F := ((b1, Obj.cells #[.slice y1_a Y.cars.length y1_c, .slice y2_a Y.room.length y2_c, .slice y3_a Y.tracks.length y3_c] 26 (0, 0)) :: F)) (hct21 :) (.refl _) (fun rv19 I3 rm20 hle4 hp5 => ?_))
 obtain ⟨u_08, Ms_09, u_110, Ms_111, u_212, ws_213, Ms_214, hv6, hm7, qh15, qh16, qh17, qr18⟩ := hp5
 rw [hv6, hm7]; clear hv6 hm7
 replace g_f := g_f.mono hle4
 replace hG := hG.mono hle4
 replace hgo := hgo.mono hle4
 obtain ⟨u_08_a, u_08_c, u_08_e, u_08_l⟩ := qh15.shape
 subst u_08_e
 obtain ⟨u_110_a, u_110_c, u_110_e, u_110_l⟩ := qh16.shape
 subst u_110_e
 obtain ⟨u_212_a, u_212_c, u_212_e, u_212_l⟩ := qh17.shape
 subst u_212_e
 have qr18_len := qr18.1
 try simp only [List.length_set, List.length_append, List.length_cons, List.length_nil, List.length_take] at qr18_len
 refine seq_mem (M' := ((Ms_09 ++ (Ms_111 ++ (Ms_214 ++ (b1, Obj.cells #[.slice y1_a Y.cars.length y1_c, .slice y2_a Y.room.length y2_c, .slice y3_a Y.tracks.length y3_c] 26 (0, 0)) :: F))))) (fun w h => by simpa only [List.append_assoc, List.cons_append, List.nil_append] using h) ?_
 refine pm (M' := ((b1, Obj.cells #[.slice y1_a Y.cars.length y1_c, .slice y2_a Y.room.length y2_c, .slice y3_a Y.tracks.length y3_c] 26 (0, 0)) :: (Ms_09 ++ (Ms_111 ++ (Ms_214 ++ F))))) ((List.Perm.append_left _ ((List.Perm.append_left _ List.perm_middle).trans List.perm_middle)).trans List.perm_middle) ?_
 show Seq _ _ _ _ _ _ ((11, .agg #[.slice u_08_a Y.cars.length u_08_c, .slice u_110_a Y.room.length u_110_c, .slice u_212_a ws_213.length u_212_c]) :: _) _ _
 refine sfz (A := ((b1, Obj.cells #[.slice y1_a Y.cars.length y1_c, .slice y2_a Y.room.length y2_c, .slice y3_a Y.tracks.length y3_c] 26 (0, 0)) :: (Ms_111 ++ (Ms_214 ++ F)))) noCar qh15 (List.perm_middle.symm) (fun I22 hle23 fz24_f => ?_)
 replace g_f := g_f.mono hle23
 replace hG := hG.mono hle23
 replace hgo := hgo.mono hle23
 replace qr18 := qr18.mono hle23
 obtain ⟨fz24_a, fz24_c, fz24_b, fz24_o, fz24_e, fz24_l, fz24_m, fz24_r⟩ := id fz24_f
 cases fz24_e
 refine sfz (A := ((b1, Obj.cells #[.slice y1_a Y.cars.length y1_c, .slice y2_a Y.room.length y2_c, .slice y3_a Y.tracks.length y3_c] 26 (0, 0)) :: (Ms_214 ++ F))) 0 qh16 (List.perm_middle.symm) (fun I25 hle26 fz27_f => ?_)
 replace g_f := g_f.mono hle26
 replace hG := hG.mono hle26
 replace hgo := hgo.mono hle26
 replace qr18 := qr18.mono hle26
 replace fz24_f := fz24_f.mono hle26
 obtain ⟨fz27_a, fz27_c, fz27_b, fz27_o, fz27_e, fz27_l, fz27_m, fz27_r⟩ := id fz27_f
 cases fz27_e
 refine sp 1 [(12, .agg #[.slice u_08_a Y.cars.length u_08_c, .slice u_110_a Y.room.length u_110_c, .slice u_212_a ws_213.length u_212_c])] ?_
 refine sS (sb 13 87 #[.slice u_08_a Y.cars.length u_08_c, .slice u_110_a Y.room.length u_110_c, .slice u_212_a ws_213.length u_212_c] (fun b28 => ?_))
 refine sp 1 [(6, .pointer (some ⟨b28, 0, none⟩))] ?_
 refine se ?_
 refine rq ?_
 refine rqr ?_
 refine sp 1 [(14, .int .i64 (0))] ?_
 refine se ?_
 refine rb 0 ?_
 refine rl (fun mz a w => ∃ J0 : Imm, ∃ d : Nat, ∃ oM0_c6_2 : Seg, ∃ ow0_c6_2 : List Value, (I25.le J0) ∧ (d ≤ 5) ∧ (∀ m, m < d → plain (allP ps) m Y = none) ∧ (RowsV J0 ow0_c6_2 (Y.tracks)) ∧ (Own 22 1 valCell (.slice u_212_a ws_213.length u_212_c) (ow0_c6_2) oM0_c6_2) ∧ Slots 28 [(14, .int .i64 ↑d), (1, .slice g_a gs.length g_c), (6, .pointer (some ⟨b28, 0, none⟩))] a ∧ a.defers = [] ∧ St J0 ((b28, Obj.cells #[.slice u_08_a Y.cars.length u_08_c, .slice u_110_a Y.room.length u_110_c, (.slice u_212_a ws_213.length u_212_c)] 87 (0, 0)) :: (b1, Obj.cells #[.slice y1_a Y.cars.length y1_c, .slice y2_a Y.room.length y2_c, .slice y3_a Y.tracks.length y3_c] 26 (0, 0)) :: (oM0_c6_2 ++ F)) w ∧ mz = 5 - d) ?_ ?_
 ·intro a w hS hD hW
  exact ⟨_, I25, 0, Ms_214, ws_213, Imm.le.refl _, by omega, (fun m hm => by omega), qr18, qh17, hS.sub (.cons 14 rfl (.cons 1 rfl (.cons 6 rfl (.nil _)))), hD, hW, rfl⟩
 ·rintro mz a w ⟨J0, d, oM0_c6_2, ow0_c6_2, hJ0, hd, hbl, or0_c6_2, oh0_c6_2, hS, hD, hW, rfl⟩
  refine run_at hS hD hW ?_
  clear hS hD hW a w
  replace g_f := g_f.mono hJ0
  replace hG := hG.mono hJ0
  replace hgo := hgo.mono hJ0
  replace fz24_f := fz24_f.mono hJ0
  replace fz27_f := fz27_f.mono hJ0
  have or0_c6_2_len := or0_c6_2.1
  try simp only [List.length_set, List.length_append, List.length_cons, List.length_nil, List.length_take] at or0_c6_2_len
  refine rqr ?_
  refine sp 1 [(15, .bool (cmp .lss (↑d) (5)))] ?_
  refine se ?_
  refine rq ?_
  refine rc 15 rfl (fun h1 => ?_) (fun h1 => ?_)
  ·
   have h1_r := h1
   have h1 := lss_t h1
   refine rskip ?_
   refine pst_next ?_
   refine rq ?_
   refine rb 1 ?_
   refine rqr ?_
   refine sp 2 [(7, .int .i64 (↑d))] ?_
   refine sn ?_
   refine sp 2 [(19, .int .i64 (↑d)), (18, .pointer (some ⟨b28, 0, none⟩))] ?_
   refine sS (stp_makeMap (d := 20) (T := 120) (ty := 120) (gd := none) (by kernel_rfl) rfl (fun b30 => ?_))
   refine sp 1 [(21, .slice g_a gs.length g_c)] ?_
   have hct49 := search_ct J0 (b28) _ _ _ _ _ (Y) (d) (b30) (#[]) (0) ([]) _ _ (Y) (ps) fz24_f fz27_f oh0_c6_2 or0_c6_2 (MapIs.nil encP) g_f (by assumption) (by assumption) (by exact Kin.refl Y) (by assumption) (by omega)
   refine sS (sc (some 22) (F := ((b1, Obj.cells #[.slice y1_a Y.cars.length y1_c, .slice y2_a Y.room.length y2_c, .slice y3_a Y.tracks.length y3_c] 26 (0, 0)) :: F)) (hct49 :) (by simpa only [List.append_assoc, List.cons_append, List.nil_append] using ((List.Perm.swap _ _ _).trans (List.Perm.cons _ ((List.Perm.cons _ (List.perm_middle.symm)).trans (List.perm_middle.symm))))) (fun rv47 I32 rm48 hle33 hp34 => ?_))
   obtain ⟨y_wt37, y_Mt38, r_et39, r_ct40, u041, Ms042, hv35, hm36, qwh43, qwr44, qmh45, qh46⟩ := hp34
   rw [hv35, hm36]; clear hv35 hm36
   obtain ⟨wk50_a, wk50_c, wk50_e, wk50_l⟩ := id qwh43.shape
   have qwr44_len := qwr44.1
   try simp only [List.length_set, List.length_append, List.length_cons, List.length_nil, List.length_take] at qwr44_len
   obtain ⟨u041_a, u041_c, u041_e, u041_l⟩ := qh46.shape
   subst u041_e
   refine seq_mem (M' := ((b28, Obj.cells #[.slice u_08_a Y.cars.length u_08_c, .slice u_110_a Y.room.length u_110_c, .slice u_212_a ws_213.length u_212_c] 87 (0, 0)) :: (y_Mt38 ++ (b30, Obj.map r_et39 r_ct40) :: (Ms042 ++ (b1, Obj.cells #[.slice y1_a Y.cars.length y1_c, .slice y2_a Y.room.length y2_c, .slice y3_a Y.tracks.length y3_c] 26 (0, 0)) :: F)))) (fun w h => by simpa only [List.append_assoc, List.cons_append, List.nil_append] using h) ?_
   refine pm (M' := ((b28, Obj.cells #[.slice u_08_a Y.cars.length u_08_c, .slice u_110_a Y.room.length u_110_c, .slice u_212_a ws_213.length u_212_c] 87 (0, 0)) :: (b30, Obj.map r_et39 r_ct40) :: (b1, Obj.cells #[.slice y1_a Y.cars.length y1_c, .slice y2_a Y.room.length y2_c, .slice y3_a Y.tracks.length y3_c] 26 (0, 0)) :: (y_Mt38 ++ (Ms042 ++ F)))) (List.Perm.cons _ (List.perm_middle.trans (List.Perm.cons _ ((List.Perm.append_left _ List.perm_middle).trans List.perm_middle)))) ?_
   show Seq _ _ _ _ _ _ ((22, .tuple #[.slice u041_a ((searchM (allP ps) d Y ([])).1.getD []).length u041_c, .bool ((searchM (allP ps) d Y ([])).1.isSome)]) :: _) _ _
   refine sp 5 [(9, .bool ((searchM (allP ps) d Y ([])).1.isSome)), (8, .slice u041_a ((searchM (allP ps) d Y ([])).1.getD []).length u041_c)] ?_
   refine sn ?_
   refine sp 1 [(25, .bool ((searchM (allP ps) d Y ([])).1.isSome))] ?_
   refine se ?_
   refine rc 25 rfl (fun h2 => ?_) (fun h2 => ?_)
   ·
    have h2_r := h2
    refine rqr ?_
    refine sp 3 [(5, .int .i64 (0)), (4, .slice u041_a ((searchM (allP ps) d Y ([])).1.getD []).length u041_c)] ?_
    refine se ?_
    refine rret ?_
    refine (pst_ret_block (pst_ret_pass (pst_ret_pass (pst_ret_block (pst_ret_pass ?_)))))
    have hsp := search_plain hfa hbl (g := allP ps); have hfe := fewest_hit (by omega) hbl (by rw [← hsp]; exact h2)
    refine ppm (M' := ((Ms042 ++ (b28, Obj.cells #[.slice u_08_a Y.cars.length u_08_c, .slice u_110_a Y.room.length u_110_c, .slice u_212_a ws_213.length u_212_c] 87 (0, 0)) :: (b30, Obj.map r_et39 r_ct40) :: (b1, Obj.cells #[.slice y1_a Y.cars.length y1_c, .slice y2_a Y.room.length y2_c, .slice y3_a Y.tracks.length y3_c] 26 (0, 0)) :: (y_Mt38 ++ F)))) ((List.Perm.cons _ ((List.Perm.cons _ ((List.Perm.cons _ (List.perm_append_comm_assoc _ _ _)).trans (List.perm_middle.symm))).trans (List.perm_middle.symm))).trans (List.perm_middle.symm)) ?_
    refine pst_ret2 (t := 4) (u := 5) (Ms042) (by kernel_rfl) rfl rfl (List.Sublist.append_left (List.Sublist.cons _ (List.Sublist.cons _ (List.Sublist.cons _ (List.Sublist.trans (List.Sublist.refl _) (List.sublist_append_right _ _))))) _) (Imm.le.trans (Imm.le.trans (Imm.le.trans (Imm.le.trans hle4 hle23) hle26) hJ0) hle33) ?_
    exact ⟨_, _, (congrArg (fun n => Value.tuple #[_, .int .i64 n]) (show (0 : Int) = errOf (fewestM (allP ps) Y) from (errOf_some (by rw [hfe, ← hsp]; exact h2)).symm)), rfl, ((show (searchM (allP ps) d Y []).1.getD [] = (fewestM (allP ps) Y).getD [] from by rw [hfe, hsp]) ▸ qh46)⟩
   ·
    have h2_r := h2
    refine rskip ?_
    refine pst_normal_block ?_
    refine pst_next ?_
    refine rr ?_
    refine sd (da 27 (↑d) (1)) ?_
    refine sp 1 [(14, .int .i64 (↑d + 1))] ?_
    refine ee ?_
    refine pst_back (5 - (d+1)) (by omega) ?_
    intro a w hS hD hW
    exact ⟨I32, d+1, y_Mt38, y_wt37, (Imm.le.trans hJ0 hle33), by omega, below_next hbl (by rw [← search_plain hfa hbl]; exact none_of h2), qwr44, qwh43, hS.sub (.consE 14 rfl rfl (.cons 1 rfl (.cons 6 rfl (.nil _)))), hD, (hW.perm ((List.Perm.swap _ _ _).trans (List.Perm.cons _ ((List.Perm.cons _ ((List.Perm.cons _ (List.perm_append_comm_assoc _ _ _)).trans (List.perm_middle.symm))).trans (List.perm_middle.symm))))).sub (List.Sublist.cons _ (List.Sublist.trans (List.Sublist.refl _) (List.sublist_append_right _ _))), rfl⟩
  ·
   have h1_r := h1
   have h1 := lss_f h1
   refine rexit 0 ?_
   refine (pst_exit_pass (pst_exit_pass (pst_exit_block ?_)))
   refine pst_next ?_
   refine rqr ?_
   refine sp 2 [(5, .int .i64 (11)), (4, .slice none 0 0)] ?_
   refine se ?_
   refine rret ?_
   have hfe := fewest_none (g := allP ps) (Y := Y) (fun m hm => hbl m (by omega))
   refine pst_ret2 (t := 4) (u := 5) ([]) (by kernel_rfl) rfl rfl (List.Sublist.cons _ (List.Sublist.cons _ (List.Sublist.trans (List.Sublist.refl _) (List.sublist_append_right _ _)))) (Imm.le.trans (Imm.le.trans (Imm.le.trans hle4 hle23) hle26) hJ0) ?_
   exact ⟨_, _, (congrArg (fun n => Value.tuple #[_, .int .i64 n]) (show (11 : Int) = errOf (fewestM (allP ps) Y) from (errOf_none hfe).symm)), rfl, ((show [] = (fewestM (allP ps) Y).getD [] from by rw [hfe]; rfl) ▸ Own.nil _ _ _)⟩

noncomputable def c_checkOrder (p : List Nat) : Code := sub (bodyOf Tryd.f60) p
theorem checkOrder_ct (I : Imm) (y : Value) (Y : Yard) (a : Value) (o : List Int) (y_f : IsYard I y Y) (a_f : IsInts I a o) : CtV Tryd.prog 60 #[y, a] I (.int .i64 (orderErr Y o)) := by
 obtain ⟨y1, y2, y3, y_e, y1_f, y2_f, y3_f⟩ := id y_f
 subst y_e
 obtain ⟨y1_a, y1_c, y1_b, y1_o, y1_e, y1_l, y1_m, y1_r⟩ := id y1_f
 subst y1_e
 obtain ⟨y2_a, y2_c, y2_b, y2_o, y2_e, y2_l, y2_m, y2_r⟩ := id y2_f
 subst y2_e
 obtain ⟨y3_a, y3_c, y3_b, y3_o, y3_vs, y3_e, y3_l, y3_m, y3_r, y3_w⟩ := id y3_f
 subst y3_e
 obtain ⟨a_a, a_c, a_b, a_o, a_e, a_l, a_m, a_r⟩ := id a_f
 subst a_e
 refine fn_of_run (fn := Tryd.f60) (args := [_, _]) (N := 35) Tryd.func60 rfl (by kernel_rfl) (Nat.le_of_ble_eq_true rfl) (fun F => ?_)
 show Run _ _ (c_checkOrder []) _ _ [(0, .agg #[.slice y1_a Y.cars.length y1_c, .slice y2_a Y.room.length y2_c, .slice y3_a Y.tracks.length y3_c]), (1, .slice a_a o.length a_c)] _ _
 refine rnm ?_
 refine rqr ?_
 refine sS (sb 2 26 #[.slice y1_a Y.cars.length y1_c, .slice y2_a Y.room.length y2_c, .slice y3_a Y.tracks.length y3_c] (fun b1 => ?_))
 refine sp 1 [(4, .int .i64 (0))] ?_
 refine se ?_
 refine rq ?_
 refine rqr ?_
 refine sd (dnb 8 0 0 b1 [.slice y1_a Y.cars.length y1_c, .slice y2_a Y.room.length y2_c, .slice y3_a Y.tracks.length y3_c]) ?_
 refine sd (dc 9 (fun I' hI => (Check_ct I' _ (Y) ((mkYard y1_f y2_f y3_f).mono hI) :))) ?_
 refine sp 1 [(5, .int .i64 ((checkErr Y)))] ?_
 refine sn ?_
 refine sp 2 [(11, .bool (!(cmp .eql ((checkErr Y)) (0))))] ?_
 refine se ?_
 refine rc 11 rfl (fun h1 => ?_) (fun h1 => ?_)
 ·
  have h1_r := h1
  have h1 := not_t h1
  have h1 := eql_f h1
  refine rqr ?_
  refine sp 2 [(4, .int .i64 ((checkErr Y)))] ?_
  refine se ?_
  refine rret ?_
  refine (pst_ret_pass ?_)
  refine pst_ret1 (t := 4) [] (by kernel_rfl) rfl (List.Sublist.cons _ (List.Sublist.refl _)) (Imm.le.refl _) ?_
  exact ⟨congrArg (Value.int .i64) ((orderErr_bad h1).symm), rfl⟩
 ·
  have h1_r := h1
  have h1 := not_f h1
  have h1 := eql_t h1
  refine rskip ?_
  refine pst_next ?_
  refine rq ?_
  refine rqr ?_
  refine sp 3 [(15, .int .i64 (0)), (14, .int .i64 (↑(o.length))), (13, .slice a_a o.length a_c)] ?_
  refine se ?_
  refine rb 0 ?_
  refine rl (fun mz a w => ∃ k : Nat, (k ≤ o.length) ∧ (orderErr Y o = goO Y.cars.length (o.take k) (o.drop k)) ∧ Slots 35 [(15, .int .i64 ↑k), (1, .slice a_a o.length a_c), (2, .pointer (some ⟨b1, 0, none⟩)), (13, .slice a_a o.length a_c), (14, .int .i64 (↑(o.length)))] a ∧ a.defers = [] ∧ St I ((b1, Obj.cells #[.slice y1_a Y.cars.length y1_c, .slice y2_a Y.room.length y2_c, .slice y3_a Y.tracks.length y3_c] 26 (0, 0)) :: F) w ∧ mz = o.length - k) ?_ ?_
  ·intro a w hS hD hW
   exact ⟨_, 0, Nat.zero_le _, orderErr_ok (by omega), hS.sub (.cons 15 rfl (.cons 1 rfl (.cons 2 rfl (.cons 13 rfl (.cons 14 rfl (.nil _)))))), hD, hW, rfl⟩
  ·rintro mz a w ⟨k, hk, hr, hS, hD, hW, rfl⟩
   refine run_at hS hD hW ?_
   clear hS hD hW a w
   refine rqr ?_
   refine sp 1 [(16, .bool (cmp .lss (↑k) (↑(o.length))))] ?_
   refine se ?_
   refine rq ?_
   refine rc 16 rfl (fun h2 => ?_) (fun h2 => ?_)
   ·
    have h2_r := h2
    have h2 := lss_t h2
    refine rskip ?_
    refine pst_next ?_
    refine rq ?_
    refine rb 1 ?_
    refine rqr ?_
    refine sp 1 [(17, .int .i64 (↑k))] ?_
    refine sd (di 18 1 (k) a_r.addr) ?_
    refine sd (dl 19 (ints_get a_r (k) (by omega))) ?_
    refine sp 2 [(7, .int .i64 (o.getD (k) 0)), (6, .int .i64 (↑k))] ?_
    refine se ?_
    refine rb 2 ?_
    refine rqr ?_
    refine sp 2 [(22, .pointer (some ⟨b1, 0, none⟩)), (21, .int .i64 (o.getD (k) 0))] ?_
    refine sd (dlb 23 0 0 b1 (.slice y1_a Y.cars.length y1_c)) ?_
    refine sp 1 [(24, .int .i64 (↑(Y.cars.length)))] ?_
    refine sd (dsb 25 (↑(Y.cars.length)) (1)) ?_
    refine sd (dc 26 (fun I' hI => (in_ct I' (o.getD (k) 0) (0) ((↑(Y.cars.length)) - 1) :))) ?_
    refine sp 2 [(20, .bool (!(inB (o.getD (k) 0) 0 ((↑(Y.cars.length)) - 1))))] ?_
    refine se ?_
    refine rc 20 rfl (fun h3 => ?_) (fun h3 => ?_)
    ·
     have h3_r := h3
     have h3 := not_t h3
     have h3_p := inB_f h3
     refine rqr ?_
     refine sp 1 [(4, .int .i64 (3))] ?_
     refine se ?_
     refine rret ?_
     refine (pst_ret_block (pst_ret_block (pst_ret_pass (pst_ret_pass (pst_ret_block (pst_ret_pass ?_))))))
     refine pst_ret1 (t := 4) [] (by kernel_rfl) rfl (List.Sublist.cons _ (List.Sublist.refl _)) (Imm.le.refl _) ?_
     exact ⟨congrArg (Value.int .i64) ((hr.trans (goO_unknown (by omega) h3)).symm), rfl⟩
    ·
     have h3_r := h3
     have h3 := not_f h3
     have h3_p := inB_t h3
     refine rqr ?_
     refine sp 2 [(30, .int .i64 (↑k)), (29, .slice a_a o.length a_c)] ?_
     have s3_f := a_f.cutHi (k) (by omega)
     obtain ⟨s3_a, s3_c, s3_b, s3_o, s3_e, s3_l, s3_m, s3_r⟩ := id s3_f
     rw [s3_e] at s3_f
     refine sd (det_eq (det_slice (x := (.tmp 29)) (lo := none) (hi := (some (.tmp 30))) (T := 22) (e := 3) (sz := 1) (0) (k) (d := 31) (ty := 22) (gd := none) (by kernel_rfl) rfl (by kernel_rfl) (by kernel_rfl) rfl (.inl ⟨rfl, rfl⟩) (.inr ⟨_, .i64, rfl, rfl⟩) (by omega) (by omega)) s3_e) ?_
     refine sp 1 [(32, .int .i64 (o.getD (k) 0))] ?_
     refine sd (dc 33 (fun I' hI => (Contains_ct I' _ _ (o.getD (k) 0) (s3_f.mono hI) :))) ?_
     refine sp 1 [(28, .bool (decide ((o.getD (k) 0) ∈ (o.take (k)))))] ?_
     refine se ?_
     refine rc 28 rfl (fun h4 => ?_) (fun h4 => ?_)
     ·
      have h4_r := h4
      have h4 := dec_t h4
      refine rqr ?_
      refine sp 1 [(4, .int .i64 (4))] ?_
      refine se ?_
      refine rret ?_
      refine (pst_ret_block (pst_ret_block (pst_ret_pass (pst_ret_pass (pst_ret_block (pst_ret_pass ?_))))))
      refine pst_ret1 (t := 4) [] (by kernel_rfl) rfl (List.Sublist.cons _ (List.Sublist.refl _)) (Imm.le.refl _) ?_
      exact ⟨congrArg (Value.int .i64) ((hr.trans (goO_twice (by omega) h3 h4)).symm), rfl⟩
     ·
      have h4_r := h4
      have h4 := dec_f h4
      refine rskip ?_
      refine pst_normal_block ?_
      refine pst_normal_block ?_
      refine pst_next ?_
      refine rr ?_
      refine sd (da 34 (↑k) (1)) ?_
      refine sp 1 [(15, .int .i64 (↑k + 1))] ?_
      refine ee ?_
      refine pst_back (o.length - (k+1)) (by omega) ?_
      intro a w hS hD hW
      exact ⟨k+1, by omega, hr.trans (goO_next (by omega) h3 h4), hS.sub (.consE 15 rfl rfl (.cons 1 rfl (.cons 2 rfl (.cons 13 rfl (.cons 14 rfl (.nil _)))))), hD, hW, rfl⟩
   ·
    have h2_r := h2
    have h2 := lss_f h2
    refine rexit 0 ?_
    refine (pst_exit_pass (pst_exit_pass (pst_exit_block ?_)))
    refine pst_next ?_
    refine rqr ?_
    refine sp 1 [(4, .int .i64 (0))] ?_
    refine se ?_
    refine rret ?_
    refine pst_ret1 (t := 4) [] (by kernel_rfl) rfl (List.Sublist.cons _ (List.Sublist.refl _)) (Imm.le.refl _) ?_
    exact ⟨congrArg (Value.int .i64) ((hr.trans (goO_done (by omega))).symm), rfl⟩

noncomputable def c_Fewest (p : List Nat) : Code := sub (bodyOf Tryd.f28) p
theorem Fewest_ct (I : Imm) (y : Value) (Y : Yard) (a : Value) (o : List Int) (y_f : IsYard I y Y) (a_f : IsInts I a o) (hG : Glob I) : Ct Tryd.prog 28 #[y, a] I ([]) (fun v I' M' => ∃ u0 : Value, ∃ Ms0 : Seg, v = .tuple #[u0, .int .i64 ((fewestE Y o).2)] ∧ M' = Ms0 ∧ Own 54 3 shiftCell u0 ((fewestE Y o).1) Ms0) := by
 obtain ⟨y1, y2, y3, y_e, y1_f, y2_f, y3_f⟩ := id y_f
 subst y_e
 obtain ⟨y1_a, y1_c, y1_b, y1_o, y1_e, y1_l, y1_m, y1_r⟩ := id y1_f
 subst y1_e
 obtain ⟨y2_a, y2_c, y2_b, y2_o, y2_e, y2_l, y2_m, y2_r⟩ := id y2_f
 subst y2_e
 obtain ⟨y3_a, y3_c, y3_b, y3_o, y3_vs, y3_e, y3_l, y3_m, y3_r, y3_w⟩ := id y3_f
 subst y3_e
 obtain ⟨a_a, a_c, a_b, a_o, a_e, a_l, a_m, a_r⟩ := id a_f
 subst a_e
 refine fn_of_run (fn := Tryd.f28) (args := [_, _]) (N := 20) Tryd.func28 rfl (by kernel_rfl) (Nat.le_of_ble_eq_true rfl) (fun F => ?_)
 show Run _ _ (c_Fewest []) _ _ [(0, .agg #[.slice y1_a Y.cars.length y1_c, .slice y2_a Y.room.length y2_c, .slice y3_a Y.tracks.length y3_c]), (1, .slice a_a o.length a_c)] _ _
 refine rnm ?_
 refine rqr ?_
 refine sS (sb 2 26 #[.slice y1_a Y.cars.length y1_c, .slice y2_a Y.room.length y2_c, .slice y3_a Y.tracks.length y3_c] (fun b1 => ?_))
 refine sp 2 [(5, .int .i64 (0)), (4, .slice none 0 0)] ?_
 refine se ?_
 refine rq ?_
 refine rqr ?_
 refine sd (dnb 7 0 0 b1 [.slice y1_a Y.cars.length y1_c, .slice y2_a Y.room.length y2_c, .slice y3_a Y.tracks.length y3_c]) ?_
 refine sp 1 [(8, .slice a_a o.length a_c)] ?_
 refine sd (dc 9 (fun I' hI => (checkOrder_ct I' _ (Y) _ _ ((mkYard y1_f y2_f y3_f).mono hI) (a_f.mono hI) :))) ?_
 refine sp 1 [(6, .int .i64 ((orderErr Y o)))] ?_
 refine sn ?_
 refine sp 2 [(11, .bool (!(cmp .eql ((orderErr Y o)) (0))))] ?_
 refine se ?_
 refine rc 11 rfl (fun h1 => ?_) (fun h1 => ?_)
 ·
  have h1_r := h1
  have h1 := not_t h1
  have h1 := eql_f h1
  refine rqr ?_
  refine sp 3 [(5, .int .i64 ((orderErr Y o))), (4, .slice none 0 0)] ?_
  refine se ?_
  refine rret ?_
  refine (pst_ret_pass ?_)
  refine pst_ret2 (t := 4) (u := 5) ([]) (by kernel_rfl) rfl rfl (List.Sublist.cons _ (List.Sublist.refl _)) (Imm.le.refl _) ?_
  exact ⟨_, _, (congrArg (fun n => Value.tuple #[_, .int .i64 n]) (show orderErr Y o = (fewestE Y o).2 from (congrArg Prod.snd (fewestE_bad h1)).symm)), rfl, ((show [] = (fewestE Y o).1 from (congrArg Prod.fst (fewestE_bad h1)).symm) ▸ Own.nil _ _ _)⟩
 ·
  have h1_r := h1
  have h1 := not_f h1
  have h1 := eql_t h1
  have ho0 : orderErr Y o = 0 := by omega
  refine rskip ?_
  refine pst_next ?_
  refine rq ?_
  refine rd 7 [(0, true), (1, true), (2, false), (3, false), (4, false), (5, true), (6, true)] ((b1, Obj.cells #[.slice y1_a Y.cars.length y1_c, .slice y2_a Y.room.length y2_c, .slice y3_a Y.tracks.length y3_c] 26 (0, 0)) :: []) (F) ?_
  refine ofp_det (dnb 13 0 0 b1 [.slice y1_a Y.cars.length y1_c, .slice y2_a Y.room.length y2_c, .slice y3_a Y.tracks.length y3_c]) ?_
  refine ox 1 [(14, .slice a_a o.length a_c)] ?_
  have hct12 := ordered_ct I _ _ a_f
  refine ofp_stp (sc (some 15) (F := ((b1, Obj.cells #[.slice y1_a Y.cars.length y1_c, .slice y2_a Y.room.length y2_c, .slice y3_a Y.tracks.length y3_c] 26 (0, 0)) :: F)) (hct12 :) (List.Perm.refl _) (fun rv10 I3 rm11 hle4 hp5 => ?_))
  obtain ⟨b8, hv6, hm7, qp9⟩ := hp5
  rw [hv6, hm7]; clear hv6 hm7
  replace y_f := y_f.mono hle4
  replace y1_f := y1_f.mono hle4
  replace y1_r := y1_r.mono hle4
  replace y2_f := y2_f.mono hle4
  replace y2_r := y2_r.mono hle4
  replace y3_f := y3_f.mono hle4
  replace y3_r := y3_r.mono hle4
  replace y3_w := fun i hi => (y3_w i hi).mono hle4
  replace a_f := a_f.mono hle4
  replace a_r := a_r.mono hle4
  replace hG := hG.mono hle4
  refine ofp_settle (S' := (F)) (List.Perm.refl _) ?_
  show OFP _ _ _ _ _ _ ((15, .func (.func 76) #[] #[.pointer (some ⟨b8, 0, none⟩)]) :: _) _ _
  refine ofp_stpH (sbs 16 104 1 #[.func (.func 76) #[] #[.pointer (some ⟨b8, 0, none⟩)]] (fun b13 => ?_))
  refine hk_mem (M' := ((b1, Obj.cells #[.slice y1_a Y.cars.length y1_c, .slice y2_a Y.room.length y2_c, .slice y3_a Y.tracks.length y3_c] 26 (0, 0)) :: ([(b13, Obj.cells #[.func (.func 76) #[] #[.pointer (some ⟨b8, 0, none⟩)]] 104 (0, 0))] ++ F))) (fun w h => h.perm (List.Perm.swap _ _ _)) ?_
  have ho15 : Own 104 1 valCell (.slice (some ⟨b13, 0, none⟩) 1 1) ([(.func (.func 76) #[] #[.pointer (some ⟨b8, 0, none⟩)] : Value)] : List Value) [(b13, Obj.cells #[.func (.func 76) #[] #[.pointer (some ⟨b8, 0, none⟩)]] 104 (0, 0))] := Own.lit rfl rfl
  refine hk_freeze (B := ((b1, Obj.cells #[.slice y1_a Y.cars.length y1_c, .slice y2_a Y.room.length y2_c, .slice y3_a Y.tracks.length y3_c] 26 (0, 0)) :: F)) undef ho15 (by first | omega | (simp only [List.length_set, List.length_cons, List.length_nil, List.length_append, List.length_take, List.length_drop] <;> omega) | decide) (List.perm_middle.symm) (List.Perm.refl _) (fun I16 hle17 fz18_f => ?_)
  replace y_f := y_f.mono hle17
  replace y1_f := y1_f.mono hle17
  replace y1_r := y1_r.mono hle17
  replace y2_f := y2_f.mono hle17
  replace y2_r := y2_r.mono hle17
  replace y3_f := y3_f.mono hle17
  replace y3_r := y3_r.mono hle17
  replace y3_w := fun i hi => (y3_w i hi).mono hle17
  replace a_f := a_f.mono hle17
  replace a_r := a_r.mono hle17
  replace hG := hG.mono hle17
  replace qp9 := hle17.blk _ _ qp9
  obtain ⟨fz18_a, fz18_c, fz18_b, fz18_o, fz18_e, fz18_l, fz18_m, fz18_r⟩ := id fz18_f
  cases fz18_e
  refine hk_done ?_
  refine ofp_settle (S' := (F)) (List.Perm.refl _) ?_
  have hvl := orderErr_valid ho0
  have hct29 := fewest_ct I16 _ (Y) _ _ ([orderedP o]) (mkYard y1_f y2_f y3_f) fz18_f (by first | exact hG | exact hG.mono hI) (by exact goals_ordered (by assumption) (by assumption) (Kin.pos hvl.fine (Kin.refl Y))) (by exact hvl)
  refine ofp_stp (sc (some 17) (F := ((b1, Obj.cells #[.slice y1_a Y.cars.length y1_c, .slice y2_a Y.room.length y2_c, .slice y3_a Y.tracks.length y3_c] 26 (0, 0)) :: F)) (hct29 :) (List.Perm.refl _) (fun rv27 I19 rm28 hle20 hp21 => ?_))
  obtain ⟨u024, Ms025, hv22, hm23, qh26⟩ := hp21
  rw [hv22, hm23]; clear hv22 hm23
  replace qp9 := hle20.blk _ _ qp9
  obtain ⟨u024_a, u024_c, u024_e, u024_l⟩ := qh26.shape
  subst u024_e
  refine ofp_settle (S' := ((Ms025 ++ F))) List.perm_middle ?_
  show OFP _ _ _ _ _ _ ((17, .tuple #[.slice u024_a ((fewestM (allP ([orderedP o])) Y).getD []).length u024_c, .int .i64 ((errOf (fewestM (allP ([orderedP o])) Y)))]) :: _) _ _
  refine ox 2 [(19, .int .i64 ((errOf (fewestM (allP ([orderedP o])) Y)))), (18, .slice u024_a ((fewestM (allP ([orderedP o])) Y).getD []).length u024_c)] ?_
  refine ofp_end ?_
  refine nm ?_
  refine nm ?_
  refine sp 2 [(5, .int .i64 ((errOf (fewestM (allP ([orderedP o])) Y)))), (4, .slice u024_a ((fewestM (allP ([orderedP o])) Y).getD []).length u024_c)] ?_
  refine se ?_
  refine rret ?_
  refine ppm (M' := ((Ms025 ++ (b1, Obj.cells #[.slice y1_a Y.cars.length y1_c, .slice y2_a Y.room.length y2_c, .slice y3_a Y.tracks.length y3_c] 26 (0, 0)) :: F))) (List.perm_middle.symm) ?_
  refine pst_ret2 (t := 4) (u := 5) (Ms025) (by kernel_rfl) rfl rfl (List.Sublist.append_left (List.Sublist.cons _ (List.Sublist.refl _)) _) (Imm.le.trans (Imm.le.trans hle4 hle17) hle20) ?_
  exact ⟨_, _, (congrArg (fun n => Value.tuple #[_, .int .i64 n]) (show errOf (fewestM (allP [orderedP o]) Y) = (fewestE Y o).2 from (congrArg Prod.snd (fewestE_ok ho0)).symm)), rfl, ((show (fewestM (allP [orderedP o]) Y).getD [] = (fewestE Y o).1 from (congrArg Prod.fst (fewestE_ok ho0)).symm) ▸ qh26)⟩

end Go.Proofs.YtcaocbhbofejnaaDoor
namespace Go.Proofs.YtcaocbhbofejnaaDoor
open Go Go.Sl Go.Sh
set_option maxRecDepth 100000
noncomputable def c_Lacks (p : List Nat) : Code := sub (bodyOf Tryd.f45) p
theorem Lacks_ct (I : Imm) (y : Value) (Y : Yard) (a : Value) (o : List Int) (y_f : IsYard I y Y) (a_f : IsInts I a o) (hG : Glob I) : Ct Tryd.prog 45 #[y, a] I ([]) (fun v I' M' => ∃ u0 : Value, ∃ Ms0 : Seg, v = .tuple #[u0, .int .i64 ((lacksE Y o).2)] ∧ M' = Ms0 ∧ Own 3 1 intCell u0 ((lacksE Y o).1) Ms0) := by
 obtain ⟨y1, y2, y3, y_e, y1_f, y2_f, y3_f⟩ := id y_f
 subst y_e
 obtain ⟨y1_a, y1_c, y1_b, y1_o, y1_e, y1_l, y1_m, y1_r⟩ := id y1_f
 subst y1_e
 obtain ⟨y2_a, y2_c, y2_b, y2_o, y2_e, y2_l, y2_m, y2_r⟩ := id y2_f
 subst y2_e
 obtain ⟨y3_a, y3_c, y3_b, y3_o, y3_vs, y3_e, y3_l, y3_m, y3_r, y3_w⟩ := id y3_f
 subst y3_e
 obtain ⟨a_a, a_c, a_b, a_o, a_e, a_l, a_m, a_r⟩ := id a_f
 subst a_e
 refine fn_of_run (fn := Tryd.f45) (args := [_, _]) (N := 53) Tryd.func45 rfl (by kernel_rfl) (Nat.le_of_ble_eq_true rfl) (fun F => ?_)
 show Run _ _ (c_Lacks []) _ _ [(0, .agg #[.slice y1_a Y.cars.length y1_c, .slice y2_a Y.room.length y2_c, .slice y3_a Y.tracks.length y3_c]), (1, .slice a_a o.length a_c)] _ _
 refine rnm ?_
 refine rqr ?_
 refine sS (sb 2 26 #[.slice y1_a Y.cars.length y1_c, .slice y2_a Y.room.length y2_c, .slice y3_a Y.tracks.length y3_c] (fun b1 => ?_))
 refine sp 2 [(5, .int .i64 (0)), (4, .slice none 0 0)] ?_
 refine sn ?_
 refine sd (dnb 14 0 0 b1 [.slice y1_a Y.cars.length y1_c, .slice y2_a Y.room.length y2_c, .slice y3_a Y.tracks.length y3_c]) ?_
 refine sp 1 [(15, .slice a_a o.length a_c)] ?_
 have hct13 := Fewest_ct I _ (Y) _ _ (mkYard y1_f y2_f y3_f) a_f (by first | exact hG | exact hG.mono hI)
 refine sS (sc (some 16) (F := ((b1, Obj.cells #[.slice y1_a Y.cars.length y1_c, .slice y2_a Y.room.length y2_c, .slice y3_a Y.tracks.length y3_c] 26 (0, 0)) :: F)) (hct13 :) (.refl _) (fun rv11 I3 rm12 hle4 hp5 => ?_))
 obtain ⟨u08, Ms09, hv6, hm7, qh10⟩ := hp5
 rw [hv6, hm7]; clear hv6 hm7
 replace y_f := y_f.mono hle4
 replace y1_f := y1_f.mono hle4
 replace y1_r := y1_r.mono hle4
 replace y2_f := y2_f.mono hle4
 replace y2_r := y2_r.mono hle4
 replace y3_f := y3_f.mono hle4
 replace y3_r := y3_r.mono hle4
 replace y3_w := fun i hi => (y3_w i hi).mono hle4
 replace a_f := a_f.mono hle4
 replace a_r := a_r.mono hle4
 replace hG := hG.mono hle4
 obtain ⟨u08_a, u08_c, u08_e, u08_l⟩ := qh10.shape
 subst u08_e
 refine pm (M' := ((b1, Obj.cells #[.slice y1_a Y.cars.length y1_c, .slice y2_a Y.room.length y2_c, .slice y3_a Y.tracks.length y3_c] 26 (0, 0)) :: (Ms09 ++ F))) List.perm_middle ?_
 show Seq _ _ _ _ _ _ ((16, .tuple #[.slice u08_a ((fewestE Y o).1).length u08_c, .int .i64 (((fewestE Y o).2))]) :: _) _ _
 refine sp 5 [(7, .int .i64 (((fewestE Y o).2)))] ?_
 refine se ?_
 refine rq ?_
 refine rqr ?_
 refine sp 2 [(20, .bool (!(cmp .eql (((fewestE Y o).2)) (11))))] ?_
 refine se ?_
 refine rc 20 rfl (fun h1 => ?_) (fun h1 => ?_)
 ·
  have h1_r := h1
  have h1 := not_t h1
  have h1 := eql_f h1
  refine rqr ?_
  refine sp 3 [(5, .int .i64 (((fewestE Y o).2))), (4, .slice none 0 0)] ?_
  refine se ?_
  refine rret ?_
  refine (pst_ret_pass ?_)
  have hlk := lacksE_bad h1
  refine pst_ret2 (t := 4) (u := 5) ([]) (by kernel_rfl) rfl rfl (List.Sublist.cons _ (List.Sublist.trans (List.Sublist.refl _) (List.sublist_append_right _ _))) hle4 ?_
  exact ⟨_, _, (congrArg (fun n => Value.tuple #[_, .int .i64 n]) (show ((fewestE Y o).2 : Int) = (lacksE Y o).2 from by rw [hlk])), rfl, ((show [] = (lacksE Y o).1 from by rw [hlk]) ▸ Own.nil _ _ _)⟩
 ·
  have h1_r := h1
  have h1 := not_f h1
  have h1 := eql_t h1
  have h11 : (fewestE Y o).2 = 11 := h1
  refine rskip ?_
  refine pst_next ?_
  refine rqr ?_
  have ho0 := fewest_11 h11
  have hvl := orderErr_valid ho0
  have hfa := hvl.fine; have hgood := hvl.good; have hl1 := hvl.lens
  have hr1 := hfa.room1; have hr3 := hfa.room3
  refine sp 1 [(8, .slice none 0 0)] ?_
  refine se ?_
  refine rq ?_
  refine rqr ?_
  refine sp 1 [(9, .int .i64 (1))] ?_
  refine se ?_
  refine rb 0 ?_
  refine rl (fun mz a w => ∃ J0 : Imm, ∃ i : Nat, ∃ out : List Int, ∃ ov0_8 : Value, ∃ oM0_8 : Seg, (I3.le J0) ∧ (1 ≤ i) ∧ (i ≤ Y.room.length) ∧ (lacksFrom Y o 1 = out ++ lacksFrom Y o i) ∧ (Own 3 1 intCell ov0_8 (out) oM0_8) ∧ Slots 53 [(8, ov0_8), (9, .int .i64 (↑i)), (1, .slice a_a o.length a_c), (2, .pointer (some ⟨b1, 0, none⟩)), (4, .slice none 0 0), (5, .int .i64 (0))] a ∧ a.defers = [] ∧ St J0 ((b1, Obj.cells #[.slice y1_a Y.cars.length y1_c, .slice y2_a Y.room.length y2_c, .slice y3_a Y.tracks.length y3_c] 26 (0, 0)) :: (Ms09 ++ (oM0_8 ++ F))) w ∧ mz = Y.room.length - i) ?_ ?_
  ·intro a w hS hD hW
   exact ⟨_, I3, 1, [], (.slice none 0 0), [], Imm.le.refl _, Nat.le_refl _, by omega, rfl, (Own.nil _ _ _), hS.sub (.cons 8 rfl (.cons 9 rfl (.cons 1 rfl (.cons 2 rfl (.cons 4 rfl (.cons 5 rfl (.nil _))))))), hD, hW, rfl⟩
  ·rintro mz a w ⟨J0, i, out, ov0_8, oM0_8, hJ0, hi1, hi, hr, oh0_8, hS, hD, hW, rfl⟩
   refine run_at hS hD hW ?_
   clear hS hD hW a w
   replace y_f := y_f.mono hJ0
   replace y1_f := y1_f.mono hJ0
   replace y1_r := y1_r.mono hJ0
   replace y2_f := y2_f.mono hJ0
   replace y2_r := y2_r.mono hJ0
   replace y3_f := y3_f.mono hJ0
   replace y3_r := y3_r.mono hJ0
   replace y3_w := fun i hi => (y3_w i hi).mono hJ0
   replace a_f := a_f.mono hJ0
   replace a_r := a_r.mono hJ0
   replace hG := hG.mono hJ0
   obtain ⟨ov0_8_a, ov0_8_c, ov0_8_e, ov0_8_l⟩ := oh0_8.shape; subst ov0_8_e
   refine rq ?_
   refine rqr ?_
   refine sp 2 [(23, .pointer (some ⟨b1, 1, none⟩)), (22, .int .i64 (↑i))] ?_
   refine sd (dlb 24 0 1 b1 (.slice y2_a Y.room.length y2_c)) ?_
   refine sp 2 [(26, .bool (cmp .lss (↑i) (↑(Y.room.length))))] ?_
   refine se ?_
   refine rc 26 rfl (fun h2 => ?_) (fun h2 => ?_)
   ·
    have h2_r := h2
    have h2 := lss_t h2
    refine rskip ?_
    refine pst_next ?_
    refine rq ?_
    refine rb 1 ?_
    refine rqr ?_
    refine sd (dnb 29 0 0 b1 [.slice y1_a Y.cars.length y1_c, .slice y2_a Y.room.length y2_c, .slice y3_a Y.tracks.length y3_c]) ?_
    have hct32 := copied_ct J0 _ (Y) (mkYard y1_f y2_f y3_f) (by omega) (by omega) (by omega) (by exact hgood.le)
    refine sS (sc (some 30) (F := ((b1, Obj.cells #[.slice y1_a Y.cars.length y1_c, .slice y2_a Y.room.length y2_c, .slice y3_a Y.tracks.length y3_c] 26 (0, 0)) :: (Ms09 ++ (oM0_8 ++ F)))) (hct32 :) (.refl _) (fun rv30 I14 rm31 hle15 hp16 => ?_))
    obtain ⟨u_019, Ms_020, u_121, Ms_122, u_223, ws_224, Ms_225, hv17, hm18, qh26, qh27, qh28, qr29⟩ := hp16
    rw [hv17, hm18]; clear hv17 hm18
    replace y_f := y_f.mono hle15
    replace y1_f := y1_f.mono hle15
    replace y1_r := y1_r.mono hle15
    replace y2_f := y2_f.mono hle15
    replace y2_r := y2_r.mono hle15
    replace y3_f := y3_f.mono hle15
    replace y3_r := y3_r.mono hle15
    replace y3_w := fun i hi => (y3_w i hi).mono hle15
    replace a_f := a_f.mono hle15
    replace a_r := a_r.mono hle15
    replace hG := hG.mono hle15
    obtain ⟨u_019_a, u_019_c, u_019_e, u_019_l⟩ := qh26.shape
    subst u_019_e
    obtain ⟨u_121_a, u_121_c, u_121_e, u_121_l⟩ := qh27.shape
    subst u_121_e
    obtain ⟨u_223_a, u_223_c, u_223_e, u_223_l⟩ := qh28.shape
    subst u_223_e
    have qr29_len := qr29.1
    try simp only [List.length_set, List.length_append, List.length_cons, List.length_nil, List.length_take] at qr29_len
    refine seq_mem (M' := ((Ms_020 ++ (Ms_122 ++ (Ms_225 ++ (b1, Obj.cells #[.slice y1_a Y.cars.length y1_c, .slice y2_a Y.room.length y2_c, .slice y3_a Y.tracks.length y3_c] 26 (0, 0)) :: (Ms09 ++ (oM0_8 ++ F))))))) (fun w h => by simpa only [List.append_assoc, List.cons_append, List.nil_append] using h) ?_
    refine pm (M' := ((b1, Obj.cells #[.slice y1_a Y.cars.length y1_c, .slice y2_a Y.room.length y2_c, .slice y3_a Y.tracks.length y3_c] 26 (0, 0)) :: (Ms_020 ++ (Ms_122 ++ (Ms_225 ++ (Ms09 ++ (oM0_8 ++ F))))))) ((List.Perm.append_left _ ((List.Perm.append_left _ List.perm_middle).trans List.perm_middle)).trans List.perm_middle) ?_
    show Seq _ _ _ _ _ _ ((30, .agg #[.slice u_019_a Y.cars.length u_019_c, .slice u_121_a Y.room.length u_121_c, .slice u_223_a ws_224.length u_223_c]) :: _) _ _
    refine sS (sal 10 26 #[.slice none 0 0, .slice none 0 0, .slice none 0 0] (fun b33 => ?_))
    refine sS (ss 0 0 b33 [.slice u_019_a Y.cars.length u_019_c, .slice u_121_a Y.room.length u_121_c, .slice u_223_a ws_224.length u_223_c] [.slice u_019_a Y.cars.length u_019_c, .slice u_121_a Y.room.length u_121_c, .slice u_223_a ws_224.length u_223_c] (_ :: _ :: _) (cs := [_, _, _]) rfl rfl ?_)
    refine sn ?_
    refine sp 1 [(31, .pointer (some ⟨b33, 1, none⟩))] ?_
    refine sd (dlb 32 0 1 b33 (.slice u_121_a Y.room.length u_121_c)) ?_
    refine sp 1 [(33, .int .i64 (↑i))] ?_
    obtain ⟨ob35, orr36⟩ := qh27.row 0
    refine sd (di 34 1 (i) orr36.addr) ?_
    refine sS (stp_storeOwn (T := 3) (x := (.tmp 34)) (y := (.const (.int .i64 20))) (rc := fun i f => intCell ((Y.room).getD i 0) f) 0 (i) 0 (20) (ty := 0) (gd := none) (by kernel_rfl) rfl qh27 orr36 (by omega) (by decide) rfl rfl (by kernel_rfl) rfl rfl (by intro f hf; match f, hf with | 0, _ => rfl) ((List.Perm.cons _ ((List.Perm.cons _ (List.perm_append_comm_assoc _ _ _)).trans (List.perm_middle.symm))).trans (List.perm_middle.symm)) (fun Ms37 ho37 => ?_))
    refine pm (M' := ((b33, Obj.cells #[.slice u_019_a Y.cars.length u_019_c, .slice u_121_a Y.room.length u_121_c, .slice u_223_a ws_224.length u_223_c] 26 (0, 0)) :: (b1, Obj.cells #[.slice y1_a Y.cars.length y1_c, .slice y2_a Y.room.length y2_c, .slice y3_a Y.tracks.length y3_c] 26 (0, 0)) :: (Ms37 ++ (Ms_020 ++ (Ms_225 ++ (Ms09 ++ (oM0_8 ++ F))))))) (List.perm_middle.trans (List.Perm.cons _ List.perm_middle)) ?_
    refine se ?_
    refine rq ?_
    refine rn_freeze (B := ((b33, Obj.cells #[.slice u_019_a Y.cars.length u_019_c, .slice u_121_a Y.room.length u_121_c, .slice u_223_a ws_224.length u_223_c] 26 (0, 0)) :: (b1, Obj.cells #[.slice y1_a Y.cars.length y1_c, .slice y2_a Y.room.length y2_c, .slice y3_a Y.tracks.length y3_c] 26 (0, 0)) :: (Ms37 ++ (Ms_225 ++ (Ms09 ++ (oM0_8 ++ F)))))) noCar qh26 (by first | omega | (simp only [List.length_set, List.length_cons, List.length_nil, List.length_append, List.length_take, List.length_drop] <;> omega) | decide) ((List.Perm.cons _ ((List.Perm.cons _ (List.perm_append_comm_assoc _ _ _)).trans (List.perm_middle.symm))).trans (List.perm_middle.symm)) (List.Perm.refl _) (fun I38 hle39 fz40_f => ?_)
    replace y_f := y_f.mono hle39
    replace y1_f := y1_f.mono hle39
    replace y1_r := y1_r.mono hle39
    replace y2_f := y2_f.mono hle39
    replace y2_r := y2_r.mono hle39
    replace y3_f := y3_f.mono hle39
    replace y3_r := y3_r.mono hle39
    replace y3_w := fun i hi => (y3_w i hi).mono hle39
    replace a_f := a_f.mono hle39
    replace a_r := a_r.mono hle39
    replace hG := hG.mono hle39
    replace qr29 := qr29.mono hle39
    obtain ⟨fz40_a, fz40_c, fz40_b, fz40_o, fz40_e, fz40_l, fz40_m, fz40_r⟩ := id fz40_f
    cases fz40_e
    refine rn_freeze (B := ((b33, Obj.cells #[.slice u_019_a Y.cars.length u_019_c, .slice u_121_a Y.room.length u_121_c, .slice u_223_a ws_224.length u_223_c] 26 (0, 0)) :: (b1, Obj.cells #[.slice y1_a Y.cars.length y1_c, .slice y2_a Y.room.length y2_c, .slice y3_a Y.tracks.length y3_c] 26 (0, 0)) :: (Ms_225 ++ (Ms09 ++ (oM0_8 ++ F))))) 0 ho37 (by first | omega | (simp only [List.length_set, List.length_cons, List.length_nil, List.length_append, List.length_take, List.length_drop] <;> omega) | decide) ((List.Perm.cons _ (List.perm_middle.symm)).trans (List.perm_middle.symm)) (List.Perm.refl _) (fun I41 hle42 fz43_f => ?_)
    replace y_f := y_f.mono hle42
    replace y1_f := y1_f.mono hle42
    replace y1_r := y1_r.mono hle42
    replace y2_f := y2_f.mono hle42
    replace y2_r := y2_r.mono hle42
    replace y3_f := y3_f.mono hle42
    replace y3_r := y3_r.mono hle42
    replace y3_w := fun i hi => (y3_w i hi).mono hle42
    replace a_f := a_f.mono hle42
    replace a_r := a_r.mono hle42
    replace hG := hG.mono hle42
    replace qr29 := qr29.mono hle42
    replace fz40_f := fz40_f.mono hle42
    replace fz40_r := fz40_r.mono hle42
    obtain ⟨fz43_a, fz43_c, fz43_b, fz43_o, fz43_e, fz43_l, fz43_m, fz43_r⟩ := id fz43_f
    simp only [List.length_set] at fz43_e fz43_l fz43_m fz43_r
    first | cases fz43_e | (injection fz43_e with fz43_e1 fz43_e2 fz43_e3; subst fz43_e1; subst fz43_e3; try rw [← fz43_e2] at fz43_f)
    refine rn_freeze (B := ((b33, Obj.cells #[.slice u_019_a Y.cars.length u_019_c, .slice u_121_a Y.room.length u_121_c, .slice u_223_a ws_224.length u_223_c] 26 (0, 0)) :: (b1, Obj.cells #[.slice y1_a Y.cars.length y1_c, .slice y2_a Y.room.length y2_c, .slice y3_a Y.tracks.length y3_c] 26 (0, 0)) :: (Ms09 ++ (oM0_8 ++ F)))) undef qh28 (by first | omega | (simp only [List.length_set, List.length_cons, List.length_nil, List.length_append, List.length_take, List.length_drop] <;> omega) | decide) ((List.Perm.cons _ (List.perm_middle.symm)).trans (List.perm_middle.symm)) (List.Perm.refl _) (fun I44 hle45 fz46_f => ?_)
    replace y_f := y_f.mono hle45
    replace y1_f := y1_f.mono hle45
    replace y1_r := y1_r.mono hle45
    replace y2_f := y2_f.mono hle45
    replace y2_r := y2_r.mono hle45
    replace y3_f := y3_f.mono hle45
    replace y3_r := y3_r.mono hle45
    replace y3_w := fun i hi => (y3_w i hi).mono hle45
    replace a_f := a_f.mono hle45
    replace a_r := a_r.mono hle45
    replace hG := hG.mono hle45
    replace qr29 := qr29.mono hle45
    replace fz40_f := fz40_f.mono hle45
    replace fz40_r := fz40_r.mono hle45
    replace fz43_f := fz43_f.mono hle45
    replace fz43_r := fz43_r.mono hle45
    obtain ⟨fz46_a, fz46_c, fz46_b, fz46_o, fz46_e, fz46_l, fz46_m, fz46_r⟩ := id fz46_f
    cases fz46_e
    have fr47_f := qr29.isRows fz46_f
    have fr47_len := qr29.1
    obtain ⟨fr47_a, fr47_c, fr47_b, fr47_o, fr47_vs, fr47_e, fr47_l, fr47_m, fr47_r, fr47_w⟩ := id fr47_f
    injection fr47_e with fr47_e1 fr47_e2 fr47_e3; subst fr47_e1; subst fr47_e3
    refine rd 9 [(0, true), (1, true), (2, false), (3, false), (4, false), (5, true), (6, true), (7, true), (8, true)] ((b33, Obj.cells #[.slice u_019_a Y.cars.length u_019_c, .slice u_121_a Y.room.length u_121_c, .slice u_223_a ws_224.length u_223_c] 26 (0, 0)) :: (b1, Obj.cells #[.slice y1_a Y.cars.length y1_c, .slice y2_a Y.room.length y2_c, .slice y3_a Y.tracks.length y3_c] 26 (0, 0)) :: []) ((Ms09 ++ (oM0_8 ++ F))) ?_
    refine ofp_det (dnb 36 0 0 b33 [.slice u_019_a Y.cars.length u_019_c, .slice u_121_a Y.room.length u_121_c, .slice u_223_a ws_224.length u_223_c]) ?_
    refine ox 1 [(37, .slice a_a o.length a_c)] ?_
    have hct57 := ordered_ct I44 _ _ a_f
    refine ofp_stp (sc (some 38) (F := ((b33, Obj.cells #[.slice u_019_a Y.cars.length u_019_c, .slice u_121_a Y.room.length u_121_c, .slice u_223_a ws_224.length u_223_c] 26 (0, 0)) :: (b1, Obj.cells #[.slice y1_a Y.cars.length y1_c, .slice y2_a Y.room.length y2_c, .slice y3_a Y.tracks.length y3_c] 26 (0, 0)) :: (Ms09 ++ (oM0_8 ++ F)))) (hct57 :) (List.Perm.refl _) (fun rv55 I48 rm56 hle49 hp50 => ?_))
    obtain ⟨b53, hv51, hm52, qp54⟩ := hp50
    rw [hv51, hm52]; clear hv51 hm52
    replace y_f := y_f.mono hle49
    replace y1_f := y1_f.mono hle49
    replace y1_r := y1_r.mono hle49
    replace y2_f := y2_f.mono hle49
    replace y2_r := y2_r.mono hle49
    replace y3_f := y3_f.mono hle49
    replace y3_r := y3_r.mono hle49
    replace y3_w := fun i hi => (y3_w i hi).mono hle49
    replace a_f := a_f.mono hle49
    replace a_r := a_r.mono hle49
    replace hG := hG.mono hle49
    replace qr29 := qr29.mono hle49
    replace fz40_f := fz40_f.mono hle49
    replace fz40_r := fz40_r.mono hle49
    replace fz43_f := fz43_f.mono hle49
    replace fz43_r := fz43_r.mono hle49
    replace fz46_f := fz46_f.mono hle49
    replace fz46_r := fz46_r.mono hle49
    replace fr47_f := fr47_f.mono hle49
    replace fr47_r := fr47_r.mono hle49
    replace fr47_w := fun i hi => (fr47_w i hi).mono hle49
    refine ofp_settle (S' := ((Ms09 ++ (oM0_8 ++ F)))) (List.Perm.refl _) ?_
    show OFP _ _ _ _ _ _ ((38, .func (.func 76) #[] #[.pointer (some ⟨b53, 0, none⟩)]) :: _) _ _
    refine ofp_stpH (sbs 39 104 1 #[.func (.func 76) #[] #[.pointer (some ⟨b53, 0, none⟩)]] (fun b58 => ?_))
    refine hk_mem (M' := ((b33, Obj.cells #[.slice u_019_a Y.cars.length u_019_c, .slice u_121_a Y.room.length u_121_c, .slice u_223_a ws_224.length u_223_c] 26 (0, 0)) :: (b1, Obj.cells #[.slice y1_a Y.cars.length y1_c, .slice y2_a Y.room.length y2_c, .slice y3_a Y.tracks.length y3_c] 26 (0, 0)) :: ([(b58, Obj.cells #[.func (.func 76) #[] #[.pointer (some ⟨b53, 0, none⟩)]] 104 (0, 0))] ++ (Ms09 ++ (oM0_8 ++ F))))) (fun w h => h.perm ((List.Perm.swap _ _ _).trans (List.Perm.cons _ (List.Perm.swap _ _ _)))) ?_
    have ho60 : Own 104 1 valCell (.slice (some ⟨b58, 0, none⟩) 1 1) ([(.func (.func 76) #[] #[.pointer (some ⟨b53, 0, none⟩)] : Value)] : List Value) [(b58, Obj.cells #[.func (.func 76) #[] #[.pointer (some ⟨b53, 0, none⟩)]] 104 (0, 0))] := Own.lit rfl rfl
    refine hk_freeze (B := ((b33, Obj.cells #[.slice u_019_a Y.cars.length u_019_c, .slice u_121_a Y.room.length u_121_c, .slice u_223_a ws_224.length u_223_c] 26 (0, 0)) :: (b1, Obj.cells #[.slice y1_a Y.cars.length y1_c, .slice y2_a Y.room.length y2_c, .slice y3_a Y.tracks.length y3_c] 26 (0, 0)) :: (Ms09 ++ (oM0_8 ++ F)))) undef ho60 (by first | omega | (simp only [List.length_set, List.length_cons, List.length_nil, List.length_append, List.length_take, List.length_drop] <;> omega) | decide) ((List.Perm.cons _ (List.perm_middle.symm)).trans (List.perm_middle.symm)) (List.Perm.refl _) (fun I61 hle62 fz63_f => ?_)
    replace y_f := y_f.mono hle62
    replace y1_f := y1_f.mono hle62
    replace y1_r := y1_r.mono hle62
    replace y2_f := y2_f.mono hle62
    replace y2_r := y2_r.mono hle62
    replace y3_f := y3_f.mono hle62
    replace y3_r := y3_r.mono hle62
    replace y3_w := fun i hi => (y3_w i hi).mono hle62
    replace a_f := a_f.mono hle62
    replace a_r := a_r.mono hle62
    replace hG := hG.mono hle62
    replace qr29 := qr29.mono hle62
    replace fz40_f := fz40_f.mono hle62
    replace fz40_r := fz40_r.mono hle62
    replace fz43_f := fz43_f.mono hle62
    replace fz43_r := fz43_r.mono hle62
    replace fz46_f := fz46_f.mono hle62
    replace fz46_r := fz46_r.mono hle62
    replace fr47_f := fr47_f.mono hle62
    replace fr47_r := fr47_r.mono hle62
    replace fr47_w := fun i hi => (fr47_w i hi).mono hle62
    replace qp54 := hle62.blk _ _ qp54
    obtain ⟨fz63_a, fz63_c, fz63_b, fz63_o, fz63_e, fz63_l, fz63_m, fz63_r⟩ := id fz63_f
    cases fz63_e
    refine hk_done ?_
    refine ofp_settle (S' := ((Ms09 ++ (oM0_8 ++ F)))) (List.Perm.refl _) ?_
    have hct74 := fewest_ct I61 _ ((⟨Y.cars, Y.room.set (i) 20, Y.tracks⟩ : Yard)) _ _ ([orderedP o]) (mkYard fz40_f fz43_f fr47_f) fz63_f (by first | exact hG | exact hG.mono hI) (by exact goals_ordered (by assumption) (by assumption) (Kin.pos (wide_fine hfa i) (Kin.refl _))) (by exact (wide_fine hfa i).valid)
    refine ofp_stp (sc (some 40) (F := ((b33, Obj.cells #[.slice u_019_a Y.cars.length u_019_c, .slice u_121_a Y.room.length u_121_c, .slice u_223_a ws_224.length u_223_c] 26 (0, 0)) :: (b1, Obj.cells #[.slice y1_a Y.cars.length y1_c, .slice y2_a Y.room.length y2_c, .slice y3_a Y.tracks.length y3_c] 26 (0, 0)) :: (Ms09 ++ (oM0_8 ++ F)))) (hct74 :) (List.Perm.refl _) (fun rv72 I64 rm73 hle65 hp66 => ?_))
    obtain ⟨u069, Ms070, hv67, hm68, qh71⟩ := hp66
    rw [hv67, hm68]; clear hv67 hm68
    replace qp54 := hle65.blk _ _ qp54
    obtain ⟨u069_a, u069_c, u069_e, u069_l⟩ := qh71.shape
    subst u069_e
    refine ofp_settle (S' := ((Ms070 ++ (Ms09 ++ (oM0_8 ++ F))))) (List.perm_middle.trans (List.Perm.cons _ List.perm_middle)) ?_
    show OFP _ _ _ _ _ _ ((40, .tuple #[.slice u069_a ((fewestM (allP ([orderedP o])) ((⟨Y.cars, Y.room.set (i) 20, Y.tracks⟩ : Yard))).getD []).length u069_c, .int .i64 ((errOf (fewestM (allP ([orderedP o])) ((⟨Y.cars, Y.room.set (i) 20, Y.tracks⟩ : Yard)))))]) :: _) _ _
    refine ox 4 [(42, .int .i64 ((errOf (fewestM (allP ([orderedP o])) ((⟨Y.cars, Y.room.set (i) 20, Y.tracks⟩ : Yard))))))] ?_
    refine ofp_end ?_
    refine nm ?_
    refine nm ?_
    refine sp 1 [(12, .int .i64 ((errOf (fewestM (allP ([orderedP o])) ((⟨Y.cars, Y.room.set (i) 20, Y.tracks⟩ : Yard))))))] ?_
    refine sn ?_
    refine sp 2 [(44, .bool (cmp .eql ((errOf (fewestM (allP ([orderedP o])) ((⟨Y.cars, Y.room.set (i) 20, Y.tracks⟩ : Yard))))) (0)))] ?_
    refine se ?_
    refine rc 44 rfl (fun h3 => ?_) (fun h3 => ?_)
    ·
     have h3_r := h3
     have h3 := eql_t h3
     refine rr ?_
     refine sp 2 [(46, .int .i64 (↑i)), (45, .slice ov0_8_a out.length ov0_8_c)] ?_
     refine sS (sbs 47 3 1 #[.int .i64 (↑i)] (fun b75 => ?_))
     refine sS (stp_append (d := 48) (x := (.tmp 45)) (y := (.tmp 47)) (T := 22) (T' := 22) (E := 3) (E' := 3) (sz := 1) (bs := 8) (z := .int .i64 (0)) (cell := intCell) (xs := out) (ys := [(↑i : Int)]) (Ms := oM0_8) (ty := 22) (gd := none) (by kernel_rfl) rfl (by kernel_rfl) (by kernel_rfl) (by kernel_rfl) (by kernel_rfl) (by kernel_rfl) (by decide) (by kernel_rfl) rfl rfl (oh0_8) ((List.Perm.cons _ ((List.Perm.cons _ ((List.Perm.cons _ ((List.Perm.append_left _ (List.perm_append_comm_assoc _ _ _)).trans (List.perm_append_comm_assoc _ _ _))).trans (List.perm_middle.symm))).trans (List.perm_middle.symm))).trans (List.perm_middle.symm)) (one_intCell _) (src_atS 0 rfl rfl) (by first | omega | (have hln := lacks_le Y o 1; rw [hr] at hln; simp only [List.length_append, List.length_cons, List.length_nil] at hln ⊢; omega)) (fun v77 Ms77 ho77 => ?_))
     refine seq_mem (M' := ((b33, Obj.cells #[.slice u_019_a Y.cars.length u_019_c, .slice u_121_a Y.room.length u_121_c, .slice u_223_a ws_224.length u_223_c] 26 (0, 0)) :: (b1, Obj.cells #[.slice y1_a Y.cars.length y1_c, .slice y2_a Y.room.length y2_c, .slice y3_a Y.tracks.length y3_c] 26 (0, 0)) :: (Ms77 ++ (Ms070 ++ (Ms09 ++ F))))) (fun w h => (h.perm (List.perm_middle.trans (List.Perm.cons _ (List.perm_middle.trans (List.Perm.cons _ List.perm_middle))))).sub (List.Sublist.cons _ (List.Sublist.refl _))) ?_
     obtain ⟨oa77, oc77, oe77, ol77⟩ := ho77.shape
     subst oe77
     show Seq _ _ _ _ _ _ ((48, .slice oa77 (out ++ ([(↑i : Int)])).length oc77) :: _) _ _
     refine sp 1 [(8, .slice oa77 (out ++ ([(↑i : Int)])).length oc77)] ?_
     refine ee ?_
     refine pst_normal_block ?_
     refine pst_next ?_
     refine rr ?_
     refine sp 1 [(27, .int .i64 (↑i))] ?_
     refine sd (da 28 (↑i) (1)) ?_
     refine sp 1 [(9, .int .i64 (↑i + 1))] ?_
     refine ee ?_
     refine pst_back (Y.room.length - (i+1)) (by omega) ?_
     intro a w hS hD hW
     exact ⟨I64, i+1, out ++ [(i : Int)], .slice oa77 (out ++ ([(↑i : Int)])).length oc77, Ms77, (Imm.le.trans (Imm.le.trans (Imm.le.trans (Imm.le.trans (Imm.le.trans (Imm.le.trans (Imm.le.trans hJ0 hle15) hle39) hle42) hle45) hle49) hle62) hle65), by omega, by omega, hr.trans (by rw [lacks_yes (by omega) (errOf_is h3)]; simp), ho77, hS.sub (.consE 8 rfl rfl (.consE 9 rfl rfl (.cons 1 rfl (.cons 2 rfl (.cons 4 rfl (.cons 5 rfl (.nil _))))))), hD, (hW.perm (List.Perm.cons _ (((List.Perm.cons _ (List.perm_append_comm_assoc _ _ _)).trans (List.perm_middle.symm)).trans (List.Perm.append_left _ (List.Perm.cons _ (List.perm_append_comm_assoc _ _ _)))))).sub (List.Sublist.cons _ (List.Sublist.trans (List.Sublist.refl _) (List.sublist_append_right _ _))), rfl⟩
    ·
     have h3_r := h3
     have h3 := eql_f h3
     refine rskip ?_
     refine pst_normal_block ?_
     refine pst_next ?_
     refine rr ?_
     refine sp 1 [(27, .int .i64 (↑i))] ?_
     refine sd (da 28 (↑i) (1)) ?_
     refine sp 1 [(9, .int .i64 (↑i + 1))] ?_
     refine ee ?_
     refine pst_back (Y.room.length - (i+1)) (by omega) ?_
     intro a w hS hD hW
     exact ⟨I64, i+1, out, .slice ov0_8_a out.length ov0_8_c, oM0_8, (Imm.le.trans (Imm.le.trans (Imm.le.trans (Imm.le.trans (Imm.le.trans (Imm.le.trans (Imm.le.trans hJ0 hle15) hle39) hle42) hle45) hle49) hle62) hle65), by omega, by omega, hr.trans (by rw [lacks_no (by omega) (errOf_not h3)]), oh0_8, hS.sub (.consE 8 rfl rfl (.consE 9 rfl rfl (.cons 1 rfl (.cons 2 rfl (.cons 4 rfl (.cons 5 rfl (.nil _))))))), hD, (hW.perm (List.Perm.cons _ (List.perm_middle.symm))).sub (List.Sublist.cons _ (List.Sublist.trans (List.Sublist.refl _) (List.sublist_append_right _ _))), rfl⟩
   ·
    have h2_r := h2
    have h2 := lss_f h2
    refine rexit 0 ?_
    refine (pst_exit_pass (pst_exit_pass (pst_exit_block ?_)))
    refine pst_next ?_
    refine rq ?_
    refine rqr ?_
    have hout : lacksFrom Y o 1 = out := hr.trans (by rw [lacks_done (by omega), List.append_nil])
    refine sp 3 [(51, .bool (cmp .eql (↑(out.length)) (0)))] ?_
    refine se ?_
    refine rc 51 rfl (fun h4 => ?_) (fun h4 => ?_)
    ·
     have h4_r := h4
     have h4 := eql_t h4
     refine rqr ?_
     refine sp 2 [(5, .int .i64 (11)), (4, .slice none 0 0)] ?_
     refine se ?_
     refine rret ?_
     refine (pst_ret_pass ?_)
     have hlk := lacksE_none h11 (by rw [hout]; omega)
     refine pst_ret2 (t := 4) (u := 5) ([]) (by kernel_rfl) rfl rfl (List.Sublist.cons _ (List.Sublist.trans (List.Sublist.trans (List.Sublist.refl _) (List.sublist_append_right _ _)) (List.sublist_append_right _ _))) (Imm.le.trans hle4 hJ0) ?_
     exact ⟨_, _, (congrArg (fun n => Value.tuple #[_, .int .i64 n]) (show (11 : Int) = (lacksE Y o).2 from by rw [hlk])), rfl, ((show [] = (lacksE Y o).1 from by rw [hlk]) ▸ Own.nil _ _ _)⟩
    ·
     have h4_r := h4
     have h4 := eql_f h4
     refine rskip ?_
     refine pst_next ?_
     refine rqr ?_
     refine sp 3 [(5, .int .i64 (0)), (4, .slice ov0_8_a out.length ov0_8_c)] ?_
     refine se ?_
     refine rret ?_
     have hlk := (lacksE_some h11 (by rw [hout]; omega)).trans (by rw [hout])
     refine ppm (M' := ((oM0_8 ++ (b1, Obj.cells #[.slice y1_a Y.cars.length y1_c, .slice y2_a Y.room.length y2_c, .slice y3_a Y.tracks.length y3_c] 26 (0, 0)) :: (Ms09 ++ F)))) ((List.Perm.cons _ (List.perm_append_comm_assoc _ _ _)).trans (List.perm_middle.symm)) ?_
     refine pst_ret2 (t := 4) (u := 5) (oM0_8) (by kernel_rfl) rfl rfl (List.Sublist.append_left (List.Sublist.cons _ (List.Sublist.trans (List.Sublist.refl _) (List.sublist_append_right _ _))) _) (Imm.le.trans hle4 hJ0) ?_
     exact ⟨_, _, (congrArg (fun n => Value.tuple #[_, .int .i64 n]) (show (0 : Int) = (lacksE Y o).2 from by rw [hlk])), rfl, ((show out = (lacksE Y o).1 from by rw [hlk]) ▸ oh0_8)⟩

end Go.Proofs.YtcaocbhbofejnaaDoor
namespace Go.Sl
open Go
section
variable {P : Program} {N : Nat} {ops : Array Oper} {i : Nat} {l : Sl} {I : Imm} {R M : Seg} {ty : TypeId} {gd : Option (Nat × Bool)} {K : Sl → Imm → Seg → Prop} {d : Nat}
variable {κ : Type} [DecidableEq κ] {enc : κ → Value}

theorem stp_builtin {b : Builtin} {args : Array Operand} {tys : Array TypeId} {vals : List Value} {dst : Option Tmp}
    (hop : opAt ops N i = some (dst, .call { callee := .builtin b, args, argTypes := tys }, ty, gd)) (hg : gval ops l gd = some true) (hk : ∀ x ∈ args, known l x) (hvals : args.toList.map (rho l) = vals)
    (h : ∀ (cs : Array Bool), wpL P (builtin b tys ty cs vals.toArray) (fun n M' => ∃ v, (n = .value v ∨ (n = .skip ∧ v = undef)) ∧ K (ups dst v l) I M') I M) : Stp P N ops i l I M K :=
  stp_of_wpL hop hg (by simpa [Op.operands, Call.operands] using hk) (by
    have e : args.map (rho l) = vals.toArray := by
      apply Array.ext'
      simp [hvals]
    show wpL P (do let d ← resolve (rho l) { callee := .builtin b, args, argTypes := tys } ty; invoke d.target d.args) _ I M
    unfold resolve
    simp only [e]
    exact h _)

theorem stp_delete {x y : Operand} {T T' kt et r cl : Nat} {es : Array MapEntry} {kvs : List (κ × Value)} {k : κ} (n : Nat) (hop : opAt ops N i = some (none, .call { callee := .builtin .delete, args := #[x, y], argTypes := #[T, T'] }, ty, gd)) (hg : gval ops l gd = some true)
    (hT : tyMap P T = some (kt, et)) (hK : KeyOk P kt enc) (hx : oval l x = some (.map (some r))) (hy : oval l y = some (enc k)) (hn : M[n]? = some (r, Obj.map es cl)) (his : MapIs enc es kvs)
    (h : ∀ es' cl', MapIs enc es' (del k kvs) → K l I (M.set n (r, Obj.map es' cl'))) : Stp P N ops i l I M K := by
  refine stp_builtin (vals := [.map (some r), enc k]) hop hg (known2 hx hy) (by simp [rho_of hx, rho_of hy]) fun cs => ?_
  show wpL P (Builtin.delete_ #[T, T'] ty #[.map (some r), enc k] >>= fun x => pure (Next.value x)) _ I M
  refine wpL_val ?_
  unfold Builtin.delete_
  show wpL P (underlying T >>= _) _ I M
  rw [wpL_bind, wpL_underlying (tyMap_spec hT)]
  show wpL P (Sem.getObj r _) _ I M
  refine ⟨_, .inl (List.mem_of_getElem? hn), rfl, ?_⟩
  show wpL P (Instr.checkKey _ _ _ _ >>= _) _ I _
  rw [wpL_bind]
  refine hK.check _ _ _ _ _ ?_
  rw [wpL_bind]
  refine hK.find k es.toList kvs _ _ _ his ?_
  have hf := findKv_upd k undef kvs 0
  cases hkv : findKv k kvs 0 with
  | none =>
    rw [hkv] at hf
    simp only at hf
    show wpL P (Sem.setObj r _ _) _ I M
    refine wpL_setObj n rfl hn rfl ?_
    exact ⟨_, .inl rfl, h _ _ (by rw [hf.2]; exact his)⟩
  | some p =>
    obtain ⟨j, w⟩ := p
    rw [hkv] at hf
    simp only [Nat.sub_zero] at hf
    show wpL P (Sem.setObj r _ _) _ I M
    refine wpL_setObj n rfl hn rfl ?_
    refine ⟨_, .inl rfl, h _ _ ?_⟩
    rw [hf.2.2.1]
    exact mapIs_erase his j

theorem stp_appendN {x y : Operand} {T T' E bs n : Nat} {z : Value} (hop : opAt ops N i = some (some d, .call { callee := .builtin .append, args := #[x, y], argTypes := #[T, T'] }, ty, gd)) (hg : gval ops l gd = some true)
    (hT : tyElem P T = some E) (hsz : tySize P E = some 1) (hz : tyZero P E = some z) (hzc : z.cells.size = 1) (hb : tyBytes P E = some bs) (hbs : 1 ≤ bs ∧ bs ≤ 256) (hT' : tyI64 P T' = true)
    (hx : oval l x = some (.slice none 0 0)) (hy : oval l y = some (.int .i64 (n : Int))) (hn : 0 < n ∧ n ≤ 1000000)
    (next : ∀ b nc zs, n ≤ nc → zs.length = nc → K ((d, .slice (some ⟨b, 0, none⟩) n nc) :: l) I ((b, Obj.cells (List.toArray zs) E (0, 0)) :: M)) : Stp P N ops i l I M K := by
  refine stp_builtin (vals := [.slice none 0 0, .int .i64 n]) hop hg (known2 hx hy) (by simp [rho_of hx, rho_of hy]) fun cs => ?_
  have hinfo : ∃ inf, P.info? E = some inf ∧ inf.bytes = bs := by
    unfold tyBytes at hb
    cases hi : P.info? E with
    | none => rw [hi] at hb; cases hb
    | some inf => rw [hi] at hb; exact ⟨inf, rfl, by simpa using hb⟩
  obtain ⟨inf, hinf, hbytes⟩ := hinfo
  show wpL P (Builtin.append_ #[T, T'] ty #[.slice none 0 0, .int .i64 n] >>= fun x => pure (Next.value x)) _ I M
  refine wpL_val ?_
  unfold Builtin.append_
  simp only [List.getElem?_toArray, List.getElem?_cons_zero, List.getElem?_cons_succ, wpL_bind, wpL_underlying (tyElem_spec hT), wpL_sizeOf hsz, wpL_underlying (tyI64_spec hT'), wpL_pure]
  simp only [if_true, asInt]
  rw [wpL_bind]
  have hw : IntKind.i64.wrap (n : Int) = (n : Int) := wrap64_id ⟨by omega, by omega⟩
  show wpL P (pure (n : Int)) _ I M
  rw [wpL_pure]
  simp only [hw]
  rw [if_neg (show ¬ (n : Int) < 0 by omega)]
  rw [wpL_bind, wpL_typeInfo hinf]
  have hbig : ¬ ((n : Int) * (inf.bytes : Int) > 2 ^ 48) := by
    have h1 : n * inf.bytes ≤ 1000000 * 256 := Nat.mul_le_mul hn.2 (by omega)
    have h2 : ((n * inf.bytes : Nat) : Int) ≤ ((1000000 * 256 : Nat) : Int) := Int.ofNat_le.2 h1
    rw [Int.natCast_mul] at h2
    omega
  rw [if_neg hbig]
  rw [wpL_bind, wpL_pure]
  simp only [Int.toNat_natCast, Nat.zero_add, Bool.not_true, Bool.false_eq_true, if_false]
  rw [if_neg (show ¬ n ≤ 0 by omega)]
  simp only [true_or, and_true]
  rw [if_neg (show ¬ ((n : Int) > IntKind.i64.max) by have : IntKind.i64.max = 9223372036854775807 := rfl
                                                      omega)]
  rw [wpL_bind, wpL_typeInfo hinf]
  rw [wpL_bind, wpL_typeInfo hinf, if_neg (show ¬ (Builtin.nextslicecap n 0 * inf.bytes > 2 ^ 48) from fun h => by
    have h1 : Builtin.nextslicecap n 0 ≤ 2 * n + 1000 := nextslicecap_le (by omega)
    have h2 : Builtin.nextslicecap n 0 * inf.bytes ≤ (2 * n + 1000) * 256 := Nat.mul_le_mul h1 (by omega)
    omega)]
  rw [wpL_bind]
  show (if (Question.appendCap n 0 E).forced then _ else ∀ t, _)
  rw [if_neg (by simp [Question.forced])]
  intro t
  show wpL P (typeInfo E >>= _) _ I _
  rw [wpL_bind, wpL_typeInfo hinf, wpL_bind]
  have hask : ∀ (n : Nat) (Q : Unit → Seg → Prop), Q () M → wpL P (askRoom n) Q I M := fun n Q hq => by
    unfold askRoom
    split <;> exact hq
  refine hask _ _ ?_
  rw [wpL_bind]
  show wpL P (_ >>= _) _ I M
  rw [wpL_bind]
  rw [if_neg (show ¬ n * 1 = 0 by omega)]
  rw [wpL_bind, wpL_zeroValue hz, wpL_pure, wpL_bind, wpL_zeroValue hz, wpL_bind]
  intro b
  have hcap : n ≤ Question.cut (.appendCap n 0 E) t := by simp [Question.cut]
  generalize Question.cut (.appendCap n 0 E) t = nc at hcap
  refine ⟨_, .inl rfl, ?_⟩
  have := next b nc ((#[] : Array Value) ++ Builtin.zeroCells z.cells n ++ Builtin.zeroCells z.cells (nc - n)).toList hcap (by
    simp only [Array.length_toList, Array.size_append, zeroCells_length, hzc, List.size_toArray, List.length_nil]; omega)
  rw [Array.toArray_toList] at this
  exact this
end

theorem Own.empty {E : TypeId} {b nc : Nat} {zs : List Value} (h : zs.length = nc) : Own E 1 intCell (.slice (some ⟨b, 0, none⟩) 0 nc) ([] : List Int) [(b, Obj.cells zs.toArray E (0, 0))] :=
  .inr ⟨b, nc, zs, rfl, Nat.zero_le _, rfl, by simpa [encL] using h⟩
end Go.Sl
namespace Go.Sh
open Go Go.Sl

def goCold (cs : List Car) : Bool → List Int → List Int
  | _, [] => []
  | p, c :: r => if (carAt cs c).heat && !p then c :: goCold cs (p && (carAt cs c).pipe) r else goCold cs (p && (carAt cs c).pipe) r
def coldOf (cs : List Car) (t : List Int) : List Int := goCold cs true t
theorem goCold_yes {cs : List Car} {t : List Int} {k : Nat} {p : Bool} (hk : k < t.length) (h : ((carAt cs (t.getD k 0)).heat && !p) = true) :
    goCold cs p (t.drop k) = t.getD k 0 :: goCold cs (p && (carAt cs (t.getD k 0)).pipe) (t.drop (k + 1)) := by
  rw [drop_cons (d := 0) hk]; simp only [goCold]; rw [if_pos h]
theorem goCold_no {cs : List Car} {t : List Int} {k : Nat} {p : Bool} (hk : k < t.length) (h : ((carAt cs (t.getD k 0)).heat && !p) = false) :
    goCold cs p (t.drop k) = goCold cs (p && (carAt cs (t.getD k 0)).pipe) (t.drop (k + 1)) := by
  rw [drop_cons (d := 0) hk]; simp only [goCold]; rw [if_neg (by rw [h]; simp)]
theorem goCold_done {cs : List Car} {t : List Int} {k : Nat} {p : Bool} (hk : t.length ≤ k) : goCold cs p (t.drop k) = [] := by rw [drop_done hk]; rfl
theorem goCold_le (cs : List Car) : ∀ (t : List Int) (p : Bool), (goCold cs p t).length ≤ t.length := by
  intro t
  induction t with
  | nil => intro p; simp [goCold]
  | cons c r ih => intro p; simp only [goCold]; split <;> simp only [List.length_cons] <;> have := ih (p && (carAt cs c).pipe) <;> omega
theorem coldOf_le (cs : List Car) (t : List Int) : (coldOf cs t).length ≤ t.length := goCold_le cs t true
def cmpI (a b : Int) : Int := if a < b then -1 else if b < a then 1 else 0
def cmpL : List Int → List Int → Int
  | [], [] => 0
  | [], _ :: _ => -1
  | _ :: _, [] => 1
  | a :: ar, b :: br => if cmpI a b = 0 then cmpL ar br else cmpI a b
section
variable {xs ys : List Int} {k : Nat}
theorem cmpL_more (h1 : k < xs.length) (h2 : ys.length ≤ k) : cmpL (xs.drop k) (ys.drop k) = 1 := by
  rw [drop_cons (d := 0) h1, drop_done h2]; rfl
theorem cmpL_diff (h1 : k < xs.length) (h2 : k < ys.length) (h : cmpI (xs.getD k 0) (ys.getD k 0) ≠ 0) : cmpL (xs.drop k) (ys.drop k) = cmpI (xs.getD k 0) (ys.getD k 0) := by
  rw [drop_cons (d := 0) h1, drop_cons (d := 0) h2]; simp only [cmpL]; rw [if_neg h]
theorem cmpL_next (h1 : k < xs.length) (h2 : k < ys.length) (h : cmpI (xs.getD k 0) (ys.getD k 0) = 0) : cmpL (xs.drop k) (ys.drop k) = cmpL (xs.drop (k + 1)) (ys.drop (k + 1)) := by
  rw [drop_cons (d := 0) h1, drop_cons (d := 0) h2]; simp only [cmpL]; rw [if_pos h]
theorem cmpL_less (h1 : xs.length ≤ k) (h2 : k < ys.length) : cmpL (xs.drop k) (ys.drop k) = -1 := by
  rw [drop_done h1, drop_cons (d := 0) h2]; rfl
theorem cmpL_same (h1 : xs.length ≤ k) (h2 : ys.length ≤ k) : cmpL (xs.drop k) (ys.drop k) = 0 := by
  rw [drop_done h1, drop_done h2]; rfl
end
def minF (f : List Int → List Int → Int) : List (List Int) → List Int → List Int
  | [], m => m
  | x :: r, m => minF f r (if f x m < 0 then x else m)
theorem minF_take {f : List Int → List Int → Int} {l : List (List Int)} {k : Nat} {m : List Int} (hk : k < l.length) (h : f (l.getD k []) m < 0) : minF f (l.drop k) m = minF f (l.drop (k + 1)) (l.getD k []) := by
  rw [drop_cons (d := []) hk]; simp only [minF]; rw [if_pos h]
theorem minF_leave {f : List Int → List Int → Int} {l : List (List Int)} {k : Nat} {m : List Int} (hk : k < l.length) (h : ¬ f (l.getD k []) m < 0) : minF f (l.drop k) m = minF f (l.drop (k + 1)) m := by
  rw [drop_cons (d := []) hk]; simp only [minF]; rw [if_neg h]
theorem minF_done {f : List Int → List Int → Int} {l : List (List Int)} {k : Nat} {m : List Int} (hk : l.length ≤ k) : minF f (l.drop k) m = m := by rw [drop_done hk]; rfl
def warmCmp (cs : List Car) (a b : List Int) : Int := if ((coldOf cs a).length : Int) - (coldOf cs b).length = 0 then cmpL a b else ((coldOf cs a).length : Int) - (coldOf cs b).length

theorem flat_take {xss : List (List Int)} {k : Nat} (h : k < xss.length) : (xss.take (k + 1)).flatten = (xss.take k).flatten ++ xss.getD k [] := by
  rw [take_snoc (d := []) h]; simp
theorem flat_succ {xss : List (List Int)} {k : Nat} (h : k < xss.length) : (((xss.take (k + 1)).flatten.length : Nat) : Int) = ↑(xss.take k).flatten.length + ↑(xss.getD k []).length := by
  rw [flat_take h, List.length_append]; omega
theorem flat_le (xss : List (List Int)) (k : Nat) (h : k < xss.length) : (xss.take k).flatten.length + (xss.getD k []).length ≤ xss.flatten.length := by
  rw [← List.length_append, ← flat_take h]
  have : xss.flatten = (xss.take (k + 1)).flatten ++ (xss.drop (k + 1)).flatten := by rw [← List.flatten_append, List.take_append_drop]
  rw [this, List.length_append]; omega
def stepB (cs : List Car) (t : List Int) (k : Nat) (acc : List (List Int)) : List (List Int) :=
  if coupled cs t ↑k then acc.set (acc.length - 1) (acc.getD (acc.length - 1) [] ++ [t.getD k 0]) else acc ++ [[t.getD k 0]]
def blocksTo (cs : List Car) (t : List Int) : Nat → List (List Int)
  | 0 => []
  | k + 1 => stepB cs t k (blocksTo cs t k)
def blocksOf (cs : List Car) (t : List Int) : List (List Int) := blocksTo cs t t.length
theorem coupled_pos {cs : List Car} {t : List Int} {k : Nat} (h : coupled cs t ↑k = true) : 1 ≤ k := by
  unfold coupled at h
  simp only [Bool.and_eq_true] at h
  have := inB_t h.1.1
  omega
theorem blocksTo_len (cs : List Car) (t : List Int) : ∀ k, (blocksTo cs t k).length ≤ k ∧ (0 < k → 0 < (blocksTo cs t k).length) ∧ ∀ b ∈ blocksTo cs t k, b.length ≤ k := by
  intro k
  induction k with
  | zero => exact ⟨Nat.le_refl _, fun h => by omega, fun b h => by simp [blocksTo] at h⟩
  | succ k ih =>
    obtain ⟨h1, h2, h3⟩ := ih
    simp only [blocksTo, stepB]
    split
    · rename_i hc
      have hk := coupled_pos hc
      refine ⟨by rw [List.length_set]; omega, fun _ => by rw [List.length_set]; exact h2 (by omega), fun b hb => ?_⟩
      rcases List.mem_or_eq_of_mem_set hb with hb | e
      · have := h3 b hb; omega
      · subst e
        have hm : (blocksTo cs t k).getD ((blocksTo cs t k).length - 1) [] ∈ blocksTo cs t k := getD_mem (by have := h2 (by omega); omega)
        have := h3 _ hm
        simp only [List.length_append, List.length_cons, List.length_nil]; omega
    · refine ⟨by simp; omega, fun _ => by simp, fun b hb => ?_⟩
      rcases List.mem_append.1 hb with hb | hb
      · have := h3 b hb; omega
      · simp at hb; subst hb; simp
theorem blocksTo_yes {cs : List Car} {t : List Int} {k : Nat} (h : coupled cs t ↑k = true) : blocksTo cs t (k + 1) = (blocksTo cs t k).set ((blocksTo cs t k).length - 1) ((blocksTo cs t k).getD ((blocksTo cs t k).length - 1) [] ++ [t.getD k 0]) := by
  simp only [blocksTo, stepB]; rw [if_pos h]
theorem blocksTo_no {cs : List Car} {t : List Int} {k : Nat} (h : coupled cs t ↑k = false) : blocksTo cs t (k + 1) = blocksTo cs t k ++ [[t.getD k 0]] := by
  simp only [blocksTo, stepB]; rw [if_neg (by rw [h]; simp)]

def growFrom (bl : List (List Int)) (rec : List Int → List Int → List (List Int)) (begun us : List Int) (k : Nat) : List (List Int) :=
  (List.range' k (bl.length - k)).flatMap fun i : Nat => if (i : Int) ∈ us then [] else rec (begun ++ bl.getD i []) (us ++ [(i : Int)])
def growM (bl : List (List Int)) : Nat → List Int → List Int → List (List Int)
  | 0, begun, _ => [begun]
  | n + 1, begun, us => growFrom bl (growM bl n) begun us 0
section
variable {bl : List (List Int)} {rec : List Int → List Int → List (List Int)} {begun us : List Int} {k : Nat}
theorem growFrom_skip (hk : k < bl.length) (h : (k : Int) ∈ us) : growFrom bl rec begun us k = growFrom bl rec begun us (k + 1) := by
  unfold growFrom; rw [range_cons hk]; simp [h]
theorem growFrom_go (hk : k < bl.length) (h : ¬ (k : Int) ∈ us) : growFrom bl rec begun us k = rec (begun ++ bl.getD k []) (us ++ [(k : Int)]) ++ growFrom bl rec begun us (k + 1) := by
  unfold growFrom; rw [range_cons hk]; simp [h]
theorem growFrom_done (hk : bl.length ≤ k) : growFrom bl rec begun us k = [] := by
  unfold growFrom; rw [show bl.length - k = 0 by omega]; rfl
end
theorem erase_snoc {us : List Int} {x : Int} (h : ¬ x ∈ us) : (us ++ [x]).erase x = us := by
  rw [List.erase_append_right _ h]; simp
def warmE (Y : Yard) : List Int × Int × Int :=
  if checkErr Y = 0 then
    (let os := growM (blocksOf Y.cars (trk Y 0)) (blocksOf Y.cars (trk Y 0)).length [] []
     let m := minF (warmCmp Y.cars) (os.drop 1) (os.getD 0 [])
     (m, ((coldOf Y.cars m).length : Int), 0))
  else ([], 0, checkErr Y)
end Go.Sh
namespace Go.Proofs.YtcaocbhbofejnaaDoor
open Go Go.Sl Go.Sh
set_option maxRecDepth 100000
noncomputable def c_cold (p : List Nat) : Code := sub (bodyOf Tryd.f39) p
theorem cold_ct (I : Imm) (y : Value) (Y : Yard) (a : Value) (t : List Int) (y_f : IsYard I y Y) (a_f : IsInts I a t) (ho : Ok Y.cars t) (hl : t.length ≤ 1000000) : Ct Tryd.prog 39 #[y, a] I ([]) (fun v I' M' => ∃ u : Value, ∃ Ms : Seg, v = u ∧ M' = Ms ∧ Own 3 1 intCell u (coldOf Y.cars t) Ms) := by
 obtain ⟨y1, y2, y3, y_e, y1_f, y2_f, y3_f⟩ := id y_f
 subst y_e
 obtain ⟨y1_a, y1_c, y1_b, y1_o, y1_e, y1_l, y1_m, y1_r⟩ := id y1_f
 subst y1_e
 obtain ⟨y2_a, y2_c, y2_b, y2_o, y2_e, y2_l, y2_m, y2_r⟩ := id y2_f
 subst y2_e
 obtain ⟨y3_a, y3_c, y3_b, y3_o, y3_vs, y3_e, y3_l, y3_m, y3_r, y3_w⟩ := id y3_f
 subst y3_e
 obtain ⟨a_a, a_c, a_b, a_o, a_e, a_l, a_m, a_r⟩ := id a_f
 subst a_e
 refine fn_of_run (fn := Tryd.f39) (args := [_, _]) (N := 40) Tryd.func39 rfl (by kernel_rfl) (Nat.le_of_ble_eq_true rfl) (fun F => ?_)
 show Run _ _ (c_cold []) _ _ [(0, .agg #[.slice y1_a Y.cars.length y1_c, .slice y2_a Y.room.length y2_c, .slice y3_a Y.tracks.length y3_c]), (1, .slice a_a t.length a_c)] _ _
 refine rnm ?_
 refine rqr ?_
 refine sS (sb 2 26 #[.slice y1_a Y.cars.length y1_c, .slice y2_a Y.room.length y2_c, .slice y3_a Y.tracks.length y3_c] (fun b1 => ?_))
 refine sp 1 [(4, .slice none 0 0)] ?_
 refine sn ?_
 refine sp 1 [(5, .slice none 0 0)] ?_
 refine sn ?_
 refine sp 1 [(6, .bool (true))] ?_
 refine se ?_
 refine rq ?_
 refine rqr ?_
 refine sp 3 [(11, .int .i64 (0)), (10, .int .i64 (↑(t.length))), (9, .slice a_a t.length a_c)] ?_
 refine se ?_
 refine rb 0 ?_
 refine rl (fun mz a w => ∃ J0 : Imm, ∃ k : Nat, ∃ out : List Int, ∃ piped : Bool, ∃ ov0_5 : Value, ∃ oM0_5 : Seg, (I.le J0) ∧ (k ≤ t.length) ∧ (coldOf Y.cars t = out ++ goCold Y.cars piped (t.drop k)) ∧ (out.length ≤ k) ∧ (Own 3 1 intCell ov0_5 (out) oM0_5) ∧ Slots 40 [(5, ov0_5), (6, .bool (piped)), (11, .int .i64 ↑k), (2, .pointer (some ⟨b1, 0, none⟩)), (4, .slice none 0 0), (9, .slice a_a t.length a_c), (10, .int .i64 (↑(t.length)))] a ∧ a.defers = [] ∧ St J0 ((b1, Obj.cells #[.slice y1_a Y.cars.length y1_c, .slice y2_a Y.room.length y2_c, .slice y3_a Y.tracks.length y3_c] 26 (0, 0)) :: (oM0_5 ++ F)) w ∧ mz = t.length - k) ?_ ?_
 ·intro a w hS hD hW
  exact ⟨_, I, 0, [], true, (.slice none 0 0), [], Imm.le.refl _, Nat.zero_le _, rfl, Nat.le_refl _, (Own.nil _ _ _), hS.sub (.cons 5 rfl (.cons 6 rfl (.cons 11 rfl (.cons 2 rfl (.cons 4 rfl (.cons 9 rfl (.cons 10 rfl (.nil _)))))))), hD, hW, rfl⟩
 ·rintro mz a w ⟨J0, k, out, piped, ov0_5, oM0_5, hJ0, hk, hr, hol, oh0_5, hS, hD, hW, rfl⟩
  refine run_at hS hD hW ?_
  clear hS hD hW a w
  replace y1_r := y1_r.mono hJ0
  replace a_r := a_r.mono hJ0
  obtain ⟨ov0_5_a, ov0_5_c, ov0_5_e, ov0_5_l⟩ := oh0_5.shape; subst ov0_5_e
  refine rqr ?_
  refine sp 1 [(12, .bool (cmp .lss (↑k) (↑(t.length))))] ?_
  refine se ?_
  refine rq ?_
  refine rc 12 rfl (fun h1 => ?_) (fun h1 => ?_)
  ·
   have h1_r := h1
   have h1 := lss_t h1
   refine rskip ?_
   refine pst_next ?_
   refine rq ?_
   refine rb 1 ?_
   refine rqr ?_
   refine sd (di 13 1 (k) a_r.addr) ?_
   refine sd (dl 14 (ints_get a_r (k) (by omega))) ?_
   refine sp 1 [(8, .int .i64 (t.getD (k) 0))] ?_
   refine se ?_
   refine rq ?_
   refine rq ?_
   refine run_cut (fun a w => Slots 40 [(2, .pointer (some ⟨b1, 0, none⟩)), (4, .slice none 0 0), (5, .slice ov0_5_a out.length ov0_5_c), (6, .bool (piped)), (8, .int .i64 (t.getD (k) 0)), (9, .slice a_a t.length a_c), (10, .int .i64 (↑(t.length))), (11, .int .i64 (↑k)), (24, .bool (((Y.cars.getD ((t.getD (k) 0 : Int).toNat) noCar).heat) && (!(piped))))] a ∧ a.defers = [] ∧ St J0 ((b1, Obj.cells #[.slice y1_a Y.cars.length y1_c, .slice y2_a Y.room.length y2_c, .slice y3_a Y.tracks.length y3_c] 26 (0, 0)) :: (oM0_5 ++ F)) w) ?_ ?_
   ·
    refine rr ?_
    have hc := ho.at k (by omega)
    refine sp 1 [(15, .pointer (some ⟨b1, 0, none⟩))] ?_
    refine sd (dlb 16 0 0 b1 (.slice y1_a Y.cars.length y1_c)) ?_
    refine sp 1 [(17, .int .i64 (t.getD (k) 0))] ?_
    refine sd (diI 18 6 (t.getD (k) 0) y1_r.addr) ?_
    refine sp 1 [(19, .pointer (some ⟨y1_b, y1_o + ((t.getD (k) 0 : Int).toNat) * 6 + 5, none⟩))] ?_
    refine sd (dl 20 (cars_get y1_r ((t.getD (k) 0 : Int).toNat) (by omega) 5 (by decide) (v := .bool ((Y.cars.getD ((t.getD (k) 0 : Int).toNat) noCar).heat)) rfl)) ?_
    refine sp 1 [(21, .bool ((Y.cars.getD ((t.getD (k) 0 : Int).toNat) noCar).heat))] ?_
    refine seq_split 21 rfl (fun h2 => ?_) (fun h2 => ?_)
    ·
     have h2_b := h2
     refine sp 3 [(24, .bool (!(piped)))] ?_
     refine ee ?_
     refine pst_meet (fun a w hS hD hW => ⟨hS.sub (.cons 2 rfl (.cons 4 rfl (.cons 5 rfl (.cons 6 rfl (.cons 8 rfl (.cons 9 rfl (.cons 10 rfl (.cons 11 rfl (.consE 24 rfl (congrArg Value.bool (by simp only [h2, Bool.true_and, Bool.false_and, Bool.and_true, Bool.and_false, Bool.true_or, Bool.false_or, Bool.or_true, Bool.or_false, cond_true, cond_false])) (.nil _)))))))))), hD, hW⟩)
    ·
     have h2_b := h2
     refine sp 3 [(24, .bool (false))] ?_
     refine ee ?_
     refine pst_meet (fun a w hS hD hW => ⟨hS.sub (.cons 2 rfl (.cons 4 rfl (.cons 5 rfl (.cons 6 rfl (.cons 8 rfl (.cons 9 rfl (.cons 10 rfl (.cons 11 rfl (.consE 24 rfl (congrArg Value.bool (by simp only [h2, Bool.true_and, Bool.false_and, Bool.and_true, Bool.and_false, Bool.true_or, Bool.false_or, Bool.or_true, Bool.or_false, cond_true, cond_false])) (.nil _)))))))))), hD, hW⟩)
   ·rintro a w ⟨hS, hD, hW⟩
    refine run_at hS hD hW ?_
    clear hS hD hW a w
    refine rc 24 rfl (fun h3 => ?_) (fun h3 => ?_)
    ·
     have h3_r := h3
     obtain ⟨h3_1, h3_2⟩ := and_t h3
     have h3_2 := not_t h3_2
     refine rr ?_
     refine sp 2 [(26, .int .i64 (t.getD (k) 0)), (25, .slice ov0_5_a out.length ov0_5_c)] ?_
     refine sS (sbs 27 3 1 #[.int .i64 (t.getD (k) 0)] (fun b3 => ?_))
     refine sS (stp_append (d := 28) (x := (.tmp 25)) (y := (.tmp 27)) (T := 22) (T' := 22) (E := 3) (E' := 3) (sz := 1) (bs := 8) (z := .int .i64 (0)) (cell := intCell) (xs := out) (ys := [(t.getD (k) 0 : Int)]) (Ms := oM0_5) (ty := 22) (gd := none) (by kernel_rfl) rfl (by kernel_rfl) (by kernel_rfl) (by kernel_rfl) (by kernel_rfl) (by kernel_rfl) (by decide) (by kernel_rfl) rfl rfl (oh0_5) ((List.Perm.cons _ (List.perm_middle.symm)).trans (List.perm_middle.symm)) (one_intCell _) (src_atS 0 rfl rfl) (by first | omega | (simp only [List.length_cons, List.length_nil, List.length_append, List.length_take, List.length_drop]; omega)) (fun v5 Ms5 ho5 => ?_))
     refine seq_mem (M' := ((b1, Obj.cells #[.slice y1_a Y.cars.length y1_c, .slice y2_a Y.room.length y2_c, .slice y3_a Y.tracks.length y3_c] 26 (0, 0)) :: (Ms5 ++ F))) (fun w h => (h.perm (List.perm_middle.trans (List.Perm.cons _ List.perm_middle))).sub (List.Sublist.cons _ (List.Sublist.refl _))) ?_
     obtain ⟨oa5, oc5, oe5, ol5⟩ := ho5.shape
     subst oe5
     show Seq _ _ _ _ _ _ ((28, .slice oa5 (out ++ ([(t.getD (k) 0 : Int)])).length oc5) :: _) _ _
     refine sp 1 [(5, .slice oa5 (out ++ ([(t.getD (k) 0 : Int)])).length oc5)] ?_
     refine se ?_
     refine rr ?_
     have hc := ho.at k (by omega)
     refine sp 2 [(30, .bool (piped))] ?_
     refine seq_split 30 rfl (fun h4 => ?_) (fun h4 => ?_)
     ·
      have h4_b := h4
      refine sp 1 [(31, .pointer (some ⟨b1, 0, none⟩))] ?_
      refine sd (dlb 32 0 0 b1 (.slice y1_a Y.cars.length y1_c)) ?_
      refine sp 1 [(33, .int .i64 (t.getD (k) 0))] ?_
      refine sd (diI 34 6 (t.getD (k) 0) y1_r.addr) ?_
      refine sp 1 [(35, .pointer (some ⟨y1_b, y1_o + ((t.getD (k) 0 : Int).toNat) * 6 + 4, none⟩))] ?_
      refine sd (dl 36 (cars_get y1_r ((t.getD (k) 0 : Int).toNat) (by omega) 4 (by decide) (v := .bool ((Y.cars.getD ((t.getD (k) 0 : Int).toNat) noCar).pipe)) rfl)) ?_
      refine sp 2 [(6, .bool ((Y.cars.getD ((t.getD (k) 0 : Int).toNat) noCar).pipe))] ?_
      refine ee ?_
      refine pst_normal_block ?_
      refine pst_next ?_
      refine rr ?_
      refine sd (da 38 (↑k) (1)) ?_
      refine sp 1 [(11, .int .i64 (↑k + 1))] ?_
      refine ee ?_
      refine pst_back (t.length - (k+1)) (by omega) ?_
      intro a w hS hD hW
      exact ⟨J0, k+1, out ++ [t.getD k 0], ((Y.cars.getD ((t.getD (k) 0 : Int).toNat) noCar).pipe), .slice oa5 (out ++ ([(t.getD (k) 0 : Int)])).length oc5, Ms5, hJ0, by omega, hr.trans (by rw [goCold_yes (k := k) (by omega) h3_r, h4]; try simp only [Bool.true_and, Bool.false_and, List.append_assoc, List.cons_append, List.nil_append]; try rfl), by simp only [List.length_append, List.length_cons, List.length_nil]; omega, ho5, hS.sub (.consE 5 rfl rfl (.consE 6 rfl rfl (.consE 11 rfl rfl (.cons 2 rfl (.cons 4 rfl (.cons 9 rfl (.cons 10 rfl (.nil _)))))))), hD, hW, rfl⟩
     ·
      have h4_b := h4
      refine sp 8 [(6, .bool (false))] ?_
      refine ee ?_
      refine pst_normal_block ?_
      refine pst_next ?_
      refine rr ?_
      refine sd (da 38 (↑k) (1)) ?_
      refine sp 1 [(11, .int .i64 (↑k + 1))] ?_
      refine ee ?_
      refine pst_back (t.length - (k+1)) (by omega) ?_
      intro a w hS hD hW
      exact ⟨J0, k+1, out ++ [t.getD k 0], (false), .slice oa5 (out ++ ([(t.getD (k) 0 : Int)])).length oc5, Ms5, hJ0, by omega, hr.trans (by rw [goCold_yes (k := k) (by omega) h3_r, h4]; try simp only [Bool.true_and, Bool.false_and, List.append_assoc, List.cons_append, List.nil_append]; try rfl), by simp only [List.length_append, List.length_cons, List.length_nil]; omega, ho5, hS.sub (.consE 5 rfl rfl (.consE 6 rfl rfl (.consE 11 rfl rfl (.cons 2 rfl (.cons 4 rfl (.cons 9 rfl (.cons 10 rfl (.nil _)))))))), hD, hW, rfl⟩
    ·
     have h3_r := h3
     refine rskip ?_
     refine pst_next ?_
     refine rr ?_
     have hc := ho.at k (by omega)
     refine sp 2 [(30, .bool (piped))] ?_
     refine seq_split 30 rfl (fun h5 => ?_) (fun h5 => ?_)
     ·
      have h5_b := h5
      refine sp 1 [(31, .pointer (some ⟨b1, 0, none⟩))] ?_
      refine sd (dlb 32 0 0 b1 (.slice y1_a Y.cars.length y1_c)) ?_
      refine sp 1 [(33, .int .i64 (t.getD (k) 0))] ?_
      refine sd (diI 34 6 (t.getD (k) 0) y1_r.addr) ?_
      refine sp 1 [(35, .pointer (some ⟨y1_b, y1_o + ((t.getD (k) 0 : Int).toNat) * 6 + 4, none⟩))] ?_
      refine sd (dl 36 (cars_get y1_r ((t.getD (k) 0 : Int).toNat) (by omega) 4 (by decide) (v := .bool ((Y.cars.getD ((t.getD (k) 0 : Int).toNat) noCar).pipe)) rfl)) ?_
      refine sp 2 [(6, .bool ((Y.cars.getD ((t.getD (k) 0 : Int).toNat) noCar).pipe))] ?_
      refine ee ?_
      refine pst_normal_block ?_
      refine pst_next ?_
      refine rr ?_
      refine sd (da 38 (↑k) (1)) ?_
      refine sp 1 [(11, .int .i64 (↑k + 1))] ?_
      refine ee ?_
      refine pst_back (t.length - (k+1)) (by omega) ?_
      intro a w hS hD hW
      exact ⟨J0, k+1, out, ((Y.cars.getD ((t.getD (k) 0 : Int).toNat) noCar).pipe), .slice ov0_5_a out.length ov0_5_c, oM0_5, hJ0, by omega, hr.trans (by rw [goCold_no (k := k) (by omega) h3_r, h5]; try simp only [Bool.true_and, Bool.false_and, List.append_assoc, List.cons_append, List.nil_append]; try rfl), by omega, oh0_5, hS.sub (.consE 5 rfl rfl (.consE 6 rfl rfl (.consE 11 rfl rfl (.cons 2 rfl (.cons 4 rfl (.cons 9 rfl (.cons 10 rfl (.nil _)))))))), hD, hW, rfl⟩
     ·
      have h5_b := h5
      refine sp 8 [(6, .bool (false))] ?_
      refine ee ?_
      refine pst_normal_block ?_
      refine pst_next ?_
      refine rr ?_
      refine sd (da 38 (↑k) (1)) ?_
      refine sp 1 [(11, .int .i64 (↑k + 1))] ?_
      refine ee ?_
      refine pst_back (t.length - (k+1)) (by omega) ?_
      intro a w hS hD hW
      exact ⟨J0, k+1, out, (false), .slice ov0_5_a out.length ov0_5_c, oM0_5, hJ0, by omega, hr.trans (by rw [goCold_no (k := k) (by omega) h3_r, h5]; try simp only [Bool.true_and, Bool.false_and, List.append_assoc, List.cons_append, List.nil_append]; try rfl), by omega, oh0_5, hS.sub (.consE 5 rfl rfl (.consE 6 rfl rfl (.consE 11 rfl rfl (.cons 2 rfl (.cons 4 rfl (.cons 9 rfl (.cons 10 rfl (.nil _)))))))), hD, hW, rfl⟩
  ·
   have h1_r := h1
   have h1 := lss_f h1
   refine rexit 0 ?_
   refine (pst_exit_pass (pst_exit_pass (pst_exit_block ?_)))
   refine pst_next ?_
   refine rqr ?_
   refine sp 2 [(4, .slice ov0_5_a out.length ov0_5_c)] ?_
   refine se ?_
   refine rret ?_
   refine ppm (M' := ((oM0_5 ++ (b1, Obj.cells #[.slice y1_a Y.cars.length y1_c, .slice y2_a Y.room.length y2_c, .slice y3_a Y.tracks.length y3_c] 26 (0, 0)) :: F))) (List.perm_middle.symm) ?_
   refine pst_ret1 (t := 4) (oM0_5) (by kernel_rfl) rfl (List.Sublist.append_left (List.Sublist.cons _ (List.Sublist.refl _)) _) hJ0 ?_
   exact ⟨_, _, rfl, rfl, ((show out = coldOf Y.cars t from (hr.trans (by rw [goCold_done (by omega), List.append_nil])).symm) ▸ oh0_5)⟩

noncomputable def c_isNaN (p : List Nat) : Code := sub (bodyOf Tryd.f81) p
theorem isNaN_ct (I : Imm) (n : Int) : CtV Tryd.prog 81 #[.int .i64 n] I (.bool (false)) := by
 refine fn_of_run (fn := Tryd.f81) (args := [_]) (N := 6) Tryd.func81 rfl (by kernel_rfl) (Nat.le_of_ble_eq_true rfl) (fun F => ?_)
 show Run _ _ (c_isNaN []) _ _ [(0, .int .i64 (n))] _ _
 refine rnm ?_
 refine rqr ?_
 refine sp 1 [(2, .bool (false))] ?_
 refine sn ?_
 refine sp 4 [(2, .bool (!(cmp .eql (n) (n))))] ?_
 refine se ?_
 refine rret ?_
 refine pst_ret1 (t := 2) [] (by kernel_rfl) rfl (List.Sublist.refl _) (Imm.le.refl _) ?_
 exact ⟨by simp [cmp], rfl⟩

noncomputable def c_cmpI (p : List Nat) : Code := sub (bodyOf Tryd.f69) p
theorem cmpI_ct (I : Imm) (n : Int) (m : Int) : CtV Tryd.prog 69 #[.int .i64 n, .int .i64 m] I (.int .i64 (cmpI n m)) := by
 refine fn_of_run (fn := Tryd.f69) (args := [_, _]) (N := 20) Tryd.func69 rfl (by kernel_rfl) (Nat.le_of_ble_eq_true rfl) (fun F => ?_)
 show Run _ _ (c_cmpI []) _ _ [(0, .int .i64 (n)), (1, .int .i64 (m))] _ _
 refine rnm ?_
 refine rqr ?_
 refine sp 1 [(4, .int .i64 (0))] ?_
 refine sn ?_
 refine sp 1 [(7, .int .i64 (n))] ?_
 refine sd (dc 8 (fun I' hI => (isNaN_ct I' (n) :))) ?_
 refine sp 1 [(5, .bool (false))] ?_
 refine sn ?_
 refine sp 1 [(9, .int .i64 (m))] ?_
 refine sd (dc 10 (fun I' hI => (isNaN_ct I' (m) :))) ?_
 refine sp 1 [(6, .bool (false))] ?_
 refine se ?_
 refine rq ?_
 refine rqr ?_
 refine sp 1 [(11, .bool (false))] ?_
 refine se ?_
 refine rcf 11 rfl ?_
 refine rskip ?_
 refine pst_next ?_
 refine rq ?_
 refine rqr ?_
 refine sp 1 [(13, .bool (false))] ?_
 refine se ?_
 refine rcf 13 rfl ?_
 refine rskip ?_
 refine pst_next ?_
 refine rq ?_
 refine rqr ?_
 refine sp 3 [(16, .bool (cmp .lss (n) (m)))] ?_
 refine se ?_
 refine rc 16 rfl (fun h1 => ?_) (fun h1 => ?_)
 ·
  have h1_r := h1
  have h1 := lss_t h1
  refine rqr ?_
  refine sp 1 [(4, .int .i64 ((-1)))] ?_
  refine se ?_
  refine rret ?_
  refine (pst_ret_pass ?_)
  refine pst_ret1 (t := 4) [] (by kernel_rfl) rfl (List.Sublist.refl _) (Imm.le.refl _) ?_
  exact ⟨congrArg (Value.int .i64) (show (-1 : Int) = cmpI n m by unfold cmpI; rw [if_pos (by omega)]), rfl⟩
 ·
  have h1_r := h1
  have h1 := lss_f h1
  refine rskip ?_
  refine pst_next ?_
  refine rq ?_
  refine rqr ?_
  refine sp 3 [(19, .bool (cmp .gtr (n) (m)))] ?_
  refine se ?_
  refine rc 19 rfl (fun h2 => ?_) (fun h2 => ?_)
  ·
   have h2_r := h2
   have h2 := gtr_t h2
   refine rqr ?_
   refine sp 1 [(4, .int .i64 (1))] ?_
   refine se ?_
   refine rret ?_
   refine (pst_ret_pass ?_)
   refine pst_ret1 (t := 4) [] (by kernel_rfl) rfl (List.Sublist.refl _) (Imm.le.refl _) ?_
   exact ⟨congrArg (Value.int .i64) (show (1 : Int) = cmpI n m by unfold cmpI; rw [if_neg (by omega), if_pos (by omega)]), rfl⟩
  ·
   have h2_r := h2
   have h2 := gtr_f h2
   refine rskip ?_
   refine pst_next ?_
   refine rqr ?_
   refine sp 1 [(4, .int .i64 (0))] ?_
   refine se ?_
   refine rret ?_
   refine pst_ret1 (t := 4) [] (by kernel_rfl) rfl (List.Sublist.refl _) (Imm.le.refl _) ?_
   exact ⟨congrArg (Value.int .i64) (show (0 : Int) = cmpI n m by unfold cmpI; rw [if_neg (by omega), if_neg (by omega)]), rfl⟩

noncomputable def c_cmpL (p : List Nat) : Code := sub (bodyOf Tryd.f40) p
theorem cmpL_ct (I : Imm) (a : Value) (xs : List Int) (b : Value) (ys : List Int) (a_f : IsInts I a xs) (b_f : IsInts I b ys) : CtV Tryd.prog 40 #[a, b] I (.int .i64 (cmpL xs ys)) := by
 obtain ⟨a_a, a_c, a_b, a_o, a_e, a_l, a_m, a_r⟩ := id a_f
 subst a_e
 obtain ⟨b_a, b_c, b_b, b_o, b_e, b_l, b_m, b_r⟩ := id b_f
 subst b_e
 refine fn_of_run (fn := Tryd.f40) (args := [_, _]) (N := 36) Tryd.func40 rfl (by kernel_rfl) (Nat.le_of_ble_eq_true rfl) (fun F => ?_)
 show Run _ _ (c_cmpL []) _ _ [(0, .slice a_a xs.length a_c), (1, .slice b_a ys.length b_c)] _ _
 refine rnm ?_
 refine rqr ?_
 refine sp 1 [(4, .int .i64 (0))] ?_
 refine se ?_
 refine rq ?_
 refine rqr ?_
 refine sp 3 [(11, .int .i64 (0)), (10, .int .i64 (↑(xs.length))), (9, .slice a_a xs.length a_c)] ?_
 refine se ?_
 refine rb 0 ?_
 refine rl (fun mz a w => ∃ k : Nat, (k ≤ xs.length) ∧ (k ≤ ys.length) ∧ (cmpL xs ys = cmpL (xs.drop k) (ys.drop k)) ∧ Slots 36 [(11, .int .i64 ↑k), (0, .slice a_a xs.length a_c), (1, .slice b_a ys.length b_c), (9, .slice a_a xs.length a_c), (10, .int .i64 (↑(xs.length)))] a ∧ a.defers = [] ∧ St I (F) w ∧ mz = xs.length - k) ?_ ?_
 ·intro a w hS hD hW
  exact ⟨_, 0, Nat.zero_le _, Nat.zero_le _, rfl, hS.sub (.cons 11 rfl (.cons 0 rfl (.cons 1 rfl (.cons 9 rfl (.cons 10 rfl (.nil _)))))), hD, hW, rfl⟩
 ·rintro mz a w ⟨k, hk, hk2, hr, hS, hD, hW, rfl⟩
  refine run_at hS hD hW ?_
  clear hS hD hW a w
  refine rqr ?_
  refine sp 1 [(12, .bool (cmp .lss (↑k) (↑(xs.length))))] ?_
  refine se ?_
  refine rq ?_
  refine rc 12 rfl (fun h1 => ?_) (fun h1 => ?_)
  ·
   have h1_r := h1
   have h1 := lss_t h1
   refine rskip ?_
   refine pst_next ?_
   refine rq ?_
   refine rb 1 ?_
   refine rqr ?_
   refine sp 1 [(13, .int .i64 (↑k))] ?_
   refine sd (di 14 1 (k) a_r.addr) ?_
   refine sd (dl 15 (ints_get a_r (k) (by omega))) ?_
   refine sp 2 [(6, .int .i64 (xs.getD (k) 0)), (5, .int .i64 (↑k))] ?_
   refine se ?_
   refine rq ?_
   refine rqr ?_
   refine sp 4 [(19, .bool (cmp .geq (↑k) (↑(ys.length))))] ?_
   refine se ?_
   refine rc 19 rfl (fun h2 => ?_) (fun h2 => ?_)
   ·
    have h2_r := h2
    have h2 := geq_t h2
    refine rqr ?_
    refine sp 1 [(4, .int .i64 (1))] ?_
    refine se ?_
    refine rret ?_
    refine (pst_ret_pass (pst_ret_block (pst_ret_pass (pst_ret_pass (pst_ret_block (pst_ret_pass ?_))))))
    refine pst_ret1 (t := 4) [] (by kernel_rfl) rfl (List.Sublist.refl _) (Imm.le.refl _) ?_
    exact ⟨congrArg (Value.int .i64) (show (1 : Int) = cmpL xs ys from (hr.trans (cmpL_more (by omega) (by omega))).symm), rfl⟩
   ·
    have h2_r := h2
    have h2 := geq_f h2
    refine rskip ?_
    refine pst_next ?_
    refine rqr ?_
    refine sp 2 [(21, .int .i64 (↑k)), (20, .slice b_a ys.length b_c)] ?_
    refine sd (di 22 1 (k) b_r.addr) ?_
    refine sd (dl 23 (ints_get b_r (k) (by omega))) ?_
    refine sp 1 [(7, .int .i64 (ys.getD (k) 0))] ?_
    refine sn ?_
    refine sp 2 [(25, .int .i64 (ys.getD (k) 0)), (24, .int .i64 (xs.getD (k) 0))] ?_
    refine sd (dc 26 (fun I' hI => (cmpI_ct I' (xs.getD (k) 0) (ys.getD (k) 0) :))) ?_
    refine sp 1 [(8, .int .i64 ((cmpI (xs.getD (k) 0) (ys.getD (k) 0))))] ?_
    refine sn ?_
    refine sp 2 [(28, .bool (!(cmp .eql ((cmpI (xs.getD (k) 0) (ys.getD (k) 0))) (0))))] ?_
    refine se ?_
    refine rc 28 rfl (fun h3 => ?_) (fun h3 => ?_)
    ·
     have h3_r := h3
     have h3 := not_t h3
     have h3 := eql_f h3
     refine rqr ?_
     refine sp 2 [(4, .int .i64 ((cmpI (xs.getD (k) 0) (ys.getD (k) 0))))] ?_
     refine se ?_
     refine rret ?_
     refine (pst_ret_block (pst_ret_pass (pst_ret_pass (pst_ret_block (pst_ret_pass ?_)))))
     refine pst_ret1 (t := 4) [] (by kernel_rfl) rfl (List.Sublist.refl _) (Imm.le.refl _) ?_
     exact ⟨congrArg (Value.int .i64) (show cmpI (xs.getD k 0) (ys.getD k 0) = cmpL xs ys from (hr.trans (cmpL_diff (by omega) (by omega) h3)).symm), rfl⟩
    ·
     have h3_r := h3
     have h3 := not_f h3
     have h3 := eql_t h3
     refine rskip ?_
     refine pst_normal_block ?_
     refine pst_next ?_
     refine rr ?_
     refine sd (da 30 (↑k) (1)) ?_
     refine sp 1 [(11, .int .i64 (↑k + 1))] ?_
     refine ee ?_
     refine pst_back (xs.length - (k+1)) (by omega) ?_
     intro a w hS hD hW
     exact ⟨k+1, by omega, by omega, hr.trans (cmpL_next (by omega) (by omega) h3), hS.sub (.consE 11 rfl rfl (.cons 0 rfl (.cons 1 rfl (.cons 9 rfl (.cons 10 rfl (.nil _)))))), hD, hW, rfl⟩
  ·
   have h1_r := h1
   have h1 := lss_f h1
   refine rexit 0 ?_
   refine (pst_exit_pass (pst_exit_pass (pst_exit_block ?_)))
   refine pst_next ?_
   refine rq ?_
   refine rqr ?_
   refine sp 5 [(35, .bool (cmp .lss (↑(xs.length)) (↑(ys.length))))] ?_
   refine se ?_
   refine rc 35 rfl (fun h4 => ?_) (fun h4 => ?_)
   ·
    have h4_r := h4
    have h4 := lss_t h4
    refine rqr ?_
    refine sp 1 [(4, .int .i64 ((-1)))] ?_
    refine se ?_
    refine rret ?_
    refine (pst_ret_pass ?_)
    refine pst_ret1 (t := 4) [] (by kernel_rfl) rfl (List.Sublist.refl _) (Imm.le.refl _) ?_
    exact ⟨congrArg (Value.int .i64) (show (-1 : Int) = cmpL xs ys from (hr.trans (cmpL_less (by omega) (by omega))).symm), rfl⟩
   ·
    have h4_r := h4
    have h4 := lss_f h4
    refine rskip ?_
    refine pst_next ?_
    refine rqr ?_
    refine sp 1 [(4, .int .i64 (0))] ?_
    refine se ?_
    refine rret ?_
    refine pst_ret1 (t := 4) [] (by kernel_rfl) rfl (List.Sublist.refl _) (Imm.le.refl _) ?_
    exact ⟨congrArg (Value.int .i64) (show (0 : Int) = cmpL xs ys from (hr.trans (cmpL_same (by omega) (by omega))).symm), rfl⟩

end Go.Proofs.YtcaocbhbofejnaaDoor
namespace Go.Proofs.YtcaocbhbofejnaaDoor
open Go Go.Sl Go.Sh
set_option maxRecDepth 100000
noncomputable def c_Grow (p : List Nat) : Code := sub (bodyOf Tryd.f66) p
theorem Grow_ct (I : Imm) (n : Nat) (hn : n ≤ 1000000) : Ct Tryd.prog 66 #[.slice none 0 0, .int .i64 ↑n] I [] (fun v I' M' => ∃ Ms, M' = Ms ∧ Own 3 1 intCell v ([] : List Int) Ms) := by
 refine fn_of_run (fn := Tryd.f66) (args := [_, _]) (N := 27) Tryd.func66 rfl (by kernel_rfl) (Nat.le_of_ble_eq_true rfl) (fun F => ?_)
 show Run _ _ (c_Grow []) _ _ [(0, .slice none 0 0), (1, .int .i64 (↑n))] _ _
 refine rnm ?_
 refine rqr ?_
 refine sp 1 [(4, .slice none 0 0)] ?_
 refine se ?_
 refine rq ?_
 refine rqr ?_
 refine sp 2 [(6, .bool (cmp .lss (↑n) (0)))] ?_
 refine se ?_
 refine rc 6 rfl (fun h1 => ?_) (fun h1 => ?_)
 ·
  have h1_r := h1
  have h1 := lss_t h1
  exfalso; omega
 ·
  have h1_r := h1
  have h1 := lss_f h1
  refine rskip ?_
  refine pst_next ?_
  refine rq ?_
  refine rqr ?_
  refine sp 5 [(12, .int .i64 (0)), (10, .int .i64 (0)), (8, .int .i64 (↑n))] ?_
  refine sd (dsb 13 (0) (0)) ?_
  refine sd (dsb 14 (↑n) (0 - 0)) ?_
  refine seq_re 14 rfl (show (.int .i64 (↑n - (0 - 0)) : Value) = .int .i64 (↑n) from congrArg (Value.int .i64) (by omega)) ?_
  refine sp 1 [(1, .int .i64 (↑n))] ?_
  refine sn ?_
  refine sp 2 [(16, .bool (cmp .gtr (↑n) (0)))] ?_
  refine se ?_
  refine rc 16 rfl (fun h2 => ?_) (fun h2 => ?_)
  ·
   have h2_r := h2
   have h2 := gtr_t h2
   refine rr ?_
   refine sp 3 [(19, .int .i64 (0)), (17, .slice none 0 0)] ?_
   refine sd (det_eq (det_slice (x := .tmp 17) (lo := none) (hi := some (.tmp 19)) (T := 22) (e := 3) (sz := 1) 0 0 (d := 20) (ty := 22) (gd := none) (by kernel_rfl) rfl (by kernel_rfl) (by kernel_rfl) rfl (.inl ⟨rfl, rfl⟩) (.inr ⟨_, .i64, rfl, rfl⟩) (Nat.le_refl _) (Nat.le_refl _)) (show _ = Value.slice none 0 0 from rfl)) ?_
   refine sp 1 [(21, .int .i64 (↑n))] ?_
   refine sS (stp_appendN (x := .tmp 20) (y := .tmp 21) (T := 22) (T' := 3) (E := 3) (bs := 8) (n := n) (z := .int .i64 0) (d := 22) (ty := 22) (gd := none) (by kernel_rfl) rfl (by kernel_rfl) (by kernel_rfl) (by kernel_rfl) rfl (by kernel_rfl) (by decide) (by kernel_rfl) rfl rfl ⟨by omega, hn⟩ (fun gb nc zs hnc hzs => ?_))
   show Seq _ _ _ _ _ _ ((22, .slice (some ⟨gb, 0, none⟩) n nc) :: _) _ _
   refine sp 2 [(24, .int .i64 (0))] ?_
   refine sd (det_eq (det_slice (x := .tmp 22) (lo := none) (hi := some (.tmp 24)) (T := 22) (e := 3) (sz := 1) 0 0 (d := 25) (ty := 22) (gd := none) (by kernel_rfl) rfl (by kernel_rfl) (by kernel_rfl) rfl (.inl ⟨rfl, rfl⟩) (.inr ⟨_, .i64, rfl, rfl⟩) (Nat.le_refl _) (Nat.zero_le _)) (show _ = Value.slice (some ⟨gb, 0, none⟩) 0 nc by simp [addr_add])) ?_
   have hoG : Own 3 1 intCell (.slice (some ⟨gb, 0, none⟩) 0 nc) ([] : List Int) [(gb, Obj.cells (List.toArray zs) 3 (0, 0))] := Own.empty hzs
   refine seq_mem (M' := (([(gb, Obj.cells (List.toArray zs) 3 (0, 0))] ++ F))) (fun w h => h) ?_
   refine sp 1 [(0, .slice (some ⟨gb, 0, none⟩) 0 nc)] ?_
   refine sn ?_
   refine sp 2 [(4, .slice (some ⟨gb, 0, none⟩) 0 nc)] ?_
   refine se ?_
   refine rret ?_
   refine pst_ret1 (t := 4) ([(gb, Obj.cells (List.toArray zs) 3 (0, 0))]) (by kernel_rfl) rfl (List.Sublist.cons_cons _ (List.Sublist.refl _)) (Imm.le.refl _) ?_
   exact ⟨_, rfl, hoG⟩
  ·
   have h2_r := h2
   have h2 := gtr_f h2
   refine rskip ?_
   refine pst_next ?_
   refine rqr ?_
   refine sp 2 [(4, .slice none 0 0)] ?_
   refine se ?_
   refine rret ?_
   refine pst_ret1 (t := 4) ([]) (by kernel_rfl) rfl (List.Sublist.refl _) (Imm.le.refl _) ?_
   exact ⟨[], rfl, Own.nil _ _ _⟩

noncomputable def c_Concat (p : List Nat) : Code := sub (bodyOf Tryd.f36) p
theorem Concat_ct (I : Imm) (s : Value) (xss : List (List Int)) (s_f : IsRows I s xss) (hl : xss.flatten.length ≤ 1000000) : Ct Tryd.prog 36 #[s] I ([]) (fun v I' M' => ∃ u : Value, ∃ Ms : Seg, v = u ∧ M' = Ms ∧ Own 3 1 intCell u (xss.flatten) Ms) := by
 obtain ⟨s_a, s_c, s_b, s_o, s_vs, s_e, s_l, s_m, s_r, s_w⟩ := id s_f
 subst s_e
 refine fn_of_run (fn := Tryd.f36) (args := [_]) (N := 36) Tryd.func36 rfl (by kernel_rfl) (Nat.le_of_ble_eq_true rfl) (fun F => ?_)
 show Run _ _ (c_Concat []) _ _ [(0, .slice s_a xss.length s_c)] _ _
 refine rnm ?_
 refine rqr ?_
 refine sp 1 [(2, .slice none 0 0)] ?_
 refine sn ?_
 refine sp 1 [(3, .int .i64 (0))] ?_
 refine se ?_
 refine rq ?_
 refine rqr ?_
 refine sp 3 [(11, .int .i64 (0)), (10, .int .i64 (↑(xss.length))), (9, .slice s_a xss.length s_c)] ?_
 refine se ?_
 refine rb 0 ?_
 refine rl (fun mz a w => ∃ k : Nat, (k ≤ xss.length) ∧ Slots 36 [(3, .int .i64 (↑(xss.take k).flatten.length)), (11, .int .i64 ↑k), (0, .slice s_a xss.length s_c), (2, .slice none 0 0), (9, .slice s_a xss.length s_c), (10, .int .i64 (↑(xss.length)))] a ∧ a.defers = [] ∧ St I (F) w ∧ mz = xss.length - k) ?_ ?_
 ·intro a w hS hD hW
  exact ⟨_, 0, Nat.zero_le _, hS.sub (.cons 3 rfl (.cons 11 rfl (.cons 0 rfl (.cons 2 rfl (.cons 9 rfl (.cons 10 rfl (.nil _))))))), hD, hW, rfl⟩
 ·rintro mz a w ⟨k, hk, hS, hD, hW, rfl⟩
  refine run_at hS hD hW ?_
  clear hS hD hW a w
  refine rqr ?_
  refine sp 1 [(12, .bool (cmp .lss (↑k) (↑(xss.length))))] ?_
  refine se ?_
  refine rq ?_
  refine rc 12 rfl (fun h1 => ?_) (fun h1 => ?_)
  ·
   have h1_r := h1
   have h1 := lss_t h1
   refine rskip ?_
   refine pst_next ?_
   refine rq ?_
   refine rb 1 ?_
   refine rqr ?_
   refine sd (di 13 1 (k) s_r.addr) ?_
   have r1_f := s_w (k) (by omega)
   obtain ⟨r1_a, r1_c, r1_b, r1_o, r1_e, r1_l, r1_m, r1_r⟩ := id r1_f
   rw [r1_e] at r1_f
   refine sd (det_eq (dl 14 (rows_get s_r (k) (by omega))) r1_e) ?_
   refine sp 1 [(5, .slice r1_a (xss.getD (k) []).length r1_c)] ?_
   refine sn ?_
   refine sp 3 [(17, .int .i64 (↑((xss.getD (k) []).length))), (15, .int .i64 (↑(xss.take k).flatten.length))] ?_
   refine sd (da 18 (↑(xss.take k).flatten.length) (↑((xss.getD (k) []).length)) (hr := by have hq := flat_le xss k (by omega); omega)) ?_
   refine sp 1 [(3, .int .i64 ((↑(xss.take k).flatten.length) + (↑((xss.getD (k) []).length))))] ?_
   refine sn ?_
   refine sp 2 [(20, .bool (cmp .lss ((↑(xss.take k).flatten.length) + (↑((xss.getD (k) []).length))) (0)))] ?_
   refine se ?_
   refine rc 20 rfl (fun h2 => ?_) (fun h2 => ?_)
   ·
    have h2_r := h2
    have h2 := lss_t h2
    exfalso; omega
   ·
    have h2_r := h2
    have h2 := lss_f h2
    refine rskip ?_
    refine pst_normal_block ?_
    refine pst_next ?_
    refine rr ?_
    refine sd (da 22 (↑k) (1)) ?_
    refine sp 1 [(11, .int .i64 (↑k + 1))] ?_
    refine ee ?_
    refine pst_back (xss.length - (k+1)) (by omega) ?_
    intro a w hS hD hW
    exact ⟨k+1, by omega, hS.sub (.consE 3 rfl (congrArg (Value.int .i64) (flat_succ (by omega)).symm) (.consE 11 rfl rfl (.cons 0 rfl (.cons 2 rfl (.cons 9 rfl (.cons 10 rfl (.nil _))))))), hD, hW, rfl⟩
  ·
   have h1_r := h1
   have h1 := lss_f h1
   refine rexit 0 ?_
   refine (pst_exit_pass (pst_exit_pass (pst_exit_block ?_)))
   refine pst_next ?_
   refine rqr ?_
   refine sp 1 [(23, .int .i64 (↑(xss.take k).flatten.length))] ?_
   have hfl : (xss.take k).flatten = xss.flatten := by rw [take_done (by omega)]
   rw [hfl]
   have hct5 := Grow_ct I xss.flatten.length hl
   refine sS (stp_call (d := (some 24)) (f := (.func 66)) (fid := 66) (args := #[(.const (.slice none 0 0)), (.tmp 23)]) (tys := #[22, 3]) (cv := []) (F := (F)) (ty := 22) (gd := none) (by kernel_rfl) rfl rfl rfl (by kernel_rfl) rfl hct5 (List.Perm.refl _) (fun rv6 I2 rm7 hle3 hp4 => ?_))
   obtain ⟨gMs, hgm, gown⟩ := hp4
   replace s_r := s_r.mono hle3
   replace s_w := fun i hi => (s_w i hi).mono hle3
   rw [hgm]; clear hgm
   obtain ⟨rv_a, rv_c, rv_e, rv_l⟩ := gown.shape; subst rv_e
   refine nm ?_
   show Seq _ _ _ _ _ _ ((24, .slice rv_a (([] : List Int)).length rv_c) :: _) _ _
   refine sp 1 [(6, .slice rv_a (([] : List Int)).length rv_c)] ?_
   refine se ?_
   refine rq ?_
   refine rqr ?_
   refine sp 3 [(27, .int .i64 (0)), (26, .int .i64 (↑(xss.length))), (25, .slice s_a xss.length s_c)] ?_
   refine se ?_
   refine rb 2 ?_
   refine rl (fun mz a w => ∃ J1 : Imm, ∃ j : Nat, ∃ ov1_6 : Value, ∃ oM1_6 : Seg, (I2.le J1) ∧ (j ≤ xss.length) ∧ (Own 3 1 intCell ov1_6 ((xss.take j).flatten) oM1_6) ∧ Slots 36 [(6, ov1_6), (27, .int .i64 ↑j), (2, .slice none 0 0), (25, .slice s_a xss.length s_c), (26, .int .i64 (↑(xss.length)))] a ∧ a.defers = [] ∧ St J1 ((oM1_6 ++ F)) w ∧ mz = xss.length - j) ?_ ?_
   ·intro a w hS hD hW
    exact ⟨_, I2, 0, .slice rv_a (([] : List Int)).length rv_c, gMs, Imm.le.refl _, Nat.zero_le _, gown, hS.sub (.cons 6 rfl (.cons 27 rfl (.cons 2 rfl (.cons 25 rfl (.cons 26 rfl (.nil _)))))), hD, hW, rfl⟩
   ·rintro mz a w ⟨J1, j, ov1_6, oM1_6, hJ1, hj, oh1_6, hS, hD, hW, rfl⟩
    refine run_at hS hD hW ?_
    clear hS hD hW a w
    replace s_r := s_r.mono hJ1
    replace s_w := fun i hi => (s_w i hi).mono hJ1
    obtain ⟨ov1_6_a, ov1_6_c, ov1_6_e, ov1_6_l⟩ := oh1_6.shape; subst ov1_6_e
    refine rqr ?_
    refine sp 1 [(28, .bool (cmp .lss (↑j) (↑(xss.length))))] ?_
    refine se ?_
    refine rq ?_
    refine rc 28 rfl (fun h3 => ?_) (fun h3 => ?_)
    ·
     have h3_r := h3
     have h3 := lss_t h3
     refine rskip ?_
     refine pst_next ?_
     refine rq ?_
     refine rb 3 ?_
     refine rqr ?_
     refine sd (di 29 1 (j) s_r.addr) ?_
     have r8_f := s_w (j) (by omega)
     obtain ⟨r8_a, r8_c, r8_b, r8_o, r8_e, r8_l, r8_m, r8_r⟩ := id r8_f
     rw [r8_e] at r8_f
     refine sd (det_eq (dl 30 (rows_get s_r (j) (by omega))) r8_e) ?_
     refine sp 1 [(8, .slice r8_a (xss.getD (j) []).length r8_c)] ?_
     refine se ?_
     refine rr ?_
     refine sp 2 [(32, .slice r8_a (xss.getD (j) []).length r8_c), (31, .slice ov1_6_a ((xss.take j).flatten).length ov1_6_c)] ?_
     refine sS (stp_append (d := 33) (x := (.tmp 31)) (y := (.tmp 32)) (T := 22) (T' := 22) (E := 3) (E' := 3) (sz := 1) (bs := 8) (z := .int .i64 (0)) (cell := intCell) (xs := (xss.take j).flatten) (ys := xss.getD (j) []) (Ms := oM1_6) (ty := 22) (gd := none) (by kernel_rfl) rfl (by kernel_rfl) (by kernel_rfl) (by kernel_rfl) (by kernel_rfl) (by kernel_rfl) (by decide) (by kernel_rfl) rfl rfl (oh1_6) (List.Perm.refl _) (one_intCell _) r8_f.src (by first | omega | (have hq := flat_le xss j (by omega); omega)) (fun v9 Ms9 ho9 => ?_))
     refine nm ?_
     obtain ⟨oa9, oc9, oe9, ol9⟩ := ho9.shape
     subst oe9
     show Seq _ _ _ _ _ _ ((33, .slice oa9 (((xss.take j).flatten) ++ (xss.getD (j) [])).length oc9) :: _) _ _
     refine sp 1 [(6, .slice oa9 (((xss.take j).flatten) ++ (xss.getD (j) [])).length oc9)] ?_
     refine ee ?_
     refine pst_normal_block ?_
     refine pst_next ?_
     refine rr ?_
     refine sd (da 34 (↑j) (1)) ?_
     refine sp 1 [(27, .int .i64 (↑j + 1))] ?_
     refine ee ?_
     refine pst_back (xss.length - (j+1)) (by omega) ?_
     intro a w hS hD hW
     exact ⟨J1, j+1, .slice oa9 (((xss.take j).flatten) ++ (xss.getD (j) [])).length oc9, Ms9, hJ1, by omega, ((flat_take (xss := xss) (k := j) (by omega)).symm ▸ ho9), hS.sub (.consE 6 rfl rfl (.consE 27 rfl rfl (.cons 2 rfl (.cons 25 rfl (.cons 26 rfl (.nil _)))))), hD, hW, rfl⟩
    ·
     have h3_r := h3
     have h3 := lss_f h3
     refine rexit 2 ?_
     refine (pst_exit_pass (pst_exit_pass (pst_exit_block ?_)))
     refine pst_next ?_
     refine rqr ?_
     refine sp 2 [(2, .slice ov1_6_a ((xss.take j).flatten).length ov1_6_c)] ?_
     refine se ?_
     refine rret ?_
     refine pst_ret1 (t := 2) (oM1_6) (by kernel_rfl) rfl (List.Sublist.append_left (List.Sublist.refl _) _) (Imm.le.trans hle3 hJ1) ?_
     exact ⟨_, _, rfl, rfl, ((show (xss.take j).flatten = xss.flatten from by rw [take_done (by omega)]) ▸ oh1_6)⟩

end Go.Proofs.YtcaocbhbofejnaaDoor
namespace Go.Proofs.YtcaocbhbofejnaaDoor
open Go Go.Sl Go.Sh
set_option maxRecDepth 100000
def GrowAt (n : Nat) : Prop := ∀ (I : Imm) (bg : Value) (begun : List Int) (r : Nat) (es : Array MapEntry) (cl : Nat) (us : List Int) (b2 b3 b4 : Nat) (blv : Value) (bl : List (List Int)) (ov : Value) (ows : List Value) (oMs : Seg) (os : List (List Int)) (hb2 : I.blk b2 = some (Obj.cells #[blv] 24 (0, 0))) (hb4 : I.blk b4 = some (Obj.cells #[.func (.func 35) #[] #[.pointer (some ⟨b2, 0, none⟩), .pointer (some ⟨b3, 0, none⟩), .pointer (some ⟨b4, 0, none⟩)]] 70 (0, 0))) (blv_f : IsRows I blv bl) (bg_f : IsInts I bg begun) (his : MapIs encI es (trues us)) (oo : Own 22 1 valCell ov ows oMs) (orr : RowsV I ows os) (hn : us.length + n = bl.length) (hb5 : bl.length ≤ 5) (hbl : ∀ b ∈ bl, b.length ≤ 5) (hbb : begun.length ≤ 5 * us.length) (hos : os.length + (growM bl n begun us).length ≤ 1000000), Ct Tryd.prog 35 #[bg, .map (some r), .pointer (some ⟨b2, 0, none⟩), .pointer (some ⟨b3, 0, none⟩), .pointer (some ⟨b4, 0, none⟩)] I ((r, Obj.map es cl) :: (b3, Obj.cells #[ov] 24 (0, 0)) :: oMs) (fun v I' M' => ∃ (es' : Array MapEntry) (cl' : Nat) (ov' : Value) (ows' : List Value) (oMs' : Seg), v = .tuple #[] ∧ M' = (r, Obj.map es' cl') :: (b3, Obj.cells #[ov'] 24 (0, 0)) :: oMs' ∧ MapIs encI es' (trues us) ∧ Own 22 1 valCell ov' ows' oMs' ∧ RowsV I' ows' (os ++ growM bl n begun us))
noncomputable def c_Warm1 (p : List Nat) : Code := sub (bodyOf Tryd.f35) p
set_option maxHeartbeats 1000000 in
theorem grow_of (n : Nat) (ihn : ∀ m, m + 1 = n → GrowAt m) (I : Imm) (bg : Value) (begun : List Int) (r : Nat) (es : Array MapEntry) (cl : Nat) (us : List Int) (b2 b3 b4 : Nat) (blv : Value) (bl : List (List Int)) (ov : Value) (ows : List Value) (oMs : Seg) (os : List (List Int)) (hb2 : I.blk b2 = some (Obj.cells #[blv] 24 (0, 0))) (hb4 : I.blk b4 = some (Obj.cells #[.func (.func 35) #[] #[.pointer (some ⟨b2, 0, none⟩), .pointer (some ⟨b3, 0, none⟩), .pointer (some ⟨b4, 0, none⟩)]] 70 (0, 0))) (blv_f : IsRows I blv bl) (bg_f : IsInts I bg begun) (his : MapIs encI es (trues us)) (oo : Own 22 1 valCell ov ows oMs) (orr : RowsV I ows os) (hn : us.length + n = bl.length) (hb5 : bl.length ≤ 5) (hbl : ∀ b ∈ bl, b.length ≤ 5) (hbb : begun.length ≤ 5 * us.length) (hos : os.length + (growM bl n begun us).length ≤ 1000000) : Ct Tryd.prog 35 #[bg, .map (some r), .pointer (some ⟨b2, 0, none⟩), .pointer (some ⟨b3, 0, none⟩), .pointer (some ⟨b4, 0, none⟩)] I ((r, Obj.map es cl) :: (b3, Obj.cells #[ov] 24 (0, 0)) :: oMs) (fun v I' M' => ∃ (es' : Array MapEntry) (cl' : Nat) (ov' : Value) (ows' : List Value) (oMs' : Seg), v = .tuple #[] ∧ M' = (r, Obj.map es' cl') :: (b3, Obj.cells #[ov'] 24 (0, 0)) :: oMs' ∧ MapIs encI es' (trues us) ∧ Own 22 1 valCell ov' ows' oMs' ∧ RowsV I' ows' (os ++ growM bl n begun us)) := by
 obtain ⟨bg_a, bg_c, bg_b, bg_o, bg_e, bg_l, bg_m, bg_r⟩ := id bg_f
 subst bg_e
 obtain ⟨blv_a, blv_c, blv_b, blv_o, blv_vs, blv_e, blv_l, blv_m, blv_r, blv_w⟩ := id blv_f
 subst blv_e
 obtain ⟨ov_a, ov_c, ov_e, ov_l⟩ := oo.shape; subst ov_e
 have orr_len := orr.1
 try simp only [List.length_set, List.length_append, List.length_cons, List.length_nil, List.length_take] at orr_len
 refine fn_of_run (fn := Tryd.f35) (args := [_, _, _, _, _]) (N := 40) Tryd.func35 rfl (by kernel_rfl) (Nat.le_of_ble_eq_true rfl) (fun F => ?_)
 show Run _ _ (c_Warm1 []) _ _ [(0, .slice bg_a begun.length bg_c), (1, .map (some r)), (2, .pointer (some ⟨b2, 0, none⟩)), (3, .pointer (some ⟨b3, 0, none⟩)), (4, .pointer (some ⟨b4, 0, none⟩))] _ _
 refine run_mem (M' := ((r, Obj.map es cl) :: (b3, Obj.cells #[.slice ov_a ows.length ov_c] 24 (0, 0)) :: (oMs ++ F))) (fun w h => by simpa only [List.append_assoc, List.cons_append, List.nil_append] using h) ?_
 refine rnm ?_
 refine rq ?_
 refine rqr ?_
 refine sp 1 [(9, .map (some r))] ?_
 refine sd (det_eq (det_len_map (x := (.tmp 9)) (T := 71) (K := 3) (E := 4) (d := 10) (ty := 3) (gd := none) (by kernel_rfl) rfl (by kernel_rfl) rfl (.inl (List.mem_of_getElem? (i := 0) rfl))) (congrArg (fun n : Nat => Value.int .i64 ↑n) ((MapIs.size his).trans (trues_length _)))) ?_
 refine sd (det_load (v := .slice blv_a bl.length blv_c) (x := (.tmp 2)) (T := 24) (d := 11) (ty := 24) (gd := none) (by kernel_rfl) rfl (by kernel_rfl) rfl (sees_held hb2 rfl)) ?_
 refine sp 2 [(13, .bool (cmp .eql (↑(us.length)) (↑(bl.length))))] ?_
 refine se ?_
 refine rc 13 rfl (fun h1 => ?_) (fun h1 => ?_)
 ·
  have h1_r := h1
  have h1 := eql_t h1
  have hn0 : n = 0 := by omega
  refine rqr ?_
  refine sd (dlb 14 1 0 b3 (.slice ov_a ows.length ov_c)) ?_
  refine sp 1 [(15, .slice bg_a begun.length bg_c)] ?_
  refine sS (sbs 16 22 1 #[.slice bg_a begun.length bg_c] (fun b1 => ?_))
  refine sS (stp_append (d := 17) (x := (.tmp 14)) (y := (.tmp 16)) (T := 24) (T' := 24) (E := 22) (E' := 22) (sz := 1) (bs := 24) (z := .slice none 0 0) (cell := valCell) (xs := ows) (ys := [(.slice bg_a begun.length bg_c : Value)]) (Ms := oMs) (ty := 24) (gd := none) (by kernel_rfl) rfl (by kernel_rfl) (by kernel_rfl) (by kernel_rfl) (by kernel_rfl) (by kernel_rfl) (by decide) (by kernel_rfl) rfl rfl (oo) ((List.Perm.cons _ ((List.Perm.cons _ (List.perm_middle.symm)).trans (List.perm_middle.symm))).trans (List.perm_middle.symm)) (one_valCell rfl) (src_atS 0 rfl rfl) (by first | omega | (have hq := orr_len; have hq2 : (growM bl n begun us).length = 1 := (by rw [hn0]; rfl); simp only [List.length_cons, List.length_nil]; omega)) (fun v3 Ms3 ho3 => ?_))
  refine seq_mem (M' := ((r, Obj.map es cl) :: (b3, Obj.cells #[.slice ov_a ows.length ov_c] 24 (0, 0)) :: (Ms3 ++ F))) (fun w h => (h.perm (List.perm_middle.trans (List.Perm.cons _ (List.perm_middle.trans (List.Perm.cons _ List.perm_middle))))).sub (List.Sublist.cons _ (List.Sublist.refl _))) ?_
  obtain ⟨oa3, oc3, oe3, ol3⟩ := ho3.shape
  subst oe3
  show Seq _ _ _ _ _ _ ((17, .slice oa3 (ows ++ ([(.slice bg_a begun.length bg_c : Value)])).length oc3) :: _) _ _
  have orw4 := (orr).snoc bg_f
  refine sS (ss 1 0 b3 [.slice oa3 (ows ++ ([(.slice bg_a begun.length bg_c : Value)])).length oc3] [.slice oa3 (ows ++ ([(.slice bg_a begun.length bg_c : Value)])).length oc3] (_ :: _ :: _) (cs := [_]) rfl rfl ?_)
  refine se ?_
  refine rret ?_
  refine (pst_ret_pass ?_)
  refine pst_ret0 ([(r, Obj.map es cl)] ++ ([(b3, Obj.cells #[.slice oa3 (ows ++ ([(.slice bg_a begun.length bg_c : Value)])).length oc3] 24 (0, 0))] ++ (Ms3))) (by kernel_rfl) (by simp only [List.append_assoc, List.nil_append, List.cons_append]; exact (List.Sublist.cons_cons _ (List.Sublist.cons_cons _ (List.Sublist.append_left (List.Sublist.refl _) _)))) (Imm.le.refl _) ?_
  exact ⟨_, _, _, _, _, rfl, rfl, his, ho3, (show os ++ [begun] = os ++ growM bl n begun us from by rw [hn0]; rfl) ▸ orw4⟩
 ·
  have h1_r := h1
  have h1 := eql_f h1
  obtain ⟨m, hnm⟩ : ∃ m, n = m + 1 := ⟨n - 1, by omega⟩
  have ih := ihn m (by omega)
  refine rskip ?_
  refine pst_next ?_
  refine rqr ?_
  refine sd (det_load (v := .slice blv_a bl.length blv_c) (x := (.tmp 2)) (T := 24) (d := 18) (ty := 24) (gd := none) (by kernel_rfl) rfl (by kernel_rfl) rfl (sees_held hb2 rfl)) ?_
  refine sp 2 [(20, .int .i64 (0)), (19, .int .i64 (↑(bl.length)))] ?_
  refine se ?_
  refine rb 0 ?_
  refine rl (fun mz a w => ∃ J0 : Imm, ∃ k : Nat, ∃ os1 : List (List Int), ∃ ov1 : Value, ∃ ows1 : List Value, ∃ oM1 : Seg, ∃ es1 : Array MapEntry, ∃ cl1 : Nat, (I.le J0) ∧ (k ≤ bl.length) ∧ (os ++ growM bl n begun us = os1 ++ growFrom bl (growM bl m) begun us k) ∧ (MapIs encI es1 (trues us)) ∧ (Own 22 1 valCell ov1 ows1 oM1) ∧ (RowsV J0 ows1 os1) ∧ Slots 40 [(20, .int .i64 ↑k), (0, .slice bg_a begun.length bg_c), (1, .map (some r)), (4, .pointer (some ⟨b4, 0, none⟩)), (18, .slice blv_a bl.length blv_c), (19, .int .i64 (↑(bl.length)))] a ∧ a.defers = [] ∧ St J0 ((r, Obj.map es1 cl1) :: (b3, Obj.cells #[ov1] 24 (0, 0)) :: (oM1 ++ F)) w ∧ mz = bl.length - k) ?_ ?_
  ·intro a w hS hD hW
   exact ⟨_, I, 0, os, .slice ov_a ows.length ov_c, ows, oMs, es, cl, Imm.le.refl _, Nat.zero_le _, by rw [hnm]; rfl, his, oo, orr, hS.sub (.cons 20 rfl (.cons 0 rfl (.cons 1 rfl (.cons 4 rfl (.cons 18 rfl (.cons 19 rfl (.nil _))))))), hD, hW, rfl⟩
  ·rintro mz a w ⟨J0, k, os1, ov1, ows1, oM1, es1, cl1, hJ0, hk, hr, his1, oo1, or1, hS, hD, hW, rfl⟩
   refine run_at hS hD hW ?_
   clear hS hD hW a w
   replace hb2 := hJ0.blk _ _ hb2
   replace hb4 := hJ0.blk _ _ hb4
   replace bg_f := bg_f.mono hJ0
   replace blv_f := blv_f.mono hJ0
   replace blv_r := blv_r.mono hJ0
   replace blv_w := fun i hi => (blv_w i hi).mono hJ0
   obtain ⟨o1_a, o1_c, o1_e, o1_l⟩ := oo1.shape; subst o1_e
   have or1_len := or1.1
   try simp only [List.length_set, List.length_append, List.length_cons, List.length_nil, List.length_take] at or1_len
   refine rqr ?_
   refine sp 1 [(21, .bool (cmp .lss (↑k) (↑(bl.length))))] ?_
   refine se ?_
   refine rq ?_
   refine rc 21 rfl (fun h2 => ?_) (fun h2 => ?_)
   ·
    have h2_r := h2
    have h2 := lss_t h2
    refine rskip ?_
    refine pst_next ?_
    refine rq ?_
    refine rb 1 ?_
    refine rqr ?_
    refine sp 1 [(22, .int .i64 (↑k))] ?_
    refine sd (di 23 1 (k) blv_r.addr) ?_
    have r5_f := blv_w (k) (by omega)
    obtain ⟨r5_a, r5_c, r5_b, r5_o, r5_e, r5_l, r5_m, r5_r⟩ := id r5_f
    rw [r5_e] at r5_f
    refine sd (det_eq (dl 24 (rows_get blv_r (k) (by omega))) r5_e) ?_
    refine sp 2 [(8, .slice r5_a (bl.getD (k) []).length r5_c), (7, .int .i64 (↑k))] ?_
    refine se ?_
    refine rq ?_
    refine rqr ?_
    refine sp 2 [(26, .int .i64 (↑k)), (25, .map (some r))] ?_
    refine sd (det_lookup (x := (.tmp 25)) (y := (.tmp 26)) (T := 71) (kt := 3) (et := 4) (k := (↑k : Int)) (kvs := trues (us)) (z := .bool false) (d := 27) (ty := 4) (gd := none) (by kernel_rfl) rfl (by kernel_rfl) (keyOk_int (tyI64_spec (by kernel_rfl))) rfl rfl (by kernel_rfl) (.inl (List.mem_of_getElem? (i := 0) rfl)) his1 (getKv_trues _ _)) ?_
    refine se ?_
    refine rc 27 rfl (fun h3 => ?_) (fun h3 => ?_)
    ·
     have h3_r := h3
     have h3 := dec_t h3
     refine rexit 1 ?_
     refine (pst_exit_pass (pst_exit_block ?_))
     refine pst_next ?_
     refine rr ?_
     refine sd (da 39 (↑k) (1)) ?_
     refine sp 1 [(20, .int .i64 (↑k + 1))] ?_
     refine ee ?_
     refine pst_back (bl.length - (k+1)) (by omega) ?_
     intro a w hS hD hW
     exact ⟨J0, k+1, os1, (.slice o1_a ows1.length o1_c), ows1, oM1, es1, cl1, hJ0, by omega, hr.trans (by rw [growFrom_skip (by omega) h3]), his1, oo1, or1, hS.sub (.consE 20 rfl rfl (.cons 0 rfl (.cons 1 rfl (.cons 4 rfl (.cons 18 rfl (.cons 19 rfl (.nil _))))))), hD, hW, rfl⟩
    ·
     have h3_r := h3
     have h3 := dec_f h3
     refine rskip ?_
     refine pst_next ?_
     refine rqr ?_
     refine sp 2 [(29, .int .i64 (↑k)), (28, .map (some r))] ?_
     refine sS (stp_mapUpdate (x := (.tmp 28)) (y := (.tmp 29)) (u := (.const (.bool true))) (T := 71) (kt := 3) (et := 4) (k := (↑k : Int)) (kvs := trues (us)) 0 (ty := 0) (gd := none) (by kernel_rfl) rfl (by kernel_rfl) (keyOk_int (tyI64_spec (by kernel_rfl))) rfl rfl rfl rfl his1 (fun es6 cl6 his6 => ?_))
     rw [upd_trues] at his6
     rw [if_neg h3] at his6
     refine nm ?_
     refine se ?_
     refine rq ?_
     have hbk := hbl _ (getD_mem (d := []) (xs := bl) (k := k) (by omega))
     have hfl : [begun, bl.getD (k) []].flatten.length ≤ 1000000 := by simp only [List.flatten_cons, List.flatten_nil, List.length_append, List.length_nil]; omega
     refine rd 6 [(0, true), (1, true), (2, true), (5, true), (3, false), (4, false)] ((r, Obj.map es6 cl6) :: (b3, Obj.cells #[.slice o1_a ows1.length o1_c] 24 (0, 0)) :: []) ((oM1 ++ F)) ?_
     refine ofp_det (det_load (v := .func (.func 35) #[] #[.pointer (some ⟨b2, 0, none⟩), .pointer (some ⟨b3, 0, none⟩), .pointer (some ⟨b4, 0, none⟩)]) (x := (.tmp 4)) (T := 70) (d := 30) (ty := 70) (gd := none) (by kernel_rfl) rfl (by kernel_rfl) rfl (sees_held hb4 rfl)) ?_
     refine ox 3 [(35, .map (some r)), (32, .slice r5_a (bl.getD (k) []).length r5_c), (31, .slice bg_a begun.length bg_c)] ?_
     refine ofp_stpH (sbs 33 22 2 #[.slice bg_a begun.length bg_c, .slice r5_a (bl.getD (k) []).length r5_c] (fun b7 => ?_))
     refine hk_mem (M' := ((r, Obj.map es6 cl6) :: (b3, Obj.cells #[.slice o1_a ows1.length o1_c] 24 (0, 0)) :: ([(b7, Obj.cells #[.slice bg_a begun.length bg_c, .slice r5_a (bl.getD (k) []).length r5_c] 22 (0, 0))] ++ (oM1 ++ F)))) (fun w h => h.perm ((List.Perm.swap _ _ _).trans (List.Perm.cons _ (List.Perm.swap _ _ _)))) ?_
     have ho9 : Own 22 1 valCell (.slice (some ⟨b7, 0, none⟩) 2 2) ([(.slice bg_a begun.length bg_c : Value), (.slice r5_a (bl.getD (k) []).length r5_c : Value)] : List Value) [(b7, Obj.cells #[.slice bg_a begun.length bg_c, .slice r5_a (bl.getD (k) []).length r5_c] 22 (0, 0))] := Own.lit rfl rfl
     have orw10 := (((RowsV.nil J0).snoc bg_f).snoc r5_f)
     simp only [List.nil_append, List.cons_append] at orw10
     refine hk_freeze (B := ((r, Obj.map es6 cl6) :: (b3, Obj.cells #[.slice o1_a ows1.length o1_c] 24 (0, 0)) :: (oM1 ++ F))) undef ho9 (by first | omega | (simp only [List.length_set, List.length_cons, List.length_nil, List.length_append, List.length_take, List.length_drop] <;> omega) | decide) ((List.Perm.cons _ (List.perm_middle.symm)).trans (List.perm_middle.symm)) (List.Perm.refl _) (fun I11 hle12 fz13_f => ?_)
     replace hb2 := hle12.blk _ _ hb2
     replace hb4 := hle12.blk _ _ hb4
     replace blv_f := blv_f.mono hle12
     replace or1 := or1.mono hle12
     replace orw10 := orw10.mono hle12
     obtain ⟨fz13_a, fz13_c, fz13_b, fz13_o, fz13_e, fz13_l, fz13_m, fz13_r⟩ := id fz13_f
     cases fz13_e
     have fr14_f := orw10.isRows fz13_f
     have fr14_len := orw10.1
     obtain ⟨fr14_a, fr14_c, fr14_b, fr14_o, fr14_vs, fr14_e, fr14_l, fr14_m, fr14_r, fr14_w⟩ := id fr14_f
     injection fr14_e with fr14_e1 fr14_e2 fr14_e3; subst fr14_e1; subst fr14_e3
     refine hk_done ?_
     refine ofp_settle (S' := ((oM1 ++ F))) (List.Perm.refl _) ?_
     have hct25 := Concat_ct I11 _ _ fr14_f (by have hbk := hbl _ (getD_mem (d := []) (xs := bl) (k := k) (by omega)); simp only [List.flatten_cons, List.flatten_nil, List.length_append, List.length_nil]; omega)
     refine ofp_stpH (sc (some 34) (F := ((r, Obj.map es6 cl6) :: (b3, Obj.cells #[.slice o1_a ows1.length o1_c] 24 (0, 0)) :: (oM1 ++ F))) (hct25 :) (List.Perm.refl _) (fun rv23 I15 rm24 hle16 hp17 => ?_))
     obtain ⟨u20, Ms21, hv18, hm19, qh22⟩ := hp17
     rw [hv18, hm19]; clear hv18 hm19
     replace hb2 := hle16.blk _ _ hb2
     replace hb4 := hle16.blk _ _ hb4
     replace blv_f := blv_f.mono hle16
     replace or1 := or1.mono hle16
     obtain ⟨u20_a, u20_c, u20_e, u20_l⟩ := qh22.shape
     subst u20_e
     refine hk_mem (M' := ((Ms21 ++ (r, Obj.map es6 cl6) :: (b3, Obj.cells #[.slice o1_a ows1.length o1_c] 24 (0, 0)) :: (oM1 ++ F)))) (fun w h => by simpa only [List.append_assoc, List.cons_append, List.nil_append] using h) ?_
     refine hk_freeze (B := ((r, Obj.map es6 cl6) :: (b3, Obj.cells #[.slice o1_a ows1.length o1_c] 24 (0, 0)) :: (oM1 ++ F))) 0 qh22 (by first | omega | (simp only [List.length_set, List.length_cons, List.length_nil, List.length_append, List.length_take, List.length_drop] <;> omega) | decide) (List.Perm.refl _) (List.Perm.refl _) (fun I26 hle27 fz28_f => ?_)
     replace hb2 := hle27.blk _ _ hb2
     replace hb4 := hle27.blk _ _ hb4
     replace blv_f := blv_f.mono hle27
     replace or1 := or1.mono hle27
     obtain ⟨fz28_a, fz28_c, fz28_b, fz28_o, fz28_e, fz28_l, fz28_m, fz28_r⟩ := id fz28_f
     cases fz28_e
     refine hk_done ?_
     refine ofp_settle (S' := ((oM1 ++ F))) (List.Perm.refl _) ?_
     show OFP _ _ _ _ _ _ ((34, .slice u20_a (([begun, bl.getD (k) []]).flatten).length u20_c) :: _) _ _
     refine ofp_end ?_
     refine nm ?_
     refine nm ?_
     have hlen := congrArg List.length hr
     rw [growFrom_go (by omega) h3] at hlen; simp only [List.length_append] at hlen
     have hbk := hbl _ (getD_mem (d := []) (xs := bl) (k := k) (by omega))
     have hct32 := ih I26 _ (([begun, bl.getD (k) []]).flatten) r es6 cl6 (us ++ [(k : Int)]) b2 b3 b4 _ bl _ _ _ os1 hb2 hb4 blv_f fz28_f his6 oo1 or1 (by simp only [List.length_append, List.length_cons, List.length_nil]; omega) hb5 hbl (by simp only [List.length_append, List.length_cons, List.length_nil, List.flatten_cons, List.flatten_nil]; omega) (by simp only [List.flatten_cons, List.flatten_nil, List.append_nil]; omega)
     refine sS (stp_call (d := (some 36)) (f := (.tmp 30)) (fid := 35) (args := #[(.tmp 34), (.tmp 35)]) (tys := #[22, 71]) (cv := [.pointer (some ⟨b2, 0, none⟩), .pointer (some ⟨b3, 0, none⟩), .pointer (some ⟨b4, 0, none⟩)]) (F := (F)) (ty := 0) (gd := none) (by kernel_rfl) rfl rfl rfl (by kernel_rfl) rfl hct32 (by simpa only [List.append_assoc, List.cons_append, List.nil_append] using (List.Perm.refl _)) (fun rv33 I29 rm34 hle30 hp31 => ?_))
     obtain ⟨ges, gcl, gov, gows, goM, rfl, hgm, ghis, goo, gor⟩ := hp31
     replace hb2 := hle30.blk _ _ hb2
     replace hb4 := hle30.blk _ _ hb4
     replace or1 := or1.mono hle30
     rw [hgm]; clear hgm
     obtain ⟨gv_a, gv_c, gv_e, gv_l⟩ := goo.shape; subst gv_e
     have gor_len := gor.1
     try simp only [List.length_set, List.length_append, List.length_cons, List.length_nil, List.length_take] at gor_len
     refine seq_mem (M' := ((r, Obj.map ges gcl) :: (b3, Obj.cells #[.slice gv_a gows.length gv_c] 24 (0, 0)) :: (goM ++ F))) (fun w h => by simpa only [List.append_assoc, List.cons_append, List.nil_append] using h) ?_
     refine nm ?_
     show Seq _ _ _ _ _ _ ((36, .tuple #[]) :: _) _ _
     refine se ?_
     refine rr ?_
     refine sp 2 [(38, .int .i64 (↑k)), (37, .map (some r))] ?_
     refine sS (stp_delete (x := (.tmp 37)) (y := (.tmp 38)) (T := 71) (T' := 3) (kt := 3) (et := 4) (k := (↑k : Int)) (kvs := trues (us ++ [(k : Int)])) 0 (ty := 0) (gd := none) (by kernel_rfl) rfl (by kernel_rfl) (keyOk_int (tyI64_spec (by kernel_rfl))) rfl rfl rfl ghis (fun es35 cl35 his35 => ?_))
     rw [del_trues] at his35
     rw [erase_snoc h3] at his35
     refine nm ?_
     refine ee ?_
     refine pst_normal_block ?_
     refine pst_next ?_
     refine rr ?_
     refine sd (da 39 (↑k) (1)) ?_
     refine sp 1 [(20, .int .i64 (↑k + 1))] ?_
     refine ee ?_
     refine pst_back (bl.length - (k+1)) (by omega) ?_
     intro a w hS hD hW
     exact ⟨I29, k+1, os1 ++ growM bl m (([begun, bl.getD (k) []]).flatten) (us ++ [(k : Int)]), (.slice gv_a gows.length gv_c), gows, goM, es35, cl35, (Imm.le.trans (Imm.le.trans (Imm.le.trans (Imm.le.trans hJ0 hle12) hle16) hle27) hle30), by omega, hr.trans (by rw [growFrom_go (by omega) h3]; simp only [List.flatten_cons, List.flatten_nil, List.append_nil, List.append_assoc]), his35, goo, gor, hS.sub (.consE 20 rfl rfl (.cons 0 rfl (.cons 1 rfl (.cons 4 rfl (.cons 18 rfl (.cons 19 rfl (.nil _))))))), hD, hW, rfl⟩
   ·
    have h2_r := h2
    have h2 := lss_f h2
    refine rexit 0 ?_
    refine (pst_exit_pass (pst_exit_pass (pst_exit_block ?_)))
    refine pst_end0 ([(r, Obj.map es1 cl1)] ++ ([(b3, Obj.cells #[.slice o1_a ows1.length o1_c] 24 (0, 0))] ++ (oM1))) (by kernel_rfl) (by simp only [List.append_assoc, List.nil_append, List.cons_append]; exact (List.Sublist.cons_cons _ (List.Sublist.cons_cons _ (List.Sublist.append_left (List.Sublist.refl _) _)))) hJ0 ?_
    exact ⟨_, _, _, _, _, rfl, rfl, his1, oo1, (show os1 = os ++ growM bl n begun us from (hr.trans (by rw [growFrom_done (by omega), List.append_nil])).symm) ▸ or1⟩

theorem grow_all (n : Nat) : GrowAt n := by
 induction n with
 | zero => intro I bg begun r es cl us b2 b3 b4 blv bl ov ows oMs os hb2 hb4 blv_f bg_f his oo orr hn hb5 hbl hbb hos; exact grow_of 0 (fun m h => by omega) I bg begun r es cl us b2 b3 b4 blv bl ov ows oMs os hb2 hb4 blv_f bg_f his oo orr hn hb5 hbl hbb hos
 | succ n ih => intro I bg begun r es cl us b2 b3 b4 blv bl ov ows oMs os hb2 hb4 blv_f bg_f his oo orr hn hb5 hbl hbb hos; exact grow_of (n + 1) (fun m h => (show n = m by omega) ▸ ih) I bg begun r es cl us b2 b3 b4 blv bl ov ows oMs os hb2 hb4 blv_f bg_f his oo orr hn hb5 hbl hbb hos
end Go.Proofs.YtcaocbhbofejnaaDoor
namespace Go.Proofs.YtcaocbhbofejnaaDoor
open Go Go.Sl Go.Sh
set_option maxRecDepth 100000
noncomputable def c_Warm2 (p : List Nat) : Code := sub (bodyOf Tryd.f38) p
theorem Warm2_ct (I : Imm) (lv : Value) (l : List Int) (yb : Nat) (v1 v2 v3 : Value) (Y : Yard) (hyb : I.blk yb = some (Obj.cells #[v1, v2, v3] 26 (0, 0))) (v1_f : IsCars I v1 Y.cars) (v2_f : IsInts I v2 Y.room) (v3_f : IsRows I v3 Y.tracks) (lv_f : IsInts I lv l) (ho : Ok Y.cars l) (hl : l.length ≤ 1000000) : CtV Tryd.prog 38 #[lv, .pointer (some ⟨yb, 0, none⟩)] I (.int .i64 ↑(coldOf Y.cars l).length) := by
 obtain ⟨v1_a, v1_c, v1_b, v1_o, v1_e, v1_l, v1_m, v1_r⟩ := id v1_f
 subst v1_e
 obtain ⟨v2_a, v2_c, v2_b, v2_o, v2_e, v2_l, v2_m, v2_r⟩ := id v2_f
 subst v2_e
 obtain ⟨v3_a, v3_c, v3_b, v3_o, v3_vs, v3_e, v3_l, v3_m, v3_r, v3_w⟩ := id v3_f
 subst v3_e
 obtain ⟨lv_a, lv_c, lv_b, lv_o, lv_e, lv_l, lv_m, lv_r⟩ := id lv_f
 subst lv_e
 refine fn_of_run (fn := Tryd.f38) (args := [_, _]) (N := 8) Tryd.func38 rfl (by kernel_rfl) (Nat.le_of_ble_eq_true rfl) (fun F => ?_)
 show Run _ _ (c_Warm2 []) _ _ [(0, .slice lv_a l.length lv_c), (1, .pointer (some ⟨yb, 0, none⟩))] _ _
 refine rnm ?_
 refine rqr ?_
 refine sp 1 [(3, .int .i64 (0))] ?_
 refine sn ?_
 refine sd (det_loadN (x := (.tmp 1)) (T := 26) (n := 3) (vs := [.slice v1_a Y.cars.length v1_c, .slice v2_a Y.room.length v2_c, .slice v3_a Y.tracks.length v3_c]) (d := 4) (ty := 26) (gd := none) (by kernel_rfl) rfl (by kernel_rfl) (by kernel_rfl) rfl rfl (seesN_held (n := 3) hyb rfl)) ?_
 refine sp 1 [(5, .slice lv_a l.length lv_c)] ?_
 refine sS (sc (some 6) (F := (F)) (cold_ct _ _ (Y) _ _ (mkYard v1_f v2_f v3_f) lv_f (by exact ho) (by exact hl) :) (.refl _) (fun rv9 I1 rm10 hle2 hp3 => ?_))
 obtain ⟨u6, Ms7, hv4, hm5, qh8⟩ := hp3
 rw [hv4, hm5]; clear hv4 hm5
 replace hyb := hle2.blk _ _ hyb
 obtain ⟨u6_a, u6_c, u6_e, u6_l⟩ := qh8.shape
 subst u6_e
 refine nm ?_
 show Seq _ _ _ _ _ _ ((6, .slice u6_a (coldOf Y.cars l).length u6_c) :: _) _ _
 refine sp 2 [(3, .int .i64 (↑((coldOf Y.cars l).length)))] ?_
 refine se ?_
 refine rret ?_
 refine pst_ret1 (t := 3) [] (by kernel_rfl) rfl (List.Sublist.trans (List.Sublist.refl _) (List.sublist_append_right _ _)) hle2 ?_
 exact ⟨rfl, rfl⟩

noncomputable def c_least1 (p : List Nat) : Code := sub (bodyOf Tryd.f68) p
theorem least1_ct (I : Imm) (av bv : Value) (xs ys : List Int) (yb : Nat) (v1 v2 v3 : Value) (Y : Yard) (hyb : I.blk yb = some (Obj.cells #[v1, v2, v3] 26 (0, 0))) (v1_f : IsCars I v1 Y.cars) (v2_f : IsInts I v2 Y.room) (v3_f : IsRows I v3 Y.tracks) (nb2 nb3 : Nat) (hnb2 : I.blk nb2 = some (Obj.cells #[.func (.func 38) #[] #[.pointer (some ⟨yb, 0, none⟩)]] 75 (0, 0))) (hnb3 : I.blk nb3 = some (Obj.cells #[.func (.func 40) #[] #[]] 76 (0, 0))) (av_f : IsInts I av xs) (bv_f : IsInts I bv ys) (hox : Ok Y.cars xs) (hoy : Ok Y.cars ys) (hlx : xs.length ≤ 1000000) (hly : ys.length ≤ 1000000) : CtV Tryd.prog 68 #[av, bv, .pointer (some ⟨nb2, 0, none⟩), .pointer (some ⟨nb3, 0, none⟩)] I (.int .i64 (warmCmp Y.cars xs ys)) := by
 obtain ⟨v1_a, v1_c, v1_b, v1_o, v1_e, v1_l, v1_m, v1_r⟩ := id v1_f
 subst v1_e
 obtain ⟨v2_a, v2_c, v2_b, v2_o, v2_e, v2_l, v2_m, v2_r⟩ := id v2_f
 subst v2_e
 obtain ⟨v3_a, v3_c, v3_b, v3_o, v3_vs, v3_e, v3_l, v3_m, v3_r, v3_w⟩ := id v3_f
 subst v3_e
 obtain ⟨av_a, av_c, av_b, av_o, av_e, av_l, av_m, av_r⟩ := id av_f
 obtain ⟨bv_a, bv_c, bv_b, bv_o, bv_e, bv_l, bv_m, bv_r⟩ := id bv_f
 subst av_e; subst bv_e
 refine fn_of_run (fn := Tryd.f68) (args := [_, _, _, _]) (N := 22) Tryd.func68 rfl (by kernel_rfl) (Nat.le_of_ble_eq_true rfl) (fun F => ?_)
 show Run _ _ (c_least1 []) _ _ [(0, .slice av_a xs.length av_c), (1, .slice bv_a ys.length bv_c), (2, .pointer (some ⟨nb2, 0, none⟩)), (3, .pointer (some ⟨nb3, 0, none⟩))] _ _
 refine rnm ?_
 refine rqr ?_
 refine sp 1 [(6, .int .i64 (0))] ?_
 refine se ?_
 refine rq ?_
 refine rq ?_
 refine rd0 5 ?_
 refine ofp_det (det_load (v := .func (.func 38) #[] #[.pointer (some ⟨yb, 0, none⟩)]) (x := (.tmp 2)) (T := 75) (d := 8) (ty := 75) (gd := none) (by kernel_rfl) rfl (by kernel_rfl) rfl (sees_held hnb2 rfl)) ?_
 refine ox 1 [(9, .slice av_a xs.length av_c)] ?_
 refine ofp_det (dc 10 (fun I' hI => Warm2_ct I' _ _ yb _ _ _ Y (hI.blk _ _ hyb) (v1_f.mono hI) (v2_f.mono hI) (v3_f.mono hI) (av_f.mono hI) (by first | exact hox | exact hoy) (by omega))) ?_
 refine ofp_det (det_load (v := .func (.func 38) #[] #[.pointer (some ⟨yb, 0, none⟩)]) (x := (.tmp 2)) (T := 75) (d := 11) (ty := 75) (gd := none) (by kernel_rfl) rfl (by kernel_rfl) rfl (sees_held hnb2 rfl)) ?_
 refine ox 1 [(12, .slice bv_a ys.length bv_c)] ?_
 refine ofp_end0 ?_
 refine sd (dc 13 (fun I' hI => Warm2_ct I' _ _ yb _ _ _ Y (hI.blk _ _ hyb) (v1_f.mono hI) (v2_f.mono hI) (v3_f.mono hI) (bv_f.mono hI) (by first | exact hox | exact hoy) (by omega))) ?_
 refine sd (dsb 14 (↑(coldOf Y.cars xs).length) (↑(coldOf Y.cars ys).length) (hr := by have q1 := coldOf_le Y.cars xs; have q2 := coldOf_le Y.cars ys; omega)) ?_
 refine sp 1 [(7, .int .i64 ((↑(coldOf Y.cars xs).length) - (↑(coldOf Y.cars ys).length)))] ?_
 refine sn ?_
 refine sp 2 [(16, .bool (!(cmp .eql ((↑(coldOf Y.cars xs).length) - (↑(coldOf Y.cars ys).length)) (0))))] ?_
 refine se ?_
 refine rc 16 rfl (fun h1 => ?_) (fun h1 => ?_)
 ·
  have h1_r := h1
  have h1 := not_t h1
  have h1 := eql_f h1
  refine rqr ?_
  refine sp 2 [(6, .int .i64 ((↑(coldOf Y.cars xs).length) - (↑(coldOf Y.cars ys).length)))] ?_
  refine se ?_
  refine rret ?_
  refine (pst_ret_pass ?_)
  refine pst_ret1 (t := 6) [] (by kernel_rfl) rfl (List.Sublist.refl _) (Imm.le.refl _) ?_
  exact ⟨congrArg (Value.int .i64) (show _ = warmCmp Y.cars xs ys from (if_neg h1).symm), rfl⟩
 ·
  have h1_r := h1
  have h1 := not_f h1
  have h1 := eql_t h1
  refine rskip ?_
  refine pst_next ?_
  refine rqr ?_
  refine sd (det_load (v := .func (.func 40) #[] #[]) (x := (.tmp 3)) (T := 76) (d := 18) (ty := 76) (gd := none) (by kernel_rfl) rfl (by kernel_rfl) rfl (sees_held hnb3 rfl)) ?_
  refine sp 2 [(20, .slice bv_a ys.length bv_c), (19, .slice av_a xs.length av_c)] ?_
  refine sd (dc 21 (fun I' hI => (cmpL_ct I' _ _ _ _ (av_f.mono hI) (bv_f.mono hI) :))) ?_
  refine sp 1 [(6, .int .i64 ((cmpL xs ys)))] ?_
  refine se ?_
  refine rret ?_
  refine pst_ret1 (t := 6) [] (by kernel_rfl) rfl (List.Sublist.refl _) (Imm.le.refl _) ?_
  exact ⟨congrArg (Value.int .i64) (show _ = warmCmp Y.cars xs ys from (if_pos h1).symm), rfl⟩

noncomputable def c_MinFunc (p : List Nat) : Code := sub (bodyOf Tryd.f67) p
theorem MinFunc_ct (I : Imm) (sv : Value) (l : List (List Int)) (fid : FuncId) (cv : List Value) (f : List Int → List Int → Int) (hcl : callable Tryd.prog fid = true) (sv_f : IsRows I sv l) (hl : 0 < l.length) (hl2 : l.length ≤ 1000000) (hc : ∀ J xs ys a b, I.le J → xs ∈ l → ys ∈ l → IsInts J a xs → IsInts J b ys → CtV Tryd.prog fid (a :: b :: cv).toArray J (.int .i64 (f xs ys))) : Ct Tryd.prog 67 #[sv, .func (.func fid) #[] cv.toArray] I [] (fun v I' M' => M' = [] ∧ IsInts I' v (minF f (l.drop 1) (l.getD 0 []))) := by
 obtain ⟨sv_a, sv_c, sv_b, sv_o, sv_vs, sv_e, sv_l, sv_m, sv_r, sv_w⟩ := id sv_f
 subst sv_e
 refine fn_of_run (fn := Tryd.f67) (args := [_, _]) (N := 33) Tryd.func67 rfl (by kernel_rfl) (Nat.le_of_ble_eq_true rfl) (fun F => ?_)
 show Run _ _ (c_MinFunc []) _ _ [(0, .slice sv_a l.length sv_c), (1, .func (.func fid) #[] cv.toArray)] _ _
 refine rnm ?_
 refine rqr ?_
 refine sp 1 [(4, .slice none 0 0)] ?_
 refine se ?_
 refine rq ?_
 refine rqr ?_
 refine sp 3 [(9, .bool (cmp .lss (↑(l.length)) (1)))] ?_
 refine se ?_
 refine rc 9 rfl (fun h1 => ?_) (fun h1 => ?_)
 ·
  have h1_r := h1
  have h1 := lss_t h1
  exfalso; omega
 ·
  have h1_r := h1
  have h1 := lss_f h1
  refine rskip ?_
  refine pst_next ?_
  refine rqr ?_
  refine sp 1 [(11, .slice sv_a l.length sv_c)] ?_
  refine sd (di 12 1 (0) sv_r.addr) ?_
  have r1_f := sv_w (0) (by omega)
  obtain ⟨r1_a, r1_c, r1_b, r1_o, r1_e, r1_l, r1_m, r1_r⟩ := id r1_f
  rw [r1_e] at r1_f
  refine sd (det_eq (dl 13 (rows_get sv_r (0) (by omega))) r1_e) ?_
  refine sp 1 [(5, .slice r1_a (l.getD (0) []).length r1_c)] ?_
  refine se ?_
  refine rq ?_
  refine rqr ?_
  refine sp 1 [(6, .int .i64 (1))] ?_
  refine se ?_
  refine rb 0 ?_
  refine rl (fun mz a w => ∃ k : Nat, ∃ mv : Value, ∃ mm : List Int, (1 ≤ k) ∧ (k ≤ l.length) ∧ (IsInts I mv mm) ∧ (mm ∈ l) ∧ (minF f (l.drop 1) (l.getD 0 []) = minF f (l.drop k) mm) ∧ Slots 33 [(5, mv), (6, .int .i64 (↑k)), (0, .slice sv_a l.length sv_c), (1, .func (.func fid) #[] cv.toArray), (4, .slice none 0 0)] a ∧ a.defers = [] ∧ St I (F) w ∧ mz = l.length - k) ?_ ?_
  ·intro a w hS hD hW
   exact ⟨_, 1, (.slice r1_a (l.getD (0) []).length r1_c), l.getD 0 [], Nat.le_refl _, by omega, r1_f, getD_mem hl, rfl, hS.sub (.cons 5 rfl (.cons 6 rfl (.cons 0 rfl (.cons 1 rfl (.cons 4 rfl (.nil _)))))), hD, hW, rfl⟩
  ·rintro mz a w ⟨k, mv, mm, hk1, hk, mv_f, hmm, hr, hS, hD, hW, rfl⟩
   refine run_at hS hD hW ?_
   clear hS hD hW a w
   obtain ⟨mv_a, mv_c, mv_b, mv_o, mv_e, mv_l, mv_m, mv_r⟩ := id mv_f
   subst mv_e
   refine rq ?_
   refine rqr ?_
   refine sp 4 [(17, .bool (cmp .lss (↑k) (↑(l.length))))] ?_
   refine se ?_
   refine rc 17 rfl (fun h2 => ?_) (fun h2 => ?_)
   ·
    have h2_r := h2
    have h2 := lss_t h2
    refine rskip ?_
    refine pst_next ?_
    refine rq ?_
    refine rb 1 ?_
    refine rqr ?_
    refine sp 3 [(22, .int .i64 (↑k)), (21, .slice sv_a l.length sv_c), (20, .func (.func fid) #[] cv.toArray)] ?_
    refine sd (di 23 1 (k) sv_r.addr) ?_
    have r2_f := sv_w (k) (by omega)
    obtain ⟨r2_a, r2_c, r2_b, r2_o, r2_e, r2_l, r2_m, r2_r⟩ := id r2_f
    rw [r2_e] at r2_f
    refine sd (det_eq (dl 24 (rows_get sv_r (k) (by omega))) r2_e) ?_
    refine sp 1 [(25, .slice mv_a mm.length mv_c)] ?_
    refine sd (det_call (f := .tmp 20) (fid := fid) (args := #[.tmp 24, .tmp 25]) (tys := #[22, 22]) (cv := cv) (v := .int .i64 (f (l.getD (k) []) mm)) (d := 26) (ty := 3) (gd := none) (by kernel_rfl) rfl rfl rfl hcl rfl (fun I' hI => hc I' _ _ _ _ hI (getD_mem (by omega)) hmm (r2_f.mono hI) (mv_f.mono hI))) ?_
    refine sp 1 [(27, .bool (cmp .lss (f (l.getD (k) []) mm) (0)))] ?_
    refine se ?_
    refine rc 27 rfl (fun h3 => ?_) (fun h3 => ?_)
    ·
     have h3_r := h3
     have h3 := lss_t h3
     refine rr ?_
     refine sp 2 [(29, .int .i64 (↑k)), (28, .slice sv_a l.length sv_c)] ?_
     refine sd (di 30 1 (k) sv_r.addr) ?_
     have r3_f := sv_w (k) (by omega)
     obtain ⟨r3_a, r3_c, r3_b, r3_o, r3_e, r3_l, r3_m, r3_r⟩ := id r3_f
     rw [r3_e] at r3_f
     refine sd (det_eq (dl 31 (rows_get sv_r (k) (by omega))) r3_e) ?_
     refine sp 1 [(5, .slice r3_a (l.getD (k) []).length r3_c)] ?_
     refine ee ?_
     refine pst_normal_block ?_
     refine pst_next ?_
     refine rr ?_
     refine sp 1 [(18, .int .i64 (↑k))] ?_
     refine sd (da 19 (↑k) (1)) ?_
     refine sp 1 [(6, .int .i64 (↑k + 1))] ?_
     refine ee ?_
     refine pst_back (l.length - (k+1)) (by omega) ?_
     intro a w hS hD hW
     exact ⟨k+1, (.slice r3_a (l.getD (k) []).length r3_c), l.getD (k) [], by omega, by omega, r3_f, getD_mem (by omega), hr.trans (minF_take (by omega) h3), hS.sub (.consE 5 rfl rfl (.consE 6 rfl rfl (.cons 0 rfl (.cons 1 rfl (.cons 4 rfl (.nil _)))))), hD, hW, rfl⟩
    ·
     have h3_r := h3
     have h3 := lss_f h3
     refine rskip ?_
     refine pst_normal_block ?_
     refine pst_next ?_
     refine rr ?_
     refine sp 1 [(18, .int .i64 (↑k))] ?_
     refine sd (da 19 (↑k) (1)) ?_
     refine sp 1 [(6, .int .i64 (↑k + 1))] ?_
     refine ee ?_
     refine pst_back (l.length - (k+1)) (by omega) ?_
     intro a w hS hD hW
     exact ⟨k+1, (.slice mv_a mm.length mv_c), mm, by omega, by omega, mv_f, hmm, hr.trans (minF_leave (by omega) (by omega)), hS.sub (.consE 5 rfl rfl (.consE 6 rfl rfl (.cons 0 rfl (.cons 1 rfl (.cons 4 rfl (.nil _)))))), hD, hW, rfl⟩
   ·
    have h2_r := h2
    have h2 := lss_f h2
    refine rexit 0 ?_
    refine (pst_exit_pass (pst_exit_pass (pst_exit_block ?_)))
    refine pst_next ?_
    refine rqr ?_
    refine sp 2 [(4, .slice mv_a mm.length mv_c)] ?_
    refine se ?_
    refine rret ?_
    refine pst_ret1 (t := 4) [] (by kernel_rfl) rfl (List.Sublist.refl _) (Imm.le.refl _) ?_
    exact ⟨rfl, (show mm = _ from (hr.trans (minF_done (by omega))).symm) ▸ mv_f⟩

noncomputable def c_least (p : List Nat) : Code := sub (bodyOf Tryd.f37) p
theorem least_ct (I : Imm) (sv : Value) (l : List (List Int)) (yb : Nat) (v1 v2 v3 : Value) (Y : Yard) (hyb : I.blk yb = some (Obj.cells #[v1, v2, v3] 26 (0, 0))) (v1_f : IsCars I v1 Y.cars) (v2_f : IsInts I v2 Y.room) (v3_f : IsRows I v3 Y.tracks) (sv_f : IsRows I sv l) (hl : 0 < l.length) (hl2 : l.length ≤ 1000000) (hok : ∀ xs ∈ l, Ok Y.cars xs ∧ xs.length ≤ 1000000) : Ct Tryd.prog 37 #[sv, .func (.func 38) #[] #[.pointer (some ⟨yb, 0, none⟩)], .func (.func 40) #[] #[]] I [] (fun v I' M' => M' = [] ∧ IsInts I' v (minF (warmCmp Y.cars) (l.drop 1) (l.getD 0 []))) := by
 obtain ⟨v1_a, v1_c, v1_b, v1_o, v1_e, v1_l, v1_m, v1_r⟩ := id v1_f
 subst v1_e
 obtain ⟨v2_a, v2_c, v2_b, v2_o, v2_e, v2_l, v2_m, v2_r⟩ := id v2_f
 subst v2_e
 obtain ⟨v3_a, v3_c, v3_b, v3_o, v3_vs, v3_e, v3_l, v3_m, v3_r, v3_w⟩ := id v3_f
 subst v3_e
 obtain ⟨sv_a, sv_c, sv_b, sv_o, sv_vs, sv_e, sv_l, sv_m, sv_r, sv_w⟩ := id sv_f
 subst sv_e
 refine fn_of_run (fn := Tryd.f37) (args := [_, _, _]) (N := 10) Tryd.func37 rfl (by kernel_rfl) (Nat.le_of_ble_eq_true rfl) (fun F => ?_)
 show Run _ _ (c_least []) _ _ [(0, .slice sv_a l.length sv_c), (1, .func (.func 38) #[] #[.pointer (some ⟨yb, 0, none⟩)]), (2, .func (.func 40) #[] #[])] _ _
 refine rnm ?_
 refine rqr ?_
 refine sS (sb 4 75 #[.func (.func 38) #[] #[.pointer (some ⟨yb, 0, none⟩)]] (fun b1 => ?_))
 refine sS (sb 5 76 #[.func (.func 40) #[] #[]] (fun b3 => ?_))
 refine sp 1 [(6, .slice none 0 0)] ?_
 refine sn ?_
 refine seq_hold (b := b1) (o := Obj.cells #[.func (.func 38) #[] #[.pointer (some ⟨yb, 0, none⟩)]] 75 (0, 0)) (M0 := ((b3, Obj.cells #[.func (.func 40) #[] #[]] 76 (0, 0)) :: F)) (List.Perm.swap _ _ _) (fun I5 hle6 hb7 => ?_)
 replace v1_f := v1_f.mono hle6
 replace v2_f := v2_f.mono hle6
 replace v3_f := v3_f.mono hle6
 replace hyb := hle6.blk _ _ hyb
 replace sv_f := sv_f.mono hle6
 refine seq_hold (b := b3) (o := Obj.cells #[.func (.func 40) #[] #[]] 76 (0, 0)) (M0 := (F)) (List.Perm.refl _) (fun I8 hle9 hb10 => ?_)
 replace v1_f := v1_f.mono hle9
 replace v2_f := v2_f.mono hle9
 replace v3_f := v3_f.mono hle9
 replace hyb := hle9.blk _ _ hyb
 replace sv_f := sv_f.mono hle9
 replace hb7 := hle9.blk _ _ hb7
 refine sp 2 [(8, .func (.func 68) #[] #[.pointer (some ⟨b1, 0, none⟩), .pointer (some ⟨b3, 0, none⟩)]), (7, .slice sv_a l.length sv_c)] ?_
 have hcc : ∀ J xs ys a b, I8.le J → xs ∈ l → ys ∈ l → IsInts J a xs → IsInts J b ys → CtV Tryd.prog 68 (a :: b :: [.pointer (some ⟨b1, 0, none⟩), .pointer (some ⟨b3, 0, none⟩)]).toArray J (.int .i64 (warmCmp Y.cars xs ys)) := fun J xs ys a b hJ h1 h2 h3 h4 => least1_ct J a b xs ys yb _ _ _ Y (hJ.blk _ _ hyb) (v1_f.mono hJ) (v2_f.mono hJ) (v3_f.mono hJ) b1 b3 (hJ.blk _ _ hb7) (hJ.blk _ _ hb10) h3 h4 (hok xs h1).1 (hok ys h2).1 (hok xs h1).2 (hok ys h2).2
 have hct14 := MinFunc_ct I8 _ l 68 [.pointer (some ⟨b1, 0, none⟩), .pointer (some ⟨b3, 0, none⟩)] (warmCmp Y.cars) (by kernel_rfl) sv_f hl hl2 hcc
 refine sS (stp_call (d := (some 9)) (f := (.func 67)) (fid := 67) (args := #[(.tmp 7), (.tmp 8)]) (tys := #[24, 76]) (cv := []) (F := (F)) (ty := 22) (gd := none) (by kernel_rfl) rfl rfl rfl (by kernel_rfl) rfl hct14 (List.Perm.refl _) (fun rv15 I11 rm16 hle12 hp13 => ?_))
 obtain ⟨hgm, rv_f⟩ := hp13
 replace hyb := hle12.blk _ _ hyb
 replace hb7 := hle12.blk _ _ hb7
 replace hb10 := hle12.blk _ _ hb10
 subst hgm
 obtain ⟨rv_a, rv_c, rv_b, rv_o, rv_e, rv_l, rv_m, rv_r⟩ := id rv_f
 subst rv_e
 refine nm ?_
 show Seq _ _ _ _ _ _ ((9, .slice rv_a (minF (warmCmp Y.cars) (l.drop 1) (l.getD 0 [])).length rv_c) :: _) _ _
 refine sp 1 [(6, .slice rv_a (minF (warmCmp Y.cars) (l.drop 1) (l.getD 0 [])).length rv_c)] ?_
 refine se ?_
 refine rret ?_
 refine pst_ret1 (t := 6) [] (by kernel_rfl) rfl (List.Sublist.refl _) (Imm.le.trans (Imm.le.trans hle6 hle9) hle12) ?_
 exact ⟨rfl, rv_f⟩

end Go.Proofs.YtcaocbhbofejnaaDoor
namespace Go.Sl
open Go
theorem St.permL {I : Imm} {A A' B : Seg} {w : World} (h : A.Perm A') (st : St I (A ++ B) w) : St I (A' ++ B) w := st.perm (List.Perm.append_right _ h)
section
variable {ρ : Option Nat} {P : Program} {N : Nat} {ds : List Deferred} {l : Sl} {I : Imm} {M A B eM : Seg} {Q : Exit → Act → World → Prop} {E : TypeId} {vs : List Value} {xss : List (List Int)}
theorem rn_freezeEach {c : Code} (h : OwnEach E vs xss eM) (hl : ∀ xs ∈ xss, xs.length ≤ 1000000) (hM : M.Perm (eM ++ A)) (hA : A.Perm B)
    (next : ∀ J, I.le J → RowsV J vs xss → Run (ρ := ρ) P N c Q ds l J B) : Run (ρ := ρ) P N c Q ds l I M := fun a w hS hD hW => by
  obtain ⟨J, h1, h2, h3⟩ := h.freeze (fun xs hx => by have := hl xs hx; omega) (hW.perm hM)
  exact next J h1 h2 a w hS hD (h3.perm hA)
end
end Go.Sl
namespace Go.Sh
open Go Go.Sl
theorem blocksTo_yesI {cs : List Car} {t : List Int} {k i : Nat} (h : coupled cs t ↑k = true) (hi : i = (blocksTo cs t k).length - 1) : blocksTo cs t (k + 1) = (blocksTo cs t k).set i ((blocksTo cs t k).getD i [] ++ [t.getD k 0]) := by
  subst hi; exact blocksTo_yes h
theorem blocksTo_mem {cs : List Car} {t : List Int} {p : Int → Prop} (ht : ∀ x ∈ t, p x) : ∀ k, k ≤ t.length → ∀ b ∈ blocksTo cs t k, ∀ x ∈ b, p x := by
  intro k
  induction k with
  | zero => intro _ b hb; simp [blocksTo] at hb
  | succ k ih =>
    intro hk b hb x hx
    have ih := ih (by omega)
    have hm : t.getD k 0 ∈ t := getD_mem (by omega)
    simp only [blocksTo, stepB] at hb
    split at hb
    · rename_i hc
      have hp := coupled_pos hc
      rcases List.mem_or_eq_of_mem_set hb with hb | e
      · exact ih b hb x hx
      · subst e
        rcases List.mem_append.1 hx with hx | hx
        · have hm : (blocksTo cs t k).getD ((blocksTo cs t k).length - 1) [] ∈ blocksTo cs t k := getD_mem (by have := (blocksTo_len cs t k).2.1 (by omega); omega)
          exact ih _ hm x hx
        · simp at hx; subst hx; exact ht _ hm
    · rcases List.mem_append.1 hb with hb | hb
      · exact ih b hb x hx
      · simp at hb; subst hb; simp at hx; subst hx; exact ht _ hm
theorem blocksTo_flat {cs : List Car} {t : List Int} : ∀ k, k ≤ t.length → (blocksTo cs t k).flatten = t.take k := by
  intro k
  induction k with
  | zero => intro _; simp [blocksTo]
  | succ k ih =>
    intro hk
    have ih := ih (by omega)
    rw [take_snoc (d := 0) (by omega), ← ih]
    simp only [blocksTo, stepB]
    split
    · rename_i hc
      have hp := coupled_pos hc
      have hl := (blocksTo_len cs t k).2.1 (by omega)
      obtain ⟨ys, y, e⟩ : ∃ ys y, blocksTo cs t k = ys ++ [y] := by
        rcases List.eq_nil_or_concat (blocksTo cs t k) with h | ⟨ys, y, h⟩
        · rw [h] at hl; simp at hl
        · exact ⟨ys, y, by rw [h, List.concat_eq_append]⟩
      rw [e]
      have e2 : (ys ++ [y]).length - 1 = ys.length := by simp
      rw [e2, List.set_append_right _ _ (Nat.le_refl _)]
      simp [List.getD]
    · simp
theorem growM_mem {bl : List (List Int)} {p : Int → Prop} (hb : ∀ b ∈ bl, ∀ x ∈ b, p x) : ∀ (n : Nat) (begun us : List Int), (∀ x ∈ begun, p x) → ∀ l ∈ growM bl n begun us, ∀ x ∈ l, p x := by
  intro n
  induction n with
  | zero => intro begun us h l hl x hx; simp [growM] at hl; subst hl; exact h x hx
  | succ n ih =>
    intro begun us h l hl x hx
    simp only [growM, growFrom, List.mem_flatMap] at hl
    obtain ⟨i, hi, hl⟩ := hl
    split at hl
    · simp at hl
    · refine ih _ _ (fun y hy => ?_) l hl x hx
      rcases List.mem_append.1 hy with hy | hy
      · exact h y hy
      · by_cases hi2 : i < bl.length
        · exact hb _ (getD_mem hi2) y hy
        · simp [List.getD, List.getElem?_eq_none (Nat.le_of_not_lt hi2)] at hy
theorem growM_len {bl : List (List Int)} {m : Nat} (hb : ∀ b ∈ bl, b.length ≤ m) : ∀ (n : Nat) (begun us : List Int), ∀ l ∈ growM bl n begun us, l.length ≤ begun.length + m * n := by
  intro n
  induction n with
  | zero => intro begun us l hl; simp [growM] at hl; subst hl; simp
  | succ n ih =>
    intro begun us l hl
    simp only [growM, growFrom, List.mem_flatMap] at hl
    obtain ⟨i, hi, hl⟩ := hl
    split at hl
    · simp at hl
    · have h1 := ih _ _ l hl
      have h2 : (bl.getD i []).length ≤ m := by
        by_cases hi2 : i < bl.length
        · exact hb _ (getD_mem hi2)
        · simp [List.getD, List.getElem?_eq_none (Nat.le_of_not_lt hi2)]
      rw [List.length_append] at h1
      rw [Nat.mul_succ]; omega
theorem flatMap_leAll {α β : Type} (f : α → List β) (m : Nat) (h : ∀ x, (f x).length ≤ m) : ∀ l : List α, (l.flatMap f).length ≤ l.length * m := by
  intro l
  induction l with
  | nil => simp
  | cons x r ih => have := h x; simp only [List.flatMap_cons, List.length_append, List.length_cons, Nat.succ_mul]; omega
theorem growM_count {bl : List (List Int)} : ∀ (n : Nat) (begun us : List Int), (growM bl n begun us).length ≤ bl.length ^ n := by
  intro n
  induction n with
  | zero => intro begun us; simp [growM]
  | succ n ih =>
    intro begun us
    simp only [growM, growFrom]
    refine Nat.le_trans (flatMap_leAll _ (bl.length ^ n) (fun i => ?_) _) (by simp [Nat.pow_succ, Nat.mul_comm])
    split
    · simp
    · exact ih _ _
theorem pigeon {us : List Int} {n : Nat} (h : us.length < n) : ∃ i : Nat, i < n ∧ ¬ (i : Int) ∈ us := by
  rcases Classical.em (∃ i : Nat, i < n ∧ ¬ (i : Int) ∈ us) with h1 | h1
  · exact h1
  · exfalso
    have hs : (List.range n).map (fun k : Nat => (k : Int)) ⊆ us := fun c hc => by
      obtain ⟨k, hk, rfl⟩ := List.mem_map.1 hc
      rcases Classical.em ((k : Int) ∈ us) with h2 | h2
      · exact h2
      · exact absurd ⟨k, List.mem_range.1 hk, h2⟩ h1
    have hn : ((List.range n).map (fun k : Nat => (k : Int))).Nodup := by
      refine List.pairwise_map.2 ((List.nodup_range (n := n)).imp (fun hab e => hab (by exact_mod_cast e)))
    have := hn.length_le_of_subset hs
    simp at this; omega
theorem growM_pos {bl : List (List Int)} : ∀ (n : Nat) (begun us : List Int), us.length + n ≤ bl.length → 0 < (growM bl n begun us).length := by
  intro n
  induction n with
  | zero => intro begun us _; simp [growM]
  | succ n ih =>
    intro begun us h
    obtain ⟨i, hi, hu⟩ := pigeon (us := us) (n := bl.length) (by omega)
    have h1 := ih (begun ++ bl.getD i []) (us ++ [(i : Int)]) (by simp; omega)
    obtain ⟨x, hx⟩ := List.exists_mem_of_length_pos h1
    refine List.length_pos_of_mem (a := x) ?_
    simp only [growM, growFrom, List.mem_flatMap]
    exact ⟨i, List.mem_range'_1.2 ⟨Nat.zero_le _, by omega⟩, by rw [if_neg hu]; exact hx⟩
structure WarmOk (Y : Yard) : Prop where
  tl : (trk Y 0).length ≤ 5
  ok : Ok Y.cars (trk Y 0)
  bl : (blocksOf Y.cars (trk Y 0)).length ≤ 5
  each : ∀ b ∈ blocksOf Y.cars (trk Y 0), b.length ≤ 5
  many : (growM (blocksOf Y.cars (trk Y 0)) (blocksOf Y.cars (trk Y 0)).length [] []).length ≤ 3125
  some : 0 < (growM (blocksOf Y.cars (trk Y 0)) (blocksOf Y.cars (trk Y 0)).length [] []).length
  okAll : ∀ xs ∈ growM (blocksOf Y.cars (trk Y 0)) (blocksOf Y.cars (trk Y 0)).length [] [], Ok Y.cars xs ∧ xs.length ≤ 1000000
theorem Fine.warm {Y : Yard} (h : Fine Y) : WarmOk Y := by
  have hr := h.room1; have hl := h.len
  have ho : Ok Y.cars (trk Y 0) := h.ok.at 0 (by omega)
  have ht : (trk Y 0).length ≤ 5 := by
    have := (List.sublist_flatten_of_mem (getD_mem (d := []) (xs := Y.tracks) (k := 0) (by omega))).length_le
    exact Nat.le_trans this h.sum
  obtain ⟨b1, b2, b3⟩ := blocksTo_len Y.cars (trk Y 0) (trk Y 0).length
  have hb1 : (blocksOf Y.cars (trk Y 0)).length ≤ 5 := Nat.le_trans b1 ht
  have hb3 : ∀ b ∈ blocksOf Y.cars (trk Y 0), b.length ≤ 5 := fun b hb => Nat.le_trans (b3 b hb) ht
  refine ⟨ht, ho, hb1, hb3, ?_, growM_pos _ _ _ (by simp), fun xs hx => ⟨fun c hc => growM_mem (p := fun c => 0 ≤ c ∧ c < Y.cars.length) (blocksTo_mem (fun x hx => ho x hx) _ (Nat.le_refl _)) _ _ _ (fun x hx => by simp at hx) xs hx c hc, ?_⟩⟩
  · refine Nat.le_trans (growM_count _ _ _) ?_
    match (blocksOf Y.cars (trk Y 0)).length, hb1 with
    | 0, _ | 1, _ | 2, _ | 3, _ | 4, _ | 5, _ => decide
  · have := growM_len hb3 _ _ _ xs hx
    simp at this; omega
theorem warmE_bad {Y : Yard} (h : checkErr Y ≠ 0) : warmE Y = ([], 0, checkErr Y) := if_neg h
theorem warmE_ok {Y : Yard} (h : Valid Y) : warmE Y = (let os := growM (blocksOf Y.cars (trk Y 0)) (blocksOf Y.cars (trk Y 0)).length [] []
     let m := minF (warmCmp Y.cars) (os.drop 1) (os.getD 0 [])
     (m, ((coldOf Y.cars m).length : Int), 0)) := if_pos h
theorem minF_mem {f : List Int → List Int → Int} : ∀ (l : List (List Int)) (m : List Int), minF f l m = m ∨ minF f l m ∈ l := by
  intro l
  induction l with
  | nil => intro m; exact .inl rfl
  | cons x r ih =>
    intro m
    simp only [minF]
    split
    · rcases ih x with h | h
      · exact .inr (by rw [h]; simp)
      · exact .inr (by simp [h])
    · rcases ih m with h | h
      · exact .inl h
      · exact .inr (by simp [h])
theorem minF_in {f : List Int → List Int → Int} {l : List (List Int)} (h : 0 < l.length) : minF f (l.drop 1) (l.getD 0 []) ∈ l := by
  cases l with
  | nil => simp at h
  | cons x r => rcases minF_mem (f := f) r x with h | h <;> simp [h]
end Go.Sh
namespace Go.Proofs.YtcaocbhbofejnaaDoor
open Go Go.Sl Go.Sh
set_option maxRecDepth 100000
noncomputable def c_Warm (p : List Nat) : Code := sub (bodyOf Tryd.f9) p
theorem Warm_ct (I : Imm) (y : Value) (Y : Yard) (y_f : IsYard I y Y) : Ct Tryd.prog 9 #[y] I ([]) (fun v I' M' => ∃ u0 : Value, v = .tuple #[u0, .int .i64 ((warmE Y).2.1), .int .i64 ((warmE Y).2.2)] ∧ M' = [] ∧ IsInts I' u0 ((warmE Y).1)) := by
 obtain ⟨y1, y2, y3, y_e, y1_f, y2_f, y3_f⟩ := id y_f
 subst y_e
 obtain ⟨y1_a, y1_c, y1_b, y1_o, y1_e, y1_l, y1_m, y1_r⟩ := id y1_f
 subst y1_e
 obtain ⟨y2_a, y2_c, y2_b, y2_o, y2_e, y2_l, y2_m, y2_r⟩ := id y2_f
 subst y2_e
 obtain ⟨y3_a, y3_c, y3_b, y3_o, y3_vs, y3_e, y3_l, y3_m, y3_r, y3_w⟩ := id y3_f
 subst y3_e
 refine fn_of_run (fn := Tryd.f9) (args := [_]) (N := 65) Tryd.func9 rfl (by kernel_rfl) (Nat.le_of_ble_eq_true rfl) (fun F => ?_)
 show Run _ _ (c_Warm []) _ _ [(0, .agg #[.slice y1_a Y.cars.length y1_c, .slice y2_a Y.room.length y2_c, .slice y3_a Y.tracks.length y3_c])] _ _
 refine rnm ?_
 refine rqr ?_
 refine sS (sb 1 26 #[.slice y1_a Y.cars.length y1_c, .slice y2_a Y.room.length y2_c, .slice y3_a Y.tracks.length y3_c] (fun b1 => ?_))
 refine sp 3 [(4, .int .i64 (0)), (3, .int .i64 (0)), (2, .slice none 0 0)] ?_
 refine se ?_
 refine rq ?_
 refine rqr ?_
 refine sd (dnb 12 0 0 b1 [.slice y1_a Y.cars.length y1_c, .slice y2_a Y.room.length y2_c, .slice y3_a Y.tracks.length y3_c]) ?_
 refine sd (dc 13 (fun I' hI => (Check_ct I' _ (Y) ((mkYard y1_f y2_f y3_f).mono hI) :))) ?_
 refine sp 1 [(5, .int .i64 ((checkErr Y)))] ?_
 refine sn ?_
 refine sp 2 [(15, .bool (!(cmp .eql ((checkErr Y)) (0))))] ?_
 refine se ?_
 refine rc 15 rfl (fun h1 => ?_) (fun h1 => ?_)
 ·
  have h1_r := h1
  have h1 := not_t h1
  have h1 := eql_f h1
  refine rqr ?_
  refine sp 4 [(4, .int .i64 ((checkErr Y))), (3, .int .i64 (0)), (2, .slice none 0 0)] ?_
  refine se ?_
  refine rret ?_
  refine (pst_ret_pass ?_)
  refine pst_ret3 (t := 2) (u := 3) (r := 4) [] (by kernel_rfl) rfl rfl rfl (List.Sublist.cons _ (List.Sublist.refl _)) (Imm.le.refl _) ?_
  exact ⟨_, (congrArg (fun p : List Int × Int × Int => Value.tuple #[.slice none 0 0, .int .i64 p.2.1, .int .i64 p.2.2]) (warmE_bad h1).symm), rfl, ((show [] = (warmE Y).1 from (congrArg Prod.fst (warmE_bad h1)).symm) ▸ (IsSl.nil _))⟩
 ·
  have h1_r := h1
  have h1 := not_f h1
  have h1 := eql_t h1
  refine rskip ?_
  refine pst_next ?_
  refine rqr ?_
  refine sS (sal 6 24 #[.slice none 0 0] (fun b3 => ?_))
  refine se ?_
  refine rq ?_
  have hvl : Valid Y := by (show checkErr Y = 0; omega)
  have hfa := hvl.fine
  have hf1 := hfa.room1; have hf2 := hfa.len
  have hwo := hfa.warm
  have hw1 : (Y.tracks.getD (0) []).length ≤ 5 := hwo.tl
  have hw2 : Ok Y.cars (Y.tracks.getD (0) []) := hwo.ok
  have hw3 : (blocksOf Y.cars (Y.tracks.getD (0) [])).length ≤ 5 := hwo.bl
  have hw4 : ∀ b ∈ blocksOf Y.cars (Y.tracks.getD (0) []), b.length ≤ 5 := hwo.each
  have hw5 : (growM (blocksOf Y.cars (Y.tracks.getD (0) [])) (blocksOf Y.cars (Y.tracks.getD (0) [])).length [] []).length ≤ 3125 := hwo.many
  have hw6 : 0 < (growM (blocksOf Y.cars (Y.tracks.getD (0) [])) (blocksOf Y.cars (Y.tracks.getD (0) [])).length [] []).length := hwo.some
  have hw7 : ∀ xs ∈ growM (blocksOf Y.cars (Y.tracks.getD (0) [])) (blocksOf Y.cars (Y.tracks.getD (0) [])).length [] [], Ok Y.cars xs ∧ xs.length ≤ 1000000 := hwo.okAll
  refine rr ?_
  refine sp 1 [(17, .pointer (some ⟨b1, 2, none⟩))] ?_
  refine sd (dlb 18 1 2 b1 (.slice y3_a Y.tracks.length y3_c)) ?_
  refine sd (di 19 1 (0) y3_r.addr) ?_
  have r5_f := y3_w (0) (by omega)
  obtain ⟨r5_a, r5_c, r5_b, r5_o, r5_e, r5_l, r5_m, r5_r⟩ := id r5_f
  rw [r5_e] at r5_f
  refine sd (det_eq (dl 20 (rows_get y3_r (0) (by omega))) r5_e) ?_
  refine sp 1 [(7, .slice r5_a (Y.tracks.getD (0) []).length r5_c)] ?_
  refine se ?_
  refine rq ?_
  refine rqr ?_
  refine sp 3 [(23, .int .i64 (0)), (22, .int .i64 (↑((Y.tracks.getD (0) []).length))), (21, .slice r5_a (Y.tracks.getD (0) []).length r5_c)] ?_
  refine se ?_
  refine rb 0 ?_
  refine rl (fun mz a w => ∃ k : Nat, ∃ bv : Value, ∃ vs : List Value, ∃ bM : Seg, ∃ eM : Seg, (k ≤ (Y.tracks.getD (0) []).length) ∧ (Own 22 1 valCell bv vs bM) ∧ (OwnEach 3 vs (blocksTo Y.cars (Y.tracks.getD (0) []) k) eM) ∧ Slots 65 [(23, .int .i64 ↑k), (1, .pointer (some ⟨b1, 0, none⟩)), (2, .slice none 0 0), (3, .int .i64 (0)), (4, .int .i64 (0)), (6, .pointer (some ⟨b3, 0, none⟩)), (7, .slice r5_a (Y.tracks.getD (0) []).length r5_c), (21, .slice r5_a (Y.tracks.getD (0) []).length r5_c), (22, .int .i64 (↑((Y.tracks.getD (0) []).length)))] a ∧ a.defers = [] ∧ St I ((b3, Obj.cells #[bv] 24 (0, 0)) :: (b1, Obj.cells #[.slice y1_a Y.cars.length y1_c, .slice y2_a Y.room.length y2_c, .slice y3_a Y.tracks.length y3_c] 26 (0, 0)) :: (bM ++ (eM ++ F))) w ∧ mz = (Y.tracks.getD (0) []).length - k) ?_ ?_
  ·intro a w hS hD hW
   exact ⟨_, 0, (.slice none 0 0), [], [], [], Nat.zero_le _, Own.nil _ _ _, OwnEach.nil, hS.sub (.cons 23 rfl (.cons 1 rfl (.cons 2 rfl (.cons 3 rfl (.cons 4 rfl (.cons 6 rfl (.cons 7 rfl (.cons 21 rfl (.cons 22 rfl (.nil _)))))))))), hD, hW, rfl⟩
  ·rintro mz a w ⟨k, bv, vs, bM, eM, hk, bo, hea, hS, hD, hW, rfl⟩
   refine run_at hS hD hW ?_
   clear hS hD hW a w
   obtain ⟨bv_a, bv_c, bv_e, bv_l⟩ := bo.shape; subst bv_e
   have hbl := hea.length
   have hbt := blocksTo_len Y.cars (Y.tracks.getD (0) []) k
   refine rqr ?_
   refine sp 1 [(24, .bool (cmp .lss (↑k) (↑((Y.tracks.getD (0) []).length))))] ?_
   refine se ?_
   refine rq ?_
   refine rc 24 rfl (fun h2 => ?_) (fun h2 => ?_)
   ·
    have h2_r := h2
    have h2 := lss_t h2
    refine rskip ?_
    refine pst_next ?_
    refine rq ?_
    refine rb 1 ?_
    refine rqr ?_
    refine sp 1 [(25, .int .i64 (↑k))] ?_
    refine sd (di 26 1 (k) r5_r.addr) ?_
    refine sd (dl 27 (ints_get r5_r (k) (by omega))) ?_
    refine sp 2 [(9, .int .i64 ((Y.tracks.getD (0) []).getD (k) 0)), (8, .int .i64 (↑k))] ?_
    refine se ?_
    refine rq ?_
    refine rqr ?_
    refine sp 2 [(29, .pointer (some ⟨b1, 0, none⟩)), (28, .slice r5_a (Y.tracks.getD (0) []).length r5_c)] ?_
    refine sd (dlb 30 1 0 b1 (.slice y1_a Y.cars.length y1_c)) ?_
    refine sp 1 [(31, .int .i64 (↑k))] ?_
    refine sd (dc 32 (fun I' hI => (coupled_ct I' _ _ _ _ (↑k) (r5_f.mono hI) (y1_f.mono hI) (by assumption) :))) ?_
    refine se ?_
    refine rc 32 rfl (fun h3 => ?_) (fun h3 => ?_)
    ·
     have h3_r := h3
     refine rq ?_
     have hcp := coupled_pos h3
     have hb2 := hbt.2.1 (by omega)
     have hel := hbt.2.2 _ (getD_mem (d := []) (xs := blocksTo Y.cars (Y.tracks.getD (0) []) k) (k := ((↑(vs.length)) - 1 : Int).toNat) (by omega))
     obtain ⟨eMs6, eR6, eo6, ep6, ek6⟩ := OwnEach.pull hea (((↑(vs.length)) - 1 : Int).toNat) (by omega)
     obtain ⟨ev6_a, ev6_c, ev6_e, ev6_l⟩ := eo6.shape
     rw [ev6_e] at eo6
     refine rn_mem (M' := ((eMs6 ++ (eR6 ++ (b3, Obj.cells #[.slice bv_a vs.length bv_c] 24 (0, 0)) :: (b1, Obj.cells #[.slice y1_a Y.cars.length y1_c, .slice y2_a Y.room.length y2_c, .slice y3_a Y.tracks.length y3_c] 26 (0, 0)) :: (bM ++ F))))) (fun w h => ?_) ?_
     ·have h2 := h.perm ((List.Perm.cons _ ((List.Perm.cons _ (List.perm_append_comm_assoc _ _ _)).trans (List.perm_middle.symm))).trans (List.perm_middle.symm))
      have h3 := St.permL (A' := eMs6 ++ eR6) (A := eM) (by simpa only [List.append_assoc, List.append_nil] using ep6) (by simpa only [List.append_assoc] using h2)
      simpa only [List.append_assoc] using h3
     refine rn_mem (M' := ((b3, Obj.cells #[.slice bv_a vs.length bv_c] 24 (0, 0)) :: (b1, Obj.cells #[.slice y1_a Y.cars.length y1_c, .slice y2_a Y.room.length y2_c, .slice y3_a Y.tracks.length y3_c] 26 (0, 0)) :: (eMs6 ++ (eR6 ++ (bM ++ F))))) (fun w h => h.perm (((List.Perm.append_left _ List.perm_middle).trans List.perm_middle).trans (List.Perm.cons _ ((List.Perm.append_left _ List.perm_middle).trans List.perm_middle)))) ?_
     refine rpm (M' := ((b3, Obj.cells #[.slice bv_a vs.length bv_c] 24 (0, 0)) :: (b1, Obj.cells #[.slice y1_a Y.cars.length y1_c, .slice y2_a Y.room.length y2_c, .slice y3_a Y.tracks.length y3_c] 26 (0, 0)) :: (bM ++ (eMs6 ++ (eR6 ++ F))))) (List.Perm.cons _ (List.Perm.cons _ ((List.Perm.append_left _ (List.perm_append_comm_assoc _ _ _)).trans (List.perm_append_comm_assoc _ _ _)))) ?_
     refine rd 13 [(0, true), (1, true), (2, true), (3, true), (4, true), (5, true), (6, true), (7, true), (8, true), (9, true), (10, true), (11, false), (12, false)] ((b3, Obj.cells #[.slice bv_a vs.length bv_c] 24 (0, 0)) :: (b1, Obj.cells #[.slice y1_a Y.cars.length y1_c, .slice y2_a Y.room.length y2_c, .slice y3_a Y.tracks.length y3_c] 26 (0, 0)) :: bM) ((eMs6 ++ (eR6 ++ F))) ?_
     refine ofp_det (dlb 33 0 0 b3 (.slice bv_a vs.length bv_c)) ?_
     refine ofp_det (dlb 34 0 0 b3 (.slice bv_a vs.length bv_c)) ?_
     refine ox 1 [(35, .int .i64 (↑(vs.length)))] ?_
     refine ofp_det (dsb 36 (↑(vs.length)) (1)) ?_
     refine ofp_det (dlb 37 0 0 b3 (.slice bv_a vs.length bv_c)) ?_
     refine ofp_det (dlb 38 0 0 b3 (.slice bv_a vs.length bv_c)) ?_
     refine ox 1 [(39, .int .i64 (↑(vs.length)))] ?_
     refine ofp_det (dsb 40 (↑(vs.length)) (1)) ?_
     obtain ⟨ob7, orr8⟩ := bo.row undef
     refine ofp_det (diI 41 1 ((↑(vs.length)) - 1) orr8.addr) ?_
     refine ofp_det (det_eq (det_load (x := (.tmp 41)) (T := 22) (d := 42) (ty := 22) (gd := none) (by kernel_rfl) rfl (by kernel_rfl) rfl (orr8.get (((↑(vs.length)) - 1 : Int).toNat) (by omega) 0 (by decide) _ _ (fun x hx => by simp [hx]))) ev6_e) ?_
     refine ox 1 [(43, .int .i64 ((Y.tracks.getD (0) []).getD (k) 0))] ?_
     refine ofp_stp (sbs 44 3 1 #[.int .i64 ((Y.tracks.getD (0) []).getD (k) 0)] (fun b9 => ?_))
     refine ofp_settle (S' := ((b9, Obj.cells #[.int .i64 ((Y.tracks.getD (0) []).getD (k) 0)] 3 (0, 0)) :: (eMs6 ++ (eR6 ++ F)))) ((List.Perm.swap _ _ _).trans (List.Perm.cons _ ((List.Perm.swap _ _ _).trans (List.Perm.cons _ (List.perm_middle.symm))))) ?_
     refine ofp_stp (stp_append (d := 45) (x := (.tmp 42)) (y := (.tmp 44)) (T := 22) (T' := 22) (E := 3) (E' := 3) (sz := 1) (bs := 8) (z := .int .i64 (0)) (cell := intCell) (xs := (blocksTo Y.cars (Y.tracks.getD (0) []) k).getD (((↑(vs.length)) - 1 : Int).toNat) []) (ys := [((Y.tracks.getD (0) []).getD (k) 0 : Int)]) (Ms := eMs6) (ty := 22) (gd := none) (by kernel_rfl) rfl (by kernel_rfl) (by kernel_rfl) (by kernel_rfl) (by kernel_rfl) (by kernel_rfl) (by decide) (by kernel_rfl) rfl rfl (eo6) (((List.Perm.cons _ ((List.Perm.cons _ ((List.Perm.append_left _ (List.perm_middle.symm)).trans (List.perm_append_comm_assoc _ _ _))).trans (List.perm_middle.symm))).trans (List.perm_middle.symm)).trans (List.Perm.append_left _ (List.Perm.cons _ (List.Perm.cons _ List.perm_middle)))) (one_intCell _) (src_atS 2 rfl rfl) (by first | omega | (simp only [List.length_cons, List.length_nil, List.length_append, List.length_take, List.length_drop]; omega)) (fun v11 Ms11 ho11 => ?_))
     refine ofp_settle (S' := ((b9, Obj.cells #[.int .i64 ((Y.tracks.getD (0) []).getD (k) 0)] 3 (0, 0)) :: (Ms11 ++ (eR6 ++ F)))) (List.perm_middle.trans (List.Perm.cons _ (List.perm_middle.trans (List.Perm.cons _ (((List.Perm.append_left _ (List.perm_middle.symm)).trans (List.perm_append_comm_assoc _ _ _)).trans (List.Perm.append_left _ List.perm_middle)))))) ?_
     obtain ⟨oa11, oc11, oe11, ol11⟩ := ho11.shape
     subst oe11
     show OFP _ _ _ _ _ _ ((45, .slice oa11 (((blocksTo Y.cars (Y.tracks.getD (0) []) k).getD (((↑(vs.length)) - 1 : Int).toNat) []) ++ ([((Y.tracks.getD (0) []).getD (k) 0 : Int)])).length oc11) :: _) _ _
     refine ofp_end ?_
     refine nm ?_
     refine pm (M' := ((b3, Obj.cells #[.slice bv_a vs.length bv_c] 24 (0, 0)) :: (b1, Obj.cells #[.slice y1_a Y.cars.length y1_c, .slice y2_a Y.room.length y2_c, .slice y3_a Y.tracks.length y3_c] 26 (0, 0)) :: (b9, Obj.cells #[.int .i64 ((Y.tracks.getD (0) []).getD (k) 0)] 3 (0, 0)) :: (bM ++ (Ms11 ++ (eR6 ++ F))))) (List.Perm.cons _ (List.Perm.cons _ List.perm_middle)) ?_
     obtain ⟨ob12, orr13⟩ := bo.row undef
     refine sd (diI 46 1 ((↑(vs.length)) - 1) orr13.addr) ?_
     refine sS (stp_storeOwn (T := 22) (x := (.tmp 46)) (y := (.tmp 45)) (rc := fun i f => valCell ((vs).getD i undef) f) undef (((↑(vs.length)) - 1 : Int).toNat) 0 ((.slice oa11 (((blocksTo Y.cars (Y.tracks.getD (0) []) k).getD (((↑(vs.length)) - 1 : Int).toNat) []) ++ ([((Y.tracks.getD (0) []).getD (k) 0 : Int)])).length oc11 : Value)) (ty := 0) (gd := none) (by kernel_rfl) rfl bo orr13 (by omega) (by decide) rfl rfl (by kernel_rfl) rfl rfl (by intro f hf; match f, hf with | 0, _ => rfl) ((List.Perm.cons _ ((List.Perm.cons _ (List.perm_middle.symm)).trans (List.perm_middle.symm))).trans (List.perm_middle.symm)) (fun Ms14 ho14 => ?_))
     refine pm (M' := ((b3, Obj.cells #[.slice bv_a vs.length bv_c] 24 (0, 0)) :: (b1, Obj.cells #[.slice y1_a Y.cars.length y1_c, .slice y2_a Y.room.length y2_c, .slice y3_a Y.tracks.length y3_c] 26 (0, 0)) :: (b9, Obj.cells #[.int .i64 ((Y.tracks.getD (0) []).getD (k) 0)] 3 (0, 0)) :: (Ms14 ++ (Ms11 ++ (eR6 ++ F))))) (List.perm_middle.trans (List.Perm.cons _ (List.perm_middle.trans (List.Perm.cons _ List.perm_middle)))) ?_
     obtain ⟨eM14, hea14, ep14⟩ := ek6 _ _ _ ho11
     refine seq_mem (I' := I) (M' := ((eM14 ++ (b3, Obj.cells #[.slice bv_a vs.length bv_c] 24 (0, 0)) :: (b1, Obj.cells #[.slice y1_a Y.cars.length y1_c, .slice y2_a Y.room.length y2_c, .slice y3_a Y.tracks.length y3_c] 26 (0, 0)) :: (b9, Obj.cells #[.int .i64 ((Y.tracks.getD (0) []).getD (k) 0)] 3 (0, 0)) :: (Ms14 ++ F)))) (fun w h => ?_) ?_
     ·have h2 := h.perm (((List.Perm.cons _ ((List.Perm.cons _ ((List.Perm.cons _ (List.perm_append_comm_assoc _ _ _)).trans (List.perm_middle.symm))).trans (List.perm_middle.symm))).trans (List.perm_middle.symm)).trans (List.Perm.append_left _ ((List.Perm.cons _ ((List.Perm.cons _ ((List.Perm.cons _ (List.perm_append_comm_assoc _ _ _)).trans (List.perm_middle.symm))).trans (List.perm_middle.symm))).trans (List.perm_middle.symm))))
      simp only [← List.append_assoc] at h2
      have h3 := St.permL (A' := eM14) (A := Ms11 ++ eR6) (by simpa only [List.append_assoc, List.append_nil] using ep14.symm) (by simpa only [List.append_assoc] using h2)
      simpa only [List.append_assoc] using h3
     refine pm (M' := ((b3, Obj.cells #[.slice bv_a vs.length bv_c] 24 (0, 0)) :: (b1, Obj.cells #[.slice y1_a Y.cars.length y1_c, .slice y2_a Y.room.length y2_c, .slice y3_a Y.tracks.length y3_c] 26 (0, 0)) :: (b9, Obj.cells #[.int .i64 ((Y.tracks.getD (0) []).getD (k) 0)] 3 (0, 0)) :: (eM14 ++ (Ms14 ++ F)))) (List.perm_middle.trans (List.Perm.cons _ (List.perm_middle.trans (List.Perm.cons _ List.perm_middle)))) ?_
     refine se ?_
     refine rexit 1 ?_
     refine (pst_exit_pass (pst_exit_block ?_))
     refine pst_next ?_
     refine rr ?_
     refine sd (da 52 (↑k) (1)) ?_
     refine sp 1 [(23, .int .i64 (↑k + 1))] ?_
     refine ee ?_
     refine pst_back ((Y.tracks.getD (0) []).length - (k+1)) (by omega) ?_
     intro a w hS hD hW
     exact ⟨k+1, (.slice bv_a vs.length bv_c), vs.set (((↑(vs.length)) - 1 : Int).toNat) ((.slice oa11 (((blocksTo Y.cars (Y.tracks.getD (0) []) k).getD (((↑(vs.length)) - 1 : Int).toNat) []) ++ ([((Y.tracks.getD (0) []).getD (k) 0 : Int)])).length oc11 : Value)), Ms14, eM14, by omega, ho14, (by rw [blocksTo_yesI (i := ((↑(vs.length)) - 1 : Int).toNat) h3 (by omega)]; exact hea14), hS.sub (.consE 23 rfl rfl (.cons 1 rfl (.cons 2 rfl (.cons 3 rfl (.cons 4 rfl (.cons 6 rfl (.cons 7 rfl (.cons 21 rfl (.cons 22 rfl (.nil _)))))))))), hD, (hW.perm (((List.Perm.cons _ (List.Perm.swap _ _ _)).trans (List.Perm.swap _ _ _)).trans (List.Perm.cons _ (List.Perm.cons _ (List.Perm.cons _ (List.perm_append_comm_assoc _ _ _)))))).sub (List.Sublist.cons _ (List.Sublist.refl _)), rfl⟩
    ·
     have h3_r := h3
     refine rskip ?_
     refine pst_next ?_
     refine rr ?_
     refine sd (dlb 47 0 0 b3 (.slice bv_a vs.length bv_c)) ?_
     refine sp 1 [(48, .int .i64 ((Y.tracks.getD (0) []).getD (k) 0))] ?_
     refine sS (sbs 49 3 1 #[.int .i64 ((Y.tracks.getD (0) []).getD (k) 0)] (fun b15 => ?_))
     refine sS (sbs 50 22 1 #[.slice (some ⟨b15, 0, none⟩) 1 1] (fun b17 => ?_))
     refine pm (M' := ((b17, Obj.cells #[.slice (some ⟨b15, 0, none⟩) 1 1] 22 (0, 0)) :: (b3, Obj.cells #[.slice bv_a vs.length bv_c] 24 (0, 0)) :: (b1, Obj.cells #[.slice y1_a Y.cars.length y1_c, .slice y2_a Y.room.length y2_c, .slice y3_a Y.tracks.length y3_c] 26 (0, 0)) :: ([(b15, Obj.cells #[.int .i64 ((Y.tracks.getD (0) []).getD (k) 0)] 3 (0, 0))] ++ (bM ++ (eM ++ F))))) (List.Perm.cons _ ((List.Perm.swap _ _ _).trans (List.Perm.cons _ (List.Perm.swap _ _ _)))) ?_
     have ho19 : Own 3 1 intCell (.slice (some ⟨b15, 0, none⟩) 1 1) ([((Y.tracks.getD (0) []).getD (k) 0 : Int)] : List Int) [(b15, Obj.cells #[.int .i64 ((Y.tracks.getD (0) []).getD (k) 0)] 3 (0, 0))] := Own.lit rfl rfl
     refine sS (stp_append (d := 51) (x := (.tmp 47)) (y := (.tmp 50)) (T := 24) (T' := 24) (E := 22) (E' := 22) (sz := 1) (bs := 24) (z := .slice none 0 0) (cell := valCell) (xs := vs) (ys := [(.slice (some ⟨b15, 0, none⟩) 1 1 : Value)]) (Ms := bM) (ty := 24) (gd := none) (by kernel_rfl) rfl (by kernel_rfl) (by kernel_rfl) (by kernel_rfl) (by kernel_rfl) (by kernel_rfl) (by decide) (by kernel_rfl) rfl rfl (bo) ((List.Perm.cons _ ((List.Perm.cons _ ((List.Perm.cons _ (List.perm_append_comm_assoc _ _ _)).trans (List.perm_middle.symm))).trans (List.perm_middle.symm))).trans (List.perm_middle.symm)) (one_valCell rfl) (src_atS 0 rfl rfl) (by first | omega | (simp only [List.length_cons, List.length_nil, List.length_append, List.length_take, List.length_drop]; omega)) (fun v20 Ms20 ho20 => ?_))
     refine seq_mem (M' := ((b3, Obj.cells #[.slice bv_a vs.length bv_c] 24 (0, 0)) :: (b1, Obj.cells #[.slice y1_a Y.cars.length y1_c, .slice y2_a Y.room.length y2_c, .slice y3_a Y.tracks.length y3_c] 26 (0, 0)) :: (Ms20 ++ ([(b15, Obj.cells #[.int .i64 ((Y.tracks.getD (0) []).getD (k) 0)] 3 (0, 0))] ++ (eM ++ F))))) (fun w h => (h.perm (List.perm_middle.trans (List.Perm.cons _ (List.perm_middle.trans (List.Perm.cons _ List.perm_middle))))).sub (List.Sublist.cons _ (List.Sublist.refl _))) ?_
     obtain ⟨oa20, oc20, oe20, ol20⟩ := ho20.shape
     subst oe20
     show Seq _ _ _ _ _ _ ((51, .slice oa20 (vs ++ ([(.slice (some ⟨b15, 0, none⟩) 1 1 : Value)])).length oc20) :: _) _ _
     have hea20 := OwnEach.snoc hea ho19
     obtain ⟨eM20, heM20_d⟩ : ∃ X, X = eM ++ [(b15, Obj.cells #[.int .i64 ((Y.tracks.getD (0) []).getD (k) 0)] 3 (0, 0))] := ⟨_, rfl⟩; rw [← heM20_d] at hea20
     refine seq_mem (I' := I) (M' := ((eM20 ++ (b3, Obj.cells #[.slice bv_a vs.length bv_c] 24 (0, 0)) :: (b1, Obj.cells #[.slice y1_a Y.cars.length y1_c, .slice y2_a Y.room.length y2_c, .slice y3_a Y.tracks.length y3_c] 26 (0, 0)) :: (Ms20 ++ F)))) (fun w h => ?_) ?_
     ·have h2 := h.perm (((List.Perm.cons _ ((List.Perm.cons _ ((List.Perm.append_left _ (List.perm_append_comm_assoc _ _ _)).trans (List.perm_append_comm_assoc _ _ _))).trans (List.perm_middle.symm))).trans (List.perm_middle.symm)).trans (List.Perm.append_left _ ((List.Perm.cons _ ((List.Perm.cons _ (List.perm_append_comm_assoc _ _ _)).trans (List.perm_middle.symm))).trans (List.perm_middle.symm))))
      simp only [← List.append_assoc] at h2
      have h3 := St.permL (A' := eM20) (A := eM ++ [(b15, Obj.cells #[.int .i64 ((Y.tracks.getD (0) []).getD (k) 0)] 3 (0, 0))]) (by simpa only [List.append_assoc, List.append_nil] using (heM20_d ▸ List.Perm.refl _)) (by simpa only [List.append_assoc] using h2)
      simpa only [List.append_assoc] using h3
     refine pm (M' := ((b3, Obj.cells #[.slice bv_a vs.length bv_c] 24 (0, 0)) :: (b1, Obj.cells #[.slice y1_a Y.cars.length y1_c, .slice y2_a Y.room.length y2_c, .slice y3_a Y.tracks.length y3_c] 26 (0, 0)) :: (eM20 ++ (Ms20 ++ F)))) (List.perm_middle.trans (List.Perm.cons _ List.perm_middle)) ?_
     refine sS (ss 0 0 b3 [.slice oa20 (vs ++ ([(.slice (some ⟨b15, 0, none⟩) 1 1 : Value)])).length oc20] [.slice oa20 (vs ++ ([(.slice (some ⟨b15, 0, none⟩) 1 1 : Value)])).length oc20] (_ :: _ :: _) (cs := [_]) rfl rfl ?_)
     refine ee ?_
     refine pst_normal_block ?_
     refine pst_next ?_
     refine rr ?_
     refine sd (da 52 (↑k) (1)) ?_
     refine sp 1 [(23, .int .i64 (↑k + 1))] ?_
     refine ee ?_
     refine pst_back ((Y.tracks.getD (0) []).length - (k+1)) (by omega) ?_
     intro a w hS hD hW
     exact ⟨k+1, (.slice oa20 (vs ++ ([(.slice (some ⟨b15, 0, none⟩) 1 1 : Value)])).length oc20), vs ++ ([(.slice (some ⟨b15, 0, none⟩) 1 1 : Value)]), Ms20, eM20, by omega, ho20, (by rw [blocksTo_no h3]; exact hea20), hS.sub (.consE 23 rfl rfl (.cons 1 rfl (.cons 2 rfl (.cons 3 rfl (.cons 4 rfl (.cons 6 rfl (.cons 7 rfl (.cons 21 rfl (.cons 22 rfl (.nil _)))))))))), hD, hW.perm (List.Perm.cons _ (List.Perm.cons _ (List.perm_append_comm_assoc _ _ _))), rfl⟩
   ·
    have h2_r := h2
    have h2 := lss_f h2
    refine rexit 0 ?_
    refine (pst_exit_pass (pst_exit_pass (pst_exit_block ?_)))
    refine pst_next ?_
    refine rq ?_
    have hkk : k = (Y.tracks.getD (0) []).length := by omega
    rw [show blocksTo Y.cars (Y.tracks.getD (0) []) k = blocksOf Y.cars (Y.tracks.getD (0) []) from by rw [hkk]; rfl] at hea
    refine rn_freezeEach (B := ((b3, Obj.cells #[.slice bv_a vs.length bv_c] 24 (0, 0)) :: (b1, Obj.cells #[.slice y1_a Y.cars.length y1_c, .slice y2_a Y.room.length y2_c, .slice y3_a Y.tracks.length y3_c] 26 (0, 0)) :: (bM ++ F))) hea (by intro xs hx; have := hw4 xs hx; omega) ((List.Perm.cons _ ((List.Perm.cons _ (List.perm_append_comm_assoc _ _ _)).trans (List.perm_middle.symm))).trans (List.perm_middle.symm)) (List.Perm.refl _) (fun I21 hle22 orw23 => ?_)
    replace y1_f := y1_f.mono hle22
    replace y2_f := y2_f.mono hle22
    replace y3_f := y3_f.mono hle22
    have orw23_len := orw23.1
    try simp only [List.length_set, List.length_append, List.length_cons, List.length_nil, List.length_take] at orw23_len
    refine rr ?_
    refine sS (sal 10 24 #[.slice none 0 0] (fun b24 => ?_))
    refine sn ?_
    refine sS (sal 11 70 #[.nilFunc] (fun b26 => ?_))
    refine sn ?_
    refine sp 1 [(53, .func (.func 35) #[] #[.pointer (some ⟨b3, 0, none⟩), .pointer (some ⟨b24, 0, none⟩), .pointer (some ⟨b26, 0, none⟩)])] ?_
    refine sS (ss 0 0 b26 [.func (.func 35) #[] #[.pointer (some ⟨b3, 0, none⟩), .pointer (some ⟨b24, 0, none⟩), .pointer (some ⟨b26, 0, none⟩)]] [.func (.func 35) #[] #[.pointer (some ⟨b3, 0, none⟩), .pointer (some ⟨b24, 0, none⟩), .pointer (some ⟨b26, 0, none⟩)]] (_ :: _ :: _ :: _ :: _) (cs := [_]) rfl rfl ?_)
    refine se ?_
    refine rq ?_
    refine rn_freeze (B := ((b26, Obj.cells #[.func (.func 35) #[] #[.pointer (some ⟨b3, 0, none⟩), .pointer (some ⟨b24, 0, none⟩), .pointer (some ⟨b26, 0, none⟩)]] 70 (0, 0)) :: (b24, Obj.cells #[.slice none 0 0] 24 (0, 0)) :: (b3, Obj.cells #[.slice bv_a vs.length bv_c] 24 (0, 0)) :: (b1, Obj.cells #[.slice y1_a Y.cars.length y1_c, .slice y2_a Y.room.length y2_c, .slice y3_a Y.tracks.length y3_c] 26 (0, 0)) :: F)) undef bo (by first | omega | (simp only [List.length_set, List.length_cons, List.length_nil, List.length_append, List.length_take, List.length_drop] <;> omega) | decide) ((List.Perm.cons _ ((List.Perm.cons _ ((List.Perm.cons _ (List.perm_middle.symm)).trans (List.perm_middle.symm))).trans (List.perm_middle.symm))).trans (List.perm_middle.symm)) (List.Perm.refl _) (fun I28 hle29 fz30_f => ?_)
    replace y1_f := y1_f.mono hle29
    replace y2_f := y2_f.mono hle29
    replace y3_f := y3_f.mono hle29
    replace orw23 := orw23.mono hle29
    obtain ⟨fz30_a, fz30_c, fz30_b, fz30_o, fz30_e, fz30_l, fz30_m, fz30_r⟩ := id fz30_f
    cases fz30_e
    have fr31_f := orw23.isRows fz30_f
    have fr31_len := orw23.1
    obtain ⟨fr31_a, fr31_c, fr31_b, fr31_o, fr31_vs, fr31_e, fr31_l, fr31_m, fr31_r, fr31_w⟩ := id fr31_f
    injection fr31_e with fr31_e1 fr31_e2 fr31_e3; subst fr31_e1; subst fr31_e3
    refine run_hold (b := b3) (o := Obj.cells #[.slice bv_a vs.length bv_c] 24 (0, 0)) (M0 := ((b26, Obj.cells #[.func (.func 35) #[] #[.pointer (some ⟨b3, 0, none⟩), .pointer (some ⟨b24, 0, none⟩), .pointer (some ⟨b26, 0, none⟩)]] 70 (0, 0)) :: (b24, Obj.cells #[.slice none 0 0] 24 (0, 0)) :: (b1, Obj.cells #[.slice y1_a Y.cars.length y1_c, .slice y2_a Y.room.length y2_c, .slice y3_a Y.tracks.length y3_c] 26 (0, 0)) :: F)) ((List.Perm.cons _ (List.Perm.swap _ _ _)).trans (List.Perm.swap _ _ _)) (fun I32 hle33 hb34 => ?_)
    replace y1_f := y1_f.mono hle33
    replace y2_f := y2_f.mono hle33
    replace y3_f := y3_f.mono hle33
    replace fr31_f := fr31_f.mono hle33
    refine run_hold (b := b26) (o := Obj.cells #[.func (.func 35) #[] #[.pointer (some ⟨b3, 0, none⟩), .pointer (some ⟨b24, 0, none⟩), .pointer (some ⟨b26, 0, none⟩)]] 70 (0, 0)) (M0 := ((b24, Obj.cells #[.slice none 0 0] 24 (0, 0)) :: (b1, Obj.cells #[.slice y1_a Y.cars.length y1_c, .slice y2_a Y.room.length y2_c, .slice y3_a Y.tracks.length y3_c] 26 (0, 0)) :: F)) (List.Perm.refl _) (fun I35 hle36 hb37 => ?_)
    replace y1_f := y1_f.mono hle36
    replace y2_f := y2_f.mono hle36
    replace y3_f := y3_f.mono hle36
    replace fr31_f := fr31_f.mono hle36
    replace hb34 := hle36.blk _ _ hb34
    refine rr ?_
    refine sd (det_load (v := .func (.func 35) #[] #[.pointer (some ⟨b3, 0, none⟩), .pointer (some ⟨b24, 0, none⟩), .pointer (some ⟨b26, 0, none⟩)]) (x := (.tmp 11)) (T := 70) (d := 54) (ty := 70) (gd := none) (by kernel_rfl) rfl (by kernel_rfl) rfl (sees_held hb37 rfl)) ?_
    refine sS (stp_makeMap (d := 55) (T := 71) (ty := 71) (gd := none) (by kernel_rfl) rfl (fun b38 => ?_))
    have hct43 := grow_all (blocksOf Y.cars (Y.tracks.getD (0) [])).length I35 (.slice none 0 0) [] b38 #[] 0 [] b3 b24 b26 _ (blocksOf Y.cars (Y.tracks.getD (0) [])) (.slice none 0 0) [] [] [] hb34 hb37 fr31_f (IsSl.nil _) (MapIs.nil _) (Own.nil _ _ _) (RowsV.nil _) (by simp) hw3 hw4 (by simp) (by simp only [List.length_nil]; omega)
    refine sS (stp_call (d := (some 56)) (f := (.tmp 54)) (fid := 35) (args := #[(.const (.slice none 0 0)), (.tmp 55)]) (tys := #[22, 71]) (cv := [.pointer (some ⟨b3, 0, none⟩), .pointer (some ⟨b24, 0, none⟩), .pointer (some ⟨b26, 0, none⟩)]) (F := ((b1, Obj.cells #[.slice y1_a Y.cars.length y1_c, .slice y2_a Y.room.length y2_c, .slice y3_a Y.tracks.length y3_c] 26 (0, 0)) :: F)) (ty := 0) (gd := none) (by kernel_rfl) rfl rfl rfl (by kernel_rfl) rfl hct43 (by simpa only [List.append_assoc, List.cons_append, List.nil_append] using (List.Perm.refl _)) (fun rv44 I40 rm45 hle41 hp42 => ?_))
    obtain ⟨ges, gcl, gov, gows, goM, rfl, hgm, ghis, goo, gor⟩ := hp42
    replace y1_f := y1_f.mono hle41
    replace y2_f := y2_f.mono hle41
    replace y3_f := y3_f.mono hle41
    replace hb34 := hle41.blk _ _ hb34
    replace hb37 := hle41.blk _ _ hb37
    rw [hgm]; clear hgm
    obtain ⟨gv_a, gv_c, gv_e, gv_l⟩ := goo.shape; subst gv_e
    have gor_len := gor.1
    try simp only [List.length_set, List.length_append, List.length_cons, List.length_nil, List.length_take] at gor_len
    rw [List.nil_append] at gor
    refine seq_mem (M' := ((b38, Obj.map ges gcl) :: (b24, Obj.cells #[.slice gv_a gows.length gv_c] 24 (0, 0)) :: (goM ++ (b1, Obj.cells #[.slice y1_a Y.cars.length y1_c, .slice y2_a Y.room.length y2_c, .slice y3_a Y.tracks.length y3_c] 26 (0, 0)) :: F))) (fun w h => by simpa only [List.append_assoc, List.cons_append, List.nil_append] using h) ?_
    refine pm (M' := ((b38, Obj.map ges gcl) :: (b24, Obj.cells #[.slice gv_a gows.length gv_c] 24 (0, 0)) :: (b1, Obj.cells #[.slice y1_a Y.cars.length y1_c, .slice y2_a Y.room.length y2_c, .slice y3_a Y.tracks.length y3_c] 26 (0, 0)) :: (goM ++ F))) (List.Perm.cons _ (List.Perm.cons _ List.perm_middle)) ?_
    show Seq _ _ _ _ _ _ ((56, .tuple #[]) :: _) _ _
    refine sn ?_
    refine sd (dlb 57 1 0 b24 (.slice gv_a gows.length gv_c)) ?_
    refine sp 1 [(58, .func (.func 38) #[] #[.pointer (some ⟨b1, 0, none⟩)])] ?_
    refine sfz (A := ((b38, Obj.map ges gcl) :: (b24, Obj.cells #[.slice gv_a gows.length gv_c] 24 (0, 0)) :: (b1, Obj.cells #[.slice y1_a Y.cars.length y1_c, .slice y2_a Y.room.length y2_c, .slice y3_a Y.tracks.length y3_c] 26 (0, 0)) :: F)) undef goo ((List.Perm.cons _ ((List.Perm.cons _ (List.perm_middle.symm)).trans (List.perm_middle.symm))).trans (List.perm_middle.symm)) (fun I46 hle47 fz48_f => ?_)
    replace y1_f := y1_f.mono hle47
    replace y2_f := y2_f.mono hle47
    replace y3_f := y3_f.mono hle47
    replace hb34 := hle47.blk _ _ hb34
    replace hb37 := hle47.blk _ _ hb37
    replace gor := gor.mono hle47
    obtain ⟨fz48_a, fz48_c, fz48_b, fz48_o, fz48_e, fz48_l, fz48_m, fz48_r⟩ := id fz48_f
    cases fz48_e
    have fr49_f := gor.isRows fz48_f
    have fr49_len := gor.1
    obtain ⟨fr49_a, fr49_c, fr49_b, fr49_o, fr49_vs, fr49_e, fr49_l, fr49_m, fr49_r, fr49_w⟩ := id fr49_f
    injection fr49_e with fr49_e1 fr49_e2 fr49_e3; subst fr49_e1; subst fr49_e3
    refine seq_hold (b := b1) (o := Obj.cells #[.slice y1_a Y.cars.length y1_c, .slice y2_a Y.room.length y2_c, .slice y3_a Y.tracks.length y3_c] 26 (0, 0)) (M0 := ((b38, Obj.map ges gcl) :: (b24, Obj.cells #[.slice gv_a gows.length gv_c] 24 (0, 0)) :: F)) ((List.Perm.cons _ (List.Perm.swap _ _ _)).trans (List.Perm.swap _ _ _)) (fun I50 hle51 hb52 => ?_)
    replace y1_f := y1_f.mono hle51
    replace y2_f := y2_f.mono hle51
    replace y3_f := y3_f.mono hle51
    replace hb34 := hle51.blk _ _ hb34
    replace hb37 := hle51.blk _ _ hb37
    replace fr49_f := fr49_f.mono hle51
    have hct56 := least_ct I50 _ (growM (blocksOf Y.cars (Y.tracks.getD (0) [])) (blocksOf Y.cars (Y.tracks.getD (0) [])).length [] []) b1 _ _ _ Y hb52 y1_f y2_f y3_f fr49_f hw6 (by omega) hw7
    refine sS (stp_call (d := (some 59)) (f := (.func 37)) (fid := 37) (args := #[(.tmp 57), (.tmp 58), (.func 40)]) (tys := #[24, 75, 76]) (cv := []) (F := ((b38, Obj.map ges gcl) :: (b24, Obj.cells #[.slice gv_a gows.length gv_c] 24 (0, 0)) :: F)) (ty := 22) (gd := none) (by kernel_rfl) rfl rfl rfl (by kernel_rfl) rfl hct56 (List.Perm.refl _) (fun rv57 I53 rm58 hle54 hp55 => ?_))
    obtain ⟨hgm, rv_f⟩ := hp55
    replace y1_f := y1_f.mono hle54
    replace y2_f := y2_f.mono hle54
    replace y3_f := y3_f.mono hle54
    replace hb34 := hle54.blk _ _ hb34
    replace hb37 := hle54.blk _ _ hb37
    replace hb52 := hle54.blk _ _ hb52
    subst hgm
    obtain ⟨rv_a, rv_c, rv_b, rv_o, rv_e, rv_l, rv_m, rv_r⟩ := id rv_f
    subst rv_e
    refine nm ?_
    show Seq _ _ _ _ _ _ ((59, .slice rv_a (minF (warmCmp Y.cars) ((growM (blocksOf Y.cars (Y.tracks.getD (0) [])) (blocksOf Y.cars (Y.tracks.getD (0) [])).length [] []).drop 1) ((growM (blocksOf Y.cars (Y.tracks.getD (0) [])) (blocksOf Y.cars (Y.tracks.getD (0) [])).length [] []).getD 0 [])).length rv_c) :: _) _ _
    refine sp 1 [(2, .slice rv_a (minF (warmCmp Y.cars) ((growM (blocksOf Y.cars (Y.tracks.getD (0) [])) (blocksOf Y.cars (Y.tracks.getD (0) [])).length [] []).drop 1) ((growM (blocksOf Y.cars (Y.tracks.getD (0) [])) (blocksOf Y.cars (Y.tracks.getD (0) [])).length [] []).getD 0 [])).length rv_c)] ?_
    refine sn ?_
    refine sp 1 [(60, .slice rv_a (minF (warmCmp Y.cars) ((growM (blocksOf Y.cars (Y.tracks.getD (0) [])) (blocksOf Y.cars (Y.tracks.getD (0) [])).length [] []).drop 1) ((growM (blocksOf Y.cars (Y.tracks.getD (0) [])) (blocksOf Y.cars (Y.tracks.getD (0) [])).length [] []).getD 0 [])).length rv_c)] ?_
    refine sd (det_loadN (x := (.tmp 1)) (T := 26) (n := 3) (vs := [.slice y1_a Y.cars.length y1_c, .slice y2_a Y.room.length y2_c, .slice y3_a Y.tracks.length y3_c]) (d := 61) (ty := 26) (gd := none) (by kernel_rfl) rfl (by kernel_rfl) (by kernel_rfl) rfl rfl (seesN_held (n := 3) hb52 rfl)) ?_
    refine sp 1 [(62, .slice rv_a (minF (warmCmp Y.cars) ((growM (blocksOf Y.cars (Y.tracks.getD (0) [])) (blocksOf Y.cars (Y.tracks.getD (0) [])).length [] []).drop 1) ((growM (blocksOf Y.cars (Y.tracks.getD (0) [])) (blocksOf Y.cars (Y.tracks.getD (0) [])).length [] []).getD 0 [])).length rv_c)] ?_
    have hmn := hw7 _ (minF_in (f := warmCmp Y.cars) hw6)
    have hct69 := cold_ct I53 _ (Y) _ _ (mkYard y1_f y2_f y3_f) rv_f (by exact (hw7 _ (minF_in (f := warmCmp Y.cars) hw6)).1) (by exact (hw7 _ (minF_in (f := warmCmp Y.cars) hw6)).2)
    refine sS (sc (some 63) (F := ((b38, Obj.map ges gcl) :: (b24, Obj.cells #[.slice gv_a gows.length gv_c] 24 (0, 0)) :: F)) (hct69 :) (.refl _) (fun rv67 I59 rm68 hle60 hp61 => ?_))
    obtain ⟨u64, Ms65, hv62, hm63, qh66⟩ := hp61
    rw [hv62, hm63]; clear hv62 hm63
    replace hb34 := hle60.blk _ _ hb34
    replace hb37 := hle60.blk _ _ hb37
    replace hb52 := hle60.blk _ _ hb52
    replace rv_f := rv_f.mono hle60
    obtain ⟨u64_a, u64_c, u64_e, u64_l⟩ := qh66.shape
    subst u64_e
    refine pm (M' := ((b38, Obj.map ges gcl) :: (b24, Obj.cells #[.slice gv_a gows.length gv_c] 24 (0, 0)) :: (Ms65 ++ F))) (List.perm_middle.trans (List.Perm.cons _ List.perm_middle)) ?_
    show Seq _ _ _ _ _ _ ((63, .slice u64_a (coldOf Y.cars (minF (warmCmp Y.cars) ((growM (blocksOf Y.cars (Y.tracks.getD (0) [])) (blocksOf Y.cars (Y.tracks.getD (0) [])).length [] []).drop 1) ((growM (blocksOf Y.cars (Y.tracks.getD (0) [])) (blocksOf Y.cars (Y.tracks.getD (0) [])).length [] []).getD 0 []))).length u64_c) :: _) _ _
    refine sp 4 [(4, .int .i64 (0)), (3, .int .i64 (↑((coldOf Y.cars (minF (warmCmp Y.cars) ((growM (blocksOf Y.cars (Y.tracks.getD (0) [])) (blocksOf Y.cars (Y.tracks.getD (0) [])).length [] []).drop 1) ((growM (blocksOf Y.cars (Y.tracks.getD (0) [])) (blocksOf Y.cars (Y.tracks.getD (0) [])).length [] []).getD 0 []))).length))), (2, .slice rv_a (minF (warmCmp Y.cars) ((growM (blocksOf Y.cars (Y.tracks.getD (0) [])) (blocksOf Y.cars (Y.tracks.getD (0) [])).length [] []).drop 1) ((growM (blocksOf Y.cars (Y.tracks.getD (0) [])) (blocksOf Y.cars (Y.tracks.getD (0) [])).length [] []).getD 0 [])).length rv_c)] ?_
    refine se ?_
    refine rret ?_
    refine pst_ret3 (t := 2) (u := 3) (r := 4) [] (by kernel_rfl) rfl rfl rfl (List.Sublist.cons _ (List.Sublist.cons _ (List.Sublist.trans (List.Sublist.refl _) (List.sublist_append_right _ _)))) (Imm.le.trans (Imm.le.trans (Imm.le.trans (Imm.le.trans (Imm.le.trans (Imm.le.trans (Imm.le.trans (Imm.le.trans hle22 hle29) hle33) hle36) hle41) hle47) hle51) hle54) hle60) ?_
    exact ⟨_, (congrArg (fun p : List Int × Int × Int => Value.tuple #[.slice rv_a p.1.length rv_c, .int .i64 p.2.1, .int .i64 p.2.2]) (warmE_ok hvl).symm), rfl, ((show minF (warmCmp Y.cars) ((growM (blocksOf Y.cars (Y.tracks.getD (0) [])) (blocksOf Y.cars (Y.tracks.getD (0) [])).length [] []).drop 1) ((growM (blocksOf Y.cars (Y.tracks.getD (0) [])) (blocksOf Y.cars (Y.tracks.getD (0) [])).length [] []).getD 0 []) = (warmE Y).1 from (congrArg Prod.fst (warmE_ok hvl)).symm) ▸ rv_f)⟩

end Go.Proofs.YtcaocbhbofejnaaDoor
namespace Go.Sl
open Go
section
variable {P : Program} {N : Nat} {ops : Array Oper} {i : Nat} {l : Sl} {I : Imm} {M : Seg} {ty : TypeId} {gd : Option (Nat × Bool)} {K : Sl → Imm → Seg → Prop} {κ : Type} [DecidableEq κ] {enc : κ → Value}
theorem stp_insert {x y u : Operand} {T kt et r cl : Nat} {es : Array MapEntry} {kvs : List (κ × Value)} {k : κ} {v : Value} (n : Nat) (hop : opAt ops N i = some (none, .insert T x y u, ty, gd)) (hg : gval ops l gd = some true)
    (hT : tyMap P T = some (kt, et)) (hK : KeyOk P kt enc) (hx : oval l x = some (.map (some r))) (hy : oval l y = some (enc k)) (hu : oval l u = some v) (hn : M[n]? = some (r, Obj.map es cl)) (his : MapIs enc es kvs)
    (h : ∀ es' cl', MapIs enc es' (upd k v kvs) → K l I (M.set n (r, Obj.map es' cl'))) : Stp P N ops i l I M K :=
  stp_of_wpL hop hg (known3 hx hy hu) (by
    show wpL P (Instr.mapUpdate T (rho l x) (rho l y) (rho l u) >>= fun _ => pure Next.skip) _ I M
    rw [rho_of hx, rho_of hy, rho_of hu, wpL_bind]
    unfold Instr.mapUpdate
    rw [wpL_bind, wpL_underlying (tyMap_spec hT)]
    show wpL P (Sem.getObj r _) _ I M
    refine ⟨_, .inl (List.mem_of_getElem? hn), rfl, ?_⟩
    show wpL P (Instr.checkKey _ _ _ _ >>= _) _ I _
    rw [wpL_bind]
    refine hK.check _ _ _ _ _ ?_
    rw [wpL_bind]
    refine hK.find k es.toList kvs _ _ _ his ?_
    have hf := findKv_upd k v kvs 0
    cases hkv : findKv k kvs 0 with
    | none =>
      rw [hkv] at hf
      simp only at hf
      show wpL P (Sem.setObj r _ _) _ I M
      refine wpL_setObj n rfl hn rfl ?_
      refine ⟨undef, .inr ⟨rfl, rfl⟩, h _ _ ?_⟩
      rw [hf.1]
      exact mapIs_push his k v cl
    | some p =>
      obtain ⟨j, w⟩ := p
      rw [hkv] at hf
      simp only [Nat.sub_zero] at hf
      obtain ⟨_, h1, _, h2⟩ := hf
      have hold : ((es[j]?).map (·.key)).getD (enc k) = enc k := by
        have := congrArg (fun l => (l[j]?).map Prod.fst) his
        simp only [List.getElem?_map, Array.getElem?_toList, Option.map_map] at this
        cases he : es[j]? with
        | none => rfl
        | some e =>
          rw [he] at this
          cases hq : kvs[j]? with
          | none => rw [hq] at this; simp at this
          | some q =>
            rw [hq] at this h2
            simp [entOf] at this h2
            simp [this, h2]
      have key : ∀ key, key = enc k → wpL P (Sem.setObj r (.map (es.modify j fun e => { e with key, val := v }) cl) (Sem.pure ())) (fun _ M' => wpL P (pure Next.skip) (fun n M' => ∃ v, (n = .value v ∨ (n = .skip ∧ v = undef)) ∧ K (ups none v l) I M') I M') I M := fun key hkey => by
        refine wpL_setObj n rfl hn rfl ?_
        refine ⟨undef, .inr ⟨rfl, rfl⟩, h _ _ ?_⟩
        rw [h1]
        exact mapIs_set his j k v key hkey
      show wpL P (Instr.keyThatStays (((es[j]?).map (·.key)).getD (enc k)) (enc k) >>= _) _ I M
      rw [wpL_bind, hold]
      unfold Instr.keyThatStays
      split
      · exact key _ rfl
      · rw [wpL_bind]
        show (if (Question.extern "map.whichKeyStays" 2).forced then _ else ∀ t, _)
        split
        · refine key _ ?_; split <;> rfl
        · intro t; refine key _ ?_; split <;> rfl)

end
theorem decI_t {p : Prop} {i : Decidable p} (h : @decide p i = true) : p := of_decide_eq_true h
theorem decI_f {p : Prop} {i : Decidable p} (h : @decide p i = false) : ¬ p := of_decide_eq_false h
def NoR : Imm → Seg → Prop := fun _ M => M = []
end Go.Sl
namespace Go.Sh
open Go Go.Sl
def YardH (T : TypeId) (I : Imm) (v : Value) (Y : Yard) : Prop :=
  ∃ b v1 v2 v3, v = .pointer (some ⟨b, 0, none⟩) ∧ I.blk b = some (Obj.cells #[v1, v2, v3] T (0, 0)) ∧ IsCars I v1 Y.cars ∧ IsInts I v2 Y.room ∧ IsRows I v3 Y.tracks
theorem YardH.mono {T : TypeId} {I J : Imm} {v : Value} {Y : Yard} (h : YardH T I v Y) (le : I.le J) : YardH T J v Y := by
  obtain ⟨b, v1, v2, v3, h1, h2, h3, h4, h5⟩ := h
  exact ⟨b, v1, v2, v3, h1, le.blk _ _ h2, h3.mono le, h4.mono le, h5.mono le⟩
def YardsH (T : TypeId) (I : Imm) (vs : List Value) (zs : List Yard) : Prop := vs.length = zs.length ∧ ∀ i, i < zs.length → YardH T I (vs.getD i undef) (zs.getD i noYard)
theorem YardsH.mono {T : TypeId} {I J : Imm} {vs : List Value} {zs : List Yard} (h : YardsH T I vs zs) (le : I.le J) : YardsH T J vs zs := ⟨h.1, fun i hi => (h.2 i hi).mono le⟩
theorem YardsH.nil (T : TypeId) (I : Imm) : YardsH T I [] [] := ⟨rfl, fun i hi => by simp at hi⟩
theorem YardsH.snoc {T : TypeId} {I : Imm} {vs : List Value} {zs : List Yard} (h : YardsH T I vs zs) {v : Value} {Z : Yard} (hz : YardH T I v Z) : YardsH T I (vs ++ [v]) (zs ++ [Z]) := by
  refine ⟨by simp [h.1], fun i hi => ?_⟩
  have hl := h.1
  by_cases e : i < zs.length
  · have := h.2 i e
    simp only [List.getD] at this ⊢
    rw [List.getElem?_append_left (by omega), List.getElem?_append_left e]; exact this
  · simp only [List.length_append, List.length_cons, List.length_nil] at hi
    have e2 : i = zs.length := by omega
    subst e2
    simp only [List.getD]
    rw [List.getElem?_append_right (by omega), List.getElem?_append_right (by omega), hl]
    simpa using hz
theorem YardH.mk {T : TypeId} {I : Imm} {b : Nat} {v1 v2 v3 : Value} {Y : Yard} (h2 : I.blk b = some (Obj.cells #[v1, v2, v3] T (0, 0))) (h3 : IsCars I v1 Y.cars) (h4 : IsInts I v2 Y.room) (h5 : IsRows I v3 Y.tracks) :
    YardH T I (.pointer (some ⟨b, 0, none⟩)) Y := ⟨b, v1, v2, v3, rfl, h2, h3, h4, h5⟩

structure VisOk (A : Yard) (s : List Place × List Yard) : Prop where
  met : ∃ m : List Yard, s.1 = m.map placeOf ∧ (∀ y ∈ m, Kin A y) ∧ (m.map Yard.tracks).Nodup
  kin : ∀ y ∈ s.2, Kin A y
  le : s.2.length ≤ s.1.length
theorem VisOk.count {A : Yard} {s : List Place × List Yard} (h : VisOk A s) (f : Fine A) : s.1.length ≤ 5000 ∧ s.2.length ≤ 5000 := by
  obtain ⟨m, e, hk, hn⟩ := h.met
  have hs : m.map Yard.tracks ⊆ allCuts A.tracks.length 5 A.tracks.flatten := fun t ht => by
    obtain ⟨y, hy, rfl⟩ := List.mem_map.1 ht
    exact kin_mem f (hk y hy) f.sum
  have := hn.length_le_of_subset hs
  rw [List.length_map, allCuts_length] at this
  have hf : fact A.tracks.flatten.length ≤ 120 := by
    match A.tracks.flatten.length, f.sum with
    | 0, _ | 1, _ | 2, _ | 3, _ | 4, _ | 5, _ => decide
  have h2 : fact A.tracks.flatten.length * ((5 + 1) * (5 + 1)) ≤ 120 * 36 := Nat.mul_le_mul_right 36 hf
  have h3 : s.1.length = m.length := by rw [e, List.length_map]
  have := h.le
  omega
theorem VisOk.visit {A : Yard} {s : List Place × List Yard} {z : Yard} (h : VisOk A s) (f : Fine A) (hz : Kin A z) : VisOk A (visit s z) := by
  obtain ⟨m, e, hk, hn⟩ := h.met
  have hle := h.le
  unfold Go.Sh.visit
  split
  · exact h
  · rename_i hm
    refine ⟨⟨m ++ [z], by simp [e], fun y hy => ?_, ?_⟩, fun y hy => ?_, by simp only [List.length_append, List.length_cons, List.length_nil]; omega⟩
    · rcases List.mem_append.1 hy with hy | hy
      · exact hk y hy
      · simp at hy; subst hy; exact hz
    · rw [List.map_append]
      refine List.nodup_append.2 ⟨hn, by simp, fun a ha b hb => ?_⟩
      simp at hb; subst hb
      intro e2
      obtain ⟨y, hy, rfl⟩ := List.mem_map.1 ha
      have := kin_tracks (hk y hy) hz e2
      subst this
      exact hm (e ▸ List.mem_map_of_mem hy)
    · rcases List.mem_append.1 hy with hy | hy
      · exact h.kin y hy
      · simp at hy; subst hy; exact hz
theorem VisOk.visitAll {A : Yard} (f : Fine A) : ∀ (zs : List Yard) (s : List Place × List Yard), VisOk A s → (∀ z ∈ zs, Kin A z) → VisOk A (visitAll zs s) := by
  intro zs
  induction zs with
  | nil => intro s h _; exact h
  | cons z r ih => intro s h hk; exact ih _ (h.visit f (hk z List.mem_cons_self)) (fun y hy => hk y (List.mem_cons_of_mem _ hy))
theorem VisOk.fresh {A : Yard} {s : List Place × List Yard} (h : VisOk A s) : VisOk A (s.1, []) := ⟨h.met, fun y hy => by simp at hy, Nat.zero_le _⟩
theorem VisOk.start (A : Yard) : VisOk A ([placeOf A], [A]) := ⟨⟨[A], rfl, fun y hy => by simp at hy; subst hy; exact Kin.refl _, by simp⟩, fun y hy => by simp at hy; subst hy; exact Kin.refl _, by simp⟩
def visJ (met : List Place) (now : List Yard) (j : Nat) : List Place × List Yard := visitAll ((now.take j).flatMap nexts) (met, [])
theorem visJ_zero (met : List Place) (now : List Yard) : visJ met now 0 = (met, []) := by simp [visJ, visitAll]
theorem visJ_succ {met : List Place} {now : List Yard} {j : Nat} (h : j < now.length) : visJ met now (j + 1) = visitAll (nexts (now.getD j noYard)) (visJ met now j) := by
  unfold visJ; rw [take_snoc (d := noYard) h, List.flatMap_append, visitAll_append]; simp
theorem visJ_done {met : List Place} {now : List Yard} {j : Nat} (h : now.length ≤ j) : visJ met now j = roundM now met := by
  unfold visJ roundM; rw [take_done h]
def visX (s : List Place × List Yard) (x : Yard) (xs : List Shift) : List Place × List Yard := visitAll (xs.map (moved x)) s
theorem visX_snoc (s : List Place × List Yard) (x : Yard) (xs : List Shift) (d : Shift) : visX s x (xs ++ [d]) = visit (visX s x xs) (moved x d) := by
  unfold visX; rw [List.map_append, visitAll_append]; rfl
theorem VisOk.j {A : Yard} (f : Fine A) {met : List Place} {now : List Yard} (h : VisOk A (met, now)) (j : Nat) : VisOk A (visJ met now j) :=
  VisOk.visitAll f _ _ h.fresh (flat_kin fun y hy => h.kin y (List.mem_of_mem_take hy))
theorem VisOk.x {A : Yard} (f : Fine A) {s : List Place × List Yard} {x : Yard} (h : VisOk A s) (hx : Kin A x) {xs : List Shift} (hp : xs <+: draws x) : VisOk A (visX s x xs) :=
  VisOk.visitAll f _ _ h fun y hy => by
    obtain ⟨d, hd, rfl⟩ := List.mem_map.1 hy
    exact hx.moved (mem_draws_may (hp.subset hd))
theorem VisOk.round {A : Yard} (f : Fine A) {met : List Place} {now : List Yard} (h : VisOk A (met, now)) : VisOk A (roundM now met) := VisOk.visitAll f _ _ h.fresh (flat_kin h.kin)
def reachE (Y : Yard) (d : Int) : Int × Int := if checkErr Y = 0 then (if inB d 0 4 then (reach Y d.toNat, 0) else (0, 1)) else (0, checkErr Y)
theorem reachE_bad {Y : Yard} {d : Int} (h : checkErr Y ≠ 0) : reachE Y d = (0, checkErr Y) := if_neg h
theorem reachE_far {Y : Yard} {d : Int} (h : Valid Y) (hd : inB d 0 4 = false) : reachE Y d = (0, 1) := (if_pos h).trans (if_neg (by rw [hd]; simp))
theorem reachE_ok {Y : Yard} {d : Int} (h : Valid Y) (hd : inB d 0 4 = true) : reachE Y d = (reach Y d.toNat, 0) := (if_pos h).trans (if_pos hd)
end Go.Sh
namespace Go.Sh
open Go Go.Sl
theorem visit_old {s : List Place × List Yard} {z : Yard} (h : placeOf z ∈ s.1) : visit s z = s := if_pos h
theorem visit_new {s : List Place × List Yard} {z : Yard} (h : ¬ placeOf z ∈ s.1) : visit s z = (s.1 ++ [placeOf z], s.2 ++ [z]) := if_neg h
theorem reach_step {met : List Place} {zs : List Yard} {d k j : Nat} (hk : k < d) (hj : zs.length ≤ j) : reachM (d - k) met zs = reachM (d - (k + 1)) (visJ met zs j).1 (visJ met zs j).2 := by
  rw [visJ_done hj, show d - k = (d - (k + 1)) + 1 by omega]; rfl
theorem reach_end {Y : Yard} {met : List Place} {zs : List Yard} {d k : Nat} (h : reachM d [placeOf Y] [Y] = reachM (d - k) met zs) (hk : d ≤ k) : reach Y d = (met.length : Int) := by
  unfold reach; rw [h, show d - k = 0 by omega]; rfl
theorem prefix_left {α : Type} {xs ys : List α} {x : α} (h : (xs ++ [x]) <+: ys) : xs <+: ys := (List.prefix_append xs [x]).trans h
theorem Kin.lens {A Y : Yard} (f : Fine A) (k : Kin A Y) : Y.cars.length ≤ 1000000 ∧ Y.room.length ≤ 1000000 ∧ Y.tracks.length ≤ 1000000 := by
  have := k.cars5 f; have := k.len3 f; have := f.room3
  rw [k.room]; omega
end Go.Sh

/- A part of the proof of the laws of this seat. -/
import Derived.Test.YtcaocbhbofejnaaDoorP3
import Derived.Test.YtcaocbhbofejnaaDoorP1
set_option linter.unusedVariables false
set_option linter.unusedSimpArgs false
namespace Go.Proofs.YtcaocbhbofejnaaDoor
open Go Go.Sl Go.Sh
set_option maxRecDepth 100000
def SearchAt (n : Nat) : Prop := ∀ (I : Imm) (y : Nat) (y_1 y_2 y_3 : Value) (y_ws : List Value) (y_Ms : Seg) (Y : Yard) (d : Nat) (r : Nat) (r_es : Array MapEntry) (r_cl : Nat) (m : Met) (g : Value) (gs : List Value) (A : Yard) (ps : List (Yard → Bool)) (y_1f : IsCars I y_1 Y.cars) (y_2f : IsInts I y_2 Y.room) (y_3h : Own 22 1 valCell y_3 y_ws y_Ms) (y_3r : RowsV I y_ws Y.tracks) (r_is : MapIs encP r_es (metV m)) (g_f : IsVals I g gs) (hG : Glob I) (hgo : GoalsOk Tryd.prog 22 87 I A gs ps) (hka : Kin A Y) (hfa : Fine A) (hd : d ≤ 4), d = n → Ct Tryd.prog 75 #[.pointer (some ⟨y, 0, none⟩), .int .i64 ↑d, .map (some r), g] I ([(y, Obj.cells #[y_1, y_2, y_3] 87 (0, 0))] ++ (y_Ms ++ ([(r, Obj.map r_es r_cl)]))) (fun v I' M' => ∃ y_wt : List Value, ∃ y_Mt : Seg, ∃ r_et : Array MapEntry, ∃ r_ct : Nat, ∃ u0 : Value, ∃ Ms0 : Seg, v = .tuple #[u0, .bool ((searchM (allP ps) d Y m).1.isSome)] ∧ M' = [(y, Obj.cells #[y_1, y_2, y_3] 87 (0, 0))] ++ (y_Mt ++ ([(r, Obj.map r_et r_ct)] ++ (Ms0))) ∧ Own 22 1 valCell y_3 y_wt y_Mt ∧ RowsV I' y_wt (Y).tracks ∧ MapIs encP r_et (metV ((searchM (allP ps) d Y m).2)) ∧ Own 54 3 shiftCell u0 ((searchM (allP ps) d Y m).1.getD []) Ms0)
noncomputable def c_moveD (p : List Nat) : Code := sub (bodyOf Tryd.f53) p
theorem move_ctD (I : Imm) (y : Nat) (y_1 y_2 y_3 : Value) (y_ws : List Value) (y_Ms : Seg) (Y : Yard) (s : Shift) (y_1f : IsCars I y_1 Y.cars) (y_2f : IsInts I y_2 Y.room) (y_3h : Own 22 1 valCell y_3 y_ws y_Ms) (y_3r : RowsV I y_ws Y.tracks) (hf : 0 ≤ s.frm ∧ s.frm < Y.tracks.length) (ht : 0 ≤ s.to ∧ s.to < Y.tracks.length) (hm : 0 ≤ s.many ∧ s.many ≤ (Y.tracks.getD s.frm.toNat []).length) (hq : ∀ t ∈ Y.tracks, t.length ≤ 1000000) : CtD Tryd.prog 53 #[.pointer (some ⟨y, 0, none⟩), .agg #[.int .i64 s.frm, .int .i64 s.to, .int .i64 s.many]] I ([(y, Obj.cells #[y_1, y_2, y_3] 87 (0, 0))] ++ (y_Ms)) (fun v I' M' => ∃ y_wt : List Value, ∃ y_Mt : Seg, v = .tuple #[] ∧ M' = [(y, Obj.cells #[y_1, y_2, y_3] 87 (0, 0))] ++ (y_Mt) ∧ Own 22 1 valCell y_3 y_wt y_Mt ∧ RowsV I' y_wt (moved Y s).tracks) := by
 have y_1_f := y_1f
 obtain ⟨y_1_a, y_1_c, y_1_b, y_1_o, y_1_e, y_1_l, y_1_m, y_1_r⟩ := id y_1_f
 subst y_1_e
 have y_2_f := y_2f
 obtain ⟨y_2_a, y_2_c, y_2_b, y_2_o, y_2_e, y_2_l, y_2_m, y_2_r⟩ := id y_2_f
 subst y_2_e
 obtain ⟨y_3_a, y_3_c, y_3_e, y_3_l⟩ := y_3h.shape; subst y_3_e
 have y_3r_len := y_3r.1
 try simp only [List.length_set, List.length_append, List.length_cons, List.length_nil, List.length_take] at y_3r_len
 refine fnD_of_run (fn := Tryd.f53) (args := [_, _]) (N := 54) Tryd.func53 rfl (by kernel_rfl) (Nat.le_of_ble_eq_true rfl) (fun F => ?_)
 show Run _ _ (c_moveD []) _ _ [(0, .pointer (some ⟨y, 0, none⟩)), (1, .agg #[.int .i64 (s.frm), .int .i64 (s.to), .int .i64 (s.many)])] _ _
 refine rnm ?_
 refine rqr ?_
 refine sS (sb 3 54 #[.int .i64 (s.frm), .int .i64 (s.to), .int .i64 (s.many)] (fun b1 => ?_))
 refine se ?_
 refine rq ?_
 refine rd0 7 ?_
 refine ox 4 [(9, .pointer (some ⟨y, 2, none⟩))] ?_
 refine ofp_det (dlb 10 1 2 y (.slice y_3_a y_ws.length y_3_c)) ?_
 refine ox 1 [(11, .pointer (some ⟨b1, 0, none⟩))] ?_
 refine ofp_det (dlb 12 0 0 b1 (.int .i64 (s.frm))) ?_
 refine ofp_end0 ?_
 obtain ⟨ob3, orr4⟩ := y_3h.row undef
 refine sd (diI 13 1 (s.frm) orr4.addr) ?_
 have r5_f := y_3r.2 ((s.frm : Int).toNat) (by omega)
 obtain ⟨r5_a, r5_c, r5_b, r5_o, r5_e, r5_l, r5_m, r5_r⟩ := id r5_f
 rw [r5_e] at r5_f
 refine sd (det_eq (dl 14 (orr4.get ((s.frm : Int).toNat) (by omega) 0 (by decide) _ _ (fun x hx => by simp [hx]))) r5_e) ?_
 refine sp 1 [(4, .slice r5_a (Y.tracks.getD ((s.frm : Int).toNat) []).length r5_c)] ?_
 refine sn ?_
 refine sp 3 [(17, .pointer (some ⟨b1, 2, none⟩)), (16, .int .i64 (↑((Y.tracks.getD ((s.frm : Int).toNat) []).length)))] ?_
 refine sd (dlb 18 0 2 b1 (.int .i64 (s.many))) ?_
 refine sd (dsb 19 (↑((Y.tracks.getD ((s.frm : Int).toNat) []).length)) (s.many)) ?_
 refine sp 1 [(5, .int .i64 ((↑((Y.tracks.getD ((s.frm : Int).toNat) []).length)) - s.many))] ?_
 refine se ?_
 refine rq ?_
 refine rd 21 [(0, true), (1, true), (2, true), (3, true), (4, true), (5, true), (6, true), (7, true), (8, true), (9, true), (10, true), (11, true), (12, true), (13, true), (14, true), (15, true), (17, true), (18, true), (19, true), (16, false), (20, false)] ((b1, Obj.cells #[.int .i64 (s.frm), .int .i64 (s.to), .int .i64 (s.many)] 54 (0, 0)) :: (y, Obj.cells #[.slice y_1_a Y.cars.length y_1_c, .slice y_2_a Y.room.length y_2_c, .slice y_3_a y_ws.length y_3_c] 87 (0, 0)) :: y_Ms) (F) ?_
 refine ox 4 [(23, .pointer (some ⟨y, 2, none⟩))] ?_
 refine ofp_det (dlb 24 1 2 y (.slice y_3_a y_ws.length y_3_c)) ?_
 refine ox 1 [(25, .pointer (some ⟨b1, 1, none⟩))] ?_
 refine ofp_det (dlb 26 0 1 b1 (.int .i64 (s.to))) ?_
 refine ox 4 [(30, .pointer (some ⟨y, 2, none⟩))] ?_
 refine ofp_det (dlb 31 1 2 y (.slice y_3_a y_ws.length y_3_c)) ?_
 refine ox 1 [(32, .pointer (some ⟨b1, 1, none⟩))] ?_
 refine ofp_det (dlb 33 0 1 b1 (.int .i64 (s.to))) ?_
 obtain ⟨ob6, orr7⟩ := y_3h.row undef
 refine ofp_det (diI 34 1 (s.to) orr7.addr) ?_
 have r8_f := y_3r.2 ((s.to : Int).toNat) (by omega)
 obtain ⟨r8_a, r8_c, r8_b, r8_o, r8_e, r8_l, r8_m, r8_r⟩ := id r8_f
 rw [r8_e] at r8_f
 refine ofp_det (det_eq (dl 35 (orr7.get ((s.to : Int).toNat) (by omega) 0 (by decide) _ _ (fun x hx => by simp [hx]))) r8_e) ?_
 refine ox 2 [(38, .int .i64 ((↑((Y.tracks.getD ((s.frm : Int).toNat) []).length)) - s.many)), (37, .slice r5_a (Y.tracks.getD ((s.frm : Int).toNat) []).length r5_c)] ?_
 have s9_f := r5_f.cutLo (((↑((Y.tracks.getD ((s.frm).toNat) []).length) : Int) - s.many).toNat) (by omega)
 obtain ⟨s9_a, s9_c, s9_b, s9_o, s9_e, s9_l, s9_m, s9_r⟩ := id s9_f
 rw [s9_e] at s9_f
 refine ofp_det (det_eq (det_slice (x := (.tmp 37)) (lo := (some (.tmp 38))) (hi := none) (T := 22) (e := 3) (sz := 1) (((↑((Y.tracks.getD ((s.frm).toNat) []).length) : Int) - s.many).toNat) ((Y.tracks.getD ((s.frm : Int).toNat) []).length) (d := 39) (ty := 22) (gd := none) (by kernel_rfl) rfl (by kernel_rfl) (by kernel_rfl) rfl (.inr ⟨_, .i64, rfl, (look_int rfl (by omega))⟩) (.inl ⟨rfl, rfl⟩) (by omega) (by omega)) s9_e) ?_
 refine ofp_stp (sc (some 36) (F := ((b1, Obj.cells #[.int .i64 (s.frm), .int .i64 (s.to), .int .i64 (s.many)] 54 (0, 0)) :: (y, Obj.cells #[.slice y_1_a Y.cars.length y_1_c, .slice y_2_a Y.room.length y_2_c, .slice y_3_a y_ws.length y_3_c] 87 (0, 0)) :: (y_Ms ++ F))) (CloneInts_ct _ _ _ r8_f (by have qto := hq _ (getD_mem (d := []) (xs := Y.tracks) (k := s.to.toNat) (by omega)); omega) :) (List.Perm.refl _) (fun rv18 I10 rm19 hle11 hp12 => ?_))
 obtain ⟨u15, Ms16, hv13, hm14, qh17⟩ := hp12
 rw [hv13, hm14]; clear hv13 hm14
 replace y_3r := y_3r.mono hle11
 replace r5_f := r5_f.mono hle11
 replace s9_f := s9_f.mono hle11
 obtain ⟨u15_a, u15_c, u15_e, u15_l⟩ := qh17.shape
 subst u15_e
 refine ofp_settle (S' := ((Ms16 ++ F))) (List.perm_middle.trans (List.Perm.cons _ (List.perm_middle.trans (List.Perm.cons _ (List.perm_append_comm_assoc _ _ _))))) ?_
 show OFP _ _ _ _ _ _ ((36, .slice u15_a ((Y.tracks.getD ((s.to : Int).toNat) [])).length u15_c) :: _) _ _
 refine ofp_stp (stp_append (d := 40) (x := (.tmp 36)) (y := (.tmp 39)) (T := 22) (T' := 22) (E := 3) (E' := 3) (sz := 1) (bs := 8) (z := .int .i64 (0)) (cell := intCell) (xs := (Y.tracks.getD ((s.to : Int).toNat) [])) (ys := (Y.tracks.getD ((s.frm : Int).toNat) []).drop (((↑((Y.tracks.getD ((s.frm).toNat) []).length) : Int) - s.many).toNat)) (Ms := Ms16) (ty := 22) (gd := none) (by kernel_rfl) rfl (by kernel_rfl) (by kernel_rfl) (by kernel_rfl) (by kernel_rfl) (by kernel_rfl) (by decide) (by kernel_rfl) rfl rfl (qh17) ((List.Perm.cons _ ((List.Perm.cons _ (List.perm_append_comm_assoc _ _ _)).trans (List.perm_middle.symm))).trans (List.perm_middle.symm)) (one_intCell _) s9_f.src (by first | omega | (have qto := hq _ (getD_mem (d := []) (xs := Y.tracks) (k := s.to.toNat) (by omega)); have qfrm := hq _ (getD_mem (d := []) (xs := Y.tracks) (k := s.frm.toNat) (by omega)); simp only [List.length_drop]; omega)) (fun v20 Ms20 ho20 => ?_))
 refine ofp_settle (S' := ((Ms20 ++ F))) (List.perm_middle.trans (List.Perm.cons _ (List.perm_middle.trans (List.Perm.cons _ (List.perm_append_comm_assoc _ _ _))))) ?_
 obtain ⟨oa20, oc20, oe20, ol20⟩ := ho20.shape
 subst oe20
 show OFP _ _ _ _ _ _ ((40, .slice oa20 (((Y.tracks.getD ((s.to : Int).toNat) [])) ++ ((Y.tracks.getD ((s.frm : Int).toNat) []).drop (((↑((Y.tracks.getD ((s.frm).toNat) []).length) : Int) - s.many).toNat))).length oc20) :: _) _ _
 refine ofp_end ?_
 refine nm ?_
 refine nm ?_
 obtain ⟨ob21, orr22⟩ := y_3h.row undef
 refine sd (diI 41 1 (s.to) orr22.addr) ?_
 have qto := hq _ (getD_mem (d := []) (xs := Y.tracks) (k := s.to.toNat) (by omega)); have qfrm := hq _ (getD_mem (d := []) (xs := Y.tracks) (k := s.frm.toNat) (by omega)); have q5 : (Y.tracks.getD s.to.toNat [] ++ (Y.tracks.getD s.frm.toNat []).drop ((↑((Y.tracks.getD ((s.frm).toNat) []).length) : Int) - s.many).toNat).length ≤ 2000000 := by (simp only [List.length_append, List.length_drop]; omega)
 refine sfz (A := ((b1, Obj.cells #[.int .i64 (s.frm), .int .i64 (s.to), .int .i64 (s.many)] 54 (0, 0)) :: (y, Obj.cells #[.slice y_1_a Y.cars.length y_1_c, .slice y_2_a Y.room.length y_2_c, .slice y_3_a y_ws.length y_3_c] 87 (0, 0)) :: (y_Ms ++ F))) 0 ho20 ((List.Perm.cons _ ((List.Perm.cons _ (List.perm_append_comm_assoc _ _ _)).trans (List.perm_middle.symm))).trans (List.perm_middle.symm)) (fun I23 hle24 fz25_f => ?_)
 replace y_3r := y_3r.mono hle24
 replace r5_f := r5_f.mono hle24
 obtain ⟨fz25_a, fz25_c, fz25_b, fz25_o, fz25_e, fz25_l, fz25_m, fz25_r⟩ := id fz25_f
 cases fz25_e
 refine sS (stp_storeOwn (T := 22) (x := (.tmp 41)) (y := (.tmp 40)) (rc := fun i f => valCell ((y_ws).getD i undef) f) undef ((s.to : Int).toNat) 0 ((.slice oa20 (((Y.tracks.getD ((s.to : Int).toNat) [])) ++ ((Y.tracks.getD ((s.frm : Int).toNat) []).drop (((↑((Y.tracks.getD ((s.frm).toNat) []).length) : Int) - s.many).toNat))).length oc20 : Value)) (ty := 0) (gd := none) (by kernel_rfl) rfl y_3h orr22 (by omega) (by decide) rfl rfl (by kernel_rfl) rfl rfl (by intro f hf; match f, hf with | 0, _ => rfl) ((List.Perm.cons _ (List.perm_middle.symm)).trans (List.perm_middle.symm)) (fun Ms26 ho26 => ?_))
 refine pm (M' := ((b1, Obj.cells #[.int .i64 (s.frm), .int .i64 (s.to), .int .i64 (s.many)] 54 (0, 0)) :: (y, Obj.cells #[.slice y_1_a Y.cars.length y_1_c, .slice y_2_a Y.room.length y_2_c, .slice y_3_a y_ws.length y_3_c] 87 (0, 0)) :: (Ms26 ++ F))) (List.perm_middle.trans (List.Perm.cons _ List.perm_middle)) ?_
 have orw27 := y_3r.set fz25_f ((s.to : Int).toNat)
 have orw27_len := orw27.1
 try simp only [List.length_set, List.length_append, List.length_cons, List.length_nil, List.length_take] at orw27_len
 refine se ?_
 refine rd 11 [(0, true), (1, true), (2, true), (3, true), (4, true), (5, true), (6, true), (7, true), (8, true), (9, true), (10, false)] ((b1, Obj.cells #[.int .i64 (s.frm), .int .i64 (s.to), .int .i64 (s.many)] 54 (0, 0)) :: (y, Obj.cells #[.slice y_1_a Y.cars.length y_1_c, .slice y_2_a Y.room.length y_2_c, .slice y_3_a y_ws.length y_3_c] 87 (0, 0)) :: Ms26) (F) ?_
 refine ox 4 [(45, .pointer (some ⟨y, 2, none⟩))] ?_
 refine ofp_det (dlb 46 1 2 y (.slice y_3_a y_ws.length y_3_c)) ?_
 refine ox 1 [(47, .pointer (some ⟨b1, 0, none⟩))] ?_
 refine ofp_det (dlb 48 0 0 b1 (.int .i64 (s.frm))) ?_
 refine ox 2 [(50, .int .i64 ((↑((Y.tracks.getD ((s.frm : Int).toNat) []).length)) - s.many)), (49, .slice r5_a (Y.tracks.getD ((s.frm : Int).toNat) []).length r5_c)] ?_
 have s28_f := r5_f.cutHi (((↑((Y.tracks.getD ((s.frm).toNat) []).length) : Int) - s.many).toNat) (by omega)
 obtain ⟨s28_a, s28_c, s28_b, s28_o, s28_e, s28_l, s28_m, s28_r⟩ := id s28_f
 rw [s28_e] at s28_f
 refine ofp_det (det_eq (det_slice (x := (.tmp 49)) (lo := none) (hi := (some (.tmp 50))) (T := 22) (e := 3) (sz := 1) (0) (((↑((Y.tracks.getD ((s.frm).toNat) []).length) : Int) - s.many).toNat) (d := 51) (ty := 22) (gd := none) (by kernel_rfl) rfl (by kernel_rfl) (by kernel_rfl) rfl (.inl ⟨rfl, rfl⟩) (.inr ⟨_, .i64, rfl, (look_int rfl (by omega))⟩) (by omega) (by omega)) s28_e) ?_
 refine ofp_stp (sc (some 52) (F := ((b1, Obj.cells #[.int .i64 (s.frm), .int .i64 (s.to), .int .i64 (s.many)] 54 (0, 0)) :: (y, Obj.cells #[.slice y_1_a Y.cars.length y_1_c, .slice y_2_a Y.room.length y_2_c, .slice y_3_a y_ws.length y_3_c] 87 (0, 0)) :: (Ms26 ++ F))) (CloneInts_ct _ _ _ s28_f (by have qfrm := hq _ (getD_mem (d := []) (xs := Y.tracks) (k := s.frm.toNat) (by omega)); simp only [List.length_take]; omega) :) (List.Perm.refl _) (fun rv37 I29 rm38 hle30 hp31 => ?_))
 obtain ⟨u34, Ms35, hv32, hm33, qh36⟩ := hp31
 rw [hv32, hm33]; clear hv32 hm33
 replace orw27 := orw27.mono hle30
 obtain ⟨u34_a, u34_c, u34_e, u34_l⟩ := qh36.shape
 subst u34_e
 refine ofp_settle (S' := ((Ms35 ++ F))) (List.perm_middle.trans (List.Perm.cons _ (List.perm_middle.trans (List.Perm.cons _ (List.perm_append_comm_assoc _ _ _))))) ?_
 show OFP _ _ _ _ _ _ ((52, .slice u34_a (((Y.tracks.getD ((s.frm : Int).toNat) []).take (((↑((Y.tracks.getD ((s.frm).toNat) []).length) : Int) - s.many).toNat))).length u34_c) :: _) _ _
 refine ofp_end ?_
 refine nm ?_
 refine nm ?_
 obtain ⟨ob39, orr40⟩ := ho26.row undef
 simp only [List.length_set] at orr40
 refine sd (diI 53 1 (s.frm) (fun _ => orr40.addr (by omega)) (n := y_ws.length)) ?_
 have qfrm := hq _ (getD_mem (d := []) (xs := Y.tracks) (k := s.frm.toNat) (by omega)); have q6 : ((Y.tracks.getD s.frm.toNat []).take ((↑((Y.tracks.getD ((s.frm).toNat) []).length) : Int) - s.many).toNat).length ≤ 1000000 := by (simp only [List.length_take]; omega)
 refine sfz (A := ((b1, Obj.cells #[.int .i64 (s.frm), .int .i64 (s.to), .int .i64 (s.many)] 54 (0, 0)) :: (y, Obj.cells #[.slice y_1_a Y.cars.length y_1_c, .slice y_2_a Y.room.length y_2_c, .slice y_3_a y_ws.length y_3_c] 87 (0, 0)) :: (Ms26 ++ F))) 0 qh36 ((List.Perm.cons _ ((List.Perm.cons _ (List.perm_append_comm_assoc _ _ _)).trans (List.perm_middle.symm))).trans (List.perm_middle.symm)) (fun I41 hle42 fz43_f => ?_)
 replace orw27 := orw27.mono hle42
 obtain ⟨fz43_a, fz43_c, fz43_b, fz43_o, fz43_e, fz43_l, fz43_m, fz43_r⟩ := id fz43_f
 cases fz43_e
 refine sS (stp_storeOwn (T := 22) (x := (.tmp 53)) (y := (.tmp 52)) (rc := fun i f => valCell ((y_ws.set ((s.to : Int).toNat) ((.slice oa20 (((Y.tracks.getD ((s.to : Int).toNat) [])) ++ ((Y.tracks.getD ((s.frm : Int).toNat) []).drop (((↑((Y.tracks.getD ((s.frm).toNat) []).length) : Int) - s.many).toNat))).length oc20 : Value))).getD i undef) f) undef ((s.frm : Int).toNat) 0 ((.slice u34_a (((Y.tracks.getD ((s.frm : Int).toNat) []).take (((↑((Y.tracks.getD ((s.frm).toNat) []).length) : Int) - s.many).toNat))).length u34_c : Value)) (ty := 0) (gd := none) (by kernel_rfl) rfl ho26 (by simpa only [List.length_set] using orr40) (by simp only [List.length_set]; omega) (by decide) rfl rfl (by kernel_rfl) rfl rfl (by intro f hf; match f, hf with | 0, _ => rfl) ((List.Perm.cons _ (List.perm_middle.symm)).trans (List.perm_middle.symm)) (fun Ms44 ho44 => ?_))
 refine pm (M' := ((b1, Obj.cells #[.int .i64 (s.frm), .int .i64 (s.to), .int .i64 (s.many)] 54 (0, 0)) :: (y, Obj.cells #[.slice y_1_a Y.cars.length y_1_c, .slice y_2_a Y.room.length y_2_c, .slice y_3_a y_ws.length y_3_c] 87 (0, 0)) :: (Ms44 ++ F))) (List.perm_middle.trans (List.Perm.cons _ List.perm_middle)) ?_
 have orw45 := orw27.set fz43_f ((s.frm : Int).toNat)
 have orw45_len := orw45.1
 try simp only [List.length_set, List.length_append, List.length_cons, List.length_nil, List.length_take] at orw45_len
 refine ee ?_
 refine ppm (M' := ((y, Obj.cells #[.slice y_1_a Y.cars.length y_1_c, .slice y_2_a Y.room.length y_2_c, .slice y_3_a y_ws.length y_3_c] 87 (0, 0)) :: (Ms44 ++ (b1, Obj.cells #[.int .i64 (s.frm), .int .i64 (s.to), .int .i64 (s.many)] 54 (0, 0)) :: F))) ((List.Perm.swap _ _ _).trans (List.Perm.cons _ (List.perm_middle.symm))) ?_
 refine pst_end0 ([(y, Obj.cells #[.slice y_1_a Y.cars.length y_1_c, .slice y_2_a Y.room.length y_2_c, .slice y_3_a y_ws.length y_3_c] 87 (0, 0))] ++ (Ms44)) (by kernel_rfl) (by simp only [List.append_assoc, List.nil_append, List.cons_append]; exact (List.Sublist.cons_cons _ (List.Sublist.append_left (List.Sublist.cons _ (List.Sublist.refl _)) _))) (Imm.le.trans (Imm.le.trans (Imm.le.trans hle11 hle24) hle30) hle42) ?_
 exact ⟨_, _, rfl, rfl, ho44, orw45⟩

noncomputable def c_try (p : List Nat) : Code := sub (bodyOf Tryd.f83) p
theorem try_ct (I : Imm) (y : Nat) (y_1 y_2 y_3 : Value) (y_ws : List Value) (y_Ms : Seg) (Y : Yard) (s : Shift) (d : Nat) (r : Nat) (r_es : Array MapEntry) (r_cl : Nat) (m : Met) (g : Value) (gs : List Value) (A : Yard) (ps : List (Yard → Bool)) (y_1f : IsCars I y_1 Y.cars) (y_2f : IsInts I y_2 Y.room) (y_3h : Own 22 1 valCell y_3 y_ws y_Ms) (y_3r : RowsV I y_ws Y.tracks) (r_is : MapIs encP r_es (metV m)) (g_f : IsVals I g gs) (hG : Glob I) (hgo : GoalsOk Tryd.prog 22 87 I A gs ps) (hka : Kin A Y) (hfa : Fine A) (hd : d ≤ 4) (hm : mayErr Y s = 0) (hs : SearchAt d) : Ct Tryd.prog 83 #[.pointer (some ⟨y, 0, none⟩), .agg #[.int .i64 s.frm, .int .i64 s.to, .int .i64 s.many], .int .i64 ↑d, .map (some r), g] I ([(y, Obj.cells #[y_1, y_2, y_3] 87 (0, 0))] ++ (y_Ms ++ ([(r, Obj.map r_es r_cl)]))) (fun v I' M' => ∃ y_wt : List Value, ∃ y_Mt : Seg, ∃ r_et : Array MapEntry, ∃ r_ct : Nat, ∃ u0 : Value, ∃ Ms0 : Seg, v = .tuple #[u0, .bool ((searchM (allP ps) d (moved Y s) m).1.isSome)] ∧ M' = [(y, Obj.cells #[y_1, y_2, y_3] 87 (0, 0))] ++ (y_Mt ++ ([(r, Obj.map r_et r_ct)] ++ (Ms0))) ∧ Own 22 1 valCell y_3 y_wt y_Mt ∧ RowsV I' y_wt (Y).tracks ∧ MapIs encP r_et (metV ((searchM (allP ps) d (moved Y s) m).2)) ∧ Own 54 3 shiftCell u0 ((searchM (allP ps) d (moved Y s) m).1.getD []) Ms0) := by
 have y_1_f := y_1f
 obtain ⟨y_1_a, y_1_c, y_1_b, y_1_o, y_1_e, y_1_l, y_1_m, y_1_r⟩ := id y_1_f
 subst y_1_e
 have y_2_f := y_2f
 obtain ⟨y_2_a, y_2_c, y_2_b, y_2_o, y_2_e, y_2_l, y_2_m, y_2_r⟩ := id y_2_f
 subst y_2_e
 obtain ⟨y_3_a, y_3_c, y_3_e, y_3_l⟩ := y_3h.shape; subst y_3_e
 have y_3r_len := y_3r.1
 try simp only [List.length_set, List.length_append, List.length_cons, List.length_nil, List.length_take] at y_3r_len
 obtain ⟨g_a, g_c, g_b, g_o, g_e, g_l, g_m, g_r⟩ := id g_f
 subst g_e
 refine fnM_of_run (fn := Tryd.f83) (args := [_, _, _, _, _]) (N := 25) Tryd.func83 rfl (by kernel_rfl) (Nat.le_of_ble_eq_true rfl) (fun F => ?_)
 show Run _ _ (c_try []) _ _ [(0, .pointer (some ⟨y, 0, none⟩)), (1, .agg #[.int .i64 (s.frm), .int .i64 (s.to), .int .i64 (s.many)]), (2, .int .i64 (↑d)), (3, .map (some r)), (4, .slice g_a gs.length g_c)] _ _
 refine run_mem (M' := ((y, Obj.cells #[.slice y_1_a Y.cars.length y_1_c, .slice y_2_a Y.room.length y_2_c, .slice y_3_a y_ws.length y_3_c] 87 (0, 0)) :: (y_Ms ++ (r, Obj.map r_es r_cl) :: F))) (fun w h => by simpa only [List.append_assoc, List.cons_append, List.nil_append] using h) ?_
 refine rpm (M' := ((y, Obj.cells #[.slice y_1_a Y.cars.length y_1_c, .slice y_2_a Y.room.length y_2_c, .slice y_3_a y_ws.length y_3_c] 87 (0, 0)) :: (r, Obj.map r_es r_cl) :: (y_Ms ++ F))) (List.Perm.cons _ List.perm_middle) ?_
 refine rqr ?_
 refine sS (sb 6 54 #[.int .i64 (s.frm), .int .i64 (s.to), .int .i64 (s.many)] (fun b1 => ?_))
 refine sp 2 [(11, .bool (false)), (10, .slice none 0 0)] ?_
 refine sn ?_
 have hmv := mayErr_ok hm
 have hgy := Kin.good hfa hka
 refine sp 1 [(12, .pointer (some ⟨y, 0, none⟩))] ?_
 refine sd (dnb 13 0 0 b1 [.int .i64 (s.frm), .int .i64 (s.to), .int .i64 (s.many)]) ?_
 have hct14 := move_ct I (y) _ _ _ _ _ (Y) (s) y_1_f y_2_f y_3h y_3r (by exact hmv.1) (by exact hmv.2.1) (by exact hmv.2.2) (by exact hgy.le)
 refine sS (sc (some 14) (F := ((b1, Obj.cells #[.int .i64 (s.frm), .int .i64 (s.to), .int .i64 (s.many)] 54 (0, 0)) :: (r, Obj.map r_es r_cl) :: F)) (hct14 :) ((List.Perm.swap _ _ _).trans (List.Perm.cons _ ((List.Perm.cons _ (List.perm_middle.symm)).trans (List.perm_middle.symm)))) (fun rv12 I3 rm13 hle4 hp5 => ?_))
 obtain ⟨y_wt8, y_Mt9, hv6, hm7, qwh10, qwr11⟩ := hp5
 rw [hv6, hm7]; clear hv6 hm7
 replace y_1_f := y_1_f.mono hle4
 replace y_2_f := y_2_f.mono hle4
 replace g_f := g_f.mono hle4
 replace hG := hG.mono hle4
 replace hgo := hgo.mono hle4
 obtain ⟨wk15_a, wk15_c, wk15_e, wk15_l⟩ := id qwh10.shape
 have qwr11_len := qwr11.1
 try simp only [List.length_set, List.length_append, List.length_cons, List.length_nil, List.length_take] at qwr11_len
 refine seq_mem (M' := ((y, Obj.cells #[.slice y_1_a Y.cars.length y_1_c, .slice y_2_a Y.room.length y_2_c, .slice y_3_a y_ws.length y_3_c] 87 (0, 0)) :: (y_Mt9 ++ (b1, Obj.cells #[.int .i64 (s.frm), .int .i64 (s.to), .int .i64 (s.many)] 54 (0, 0)) :: (r, Obj.map r_es r_cl) :: F))) (fun w h => by simpa only [List.append_assoc, List.cons_append, List.nil_append] using h) ?_
 refine pm (M' := ((y, Obj.cells #[.slice y_1_a Y.cars.length y_1_c, .slice y_2_a Y.room.length y_2_c, .slice y_3_a y_ws.length y_3_c] 87 (0, 0)) :: (b1, Obj.cells #[.int .i64 (s.frm), .int .i64 (s.to), .int .i64 (s.many)] 54 (0, 0)) :: (r, Obj.map r_es r_cl) :: (y_Mt9 ++ F))) (List.Perm.cons _ (List.perm_middle.trans (List.Perm.cons _ List.perm_middle))) ?_
 show Seq _ _ _ _ _ _ ((14, .tuple #[]) :: _) _ _
 refine sn ?_
 refine sp 1 [(15, .pointer (some ⟨y, 0, none⟩))] ?_
 refine sd (dnb 16 1 0 b1 [.int .i64 (s.frm), .int .i64 (s.to), .int .i64 (s.many)]) ?_
 have hct23 := back_ct I3 (s)
 refine sS (sc (some 17) (F := ((y, Obj.cells #[.slice y_1_a Y.cars.length y_1_c, .slice y_2_a Y.room.length y_2_c, .slice y_3_a y_ws.length y_3_c] 87 (0, 0)) :: (b1, Obj.cells #[.int .i64 (s.frm), .int .i64 (s.to), .int .i64 (s.many)] 54 (0, 0)) :: (r, Obj.map r_es r_cl) :: (y_Mt9 ++ F))) (hct23 :) (.refl _) (fun rv21 I16 rm22 hle17 hp18 => ?_))
 obtain ⟨hv19, hm20⟩ := hp18
 rw [hv19, hm20]; clear hv19 hm20
 replace y_1_f := y_1_f.mono hle17
 replace y_2_f := y_2_f.mono hle17
 replace g_f := g_f.mono hle17
 replace hG := hG.mono hle17
 replace hgo := hgo.mono hle17
 replace qwr11 := qwr11.mono hle17
 refine nm ?_
 show Seq _ _ _ _ _ _ ((17, .agg #[.int .i64 ((backShift s).frm), .int .i64 ((backShift s).to), .int .i64 ((backShift s).many)]) :: _) _ _
 refine seq_defer (f := (.func 53)) (fid := 53) (args := #[.tmp 15, .tmp 17]) (tys := #[85, 54]) (vals := [.pointer (some ⟨y, 0, none⟩), .agg #[.int .i64 ((backShift s).frm), .int .i64 ((backShift s).to), .int .i64 ((backShift s).many)]]) (cv := []) (ty := 0) (by kernel_rfl) rfl rfl ?_
 refine sn ?_
 refine sp 4 [(21, .slice g_a gs.length g_c), (20, .map (some r)), (19, .int .i64 (↑d)), (18, .pointer (some ⟨y, 0, none⟩))] ?_
 have hct41 := hs I16 (y) _ _ _ _ _ (moved Y s) (d) (r) (r_es) (r_cl) (m) _ _ (A) (ps) y_1_f y_2_f qwh10 qwr11 r_is g_f (by assumption) (by assumption) (by exact hka.moved hm) (by assumption) (by omega) (by rfl)
 refine sS (sc (some 22) (F := ((b1, Obj.cells #[.int .i64 (s.frm), .int .i64 (s.to), .int .i64 (s.many)] 54 (0, 0)) :: F)) (hct41 :) (by simpa only [List.append_assoc, List.cons_append, List.nil_append] using (List.Perm.cons _ (((List.Perm.cons _ (List.perm_middle.symm)).trans (List.perm_middle.symm)).trans (List.Perm.append_left _ (List.Perm.swap _ _ _))))) (fun rv39 I24 rm40 hle25 hp26 => ?_))
 obtain ⟨y_wt29, y_Mt30, r_et31, r_ct32, u033, Ms034, hv27, hm28, qwh35, qwr36, qmh37, qh38⟩ := hp26
 rw [hv27, hm28]; clear hv27 hm28
 replace y_1_f := y_1_f.mono hle25
 replace y_2_f := y_2_f.mono hle25
 obtain ⟨wk42_a, wk42_c, wk42_e, wk42_l⟩ := id qwh35.shape
 have qwr36_len := qwr36.1
 try simp only [List.length_set, List.length_append, List.length_cons, List.length_nil, List.length_take] at qwr36_len
 obtain ⟨u033_a, u033_c, u033_e, u033_l⟩ := qh38.shape
 subst u033_e
 refine seq_mem (M' := ((y, Obj.cells #[.slice y_1_a Y.cars.length y_1_c, .slice y_2_a Y.room.length y_2_c, .slice y_3_a y_ws.length y_3_c] 87 (0, 0)) :: (y_Mt30 ++ (r, Obj.map r_et31 r_ct32) :: (Ms034 ++ (b1, Obj.cells #[.int .i64 (s.frm), .int .i64 (s.to), .int .i64 (s.many)] 54 (0, 0)) :: F)))) (fun w h => by simpa only [List.append_assoc, List.cons_append, List.nil_append] using h) ?_
 refine pm (M' := ((y, Obj.cells #[.slice y_1_a Y.cars.length y_1_c, .slice y_2_a Y.room.length y_2_c, .slice y_3_a y_ws.length y_3_c] 87 (0, 0)) :: (r, Obj.map r_et31 r_ct32) :: (b1, Obj.cells #[.int .i64 (s.frm), .int .i64 (s.to), .int .i64 (s.many)] 54 (0, 0)) :: (y_Mt30 ++ (Ms034 ++ F)))) (List.Perm.cons _ (List.perm_middle.trans (List.Perm.cons _ ((List.Perm.append_left _ List.perm_middle).trans List.perm_middle)))) ?_
 show Seq _ _ _ _ _ _ ((22, .tuple #[.slice u033_a ((searchM (allP ps) d (moved Y s) m).1.getD []).length u033_c, .bool ((searchM (allP ps) d (moved Y s) m).1.isSome)]) :: _) _ _
 refine sp 4 [(11, .bool ((searchM (allP ps) d (moved Y s) m).1.isSome)), (10, .slice u033_a ((searchM (allP ps) d (moved Y s) m).1.getD []).length u033_c)] ?_
 refine se ?_
 refine rret ?_
 have hqb := back_ok hm
 have hctD := move_ctD I24 y (.slice y_1_a Y.cars.length y_1_c) (.slice y_2_a Y.room.length y_2_c) (.slice y_3_a y_ws.length y_3_c) y_wt29 y_Mt30 (moved Y s) (backShift s) y_1_f y_2_f qwh35 qwr36 hqb.1 hqb.2.1 hqb.2.2 (Kin.good hfa (hka.moved hm)).le
 refine pst_deferred (fid := 53) (vals := [.pointer (some ⟨y, 0, none⟩), .agg #[.int .i64 ((backShift s).frm), .int .i64 ((backShift s).to), .int .i64 ((backShift s).many)]]) (cv := []) (ds := []) (F1 := ((r, Obj.map r_et31 r_ct32) :: (b1, Obj.cells #[.int .i64 (s.frm), .int .i64 (s.to), .int .i64 (s.many)] 54 (0, 0)) :: (Ms034 ++ F))) (by kernel_rfl) hctD (by simpa only [List.append_assoc, List.cons_append, List.nil_append] using (List.Perm.cons _ ((List.Perm.cons _ (List.perm_middle.symm)).trans (List.perm_middle.symm)))) (fun dv dI dM dle dp => ?_)
 obtain ⟨dws, dMs, rfl, rfl, d4, d5⟩ := dp
 rw [moved_back hm] at d5
 refine pst_mem (M' := ((y, Obj.cells #[.slice y_1_a Y.cars.length y_1_c, .slice y_2_a Y.room.length y_2_c, .slice y_3_a y_ws.length y_3_c] 87 (0, 0)) :: (dMs ++ (r, Obj.map r_et31 r_ct32) :: (b1, Obj.cells #[.int .i64 (s.frm), .int .i64 (s.to), .int .i64 (s.many)] 54 (0, 0)) :: (Ms034 ++ F)))) (fun w h => by simpa only [List.append_assoc, List.cons_append, List.nil_append] using h) ?_
 refine pst_marks (R := ((y, Obj.cells #[.slice y_1_a Y.cars.length y_1_c, .slice y_2_a Y.room.length y_2_c, .slice y_3_a y_ws.length y_3_c] 87 (0, 0)) :: (dMs ++ (r, Obj.map r_et31 r_ct32) :: (b1, Obj.cells #[.int .i64 (s.frm), .int .i64 (s.to), .int .i64 (s.many)] 54 (0, 0)) :: (Ms034 ++ F)))) [] (.inl rfl) (List.Perm.refl _) ?_
 refine ppm (M' := ((y, Obj.cells #[.slice y_1_a Y.cars.length y_1_c, .slice y_2_a Y.room.length y_2_c, .slice y_3_a y_ws.length y_3_c] 87 (0, 0)) :: (dMs ++ (r, Obj.map r_et31 r_ct32) :: (Ms034 ++ (b1, Obj.cells #[.int .i64 (s.frm), .int .i64 (s.to), .int .i64 (s.many)] 54 (0, 0)) :: F)))) (List.Perm.cons _ (List.Perm.append_left _ (List.Perm.cons _ (List.perm_middle.symm)))) ?_
 refine pst_ret2 (t := 10) (u := 11) ([(y, Obj.cells #[.slice y_1_a Y.cars.length y_1_c, .slice y_2_a Y.room.length y_2_c, .slice y_3_a y_ws.length y_3_c] 87 (0, 0))] ++ (dMs ++ ([(r, Obj.map r_et31 r_ct32)] ++ (Ms034)))) (by kernel_rfl) rfl rfl (by simp only [List.append_assoc, List.nil_append, List.cons_append]; exact (List.Sublist.cons_cons _ (List.Sublist.append_left (List.Sublist.cons_cons _ (List.Sublist.append_left (List.Sublist.cons _ (List.Sublist.refl _)) _)) _))) (Imm.le.trans (Imm.le.trans (Imm.le.trans hle4 hle17) hle25) dle) ?_
 exact ⟨_, _, _, _, _, _, rfl, rfl, d4, d5, qmh37, qh38⟩

noncomputable def c_search (p : List Nat) : Code := sub (bodyOf Tryd.f75) p
set_option maxHeartbeats 1000000 in
theorem search_of (I : Imm) (y : Nat) (y_1 y_2 y_3 : Value) (y_ws : List Value) (y_Ms : Seg) (Y : Yard) (d : Nat) (r : Nat) (r_es : Array MapEntry) (r_cl : Nat) (m : Met) (g : Value) (gs : List Value) (A : Yard) (ps : List (Yard → Bool)) (y_1f : IsCars I y_1 Y.cars) (y_2f : IsInts I y_2 Y.room) (y_3h : Own 22 1 valCell y_3 y_ws y_Ms) (y_3r : RowsV I y_ws Y.tracks) (r_is : MapIs encP r_es (metV m)) (g_f : IsVals I g gs) (hG : Glob I) (hgo : GoalsOk Tryd.prog 22 87 I A gs ps) (hka : Kin A Y) (hfa : Fine A) (hd : d ≤ 4) (ht : ∀ n, n + 1 = d → SearchAt n) : Ct Tryd.prog 75 #[.pointer (some ⟨y, 0, none⟩), .int .i64 ↑d, .map (some r), g] I ([(y, Obj.cells #[y_1, y_2, y_3] 87 (0, 0))] ++ (y_Ms ++ ([(r, Obj.map r_es r_cl)]))) (fun v I' M' => ∃ y_wt : List Value, ∃ y_Mt : Seg, ∃ r_et : Array MapEntry, ∃ r_ct : Nat, ∃ u0 : Value, ∃ Ms0 : Seg, v = .tuple #[u0, .bool ((searchM (allP ps) d Y m).1.isSome)] ∧ M' = [(y, Obj.cells #[y_1, y_2, y_3] 87 (0, 0))] ++ (y_Mt ++ ([(r, Obj.map r_et r_ct)] ++ (Ms0))) ∧ Own 22 1 valCell y_3 y_wt y_Mt ∧ RowsV I' y_wt (Y).tracks ∧ MapIs encP r_et (metV ((searchM (allP ps) d Y m).2)) ∧ Own 54 3 shiftCell u0 ((searchM (allP ps) d Y m).1.getD []) Ms0) := by
 have y_1_f := y_1f
 obtain ⟨y_1_a, y_1_c, y_1_b, y_1_o, y_1_e, y_1_l, y_1_m, y_1_r⟩ := id y_1_f
 subst y_1_e
 have y_2_f := y_2f
 obtain ⟨y_2_a, y_2_c, y_2_b, y_2_o, y_2_e, y_2_l, y_2_m, y_2_r⟩ := id y_2_f
 subst y_2_e
 obtain ⟨y_3_a, y_3_c, y_3_e, y_3_l⟩ := y_3h.shape; subst y_3_e
 have y_3r_len := y_3r.1
 try simp only [List.length_set, List.length_append, List.length_cons, List.length_nil, List.length_take] at y_3r_len
 obtain ⟨g_a, g_c, g_b, g_o, g_e, g_l, g_m, g_r⟩ := id g_f
 subst g_e
 refine fnM_of_run (fn := Tryd.f75) (args := [_, _, _, _]) (N := 59) Tryd.func75 rfl (by kernel_rfl) (Nat.le_of_ble_eq_true rfl) (fun F => ?_)
 show Run _ _ (c_search []) _ _ [(0, .pointer (some ⟨y, 0, none⟩)), (1, .int .i64 (↑d)), (2, .map (some r)), (3, .slice g_a gs.length g_c)] _ _
 refine run_mem (M' := ((y, Obj.cells #[.slice y_1_a Y.cars.length y_1_c, .slice y_2_a Y.room.length y_2_c, .slice y_3_a y_ws.length y_3_c] 87 (0, 0)) :: (y_Ms ++ (r, Obj.map r_es r_cl) :: F))) (fun w h => by simpa only [List.append_assoc, List.cons_append, List.nil_append] using h) ?_
 refine rpm (M' := ((y, Obj.cells #[.slice y_1_a Y.cars.length y_1_c, .slice y_2_a Y.room.length y_2_c, .slice y_3_a y_ws.length y_3_c] 87 (0, 0)) :: (r, Obj.map r_es r_cl) :: (y_Ms ++ F))) (List.Perm.cons _ List.perm_middle) ?_
 have hg3 := hka.len3 hfa; have hg5 := hka.cars5 hfa; have hgy := Kin.good hfa hka
 refine rqr ?_
 refine sS (sb 4 85 #[.pointer (some ⟨y, 0, none⟩)] (fun b1 => ?_))
 refine sS (sb 5 3 #[.int .i64 (↑d)] (fun b3 => ?_))
 refine sS (sb 6 120 #[.map (some r)] (fun b5 => ?_))
 refine sS (sb 7 117 #[.slice g_a gs.length g_c] (fun b7 => ?_))
 refine sS (sal 8 48 #[.slice none 0 0] (fun b9 => ?_))
 refine sS (sal 9 4 #[.bool (false)] (fun b11 => ?_))
 refine se ?_
 refine run_scope (x := c_search [1, 0]) (by kernel_rfl) ?_
 refine rq ?_
 refine rqr ?_
 refine sd (dlb 16 5 0 b1 (.pointer (some ⟨y, 0, none⟩))) ?_
 refine sd (dlb 17 2 0 b7 (.slice g_a gs.length g_c)) ?_
 have hct20 := all_ct I (y) _ _ _ _ _ (Y) _ _ (A) (ps) y_1_f y_2_f y_3h y_3r g_f (by first | assumption | exact hgo.mono hI) (by assumption)
 refine sS (sc (some 18) (F := ((b11, Obj.cells #[.bool (false)] 4 (0, 0)) :: (b9, Obj.cells #[.slice none 0 0] 48 (0, 0)) :: (b7, Obj.cells #[.slice g_a gs.length g_c] 117 (0, 0)) :: (b5, Obj.cells #[.map (some r)] 120 (0, 0)) :: (b3, Obj.cells #[.int .i64 (↑d)] 3 (0, 0)) :: (b1, Obj.cells #[.pointer (some ⟨y, 0, none⟩)] 85 (0, 0)) :: (r, Obj.map r_es r_cl) :: F)) (hct20 :) (((List.Perm.cons _ ((List.Perm.cons _ ((List.Perm.cons _ ((List.Perm.cons _ ((List.Perm.cons _ (List.Perm.swap _ _ _)).trans (List.Perm.swap _ _ _))).trans (List.Perm.swap _ _ _))).trans (List.Perm.swap _ _ _))).trans (List.Perm.swap _ _ _))).trans (List.Perm.swap _ _ _)).trans (List.Perm.cons _ ((List.Perm.cons _ ((List.Perm.cons _ ((List.Perm.cons _ ((List.Perm.cons _ ((List.Perm.cons _ ((List.Perm.cons _ (List.perm_middle.symm)).trans (List.perm_middle.symm))).trans (List.perm_middle.symm))).trans (List.perm_middle.symm))).trans (List.perm_middle.symm))).trans (List.perm_middle.symm))).trans (List.perm_middle.symm)))) (fun rv18 I13 rm19 hle14 hp15 => ?_))
 obtain ⟨hv16, hm17⟩ := hp15
 rw [hv16, hm17]; clear hv16 hm17
 replace y_1_f := y_1_f.mono hle14
 replace y_2_f := y_2_f.mono hle14
 replace y_3r := y_3r.mono hle14
 replace g_f := g_f.mono hle14
 replace hG := hG.mono hle14
 replace hgo := hgo.mono hle14
 refine seq_mem (M' := ((y, Obj.cells #[.slice y_1_a Y.cars.length y_1_c, .slice y_2_a Y.room.length y_2_c, .slice y_3_a y_ws.length y_3_c] 87 (0, 0)) :: (y_Ms ++ (b11, Obj.cells #[.bool (false)] 4 (0, 0)) :: (b9, Obj.cells #[.slice none 0 0] 48 (0, 0)) :: (b7, Obj.cells #[.slice g_a gs.length g_c] 117 (0, 0)) :: (b5, Obj.cells #[.map (some r)] 120 (0, 0)) :: (b3, Obj.cells #[.int .i64 (↑d)] 3 (0, 0)) :: (b1, Obj.cells #[.pointer (some ⟨y, 0, none⟩)] 85 (0, 0)) :: (r, Obj.map r_es r_cl) :: F))) (fun w h => by simpa only [List.append_assoc, List.cons_append, List.nil_append] using h) ?_
 refine pm (M' := ((y, Obj.cells #[.slice y_1_a Y.cars.length y_1_c, .slice y_2_a Y.room.length y_2_c, .slice y_3_a y_ws.length y_3_c] 87 (0, 0)) :: (b11, Obj.cells #[.bool (false)] 4 (0, 0)) :: (b9, Obj.cells #[.slice none 0 0] 48 (0, 0)) :: (b7, Obj.cells #[.slice g_a gs.length g_c] 117 (0, 0)) :: (b5, Obj.cells #[.map (some r)] 120 (0, 0)) :: (b3, Obj.cells #[.int .i64 (↑d)] 3 (0, 0)) :: (b1, Obj.cells #[.pointer (some ⟨y, 0, none⟩)] 85 (0, 0)) :: (r, Obj.map r_es r_cl) :: (y_Ms ++ F))) (List.Perm.cons _ (List.perm_middle.trans (List.Perm.cons _ (List.perm_middle.trans (List.Perm.cons _ (List.perm_middle.trans (List.Perm.cons _ (List.perm_middle.trans (List.Perm.cons _ (List.perm_middle.trans (List.Perm.cons _ (List.perm_middle.trans (List.Perm.cons _ List.perm_middle))))))))))))) ?_
 show Seq _ _ _ _ _ _ ((18, .bool (allP ps Y)) :: _) _ _
 refine se ?_
 refine rc 18 rfl (fun h1 => ?_) (fun h1 => ?_)
 ·
  have h1_r := h1
  refine rqr ?_
  refine sS (ss 2 0 b9 [.slice none 0 0] [.slice none 0 0] (_ :: _ :: _ :: _ :: _ :: _ :: _ :: _ :: _) (cs := [_]) rfl rfl ?_)
  refine sS (ss 1 0 b11 [.bool (true)] [.bool (true)] (_ :: _ :: _ :: _ :: _ :: _ :: _ :: _ :: _) (cs := [_]) rfl rfl ?_)
  refine se ?_
  refine rret ?_
  refine (pst_ret_pass (pst_ret_scope ?_))
  have hres := search_goal (d := d) (m := m) h1
  refine pst_marks (R := ((y, Obj.cells #[.slice y_1_a Y.cars.length y_1_c, .slice y_2_a Y.room.length y_2_c, .slice y_3_a y_ws.length y_3_c] 87 (0, 0)) :: (b11, Obj.cells #[.bool (true)] 4 (0, 0)) :: (b9, Obj.cells #[.slice none 0 0] 48 (0, 0)) :: (b7, Obj.cells #[.slice g_a gs.length g_c] 117 (0, 0)) :: (b5, Obj.cells #[.map (some r)] 120 (0, 0)) :: (b3, Obj.cells #[.int .i64 (↑d)] 3 (0, 0)) :: (b1, Obj.cells #[.pointer (some ⟨y, 0, none⟩)] 85 (0, 0)) :: (r, Obj.map r_es r_cl) :: (y_Ms ++ F))) [] (.inl rfl) (List.Perm.refl _) ?_
  refine ppm (M' := ((y, Obj.cells #[.slice y_1_a Y.cars.length y_1_c, .slice y_2_a Y.room.length y_2_c, .slice y_3_a y_ws.length y_3_c] 87 (0, 0)) :: (y_Ms ++ (r, Obj.map r_es r_cl) :: (b11, Obj.cells #[.bool (true)] 4 (0, 0)) :: (b9, Obj.cells #[.slice none 0 0] 48 (0, 0)) :: (b7, Obj.cells #[.slice g_a gs.length g_c] 117 (0, 0)) :: (b5, Obj.cells #[.map (some r)] 120 (0, 0)) :: (b3, Obj.cells #[.int .i64 (↑d)] 3 (0, 0)) :: (b1, Obj.cells #[.pointer (some ⟨y, 0, none⟩)] 85 (0, 0)) :: F))) (List.Perm.cons _ (((List.Perm.cons _ ((List.Perm.cons _ ((List.Perm.cons _ ((List.Perm.cons _ ((List.Perm.cons _ ((List.Perm.cons _ (List.perm_middle.symm)).trans (List.perm_middle.symm))).trans (List.perm_middle.symm))).trans (List.perm_middle.symm))).trans (List.perm_middle.symm))).trans (List.perm_middle.symm))).trans (List.perm_middle.symm)).trans (List.Perm.append_left _ ((List.Perm.cons _ ((List.Perm.cons _ ((List.Perm.cons _ ((List.Perm.cons _ ((List.Perm.cons _ (List.Perm.swap _ _ _)).trans (List.Perm.swap _ _ _))).trans (List.Perm.swap _ _ _))).trans (List.Perm.swap _ _ _))).trans (List.Perm.swap _ _ _))).trans (List.Perm.swap _ _ _))))) ?_
  refine pst_retC2 (t := 8) (T := 48) (n := 1) (u := 9) (U := 4) (n2 := 1) ([(y, Obj.cells #[.slice y_1_a Y.cars.length y_1_c, .slice y_2_a Y.room.length y_2_c, .slice y_3_a y_ws.length y_3_c] 87 (0, 0))] ++ (y_Ms ++ ([(r, Obj.map r_es r_cl)] ++ ([])))) (by kernel_rfl) rfl (by kernel_rfl) rfl (seesN_mem (n := 1) (cs := #[.slice none 0 0]) (b := b9) (off := 0) (T := 48) (fz := (0, 0)) (vs := [.slice none 0 0]) (by simp) rfl) (.inr ⟨by kernel_rfl, rfl⟩) rfl (by kernel_rfl) rfl (seesN_mem (n := 1) (cs := #[.bool (true)]) (b := b11) (off := 0) (T := 4) (fz := (0, 0)) (vs := [.bool (true)]) (by simp) rfl) (.inr ⟨by kernel_rfl, rfl⟩) (by simp only [List.append_assoc, List.nil_append, List.cons_append]; exact (List.Sublist.cons_cons _ (List.Sublist.append_left (List.Sublist.cons_cons _ (List.Sublist.cons _ (List.Sublist.cons _ (List.Sublist.cons _ (List.Sublist.cons _ (List.Sublist.cons _ (List.Sublist.cons _ (List.Sublist.refl _)))))))) _))) hle14 ?_
  exact ⟨_, _, _, _, _, _, (by rw [hres]; rfl), rfl, y_3h, y_3r, ((show m = (searchM (allP ps) d Y m).2 from by rw [hres]) ▸ r_is), ((show [] = (searchM (allP ps) d Y m).1.getD [] from by rw [hres]; rfl) ▸ Own.nil _ _ _)⟩
 ·
  have h1_r := h1
  have hga : allP ps Y = false := h1
  refine rskip ?_
  refine pst_next ?_
  refine rqr ?_
  refine sd (dlb 19 6 0 b1 (.pointer (some ⟨y, 0, none⟩))) ?_
  have hct28 := where_ct I13 (y) _ _ _ _ _ (Y) y_1_f y_2_f y_3h y_3r (by exact hgy.ok) (by exact hg5) (by omega)
  refine sS (sc (some 20) (F := ((b11, Obj.cells #[.bool (false)] 4 (0, 0)) :: (b9, Obj.cells #[.slice none 0 0] 48 (0, 0)) :: (b7, Obj.cells #[.slice g_a gs.length g_c] 117 (0, 0)) :: (b5, Obj.cells #[.map (some r)] 120 (0, 0)) :: (b3, Obj.cells #[.int .i64 (↑d)] 3 (0, 0)) :: (b1, Obj.cells #[.pointer (some ⟨y, 0, none⟩)] 85 (0, 0)) :: (r, Obj.map r_es r_cl) :: F)) (hct28 :) (List.Perm.cons _ ((List.Perm.cons _ ((List.Perm.cons _ ((List.Perm.cons _ ((List.Perm.cons _ ((List.Perm.cons _ ((List.Perm.cons _ (List.perm_middle.symm)).trans (List.perm_middle.symm))).trans (List.perm_middle.symm))).trans (List.perm_middle.symm))).trans (List.perm_middle.symm))).trans (List.perm_middle.symm))).trans (List.perm_middle.symm))) (fun rv26 I21 rm27 hle22 hp23 => ?_))
  obtain ⟨hv24, hm25⟩ := hp23
  rw [hv24, hm25]; clear hv24 hm25
  replace y_1_f := y_1_f.mono hle22
  replace y_2_f := y_2_f.mono hle22
  replace y_3r := y_3r.mono hle22
  replace g_f := g_f.mono hle22
  replace hG := hG.mono hle22
  replace hgo := hgo.mono hle22
  refine seq_mem (M' := ((y, Obj.cells #[.slice y_1_a Y.cars.length y_1_c, .slice y_2_a Y.room.length y_2_c, .slice y_3_a y_ws.length y_3_c] 87 (0, 0)) :: (y_Ms ++ (b11, Obj.cells #[.bool (false)] 4 (0, 0)) :: (b9, Obj.cells #[.slice none 0 0] 48 (0, 0)) :: (b7, Obj.cells #[.slice g_a gs.length g_c] 117 (0, 0)) :: (b5, Obj.cells #[.map (some r)] 120 (0, 0)) :: (b3, Obj.cells #[.int .i64 (↑d)] 3 (0, 0)) :: (b1, Obj.cells #[.pointer (some ⟨y, 0, none⟩)] 85 (0, 0)) :: (r, Obj.map r_es r_cl) :: F))) (fun w h => by simpa only [List.append_assoc, List.cons_append, List.nil_append] using h) ?_
  refine pm (M' := ((y, Obj.cells #[.slice y_1_a Y.cars.length y_1_c, .slice y_2_a Y.room.length y_2_c, .slice y_3_a y_ws.length y_3_c] 87 (0, 0)) :: (b11, Obj.cells #[.bool (false)] 4 (0, 0)) :: (b9, Obj.cells #[.slice none 0 0] 48 (0, 0)) :: (b7, Obj.cells #[.slice g_a gs.length g_c] 117 (0, 0)) :: (b5, Obj.cells #[.map (some r)] 120 (0, 0)) :: (b3, Obj.cells #[.int .i64 (↑d)] 3 (0, 0)) :: (b1, Obj.cells #[.pointer (some ⟨y, 0, none⟩)] 85 (0, 0)) :: (r, Obj.map r_es r_cl) :: (y_Ms ++ F))) (List.Perm.cons _ (List.perm_middle.trans (List.Perm.cons _ (List.perm_middle.trans (List.Perm.cons _ (List.perm_middle.trans (List.Perm.cons _ (List.perm_middle.trans (List.Perm.cons _ (List.perm_middle.trans (List.Perm.cons _ (List.perm_middle.trans (List.Perm.cons _ List.perm_middle))))))))))))) ?_
  show Seq _ _ _ _ _ _ ((20, .agg (plCells (placeOf Y).val)) :: _) _ _
  refine sS (sal 10 90 #[.int .i64 (0), .int .i64 (0), .int .i64 (0), .int .i64 (0), .int .i64 (0), .int .i64 (0), .int .i64 (0), .int .i64 (0), .int .i64 (0), .int .i64 (0)] (fun b29 => ?_))
  refine sS (stp_storeW (T := 90) (x := (.tmp 10)) (y := (.tmp 20)) (n := 10) (vs := plCells (placeOf Y).val) (M' := ((b29, Obj.cells (plCells (placeOf Y).val) 90 (0, 0)) :: (y, Obj.cells #[.slice y_1_a Y.cars.length y_1_c, .slice y_2_a Y.room.length y_2_c, .slice y_3_a y_ws.length y_3_c] 87 (0, 0)) :: (b11, Obj.cells #[.bool (false)] 4 (0, 0)) :: (b9, Obj.cells #[.slice none 0 0] 48 (0, 0)) :: (b7, Obj.cells #[.slice g_a gs.length g_c] 117 (0, 0)) :: (b5, Obj.cells #[.map (some r)] 120 (0, 0)) :: (b3, Obj.cells #[.int .i64 (↑d)] 3 (0, 0)) :: (b1, Obj.cells #[.pointer (some ⟨y, 0, none⟩)] 85 (0, 0)) :: (r, Obj.map r_es r_cl) :: (y_Ms ++ F))) 0 (ty := 0) (gd := none) (by kernel_rfl) rfl rfl rfl (by kernel_rfl) rfl (plCells_size _) (plCells_one _) rfl (rfl) rfl ?_)
  refine se ?_
  refine rq ?_
  refine rqr ?_
  refine sd (dlb 22 5 0 b5 (.map (some r))) ?_
  refine sd (det_loadW (x := (.tmp 10)) (T := 90) (n := 10) (d := 23) (ty := 90) (gd := none) (by kernel_rfl) rfl (by kernel_rfl) (by kernel_rfl) (plCells_size _) rfl (.inl (List.mem_of_getElem? (i := 0) rfl))) ?_
  refine sd (det_lookup2 (x := (.tmp 22)) (y := (.tmp 23)) (T := 120) (kt := 90) (et := 3) (k := (placeOf Y)) (kvs := metV m) (z := .int .i64 0) (d := 24) (ty := 128) (gd := none) (by kernel_rfl) rfl (by kernel_rfl) (keyOk_place (by kernel_rfl) (by kernel_rfl)) rfl rfl (by kernel_rfl) (.inl (List.mem_of_getElem? (i := 8) rfl)) r_is (metV_getD _ _) (metV_isSome _ _)) ?_
  refine sp 5 [(12, .bool ((getM (placeOf Y) m).isSome)), (11, .int .i64 (↑((getM (placeOf Y) m).getD 0)))] ?_
  refine se ?_
  refine rq ?_
  refine run_cut (fun a w => Slots 59 [(4, .pointer (some ⟨b1, 0, none⟩)), (5, .pointer (some ⟨b3, 0, none⟩)), (6, .pointer (some ⟨b5, 0, none⟩)), (7, .pointer (some ⟨b7, 0, none⟩)), (8, .pointer (some ⟨b9, 0, none⟩)), (9, .pointer (some ⟨b11, 0, none⟩)), (10, .pointer (some ⟨b29, 0, none⟩)), (36, .bool ((cmp .eql (↑d) (0)) || (((getM (placeOf Y) m).isSome) && (cmp .geq (↑((getM (placeOf Y) m).getD 0)) (↑d)))))] a ∧ a.defers = [] ∧ St I21 ((b29, Obj.cells (plCells (placeOf Y).val) 90 (0, 0)) :: (y, Obj.cells #[.slice y_1_a Y.cars.length y_1_c, .slice y_2_a Y.room.length y_2_c, .slice y_3_a y_ws.length y_3_c] 87 (0, 0)) :: (b11, Obj.cells #[.bool (false)] 4 (0, 0)) :: (b9, Obj.cells #[.slice none 0 0] 48 (0, 0)) :: (b7, Obj.cells #[.slice g_a gs.length g_c] 117 (0, 0)) :: (b5, Obj.cells #[.map (some r)] 120 (0, 0)) :: (b3, Obj.cells #[.int .i64 (↑d)] 3 (0, 0)) :: (b1, Obj.cells #[.pointer (some ⟨y, 0, none⟩)] 85 (0, 0)) :: (r, Obj.map r_es r_cl) :: (y_Ms ++ F)) w) ?_ ?_
  ·
   refine rr ?_
   refine sd (dlb 27 6 0 b3 (.int .i64 (↑d))) ?_
   refine sp 2 [(29, .bool (cmp .eql (↑d) (0)))] ?_
   refine seq_split 29 rfl (fun h2 => ?_) (fun h2 => ?_)
   ·
    have h2_b := h2
    have h2_b := eql_t h2_b
    refine sp 7 [(36, .bool (true))] ?_
    refine ee ?_
    refine pst_meet (fun a w hS hD hW => ⟨hS.sub (.cons 4 rfl (.cons 5 rfl (.cons 6 rfl (.cons 7 rfl (.cons 8 rfl (.cons 9 rfl (.cons 10 rfl (.consE 36 rfl (congrArg Value.bool (by simp only [h2, Bool.true_and, Bool.false_and, Bool.and_true, Bool.and_false, Bool.true_or, Bool.false_or, Bool.or_true, Bool.or_false, cond_true, cond_false])) (.nil _))))))))), hD, hW⟩)
   ·
    have h2_b := h2
    have h2_b := eql_f h2_b
    refine sp 2 [(31, .bool ((getM (placeOf Y) m).isSome))] ?_
    refine seq_split 31 rfl (fun h3 => ?_) (fun h3 => ?_)
    ·
     have h3_b := h3
     refine sp 1 [(32, .int .i64 (↑((getM (placeOf Y) m).getD 0)))] ?_
     refine sd (dlb 33 6 0 b3 (.int .i64 (↑d))) ?_
     refine sp 3 [(36, .bool (cmp .geq (↑((getM (placeOf Y) m).getD 0)) (↑d)))] ?_
     refine ee ?_
     refine pst_meet (fun a w hS hD hW => ⟨hS.sub (.cons 4 rfl (.cons 5 rfl (.cons 6 rfl (.cons 7 rfl (.cons 8 rfl (.cons 9 rfl (.cons 10 rfl (.consE 36 rfl (congrArg Value.bool (by simp only [h2, h3, Bool.true_and, Bool.false_and, Bool.and_true, Bool.and_false, Bool.true_or, Bool.false_or, Bool.or_true, Bool.or_false, cond_true, cond_false])) (.nil _))))))))), hD, hW⟩)
    ·
     have h3_b := h3
     refine sp 5 [(36, .bool (false))] ?_
     refine ee ?_
     refine pst_meet (fun a w hS hD hW => ⟨hS.sub (.cons 4 rfl (.cons 5 rfl (.cons 6 rfl (.cons 7 rfl (.cons 8 rfl (.cons 9 rfl (.cons 10 rfl (.consE 36 rfl (congrArg Value.bool (by simp only [h2, h3, Bool.true_and, Bool.false_and, Bool.and_true, Bool.and_false, Bool.true_or, Bool.false_or, Bool.or_true, Bool.or_false, cond_true, cond_false])) (.nil _))))))))), hD, hW⟩)
  ·rintro a w ⟨hS, hD, hW⟩
   refine run_at hS hD hW ?_
   clear hS hD hW a w
   refine rc 36 rfl (fun h4 => ?_) (fun h4 => ?_)
   ·
    have h4_r := h4
    refine rqr ?_
    refine sS (ss 3 0 b9 [.slice none 0 0] [.slice none 0 0] (_ :: _ :: _ :: _ :: _ :: _ :: _ :: _ :: _ :: _) (cs := [_]) rfl rfl ?_)
    refine sS (ss 2 0 b11 [.bool (false)] [.bool (false)] (_ :: _ :: _ :: _ :: _ :: _ :: _ :: _ :: _ :: _) (cs := [_]) rfl rfl ?_)
    refine se ?_
    refine rret ?_
    refine (pst_ret_pass (pst_ret_scope ?_))
    have hres := search_stop2 (d := d) (m := m) hga h4_r
    refine pst_marks (R := ((b29, Obj.cells (plCells (placeOf Y).val) 90 (0, 0)) :: (y, Obj.cells #[.slice y_1_a Y.cars.length y_1_c, .slice y_2_a Y.room.length y_2_c, .slice y_3_a y_ws.length y_3_c] 87 (0, 0)) :: (b11, Obj.cells #[.bool (false)] 4 (0, 0)) :: (b9, Obj.cells #[.slice none 0 0] 48 (0, 0)) :: (b7, Obj.cells #[.slice g_a gs.length g_c] 117 (0, 0)) :: (b5, Obj.cells #[.map (some r)] 120 (0, 0)) :: (b3, Obj.cells #[.int .i64 (↑d)] 3 (0, 0)) :: (b1, Obj.cells #[.pointer (some ⟨y, 0, none⟩)] 85 (0, 0)) :: (r, Obj.map r_es r_cl) :: (y_Ms ++ F))) [] (.inl rfl) (List.Perm.refl _) ?_
    refine ppm (M' := ((y, Obj.cells #[.slice y_1_a Y.cars.length y_1_c, .slice y_2_a Y.room.length y_2_c, .slice y_3_a y_ws.length y_3_c] 87 (0, 0)) :: (y_Ms ++ (r, Obj.map r_es r_cl) :: (b29, Obj.cells (plCells (placeOf Y).val) 90 (0, 0)) :: (b11, Obj.cells #[.bool (false)] 4 (0, 0)) :: (b9, Obj.cells #[.slice none 0 0] 48 (0, 0)) :: (b7, Obj.cells #[.slice g_a gs.length g_c] 117 (0, 0)) :: (b5, Obj.cells #[.map (some r)] 120 (0, 0)) :: (b3, Obj.cells #[.int .i64 (↑d)] 3 (0, 0)) :: (b1, Obj.cells #[.pointer (some ⟨y, 0, none⟩)] 85 (0, 0)) :: F))) ((List.Perm.swap _ _ _).trans (List.Perm.cons _ (((List.Perm.cons _ ((List.Perm.cons _ ((List.Perm.cons _ ((List.Perm.cons _ ((List.Perm.cons _ ((List.Perm.cons _ ((List.Perm.cons _ (List.perm_middle.symm)).trans (List.perm_middle.symm))).trans (List.perm_middle.symm))).trans (List.perm_middle.symm))).trans (List.perm_middle.symm))).trans (List.perm_middle.symm))).trans (List.perm_middle.symm))).trans (List.perm_middle.symm)).trans (List.Perm.append_left _ ((List.Perm.cons _ ((List.Perm.cons _ ((List.Perm.cons _ ((List.Perm.cons _ ((List.Perm.cons _ ((List.Perm.cons _ (List.Perm.swap _ _ _)).trans (List.Perm.swap _ _ _))).trans (List.Perm.swap _ _ _))).trans (List.Perm.swap _ _ _))).trans (List.Perm.swap _ _ _))).trans (List.Perm.swap _ _ _))).trans (List.Perm.swap _ _ _)))))) ?_
    refine pst_retC2 (t := 8) (T := 48) (n := 1) (u := 9) (U := 4) (n2 := 1) ([(y, Obj.cells #[.slice y_1_a Y.cars.length y_1_c, .slice y_2_a Y.room.length y_2_c, .slice y_3_a y_ws.length y_3_c] 87 (0, 0))] ++ (y_Ms ++ ([(r, Obj.map r_es r_cl)] ++ ([])))) (by kernel_rfl) rfl (by kernel_rfl) rfl (seesN_mem (n := 1) (cs := #[.slice none 0 0]) (b := b9) (off := 0) (T := 48) (fz := (0, 0)) (vs := [.slice none 0 0]) (by simp) rfl) (.inr ⟨by kernel_rfl, rfl⟩) rfl (by kernel_rfl) rfl (seesN_mem (n := 1) (cs := #[.bool (false)]) (b := b11) (off := 0) (T := 4) (fz := (0, 0)) (vs := [.bool (false)]) (by simp) rfl) (.inr ⟨by kernel_rfl, rfl⟩) (by simp only [List.append_assoc, List.nil_append, List.cons_append]; exact (List.Sublist.cons_cons _ (List.Sublist.append_left (List.Sublist.cons_cons _ (List.Sublist.cons _ (List.Sublist.cons _ (List.Sublist.cons _ (List.Sublist.cons _ (List.Sublist.cons _ (List.Sublist.cons _ (List.Sublist.cons _ (List.Sublist.refl _))))))))) _))) (Imm.le.trans hle14 hle22) ?_
    exact ⟨_, _, _, _, _, _, (by rw [hres]; rfl), rfl, y_3h, y_3r, ((show m = (searchM (allP ps) d Y m).2 from by rw [hres]) ▸ r_is), ((show [] = (searchM (allP ps) d Y m).1.getD [] from by rw [hres]; rfl) ▸ Own.nil _ _ _)⟩
   ·
    have h4_r := h4
    obtain ⟨h4_1, h4_2⟩ := or_f h4
    have h4_1 := eql_f h4_1
    have hst2 := search_go_of (d := d) h4_r
    refine rskip ?_
    refine pst_next ?_
    refine rqr ?_
    obtain ⟨e, hde⟩ : ∃ e, d = e + 1 := ⟨d - 1, by have := hst2.1; omega⟩
    have hgo1 := search_go2 (g := allP ps) (m := m) hga hde hst2.2
    refine sd (dlb 37 5 0 b5 (.map (some r))) ?_
    refine sd (det_loadW (x := (.tmp 10)) (T := 90) (n := 10) (d := 38) (ty := 90) (gd := none) (by kernel_rfl) rfl (by kernel_rfl) (by kernel_rfl) (plCells_size _) rfl (.inl (List.mem_of_getElem? (i := 0) rfl))) ?_
    refine sd (dlb 39 6 0 b3 (.int .i64 (↑d))) ?_
    refine sS (stp_mapUpdate (x := (.tmp 37)) (y := (.tmp 38)) (u := (.tmp 39)) (T := 120) (kt := 90) (et := 3) (k := (placeOf Y)) (kvs := metV m) 8 (ty := 0) (gd := none) (by kernel_rfl) rfl (by kernel_rfl) (keyOk_place (by kernel_rfl) (by kernel_rfl)) rfl rfl rfl rfl r_is (fun es31 cl31 his31 => ?_))
    rw [metV_upd] at his31
    refine nm ?_
    refine se ?_
    refine rq ?_
    refine rlab 0 ?_
    refine pst_next ?_
    refine rq ?_
    refine rqr ?_
    refine seq_hold (b := b1) (o := Obj.cells #[.pointer (some ⟨y, 0, none⟩)] 85 (0, 0)) (M0 := ((b29, Obj.cells (plCells (placeOf Y).val) 90 (0, 0)) :: (y, Obj.cells #[.slice y_1_a Y.cars.length y_1_c, .slice y_2_a Y.room.length y_2_c, .slice y_3_a y_ws.length y_3_c] 87 (0, 0)) :: (b11, Obj.cells #[.bool (false)] 4 (0, 0)) :: (b9, Obj.cells #[.slice none 0 0] 48 (0, 0)) :: (b7, Obj.cells #[.slice g_a gs.length g_c] 117 (0, 0)) :: (b5, Obj.cells #[.map (some r)] 120 (0, 0)) :: (b3, Obj.cells #[.int .i64 (↑d)] 3 (0, 0)) :: (r, Obj.map es31 cl31) :: (y_Ms ++ F))) ((List.Perm.cons _ ((List.Perm.cons _ ((List.Perm.cons _ ((List.Perm.cons _ ((List.Perm.cons _ ((List.Perm.cons _ (List.Perm.swap _ _ _)).trans (List.Perm.swap _ _ _))).trans (List.Perm.swap _ _ _))).trans (List.Perm.swap _ _ _))).trans (List.Perm.swap _ _ _))).trans (List.Perm.swap _ _ _))).trans (List.Perm.swap _ _ _)) (fun I32 hle33 hb34 => ?_)
    replace y_1_f := y_1_f.mono hle33
    replace y_2_f := y_2_f.mono hle33
    replace y_3r := y_3r.mono hle33
    replace g_f := g_f.mono hle33
    replace hG := hG.mono hle33
    replace hgo := hgo.mono hle33
    refine seq_hold (b := b3) (o := Obj.cells #[.int .i64 (↑d)] 3 (0, 0)) (M0 := ((b29, Obj.cells (plCells (placeOf Y).val) 90 (0, 0)) :: (y, Obj.cells #[.slice y_1_a Y.cars.length y_1_c, .slice y_2_a Y.room.length y_2_c, .slice y_3_a y_ws.length y_3_c] 87 (0, 0)) :: (b11, Obj.cells #[.bool (false)] 4 (0, 0)) :: (b9, Obj.cells #[.slice none 0 0] 48 (0, 0)) :: (b7, Obj.cells #[.slice g_a gs.length g_c] 117 (0, 0)) :: (b5, Obj.cells #[.map (some r)] 120 (0, 0)) :: (r, Obj.map es31 cl31) :: (y_Ms ++ F))) ((List.Perm.cons _ ((List.Perm.cons _ ((List.Perm.cons _ ((List.Perm.cons _ ((List.Perm.cons _ (List.Perm.swap _ _ _)).trans (List.Perm.swap _ _ _))).trans (List.Perm.swap _ _ _))).trans (List.Perm.swap _ _ _))).trans (List.Perm.swap _ _ _))).trans (List.Perm.swap _ _ _)) (fun I35 hle36 hb37 => ?_)
    replace y_1_f := y_1_f.mono hle36
    replace y_2_f := y_2_f.mono hle36
    replace y_3r := y_3r.mono hle36
    replace g_f := g_f.mono hle36
    replace hG := hG.mono hle36
    replace hgo := hgo.mono hle36
    replace hb34 := hle36.blk _ _ hb34
    refine seq_hold (b := b5) (o := Obj.cells #[.map (some r)] 120 (0, 0)) (M0 := ((b29, Obj.cells (plCells (placeOf Y).val) 90 (0, 0)) :: (y, Obj.cells #[.slice y_1_a Y.cars.length y_1_c, .slice y_2_a Y.room.length y_2_c, .slice y_3_a y_ws.length y_3_c] 87 (0, 0)) :: (b11, Obj.cells #[.bool (false)] 4 (0, 0)) :: (b9, Obj.cells #[.slice none 0 0] 48 (0, 0)) :: (b7, Obj.cells #[.slice g_a gs.length g_c] 117 (0, 0)) :: (r, Obj.map es31 cl31) :: (y_Ms ++ F))) ((List.Perm.cons _ ((List.Perm.cons _ ((List.Perm.cons _ ((List.Perm.cons _ (List.Perm.swap _ _ _)).trans (List.Perm.swap _ _ _))).trans (List.Perm.swap _ _ _))).trans (List.Perm.swap _ _ _))).trans (List.Perm.swap _ _ _)) (fun I38 hle39 hb40 => ?_)
    replace y_1_f := y_1_f.mono hle39
    replace y_2_f := y_2_f.mono hle39
    replace y_3r := y_3r.mono hle39
    replace g_f := g_f.mono hle39
    replace hG := hG.mono hle39
    replace hgo := hgo.mono hle39
    replace hb34 := hle39.blk _ _ hb34
    replace hb37 := hle39.blk _ _ hb37
    refine seq_hold (b := b7) (o := Obj.cells #[.slice g_a gs.length g_c] 117 (0, 0)) (M0 := ((b29, Obj.cells (plCells (placeOf Y).val) 90 (0, 0)) :: (y, Obj.cells #[.slice y_1_a Y.cars.length y_1_c, .slice y_2_a Y.room.length y_2_c, .slice y_3_a y_ws.length y_3_c] 87 (0, 0)) :: (b11, Obj.cells #[.bool (false)] 4 (0, 0)) :: (b9, Obj.cells #[.slice none 0 0] 48 (0, 0)) :: (r, Obj.map es31 cl31) :: (y_Ms ++ F))) ((List.Perm.cons _ ((List.Perm.cons _ ((List.Perm.cons _ (List.Perm.swap _ _ _)).trans (List.Perm.swap _ _ _))).trans (List.Perm.swap _ _ _))).trans (List.Perm.swap _ _ _)) (fun I41 hle42 hb43 => ?_)
    replace y_1_f := y_1_f.mono hle42
    replace y_2_f := y_2_f.mono hle42
    replace y_3r := y_3r.mono hle42
    replace g_f := g_f.mono hle42
    replace hG := hG.mono hle42
    replace hgo := hgo.mono hle42
    replace hb34 := hle42.blk _ _ hb34
    replace hb37 := hle42.blk _ _ hb37
    replace hb40 := hle42.blk _ _ hb40
    refine seq_hold (b := b29) (o := Obj.cells (plCells (placeOf Y).val) 90 (0, 0)) (M0 := ((y, Obj.cells #[.slice y_1_a Y.cars.length y_1_c, .slice y_2_a Y.room.length y_2_c, .slice y_3_a y_ws.length y_3_c] 87 (0, 0)) :: (b11, Obj.cells #[.bool (false)] 4 (0, 0)) :: (b9, Obj.cells #[.slice none 0 0] 48 (0, 0)) :: (r, Obj.map es31 cl31) :: (y_Ms ++ F))) (List.Perm.refl _) (fun I44 hle45 hb46 => ?_)
    replace y_1_f := y_1_f.mono hle45
    replace y_2_f := y_2_f.mono hle45
    replace y_3r := y_3r.mono hle45
    replace g_f := g_f.mono hle45
    replace hG := hG.mono hle45
    replace hgo := hgo.mono hle45
    replace hb34 := hle45.blk _ _ hb34
    replace hb37 := hle45.blk _ _ hb37
    replace hb40 := hle45.blk _ _ hb40
    replace hb43 := hle45.blk _ _ hb43
    refine sd (det_load (v := .pointer (some ⟨y, 0, none⟩)) (x := (.tmp 4)) (T := 85) (d := 40) (ty := 85) (gd := none) (by kernel_rfl) rfl (by kernel_rfl) rfl (sees_held hb34 rfl)) ?_
    have hct58 := shifts_ct I44 (y)
    refine sS (sc (some 41) (F := ((y, Obj.cells #[.slice y_1_a Y.cars.length y_1_c, .slice y_2_a Y.room.length y_2_c, .slice y_3_a y_ws.length y_3_c] 87 (0, 0)) :: (b11, Obj.cells #[.bool (false)] 4 (0, 0)) :: (b9, Obj.cells #[.slice none 0 0] 48 (0, 0)) :: (r, Obj.map es31 cl31) :: (y_Ms ++ F))) (hct58 :) (.refl _) (fun rv56 I47 rm57 hle48 hp49 => ?_))
    obtain ⟨by_52, bm53, hv50, hm51, qp54, qp55⟩ := hp49
    rw [hv50, hm51]; clear hv50 hm51
    replace y_1_f := y_1_f.mono hle48
    replace y_2_f := y_2_f.mono hle48
    replace y_3r := y_3r.mono hle48
    replace g_f := g_f.mono hle48
    replace hG := hG.mono hle48
    replace hgo := hgo.mono hle48
    replace hb34 := hle48.blk _ _ hb34
    replace hb37 := hle48.blk _ _ hb37
    replace hb40 := hle48.blk _ _ hb40
    replace hb43 := hle48.blk _ _ hb43
    replace hb46 := hle48.blk _ _ hb46
    refine nm ?_
    show Seq _ _ _ _ _ _ ((41, .func (.func 72) #[] #[.pointer (some ⟨by_52, 0, none⟩), .pointer (some ⟨bm53, 0, none⟩)]) :: _) _ _
    refine se ?_
    refine rb 0 ?_
    refine run_rangeFunc (α := Shift) (g := (.tmp 41)) (ps := #[42]) (assign := c_search [1, 0, 1, 1, 1, 1, 1, 0, 1, 0, 0]) (body := c_search [1, 0, 1, 1, 1, 1, 1, 0, 1, 0, 1]) (gf := 72) (cv := [.pointer (some ⟨by_52, 0, none⟩), .pointer (some ⟨bm53, 0, none⟩)]) (enc := encS) (seq := draws Y) (R := YardR 22 87 y (.slice y_1_a Y.cars.length y_1_c) (.slice y_2_a Y.room.length y_2_c) (.slice y_3_a y_ws.length y_3_c) Y) (Mr := ((y, Obj.cells #[.slice y_1_a Y.cars.length y_1_c, .slice y_2_a Y.room.length y_2_c, .slice y_3_a y_ws.length y_3_c] 87 (0, 0)) :: y_Ms)) (M0 := ((b9, Obj.cells #[.slice none 0 0] 48 (0, 0)) :: (b11, Obj.cells #[.bool (false)] 4 (0, 0)) :: (r, Obj.map es31 cl31) :: [])) (F0 := (F))
     (fun xs I M => ∃ es cl m2, M = (b9, Obj.cells #[.slice none 0 0] 48 (0, 0)) :: (b11, Obj.cells #[.bool (false)] 4 (0, 0)) :: (r, Obj.map es cl) :: [] ∧ MapIs encP es (metV m2) ∧ tryAll (fun s met => searchM (allP ps) e (moved Y s) met) ((draws Y).drop ([] : List Shift).length) (updM (placeOf Y) (e + 1) m) = tryAll (fun s met => searchM (allP ps) e (moved Y s) met) ((draws Y).drop xs.length) m2) (fun c xs I M => c = Code.ret ∧ ∃ es cl u Mu ws Ms, M = (b9, Obj.cells #[u] 48 (0, 0)) :: (b11, Obj.cells #[.bool (true)] 4 (0, 0)) :: (r, Obj.map es cl) :: (y, Obj.cells #[.slice y_1_a Y.cars.length y_1_c, .slice y_2_a Y.room.length y_2_c, .slice y_3_a y_ws.length y_3_c] 87 (0, 0)) :: (Mu ++ Ms) ∧ MapIs encP es (metV (searchM (allP ps) d Y m).2) ∧ Own 54 3 shiftCell u ((searchM (allP ps) d Y m).1.getD []) Mu ∧ (searchM (allP ps) d Y m).1.isSome = true ∧ Own 22 1 valCell (.slice y_3_a y_ws.length y_3_c) ws Ms ∧ RowsV I ws Y.tracks) (fun x k => [(4, .pointer (some ⟨b1, 0, none⟩)), (5, .pointer (some ⟨b3, 0, none⟩)), (6, .pointer (some ⟨b5, 0, none⟩)), (7, .pointer (some ⟨b7, 0, none⟩)), (8, .pointer (some ⟨b9, 0, none⟩)), (9, .pointer (some ⟨b11, 0, none⟩)), (13, .pointer (some ⟨k, 0, none⟩))]) (fun x k => [(k, Obj.cells #[.int .i64 (x.frm), .int .i64 (x.to), .int .i64 (x.many)] 54 (0, 0))])
     (by kernel_rfl) rfl (by kernel_rfl) (fun _ => rfl) (by kernel_rfl) (shifts1_iter I47 y by_52 bm53 (.slice y_1_a Y.cars.length y_1_c) (.slice y_2_a Y.room.length y_2_c) (.slice y_3_a y_ws.length y_3_c) Y hG qp54 qp55 hgy (by omega)) (fun xs I J M _ h => h) (by simpa only [List.append_assoc, List.cons_append, List.nil_append] using (List.Perm.cons _ (((List.Perm.cons _ ((List.Perm.cons _ (List.perm_middle.symm)).trans (List.perm_middle.symm))).trans (List.perm_middle.symm)).trans (List.Perm.append_left _ (List.Perm.swap _ _ _))))) ⟨_, _, rfl, y_1_f, y_2_f, y_3h, y_3r⟩ ⟨_, _, _, rfl, his31, by rw [hde]⟩ ?_ ?_ ?_ ?_
    ·intro L x I1 M1
     refine run_sub (l' := [(4, .pointer (some ⟨b1, 0, none⟩)), (5, .pointer (some ⟨b3, 0, none⟩)), (6, .pointer (some ⟨b5, 0, none⟩)), (7, .pointer (some ⟨b7, 0, none⟩)), (8, .pointer (some ⟨b9, 0, none⟩)), (9, .pointer (some ⟨b11, 0, none⟩)), (42, .agg #[.int .i64 (x.frm), .int .i64 (x.to), .int .i64 (x.many)])]) (.cons 4 rfl (.cons 5 rfl (.cons 6 rfl (.cons 7 rfl (.cons 8 rfl (.cons 9 rfl (.cons 42 rfl (.nil _)))))))) ?_
     refine rr ?_
     refine sS (sal 13 54 #[.int .i64 (0), .int .i64 (0), .int .i64 (0)] (fun b61 => ?_))
     refine sS (ss 0 0 b61 [.int .i64 (x.frm), .int .i64 (x.to), .int .i64 (x.many)] [.int .i64 (x.frm), .int .i64 (x.to), .int .i64 (x.many)] (_ :: _) (cs := [_, _, _]) rfl rfl ?_)
     refine ee ?_
     exact pst_meet (fun a w hS hD hW => ⟨b61, hS.sub (.cons 4 rfl (.cons 5 rfl (.cons 6 rfl (.cons 7 rfl (.cons 8 rfl (.cons 9 rfl (.cons 13 rfl (.nil _)))))))), hD, hW⟩)
    ·intro L x k xs I1 Mr1 M1 F1 hpre hle1 hR1 hC1
     replace y_1_f := y_1_f.mono hle1
     replace y_2_f := y_2_f.mono hle1
     replace g_f := g_f.mono hle1
     replace hG := hG.mono hle1
     replace hgo := hgo.mono hle1
     replace hb34 := hle1.blk _ _ hb34
     replace hb37 := hle1.blk _ _ hb37
     replace hb40 := hle1.blk _ _ hb40
     replace hb43 := hle1.blk _ _ hb43
     replace hb46 := hle1.blk _ _ hb46
     replace qp54 := hle1.blk _ _ qp54
     replace qp55 := hle1.blk _ _ qp55
     obtain ⟨es2, cl2, m2, rfl, his2, htr⟩ := hC1
     obtain ⟨qws, qMs, rfl, q1, q2, q4, q5⟩ := hR1
     have q5_len := q5.1
     try simp only [List.length_set, List.length_append, List.length_cons, List.length_nil, List.length_take] at q5_len
     have hmx : mayErr Y x = 0 := mem_draws_may (mem_of_prefix hpre)
     refine run_mem (M' := ((k, Obj.cells #[.int .i64 (x.frm), .int .i64 (x.to), .int .i64 (x.many)] 54 (0, 0)) :: (y, Obj.cells #[.slice y_1_a Y.cars.length y_1_c, .slice y_2_a Y.room.length y_2_c, .slice y_3_a y_ws.length y_3_c] 87 (0, 0)) :: (qMs ++ (b9, Obj.cells #[.slice none 0 0] 48 (0, 0)) :: (b11, Obj.cells #[.bool (false)] 4 (0, 0)) :: (r, Obj.map es2 cl2) :: F1))) (fun w h => by simpa only [List.append_assoc, List.cons_append, List.nil_append] using h) ?_
     refine rpm (M' := ((k, Obj.cells #[.int .i64 (x.frm), .int .i64 (x.to), .int .i64 (x.many)] 54 (0, 0)) :: (y, Obj.cells #[.slice y_1_a Y.cars.length y_1_c, .slice y_2_a Y.room.length y_2_c, .slice y_3_a y_ws.length y_3_c] 87 (0, 0)) :: (b9, Obj.cells #[.slice none 0 0] 48 (0, 0)) :: (b11, Obj.cells #[.bool (false)] 4 (0, 0)) :: (r, Obj.map es2 cl2) :: (qMs ++ F1))) (List.Perm.cons _ (List.Perm.cons _ (List.perm_middle.trans (List.Perm.cons _ (List.perm_middle.trans (List.Perm.cons _ List.perm_middle)))))) ?_
     refine rb 1 ?_
     refine rqr ?_
     refine sd (det_load (v := .pointer (some ⟨y, 0, none⟩)) (x := (.tmp 4)) (T := 85) (d := 44) (ty := 85) (gd := none) (by kernel_rfl) rfl (by kernel_rfl) rfl (sees_held hb34 rfl)) ?_
     refine sd (dnb 45 0 0 k [.int .i64 (x.frm), .int .i64 (x.to), .int .i64 (x.many)]) ?_
     refine sd (det_load (v := .int .i64 (↑d)) (x := (.tmp 5)) (T := 3) (d := 46) (ty := 3) (gd := none) (by kernel_rfl) rfl (by kernel_rfl) rfl (sees_held hb37 rfl)) ?_
     refine sd (dsb 47 (↑d) (1)) ?_
     refine seq_re 47 rfl (show (.int .i64 (↑d - 1) : Value) = .int .i64 (↑e) from congrArg (Value.int .i64) (by omega)) ?_
     refine sd (det_load (v := .map (some r)) (x := (.tmp 6)) (T := 120) (d := 48) (ty := 120) (gd := none) (by kernel_rfl) rfl (by kernel_rfl) rfl (sees_held hb40 rfl)) ?_
     refine sd (det_load (v := .slice g_a gs.length g_c) (x := (.tmp 7)) (T := 117) (d := 49) (ty := 117) (gd := none) (by kernel_rfl) rfl (by kernel_rfl) rfl (sees_held hb43 rfl)) ?_
     have hct80 := try_ct I1 (y) _ _ _ _ _ (Y) (x) (e) (r) (es2) (cl2) (m2) _ _ (A) (ps) y_1_f y_2_f q4 q5 his2 g_f (by assumption) (by assumption) (by assumption) (by assumption) (by omega) (by exact hmx) (by exact ht e (by omega))
     refine sS (sc (some 50) (F := ((k, Obj.cells #[.int .i64 (x.frm), .int .i64 (x.to), .int .i64 (x.many)] 54 (0, 0)) :: (b9, Obj.cells #[.slice none 0 0] 48 (0, 0)) :: (b11, Obj.cells #[.bool (false)] 4 (0, 0)) :: F1)) (hct80 :) (by simpa only [List.append_assoc, List.cons_append, List.nil_append] using ((List.Perm.swap _ _ _).trans (List.Perm.cons _ (((List.Perm.cons _ ((List.Perm.cons _ ((List.Perm.cons _ (List.perm_middle.symm)).trans (List.perm_middle.symm))).trans (List.perm_middle.symm))).trans (List.perm_middle.symm)).trans (List.Perm.append_left _ ((List.Perm.cons _ ((List.Perm.cons _ (List.Perm.swap _ _ _)).trans (List.Perm.swap _ _ _))).trans (List.Perm.swap _ _ _))))))) (fun rv78 I63 rm79 hle64 hp65 => ?_))
     obtain ⟨y_wt68, y_Mt69, r_et70, r_ct71, u072, Ms073, hv66, hm67, qwh74, qwr75, qmh76, qh77⟩ := hp65
     rw [hv66, hm67]; clear hv66 hm67
     replace y_1_f := y_1_f.mono hle64
     replace y_2_f := y_2_f.mono hle64
     replace hb34 := hle64.blk _ _ hb34
     replace hb37 := hle64.blk _ _ hb37
     replace hb40 := hle64.blk _ _ hb40
     replace hb43 := hle64.blk _ _ hb43
     replace hb46 := hle64.blk _ _ hb46
     replace qp54 := hle64.blk _ _ qp54
     replace qp55 := hle64.blk _ _ qp55
     replace q5 := q5.mono hle64
     obtain ⟨wk81_a, wk81_c, wk81_e, wk81_l⟩ := id qwh74.shape
     have qwr75_len := qwr75.1
     try simp only [List.length_set, List.length_append, List.length_cons, List.length_nil, List.length_take] at qwr75_len
     obtain ⟨u072_a, u072_c, u072_e, u072_l⟩ := qh77.shape
     subst u072_e
     refine seq_mem (M' := ((y, Obj.cells #[.slice y_1_a Y.cars.length y_1_c, .slice y_2_a Y.room.length y_2_c, .slice y_3_a y_ws.length y_3_c] 87 (0, 0)) :: (y_Mt69 ++ (r, Obj.map r_et70 r_ct71) :: (Ms073 ++ (k, Obj.cells #[.int .i64 (x.frm), .int .i64 (x.to), .int .i64 (x.many)] 54 (0, 0)) :: (b9, Obj.cells #[.slice none 0 0] 48 (0, 0)) :: (b11, Obj.cells #[.bool (false)] 4 (0, 0)) :: F1)))) (fun w h => by simpa only [List.append_assoc, List.cons_append, List.nil_append] using h) ?_
     refine pm (M' := ((y, Obj.cells #[.slice y_1_a Y.cars.length y_1_c, .slice y_2_a Y.room.length y_2_c, .slice y_3_a y_ws.length y_3_c] 87 (0, 0)) :: (r, Obj.map r_et70 r_ct71) :: (k, Obj.cells #[.int .i64 (x.frm), .int .i64 (x.to), .int .i64 (x.many)] 54 (0, 0)) :: (b9, Obj.cells #[.slice none 0 0] 48 (0, 0)) :: (b11, Obj.cells #[.bool (false)] 4 (0, 0)) :: (y_Mt69 ++ (Ms073 ++ F1)))) (List.Perm.cons _ (List.perm_middle.trans (List.Perm.cons _ (((List.Perm.append_left _ List.perm_middle).trans List.perm_middle).trans (List.Perm.cons _ (((List.Perm.append_left _ List.perm_middle).trans List.perm_middle).trans (List.Perm.cons _ ((List.Perm.append_left _ List.perm_middle).trans List.perm_middle)))))))) ?_
     show Seq _ _ _ _ _ _ ((50, .tuple #[.slice u072_a ((searchM (allP ps) e (moved Y x) m2).1.getD []).length u072_c, .bool ((searchM (allP ps) e (moved Y x) m2).1.isSome)]) :: _) _ _
     refine sp 5 [(15, .bool ((searchM (allP ps) e (moved Y x) m2).1.isSome)), (14, .slice u072_a ((searchM (allP ps) e (moved Y x) m2).1.getD []).length u072_c), (52, .bool ((searchM (allP ps) e (moved Y x) m2).1.isSome)), (51, .slice u072_a ((searchM (allP ps) e (moved Y x) m2).1.getD []).length u072_c), (43, .tuple #[.slice u072_a ((searchM (allP ps) e (moved Y x) m2).1.getD []).length u072_c, .bool ((searchM (allP ps) e (moved Y x) m2).1.isSome)])] ?_
     refine se ?_
     refine rq ?_
     refine rqr ?_
     refine sp 2 [(54, .bool (!((searchM (allP ps) e (moved Y x) m2).1.isSome))), (53, .bool ((searchM (allP ps) e (moved Y x) m2).1.isSome))] ?_
     refine se ?_
     refine rc 54 rfl (fun h5 => ?_) (fun h5 => ?_)
     ·
      have h5_r := h5
      have h5 := not_t h5
      refine rexit 1 ?_
      refine (pst_exit_pass (pst_exit_block ?_))
      refine ppm (M' := ((k, Obj.cells #[.int .i64 (x.frm), .int .i64 (x.to), .int .i64 (x.many)] 54 (0, 0)) :: (Ms073 ++ (y, Obj.cells #[.slice y_1_a Y.cars.length y_1_c, .slice y_2_a Y.room.length y_2_c, .slice y_3_a y_ws.length y_3_c] 87 (0, 0)) :: (y_Mt69 ++ (b9, Obj.cells #[.slice none 0 0] 48 (0, 0)) :: (b11, Obj.cells #[.bool (false)] 4 (0, 0)) :: (r, Obj.map r_et70 r_ct71) :: F1)))) (((List.Perm.cons _ (List.Perm.swap _ _ _)).trans (List.Perm.swap _ _ _)).trans (List.Perm.cons _ (((List.Perm.cons _ ((List.Perm.cons _ ((List.Perm.cons _ ((List.Perm.cons _ (List.perm_append_comm_assoc _ _ _)).trans (List.perm_middle.symm))).trans (List.perm_middle.symm))).trans (List.perm_middle.symm))).trans (List.perm_middle.symm)).trans (List.Perm.append_left _ (List.Perm.cons _ (((List.Perm.cons _ ((List.Perm.cons _ (List.perm_middle.symm)).trans (List.perm_middle.symm))).trans (List.perm_middle.symm)).trans (List.Perm.append_left _ ((List.Perm.swap _ _ _).trans (List.Perm.cons _ (List.Perm.swap _ _ _)))))))))) ?_
      refine pst_round (M' := ((y, Obj.cells #[.slice y_1_a Y.cars.length y_1_c, .slice y_2_a Y.room.length y_2_c, .slice y_3_a y_ws.length y_3_c] 87 (0, 0)) :: y_Mt69 ++ ((b9, Obj.cells #[.slice none 0 0] 48 (0, 0)) :: (b11, Obj.cells #[.bool (false)] 4 (0, 0)) :: (r, Obj.map r_et70 r_ct71) :: []))) hle64 ?_ (by simp only [List.append_assoc, List.nil_append, List.cons_append]; exact (List.Sublist.cons _ (List.Sublist.trans (List.Sublist.refl _) (List.sublist_append_right _ _))))
      exact ⟨(y, Obj.cells #[.slice y_1_a Y.cars.length y_1_c, .slice y_2_a Y.room.length y_2_c, .slice y_3_a y_ws.length y_3_c] 87 (0, 0)) :: y_Mt69, _, rfl, ⟨_, _, rfl, y_1_f, y_2_f, qwh74, qwr75⟩, ⟨_, _, _, rfl, qmh76, htr.trans (try_next hpre (none_of h5))⟩⟩
     ·
      have h5_r := h5
      have h5 := not_f h5
      refine rskip ?_
      refine pst_next ?_
      refine rqr ?_
      refine sd (dnb 55 2 0 k [.int .i64 (x.frm), .int .i64 (x.to), .int .i64 (x.many)]) ?_
      refine sS (sbs 56 54 1 #[.int .i64 (x.frm), .int .i64 (x.to), .int .i64 (x.many)] (fun b82 => ?_))
      refine sp 1 [(57, .slice u072_a ((searchM (allP ps) e (moved Y x) m2).1.getD []).length u072_c)] ?_
      have ho84 : Own 54 3 shiftCell (.slice (some ⟨b82, 0, none⟩) 1 1) ([x] : List Shift) [(b82, Obj.cells #[.int .i64 (x.frm), .int .i64 (x.to), .int .i64 (x.many)] 54 (0, 0))] := Own.lit rfl rfl
      refine sS (stp_append (d := 58) (x := (.tmp 56)) (y := (.tmp 57)) (T := 48) (T' := 48) (E := 54) (E' := 54) (sz := 3) (bs := 24) (z := .agg #[.int .i64 (0), .int .i64 (0), .int .i64 (0)]) (cell := shiftCell) (xs := ([x] : List Shift)) (ys := (searchM (allP ps) e (moved Y x) m2).1.getD []) (Ms := [(b82, Obj.cells #[.int .i64 (x.frm), .int .i64 (x.to), .int .i64 (x.many)] 54 (0, 0))]) (ty := 48) (gd := none) (by kernel_rfl) rfl (by kernel_rfl) (by kernel_rfl) (by kernel_rfl) (by kernel_rfl) (by kernel_rfl) (by decide) (by kernel_rfl) rfl rfl (ho84) (List.Perm.refl _) (one_shiftCell _) (qh77.src (fun x hx => by simp [hx])) (by first | omega | (have hln := search_len (allP ps) e (moved Y x) m2; simp only [List.length_cons, List.length_nil]; omega)) (fun v85 Ms85 ho85 => ?_))
      refine pm (M' := ((y, Obj.cells #[.slice y_1_a Y.cars.length y_1_c, .slice y_2_a Y.room.length y_2_c, .slice y_3_a y_ws.length y_3_c] 87 (0, 0)) :: (r, Obj.map r_et70 r_ct71) :: (k, Obj.cells #[.int .i64 (x.frm), .int .i64 (x.to), .int .i64 (x.many)] 54 (0, 0)) :: (b9, Obj.cells #[.slice none 0 0] 48 (0, 0)) :: (b11, Obj.cells #[.bool (false)] 4 (0, 0)) :: (Ms85 ++ (y_Mt69 ++ (Ms073 ++ F1))))) (List.perm_middle.trans (List.Perm.cons _ (List.perm_middle.trans (List.Perm.cons _ (List.perm_middle.trans (List.Perm.cons _ (List.perm_middle.trans (List.Perm.cons _ List.perm_middle)))))))) ?_
      obtain ⟨oa85, oc85, oe85, ol85⟩ := ho85.shape
      subst oe85
      show Seq _ _ _ _ _ _ ((58, .slice oa85 ((([x] : List Shift)) ++ ((searchM (allP ps) e (moved Y x) m2).1.getD [])).length oc85) :: _) _ _
      refine sS (ss 3 0 b9 [.slice oa85 ((([x] : List Shift)) ++ ((searchM (allP ps) e (moved Y x) m2).1.getD [])).length oc85] [.slice oa85 ((([x] : List Shift)) ++ ((searchM (allP ps) e (moved Y x) m2).1.getD [])).length oc85] (_ :: _ :: _ :: _ :: _ :: _) (cs := [_]) rfl rfl ?_)
      refine sS (ss 4 0 b11 [.bool (true)] [.bool (true)] (_ :: _ :: _ :: _ :: _ :: _) (cs := [_]) rfl rfl ?_)
      refine se ?_
      refine rret ?_
      refine (pst_ret_block ?_)
      obtain ⟨l, hl⟩ := some_of h5
      have hres := hgo1.trans (htr.trans (try_hit hpre hl))
      refine ppm (M' := ((k, Obj.cells #[.int .i64 (x.frm), .int .i64 (x.to), .int .i64 (x.many)] 54 (0, 0)) :: (Ms073 ++ (b9, Obj.cells #[.slice oa85 ((([x] : List Shift)) ++ ((searchM (allP ps) e (moved Y x) m2).1.getD [])).length oc85] 48 (0, 0)) :: (b11, Obj.cells #[.bool (true)] 4 (0, 0)) :: (r, Obj.map r_et70 r_ct71) :: (y, Obj.cells #[.slice y_1_a Y.cars.length y_1_c, .slice y_2_a Y.room.length y_2_c, .slice y_3_a y_ws.length y_3_c] 87 (0, 0)) :: (Ms85 ++ (y_Mt69 ++ F1))))) (((List.Perm.cons _ (List.Perm.swap _ _ _)).trans (List.Perm.swap _ _ _)).trans (List.Perm.cons _ (((List.Perm.cons _ ((List.Perm.cons _ ((List.Perm.cons _ ((List.Perm.cons _ ((List.Perm.append_left _ (List.perm_append_comm_assoc _ _ _)).trans (List.perm_append_comm_assoc _ _ _))).trans (List.perm_middle.symm))).trans (List.perm_middle.symm))).trans (List.perm_middle.symm))).trans (List.perm_middle.symm)).trans (List.Perm.append_left _ (((List.Perm.cons _ (List.Perm.swap _ _ _)).trans (List.Perm.swap _ _ _)).trans (List.Perm.cons _ (((List.Perm.cons _ (List.Perm.swap _ _ _)).trans (List.Perm.swap _ _ _)).trans (List.Perm.cons _ (List.Perm.swap _ _ _))))))))) ?_
      refine pst_round_ret (M' := ((b9, Obj.cells #[.slice oa85 ((([x] : List Shift)) ++ ((searchM (allP ps) e (moved Y x) m2).1.getD [])).length oc85] 48 (0, 0)) :: (b11, Obj.cells #[.bool (true)] 4 (0, 0)) :: (r, Obj.map r_et70 r_ct71) :: (y, Obj.cells #[.slice y_1_a Y.cars.length y_1_c, .slice y_2_a Y.room.length y_2_c, .slice y_3_a y_ws.length y_3_c] 87 (0, 0)) :: Ms85 ++ y_Mt69)) hle64 ?_ (by simp only [List.append_assoc, List.nil_append, List.cons_append]; exact (List.Sublist.cons _ (List.Sublist.trans (List.Sublist.refl _) (List.sublist_append_right _ _))))
      exact ⟨rfl, _, _, _, _, _, _, rfl, (show (searchM (allP ps) e (moved Y x) m2).2 = (searchM (allP ps) d Y m).2 by rw [hres]) ▸ qmh76, (show [x] ++ (searchM (allP ps) e (moved Y x) m2).1.getD [] = (searchM (allP ps) d Y m).1.getD [] by rw [hres, hl]; rfl) ▸ ho85, (by rw [hres]; rfl), qwh74, qwr75⟩
    ·intro D I2 Mr2 M2 hle2 hR2 hC2
     replace hb34 := hle2.blk _ _ hb34
     replace hb37 := hle2.blk _ _ hb37
     replace hb40 := hle2.blk _ _ hb40
     replace hb43 := hle2.blk _ _ hb43
     replace hb46 := hle2.blk _ _ hb46
     replace qp54 := hle2.blk _ _ qp54
     replace qp55 := hle2.blk _ _ qp55
     obtain ⟨es2, cl2, m2, rfl, his2, htr⟩ := hC2
     have hres := hgo1.trans (htr.trans try_done)
     obtain ⟨qws, qMs, rfl, q1, q2, q4, q5⟩ := hR2
     have q5_len := q5.1
     try simp only [List.length_set, List.length_append, List.length_cons, List.length_nil, List.length_take] at q5_len
     refine pst_mem (M' := ((D, Obj.deferred (some [])) :: (y, Obj.cells #[.slice y_1_a Y.cars.length y_1_c, .slice y_2_a Y.room.length y_2_c, .slice y_3_a y_ws.length y_3_c] 87 (0, 0)) :: (qMs ++ (b9, Obj.cells #[.slice none 0 0] 48 (0, 0)) :: (b11, Obj.cells #[.bool (false)] 4 (0, 0)) :: (r, Obj.map es2 cl2) :: F))) (fun w h => by simpa only [List.append_assoc, List.cons_append, List.nil_append] using h) ?_
     refine ppm (M' := ((D, Obj.deferred (some [])) :: (y, Obj.cells #[.slice y_1_a Y.cars.length y_1_c, .slice y_2_a Y.room.length y_2_c, .slice y_3_a y_ws.length y_3_c] 87 (0, 0)) :: (b9, Obj.cells #[.slice none 0 0] 48 (0, 0)) :: (b11, Obj.cells #[.bool (false)] 4 (0, 0)) :: (r, Obj.map es2 cl2) :: (qMs ++ F))) (List.Perm.cons _ (List.Perm.cons _ (List.perm_middle.trans (List.Perm.cons _ (List.perm_middle.trans (List.Perm.cons _ List.perm_middle)))))) ?_
     refine pst_normal_block ?_
     refine pst_next ?_
     refine rqr ?_
     refine sS (ss 2 0 b9 [.slice none 0 0] [.slice none 0 0] (_ :: _ :: _ :: _ :: _ :: _) (cs := [_]) rfl rfl ?_)
     refine sS (ss 3 0 b11 [.bool (false)] [.bool (false)] (_ :: _ :: _ :: _ :: _ :: _) (cs := [_]) rfl rfl ?_)
     refine se ?_
     refine rret ?_
     refine (pst_ret_scope ?_)
     refine pst_marks (R := ((y, Obj.cells #[.slice y_1_a Y.cars.length y_1_c, .slice y_2_a Y.room.length y_2_c, .slice y_3_a y_ws.length y_3_c] 87 (0, 0)) :: (b9, Obj.cells #[.slice none 0 0] 48 (0, 0)) :: (b11, Obj.cells #[.bool (false)] 4 (0, 0)) :: (r, Obj.map es2 cl2) :: (qMs ++ F))) [D] (.inl rfl) (List.Perm.refl _) ?_
     refine ppm (M' := ((y, Obj.cells #[.slice y_1_a Y.cars.length y_1_c, .slice y_2_a Y.room.length y_2_c, .slice y_3_a y_ws.length y_3_c] 87 (0, 0)) :: (qMs ++ (r, Obj.map es2 cl2) :: (b9, Obj.cells #[.slice none 0 0] 48 (0, 0)) :: (b11, Obj.cells #[.bool (false)] 4 (0, 0)) :: F))) (List.Perm.cons _ (((List.Perm.cons _ ((List.Perm.cons _ (List.perm_middle.symm)).trans (List.perm_middle.symm))).trans (List.perm_middle.symm)).trans (List.Perm.append_left _ ((List.Perm.cons _ (List.Perm.swap _ _ _)).trans (List.Perm.swap _ _ _))))) ?_
     refine pst_retC2 (t := 8) (T := 48) (n := 1) (u := 9) (U := 4) (n2 := 1) ([(y, Obj.cells #[.slice y_1_a Y.cars.length y_1_c, .slice y_2_a Y.room.length y_2_c, .slice y_3_a y_ws.length y_3_c] 87 (0, 0))] ++ (qMs ++ ([(r, Obj.map es2 cl2)] ++ ([])))) (by kernel_rfl) rfl (by kernel_rfl) rfl (seesN_mem (n := 1) (cs := #[.slice none 0 0]) (b := b9) (off := 0) (T := 48) (fz := (0, 0)) (vs := [.slice none 0 0]) (by simp) rfl) (.inr ⟨by kernel_rfl, rfl⟩) rfl (by kernel_rfl) rfl (seesN_mem (n := 1) (cs := #[.bool (false)]) (b := b11) (off := 0) (T := 4) (fz := (0, 0)) (vs := [.bool (false)]) (by simp) rfl) (.inr ⟨by kernel_rfl, rfl⟩) (by simp only [List.append_assoc, List.nil_append, List.cons_append]; exact (List.Sublist.cons_cons _ (List.Sublist.append_left (List.Sublist.cons_cons _ (List.Sublist.cons _ (List.Sublist.cons _ (List.Sublist.refl _)))) _))) (Imm.le.trans (Imm.le.trans (Imm.le.trans (Imm.le.trans (Imm.le.trans (Imm.le.trans (Imm.le.trans (Imm.le.trans hle14 hle22) hle33) hle36) hle39) hle42) hle45) hle48) hle2) ?_
     exact ⟨_, _, _, _, _, _, (by rw [hres]; rfl), rfl, q4, q5, ((show m2 = (searchM (allP ps) d Y m).2 from by rw [hres]) ▸ his2), ((show [] = (searchM (allP ps) d Y m).1.getD [] from by rw [hres]; rfl) ▸ Own.nil _ _ _)⟩
    ·intro D c xs I2 M2 hle2 hS2
     replace hb34 := hle2.blk _ _ hb34
     replace hb37 := hle2.blk _ _ hb37
     replace hb40 := hle2.blk _ _ hb40
     replace hb43 := hle2.blk _ _ hb43
     replace hb46 := hle2.blk _ _ hb46
     replace qp54 := hle2.blk _ _ qp54
     replace qp55 := hle2.blk _ _ qp55
     obtain ⟨rfl, es2, cl2, u2, Mu, qws, qMs, rfl, his2, ho2, hsm, q4, q5⟩ := hS2
     obtain ⟨u2_a, u2_c, u2_e, u2_l⟩ := ho2.shape; subst u2_e
     have q5_len := q5.1
     try simp only [List.length_set, List.length_append, List.length_cons, List.length_nil, List.length_take] at q5_len
     refine run_mem (M' := ((D, Obj.deferred (some [])) :: (b9, Obj.cells #[.slice u2_a ((searchM (allP ps) d Y m).1.getD []).length u2_c] 48 (0, 0)) :: (b11, Obj.cells #[.bool (true)] 4 (0, 0)) :: (r, Obj.map es2 cl2) :: (y, Obj.cells #[.slice y_1_a Y.cars.length y_1_c, .slice y_2_a Y.room.length y_2_c, .slice y_3_a y_ws.length y_3_c] 87 (0, 0)) :: (Mu ++ (qMs ++ F)))) (fun w h => by simpa only [List.append_assoc, List.cons_append, List.nil_append] using h) ?_
     refine rnm ?_
     refine run_ret rfl ?_
     refine (pst_ret_block (pst_ret_pass (pst_ret_scope ?_)))
     refine pst_marks (R := ((b9, Obj.cells #[.slice u2_a ((searchM (allP ps) d Y m).1.getD []).length u2_c] 48 (0, 0)) :: (b11, Obj.cells #[.bool (true)] 4 (0, 0)) :: (r, Obj.map es2 cl2) :: (y, Obj.cells #[.slice y_1_a Y.cars.length y_1_c, .slice y_2_a Y.room.length y_2_c, .slice y_3_a y_ws.length y_3_c] 87 (0, 0)) :: (Mu ++ (qMs ++ F)))) [D] (.inl rfl) (List.Perm.refl _) ?_
     refine ppm (M' := ((y, Obj.cells #[.slice y_1_a Y.cars.length y_1_c, .slice y_2_a Y.room.length y_2_c, .slice y_3_a y_ws.length y_3_c] 87 (0, 0)) :: (qMs ++ (r, Obj.map es2 cl2) :: (Mu ++ (b9, Obj.cells #[.slice u2_a ((searchM (allP ps) d Y m).1.getD []).length u2_c] 48 (0, 0)) :: (b11, Obj.cells #[.bool (true)] 4 (0, 0)) :: F)))) (((List.Perm.cons _ ((List.Perm.cons _ (List.Perm.swap _ _ _)).trans (List.Perm.swap _ _ _))).trans (List.Perm.swap _ _ _)).trans (List.Perm.cons _ (((List.Perm.cons _ ((List.Perm.cons _ ((List.Perm.cons _ (List.perm_append_comm_assoc _ _ _)).trans (List.perm_middle.symm))).trans (List.perm_middle.symm))).trans (List.perm_middle.symm)).trans (List.Perm.append_left _ (((List.Perm.cons _ (List.Perm.swap _ _ _)).trans (List.Perm.swap _ _ _)).trans (List.Perm.cons _ ((List.Perm.cons _ (List.perm_middle.symm)).trans (List.perm_middle.symm)))))))) ?_
     refine pst_retC2 (t := 8) (T := 48) (n := 1) (u := 9) (U := 4) (n2 := 1) ([(y, Obj.cells #[.slice y_1_a Y.cars.length y_1_c, .slice y_2_a Y.room.length y_2_c, .slice y_3_a y_ws.length y_3_c] 87 (0, 0))] ++ (qMs ++ ([(r, Obj.map es2 cl2)] ++ (Mu)))) (by kernel_rfl) rfl (by kernel_rfl) rfl (seesN_mem (n := 1) (cs := #[.slice u2_a ((searchM (allP ps) d Y m).1.getD []).length u2_c]) (b := b9) (off := 0) (T := 48) (fz := (0, 0)) (vs := [.slice u2_a ((searchM (allP ps) d Y m).1.getD []).length u2_c]) (by simp) rfl) (.inr ⟨by kernel_rfl, rfl⟩) rfl (by kernel_rfl) rfl (seesN_mem (n := 1) (cs := #[.bool (true)]) (b := b11) (off := 0) (T := 4) (fz := (0, 0)) (vs := [.bool (true)]) (by simp) rfl) (.inr ⟨by kernel_rfl, rfl⟩) (by simp only [List.append_assoc, List.nil_append, List.cons_append]; exact (List.Sublist.cons_cons _ (List.Sublist.append_left (List.Sublist.cons_cons _ (List.Sublist.append_left (List.Sublist.cons _ (List.Sublist.cons _ (List.Sublist.refl _))) _)) _))) (Imm.le.trans (Imm.le.trans (Imm.le.trans (Imm.le.trans (Imm.le.trans (Imm.le.trans (Imm.le.trans (Imm.le.trans hle14 hle22) hle33) hle36) hle39) hle42) hle45) hle48) hle2) ?_
     exact ⟨_, _, _, _, _, _, (by rw [hsm]), rfl, q4, q5, his2, ho2⟩

end Go.Proofs.YtcaocbhbofejnaaDoor
namespace Go.Proofs.YtcaocbhbofejnaaDoor
open Go Go.Sl Go.Sh
set_option maxRecDepth 100000
theorem search_all (n : Nat) : SearchAt n := by
 induction n with
 | zero => intro I y y_1 y_2 y_3 y_ws y_Ms Y d r r_es r_cl m g gs A ps y_1f y_2f y_3h y_3r r_is g_f hG hgo hka hfa hd hdn; exact search_of I y y_1 y_2 y_3 y_ws y_Ms Y d r r_es r_cl m g gs A ps y_1f y_2f y_3h y_3r r_is g_f hG hgo hka hfa hd (fun n hn => by omega)
 | succ n ih => intro I y y_1 y_2 y_3 y_ws y_Ms Y d r r_es r_cl m g gs A ps y_1f y_2f y_3h y_3r r_is g_f hG hgo hka hfa hd hdn; exact search_of I y y_1 y_2 y_3 y_ws y_Ms Y d r r_es r_cl m g gs A ps y_1f y_2f y_3h y_3r r_is g_f hG hgo hka hfa hd (fun k hk => (show n = k by omega) ▸ ih)
theorem search_ct (I : Imm) (y : Nat) (y_1 y_2 y_3 : Value) (y_ws : List Value) (y_Ms : Seg) (Y : Yard) (d : Nat) (r : Nat) (r_es : Array MapEntry) (r_cl : Nat) (m : Met) (g : Value) (gs : List Value) (A : Yard) (ps : List (Yard → Bool)) (y_1f : IsCars I y_1 Y.cars) (y_2f : IsInts I y_2 Y.room) (y_3h : Own 22 1 valCell y_3 y_ws y_Ms) (y_3r : RowsV I y_ws Y.tracks) (r_is : MapIs encP r_es (metV m)) (g_f : IsVals I g gs) (hG : Glob I) (hgo : GoalsOk Tryd.prog 22 87 I A gs ps) (hka : Kin A Y) (hfa : Fine A) (hd : d ≤ 4) : Ct Tryd.prog 75 #[.pointer (some ⟨y, 0, none⟩), .int .i64 ↑d, .map (some r), g] I ([(y, Obj.cells #[y_1, y_2, y_3] 87 (0, 0))] ++ (y_Ms ++ ([(r, Obj.map r_es r_cl)]))) (fun v I' M' => ∃ y_wt : List Value, ∃ y_Mt : Seg, ∃ r_et : Array MapEntry, ∃ r_ct : Nat, ∃ u0 : Value, ∃ Ms0 : Seg, v = .tuple #[u0, .bool ((searchM (allP ps) d Y m).1.isSome)] ∧ M' = [(y, Obj.cells #[y_1, y_2, y_3] 87 (0, 0))] ++ (y_Mt ++ ([(r, Obj.map r_et r_ct)] ++ (Ms0))) ∧ Own 22 1 valCell y_3 y_wt y_Mt ∧ RowsV I' y_wt (Y).tracks ∧ MapIs encP r_et (metV ((searchM (allP ps) d Y m).2)) ∧ Own 54 3 shiftCell u0 ((searchM (allP ps) d Y m).1.getD []) Ms0) := search_all d I y y_1 y_2 y_3 y_ws y_Ms Y d r r_es r_cl m g gs A ps y_1f y_2f y_3h y_3r r_is g_f hG hgo hka hfa hd rfl
noncomputable def c_fewest (p : List Nat) : Code := sub (bodyOf Tryd.f58) p
theorem fewest_ct (I : Imm) (y : Value) (Y : Yard) (g : Value) (gs : List Value) (ps : List (Yard → Bool)) (y_f : IsYard I y Y) (g_f : IsVals I g gs) (hG : Glob I) (hgo : GoalsOk Tryd.prog 22 87 I Y gs ps) (hv : Valid Y) : Ct Tryd.prog 58 #[y, g] I ([]) (fun v I' M' => ∃ u0 : Value, ∃ Ms0 : Seg, v = .tuple #[u0, .int .i64 (errOf (fewestM (allP ps) Y))] ∧ M' = Ms0 ∧ Own 54 3 shiftCell u0 ((fewestM (allP ps) Y).getD []) Ms0) := by
 obtain ⟨y1, y2, y3, y_e, y1_f, y2_f, y3_f⟩ := id y_f
 subst y_e
 obtain ⟨y1_a, y1_c, y1_b, y1_o, y1_e, y1_l, y1_m, y1_r⟩ := id y1_f
 subst y1_e
 obtain ⟨y2_a, y2_c, y2_b, y2_o, y2_e, y2_l, y2_m, y2_r⟩ := id y2_f
 subst y2_e
 obtain ⟨y3_a, y3_c, y3_b, y3_o, y3_vs, y3_e, y3_l, y3_m, y3_r, y3_w⟩ := id y3_f
 subst y3_e
 obtain ⟨g_a, g_c, g_b, g_o, g_e, g_l, g_m, g_r⟩ := id g_f
 subst g_e
 refine fn_of_run (fn := Tryd.f58) (args := [_, _]) (N := 28) Tryd.func58 rfl (by kernel_rfl) (Nat.le_of_ble_eq_true rfl) (fun F => ?_)
 show Run _ _ (c_fewest []) _ _ [(0, .agg #[.slice y1_a Y.cars.length y1_c, .slice y2_a Y.room.length y2_c, .slice y3_a Y.tracks.length y3_c]), (1, .slice g_a gs.length g_c)] _ _
 refine rnm ?_
 have hfa := hv.fine; have hgood := hv.good; have hl1 := hv.lens
 refine rqr ?_
 refine sS (sb 2 26 #[.slice y1_a Y.cars.length y1_c, .slice y2_a Y.room.length y2_c, .slice y3_a Y.tracks.length y3_c] (fun b1 => ?_))
 refine sp 2 [(5, .int .i64 (0)), (4, .slice none 0 0)] ?_
 refine sn ?_
 refine sd (dnb 10 0 0 b1 [.slice y1_a Y.cars.length y1_c, .slice y2_a Y.room.length y2_c, .slice y3_a Y.tracks.length y3_c]) ?_
 have hct21 := copied_ct I _ (Y) (mkYard y1_f y2_f y3_f) (by omega) (by omega) (by omega) (by exact hgood.le)
 refine sS (sc (some 11) (F := ((b1, Obj.cells #[.slice y1_a Y.cars.length y1_c, .slice y2_a Y.room.length y2_c, .slice y3_a Y.tracks.length y3_c] 26 (0, 0)) :: F)) (hct21 :) (.refl _) (fun rv19 I3 rm20 hle4 hp5 => ?_))
 obtain ⟨u_08, Ms_09, u_110, Ms_111, u_212, ws_213, Ms_214, hv6, hm7, qh15, qh16, qh17, qr18⟩ := hp5
 rw [hv6, hm7]; clear hv6 hm7
 replace g_f := g_f.mono hle4
 replace hG := hG.mono hle4
 replace hgo := hgo.mono hle4
 obtain ⟨u_08_a, u_08_c, u_08_e, u_08_l⟩ := qh15.shape
 subst u_08_e
 obtain ⟨u_110_a, u_110_c, u_110_e, u_110_l⟩ := qh16.shape
 subst u_110_e
 obtain ⟨u_212_a, u_212_c, u_212_e, u_212_l⟩ := qh17.shape
 subst u_212_e
 have qr18_len := qr18.1
 try simp only [List.length_set, List.length_append, List.length_cons, List.length_nil, List.length_take] at qr18_len
 refine seq_mem (M' := ((Ms_09 ++ (Ms_111 ++ (Ms_214 ++ (b1, Obj.cells #[.slice y1_a Y.cars.length y1_c, .slice y2_a Y.room.length y2_c, .slice y3_a Y.tracks.length y3_c] 26 (0, 0)) :: F))))) (fun w h => by simpa only [List.append_assoc, List.cons_append, List.nil_append] using h) ?_
 refine pm (M' := ((b1, Obj.cells #[.slice y1_a Y.cars.length y1_c, .slice y2_a Y.room.length y2_c, .slice y3_a Y.tracks.length y3_c] 26 (0, 0)) :: (Ms_09 ++ (Ms_111 ++ (Ms_214 ++ F))))) ((List.Perm.append_left _ ((List.Perm.append_left _ List.perm_middle).trans List.perm_middle)).trans List.perm_middle) ?_
 show Seq _ _ _ _ _ _ ((11, .agg #[.slice u_08_a Y.cars.length u_08_c, .slice u_110_a Y.room.length u_110_c, .slice u_212_a ws_213.length u_212_c]) :: _) _ _
 refine sfz (A := ((b1, Obj.cells #[.slice y1_a Y.cars.length y1_c, .slice y2_a Y.room.length y2_c, .slice y3_a Y.tracks.length y3_c] 26 (0, 0)) :: (Ms_111 ++ (Ms_214 ++ F)))) noCar qh15 (List.perm_middle.symm) (fun I22 hle23 fz24_f => ?_)
 replace g_f := g_f.mono hle23
 replace hG := hG.mono hle23
 replace hgo := hgo.mono hle23
 replace qr18 := qr18.mono hle23
 obtain ⟨fz24_a, fz24_c, fz24_b, fz24_o, fz24_e, fz24_l, fz24_m, fz24_r⟩ := id fz24_f
 cases fz24_e
 refine sfz (A := ((b1, Obj.cells #[.slice y1_a Y.cars.length y1_c, .slice y2_a Y.room.length y2_c, .slice y3_a Y.tracks.length y3_c] 26 (0, 0)) :: (Ms_214 ++ F))) 0 qh16 (List.perm_middle.symm) (fun I25 hle26 fz27_f => ?_)
 replace g_f := g_f.mono hle26
 replace hG := hG.mono hle26
 replace hgo := hgo.mono hle26
 replace qr18 := qr18.mono hle26
 replace fz24_f := fz24_f.mono hle26
 obtain ⟨fz27_a, fz27_c, fz27_b, fz27_o, fz27_e, fz27_l, fz27_m, fz27_r⟩ := id fz27_f
 cases fz27_e
 refine sp 1 [(12, .agg #[.slice u_08_a Y.cars.length u_08_c, .slice u_110_a Y.room.length u_110_c, .slice u_212_a ws_213.length u_212_c])] ?_
 refine sS (sb 13 87 #[.slice u_08_a Y.cars.length u_08_c, .slice u_110_a Y.room.length u_110_c, .slice u_212_a ws_213.length u_212_c] (fun b28 => ?_))
 refine sp 1 [(6, .pointer (some ⟨b28, 0, none⟩))] ?_
 refine se ?_
 refine rq ?_
 refine rqr ?_
 refine sp 1 [(14, .int .i64 (0))] ?_
 refine se ?_
 refine rb 0 ?_
 refine rl (fun mz a w => ∃ J0 : Imm, ∃ d : Nat, ∃ oM0_c6_2 : Seg, ∃ ow0_c6_2 : List Value, (I25.le J0) ∧ (d ≤ 5) ∧ (∀ m, m < d → plain (allP ps) m Y = none) ∧ (RowsV J0 ow0_c6_2 (Y.tracks)) ∧ (Own 22 1 valCell (.slice u_212_a ws_213.length u_212_c) (ow0_c6_2) oM0_c6_2) ∧ Slots 28 [(14, .int .i64 ↑d), (1, .slice g_a gs.length g_c), (6, .pointer (some ⟨b28, 0, none⟩))] a ∧ a.defers = [] ∧ St J0 ((b28, Obj.cells #[.slice u_08_a Y.cars.length u_08_c, .slice u_110_a Y.room.length u_110_c, (.slice u_212_a ws_213.length u_212_c)] 87 (0, 0)) :: (b1, Obj.cells #[.slice y1_a Y.cars.length y1_c, .slice y2_a Y.room.length y2_c, .slice y3_a Y.tracks.length y3_c] 26 (0, 0)) :: (oM0_c6_2 ++ F)) w ∧ mz = 5 - d) ?_ ?_
 ·intro a w hS hD hW
  exact ⟨_, I25, 0, Ms_214, ws_213, Imm.le.refl _, by omega, (fun m hm => by omega), qr18, qh17, hS.sub (.cons 14 rfl (.cons 1 rfl (.cons 6 rfl (.nil _)))), hD, hW, rfl⟩
 ·rintro mz a w ⟨J0, d, oM0_c6_2, ow0_c6_2, hJ0, hd, hbl, or0_c6_2, oh0_c6_2, hS, hD, hW, rfl⟩
  refine run_at hS hD hW ?_
  clear hS hD hW a w
  replace g_f := g_f.mono hJ0
  replace hG := hG.mono hJ0
  replace hgo := hgo.mono hJ0
  replace fz24_f := fz24_f.mono hJ0
  replace fz27_f := fz27_f.mono hJ0
  have or0_c6_2_len := or0_c6_2.1
  try simp only [List.length_set, List.length_append, List.length_cons, List.length_nil, List.length_take] at or0_c6_2_len
  refine rqr ?_
  refine sp 1 [(15, .bool (cmp .lss (↑d) (5)))] ?_
  refine se ?_
  refine rq ?_
  refine rc 15 rfl (fun h1 => ?_) (fun h1 => ?_)
  ·
   have h1_r := h1
   have h1 := lss_t h1
   refine rskip ?_
   refine pst_next ?_
   refine rq ?_
   refine rb 1 ?_
   refine rqr ?_
   refine sp 2 [(7, .int .i64 (↑d))] ?_
   refine sn ?_
   refine sp 2 [(19, .int .i64 (↑d)), (18, .pointer (some ⟨b28, 0, none⟩))] ?_
   refine sS (stp_makeMap (d := 20) (T := 120) (ty := 120) (gd := none) (by kernel_rfl) rfl (fun b30 => ?_))
   refine sp 1 [(21, .slice g_a gs.length g_c)] ?_
   have hct49 := search_ct J0 (b28) _ _ _ _ _ (Y) (d) (b30) (#[]) (0) ([]) _ _ (Y) (ps) fz24_f fz27_f oh0_c6_2 or0_c6_2 (MapIs.nil encP) g_f (by assumption) (by assumption) (by exact Kin.refl Y) (by assumption) (by omega)
   refine sS (sc (some 22) (F := ((b1, Obj.cells #[.slice y1_a Y.cars.length y1_c, .slice y2_a Y.room.length y2_c, .slice y3_a Y.tracks.length y3_c] 26 (0, 0)) :: F)) (hct49 :) (by simpa only [List.append_assoc, List.cons_append, List.nil_append] using ((List.Perm.swap _ _ _).trans (List.Perm.cons _ ((List.Perm.cons _ (List.perm_middle.symm)).trans (List.perm_middle.symm))))) (fun rv47 I32 rm48 hle33 hp34 => ?_))
   obtain ⟨y_wt37, y_Mt38, r_et39, r_ct40, u041, Ms042, hv35, hm36, qwh43, qwr44, qmh45, qh46⟩ := hp34
   rw [hv35, hm36]; clear hv35 hm36
   obtain ⟨wk50_a, wk50_c, wk50_e, wk50_l⟩ := id qwh43.shape
   have qwr44_len := qwr44.1
   try simp only [List.length_set, List.length_append, List.length_cons, List.length_nil, List.length_take] at qwr44_len
   obtain ⟨u041_a, u041_c, u041_e, u041_l⟩ := qh46.shape
   subst u041_e
   refine seq_mem (M' := ((b28, Obj.cells #[.slice u_08_a Y.cars.length u_08_c, .slice u_110_a Y.room.length u_110_c, .slice u_212_a ws_213.length u_212_c] 87 (0, 0)) :: (y_Mt38 ++ (b30, Obj.map r_et39 r_ct40) :: (Ms042 ++ (b1, Obj.cells #[.slice y1_a Y.cars.length y1_c, .slice y2_a Y.room.length y2_c, .slice y3_a Y.tracks.length y3_c] 26 (0, 0)) :: F)))) (fun w h => by simpa only [List.append_assoc, List.cons_append, List.nil_append] using h) ?_
   refine pm (M' := ((b28, Obj.cells #[.slice u_08_a Y.cars.length u_08_c, .slice u_110_a Y.room.length u_110_c, .slice u_212_a ws_213.length u_212_c] 87 (0, 0)) :: (b30, Obj.map r_et39 r_ct40) :: (b1, Obj.cells #[.slice y1_a Y.cars.length y1_c, .slice y2_a Y.room.length y2_c, .slice y3_a Y.tracks.length y3_c] 26 (0, 0)) :: (y_Mt38 ++ (Ms042 ++ F)))) (List.Perm.cons _ (List.perm_middle.trans (List.Perm.cons _ ((List.Perm.append_left _ List.perm_middle).trans List.perm_middle)))) ?_
   show Seq _ _ _ _ _ _ ((22, .tuple #[.slice u041_a ((searchM (allP ps) d Y ([])).1.getD []).length u041_c, .bool ((searchM (allP ps) d Y ([])).1.isSome)]) :: _) _ _
   refine sp 5 [(9, .bool ((searchM (allP ps) d Y ([])).1.isSome)), (8, .slice u041_a ((searchM (allP ps) d Y ([])).1.getD []).length u041_c)] ?_
   refine sn ?_
   refine sp 1 [(25, .bool ((searchM (allP ps) d Y ([])).1.isSome))] ?_
   refine se ?_
   refine rc 25 rfl (fun h2 => ?_) (fun h2 => ?_)
   ·
    have h2_r := h2
    refine rqr ?_
    refine sp 3 [(5, .int .i64 (0)), (4, .slice u041_a ((searchM (allP ps) d Y ([])).1.getD []).length u041_c)] ?_
    refine se ?_
    refine rret ?_
    refine (pst_ret_block (pst_ret_pass (pst_ret_pass (pst_ret_block (pst_ret_pass ?_)))))
    have hsp := search_plain hfa hbl (g := allP ps); have hfe := fewest_hit (by omega) hbl (by rw [← hsp]; exact h2)
    refine ppm (M' := ((Ms042 ++ (b28, Obj.cells #[.slice u_08_a Y.cars.length u_08_c, .slice u_110_a Y.room.length u_110_c, .slice u_212_a ws_213.length u_212_c] 87 (0, 0)) :: (b30, Obj.map r_et39 r_ct40) :: (b1, Obj.cells #[.slice y1_a Y.cars.length y1_c, .slice y2_a Y.room.length y2_c, .slice y3_a Y.tracks.length y3_c] 26 (0, 0)) :: (y_Mt38 ++ F)))) ((List.Perm.cons _ ((List.Perm.cons _ ((List.Perm.cons _ (List.perm_append_comm_assoc _ _ _)).trans (List.perm_middle.symm))).trans (List.perm_middle.symm))).trans (List.perm_middle.symm)) ?_
    refine pst_ret2 (t := 4) (u := 5) (Ms042) (by kernel_rfl) rfl rfl (List.Sublist.append_left (List.Sublist.cons _ (List.Sublist.cons _ (List.Sublist.cons _ (List.Sublist.trans (List.Sublist.refl _) (List.sublist_append_right _ _))))) _) (Imm.le.trans (Imm.le.trans (Imm.le.trans (Imm.le.trans hle4 hle23) hle26) hJ0) hle33) ?_
    exact ⟨_, _, (congrArg (fun n => Value.tuple #[_, .int .i64 n]) (show (0 : Int) = errOf (fewestM (allP ps) Y) from (errOf_some (by rw [hfe, ← hsp]; exact h2)).symm)), rfl, ((show (searchM (allP ps) d Y []).1.getD [] = (fewestM (allP ps) Y).getD [] from by rw [hfe, hsp]) ▸ qh46)⟩
   ·
    have h2_r := h2
    refine rskip ?_
    refine pst_normal_block ?_
    refine pst_next ?_
    refine rr ?_
    refine sd (da 27 (↑d) (1)) ?_
    refine sp 1 [(14, .int .i64 (↑d + 1))] ?_
    refine ee ?_
    refine pst_back (5 - (d+1)) (by omega) ?_
    intro a w hS hD hW
    exact ⟨I32, d+1, y_Mt38, y_wt37, (Imm.le.trans hJ0 hle33), by omega, below_next hbl (by rw [← search_plain hfa hbl]; exact none_of h2), qwr44, qwh43, hS.sub (.consE 14 rfl rfl (.cons 1 rfl (.cons 6 rfl (.nil _)))), hD, (hW.perm ((List.Perm.swap _ _ _).trans (List.Perm.cons _ ((List.Perm.cons _ ((List.Perm.cons _ (List.perm_append_comm_assoc _ _ _)).trans (List.perm_middle.symm))).trans (List.perm_middle.symm))))).sub (List.Sublist.cons _ (List.Sublist.trans (List.Sublist.refl _) (List.sublist_append_right _ _))), rfl⟩
  ·
   have h1_r := h1
   have h1 := lss_f h1
   refine rexit 0 ?_
   refine (pst_exit_pass (pst_exit_pass (pst_exit_block ?_)))
   refine pst_next ?_
   refine rqr ?_
   refine sp 2 [(5, .int .i64 (11)), (4, .slice none 0 0)] ?_
   refine se ?_
   refine rret ?_
   have hfe := fewest_none (g := allP ps) (Y := Y) (fun m hm => hbl m (by omega))
   refine pst_ret2 (t := 4) (u := 5) ([]) (by kernel_rfl) rfl rfl (List.Sublist.cons _ (List.Sublist.cons _ (List.Sublist.trans (List.Sublist.refl _) (List.sublist_append_right _ _)))) (Imm.le.trans (Imm.le.trans (Imm.le.trans hle4 hle23) hle26) hJ0) ?_
   exact ⟨_, _, (congrArg (fun n => Value.tuple #[_, .int .i64 n]) (show (11 : Int) = errOf (fewestM (allP ps) Y) from (errOf_none hfe).symm)), rfl, ((show [] = (fewestM (allP ps) Y).getD [] from by rw [hfe]; rfl) ▸ Own.nil _ _ _)⟩

noncomputable def c_checkOrder (p : List Nat) : Code := sub (bodyOf Tryd.f60) p
theorem checkOrder_ct (I : Imm) (y : Value) (Y : Yard) (a : Value) (o : List Int) (y_f : IsYard I y Y) (a_f : IsInts I a o) : CtV Tryd.prog 60 #[y, a] I (.int .i64 (orderErr Y o)) := by
 obtain ⟨y1, y2, y3, y_e, y1_f, y2_f, y3_f⟩ := id y_f
 subst y_e
 obtain ⟨y1_a, y1_c, y1_b, y1_o, y1_e, y1_l, y1_m, y1_r⟩ := id y1_f
 subst y1_e
 obtain ⟨y2_a, y2_c, y2_b, y2_o, y2_e, y2_l, y2_m, y2_r⟩ := id y2_f
 subst y2_e
 obtain ⟨y3_a, y3_c, y3_b, y3_o, y3_vs, y3_e, y3_l, y3_m, y3_r, y3_w⟩ := id y3_f
 subst y3_e
 obtain ⟨a_a, a_c, a_b, a_o, a_e, a_l, a_m, a_r⟩ := id a_f
 subst a_e
 refine fn_of_run (fn := Tryd.f60) (args := [_, _]) (N := 35) Tryd.func60 rfl (by kernel_rfl) (Nat.le_of_ble_eq_true rfl) (fun F => ?_)
 show Run _ _ (c_checkOrder []) _ _ [(0, .agg #[.slice y1_a Y.cars.length y1_c, .slice y2_a Y.room.length y2_c, .slice y3_a Y.tracks.length y3_c]), (1, .slice a_a o.length a_c)] _ _
 refine rnm ?_
 refine rqr ?_
 refine sS (sb 2 26 #[.slice y1_a Y.cars.length y1_c, .slice y2_a Y.room.length y2_c, .slice y3_a Y.tracks.length y3_c] (fun b1 => ?_))
 refine sp 1 [(4, .int .i64 (0))] ?_
 refine se ?_
 refine rq ?_
 refine rqr ?_
 refine sd (dnb 8 0 0 b1 [.slice y1_a Y.cars.length y1_c, .slice y2_a Y.room.length y2_c, .slice y3_a Y.tracks.length y3_c]) ?_
 refine sd (dc 9 (fun I' hI => (Check_ct I' _ (Y) ((mkYard y1_f y2_f y3_f).mono hI) :))) ?_
 refine sp 1 [(5, .int .i64 ((checkErr Y)))] ?_
 refine sn ?_
 refine sp 2 [(11, .bool (!(cmp .eql ((checkErr Y)) (0))))] ?_
 refine se ?_
 refine rc 11 rfl (fun h1 => ?_) (fun h1 => ?_)
 ·
  have h1_r := h1
  have h1 := not_t h1
  have h1 := eql_f h1
  refine rqr ?_
  refine sp 2 [(4, .int .i64 ((checkErr Y)))] ?_
  refine se ?_
  refine rret ?_
  refine (pst_ret_pass ?_)
  refine pst_ret1 (t := 4) [] (by kernel_rfl) rfl (List.Sublist.cons _ (List.Sublist.refl _)) (Imm.le.refl _) ?_
  exact ⟨congrArg (Value.int .i64) ((orderErr_bad h1).symm), rfl⟩
 ·
  have h1_r := h1
  have h1 := not_f h1
  have h1 := eql_t h1
  refine rskip ?_
  refine pst_next ?_
  refine rq ?_
  refine rqr ?_
  refine sp 3 [(15, .int .i64 (0)), (14, .int .i64 (↑(o.length))), (13, .slice a_a o.length a_c)] ?_
  refine se ?_
  refine rb 0 ?_
  refine rl (fun mz a w => ∃ k : Nat, (k ≤ o.length) ∧ (orderErr Y o = goO Y.cars.length (o.take k) (o.drop k)) ∧ Slots 35 [(15, .int .i64 ↑k), (1, .slice a_a o.length a_c), (2, .pointer (some ⟨b1, 0, none⟩)), (13, .slice a_a o.length a_c), (14, .int .i64 (↑(o.length)))] a ∧ a.defers = [] ∧ St I ((b1, Obj.cells #[.slice y1_a Y.cars.length y1_c, .slice y2_a Y.room.length y2_c, .slice y3_a Y.tracks.length y3_c] 26 (0, 0)) :: F) w ∧ mz = o.length - k) ?_ ?_
  ·intro a w hS hD hW
   exact ⟨_, 0, Nat.zero_le _, orderErr_ok (by omega), hS.sub (.cons 15 rfl (.cons 1 rfl (.cons 2 rfl (.cons 13 rfl (.cons 14 rfl (.nil _)))))), hD, hW, rfl⟩
  ·rintro mz a w ⟨k, hk, hr, hS, hD, hW, rfl⟩
   refine run_at hS hD hW ?_
   clear hS hD hW a w
   refine rqr ?_
   refine sp 1 [(16, .bool (cmp .lss (↑k) (↑(o.length))))] ?_
   refine se ?_
   refine rq ?_
   refine rc 16 rfl (fun h2 => ?_) (fun h2 => ?_)
   ·
    have h2_r := h2
    have h2 := lss_t h2
    refine rskip ?_
    refine pst_next ?_
    refine rq ?_
    refine rb 1 ?_
    refine rqr ?_
    refine sp 1 [(17, .int .i64 (↑k))] ?_
    refine sd (di 18 1 (k) a_r.addr) ?_
    refine sd (dl 19 (ints_get a_r (k) (by omega))) ?_
    refine sp 2 [(7, .int .i64 (o.getD (k) 0)), (6, .int .i64 (↑k))] ?_
    refine se ?_
    refine rb 2 ?_
    refine rqr ?_
    refine sp 2 [(22, .pointer (some ⟨b1, 0, none⟩)), (21, .int .i64 (o.getD (k) 0))] ?_
    refine sd (dlb 23 0 0 b1 (.slice y1_a Y.cars.length y1_c)) ?_
    refine sp 1 [(24, .int .i64 (↑(Y.cars.length)))] ?_
    refine sd (dsb 25 (↑(Y.cars.length)) (1)) ?_
    refine sd (dc 26 (fun I' hI => (in_ct I' (o.getD (k) 0) (0) ((↑(Y.cars.length)) - 1) :))) ?_
    refine sp 2 [(20, .bool (!(inB (o.getD (k) 0) 0 ((↑(Y.cars.length)) - 1))))] ?_
    refine se ?_
    refine rc 20 rfl (fun h3 => ?_) (fun h3 => ?_)
    ·
     have h3_r := h3
     have h3 := not_t h3
     have h3_p := inB_f h3
     refine rqr ?_
     refine sp 1 [(4, .int .i64 (3))] ?_
     refine se ?_
     refine rret ?_
     refine (pst_ret_block (pst_ret_block (pst_ret_pass (pst_ret_pass (pst_ret_block (pst_ret_pass ?_))))))
     refine pst_ret1 (t := 4) [] (by kernel_rfl) rfl (List.Sublist.cons _ (List.Sublist.refl _)) (Imm.le.refl _) ?_
     exact ⟨congrArg (Value.int .i64) ((hr.trans (goO_unknown (by omega) h3)).symm), rfl⟩
    ·
     have h3_r := h3
     have h3 := not_f h3
     have h3_p := inB_t h3
     refine rqr ?_
     refine sp 2 [(30, .int .i64 (↑k)), (29, .slice a_a o.length a_c)] ?_
     have s3_f := a_f.cutHi (k) (by omega)
     obtain ⟨s3_a, s3_c, s3_b, s3_o, s3_e, s3_l, s3_m, s3_r⟩ := id s3_f
     rw [s3_e] at s3_f
     refine sd (det_eq (det_slice (x := (.tmp 29)) (lo := none) (hi := (some (.tmp 30))) (T := 22) (e := 3) (sz := 1) (0) (k) (d := 31) (ty := 22) (gd := none) (by kernel_rfl) rfl (by kernel_rfl) (by kernel_rfl) rfl (.inl ⟨rfl, rfl⟩) (.inr ⟨_, .i64, rfl, rfl⟩) (by omega) (by omega)) s3_e) ?_
     refine sp 1 [(32, .int .i64 (o.getD (k) 0))] ?_
     refine sd (dc 33 (fun I' hI => (Contains_ct I' _ _ (o.getD (k) 0) (s3_f.mono hI) :))) ?_
     refine sp 1 [(28, .bool (decide ((o.getD (k) 0) ∈ (o.take (k)))))] ?_
     refine se ?_
     refine rc 28 rfl (fun h4 => ?_) (fun h4 => ?_)
     ·
      have h4_r := h4
      have h4 := dec_t h4
      refine rqr ?_
      refine sp 1 [(4, .int .i64 (4))] ?_
      refine se ?_
      refine rret ?_
      refine (pst_ret_block (pst_ret_block (pst_ret_pass (pst_ret_pass (pst_ret_block (pst_ret_pass ?_))))))
      refine pst_ret1 (t := 4) [] (by kernel_rfl) rfl (List.Sublist.cons _ (List.Sublist.refl _)) (Imm.le.refl _) ?_
      exact ⟨congrArg (Value.int .i64) ((hr.trans (goO_twice (by omega) h3 h4)).symm), rfl⟩
     ·
      have h4_r := h4
      have h4 := dec_f h4
      refine rskip ?_
      refine pst_normal_block ?_
      refine pst_normal_block ?_
      refine pst_next ?_
      refine rr ?_
      refine sd (da 34 (↑k) (1)) ?_
      refine sp 1 [(15, .int .i64 (↑k + 1))] ?_
      refine ee ?_
      refine pst_back (o.length - (k+1)) (by omega) ?_
      intro a w hS hD hW
      exact ⟨k+1, by omega, hr.trans (goO_next (by omega) h3 h4), hS.sub (.consE 15 rfl rfl (.cons 1 rfl (.cons 2 rfl (.cons 13 rfl (.cons 14 rfl (.nil _)))))), hD, hW, rfl⟩
   ·
    have h2_r := h2
    have h2 := lss_f h2
    refine rexit 0 ?_
    refine (pst_exit_pass (pst_exit_pass (pst_exit_block ?_)))
    refine pst_next ?_
    refine rqr ?_
    refine sp 1 [(4, .int .i64 (0))] ?_
    refine se ?_
    refine rret ?_
    refine pst_ret1 (t := 4) [] (by kernel_rfl) rfl (List.Sublist.cons _ (List.Sublist.refl _)) (Imm.le.refl _) ?_
    exact ⟨congrArg (Value.int .i64) ((hr.trans (goO_done (by omega))).symm), rfl⟩

noncomputable def c_Fewest (p : List Nat) : Code := sub (bodyOf Tryd.f28) p
theorem Fewest_ct (I : Imm) (y : Value) (Y : Yard) (a : Value) (o : List Int) (y_f : IsYard I y Y) (a_f : IsInts I a o) (hG : Glob I) : Ct Tryd.prog 28 #[y, a] I ([]) (fun v I' M' => ∃ u0 : Value, ∃ Ms0 : Seg, v = .tuple #[u0, .int .i64 ((fewestE Y o).2)] ∧ M' = Ms0 ∧ Own 54 3 shiftCell u0 ((fewestE Y o).1) Ms0) := by
 obtain ⟨y1, y2, y3, y_e, y1_f, y2_f, y3_f⟩ := id y_f
 subst y_e
 obtain ⟨y1_a, y1_c, y1_b, y1_o, y1_e, y1_l, y1_m, y1_r⟩ := id y1_f
 subst y1_e
 obtain ⟨y2_a, y2_c, y2_b, y2_o, y2_e, y2_l, y2_m, y2_r⟩ := id y2_f
 subst y2_e
 obtain ⟨y3_a, y3_c, y3_b, y3_o, y3_vs, y3_e, y3_l, y3_m, y3_r, y3_w⟩ := id y3_f
 subst y3_e
 obtain ⟨a_a, a_c, a_b, a_o, a_e, a_l, a_m, a_r⟩ := id a_f
 subst a_e
 refine fn_of_run (fn := Tryd.f28) (args := [_, _]) (N := 20) Tryd.func28 rfl (by kernel_rfl) (Nat.le_of_ble_eq_true rfl) (fun F => ?_)
 show Run _ _ (c_Fewest []) _ _ [(0, .agg #[.slice y1_a Y.cars.length y1_c, .slice y2_a Y.room.length y2_c, .slice y3_a Y.tracks.length y3_c]), (1, .slice a_a o.length a_c)] _ _
 refine rnm ?_
 refine rqr ?_
 refine sS (sb 2 26 #[.slice y1_a Y.cars.length y1_c, .slice y2_a Y.room.length y2_c, .slice y3_a Y.tracks.length y3_c] (fun b1 => ?_))
 refine sp 2 [(5, .int .i64 (0)), (4, .slice none 0 0)] ?_
 refine se ?_
 refine rq ?_
 refine rqr ?_
 refine sd (dnb 7 0 0 b1 [.slice y1_a Y.cars.length y1_c, .slice y2_a Y.room.length y2_c, .slice y3_a Y.tracks.length y3_c]) ?_
 refine sp 1 [(8, .slice a_a o.length a_c)] ?_
 refine sd (dc 9 (fun I' hI => (checkOrder_ct I' _ (Y) _ _ ((mkYard y1_f y2_f y3_f).mono hI) (a_f.mono hI) :))) ?_
 refine sp 1 [(6, .int .i64 ((orderErr Y o)))] ?_
 refine sn ?_
 refine sp 2 [(11, .bool (!(cmp .eql ((orderErr Y o)) (0))))] ?_
 refine se ?_
 refine rc 11 rfl (fun h1 => ?_) (fun h1 => ?_)
 ·
  have h1_r := h1
  have h1 := not_t h1
  have h1 := eql_f h1
  refine rqr ?_
  refine sp 3 [(5, .int .i64 ((orderErr Y o))), (4, .slice none 0 0)] ?_
  refine se ?_
  refine rret ?_
  refine (pst_ret_pass ?_)
  refine pst_ret2 (t := 4) (u := 5) ([]) (by kernel_rfl) rfl rfl (List.Sublist.cons _ (List.Sublist.refl _)) (Imm.le.refl _) ?_
  exact ⟨_, _, (congrArg (fun n => Value.tuple #[_, .int .i64 n]) (show orderErr Y o = (fewestE Y o).2 from (congrArg Prod.snd (fewestE_bad h1)).symm)), rfl, ((show [] = (fewestE Y o).1 from (congrArg Prod.fst (fewestE_bad h1)).symm) ▸ Own.nil _ _ _)⟩
 ·
  have h1_r := h1
  have h1 := not_f h1
  have h1 := eql_t h1
  have ho0 : orderErr Y o = 0 := by omega
  refine rskip ?_
  refine pst_next ?_
  refine rq ?_
  refine rd 7 [(0, true), (1, true), (2, false), (3, false), (4, false), (5, true), (6, true)] ((b1, Obj.cells #[.slice y1_a Y.cars.length y1_c, .slice y2_a Y.room.length y2_c, .slice y3_a Y.tracks.length y3_c] 26 (0, 0)) :: []) (F) ?_
  refine ofp_det (dnb 13 0 0 b1 [.slice y1_a Y.cars.length y1_c, .slice y2_a Y.room.length y2_c, .slice y3_a Y.tracks.length y3_c]) ?_
  refine ox 1 [(14, .slice a_a o.length a_c)] ?_
  have hct12 := ordered_ct I _ _ a_f
  refine ofp_stp (sc (some 15) (F := ((b1, Obj.cells #[.slice y1_a Y.cars.length y1_c, .slice y2_a Y.room.length y2_c, .slice y3_a Y.tracks.length y3_c] 26 (0, 0)) :: F)) (hct12 :) (List.Perm.refl _) (fun rv10 I3 rm11 hle4 hp5 => ?_))
  obtain ⟨b8, hv6, hm7, qp9⟩ := hp5
  rw [hv6, hm7]; clear hv6 hm7
  replace y_f := y_f.mono hle4
  replace y1_f := y1_f.mono hle4
  replace y1_r := y1_r.mono hle4
  replace y2_f := y2_f.mono hle4
  replace y2_r := y2_r.mono hle4
  replace y3_f := y3_f.mono hle4
  replace y3_r := y3_r.mono hle4
  replace y3_w := fun i hi => (y3_w i hi).mono hle4
  replace a_f := a_f.mono hle4
  replace a_r := a_r.mono hle4
  replace hG := hG.mono hle4
  refine ofp_settle (S' := (F)) (List.Perm.refl _) ?_
  show OFP _ _ _ _ _ _ ((15, .func (.func 76) #[] #[.pointer (some ⟨b8, 0, none⟩)]) :: _) _ _
  refine ofp_stpH (sbs 16 104 1 #[.func (.func 76) #[] #[.pointer (some ⟨b8, 0, none⟩)]] (fun b13 => ?_))
  refine hk_mem (M' := ((b1, Obj.cells #[.slice y1_a Y.cars.length y1_c, .slice y2_a Y.room.length y2_c, .slice y3_a Y.tracks.length y3_c] 26 (0, 0)) :: ([(b13, Obj.cells #[.func (.func 76) #[] #[.pointer (some ⟨b8, 0, none⟩)]] 104 (0, 0))] ++ F))) (fun w h => h.perm (List.Perm.swap _ _ _)) ?_
  have ho15 : Own 104 1 valCell (.slice (some ⟨b13, 0, none⟩) 1 1) ([(.func (.func 76) #[] #[.pointer (some ⟨b8, 0, none⟩)] : Value)] : List Value) [(b13, Obj.cells #[.func (.func 76) #[] #[.pointer (some ⟨b8, 0, none⟩)]] 104 (0, 0))] := Own.lit rfl rfl
  refine hk_freeze (B := ((b1, Obj.cells #[.slice y1_a Y.cars.length y1_c, .slice y2_a Y.room.length y2_c, .slice y3_a Y.tracks.length y3_c] 26 (0, 0)) :: F)) undef ho15 (by first | omega | (simp only [List.length_set, List.length_cons, List.length_nil, List.length_append, List.length_take, List.length_drop] <;> omega) | decide) (List.perm_middle.symm) (List.Perm.refl _) (fun I16 hle17 fz18_f => ?_)
  replace y_f := y_f.mono hle17
  replace y1_f := y1_f.mono hle17
  replace y1_r := y1_r.mono hle17
  replace y2_f := y2_f.mono hle17
  replace y2_r := y2_r.mono hle17
  replace y3_f := y3_f.mono hle17
  replace y3_r := y3_r.mono hle17
  replace y3_w := fun i hi => (y3_w i hi).mono hle17
  replace a_f := a_f.mono hle17
  replace a_r := a_r.mono hle17
  replace hG := hG.mono hle17
  replace qp9 := hle17.blk _ _ qp9
  obtain ⟨fz18_a, fz18_c, fz18_b, fz18_o, fz18_e, fz18_l, fz18_m, fz18_r⟩ := id fz18_f
  cases fz18_e
  refine hk_done ?_
  refine ofp_settle (S' := (F)) (List.Perm.refl _) ?_
  have hvl := orderErr_valid ho0
  have hct29 := fewest_ct I16 _ (Y) _ _ ([orderedP o]) (mkYard y1_f y2_f y3_f) fz18_f (by first | exact hG | exact hG.mono hI) (by exact goals_ordered (by assumption) (by assumption) (Kin.pos hvl.fine (Kin.refl Y))) (by exact hvl)
  refine ofp_stp (sc (some 17) (F := ((b1, Obj.cells #[.slice y1_a Y.cars.length y1_c, .slice y2_a Y.room.length y2_c, .slice y3_a Y.tracks.length y3_c] 26 (0, 0)) :: F)) (hct29 :) (List.Perm.refl _) (fun rv27 I19 rm28 hle20 hp21 => ?_))
  obtain ⟨u024, Ms025, hv22, hm23, qh26⟩ := hp21
  rw [hv22, hm23]; clear hv22 hm23
  replace qp9 := hle20.blk _ _ qp9
  obtain ⟨u024_a, u024_c, u024_e, u024_l⟩ := qh26.shape
  subst u024_e
  refine ofp_settle (S' := ((Ms025 ++ F))) List.perm_middle ?_
  show OFP _ _ _ _ _ _ ((17, .tuple #[.slice u024_a ((fewestM (allP ([orderedP o])) Y).getD []).length u024_c, .int .i64 ((errOf (fewestM (allP ([orderedP o])) Y)))]) :: _) _ _
  refine ox 2 [(19, .int .i64 ((errOf (fewestM (allP ([orderedP o])) Y)))), (18, .slice u024_a ((fewestM (allP ([orderedP o])) Y).getD []).length u024_c)] ?_
  refine ofp_end ?_
  refine nm ?_
  refine nm ?_
  refine sp 2 [(5, .int .i64 ((errOf (fewestM (allP ([orderedP o])) Y)))), (4, .slice u024_a ((fewestM (allP ([orderedP o])) Y).getD []).length u024_c)] ?_
  refine se ?_
  refine rret ?_
  refine ppm (M' := ((Ms025 ++ (b1, Obj.cells #[.slice y1_a Y.cars.length y1_c, .slice y2_a Y.room.length y2_c, .slice y3_a Y.tracks.length y3_c] 26 (0, 0)) :: F))) (List.perm_middle.symm) ?_
  refine pst_ret2 (t := 4) (u := 5) (Ms025) (by kernel_rfl) rfl rfl (List.Sublist.append_left (List.Sublist.cons _ (List.Sublist.refl _)) _) (Imm.le.trans (Imm.le.trans hle4 hle17) hle20) ?_
  exact ⟨_, _, (congrArg (fun n => Value.tuple #[_, .int .i64 n]) (show errOf (fewestM (allP [orderedP o]) Y) = (fewestE Y o).2 from (congrArg Prod.snd (fewestE_ok ho0)).symm)), rfl, ((show (fewestM (allP [orderedP o]) Y).getD [] = (fewestE Y o).1 from (congrArg Prod.fst (fewestE_ok ho0)).symm) ▸ qh26)⟩

end Go.Proofs.YtcaocbhbofejnaaDoor
namespace Go.Proofs.YtcaocbhbofejnaaDoor
open Go Go.Sl Go.Sh
set_option maxRecDepth 100000
noncomputable def c_Leave (p : List Nat) : Code := sub (bodyOf Tryd.f24) p
theorem Leave_ct (I : Imm) (y : Value) (Y : Yard) (a : Value) (o : List Int) (y_f : IsYard I y Y) (a_f : IsInts I a o) (hG : Glob I) : Ct Tryd.prog 24 #[y, a] I ([]) (fun v I' M' => ∃ u0 : Value, ∃ Ms0 : Seg, v = .tuple #[u0, .int .i64 ((leaveE Y o).2)] ∧ M' = Ms0 ∧ Own 54 3 shiftCell u0 ((leaveE Y o).1) Ms0) := by
 obtain ⟨y1, y2, y3, y_e, y1_f, y2_f, y3_f⟩ := id y_f
 subst y_e
 obtain ⟨y1_a, y1_c, y1_b, y1_o, y1_e, y1_l, y1_m, y1_r⟩ := id y1_f
 subst y1_e
 obtain ⟨y2_a, y2_c, y2_b, y2_o, y2_e, y2_l, y2_m, y2_r⟩ := id y2_f
 subst y2_e
 obtain ⟨y3_a, y3_c, y3_b, y3_o, y3_vs, y3_e, y3_l, y3_m, y3_r, y3_w⟩ := id y3_f
 subst y3_e
 obtain ⟨a_a, a_c, a_b, a_o, a_e, a_l, a_m, a_r⟩ := id a_f
 subst a_e
 refine fn_of_run (fn := Tryd.f24) (args := [_, _]) (N := 52) Tryd.func24 rfl (by kernel_rfl) (Nat.le_of_ble_eq_true rfl) (fun F => ?_)
 show Run _ _ (c_Leave []) _ _ [(0, .agg #[.slice y1_a Y.cars.length y1_c, .slice y2_a Y.room.length y2_c, .slice y3_a Y.tracks.length y3_c]), (1, .slice a_a o.length a_c)] _ _
 refine rnm ?_
 refine rqr ?_
 refine sS (sb 2 26 #[.slice y1_a Y.cars.length y1_c, .slice y2_a Y.room.length y2_c, .slice y3_a Y.tracks.length y3_c] (fun b1 => ?_))
 refine sS (sb 3 22 #[.slice a_a o.length a_c] (fun b3 => ?_))
 refine sp 2 [(5, .int .i64 (0)), (4, .slice none 0 0)] ?_
 refine se ?_
 refine rq ?_
 refine rqr ?_
 refine sd (dnb 11 1 0 b1 [.slice y1_a Y.cars.length y1_c, .slice y2_a Y.room.length y2_c, .slice y3_a Y.tracks.length y3_c]) ?_
 refine sd (dc 12 (fun I' hI => (Check_ct I' _ (Y) ((mkYard y1_f y2_f y3_f).mono hI) :))) ?_
 refine sp 1 [(6, .int .i64 ((checkErr Y)))] ?_
 refine sn ?_
 refine sp 2 [(14, .bool (!(cmp .eql ((checkErr Y)) (0))))] ?_
 refine se ?_
 refine rc 14 rfl (fun h1 => ?_) (fun h1 => ?_)
 ·
  have h1_r := h1
  have h1 := not_t h1
  have h1 := eql_f h1
  refine rqr ?_
  refine sp 3 [(5, .int .i64 ((checkErr Y))), (4, .slice none 0 0)] ?_
  refine se ?_
  refine rret ?_
  refine (pst_ret_pass ?_)
  have hle0 : leaveErr Y o = checkErr Y := leaveErr_bad h1
  refine pst_ret2 (t := 4) (u := 5) ([]) (by kernel_rfl) rfl rfl (List.Sublist.cons _ (List.Sublist.cons _ (List.Sublist.refl _))) (Imm.le.refl _) ?_
  exact ⟨_, _, (congrArg (fun n => Value.tuple #[_, .int .i64 n]) (show checkErr Y = (leaveE Y o).2 from (hle0.symm.trans (congrArg Prod.snd (leaveE_bad (by omega))).symm))), rfl, ((show [] = (leaveE Y o).1 from (congrArg Prod.fst (leaveE_bad (by omega))).symm) ▸ Own.nil _ _ _)⟩
 ·
  have h1_r := h1
  have h1 := not_f h1
  have h1 := eql_t h1
  refine rskip ?_
  refine pst_next ?_
  refine rq ?_
  refine rqr ?_
  refine sd (dlb 16 0 0 b3 (.slice a_a o.length a_c)) ?_
  refine sp 2 [(18, .int .i64 (0)), (17, .int .i64 (↑(o.length)))] ?_
  refine se ?_
  refine rb 0 ?_
  refine rl (fun mz a w => ∃ k : Nat, (k ≤ o.length) ∧ (leaveErr Y o = goL Y.cars.length (prevAt o k) (o.drop k)) ∧ Slots 52 [(18, .int .i64 ↑k), (2, .pointer (some ⟨b1, 0, none⟩)), (3, .pointer (some ⟨b3, 0, none⟩)), (16, .slice a_a o.length a_c), (17, .int .i64 (↑(o.length)))] a ∧ a.defers = [] ∧ St I ((b3, Obj.cells #[.slice a_a o.length a_c] 22 (0, 0)) :: (b1, Obj.cells #[.slice y1_a Y.cars.length y1_c, .slice y2_a Y.room.length y2_c, .slice y3_a Y.tracks.length y3_c] 26 (0, 0)) :: F) w ∧ mz = o.length - k) ?_ ?_
  ·intro a w hS hD hW
   exact ⟨_, 0, Nat.zero_le _, leaveErr_ok (by omega), hS.sub (.cons 18 rfl (.cons 2 rfl (.cons 3 rfl (.cons 16 rfl (.cons 17 rfl (.nil _)))))), hD, hW, rfl⟩
  ·rintro mz a w ⟨k, hk, hr, hS, hD, hW, rfl⟩
   refine run_at hS hD hW ?_
   clear hS hD hW a w
   refine rqr ?_
   refine sp 1 [(19, .bool (cmp .lss (↑k) (↑(o.length))))] ?_
   refine se ?_
   refine rq ?_
   refine rc 19 rfl (fun h2 => ?_) (fun h2 => ?_)
   ·
    have h2_r := h2
    have h2 := lss_t h2
    refine rskip ?_
    refine pst_next ?_
    refine rq ?_
    refine rb 1 ?_
    refine rqr ?_
    refine sp 1 [(20, .int .i64 (↑k))] ?_
    refine sd (di 21 1 (k) a_r.addr) ?_
    refine sd (dl 22 (ints_get a_r (k) (by omega))) ?_
    refine sp 2 [(8, .int .i64 (o.getD (k) 0)), (7, .int .i64 (↑k))] ?_
    refine se ?_
    refine rb 2 ?_
    refine rqr ?_
    refine sp 2 [(25, .pointer (some ⟨b1, 0, none⟩)), (24, .int .i64 (o.getD (k) 0))] ?_
    refine sd (dlb 26 1 0 b1 (.slice y1_a Y.cars.length y1_c)) ?_
    refine sp 1 [(27, .int .i64 (↑(Y.cars.length)))] ?_
    refine sd (dsb 28 (↑(Y.cars.length)) (1)) ?_
    refine sd (dc 29 (fun I' hI => (in_ct I' (o.getD (k) 0) (0) ((↑(Y.cars.length)) - 1) :))) ?_
    refine sp 2 [(23, .bool (!(inB (o.getD (k) 0) 0 ((↑(Y.cars.length)) - 1))))] ?_
    refine se ?_
    refine rc 23 rfl (fun h3 => ?_) (fun h3 => ?_)
    ·
     have h3_r := h3
     have h3 := not_t h3
     have h3_p := inB_f h3
     refine rqr ?_
     refine sp 2 [(5, .int .i64 (3)), (4, .slice none 0 0)] ?_
     refine se ?_
     refine rret ?_
     refine (pst_ret_block (pst_ret_block (pst_ret_pass (pst_ret_pass (pst_ret_block (pst_ret_pass ?_))))))
     have hle0 : leaveErr Y o = 3 := hr.trans (goL_unknown (by omega) h3)
     refine pst_ret2 (t := 4) (u := 5) ([]) (by kernel_rfl) rfl rfl (List.Sublist.cons _ (List.Sublist.cons _ (List.Sublist.refl _))) (Imm.le.refl _) ?_
     exact ⟨_, _, (congrArg (fun n => Value.tuple #[_, .int .i64 n]) (show 3 = (leaveE Y o).2 from (hle0.symm.trans (congrArg Prod.snd (leaveE_bad (by omega))).symm))), rfl, ((show [] = (leaveE Y o).1 from (congrArg Prod.fst (leaveE_bad (by omega))).symm) ▸ Own.nil _ _ _)⟩
    ·
     have h3_r := h3
     have h3 := not_f h3
     have h3_p := inB_t h3
     refine rq ?_
     refine run_cut (fun a w => Slots 52 [(2, .pointer (some ⟨b1, 0, none⟩)), (3, .pointer (some ⟨b3, 0, none⟩)), (16, .slice a_a o.length a_c), (17, .int .i64 (↑(o.length))), (18, .int .i64 (↑k)), (31, .bool ((cmp .gtr (↑k) (0)) && (cmp .leq (o.getD (k) 0) (o.getD ((↑k - 1 : Int).toNat) 0))))] a ∧ a.defers = [] ∧ St I ((b3, Obj.cells #[.slice a_a o.length a_c] 22 (0, 0)) :: (b1, Obj.cells #[.slice y1_a Y.cars.length y1_c, .slice y2_a Y.room.length y2_c, .slice y3_a Y.tracks.length y3_c] 26 (0, 0)) :: F) w) ?_ ?_
     ·
      refine rr ?_
      refine sp 3 [(34, .bool (cmp .gtr (↑k) (0)))] ?_
      refine seq_split 34 rfl (fun h4 => ?_) (fun h4 => ?_)
      ·
       have h4_b := h4
       have h4_b := gtr_t h4_b
       refine sp 1 [(35, .int .i64 (o.getD (k) 0))] ?_
       refine sd (dlb 36 0 0 b3 (.slice a_a o.length a_c)) ?_
       refine sp 1 [(37, .int .i64 (↑k))] ?_
       refine sd (dsb 38 (↑k) (1)) ?_
       refine sd (diI 39 1 (↑k - 1) a_r.addr (hj := ⟨by omega, by omega⟩)) ?_
       refine sd (dl 40 (ints_get a_r ((↑k - 1 : Int).toNat) (by omega))) ?_
       refine sp 3 [(31, .bool (cmp .leq (o.getD (k) 0) (o.getD ((↑k - 1 : Int).toNat) 0)))] ?_
       refine ee ?_
       refine pst_meet (fun a w hS hD hW => ⟨hS.sub (.cons 2 rfl (.cons 3 rfl (.cons 16 rfl (.cons 17 rfl (.cons 18 rfl (.consE 31 rfl (congrArg Value.bool (by simp only [h4, Bool.true_and, Bool.false_and, Bool.and_true, Bool.and_false, Bool.true_or, Bool.false_or, Bool.or_true, Bool.or_false, cond_true, cond_false])) (.nil _))))))), hD, hW⟩)
      ·
       have h4_b := h4
       have h4_b := gtr_f h4_b
       refine sp 9 [(31, .bool (false))] ?_
       refine ee ?_
       refine pst_meet (fun a w hS hD hW => ⟨hS.sub (.cons 2 rfl (.cons 3 rfl (.cons 16 rfl (.cons 17 rfl (.cons 18 rfl (.consE 31 rfl (congrArg Value.bool (by simp only [h4, Bool.true_and, Bool.false_and, Bool.and_true, Bool.and_false, Bool.true_or, Bool.false_or, Bool.or_true, Bool.or_false, cond_true, cond_false])) (.nil _))))))), hD, hW⟩)
     ·rintro a w ⟨hS, hD, hW⟩
      refine run_at hS hD hW ?_
      clear hS hD hW a w
      refine rc 31 rfl (fun h5 => ?_) (fun h5 => ?_)
      ·
       have h5_r := h5
       obtain ⟨h5_1, h5_2⟩ := and_t h5
       have h5_1 := gtr_t h5_1
       have h5_2 := leq_t h5_2
       refine rqr ?_
       refine sp 2 [(5, .int .i64 (5)), (4, .slice none 0 0)] ?_
       refine se ?_
       refine rret ?_
       refine (pst_ret_block (pst_ret_block (pst_ret_pass (pst_ret_pass (pst_ret_block (pst_ret_pass ?_))))))
       have hle0 : leaveErr Y o = 5 := hr.trans (goL_low (by omega) h3 h5_r)
       refine pst_ret2 (t := 4) (u := 5) ([]) (by kernel_rfl) rfl rfl (List.Sublist.cons _ (List.Sublist.cons _ (List.Sublist.refl _))) (Imm.le.refl _) ?_
       exact ⟨_, _, (congrArg (fun n => Value.tuple #[_, .int .i64 n]) (show 5 = (leaveE Y o).2 from (hle0.symm.trans (congrArg Prod.snd (leaveE_bad (by omega))).symm))), rfl, ((show [] = (leaveE Y o).1 from (congrArg Prod.fst (leaveE_bad (by omega))).symm) ▸ Own.nil _ _ _)⟩
      ·
       have h5_r := h5
       refine rskip ?_
       refine pst_normal_block ?_
       refine pst_normal_block ?_
       refine pst_next ?_
       refine rr ?_
       refine sd (da 43 (↑k) (1)) ?_
       refine sp 1 [(18, .int .i64 (↑k + 1))] ?_
       refine ee ?_
       refine pst_back (o.length - (k+1)) (by omega) ?_
       intro a w hS hD hW
       exact ⟨k+1, by omega, hr.trans (goL_next (by omega) h3 h5_r), hS.sub (.consE 18 rfl rfl (.cons 2 rfl (.cons 3 rfl (.cons 16 rfl (.cons 17 rfl (.nil _)))))), hD, hW, rfl⟩
   ·
    have h2_r := h2
    have h2 := lss_f h2
    refine rexit 0 ?_
    refine (pst_exit_pass (pst_exit_pass (pst_exit_block ?_)))
    refine pst_next ?_
    refine rqr ?_
    refine sp 1 [(9, .func (.func 55) #[] #[])] ?_
    refine sn ?_
    have hl0 : leaveErr Y o = 0 := hr.trans (goL_done (by omega))
    have hvl := leaveErr_valid hl0
    have hll := leaveErr_len hl0
    refine seq_hold (b := b3) (o := Obj.cells #[.slice a_a o.length a_c] 22 (0, 0)) (M0 := ((b1, Obj.cells #[.slice y1_a Y.cars.length y1_c, .slice y2_a Y.room.length y2_c, .slice y3_a Y.tracks.length y3_c] 26 (0, 0)) :: F)) (List.Perm.refl _) (fun I5 hle6 hb7 => ?_)
    replace y_f := y_f.mono hle6
    replace y1_f := y1_f.mono hle6
    replace y1_r := y1_r.mono hle6
    replace y2_f := y2_f.mono hle6
    replace y2_r := y2_r.mono hle6
    replace y3_f := y3_f.mono hle6
    replace y3_r := y3_r.mono hle6
    replace y3_w := fun i hi => (y3_w i hi).mono hle6
    replace a_f := a_f.mono hle6
    replace a_r := a_r.mono hle6
    replace hG := hG.mono hle6
    refine sp 2 [(10, .func (.func 56) #[] #[.pointer (some ⟨b3, 0, none⟩)])] ?_
    refine sn ?_
    refine sd (dnb 45 0 0 b1 [.slice y1_a Y.cars.length y1_c, .slice y2_a Y.room.length y2_c, .slice y3_a Y.tracks.length y3_c]) ?_
    refine sp 2 [(47, .func (.func 56) #[] #[.pointer (some ⟨b3, 0, none⟩)]), (46, .func (.func 55) #[] #[])] ?_
    refine sS (sbs 48 104 2 #[.func (.func 55) #[] #[], .func (.func 56) #[] #[.pointer (some ⟨b3, 0, none⟩)]] (fun b8 => ?_))
    refine pm (M' := ((b1, Obj.cells #[.slice y1_a Y.cars.length y1_c, .slice y2_a Y.room.length y2_c, .slice y3_a Y.tracks.length y3_c] 26 (0, 0)) :: ([(b8, Obj.cells #[.func (.func 55) #[] #[], .func (.func 56) #[] #[.pointer (some ⟨b3, 0, none⟩)]] 104 (0, 0))] ++ F))) (List.Perm.swap _ _ _) ?_
    have ho10 : Own 104 1 valCell (.slice (some ⟨b8, 0, none⟩) 2 2) ([(.func (.func 55) #[] #[] : Value), (.func (.func 56) #[] #[.pointer (some ⟨b3, 0, none⟩)] : Value)] : List Value) [(b8, Obj.cells #[.func (.func 55) #[] #[], .func (.func 56) #[] #[.pointer (some ⟨b3, 0, none⟩)]] 104 (0, 0))] := Own.lit rfl rfl
    refine sfz (A := ((b1, Obj.cells #[.slice y1_a Y.cars.length y1_c, .slice y2_a Y.room.length y2_c, .slice y3_a Y.tracks.length y3_c] 26 (0, 0)) :: F)) undef ho10 (List.perm_middle.symm) (fun I11 hle12 fz13_f => ?_)
    replace y_f := y_f.mono hle12
    replace y1_f := y1_f.mono hle12
    replace y1_r := y1_r.mono hle12
    replace y2_f := y2_f.mono hle12
    replace y2_r := y2_r.mono hle12
    replace y3_f := y3_f.mono hle12
    replace y3_r := y3_r.mono hle12
    replace y3_w := fun i hi => (y3_w i hi).mono hle12
    replace a_f := a_f.mono hle12
    replace a_r := a_r.mono hle12
    replace hG := hG.mono hle12
    replace hb7 := hle12.blk _ _ hb7
    obtain ⟨fz13_a, fz13_c, fz13_b, fz13_o, fz13_e, fz13_l, fz13_m, fz13_r⟩ := id fz13_f
    cases fz13_e
    have hct24 := fewest_ct I11 _ (Y) _ _ (leaveP o) (mkYard y1_f y2_f y3_f) fz13_f (by first | exact hG | exact hG.mono hI) (by exact goals_leave (by assumption) (by assumption) (Kin.pos hvl.fine (Kin.refl Y)) hll hvl.fine.sum) (by exact hvl)
    refine sS (sc (some 49) (F := ((b1, Obj.cells #[.slice y1_a Y.cars.length y1_c, .slice y2_a Y.room.length y2_c, .slice y3_a Y.tracks.length y3_c] 26 (0, 0)) :: F)) (hct24 :) (.refl _) (fun rv22 I14 rm23 hle15 hp16 => ?_))
    obtain ⟨u019, Ms020, hv17, hm18, qh21⟩ := hp16
    rw [hv17, hm18]; clear hv17 hm18
    replace hb7 := hle15.blk _ _ hb7
    obtain ⟨u019_a, u019_c, u019_e, u019_l⟩ := qh21.shape
    subst u019_e
    refine pm (M' := ((b1, Obj.cells #[.slice y1_a Y.cars.length y1_c, .slice y2_a Y.room.length y2_c, .slice y3_a Y.tracks.length y3_c] 26 (0, 0)) :: (Ms020 ++ F))) List.perm_middle ?_
    show Seq _ _ _ _ _ _ ((49, .tuple #[.slice u019_a ((fewestM (allP (leaveP o)) Y).getD []).length u019_c, .int .i64 ((errOf (fewestM (allP (leaveP o)) Y)))]) :: _) _ _
    refine sp 4 [(5, .int .i64 ((errOf (fewestM (allP (leaveP o)) Y)))), (4, .slice u019_a ((fewestM (allP (leaveP o)) Y).getD []).length u019_c)] ?_
    refine se ?_
    refine rret ?_
    refine ppm (M' := ((Ms020 ++ (b1, Obj.cells #[.slice y1_a Y.cars.length y1_c, .slice y2_a Y.room.length y2_c, .slice y3_a Y.tracks.length y3_c] 26 (0, 0)) :: F))) (List.perm_middle.symm) ?_
    refine pst_ret2 (t := 4) (u := 5) (Ms020) (by kernel_rfl) rfl rfl (List.Sublist.append_left (List.Sublist.cons _ (List.Sublist.refl _)) _) (Imm.le.trans (Imm.le.trans hle6 hle12) hle15) ?_
    exact ⟨_, _, (congrArg (fun n => Value.tuple #[_, .int .i64 n]) (show errOf (fewestM (allP (leaveP o)) Y) = (leaveE Y o).2 from (congrArg Prod.snd (leaveE_ok hl0)).symm)), rfl, ((show (fewestM (allP (leaveP o)) Y).getD [] = (leaveE Y o).1 from (congrArg Prod.fst (leaveE_ok hl0)).symm) ▸ qh21)⟩

noncomputable def c_Lacks (p : List Nat) : Code := sub (bodyOf Tryd.f45) p
theorem Lacks_ct (I : Imm) (y : Value) (Y : Yard) (a : Value) (o : List Int) (y_f : IsYard I y Y) (a_f : IsInts I a o) (hG : Glob I) : Ct Tryd.prog 45 #[y, a] I ([]) (fun v I' M' => ∃ u0 : Value, ∃ Ms0 : Seg, v = .tuple #[u0, .int .i64 ((lacksE Y o).2)] ∧ M' = Ms0 ∧ Own 3 1 intCell u0 ((lacksE Y o).1) Ms0) := by
 obtain ⟨y1, y2, y3, y_e, y1_f, y2_f, y3_f⟩ := id y_f
 subst y_e
 obtain ⟨y1_a, y1_c, y1_b, y1_o, y1_e, y1_l, y1_m, y1_r⟩ := id y1_f
 subst y1_e
 obtain ⟨y2_a, y2_c, y2_b, y2_o, y2_e, y2_l, y2_m, y2_r⟩ := id y2_f
 subst y2_e
 obtain ⟨y3_a, y3_c, y3_b, y3_o, y3_vs, y3_e, y3_l, y3_m, y3_r, y3_w⟩ := id y3_f
 subst y3_e
 obtain ⟨a_a, a_c, a_b, a_o, a_e, a_l, a_m, a_r⟩ := id a_f
 subst a_e
 refine fn_of_run (fn := Tryd.f45) (args := [_, _]) (N := 53) Tryd.func45 rfl (by kernel_rfl) (Nat.le_of_ble_eq_true rfl) (fun F => ?_)
 show Run _ _ (c_Lacks []) _ _ [(0, .agg #[.slice y1_a Y.cars.length y1_c, .slice y2_a Y.room.length y2_c, .slice y3_a Y.tracks.length y3_c]), (1, .slice a_a o.length a_c)] _ _
 refine rnm ?_
 refine rqr ?_
 refine sS (sb 2 26 #[.slice y1_a Y.cars.length y1_c, .slice y2_a Y.room.length y2_c, .slice y3_a Y.tracks.length y3_c] (fun b1 => ?_))
 refine sp 2 [(5, .int .i64 (0)), (4, .slice none 0 0)] ?_
 refine sn ?_
 refine sd (dnb 14 0 0 b1 [.slice y1_a Y.cars.length y1_c, .slice y2_a Y.room.length y2_c, .slice y3_a Y.tracks.length y3_c]) ?_
 refine sp 1 [(15, .slice a_a o.length a_c)] ?_
 have hct13 := Fewest_ct I _ (Y) _ _ (mkYard y1_f y2_f y3_f) a_f (by first | exact hG | exact hG.mono hI)
 refine sS (sc (some 16) (F := ((b1, Obj.cells #[.slice y1_a Y.cars.length y1_c, .slice y2_a Y.room.length y2_c, .slice y3_a Y.tracks.length y3_c] 26 (0, 0)) :: F)) (hct13 :) (.refl _) (fun rv11 I3 rm12 hle4 hp5 => ?_))
 obtain ⟨u08, Ms09, hv6, hm7, qh10⟩ := hp5
 rw [hv6, hm7]; clear hv6 hm7
 replace y_f := y_f.mono hle4
 replace y1_f := y1_f.mono hle4
 replace y1_r := y1_r.mono hle4
 replace y2_f := y2_f.mono hle4
 replace y2_r := y2_r.mono hle4
 replace y3_f := y3_f.mono hle4
 replace y3_r := y3_r.mono hle4
 replace y3_w := fun i hi => (y3_w i hi).mono hle4
 replace a_f := a_f.mono hle4
 replace a_r := a_r.mono hle4
 replace hG := hG.mono hle4
 obtain ⟨u08_a, u08_c, u08_e, u08_l⟩ := qh10.shape
 subst u08_e
 refine pm (M' := ((b1, Obj.cells #[.slice y1_a Y.cars.length y1_c, .slice y2_a Y.room.length y2_c, .slice y3_a Y.tracks.length y3_c] 26 (0, 0)) :: (Ms09 ++ F))) List.perm_middle ?_
 show Seq _ _ _ _ _ _ ((16, .tuple #[.slice u08_a ((fewestE Y o).1).length u08_c, .int .i64 (((fewestE Y o).2))]) :: _) _ _
 refine sp 5 [(7, .int .i64 (((fewestE Y o).2)))] ?_
 refine se ?_
 refine rq ?_
 refine rqr ?_
 refine sp 2 [(20, .bool (!(cmp .eql (((fewestE Y o).2)) (11))))] ?_
 refine se ?_
 refine rc 20 rfl (fun h1 => ?_) (fun h1 => ?_)
 ·
  have h1_r := h1
  have h1 := not_t h1
  have h1 := eql_f h1
  refine rqr ?_
  refine sp 3 [(5, .int .i64 (((fewestE Y o).2))), (4, .slice none 0 0)] ?_
  refine se ?_
  refine rret ?_
  refine (pst_ret_pass ?_)
  have hlk := lacksE_bad h1
  refine pst_ret2 (t := 4) (u := 5) ([]) (by kernel_rfl) rfl rfl (List.Sublist.cons _ (List.Sublist.trans (List.Sublist.refl _) (List.sublist_append_right _ _))) hle4 ?_
  exact ⟨_, _, (congrArg (fun n => Value.tuple #[_, .int .i64 n]) (show ((fewestE Y o).2 : Int) = (lacksE Y o).2 from by rw [hlk])), rfl, ((show [] = (lacksE Y o).1 from by rw [hlk]) ▸ Own.nil _ _ _)⟩
 ·
  have h1_r := h1
  have h1 := not_f h1
  have h1 := eql_t h1
  have h11 : (fewestE Y o).2 = 11 := h1
  refine rskip ?_
  refine pst_next ?_
  refine rqr ?_
  have ho0 := fewest_11 h11
  have hvl := orderErr_valid ho0
  have hfa := hvl.fine; have hgood := hvl.good; have hl1 := hvl.lens
  have hr1 := hfa.room1; have hr3 := hfa.room3
  refine sp 1 [(8, .slice none 0 0)] ?_
  refine se ?_
  refine rq ?_
  refine rqr ?_
  refine sp 1 [(9, .int .i64 (1))] ?_
  refine se ?_
  refine rb 0 ?_
  refine rl (fun mz a w => ∃ J0 : Imm, ∃ i : Nat, ∃ out : List Int, ∃ ov0_8 : Value, ∃ oM0_8 : Seg, (I3.le J0) ∧ (1 ≤ i) ∧ (i ≤ Y.room.length) ∧ (lacksFrom Y o 1 = out ++ lacksFrom Y o i) ∧ (Own 3 1 intCell ov0_8 (out) oM0_8) ∧ Slots 53 [(8, ov0_8), (9, .int .i64 (↑i)), (1, .slice a_a o.length a_c), (2, .pointer (some ⟨b1, 0, none⟩)), (4, .slice none 0 0), (5, .int .i64 (0))] a ∧ a.defers = [] ∧ St J0 ((b1, Obj.cells #[.slice y1_a Y.cars.length y1_c, .slice y2_a Y.room.length y2_c, .slice y3_a Y.tracks.length y3_c] 26 (0, 0)) :: (Ms09 ++ (oM0_8 ++ F))) w ∧ mz = Y.room.length - i) ?_ ?_
  ·intro a w hS hD hW
   exact ⟨_, I3, 1, [], (.slice none 0 0), [], Imm.le.refl _, Nat.le_refl _, by omega, rfl, (Own.nil _ _ _), hS.sub (.cons 8 rfl (.cons 9 rfl (.cons 1 rfl (.cons 2 rfl (.cons 4 rfl (.cons 5 rfl (.nil _))))))), hD, hW, rfl⟩
  ·rintro mz a w ⟨J0, i, out, ov0_8, oM0_8, hJ0, hi1, hi, hr, oh0_8, hS, hD, hW, rfl⟩
   refine run_at hS hD hW ?_
   clear hS hD hW a w
   replace y_f := y_f.mono hJ0
   replace y1_f := y1_f.mono hJ0
   replace y1_r := y1_r.mono hJ0
   replace y2_f := y2_f.mono hJ0
   replace y2_r := y2_r.mono hJ0
   replace y3_f := y3_f.mono hJ0
   replace y3_r := y3_r.mono hJ0
   replace y3_w := fun i hi => (y3_w i hi).mono hJ0
   replace a_f := a_f.mono hJ0
   replace a_r := a_r.mono hJ0
   replace hG := hG.mono hJ0
   obtain ⟨ov0_8_a, ov0_8_c, ov0_8_e, ov0_8_l⟩ := oh0_8.shape; subst ov0_8_e
   refine rq ?_
   refine rqr ?_
   refine sp 2 [(23, .pointer (some ⟨b1, 1, none⟩)), (22, .int .i64 (↑i))] ?_
   refine sd (dlb 24 0 1 b1 (.slice y2_a Y.room.length y2_c)) ?_
   refine sp 2 [(26, .bool (cmp .lss (↑i) (↑(Y.room.length))))] ?_
   refine se ?_
   refine rc 26 rfl (fun h2 => ?_) (fun h2 => ?_)
   ·
    have h2_r := h2
    have h2 := lss_t h2
    refine rskip ?_
    refine pst_next ?_
    refine rq ?_
    refine rb 1 ?_
    refine rqr ?_
    refine sd (dnb 29 0 0 b1 [.slice y1_a Y.cars.length y1_c, .slice y2_a Y.room.length y2_c, .slice y3_a Y.tracks.length y3_c]) ?_
    have hct32 := copied_ct J0 _ (Y) (mkYard y1_f y2_f y3_f) (by omega) (by omega) (by omega) (by exact hgood.le)
    refine sS (sc (some 30) (F := ((b1, Obj.cells #[.slice y1_a Y.cars.length y1_c, .slice y2_a Y.room.length y2_c, .slice y3_a Y.tracks.length y3_c] 26 (0, 0)) :: (Ms09 ++ (oM0_8 ++ F)))) (hct32 :) (.refl _) (fun rv30 I14 rm31 hle15 hp16 => ?_))
    obtain ⟨u_019, Ms_020, u_121, Ms_122, u_223, ws_224, Ms_225, hv17, hm18, qh26, qh27, qh28, qr29⟩ := hp16
    rw [hv17, hm18]; clear hv17 hm18
    replace y_f := y_f.mono hle15
    replace y1_f := y1_f.mono hle15
    replace y1_r := y1_r.mono hle15
    replace y2_f := y2_f.mono hle15
    replace y2_r := y2_r.mono hle15
    replace y3_f := y3_f.mono hle15
    replace y3_r := y3_r.mono hle15
    replace y3_w := fun i hi => (y3_w i hi).mono hle15
    replace a_f := a_f.mono hle15
    replace a_r := a_r.mono hle15
    replace hG := hG.mono hle15
    obtain ⟨u_019_a, u_019_c, u_019_e, u_019_l⟩ := qh26.shape
    subst u_019_e
    obtain ⟨u_121_a, u_121_c, u_121_e, u_121_l⟩ := qh27.shape
    subst u_121_e
    obtain ⟨u_223_a, u_223_c, u_223_e, u_223_l⟩ := qh28.shape
    subst u_223_e
    have qr29_len := qr29.1
    try simp only [List.length_set, List.length_append, List.length_cons, List.length_nil, List.length_take] at qr29_len
    refine seq_mem (M' := ((Ms_020 ++ (Ms_122 ++ (Ms_225 ++ (b1, Obj.cells #[.slice y1_a Y.cars.length y1_c, .slice y2_a Y.room.length y2_c, .slice y3_a Y.tracks.length y3_c] 26 (0, 0)) :: (Ms09 ++ (oM0_8 ++ F))))))) (fun w h => by simpa only [List.append_assoc, List.cons_append, List.nil_append] using h) ?_
    refine pm (M' := ((b1, Obj.cells #[.slice y1_a Y.cars.length y1_c, .slice y2_a Y.room.length y2_c, .slice y3_a Y.tracks.length y3_c] 26 (0, 0)) :: (Ms_020 ++ (Ms_122 ++ (Ms_225 ++ (Ms09 ++ (oM0_8 ++ F))))))) ((List.Perm.append_left _ ((List.Perm.append_left _ List.perm_middle).trans List.perm_middle)).trans List.perm_middle) ?_
    show Seq _ _ _ _ _ _ ((30, .agg #[.slice u_019_a Y.cars.length u_019_c, .slice u_121_a Y.room.length u_121_c, .slice u_223_a ws_224.length u_223_c]) :: _) _ _
    refine sS (sal 10 26 #[.slice none 0 0, .slice none 0 0, .slice none 0 0] (fun b33 => ?_))
    refine sS (ss 0 0 b33 [.slice u_019_a Y.cars.length u_019_c, .slice u_121_a Y.room.length u_121_c, .slice u_223_a ws_224.length u_223_c] [.slice u_019_a Y.cars.length u_019_c, .slice u_121_a Y.room.length u_121_c, .slice u_223_a ws_224.length u_223_c] (_ :: _ :: _) (cs := [_, _, _]) rfl rfl ?_)
    refine sn ?_
    refine sp 1 [(31, .pointer (some ⟨b33, 1, none⟩))] ?_
    refine sd (dlb 32 0 1 b33 (.slice u_121_a Y.room.length u_121_c)) ?_
    refine sp 1 [(33, .int .i64 (↑i))] ?_
    obtain ⟨ob35, orr36⟩ := qh27.row 0
    refine sd (di 34 1 (i) orr36.addr) ?_
    refine sS (stp_storeOwn (T := 3) (x := (.tmp 34)) (y := (.const (.int .i64 20))) (rc := fun i f => intCell ((Y.room).getD i 0) f) 0 (i) 0 (20) (ty := 0) (gd := none) (by kernel_rfl) rfl qh27 orr36 (by omega) (by decide) rfl rfl (by kernel_rfl) rfl rfl (by intro f hf; match f, hf with | 0, _ => rfl) ((List.Perm.cons _ ((List.Perm.cons _ (List.perm_append_comm_assoc _ _ _)).trans (List.perm_middle.symm))).trans (List.perm_middle.symm)) (fun Ms37 ho37 => ?_))
    refine pm (M' := ((b33, Obj.cells #[.slice u_019_a Y.cars.length u_019_c, .slice u_121_a Y.room.length u_121_c, .slice u_223_a ws_224.length u_223_c] 26 (0, 0)) :: (b1, Obj.cells #[.slice y1_a Y.cars.length y1_c, .slice y2_a Y.room.length y2_c, .slice y3_a Y.tracks.length y3_c] 26 (0, 0)) :: (Ms37 ++ (Ms_020 ++ (Ms_225 ++ (Ms09 ++ (oM0_8 ++ F))))))) (List.perm_middle.trans (List.Perm.cons _ List.perm_middle)) ?_
    refine se ?_
    refine rq ?_
    refine rn_freeze (B := ((b33, Obj.cells #[.slice u_019_a Y.cars.length u_019_c, .slice u_121_a Y.room.length u_121_c, .slice u_223_a ws_224.length u_223_c] 26 (0, 0)) :: (b1, Obj.cells #[.slice y1_a Y.cars.length y1_c, .slice y2_a Y.room.length y2_c, .slice y3_a Y.tracks.length y3_c] 26 (0, 0)) :: (Ms37 ++ (Ms_225 ++ (Ms09 ++ (oM0_8 ++ F)))))) noCar qh26 (by first | omega | (simp only [List.length_set, List.length_cons, List.length_nil, List.length_append, List.length_take, List.length_drop] <;> omega) | decide) ((List.Perm.cons _ ((List.Perm.cons _ (List.perm_append_comm_assoc _ _ _)).trans (List.perm_middle.symm))).trans (List.perm_middle.symm)) (List.Perm.refl _) (fun I38 hle39 fz40_f => ?_)
    replace y_f := y_f.mono hle39
    replace y1_f := y1_f.mono hle39
    replace y1_r := y1_r.mono hle39
    replace y2_f := y2_f.mono hle39
    replace y2_r := y2_r.mono hle39
    replace y3_f := y3_f.mono hle39
    replace y3_r := y3_r.mono hle39
    replace y3_w := fun i hi => (y3_w i hi).mono hle39
    replace a_f := a_f.mono hle39
    replace a_r := a_r.mono hle39
    replace hG := hG.mono hle39
    replace qr29 := qr29.mono hle39
    obtain ⟨fz40_a, fz40_c, fz40_b, fz40_o, fz40_e, fz40_l, fz40_m, fz40_r⟩ := id fz40_f
    cases fz40_e
    refine rn_freeze (B := ((b33, Obj.cells #[.slice u_019_a Y.cars.length u_019_c, .slice u_121_a Y.room.length u_121_c, .slice u_223_a ws_224.length u_223_c] 26 (0, 0)) :: (b1, Obj.cells #[.slice y1_a Y.cars.length y1_c, .slice y2_a Y.room.length y2_c, .slice y3_a Y.tracks.length y3_c] 26 (0, 0)) :: (Ms_225 ++ (Ms09 ++ (oM0_8 ++ F))))) 0 ho37 (by first | omega | (simp only [List.length_set, List.length_cons, List.length_nil, List.length_append, List.length_take, List.length_drop] <;> omega) | decide) ((List.Perm.cons _ (List.perm_middle.symm)).trans (List.perm_middle.symm)) (List.Perm.refl _) (fun I41 hle42 fz43_f => ?_)
    replace y_f := y_f.mono hle42
    replace y1_f := y1_f.mono hle42
    replace y1_r := y1_r.mono hle42
    replace y2_f := y2_f.mono hle42
    replace y2_r := y2_r.mono hle42
    replace y3_f := y3_f.mono hle42
    replace y3_r := y3_r.mono hle42
    replace y3_w := fun i hi => (y3_w i hi).mono hle42
    replace a_f := a_f.mono hle42
    replace a_r := a_r.mono hle42
    replace hG := hG.mono hle42
    replace qr29 := qr29.mono hle42
    replace fz40_f := fz40_f.mono hle42
    replace fz40_r := fz40_r.mono hle42
    obtain ⟨fz43_a, fz43_c, fz43_b, fz43_o, fz43_e, fz43_l, fz43_m, fz43_r⟩ := id fz43_f
    simp only [List.length_set] at fz43_e fz43_l fz43_m fz43_r
    first | cases fz43_e | (injection fz43_e with fz43_e1 fz43_e2 fz43_e3; subst fz43_e1; subst fz43_e3; try rw [← fz43_e2] at fz43_f)
    refine rn_freeze (B := ((b33, Obj.cells #[.slice u_019_a Y.cars.length u_019_c, .slice u_121_a Y.room.length u_121_c, .slice u_223_a ws_224.length u_223_c] 26 (0, 0)) :: (b1, Obj.cells #[.slice y1_a Y.cars.length y1_c, .slice y2_a Y.room.length y2_c, .slice y3_a Y.tracks.length y3_c] 26 (0, 0)) :: (Ms09 ++ (oM0_8 ++ F)))) undef qh28 (by first | omega | (simp only [List.length_set, List.length_cons, List.length_nil, List.length_append, List.length_take, List.length_drop] <;> omega) | decide) ((List.Perm.cons _ (List.perm_middle.symm)).trans (List.perm_middle.symm)) (List.Perm.refl _) (fun I44 hle45 fz46_f => ?_)
    replace y_f := y_f.mono hle45
    replace y1_f := y1_f.mono hle45
    replace y1_r := y1_r.mono hle45
    replace y2_f := y2_f.mono hle45
    replace y2_r := y2_r.mono hle45
    replace y3_f := y3_f.mono hle45
    replace y3_r := y3_r.mono hle45
    replace y3_w := fun i hi => (y3_w i hi).mono hle45
    replace a_f := a_f.mono hle45
    replace a_r := a_r.mono hle45
    replace hG := hG.mono hle45
    replace qr29 := qr29.mono hle45
    replace fz40_f := fz40_f.mono hle45
    replace fz40_r := fz40_r.mono hle45
    replace fz43_f := fz43_f.mono hle45
    replace fz43_r := fz43_r.mono hle45
    obtain ⟨fz46_a, fz46_c, fz46_b, fz46_o, fz46_e, fz46_l, fz46_m, fz46_r⟩ := id fz46_f
    cases fz46_e
    have fr47_f := qr29.isRows fz46_f
    have fr47_len := qr29.1
    obtain ⟨fr47_a, fr47_c, fr47_b, fr47_o, fr47_vs, fr47_e, fr47_l, fr47_m, fr47_r, fr47_w⟩ := id fr47_f
    injection fr47_e with fr47_e1 fr47_e2 fr47_e3; subst fr47_e1; subst fr47_e3
    refine rd 9 [(0, true), (1, true), (2, false), (3, false), (4, false), (5, true), (6, true), (7, true), (8, true)] ((b33, Obj.cells #[.slice u_019_a Y.cars.length u_019_c, .slice u_121_a Y.room.length u_121_c, .slice u_223_a ws_224.length u_223_c] 26 (0, 0)) :: (b1, Obj.cells #[.slice y1_a Y.cars.length y1_c, .slice y2_a Y.room.length y2_c, .slice y3_a Y.tracks.length y3_c] 26 (0, 0)) :: []) ((Ms09 ++ (oM0_8 ++ F))) ?_
    refine ofp_det (dnb 36 0 0 b33 [.slice u_019_a Y.cars.length u_019_c, .slice u_121_a Y.room.length u_121_c, .slice u_223_a ws_224.length u_223_c]) ?_
    refine ox 1 [(37, .slice a_a o.length a_c)] ?_
    have hct57 := ordered_ct I44 _ _ a_f
    refine ofp_stp (sc (some 38) (F := ((b33, Obj.cells #[.slice u_019_a Y.cars.length u_019_c, .slice u_121_a Y.room.length u_121_c, .slice u_223_a ws_224.length u_223_c] 26 (0, 0)) :: (b1, Obj.cells #[.slice y1_a Y.cars.length y1_c, .slice y2_a Y.room.length y2_c, .slice y3_a Y.tracks.length y3_c] 26 (0, 0)) :: (Ms09 ++ (oM0_8 ++ F)))) (hct57 :) (List.Perm.refl _) (fun rv55 I48 rm56 hle49 hp50 => ?_))
    obtain ⟨b53, hv51, hm52, qp54⟩ := hp50
    rw [hv51, hm52]; clear hv51 hm52
    replace y_f := y_f.mono hle49
    replace y1_f := y1_f.mono hle49
    replace y1_r := y1_r.mono hle49
    replace y2_f := y2_f.mono hle49
    replace y2_r := y2_r.mono hle49
    replace y3_f := y3_f.mono hle49
    replace y3_r := y3_r.mono hle49
    replace y3_w := fun i hi => (y3_w i hi).mono hle49
    replace a_f := a_f.mono hle49
    replace a_r := a_r.mono hle49
    replace hG := hG.mono hle49
    replace qr29 := qr29.mono hle49
    replace fz40_f := fz40_f.mono hle49
    replace fz40_r := fz40_r.mono hle49
    replace fz43_f := fz43_f.mono hle49
    replace fz43_r := fz43_r.mono hle49
    replace fz46_f := fz46_f.mono hle49
    replace fz46_r := fz46_r.mono hle49
    replace fr47_f := fr47_f.mono hle49
    replace fr47_r := fr47_r.mono hle49
    replace fr47_w := fun i hi => (fr47_w i hi).mono hle49
    refine ofp_settle (S' := ((Ms09 ++ (oM0_8 ++ F)))) (List.Perm.refl _) ?_
    show OFP _ _ _ _ _ _ ((38, .func (.func 76) #[] #[.pointer (some ⟨b53, 0, none⟩)]) :: _) _ _
    refine ofp_stpH (sbs 39 104 1 #[.func (.func 76) #[] #[.pointer (some ⟨b53, 0, none⟩)]] (fun b58 => ?_))
    refine hk_mem (M' := ((b33, Obj.cells #[.slice u_019_a Y.cars.length u_019_c, .slice u_121_a Y.room.length u_121_c, .slice u_223_a ws_224.length u_223_c] 26 (0, 0)) :: (b1, Obj.cells #[.slice y1_a Y.cars.length y1_c, .slice y2_a Y.room.length y2_c, .slice y3_a Y.tracks.length y3_c] 26 (0, 0)) :: ([(b58, Obj.cells #[.func (.func 76) #[] #[.pointer (some ⟨b53, 0, none⟩)]] 104 (0, 0))] ++ (Ms09 ++ (oM0_8 ++ F))))) (fun w h => h.perm ((List.Perm.swap _ _ _).trans (List.Perm.cons _ (List.Perm.swap _ _ _)))) ?_
    have ho60 : Own 104 1 valCell (.slice (some ⟨b58, 0, none⟩) 1 1) ([(.func (.func 76) #[] #[.pointer (some ⟨b53, 0, none⟩)] : Value)] : List Value) [(b58, Obj.cells #[.func (.func 76) #[] #[.pointer (some ⟨b53, 0, none⟩)]] 104 (0, 0))] := Own.lit rfl rfl
    refine hk_freeze (B := ((b33, Obj.cells #[.slice u_019_a Y.cars.length u_019_c, .slice u_121_a Y.room.length u_121_c, .slice u_223_a ws_224.length u_223_c] 26 (0, 0)) :: (b1, Obj.cells #[.slice y1_a Y.cars.length y1_c, .slice y2_a Y.room.length y2_c, .slice y3_a Y.tracks.length y3_c] 26 (0, 0)) :: (Ms09 ++ (oM0_8 ++ F)))) undef ho60 (by first | omega | (simp only [List.length_set, List.length_cons, List.length_nil, List.length_append, List.length_take, List.length_drop] <;> omega) | decide) ((List.Perm.cons _ (List.perm_middle.symm)).trans (List.perm_middle.symm)) (List.Perm.refl _) (fun I61 hle62 fz63_f => ?_)
    replace y_f := y_f.mono hle62
    replace y1_f := y1_f.mono hle62
    replace y1_r := y1_r.mono hle62
    replace y2_f := y2_f.mono hle62
    replace y2_r := y2_r.mono hle62
    replace y3_f := y3_f.mono hle62
    replace y3_r := y3_r.mono hle62
    replace y3_w := fun i hi => (y3_w i hi).mono hle62
    replace a_f := a_f.mono hle62
    replace a_r := a_r.mono hle62
    replace hG := hG.mono hle62
    replace qr29 := qr29.mono hle62
    replace fz40_f := fz40_f.mono hle62
    replace fz40_r := fz40_r.mono hle62
    replace fz43_f := fz43_f.mono hle62
    replace fz43_r := fz43_r.mono hle62
    replace fz46_f := fz46_f.mono hle62
    replace fz46_r := fz46_r.mono hle62
    replace fr47_f := fr47_f.mono hle62
    replace fr47_r := fr47_r.mono hle62
    replace fr47_w := fun i hi => (fr47_w i hi).mono hle62
    replace qp54 := hle62.blk _ _ qp54
    obtain ⟨fz63_a, fz63_c, fz63_b, fz63_o, fz63_e, fz63_l, fz63_m, fz63_r⟩ := id fz63_f
    cases fz63_e
    refine hk_done ?_
    refine ofp_settle (S' := ((Ms09 ++ (oM0_8 ++ F)))) (List.Perm.refl _) ?_
    have hct74 := fewest_ct I61 _ ((⟨Y.cars, Y.room.set (i) 20, Y.tracks⟩ : Yard)) _ _ ([orderedP o]) (mkYard fz40_f fz43_f fr47_f) fz63_f (by first | exact hG | exact hG.mono hI) (by exact goals_ordered (by assumption) (by assumption) (Kin.pos (wide_fine hfa i) (Kin.refl _))) (by exact (wide_fine hfa i).valid)
    refine ofp_stp (sc (some 40) (F := ((b33, Obj.cells #[.slice u_019_a Y.cars.length u_019_c, .slice u_121_a Y.room.length u_121_c, .slice u_223_a ws_224.length u_223_c] 26 (0, 0)) :: (b1, Obj.cells #[.slice y1_a Y.cars.length y1_c, .slice y2_a Y.room.length y2_c, .slice y3_a Y.tracks.length y3_c] 26 (0, 0)) :: (Ms09 ++ (oM0_8 ++ F)))) (hct74 :) (List.Perm.refl _) (fun rv72 I64 rm73 hle65 hp66 => ?_))
    obtain ⟨u069, Ms070, hv67, hm68, qh71⟩ := hp66
    rw [hv67, hm68]; clear hv67 hm68
    replace qp54 := hle65.blk _ _ qp54
    obtain ⟨u069_a, u069_c, u069_e, u069_l⟩ := qh71.shape
    subst u069_e
    refine ofp_settle (S' := ((Ms070 ++ (Ms09 ++ (oM0_8 ++ F))))) (List.perm_middle.trans (List.Perm.cons _ List.perm_middle)) ?_
    show OFP _ _ _ _ _ _ ((40, .tuple #[.slice u069_a ((fewestM (allP ([orderedP o])) ((⟨Y.cars, Y.room.set (i) 20, Y.tracks⟩ : Yard))).getD []).length u069_c, .int .i64 ((errOf (fewestM (allP ([orderedP o])) ((⟨Y.cars, Y.room.set (i) 20, Y.tracks⟩ : Yard)))))]) :: _) _ _
    refine ox 4 [(42, .int .i64 ((errOf (fewestM (allP ([orderedP o])) ((⟨Y.cars, Y.room.set (i) 20, Y.tracks⟩ : Yard))))))] ?_
    refine ofp_end ?_
    refine nm ?_
    refine nm ?_
    refine sp 1 [(12, .int .i64 ((errOf (fewestM (allP ([orderedP o])) ((⟨Y.cars, Y.room.set (i) 20, Y.tracks⟩ : Yard))))))] ?_
    refine sn ?_
    refine sp 2 [(44, .bool (cmp .eql ((errOf (fewestM (allP ([orderedP o])) ((⟨Y.cars, Y.room.set (i) 20, Y.tracks⟩ : Yard))))) (0)))] ?_
    refine se ?_
    refine rc 44 rfl (fun h3 => ?_) (fun h3 => ?_)
    ·
     have h3_r := h3
     have h3 := eql_t h3
     refine rr ?_
     refine sp 2 [(46, .int .i64 (↑i)), (45, .slice ov0_8_a out.length ov0_8_c)] ?_
     refine sS (sbs 47 3 1 #[.int .i64 (↑i)] (fun b75 => ?_))
     refine sS (stp_append (d := 48) (x := (.tmp 45)) (y := (.tmp 47)) (T := 22) (T' := 22) (E := 3) (E' := 3) (sz := 1) (bs := 8) (z := .int .i64 (0)) (cell := intCell) (xs := out) (ys := [(↑i : Int)]) (Ms := oM0_8) (ty := 22) (gd := none) (by kernel_rfl) rfl (by kernel_rfl) (by kernel_rfl) (by kernel_rfl) (by kernel_rfl) (by kernel_rfl) (by decide) (by kernel_rfl) rfl rfl (oh0_8) ((List.Perm.cons _ ((List.Perm.cons _ ((List.Perm.cons _ ((List.Perm.append_left _ (List.perm_append_comm_assoc _ _ _)).trans (List.perm_append_comm_assoc _ _ _))).trans (List.perm_middle.symm))).trans (List.perm_middle.symm))).trans (List.perm_middle.symm)) (one_intCell _) (src_atS 0 rfl rfl) (by first | omega | (have hln := lacks_le Y o 1; rw [hr] at hln; simp only [List.length_append, List.length_cons, List.length_nil] at hln ⊢; omega)) (fun v77 Ms77 ho77 => ?_))
     refine seq_mem (M' := ((b33, Obj.cells #[.slice u_019_a Y.cars.length u_019_c, .slice u_121_a Y.room.length u_121_c, .slice u_223_a ws_224.length u_223_c] 26 (0, 0)) :: (b1, Obj.cells #[.slice y1_a Y.cars.length y1_c, .slice y2_a Y.room.length y2_c, .slice y3_a Y.tracks.length y3_c] 26 (0, 0)) :: (Ms77 ++ (Ms070 ++ (Ms09 ++ F))))) (fun w h => (h.perm (List.perm_middle.trans (List.Perm.cons _ (List.perm_middle.trans (List.Perm.cons _ List.perm_middle))))).sub (List.Sublist.cons _ (List.Sublist.refl _))) ?_
     obtain ⟨oa77, oc77, oe77, ol77⟩ := ho77.shape
     subst oe77
     show Seq _ _ _ _ _ _ ((48, .slice oa77 (out ++ ([(↑i : Int)])).length oc77) :: _) _ _
     refine sp 1 [(8, .slice oa77 (out ++ ([(↑i : Int)])).length oc77)] ?_
     refine ee ?_
     refine pst_normal_block ?_
     refine pst_next ?_
     refine rr ?_
     refine sp 1 [(27, .int .i64 (↑i))] ?_
     refine sd (da 28 (↑i) (1)) ?_
     refine sp 1 [(9, .int .i64 (↑i + 1))] ?_
     refine ee ?_
     refine pst_back (Y.room.length - (i+1)) (by omega) ?_
     intro a w hS hD hW
     exact ⟨I64, i+1, out ++ [(i : Int)], .slice oa77 (out ++ ([(↑i : Int)])).length oc77, Ms77, (Imm.le.trans (Imm.le.trans (Imm.le.trans (Imm.le.trans (Imm.le.trans (Imm.le.trans (Imm.le.trans hJ0 hle15) hle39) hle42) hle45) hle49) hle62) hle65), by omega, by omega, hr.trans (by rw [lacks_yes (by omega) (errOf_is h3)]; simp), ho77, hS.sub (.consE 8 rfl rfl (.consE 9 rfl rfl (.cons 1 rfl (.cons 2 rfl (.cons 4 rfl (.cons 5 rfl (.nil _))))))), hD, (hW.perm (List.Perm.cons _ (((List.Perm.cons _ (List.perm_append_comm_assoc _ _ _)).trans (List.perm_middle.symm)).trans (List.Perm.append_left _ (List.Perm.cons _ (List.perm_append_comm_assoc _ _ _)))))).sub (List.Sublist.cons _ (List.Sublist.trans (List.Sublist.refl _) (List.sublist_append_right _ _))), rfl⟩
    ·
     have h3_r := h3
     have h3 := eql_f h3
     refine rskip ?_
     refine pst_normal_block ?_
     refine pst_next ?_
     refine rr ?_
     refine sp 1 [(27, .int .i64 (↑i))] ?_
     refine sd (da 28 (↑i) (1)) ?_
     refine sp 1 [(9, .int .i64 (↑i + 1))] ?_
     refine ee ?_
     refine pst_back (Y.room.length - (i+1)) (by omega) ?_
     intro a w hS hD hW
     exact ⟨I64, i+1, out, .slice ov0_8_a out.length ov0_8_c, oM0_8, (Imm.le.trans (Imm.le.trans (Imm.le.trans (Imm.le.trans (Imm.le.trans (Imm.le.trans (Imm.le.trans hJ0 hle15) hle39) hle42) hle45) hle49) hle62) hle65), by omega, by omega, hr.trans (by rw [lacks_no (by omega) (errOf_not h3)]), oh0_8, hS.sub (.consE 8 rfl rfl (.consE 9 rfl rfl (.cons 1 rfl (.cons 2 rfl (.cons 4 rfl (.cons 5 rfl (.nil _))))))), hD, (hW.perm (List.Perm.cons _ (List.perm_middle.symm))).sub (List.Sublist.cons _ (List.Sublist.trans (List.Sublist.refl _) (List.sublist_append_right _ _))), rfl⟩
   ·
    have h2_r := h2
    have h2 := lss_f h2
    refine rexit 0 ?_
    refine (pst_exit_pass (pst_exit_pass (pst_exit_block ?_)))
    refine pst_next ?_
    refine rq ?_
    refine rqr ?_
    have hout : lacksFrom Y o 1 = out := hr.trans (by rw [lacks_done (by omega), List.append_nil])
    refine sp 3 [(51, .bool (cmp .eql (↑(out.length)) (0)))] ?_
    refine se ?_
    refine rc 51 rfl (fun h4 => ?_) (fun h4 => ?_)
    ·
     have h4_r := h4
     have h4 := eql_t h4
     refine rqr ?_
     refine sp 2 [(5, .int .i64 (11)), (4, .slice none 0 0)] ?_
     refine se ?_
     refine rret ?_
     refine (pst_ret_pass ?_)
     have hlk := lacksE_none h11 (by rw [hout]; omega)
     refine pst_ret2 (t := 4) (u := 5) ([]) (by kernel_rfl) rfl rfl (List.Sublist.cons _ (List.Sublist.trans (List.Sublist.trans (List.Sublist.refl _) (List.sublist_append_right _ _)) (List.sublist_append_right _ _))) (Imm.le.trans hle4 hJ0) ?_
     exact ⟨_, _, (congrArg (fun n => Value.tuple #[_, .int .i64 n]) (show (11 : Int) = (lacksE Y o).2 from by rw [hlk])), rfl, ((show [] = (lacksE Y o).1 from by rw [hlk]) ▸ Own.nil _ _ _)⟩
    ·
     have h4_r := h4
     have h4 := eql_f h4
     refine rskip ?_
     refine pst_next ?_
     refine rqr ?_
     refine sp 3 [(5, .int .i64 (0)), (4, .slice ov0_8_a out.length ov0_8_c)] ?_
     refine se ?_
     refine rret ?_
     have hlk := (lacksE_some h11 (by rw [hout]; omega)).trans (by rw [hout])
     refine ppm (M' := ((oM0_8 ++ (b1, Obj.cells #[.slice y1_a Y.cars.length y1_c, .slice y2_a Y.room.length y2_c, .slice y3_a Y.tracks.length y3_c] 26 (0, 0)) :: (Ms09 ++ F)))) ((List.Perm.cons _ (List.perm_append_comm_assoc _ _ _)).trans (List.perm_middle.symm)) ?_
     refine pst_ret2 (t := 4) (u := 5) (oM0_8) (by kernel_rfl) rfl rfl (List.Sublist.append_left (List.Sublist.cons _ (List.Sublist.trans (List.Sublist.refl _) (List.sublist_append_right _ _))) _) (Imm.le.trans hle4 hJ0) ?_
     exact ⟨_, _, (congrArg (fun n => Value.tuple #[_, .int .i64 n]) (show (0 : Int) = (lacksE Y o).2 from by rw [hlk])), rfl, ((show out = (lacksE Y o).1 from by rw [hlk]) ▸ oh0_8)⟩

end Go.Proofs.YtcaocbhbofejnaaDoor
namespace Go.Sl
open Go
section
variable {P : Program} {N : Nat} {ops : Array Oper} {i : Nat} {l : Sl} {I : Imm} {R M : Seg} {ty : TypeId} {gd : Option (Nat × Bool)} {K : Sl → Imm → Seg → Prop} {d : Nat}
variable {κ : Type} [DecidableEq κ] {enc : κ → Value}

theorem stp_builtin {b : Builtin} {args : Array Operand} {tys : Array TypeId} {vals : List Value} {dst : Option Tmp}
    (hop : opAt ops N i = some (dst, .call { callee := .builtin b, args, argTypes := tys }, ty, gd)) (hg : gval ops l gd = some true) (hk : ∀ x ∈ args, known l x) (hvals : args.toList.map (rho l) = vals)
    (h : ∀ (cs : Array Bool), wpL P (builtin b tys ty cs vals.toArray) (fun n M' => ∃ v, (n = .value v ∨ (n = .skip ∧ v = undef)) ∧ K (ups dst v l) I M') I M) : Stp P N ops i l I M K :=
  stp_of_wpL hop hg (by simpa [Op.operands, Call.operands] using hk) (by
    have e : args.map (rho l) = vals.toArray := by
      apply Array.ext'
      simp [hvals]
    show wpL P (do let d ← resolve (rho l) { callee := .builtin b, args, argTypes := tys } ty; invoke d.target d.args) _ I M
    unfold resolve
    simp only [e]
    exact h _)

theorem stp_delete {x y : Operand} {T T' kt et r cl : Nat} {es : Array MapEntry} {kvs : List (κ × Value)} {k : κ} (n : Nat) (hop : opAt ops N i = some (none, .call { callee := .builtin .delete, args := #[x, y], argTypes := #[T, T'] }, ty, gd)) (hg : gval ops l gd = some true)
    (hT : tyMap P T = some (kt, et)) (hK : KeyOk P kt enc) (hx : oval l x = some (.map (some r))) (hy : oval l y = some (enc k)) (hn : M[n]? = some (r, Obj.map es cl)) (his : MapIs enc es kvs)
    (h : ∀ es' cl', MapIs enc es' (del k kvs) → K l I (M.set n (r, Obj.map es' cl'))) : Stp P N ops i l I M K := by
  refine stp_builtin (vals := [.map (some r), enc k]) hop hg (known2 hx hy) (by simp [rho_of hx, rho_of hy]) fun cs => ?_
  show wpL P (Builtin.delete_ #[T, T'] ty #[.map (some r), enc k] >>= fun x => pure (Next.value x)) _ I M
  refine wpL_val ?_
  unfold Builtin.delete_
  show wpL P (underlying T >>= _) _ I M
  rw [wpL_bind, wpL_underlying (tyMap_spec hT)]
  show wpL P (Sem.getObj r _) _ I M
  refine ⟨_, .inl (List.mem_of_getElem? hn), rfl, ?_⟩
  show wpL P (Instr.checkKey _ _ _ _ >>= _) _ I _
  rw [wpL_bind]
  refine hK.check _ _ _ _ _ ?_
  rw [wpL_bind]
  refine hK.find k es.toList kvs _ _ _ his ?_
  have hf := findKv_upd k undef kvs 0
  cases hkv : findKv k kvs 0 with
  | none =>
    rw [hkv] at hf
    simp only at hf
    show wpL P (Sem.setObj r _ _) _ I M
    refine wpL_setObj n rfl hn rfl ?_
    exact ⟨_, .inl rfl, h _ _ (by rw [hf.2]; exact his)⟩
  | some p =>
    obtain ⟨j, w⟩ := p
    rw [hkv] at hf
    simp only [Nat.sub_zero] at hf
    show wpL P (Sem.setObj r _ _) _ I M
    refine wpL_setObj n rfl hn rfl ?_
    refine ⟨_, .inl rfl, h _ _ ?_⟩
    rw [hf.2.2.1]
    exact mapIs_erase his j

theorem stp_appendN {x y : Operand} {T T' E bs n : Nat} {z : Value} (hop : opAt ops N i = some (some d, .call { callee := .builtin .append, args := #[x, y], argTypes := #[T, T'] }, ty, gd)) (hg : gval ops l gd = some true)
    (hT : tyElem P T = some E) (hsz : tySize P E = some 1) (hz : tyZero P E = some z) (hzc : z.cells.size = 1) (hb : tyBytes P E = some bs) (hbs : 1 ≤ bs ∧ bs ≤ 256) (hT' : tyI64 P T' = true)
    (hx : oval l x = some (.slice none 0 0)) (hy : oval l y = some (.int .i64 (n : Int))) (hn : 0 < n ∧ n ≤ 1000000)
    (next : ∀ b nc zs, n ≤ nc → zs.length = nc → K ((d, .slice (some ⟨b, 0, none⟩) n nc) :: l) I ((b, Obj.cells (List.toArray zs) E (0, 0)) :: M)) : Stp P N ops i l I M K := by
  refine stp_builtin (vals := [.slice none 0 0, .int .i64 n]) hop hg (known2 hx hy) (by simp [rho_of hx, rho_of hy]) fun cs => ?_
  have hinfo : ∃ inf, P.info? E = some inf ∧ inf.bytes = bs := by
    unfold tyBytes at hb
    cases hi : P.info? E with
    | none => rw [hi] at hb; cases hb
    | some inf => rw [hi] at hb; exact ⟨inf, rfl, by simpa using hb⟩
  obtain ⟨inf, hinf, hbytes⟩ := hinfo
  show wpL P (Builtin.append_ #[T, T'] ty #[.slice none 0 0, .int .i64 n] >>= fun x => pure (Next.value x)) _ I M
  refine wpL_val ?_
  unfold Builtin.append_
  simp only [List.getElem?_toArray, List.getElem?_cons_zero, List.getElem?_cons_succ, wpL_bind, wpL_underlying (tyElem_spec hT), wpL_sizeOf hsz, wpL_underlying (tyI64_spec hT'), wpL_pure]
  simp only [if_true, asInt]
  rw [wpL_bind]
  have hw : IntKind.i64.wrap (n : Int) = (n : Int) := wrap64_id ⟨by omega, by omega⟩
  show wpL P (pure (n : Int)) _ I M
  rw [wpL_pure]
  simp only [hw]
  rw [if_neg (show ¬ (n : Int) < 0 by omega)]
  rw [wpL_bind, wpL_typeInfo hinf]
  have hbig : ¬ ((n : Int) * (inf.bytes : Int) > 2 ^ 48) := by
    have h1 : n * inf.bytes ≤ 1000000 * 256 := Nat.mul_le_mul hn.2 (by omega)
    have h2 : ((n * inf.bytes : Nat) : Int) ≤ ((1000000 * 256 : Nat) : Int) := Int.ofNat_le.2 h1
    rw [Int.natCast_mul] at h2
    omega
  rw [if_neg hbig]
  rw [wpL_bind, wpL_pure]
  simp only [Int.toNat_natCast, Nat.zero_add, Bool.not_true, Bool.false_eq_true, if_false]
  rw [if_neg (show ¬ n ≤ 0 by omega)]
  simp only [true_or, and_true]
  rw [if_neg (show ¬ ((n : Int) > IntKind.i64.max) by have : IntKind.i64.max = 9223372036854775807 := rfl
                                                      omega)]
  rw [wpL_bind, wpL_typeInfo hinf]
  rw [wpL_bind, wpL_typeInfo hinf, if_neg (show ¬ (Builtin.nextslicecap n 0 * inf.bytes > 2 ^ 48) from fun h => by
    have h1 : Builtin.nextslicecap n 0 ≤ 2 * n + 1000 := nextslicecap_le (by omega)
    have h2 : Builtin.nextslicecap n 0 * inf.bytes ≤ (2 * n + 1000) * 256 := Nat.mul_le_mul h1 (by omega)
    omega)]
  rw [wpL_bind]
  show (if (Question.appendCap n 0 E).forced then _ else ∀ t, _)
  rw [if_neg (by simp [Question.forced])]
  intro t
  show wpL P (typeInfo E >>= _) _ I _
  rw [wpL_bind, wpL_typeInfo hinf, wpL_bind]
  have hask : ∀ (n : Nat) (Q : Unit → Seg → Prop), Q () M → wpL P (askRoom n) Q I M := fun n Q hq => by
    unfold askRoom
    split <;> exact hq
  refine hask _ _ ?_
  rw [wpL_bind]
  show wpL P (_ >>= _) _ I M
  rw [wpL_bind]
  rw [if_neg (show ¬ n * 1 = 0 by omega)]
  rw [wpL_bind, wpL_zeroValue hz, wpL_pure, wpL_bind, wpL_zeroValue hz, wpL_bind]
  intro b
  have hcap : n ≤ Question.cut (.appendCap n 0 E) t := by simp [Question.cut]
  generalize Question.cut (.appendCap n 0 E) t = nc at hcap
  refine ⟨_, .inl rfl, ?_⟩
  have := next b nc ((#[] : Array Value) ++ Builtin.zeroCells z.cells n ++ Builtin.zeroCells z.cells (nc - n)).toList hcap (by
    simp only [Array.length_toList, Array.size_append, zeroCells_length, hzc, List.size_toArray, List.length_nil]; omega)
  rw [Array.toArray_toList] at this
  exact this
end

theorem Own.empty {E : TypeId} {b nc : Nat} {zs : List Value} (h : zs.length = nc) : Own E 1 intCell (.slice (some ⟨b, 0, none⟩) 0 nc) ([] : List Int) [(b, Obj.cells zs.toArray E (0, 0))] :=
  .inr ⟨b, nc, zs, rfl, Nat.zero_le _, rfl, by simpa [encL] using h⟩
end Go.Sl
namespace Go.Sh
open Go Go.Sl

def goCold (cs : List Car) : Bool → List Int → List Int
  | _, [] => []
  | p, c :: r => if (carAt cs c).heat && !p then c :: goCold cs (p && (carAt cs c).pipe) r else goCold cs (p && (carAt cs c).pipe) r
def coldOf (cs : List Car) (t : List Int) : List Int := goCold cs true t
theorem goCold_yes {cs : List Car} {t : List Int} {k : Nat} {p : Bool} (hk : k < t.length) (h : ((carAt cs (t.getD k 0)).heat && !p) = true) :
    goCold cs p (t.drop k) = t.getD k 0 :: goCold cs (p && (carAt cs (t.getD k 0)).pipe) (t.drop (k + 1)) := by
  rw [drop_cons (d := 0) hk]; simp only [goCold]; rw [if_pos h]
theorem goCold_no {cs : List Car} {t : List Int} {k : Nat} {p : Bool} (hk : k < t.length) (h : ((carAt cs (t.getD k 0)).heat && !p) = false) :
    goCold cs p (t.drop k) = goCold cs (p && (carAt cs (t.getD k 0)).pipe) (t.drop (k + 1)) := by
  rw [drop_cons (d := 0) hk]; simp only [goCold]; rw [if_neg (by rw [h]; simp)]
theorem goCold_done {cs : List Car} {t : List Int} {k : Nat} {p : Bool} (hk : t.length ≤ k) : goCold cs p (t.drop k) = [] := by rw [drop_done hk]; rfl
theorem goCold_le (cs : List Car) : ∀ (t : List Int) (p : Bool), (goCold cs p t).length ≤ t.length := by
  intro t
  induction t with
  | nil => intro p; simp [goCold]
  | cons c r ih => intro p; simp only [goCold]; split <;> simp only [List.length_cons] <;> have := ih (p && (carAt cs c).pipe) <;> omega
theorem coldOf_le (cs : List Car) (t : List Int) : (coldOf cs t).length ≤ t.length := goCold_le cs t true
def cmpI (a b : Int) : Int := if a < b then -1 else if b < a then 1 else 0
def cmpL : List Int → List Int → Int
  | [], [] => 0
  | [], _ :: _ => -1
  | _ :: _, [] => 1
  | a :: ar, b :: br => if cmpI a b = 0 then cmpL ar br else cmpI a b
section
variable {xs ys : List Int} {k : Nat}
theorem cmpL_more (h1 : k < xs.length) (h2 : ys.length ≤ k) : cmpL (xs.drop k) (ys.drop k) = 1 := by
  rw [drop_cons (d := 0) h1, drop_done h2]; rfl
theorem cmpL_diff (h1 : k < xs.length) (h2 : k < ys.length) (h : cmpI (xs.getD k 0) (ys.getD k 0) ≠ 0) : cmpL (xs.drop k) (ys.drop k) = cmpI (xs.getD k 0) (ys.getD k 0) := by
  rw [drop_cons (d := 0) h1, drop_cons (d := 0) h2]; simp only [cmpL]; rw [if_neg h]
theorem cmpL_next (h1 : k < xs.length) (h2 : k < ys.length) (h : cmpI (xs.getD k 0) (ys.getD k 0) = 0) : cmpL (xs.drop k) (ys.drop k) = cmpL (xs.drop (k + 1)) (ys.drop (k + 1)) := by
  rw [drop_cons (d := 0) h1, drop_cons (d := 0) h2]; simp only [cmpL]; rw [if_pos h]
theorem cmpL_less (h1 : xs.length ≤ k) (h2 : k < ys.length) : cmpL (xs.drop k) (ys.drop k) = -1 := by
  rw [drop_done h1, drop_cons (d := 0) h2]; rfl
theorem cmpL_same (h1 : xs.length ≤ k) (h2 : ys.length ≤ k) : cmpL (xs.drop k) (ys.drop k) = 0 := by
  rw [drop_done h1, drop_done h2]; rfl
end
def minF (f : List Int → List Int → Int) : List (List Int) → List Int → List Int
  | [], m => m
  | x :: r, m => minF f r (if f x m < 0 then x else m)
theorem minF_take {f : List Int → List Int → Int} {l : List (List Int)} {k : Nat} {m : List Int} (hk : k < l.length) (h : f (l.getD k []) m < 0) : minF f (l.drop k) m = minF f (l.drop (k + 1)) (l.getD k []) := by
  rw [drop_cons (d := []) hk]; simp only [minF]; rw [if_pos h]
theorem minF_leave {f : List Int → List Int → Int} {l : List (List Int)} {k : Nat} {m : List Int} (hk : k < l.length) (h : ¬ f (l.getD k []) m < 0) : minF f (l.drop k) m = minF f (l.drop (k + 1)) m := by
  rw [drop_cons (d := []) hk]; simp only [minF]; rw [if_neg h]
theorem minF_done {f : List Int → List Int → Int} {l : List (List Int)} {k : Nat} {m : List Int} (hk : l.length ≤ k) : minF f (l.drop k) m = m := by rw [drop_done hk]; rfl
def warmCmp (cs : List Car) (a b : List Int) : Int := if ((coldOf cs a).length : Int) - (coldOf cs b).length = 0 then cmpL a b else ((coldOf cs a).length : Int) - (coldOf cs b).length

theorem flat_take {xss : List (List Int)} {k : Nat} (h : k < xss.length) : (xss.take (k + 1)).flatten = (xss.take k).flatten ++ xss.getD k [] := by
  rw [take_snoc (d := []) h]; simp
theorem flat_succ {xss : List (List Int)} {k : Nat} (h : k < xss.length) : (((xss.take (k + 1)).flatten.length : Nat) : Int) = ↑(xss.take k).flatten.length + ↑(xss.getD k []).length := by
  rw [flat_take h, List.length_append]; omega
theorem flat_le (xss : List (List Int)) (k : Nat) (h : k < xss.length) : (xss.take k).flatten.length + (xss.getD k []).length ≤ xss.flatten.length := by
  rw [← List.length_append, ← flat_take h]
  have : xss.flatten = (xss.take (k + 1)).flatten ++ (xss.drop (k + 1)).flatten := by rw [← List.flatten_append, List.take_append_drop]
  rw [this, List.length_append]; omega
def stepB (cs : List Car) (t : List Int) (k : Nat) (acc : List (List Int)) : List (List Int) :=
  if coupled cs t ↑k then acc.set (acc.length - 1) (acc.getD (acc.length - 1) [] ++ [t.getD k 0]) else acc ++ [[t.getD k 0]]
def blocksTo (cs : List Car) (t : List Int) : Nat → List (List Int)
  | 0 => []
  | k + 1 => stepB cs t k (blocksTo cs t k)
def blocksOf (cs : List Car) (t : List Int) : List (List Int) := blocksTo cs t t.length
theorem coupled_pos {cs : List Car} {t : List Int} {k : Nat} (h : coupled cs t ↑k = true) : 1 ≤ k := by
  unfold coupled at h
  simp only [Bool.and_eq_true] at h
  have := inB_t h.1.1
  omega
theorem blocksTo_len (cs : List Car) (t : List Int) : ∀ k, (blocksTo cs t k).length ≤ k ∧ (0 < k → 0 < (blocksTo cs t k).length) ∧ ∀ b ∈ blocksTo cs t k, b.length ≤ k := by
  intro k
  induction k with
  | zero => exact ⟨Nat.le_refl _, fun h => by omega, fun b h => by simp [blocksTo] at h⟩
  | succ k ih =>
    obtain ⟨h1, h2, h3⟩ := ih
    simp only [blocksTo, stepB]
    split
    · rename_i hc
      have hk := coupled_pos hc
      refine ⟨by rw [List.length_set]; omega, fun _ => by rw [List.length_set]; exact h2 (by omega), fun b hb => ?_⟩
      rcases List.mem_or_eq_of_mem_set hb with hb | e
      · have := h3 b hb; omega
      · subst e
        have hm : (blocksTo cs t k).getD ((blocksTo cs t k).length - 1) [] ∈ blocksTo cs t k := getD_mem (by have := h2 (by omega); omega)
        have := h3 _ hm
        simp only [List.length_append, List.length_cons, List.length_nil]; omega
    · refine ⟨by simp; omega, fun _ => by simp, fun b hb => ?_⟩
      rcases List.mem_append.1 hb with hb | hb
      · have := h3 b hb; omega
      · simp at hb; subst hb; simp
theorem blocksTo_yes {cs : List Car} {t : List Int} {k : Nat} (h : coupled cs t ↑k = true) : blocksTo cs t (k + 1) = (blocksTo cs t k).set ((blocksTo cs t k).length - 1) ((blocksTo cs t k).getD ((blocksTo cs t k).length - 1) [] ++ [t.getD k 0]) := by
  simp only [blocksTo, stepB]; rw [if_pos h]
theorem blocksTo_no {cs : List Car} {t : List Int} {k : Nat} (h : coupled cs t ↑k = false) : blocksTo cs t (k + 1) = blocksTo cs t k ++ [[t.getD k 0]] := by
  simp only [blocksTo, stepB]; rw [if_neg (by rw [h]; simp)]

def growFrom (bl : List (List Int)) (rec : List Int → List Int → List (List Int)) (begun us : List Int) (k : Nat) : List (List Int) :=
  (List.range' k (bl.length - k)).flatMap fun i : Nat => if (i : Int) ∈ us then [] else rec (begun ++ bl.getD i []) (us ++ [(i : Int)])
def growM (bl : List (List Int)) : Nat → List Int → List Int → List (List Int)
  | 0, begun, _ => [begun]
  | n + 1, begun, us => growFrom bl (growM bl n) begun us 0
section
variable {bl : List (List Int)} {rec : List Int → List Int → List (List Int)} {begun us : List Int} {k : Nat}
theorem growFrom_skip (hk : k < bl.length) (h : (k : Int) ∈ us) : growFrom bl rec begun us k = growFrom bl rec begun us (k + 1) := by
  unfold growFrom; rw [range_cons hk]; simp [h]
theorem growFrom_go (hk : k < bl.length) (h : ¬ (k : Int) ∈ us) : growFrom bl rec begun us k = rec (begun ++ bl.getD k []) (us ++ [(k : Int)]) ++ growFrom bl rec begun us (k + 1) := by
  unfold growFrom; rw [range_cons hk]; simp [h]
theorem growFrom_done (hk : bl.length ≤ k) : growFrom bl rec begun us k = [] := by
  unfold growFrom; rw [show bl.length - k = 0 by omega]; rfl
end
theorem erase_snoc {us : List Int} {x : Int} (h : ¬ x ∈ us) : (us ++ [x]).erase x = us := by
  rw [List.erase_append_right _ h]; simp
def warmE (Y : Yard) : List Int × Int × Int :=
  if checkErr Y = 0 then
    (let os := growM (blocksOf Y.cars (trk Y 0)) (blocksOf Y.cars (trk Y 0)).length [] []
     let m := minF (warmCmp Y.cars) (os.drop 1) (os.getD 0 [])
     (m, ((coldOf Y.cars m).length : Int), 0))
  else ([], 0, checkErr Y)
end Go.Sh
namespace Go.Proofs.YtcaocbhbofejnaaDoor
open Go Go.Sl Go.Sh
set_option maxRecDepth 100000
noncomputable def c_cold (p : List Nat) : Code := sub (bodyOf Tryd.f39) p
theorem cold_ct (I : Imm) (y : Value) (Y : Yard) (a : Value) (t : List Int) (y_f : IsYard I y Y) (a_f : IsInts I a t) (ho : Ok Y.cars t) (hl : t.length ≤ 1000000) : Ct Tryd.prog 39 #[y, a] I ([]) (fun v I' M' => ∃ u : Value, ∃ Ms : Seg, v = u ∧ M' = Ms ∧ Own 3 1 intCell u (coldOf Y.cars t) Ms) := by
 obtain ⟨y1, y2, y3, y_e, y1_f, y2_f, y3_f⟩ := id y_f
 subst y_e
 obtain ⟨y1_a, y1_c, y1_b, y1_o, y1_e, y1_l, y1_m, y1_r⟩ := id y1_f
 subst y1_e
 obtain ⟨y2_a, y2_c, y2_b, y2_o, y2_e, y2_l, y2_m, y2_r⟩ := id y2_f
 subst y2_e
 obtain ⟨y3_a, y3_c, y3_b, y3_o, y3_vs, y3_e, y3_l, y3_m, y3_r, y3_w⟩ := id y3_f
 subst y3_e
 obtain ⟨a_a, a_c, a_b, a_o, a_e, a_l, a_m, a_r⟩ := id a_f
 subst a_e
 refine fn_of_run (fn := Tryd.f39) (args := [_, _]) (N := 40) Tryd.func39 rfl (by kernel_rfl) (Nat.le_of_ble_eq_true rfl) (fun F => ?_)
 show Run _ _ (c_cold []) _ _ [(0, .agg #[.slice y1_a Y.cars.length y1_c, .slice y2_a Y.room.length y2_c, .slice y3_a Y.tracks.length y3_c]), (1, .slice a_a t.length a_c)] _ _
 refine rnm ?_
 refine rqr ?_
 refine sS (sb 2 26 #[.slice y1_a Y.cars.length y1_c, .slice y2_a Y.room.length y2_c, .slice y3_a Y.tracks.length y3_c] (fun b1 => ?_))
 refine sp 1 [(4, .slice none 0 0)] ?_
 refine sn ?_
 refine sp 1 [(5, .slice none 0 0)] ?_
 refine sn ?_
 refine sp 1 [(6, .bool (true))] ?_
 refine se ?_
 refine rq ?_
 refine rqr ?_
 refine sp 3 [(11, .int .i64 (0)), (10, .int .i64 (↑(t.length))), (9, .slice a_a t.length a_c)] ?_
 refine se ?_
 refine rb 0 ?_
 refine rl (fun mz a w => ∃ J0 : Imm, ∃ k : Nat, ∃ out : List Int, ∃ piped : Bool, ∃ ov0_5 : Value, ∃ oM0_5 : Seg, (I.le J0) ∧ (k ≤ t.length) ∧ (coldOf Y.cars t = out ++ goCold Y.cars piped (t.drop k)) ∧ (out.length ≤ k) ∧ (Own 3 1 intCell ov0_5 (out) oM0_5) ∧ Slots 40 [(5, ov0_5), (6, .bool (piped)), (11, .int .i64 ↑k), (2, .pointer (some ⟨b1, 0, none⟩)), (4, .slice none 0 0), (9, .slice a_a t.length a_c), (10, .int .i64 (↑(t.length)))] a ∧ a.defers = [] ∧ St J0 ((b1, Obj.cells #[.slice y1_a Y.cars.length y1_c, .slice y2_a Y.room.length y2_c, .slice y3_a Y.tracks.length y3_c] 26 (0, 0)) :: (oM0_5 ++ F)) w ∧ mz = t.length - k) ?_ ?_
 ·intro a w hS hD hW
  exact ⟨_, I, 0, [], true, (.slice none 0 0), [], Imm.le.refl _, Nat.zero_le _, rfl, Nat.le_refl _, (Own.nil _ _ _), hS.sub (.cons 5 rfl (.cons 6 rfl (.cons 11 rfl (.cons 2 rfl (.cons 4 rfl (.cons 9 rfl (.cons 10 rfl (.nil _)))))))), hD, hW, rfl⟩
 ·rintro mz a w ⟨J0, k, out, piped, ov0_5, oM0_5, hJ0, hk, hr, hol, oh0_5, hS, hD, hW, rfl⟩
  refine run_at hS hD hW ?_
  clear hS hD hW a w
  replace y1_r := y1_r.mono hJ0
  replace a_r := a_r.mono hJ0
  obtain ⟨ov0_5_a, ov0_5_c, ov0_5_e, ov0_5_l⟩ := oh0_5.shape; subst ov0_5_e
  refine rqr ?_
  refine sp 1 [(12, .bool (cmp .lss (↑k) (↑(t.length))))] ?_
  refine se ?_
  refine rq ?_
  refine rc 12 rfl (fun h1 => ?_) (fun h1 => ?_)
  ·
   have h1_r := h1
   have h1 := lss_t h1
   refine rskip ?_
   refine pst_next ?_
   refine rq ?_
   refine rb 1 ?_
   refine rqr ?_
   refine sd (di 13 1 (k) a_r.addr) ?_
   refine sd (dl 14 (ints_get a_r (k) (by omega))) ?_
   refine sp 1 [(8, .int .i64 (t.getD (k) 0))] ?_
   refine se ?_
   refine rq ?_
   refine rq ?_
   refine run_cut (fun a w => Slots 40 [(2, .pointer (some ⟨b1, 0, none⟩)), (4, .slice none 0 0), (5, .slice ov0_5_a out.length ov0_5_c), (6, .bool (piped)), (8, .int .i64 (t.getD (k) 0)), (9, .slice a_a t.length a_c), (10, .int .i64 (↑(t.length))), (11, .int .i64 (↑k)), (24, .bool (((Y.cars.getD ((t.getD (k) 0 : Int).toNat) noCar).heat) && (!(piped))))] a ∧ a.defers = [] ∧ St J0 ((b1, Obj.cells #[.slice y1_a Y.cars.length y1_c, .slice y2_a Y.room.length y2_c, .slice y3_a Y.tracks.length y3_c] 26 (0, 0)) :: (oM0_5 ++ F)) w) ?_ ?_
   ·
    refine rr ?_
    have hc := ho.at k (by omega)
    refine sp 1 [(15, .pointer (some ⟨b1, 0, none⟩))] ?_
    refine sd (dlb 16 0 0 b1 (.slice y1_a Y.cars.length y1_c)) ?_
    refine sp 1 [(17, .int .i64 (t.getD (k) 0))] ?_
    refine sd (diI 18 6 (t.getD (k) 0) y1_r.addr) ?_
    refine sp 1 [(19, .pointer (some ⟨y1_b, y1_o + ((t.getD (k) 0 : Int).toNat) * 6 + 5, none⟩))] ?_
    refine sd (dl 20 (cars_get y1_r ((t.getD (k) 0 : Int).toNat) (by omega) 5 (by decide) (v := .bool ((Y.cars.getD ((t.getD (k) 0 : Int).toNat) noCar).heat)) rfl)) ?_
    refine sp 1 [(21, .bool ((Y.cars.getD ((t.getD (k) 0 : Int).toNat) noCar).heat))] ?_
    refine seq_split 21 rfl (fun h2 => ?_) (fun h2 => ?_)
    ·
     have h2_b := h2
     refine sp 3 [(24, .bool (!(piped)))] ?_
     refine ee ?_
     refine pst_meet (fun a w hS hD hW => ⟨hS.sub (.cons 2 rfl (.cons 4 rfl (.cons 5 rfl (.cons 6 rfl (.cons 8 rfl (.cons 9 rfl (.cons 10 rfl (.cons 11 rfl (.consE 24 rfl (congrArg Value.bool (by simp only [h2, Bool.true_and, Bool.false_and, Bool.and_true, Bool.and_false, Bool.true_or, Bool.false_or, Bool.or_true, Bool.or_false, cond_true, cond_false])) (.nil _)))))))))), hD, hW⟩)
    ·
     have h2_b := h2
     refine sp 3 [(24, .bool (false))] ?_
     refine ee ?_
     refine pst_meet (fun a w hS hD hW => ⟨hS.sub (.cons 2 rfl (.cons 4 rfl (.cons 5 rfl (.cons 6 rfl (.cons 8 rfl (.cons 9 rfl (.cons 10 rfl (.cons 11 rfl (.consE 24 rfl (congrArg Value.bool (by simp only [h2, Bool.true_and, Bool.false_and, Bool.and_true, Bool.and_false, Bool.true_or, Bool.false_or, Bool.or_true, Bool.or_false, cond_true, cond_false])) (.nil _)))))))))), hD, hW⟩)
   ·rintro a w ⟨hS, hD, hW⟩
    refine run_at hS hD hW ?_
    clear hS hD hW a w
    refine rc 24 rfl (fun h3 => ?_) (fun h3 => ?_)
    ·
     have h3_r := h3
     obtain ⟨h3_1, h3_2⟩ := and_t h3
     have h3_2 := not_t h3_2
     refine rr ?_
     refine sp 2 [(26, .int .i64 (t.getD (k) 0)), (25, .slice ov0_5_a out.length ov0_5_c)] ?_
     refine sS (sbs 27 3 1 #[.int .i64 (t.getD (k) 0)] (fun b3 => ?_))
     refine sS (stp_append (d := 28) (x := (.tmp 25)) (y := (.tmp 27)) (T := 22) (T' := 22) (E := 3) (E' := 3) (sz := 1) (bs := 8) (z := .int .i64 (0)) (cell := intCell) (xs := out) (ys := [(t.getD (k) 0 : Int)]) (Ms := oM0_5) (ty := 22) (gd := none) (by kernel_rfl) rfl (by kernel_rfl) (by kernel_rfl) (by kernel_rfl) (by kernel_rfl) (by kernel_rfl) (by decide) (by kernel_rfl) rfl rfl (oh0_5) ((List.Perm.cons _ (List.perm_middle.symm)).trans (List.perm_middle.symm)) (one_intCell _) (src_atS 0 rfl rfl) (by first | omega | (simp only [List.length_cons, List.length_nil, List.length_append, List.length_take, List.length_drop]; omega)) (fun v5 Ms5 ho5 => ?_))
     refine seq_mem (M' := ((b1, Obj.cells #[.slice y1_a Y.cars.length y1_c, .slice y2_a Y.room.length y2_c, .slice y3_a Y.tracks.length y3_c] 26 (0, 0)) :: (Ms5 ++ F))) (fun w h => (h.perm (List.perm_middle.trans (List.Perm.cons _ List.perm_middle))).sub (List.Sublist.cons _ (List.Sublist.refl _))) ?_
     obtain ⟨oa5, oc5, oe5, ol5⟩ := ho5.shape
     subst oe5
     show Seq _ _ _ _ _ _ ((28, .slice oa5 (out ++ ([(t.getD (k) 0 : Int)])).length oc5) :: _) _ _
     refine sp 1 [(5, .slice oa5 (out ++ ([(t.getD (k) 0 : Int)])).length oc5)] ?_
     refine se ?_
     refine rr ?_
     have hc := ho.at k (by omega)
     refine sp 2 [(30, .bool (piped))] ?_
     refine seq_split 30 rfl (fun h4 => ?_) (fun h4 => ?_)
     ·
      have h4_b := h4
      refine sp 1 [(31, .pointer (some ⟨b1, 0, none⟩))] ?_
      refine sd (dlb 32 0 0 b1 (.slice y1_a Y.cars.length y1_c)) ?_
      refine sp 1 [(33, .int .i64 (t.getD (k) 0))] ?_
      refine sd (diI 34 6 (t.getD (k) 0) y1_r.addr) ?_
      refine sp 1 [(35, .pointer (some ⟨y1_b, y1_o + ((t.getD (k) 0 : Int).toNat) * 6 + 4, none⟩))] ?_
      refine sd (dl 36 (cars_get y1_r ((t.getD (k) 0 : Int).toNat) (by omega) 4 (by decide) (v := .bool ((Y.cars.getD ((t.getD (k) 0 : Int).toNat) noCar).pipe)) rfl)) ?_
      refine sp 2 [(6, .bool ((Y.cars.getD ((t.getD (k) 0 : Int).toNat) noCar).pipe))] ?_
      refine ee ?_
      refine pst_normal_block ?_
      refine pst_next ?_
      refine rr ?_
      refine sd (da 38 (↑k) (1)) ?_
      refine sp 1 [(11, .int .i64 (↑k + 1))] ?_
      refine ee ?_
      refine pst_back (t.length - (k+1)) (by omega) ?_
      intro a w hS hD hW
      exact ⟨J0, k+1, out ++ [t.getD k 0], ((Y.cars.getD ((t.getD (k) 0 : Int).toNat) noCar).pipe), .slice oa5 (out ++ ([(t.getD (k) 0 : Int)])).length oc5, Ms5, hJ0, by omega, hr.trans (by rw [goCold_yes (k := k) (by omega) h3_r, h4]; try simp only [Bool.true_and, Bool.false_and, List.append_assoc, List.cons_append, List.nil_append]; try rfl), by simp only [List.length_append, List.length_cons, List.length_nil]; omega, ho5, hS.sub (.consE 5 rfl rfl (.consE 6 rfl rfl (.consE 11 rfl rfl (.cons 2 rfl (.cons 4 rfl (.cons 9 rfl (.cons 10 rfl (.nil _)))))))), hD, hW, rfl⟩
     ·
      have h4_b := h4
      refine sp 8 [(6, .bool (false))] ?_
      refine ee ?_
      refine pst_normal_block ?_
      refine pst_next ?_
      refine rr ?_
      refine sd (da 38 (↑k) (1)) ?_
      refine sp 1 [(11, .int .i64 (↑k + 1))] ?_
      refine ee ?_
      refine pst_back (t.length - (k+1)) (by omega) ?_
      intro a w hS hD hW
      exact ⟨J0, k+1, out ++ [t.getD k 0], (false), .slice oa5 (out ++ ([(t.getD (k) 0 : Int)])).length oc5, Ms5, hJ0, by omega, hr.trans (by rw [goCold_yes (k := k) (by omega) h3_r, h4]; try simp only [Bool.true_and, Bool.false_and, List.append_assoc, List.cons_append, List.nil_append]; try rfl), by simp only [List.length_append, List.length_cons, List.length_nil]; omega, ho5, hS.sub (.consE 5 rfl rfl (.consE 6 rfl rfl (.consE 11 rfl rfl (.cons 2 rfl (.cons 4 rfl (.cons 9 rfl (.cons 10 rfl (.nil _)))))))), hD, hW, rfl⟩
    ·
     have h3_r := h3
     refine rskip ?_
     refine pst_next ?_
     refine rr ?_
     have hc := ho.at k (by omega)
     refine sp 2 [(30, .bool (piped))] ?_
     refine seq_split 30 rfl (fun h5 => ?_) (fun h5 => ?_)
     ·
      have h5_b := h5
      refine sp 1 [(31, .pointer (some ⟨b1, 0, none⟩))] ?_
      refine sd (dlb 32 0 0 b1 (.slice y1_a Y.cars.length y1_c)) ?_
      refine sp 1 [(33, .int .i64 (t.getD (k) 0))] ?_
      refine sd (diI 34 6 (t.getD (k) 0) y1_r.addr) ?_
      refine sp 1 [(35, .pointer (some ⟨y1_b, y1_o + ((t.getD (k) 0 : Int).toNat) * 6 + 4, none⟩))] ?_
      refine sd (dl 36 (cars_get y1_r ((t.getD (k) 0 : Int).toNat) (by omega) 4 (by decide) (v := .bool ((Y.cars.getD ((t.getD (k) 0 : Int).toNat) noCar).pipe)) rfl)) ?_
      refine sp 2 [(6, .bool ((Y.cars.getD ((t.getD (k) 0 : Int).toNat) noCar).pipe))] ?_
      refine ee ?_
      refine pst_normal_block ?_
      refine pst_next ?_
      refine rr ?_
      refine sd (da 38 (↑k) (1)) ?_
      refine sp 1 [(11, .int .i64 (↑k + 1))] ?_
      refine ee ?_
      refine pst_back (t.length - (k+1)) (by omega) ?_
      intro a w hS hD hW
      exact ⟨J0, k+1, out, ((Y.cars.getD ((t.getD (k) 0 : Int).toNat) noCar).pipe), .slice ov0_5_a out.length ov0_5_c, oM0_5, hJ0, by omega, hr.trans (by rw [goCold_no (k := k) (by omega) h3_r, h5]; try simp only [Bool.true_and, Bool.false_and, List.append_assoc, List.cons_append, List.nil_append]; try rfl), by omega, oh0_5, hS.sub (.consE 5 rfl rfl (.consE 6 rfl rfl (.consE 11 rfl rfl (.cons 2 rfl (.cons 4 rfl (.cons 9 rfl (.cons 10 rfl (.nil _)))))))), hD, hW, rfl⟩
     ·
      have h5_b := h5
      refine sp 8 [(6, .bool (false))] ?_
      refine ee ?_
      refine pst_normal_block ?_
      refine pst_next ?_
      refine rr ?_
      refine sd (da 38 (↑k) (1)) ?_
      refine sp 1 [(11, .int .i64 (↑k + 1))] ?_
      refine ee ?_
      refine pst_back (t.length - (k+1)) (by omega) ?_
      intro a w hS hD hW
      exact ⟨J0, k+1, out, (false), .slice ov0_5_a out.length ov0_5_c, oM0_5, hJ0, by omega, hr.trans (by rw [goCold_no (k := k) (by omega) h3_r, h5]; try simp only [Bool.true_and, Bool.false_and, List.append_assoc, List.cons_append, List.nil_append]; try rfl), by omega, oh0_5, hS.sub (.consE 5 rfl rfl (.consE 6 rfl rfl (.consE 11 rfl rfl (.cons 2 rfl (.cons 4 rfl (.cons 9 rfl (.cons 10 rfl (.nil _)))))))), hD, hW, rfl⟩
  ·
   have h1_r := h1
   have h1 := lss_f h1
   refine rexit 0 ?_
   refine (pst_exit_pass (pst_exit_pass (pst_exit_block ?_)))
   refine pst_next ?_
   refine rqr ?_
   refine sp 2 [(4, .slice ov0_5_a out.length ov0_5_c)] ?_
   refine se ?_
   refine rret ?_
   refine ppm (M' := ((oM0_5 ++ (b1, Obj.cells #[.slice y1_a Y.cars.length y1_c, .slice y2_a Y.room.length y2_c, .slice y3_a Y.tracks.length y3_c] 26 (0, 0)) :: F))) (List.perm_middle.symm) ?_
   refine pst_ret1 (t := 4) (oM0_5) (by kernel_rfl) rfl (List.Sublist.append_left (List.Sublist.cons _ (List.Sublist.refl _)) _) hJ0 ?_
   exact ⟨_, _, rfl, rfl, ((show out = coldOf Y.cars t from (hr.trans (by rw [goCold_done (by omega), List.append_nil])).symm) ▸ oh0_5)⟩

noncomputable def c_isNaN (p : List Nat) : Code := sub (bodyOf Tryd.f81) p
theorem isNaN_ct (I : Imm) (n : Int) : CtV Tryd.prog 81 #[.int .i64 n] I (.bool (false)) := by
 refine fn_of_run (fn := Tryd.f81) (args := [_]) (N := 6) Tryd.func81 rfl (by kernel_rfl) (Nat.le_of_ble_eq_true rfl) (fun F => ?_)
 show Run _ _ (c_isNaN []) _ _ [(0, .int .i64 (n))] _ _
 refine rnm ?_
 refine rqr ?_
 refine sp 1 [(2, .bool (false))] ?_
 refine sn ?_
 refine sp 4 [(2, .bool (!(cmp .eql (n) (n))))] ?_
 refine se ?_
 refine rret ?_
 refine pst_ret1 (t := 2) [] (by kernel_rfl) rfl (List.Sublist.refl _) (Imm.le.refl _) ?_
 exact ⟨by simp [cmp], rfl⟩

noncomputable def c_cmpI (p : List Nat) : Code := sub (bodyOf Tryd.f69) p
theorem cmpI_ct (I : Imm) (n : Int) (m : Int) : CtV Tryd.prog 69 #[.int .i64 n, .int .i64 m] I (.int .i64 (cmpI n m)) := by
 refine fn_of_run (fn := Tryd.f69) (args := [_, _]) (N := 20) Tryd.func69 rfl (by kernel_rfl) (Nat.le_of_ble_eq_true rfl) (fun F => ?_)
 show Run _ _ (c_cmpI []) _ _ [(0, .int .i64 (n)), (1, .int .i64 (m))] _ _
 refine rnm ?_
 refine rqr ?_
 refine sp 1 [(4, .int .i64 (0))] ?_
 refine sn ?_
 refine sp 1 [(7, .int .i64 (n))] ?_
 refine sd (dc 8 (fun I' hI => (isNaN_ct I' (n) :))) ?_
 refine sp 1 [(5, .bool (false))] ?_
 refine sn ?_
 refine sp 1 [(9, .int .i64 (m))] ?_
 refine sd (dc 10 (fun I' hI => (isNaN_ct I' (m) :))) ?_
 refine sp 1 [(6, .bool (false))] ?_
 refine se ?_
 refine rq ?_
 refine rqr ?_
 refine sp 1 [(11, .bool (false))] ?_
 refine se ?_
 refine rcf 11 rfl ?_
 refine rskip ?_
 refine pst_next ?_
 refine rq ?_
 refine rqr ?_
 refine sp 1 [(13, .bool (false))] ?_
 refine se ?_
 refine rcf 13 rfl ?_
 refine rskip ?_
 refine pst_next ?_
 refine rq ?_
 refine rqr ?_
 refine sp 3 [(16, .bool (cmp .lss (n) (m)))] ?_
 refine se ?_
 refine rc 16 rfl (fun h1 => ?_) (fun h1 => ?_)
 ·
  have h1_r := h1
  have h1 := lss_t h1
  refine rqr ?_
  refine sp 1 [(4, .int .i64 ((-1)))] ?_
  refine se ?_
  refine rret ?_
  refine (pst_ret_pass ?_)
  refine pst_ret1 (t := 4) [] (by kernel_rfl) rfl (List.Sublist.refl _) (Imm.le.refl _) ?_
  exact ⟨congrArg (Value.int .i64) (show (-1 : Int) = cmpI n m by unfold cmpI; rw [if_pos (by omega)]), rfl⟩
 ·
  have h1_r := h1
  have h1 := lss_f h1
  refine rskip ?_
  refine pst_next ?_
  refine rq ?_
  refine rqr ?_
  refine sp 3 [(19, .bool (cmp .gtr (n) (m)))] ?_
  refine se ?_
  refine rc 19 rfl (fun h2 => ?_) (fun h2 => ?_)
  ·
   have h2_r := h2
   have h2 := gtr_t h2
   refine rqr ?_
   refine sp 1 [(4, .int .i64 (1))] ?_
   refine se ?_
   refine rret ?_
   refine (pst_ret_pass ?_)
   refine pst_ret1 (t := 4) [] (by kernel_rfl) rfl (List.Sublist.refl _) (Imm.le.refl _) ?_
   exact ⟨congrArg (Value.int .i64) (show (1 : Int) = cmpI n m by unfold cmpI; rw [if_neg (by omega), if_pos (by omega)]), rfl⟩
  ·
   have h2_r := h2
   have h2 := gtr_f h2
   refine rskip ?_
   refine pst_next ?_
   refine rqr ?_
   refine sp 1 [(4, .int .i64 (0))] ?_
   refine se ?_
   refine rret ?_
   refine pst_ret1 (t := 4) [] (by kernel_rfl) rfl (List.Sublist.refl _) (Imm.le.refl _) ?_
   exact ⟨congrArg (Value.int .i64) (show (0 : Int) = cmpI n m by unfold cmpI; rw [if_neg (by omega), if_neg (by omega)]), rfl⟩

noncomputable def c_cmpL (p : List Nat) : Code := sub (bodyOf Tryd.f40) p
theorem cmpL_ct (I : Imm) (a : Value) (xs : List Int) (b : Value) (ys : List Int) (a_f : IsInts I a xs) (b_f : IsInts I b ys) : CtV Tryd.prog 40 #[a, b] I (.int .i64 (cmpL xs ys)) := by
 obtain ⟨a_a, a_c, a_b, a_o, a_e, a_l, a_m, a_r⟩ := id a_f
 subst a_e
 obtain ⟨b_a, b_c, b_b, b_o, b_e, b_l, b_m, b_r⟩ := id b_f
 subst b_e
 refine fn_of_run (fn := Tryd.f40) (args := [_, _]) (N := 36) Tryd.func40 rfl (by kernel_rfl) (Nat.le_of_ble_eq_true rfl) (fun F => ?_)
 show Run _ _ (c_cmpL []) _ _ [(0, .slice a_a xs.length a_c), (1, .slice b_a ys.length b_c)] _ _
 refine rnm ?_
 refine rqr ?_
 refine sp 1 [(4, .int .i64 (0))] ?_
 refine se ?_
 refine rq ?_
 refine rqr ?_
 refine sp 3 [(11, .int .i64 (0)), (10, .int .i64 (↑(xs.length))), (9, .slice a_a xs.length a_c)] ?_
 refine se ?_
 refine rb 0 ?_
 refine rl (fun mz a w => ∃ k : Nat, (k ≤ xs.length) ∧ (k ≤ ys.length) ∧ (cmpL xs ys = cmpL (xs.drop k) (ys.drop k)) ∧ Slots 36 [(11, .int .i64 ↑k), (0, .slice a_a xs.length a_c), (1, .slice b_a ys.length b_c), (9, .slice a_a xs.length a_c), (10, .int .i64 (↑(xs.length)))] a ∧ a.defers = [] ∧ St I (F) w ∧ mz = xs.length - k) ?_ ?_
 ·intro a w hS hD hW
  exact ⟨_, 0, Nat.zero_le _, Nat.zero_le _, rfl, hS.sub (.cons 11 rfl (.cons 0 rfl (.cons 1 rfl (.cons 9 rfl (.cons 10 rfl (.nil _)))))), hD, hW, rfl⟩
 ·rintro mz a w ⟨k, hk, hk2, hr, hS, hD, hW, rfl⟩
  refine run_at hS hD hW ?_
  clear hS hD hW a w
  refine rqr ?_
  refine sp 1 [(12, .bool (cmp .lss (↑k) (↑(xs.length))))] ?_
  refine se ?_
  refine rq ?_
  refine rc 12 rfl (fun h1 => ?_) (fun h1 => ?_)
  ·
   have h1_r := h1
   have h1 := lss_t h1
   refine rskip ?_
   refine pst_next ?_
   refine rq ?_
   refine rb 1 ?_
   refine rqr ?_
   refine sp 1 [(13, .int .i64 (↑k))] ?_
   refine sd (di 14 1 (k) a_r.addr) ?_
   refine sd (dl 15 (ints_get a_r (k) (by omega))) ?_
   refine sp 2 [(6, .int .i64 (xs.getD (k) 0)), (5, .int .i64 (↑k))] ?_
   refine se ?_
   refine rq ?_
   refine rqr ?_
   refine sp 4 [(19, .bool (cmp .geq (↑k) (↑(ys.length))))] ?_
   refine se ?_
   refine rc 19 rfl (fun h2 => ?_) (fun h2 => ?_)
   ·
    have h2_r := h2
    have h2 := geq_t h2
    refine rqr ?_
    refine sp 1 [(4, .int .i64 (1))] ?_
    refine se ?_
    refine rret ?_
    refine (pst_ret_pass (pst_ret_block (pst_ret_pass (pst_ret_pass (pst_ret_block (pst_ret_pass ?_))))))
    refine pst_ret1 (t := 4) [] (by kernel_rfl) rfl (List.Sublist.refl _) (Imm.le.refl _) ?_
    exact ⟨congrArg (Value.int .i64) (show (1 : Int) = cmpL xs ys from (hr.trans (cmpL_more (by omega) (by omega))).symm), rfl⟩
   ·
    have h2_r := h2
    have h2 := geq_f h2
    refine rskip ?_
    refine pst_next ?_
    refine rqr ?_
    refine sp 2 [(21, .int .i64 (↑k)), (20, .slice b_a ys.length b_c)] ?_
    refine sd (di 22 1 (k) b_r.addr) ?_
    refine sd (dl 23 (ints_get b_r (k) (by omega))) ?_
    refine sp 1 [(7, .int .i64 (ys.getD (k) 0))] ?_
    refine sn ?_
    refine sp 2 [(25, .int .i64 (ys.getD (k) 0)), (24, .int .i64 (xs.getD (k) 0))] ?_
    refine sd (dc 26 (fun I' hI => (cmpI_ct I' (xs.getD (k) 0) (ys.getD (k) 0) :))) ?_
    refine sp 1 [(8, .int .i64 ((cmpI (xs.getD (k) 0) (ys.getD (k) 0))))] ?_
    refine sn ?_
    refine sp 2 [(28, .bool (!(cmp .eql ((cmpI (xs.getD (k) 0) (ys.getD (k) 0))) (0))))] ?_
    refine se ?_
    refine rc 28 rfl (fun h3 => ?_) (fun h3 => ?_)
    ·
     have h3_r := h3
     have h3 := not_t h3
     have h3 := eql_f h3
     refine rqr ?_
     refine sp 2 [(4, .int .i64 ((cmpI (xs.getD (k) 0) (ys.getD (k) 0))))] ?_
     refine se ?_
     refine rret ?_
     refine (pst_ret_block (pst_ret_pass (pst_ret_pass (pst_ret_block (pst_ret_pass ?_)))))
     refine pst_ret1 (t := 4) [] (by kernel_rfl) rfl (List.Sublist.refl _) (Imm.le.refl _) ?_
     exact ⟨congrArg (Value.int .i64) (show cmpI (xs.getD k 0) (ys.getD k 0) = cmpL xs ys from (hr.trans (cmpL_diff (by omega) (by omega) h3)).symm), rfl⟩
    ·
     have h3_r := h3
     have h3 := not_f h3
     have h3 := eql_t h3
     refine rskip ?_
     refine pst_normal_block ?_
     refine pst_next ?_
     refine rr ?_
     refine sd (da 30 (↑k) (1)) ?_
     refine sp 1 [(11, .int .i64 (↑k + 1))] ?_
     refine ee ?_
     refine pst_back (xs.length - (k+1)) (by omega) ?_
     intro a w hS hD hW
     exact ⟨k+1, by omega, by omega, hr.trans (cmpL_next (by omega) (by omega) h3), hS.sub (.consE 11 rfl rfl (.cons 0 rfl (.cons 1 rfl (.cons 9 rfl (.cons 10 rfl (.nil _)))))), hD, hW, rfl⟩
  ·
   have h1_r := h1
   have h1 := lss_f h1
   refine rexit 0 ?_
   refine (pst_exit_pass (pst_exit_pass (pst_exit_block ?_)))
   refine pst_next ?_
   refine rq ?_
   refine rqr ?_
   refine sp 5 [(35, .bool (cmp .lss (↑(xs.length)) (↑(ys.length))))] ?_
   refine se ?_
   refine rc 35 rfl (fun h4 => ?_) (fun h4 => ?_)
   ·
    have h4_r := h4
    have h4 := lss_t h4
    refine rqr ?_
    refine sp 1 [(4, .int .i64 ((-1)))] ?_
    refine se ?_
    refine rret ?_
    refine (pst_ret_pass ?_)
    refine pst_ret1 (t := 4) [] (by kernel_rfl) rfl (List.Sublist.refl _) (Imm.le.refl _) ?_
    exact ⟨congrArg (Value.int .i64) (show (-1 : Int) = cmpL xs ys from (hr.trans (cmpL_less (by omega) (by omega))).symm), rfl⟩
   ·
    have h4_r := h4
    have h4 := lss_f h4
    refine rskip ?_
    refine pst_next ?_
    refine rqr ?_
    refine sp 1 [(4, .int .i64 (0))] ?_
    refine se ?_
    refine rret ?_
    refine pst_ret1 (t := 4) [] (by kernel_rfl) rfl (List.Sublist.refl _) (Imm.le.refl _) ?_
    exact ⟨congrArg (Value.int .i64) (show (0 : Int) = cmpL xs ys from (hr.trans (cmpL_same (by omega) (by omega))).symm), rfl⟩

end Go.Proofs.YtcaocbhbofejnaaDoor

/- A part of the proof that stands in YtcaocbhbofejnaaDoorShuntBrakeLaw. -/
import Derived.Test.YtcaocbhbofejnaaDoorShuntBrakeP5
set_option linter.unusedVariables false
set_option linter.unusedSimpArgs false
namespace Go.Proofs.YtcaocbhbofejnaaDoor
open Go Go.Sl Go.Sh
set_option maxRecDepth 100000
noncomputable def c_shunting (p : List Nat) : Code := sub (bodyOf Tryd.f16) p
set_option maxHeartbeats 2000000 in
theorem shunting_ct (I : Imm) (hG : Glob I) : Ct Tryd.prog 16 #[] I ([]) (fun v I' M' => v = .bool (true) ∧ M' = []) := by
 refine fn_of_run (fn := Tryd.f16) (args := []) (N := 90) Tryd.func16 rfl (by kernel_rfl) (Nat.le_of_ble_eq_true rfl) (fun F => ?_)
 show Run _ _ (c_shunting []) _ _ [] _ _
 refine rnm ?_
 have hx1 : exYard.tracks.length = 3 := rfl
 have hx2 : exYard.cars.length = 4 := rfl
 have hx3 : exYard.room.length = 3 := rfl
 refine rqr ?_
 refine sp 1 [(0, .bool (false))] ?_
 refine sn ?_
 have hct19 := yard_ct I
 refine sS (sc (some 13) (F := (F)) (hct19 :) (.refl _) (fun rv17 I1 rm18 hle2 hp3 => ?_))
 obtain ⟨u_06, Ms_07, u_18, Ms_19, u_210, ws_211, Ms_212, hv4, hm5, qh13, qh14, qh15, qr16⟩ := hp3
 rw [hv4, hm5]; clear hv4 hm5
 replace hG := hG.mono hle2
 obtain ⟨u_06_a, u_06_c, u_06_e, u_06_l⟩ := qh13.shape
 subst u_06_e
 obtain ⟨u_18_a, u_18_c, u_18_e, u_18_l⟩ := qh14.shape
 subst u_18_e
 obtain ⟨u_210_a, u_210_c, u_210_e, u_210_l⟩ := qh15.shape
 subst u_210_e
 have qr16_len := qr16.1
 try simp only [List.length_set, List.length_append, List.length_cons, List.length_nil, List.length_take] at qr16_len
 refine seq_mem (M' := ((Ms_07 ++ (Ms_19 ++ (Ms_212 ++ F))))) (fun w h => by simpa only [List.append_assoc, List.cons_append, List.nil_append] using h) ?_
 refine nm ?_
 show Seq _ _ _ _ _ _ ((13, .agg #[.slice u_06_a exYard.cars.length u_06_c, .slice u_18_a exYard.room.length u_18_c, .slice u_210_a ws_211.length u_210_c]) :: _) _ _
 have hct27 := drawl_ct I1 (0) (1) (2)
 refine sS (sc (some 14) (F := ((Ms_07 ++ (Ms_19 ++ (Ms_212 ++ F))))) (hct27 :) (.refl _) (fun rv25 I20 rm26 hle21 hp22 => ?_))
 obtain ⟨hv23, hm24⟩ := hp22
 rw [hv23, hm24]; clear hv23 hm24
 replace hG := hG.mono hle21
 replace qr16 := qr16.mono hle21
 refine nm ?_
 show Seq _ _ _ _ _ _ ((14, .agg #[.int .i64 (((⟨0, 1, 2⟩ : Shift)).frm), .int .i64 (((⟨0, 1, 2⟩ : Shift)).to), .int .i64 (((⟨0, 1, 2⟩ : Shift)).many)]) :: _) _ _
 refine sfz noCar qh13 (.refl _) (fun I28 hle29 fz30_f => ?_)
 replace hG := hG.mono hle29
 replace qr16 := qr16.mono hle29
 obtain ⟨fz30_a, fz30_c, fz30_b, fz30_o, fz30_e, fz30_l, fz30_m, fz30_r⟩ := id fz30_f
 cases fz30_e
 refine sfz 0 qh14 (.refl _) (fun I31 hle32 fz33_f => ?_)
 replace hG := hG.mono hle32
 replace qr16 := qr16.mono hle32
 replace fz30_f := fz30_f.mono hle32
 obtain ⟨fz33_a, fz33_c, fz33_b, fz33_o, fz33_e, fz33_l, fz33_m, fz33_r⟩ := id fz33_f
 cases fz33_e
 refine sfz undef qh15 (.refl _) (fun I34 hle35 fz36_f => ?_)
 replace hG := hG.mono hle35
 replace qr16 := qr16.mono hle35
 replace fz30_f := fz30_f.mono hle35
 replace fz33_f := fz33_f.mono hle35
 obtain ⟨fz36_a, fz36_c, fz36_b, fz36_o, fz36_e, fz36_l, fz36_m, fz36_r⟩ := id fz36_f
 cases fz36_e
 have fr37_f := qr16.isRows fz36_f
 have fr37_len := qr16.1
 obtain ⟨fr37_a, fr37_c, fr37_b, fr37_o, fr37_vs, fr37_e, fr37_l, fr37_m, fr37_r, fr37_w⟩ := id fr37_f
 injection fr37_e with fr37_e1 fr37_e2 fr37_e3; subst fr37_e1; subst fr37_e3
 have hct47 := Draw_ct I34 _ (exYard) ((⟨0, 1, 2⟩ : Shift)) (mkYard fz30_f fz33_f fr37_f) (by first | exact hG | exact hG.mono hI)
 refine sS (sc (some 15) (F := (F)) (hct47 :) (.refl _) (fun rv45 I38 rm46 hle39 hp40 => ?_))
 obtain ⟨u043, hv41, hm42, qf44⟩ := hp40
 rw [hv41, hm42]; clear hv41 hm42
 replace hG := hG.mono hle39
 have u043_f := qf44
 obtain ⟨u0431, u0432, u0433, u043_e, u0431_f, u0432_f, u0433_f⟩ := id u043_f
 subst u043_e
 obtain ⟨u0431_a, u0431_c, u0431_b, u0431_o, u0431_e, u0431_l, u0431_m, u0431_r⟩ := id u0431_f
 subst u0431_e
 obtain ⟨u0432_a, u0432_c, u0432_b, u0432_o, u0432_e, u0432_l, u0432_m, u0432_r⟩ := id u0432_f
 subst u0432_e
 obtain ⟨u0433_a, u0433_c, u0433_b, u0433_o, u0433_vs, u0433_e, u0433_l, u0433_m, u0433_r, u0433_w⟩ := id u0433_f
 subst u0433_e
 refine nm ?_
 show Seq _ _ _ _ _ _ ((15, .tuple #[.agg #[.slice u0431_a (((play exYard [((⟨0, 1, 2⟩ : Shift))]).1).cars).length u0431_c, .slice u0432_a (((play exYard [((⟨0, 1, 2⟩ : Shift))]).1).room).length u0432_c, .slice u0433_a (((play exYard [((⟨0, 1, 2⟩ : Shift))]).1).tracks).length u0433_c], .int .i64 (((play exYard [((⟨0, 1, 2⟩ : Shift))]).2))]) :: _) _ _
 refine sp 3 [(17, .int .i64 (((play exYard [((⟨0, 1, 2⟩ : Shift))]).2))), (16, .agg #[.slice u0431_a (((play exYard [((⟨0, 1, 2⟩ : Shift))]).1).cars).length u0431_c, .slice u0432_a (((play exYard [((⟨0, 1, 2⟩ : Shift))]).1).room).length u0432_c, .slice u0433_a (((play exYard [((⟨0, 1, 2⟩ : Shift))]).1).tracks).length u0433_c])] ?_
 refine sS (sal 1 26 #[.slice none 0 0, .slice none 0 0, .slice none 0 0] (fun b48 => ?_))
 refine sS (ss 0 0 b48 [.slice u0431_a (((play exYard [((⟨0, 1, 2⟩ : Shift))]).1).cars).length u0431_c, .slice u0432_a (((play exYard [((⟨0, 1, 2⟩ : Shift))]).1).room).length u0432_c, .slice u0433_a (((play exYard [((⟨0, 1, 2⟩ : Shift))]).1).tracks).length u0433_c] [.slice u0431_a (((play exYard [((⟨0, 1, 2⟩ : Shift))]).1).cars).length u0431_c, .slice u0432_a (((play exYard [((⟨0, 1, 2⟩ : Shift))]).1).room).length u0432_c, .slice u0433_a (((play exYard [((⟨0, 1, 2⟩ : Shift))]).1).tracks).length u0433_c] (_ :: _) (cs := [_, _, _]) rfl rfl ?_)
 refine sp 1 [(2, .int .i64 (((play exYard [((⟨0, 1, 2⟩ : Shift))]).2)))] ?_
 refine seq_re 2 rfl (show (.int .i64 (((play exYard [((⟨0, 1, 2⟩ : Shift))]).2)) : Value) = .int .i64 (0) from congrArg (Value.int .i64) (ex_draw.1)) ?_
 refine sn ?_
 have hct68 := yard_ct I38
 refine sS (sc (some 19) (F := ((b48, Obj.cells #[.slice u0431_a (((play exYard [((⟨0, 1, 2⟩ : Shift))]).1).cars).length u0431_c, .slice u0432_a (((play exYard [((⟨0, 1, 2⟩ : Shift))]).1).room).length u0432_c, .slice u0433_a (((play exYard [((⟨0, 1, 2⟩ : Shift))]).1).tracks).length u0433_c] 26 (0, 0)) :: F)) (hct68 :) (.refl _) (fun rv66 I50 rm67 hle51 hp52 => ?_))
 obtain ⟨u_055, Ms_056, u_157, Ms_158, u_259, ws_260, Ms_261, hv53, hm54, qh62, qh63, qh64, qr65⟩ := hp52
 rw [hv53, hm54]; clear hv53 hm54
 replace hG := hG.mono hle51
 replace u0433_f := u0433_f.mono hle51
 obtain ⟨u_055_a, u_055_c, u_055_e, u_055_l⟩ := qh62.shape
 subst u_055_e
 obtain ⟨u_157_a, u_157_c, u_157_e, u_157_l⟩ := qh63.shape
 subst u_157_e
 obtain ⟨u_259_a, u_259_c, u_259_e, u_259_l⟩ := qh64.shape
 subst u_259_e
 have qr65_len := qr65.1
 try simp only [List.length_set, List.length_append, List.length_cons, List.length_nil, List.length_take] at qr65_len
 refine seq_mem (M' := ((Ms_056 ++ (Ms_158 ++ (Ms_261 ++ (b48, Obj.cells #[.slice u0431_a (((play exYard [((⟨0, 1, 2⟩ : Shift))]).1).cars).length u0431_c, .slice u0432_a (((play exYard [((⟨0, 1, 2⟩ : Shift))]).1).room).length u0432_c, .slice u0433_a (((play exYard [((⟨0, 1, 2⟩ : Shift))]).1).tracks).length u0433_c] 26 (0, 0)) :: F))))) (fun w h => by simpa only [List.append_assoc, List.cons_append, List.nil_append] using h) ?_
 refine pm (M' := ((b48, Obj.cells #[.slice u0431_a (((play exYard [((⟨0, 1, 2⟩ : Shift))]).1).cars).length u0431_c, .slice u0432_a (((play exYard [((⟨0, 1, 2⟩ : Shift))]).1).room).length u0432_c, .slice u0433_a (((play exYard [((⟨0, 1, 2⟩ : Shift))]).1).tracks).length u0433_c] 26 (0, 0)) :: (Ms_056 ++ (Ms_158 ++ (Ms_261 ++ F))))) ((List.Perm.append_left _ ((List.Perm.append_left _ List.perm_middle).trans List.perm_middle)).trans List.perm_middle) ?_
 show Seq _ _ _ _ _ _ ((19, .agg #[.slice u_055_a exYard.cars.length u_055_c, .slice u_157_a exYard.room.length u_157_c, .slice u_259_a ws_260.length u_259_c]) :: _) _ _
 refine sS (sbs 20 3 4 #[.int .i64 (0), .int .i64 (2), .int .i64 (3), .int .i64 (1)] (fun b69 => ?_))
 refine sfz (A := ((b69, Obj.cells #[.int .i64 (0), .int .i64 (2), .int .i64 (3), .int .i64 (1)] 3 (0, 0)) :: (b48, Obj.cells #[.slice u0431_a (((play exYard [((⟨0, 1, 2⟩ : Shift))]).1).cars).length u0431_c, .slice u0432_a (((play exYard [((⟨0, 1, 2⟩ : Shift))]).1).room).length u0432_c, .slice u0433_a (((play exYard [((⟨0, 1, 2⟩ : Shift))]).1).tracks).length u0433_c] 26 (0, 0)) :: (Ms_158 ++ (Ms_261 ++ F)))) noCar qh62 ((List.Perm.cons _ (List.perm_middle.symm)).trans (List.perm_middle.symm)) (fun I71 hle72 fz73_f => ?_)
 replace hG := hG.mono hle72
 replace u0433_f := u0433_f.mono hle72
 replace qr65 := qr65.mono hle72
 obtain ⟨fz73_a, fz73_c, fz73_b, fz73_o, fz73_e, fz73_l, fz73_m, fz73_r⟩ := id fz73_f
 cases fz73_e
 refine sfz (A := ((b69, Obj.cells #[.int .i64 (0), .int .i64 (2), .int .i64 (3), .int .i64 (1)] 3 (0, 0)) :: (b48, Obj.cells #[.slice u0431_a (((play exYard [((⟨0, 1, 2⟩ : Shift))]).1).cars).length u0431_c, .slice u0432_a (((play exYard [((⟨0, 1, 2⟩ : Shift))]).1).room).length u0432_c, .slice u0433_a (((play exYard [((⟨0, 1, 2⟩ : Shift))]).1).tracks).length u0433_c] 26 (0, 0)) :: (Ms_261 ++ F))) 0 qh63 ((List.Perm.cons _ (List.perm_middle.symm)).trans (List.perm_middle.symm)) (fun I74 hle75 fz76_f => ?_)
 replace hG := hG.mono hle75
 replace u0433_f := u0433_f.mono hle75
 replace qr65 := qr65.mono hle75
 replace fz73_f := fz73_f.mono hle75
 obtain ⟨fz76_a, fz76_c, fz76_b, fz76_o, fz76_e, fz76_l, fz76_m, fz76_r⟩ := id fz76_f
 cases fz76_e
 refine sfz (A := ((b69, Obj.cells #[.int .i64 (0), .int .i64 (2), .int .i64 (3), .int .i64 (1)] 3 (0, 0)) :: (b48, Obj.cells #[.slice u0431_a (((play exYard [((⟨0, 1, 2⟩ : Shift))]).1).cars).length u0431_c, .slice u0432_a (((play exYard [((⟨0, 1, 2⟩ : Shift))]).1).room).length u0432_c, .slice u0433_a (((play exYard [((⟨0, 1, 2⟩ : Shift))]).1).tracks).length u0433_c] 26 (0, 0)) :: F)) undef qh64 ((List.Perm.cons _ (List.perm_middle.symm)).trans (List.perm_middle.symm)) (fun I77 hle78 fz79_f => ?_)
 replace hG := hG.mono hle78
 replace u0433_f := u0433_f.mono hle78
 replace qr65 := qr65.mono hle78
 replace fz73_f := fz73_f.mono hle78
 replace fz76_f := fz76_f.mono hle78
 obtain ⟨fz79_a, fz79_c, fz79_b, fz79_o, fz79_e, fz79_l, fz79_m, fz79_r⟩ := id fz79_f
 cases fz79_e
 have fr80_f := qr65.isRows fz79_f
 have fr80_len := qr65.1
 obtain ⟨fr80_a, fr80_c, fr80_b, fr80_o, fr80_vs, fr80_e, fr80_l, fr80_m, fr80_r, fr80_w⟩ := id fr80_f
 injection fr80_e with fr80_e1 fr80_e2 fr80_e3; subst fr80_e1; subst fr80_e3
 refine pm (M' := ((b48, Obj.cells #[.slice u0431_a (((play exYard [((⟨0, 1, 2⟩ : Shift))]).1).cars).length u0431_c, .slice u0432_a (((play exYard [((⟨0, 1, 2⟩ : Shift))]).1).room).length u0432_c, .slice u0433_a (((play exYard [((⟨0, 1, 2⟩ : Shift))]).1).tracks).length u0433_c] 26 (0, 0)) :: ([(b69, Obj.cells #[.int .i64 (0), .int .i64 (2), .int .i64 (3), .int .i64 (1)] 3 (0, 0))] ++ F))) (List.Perm.swap _ _ _) ?_
 have ho81 : Own 3 1 intCell (.slice (some ⟨b69, 0, none⟩) 4 4) ([(0 : Int), (2 : Int), (3 : Int), (1 : Int)] : List Int) [(b69, Obj.cells #[.int .i64 (0), .int .i64 (2), .int .i64 (3), .int .i64 (1)] 3 (0, 0))] := Own.lit rfl rfl
 refine sfz (A := ((b48, Obj.cells #[.slice u0431_a (((play exYard [((⟨0, 1, 2⟩ : Shift))]).1).cars).length u0431_c, .slice u0432_a (((play exYard [((⟨0, 1, 2⟩ : Shift))]).1).room).length u0432_c, .slice u0433_a (((play exYard [((⟨0, 1, 2⟩ : Shift))]).1).tracks).length u0433_c] 26 (0, 0)) :: F)) 0 ho81 (List.perm_middle.symm) (fun I82 hle83 fz84_f => ?_)
 replace hG := hG.mono hle83
 replace u0433_f := u0433_f.mono hle83
 replace fz73_f := fz73_f.mono hle83
 replace fz76_f := fz76_f.mono hle83
 replace fr80_f := fr80_f.mono hle83
 obtain ⟨fz84_a, fz84_c, fz84_b, fz84_o, fz84_e, fz84_l, fz84_m, fz84_r⟩ := id fz84_f
 cases fz84_e
 have hct95 := Fewest_ct I82 _ (exYard) _ _ (mkYard fz73_f fz76_f fr80_f) fz84_f (by first | exact hG | exact hG.mono hI)
 refine sS (sc (some 21) (F := ((b48, Obj.cells #[.slice u0431_a (((play exYard [((⟨0, 1, 2⟩ : Shift))]).1).cars).length u0431_c, .slice u0432_a (((play exYard [((⟨0, 1, 2⟩ : Shift))]).1).room).length u0432_c, .slice u0433_a (((play exYard [((⟨0, 1, 2⟩ : Shift))]).1).tracks).length u0433_c] 26 (0, 0)) :: F)) (hct95 :) (.refl _) (fun rv93 I85 rm94 hle86 hp87 => ?_))
 obtain ⟨u090, Ms091, hv88, hm89, qh92⟩ := hp87
 rw [hv88, hm89]; clear hv88 hm89
 replace hG := hG.mono hle86
 replace u0433_f := u0433_f.mono hle86
 obtain ⟨u090_a, u090_c, u090_e, u090_l⟩ := qh92.shape
 subst u090_e
 refine pm (M' := ((b48, Obj.cells #[.slice u0431_a (((play exYard [((⟨0, 1, 2⟩ : Shift))]).1).cars).length u0431_c, .slice u0432_a (((play exYard [((⟨0, 1, 2⟩ : Shift))]).1).room).length u0432_c, .slice u0433_a (((play exYard [((⟨0, 1, 2⟩ : Shift))]).1).tracks).length u0433_c] 26 (0, 0)) :: (Ms091 ++ F))) List.perm_middle ?_
 show Seq _ _ _ _ _ _ ((21, .tuple #[.slice u090_a ((fewestE exYard (([(0 : Int), (2 : Int), (3 : Int), (1 : Int)] : List Int))).1).length u090_c, .int .i64 (((fewestE exYard (([(0 : Int), (2 : Int), (3 : Int), (1 : Int)] : List Int))).2))]) :: _) _ _
 refine sp 5 [(4, .int .i64 (((fewestE exYard (([(0 : Int), (2 : Int), (3 : Int), (1 : Int)] : List Int))).2))), (3, .slice u090_a ((fewestE exYard (([(0 : Int), (2 : Int), (3 : Int), (1 : Int)] : List Int))).1).length u090_c)] ?_
 refine seq_re 4 rfl (show (.int .i64 (((fewestE exYard (([(0 : Int), (2 : Int), (3 : Int), (1 : Int)] : List Int))).2)) : Value) = .int .i64 (0) from congrArg (Value.int .i64) (ex_fewest.2)) ?_
 refine sn ?_
 have hct114 := yard_ct I85
 refine sS (sc (some 25) (F := ((b48, Obj.cells #[.slice u0431_a (((play exYard [((⟨0, 1, 2⟩ : Shift))]).1).cars).length u0431_c, .slice u0432_a (((play exYard [((⟨0, 1, 2⟩ : Shift))]).1).room).length u0432_c, .slice u0433_a (((play exYard [((⟨0, 1, 2⟩ : Shift))]).1).tracks).length u0433_c] 26 (0, 0)) :: (Ms091 ++ F))) (hct114 :) (.refl _) (fun rv112 I96 rm113 hle97 hp98 => ?_))
 obtain ⟨u_0101, Ms_0102, u_1103, Ms_1104, u_2105, ws_2106, Ms_2107, hv99, hm100, qh108, qh109, qh110, qr111⟩ := hp98
 rw [hv99, hm100]; clear hv99 hm100
 replace hG := hG.mono hle97
 replace u0433_f := u0433_f.mono hle97
 obtain ⟨u_0101_a, u_0101_c, u_0101_e, u_0101_l⟩ := qh108.shape
 subst u_0101_e
 obtain ⟨u_1103_a, u_1103_c, u_1103_e, u_1103_l⟩ := qh109.shape
 subst u_1103_e
 obtain ⟨u_2105_a, u_2105_c, u_2105_e, u_2105_l⟩ := qh110.shape
 subst u_2105_e
 have qr111_len := qr111.1
 try simp only [List.length_set, List.length_append, List.length_cons, List.length_nil, List.length_take] at qr111_len
 refine seq_mem (M' := ((Ms_0102 ++ (Ms_1104 ++ (Ms_2107 ++ (b48, Obj.cells #[.slice u0431_a (((play exYard [((⟨0, 1, 2⟩ : Shift))]).1).cars).length u0431_c, .slice u0432_a (((play exYard [((⟨0, 1, 2⟩ : Shift))]).1).room).length u0432_c, .slice u0433_a (((play exYard [((⟨0, 1, 2⟩ : Shift))]).1).tracks).length u0433_c] 26 (0, 0)) :: (Ms091 ++ F)))))) (fun w h => by simpa only [List.append_assoc, List.cons_append, List.nil_append] using h) ?_
 refine pm (M' := ((b48, Obj.cells #[.slice u0431_a (((play exYard [((⟨0, 1, 2⟩ : Shift))]).1).cars).length u0431_c, .slice u0432_a (((play exYard [((⟨0, 1, 2⟩ : Shift))]).1).room).length u0432_c, .slice u0433_a (((play exYard [((⟨0, 1, 2⟩ : Shift))]).1).tracks).length u0433_c] 26 (0, 0)) :: (Ms_0102 ++ (Ms_1104 ++ (Ms_2107 ++ (Ms091 ++ F)))))) ((List.Perm.append_left _ ((List.Perm.append_left _ List.perm_middle).trans List.perm_middle)).trans List.perm_middle) ?_
 show Seq _ _ _ _ _ _ ((25, .agg #[.slice u_0101_a exYard.cars.length u_0101_c, .slice u_1103_a exYard.room.length u_1103_c, .slice u_2105_a ws_2106.length u_2105_c]) :: _) _ _
 refine sS (sbs 26 3 4 #[.int .i64 (1), .int .i64 (2), .int .i64 (3), .int .i64 (0)] (fun b115 => ?_))
 refine sfz (A := ((b115, Obj.cells #[.int .i64 (1), .int .i64 (2), .int .i64 (3), .int .i64 (0)] 3 (0, 0)) :: (b48, Obj.cells #[.slice u0431_a (((play exYard [((⟨0, 1, 2⟩ : Shift))]).1).cars).length u0431_c, .slice u0432_a (((play exYard [((⟨0, 1, 2⟩ : Shift))]).1).room).length u0432_c, .slice u0433_a (((play exYard [((⟨0, 1, 2⟩ : Shift))]).1).tracks).length u0433_c] 26 (0, 0)) :: (Ms_1104 ++ (Ms_2107 ++ (Ms091 ++ F))))) noCar qh108 ((List.Perm.cons _ (List.perm_middle.symm)).trans (List.perm_middle.symm)) (fun I117 hle118 fz119_f => ?_)
 replace hG := hG.mono hle118
 replace u0433_f := u0433_f.mono hle118
 replace qr111 := qr111.mono hle118
 obtain ⟨fz119_a, fz119_c, fz119_b, fz119_o, fz119_e, fz119_l, fz119_m, fz119_r⟩ := id fz119_f
 cases fz119_e
 refine sfz (A := ((b115, Obj.cells #[.int .i64 (1), .int .i64 (2), .int .i64 (3), .int .i64 (0)] 3 (0, 0)) :: (b48, Obj.cells #[.slice u0431_a (((play exYard [((⟨0, 1, 2⟩ : Shift))]).1).cars).length u0431_c, .slice u0432_a (((play exYard [((⟨0, 1, 2⟩ : Shift))]).1).room).length u0432_c, .slice u0433_a (((play exYard [((⟨0, 1, 2⟩ : Shift))]).1).tracks).length u0433_c] 26 (0, 0)) :: (Ms_2107 ++ (Ms091 ++ F)))) 0 qh109 ((List.Perm.cons _ (List.perm_middle.symm)).trans (List.perm_middle.symm)) (fun I120 hle121 fz122_f => ?_)
 replace hG := hG.mono hle121
 replace u0433_f := u0433_f.mono hle121
 replace qr111 := qr111.mono hle121
 replace fz119_f := fz119_f.mono hle121
 obtain ⟨fz122_a, fz122_c, fz122_b, fz122_o, fz122_e, fz122_l, fz122_m, fz122_r⟩ := id fz122_f
 cases fz122_e
 refine sfz (A := ((b115, Obj.cells #[.int .i64 (1), .int .i64 (2), .int .i64 (3), .int .i64 (0)] 3 (0, 0)) :: (b48, Obj.cells #[.slice u0431_a (((play exYard [((⟨0, 1, 2⟩ : Shift))]).1).cars).length u0431_c, .slice u0432_a (((play exYard [((⟨0, 1, 2⟩ : Shift))]).1).room).length u0432_c, .slice u0433_a (((play exYard [((⟨0, 1, 2⟩ : Shift))]).1).tracks).length u0433_c] 26 (0, 0)) :: (Ms091 ++ F))) undef qh110 ((List.Perm.cons _ (List.perm_middle.symm)).trans (List.perm_middle.symm)) (fun I123 hle124 fz125_f => ?_)
 replace hG := hG.mono hle124
 replace u0433_f := u0433_f.mono hle124
 replace qr111 := qr111.mono hle124
 replace fz119_f := fz119_f.mono hle124
 replace fz122_f := fz122_f.mono hle124
 obtain ⟨fz125_a, fz125_c, fz125_b, fz125_o, fz125_e, fz125_l, fz125_m, fz125_r⟩ := id fz125_f
 cases fz125_e
 have fr126_f := qr111.isRows fz125_f
 have fr126_len := qr111.1
 obtain ⟨fr126_a, fr126_c, fr126_b, fr126_o, fr126_vs, fr126_e, fr126_l, fr126_m, fr126_r, fr126_w⟩ := id fr126_f
 injection fr126_e with fr126_e1 fr126_e2 fr126_e3; subst fr126_e1; subst fr126_e3
 refine pm (M' := ((b48, Obj.cells #[.slice u0431_a (((play exYard [((⟨0, 1, 2⟩ : Shift))]).1).cars).length u0431_c, .slice u0432_a (((play exYard [((⟨0, 1, 2⟩ : Shift))]).1).room).length u0432_c, .slice u0433_a (((play exYard [((⟨0, 1, 2⟩ : Shift))]).1).tracks).length u0433_c] 26 (0, 0)) :: ([(b115, Obj.cells #[.int .i64 (1), .int .i64 (2), .int .i64 (3), .int .i64 (0)] 3 (0, 0))] ++ (Ms091 ++ F)))) (List.Perm.swap _ _ _) ?_
 have ho127 : Own 3 1 intCell (.slice (some ⟨b115, 0, none⟩) 4 4) ([(1 : Int), (2 : Int), (3 : Int), (0 : Int)] : List Int) [(b115, Obj.cells #[.int .i64 (1), .int .i64 (2), .int .i64 (3), .int .i64 (0)] 3 (0, 0))] := Own.lit rfl rfl
 refine sfz (A := ((b48, Obj.cells #[.slice u0431_a (((play exYard [((⟨0, 1, 2⟩ : Shift))]).1).cars).length u0431_c, .slice u0432_a (((play exYard [((⟨0, 1, 2⟩ : Shift))]).1).room).length u0432_c, .slice u0433_a (((play exYard [((⟨0, 1, 2⟩ : Shift))]).1).tracks).length u0433_c] 26 (0, 0)) :: (Ms091 ++ F))) 0 ho127 (List.perm_middle.symm) (fun I128 hle129 fz130_f => ?_)
 replace hG := hG.mono hle129
 replace u0433_f := u0433_f.mono hle129
 replace fz119_f := fz119_f.mono hle129
 replace fz122_f := fz122_f.mono hle129
 replace fr126_f := fr126_f.mono hle129
 obtain ⟨fz130_a, fz130_c, fz130_b, fz130_o, fz130_e, fz130_l, fz130_m, fz130_r⟩ := id fz130_f
 cases fz130_e
 have hct141 := Lacks_ct I128 _ (exYard) _ _ (mkYard fz119_f fz122_f fr126_f) fz130_f (by first | exact hG | exact hG.mono hI)
 refine sS (sc (some 27) (F := ((b48, Obj.cells #[.slice u0431_a (((play exYard [((⟨0, 1, 2⟩ : Shift))]).1).cars).length u0431_c, .slice u0432_a (((play exYard [((⟨0, 1, 2⟩ : Shift))]).1).room).length u0432_c, .slice u0433_a (((play exYard [((⟨0, 1, 2⟩ : Shift))]).1).tracks).length u0433_c] 26 (0, 0)) :: (Ms091 ++ F))) (hct141 :) (.refl _) (fun rv139 I131 rm140 hle132 hp133 => ?_))
 obtain ⟨u0136, Ms0137, hv134, hm135, qh138⟩ := hp133
 rw [hv134, hm135]; clear hv134 hm135
 replace hG := hG.mono hle132
 replace u0433_f := u0433_f.mono hle132
 obtain ⟨u0136_a, u0136_c, u0136_e, u0136_l⟩ := qh138.shape
 subst u0136_e
 refine pm (M' := ((b48, Obj.cells #[.slice u0431_a (((play exYard [((⟨0, 1, 2⟩ : Shift))]).1).cars).length u0431_c, .slice u0432_a (((play exYard [((⟨0, 1, 2⟩ : Shift))]).1).room).length u0432_c, .slice u0433_a (((play exYard [((⟨0, 1, 2⟩ : Shift))]).1).tracks).length u0433_c] 26 (0, 0)) :: (Ms0137 ++ (Ms091 ++ F)))) List.perm_middle ?_
 show Seq _ _ _ _ _ _ ((27, .tuple #[.slice u0136_a ((lacksE exYard (([(1 : Int), (2 : Int), (3 : Int), (0 : Int)] : List Int))).1).length u0136_c, .int .i64 (((lacksE exYard (([(1 : Int), (2 : Int), (3 : Int), (0 : Int)] : List Int))).2))]) :: _) _ _
 refine sp 5 [(6, .int .i64 (((lacksE exYard (([(1 : Int), (2 : Int), (3 : Int), (0 : Int)] : List Int))).2))), (5, .slice u0136_a ((lacksE exYard (([(1 : Int), (2 : Int), (3 : Int), (0 : Int)] : List Int))).1).length u0136_c)] ?_
 refine seq_re 6 rfl (show (.int .i64 (((lacksE exYard (([(1 : Int), (2 : Int), (3 : Int), (0 : Int)] : List Int))).2)) : Value) = .int .i64 (0) from congrArg (Value.int .i64) (ex_lacks.2)) ?_
 refine sn ?_
 have hct160 := yard_ct I131
 refine sS (sc (some 31) (F := ((b48, Obj.cells #[.slice u0431_a (((play exYard [((⟨0, 1, 2⟩ : Shift))]).1).cars).length u0431_c, .slice u0432_a (((play exYard [((⟨0, 1, 2⟩ : Shift))]).1).room).length u0432_c, .slice u0433_a (((play exYard [((⟨0, 1, 2⟩ : Shift))]).1).tracks).length u0433_c] 26 (0, 0)) :: (Ms0137 ++ (Ms091 ++ F)))) (hct160 :) (.refl _) (fun rv158 I142 rm159 hle143 hp144 => ?_))
 obtain ⟨u_0147, Ms_0148, u_1149, Ms_1150, u_2151, ws_2152, Ms_2153, hv145, hm146, qh154, qh155, qh156, qr157⟩ := hp144
 rw [hv145, hm146]; clear hv145 hm146
 replace hG := hG.mono hle143
 replace u0433_f := u0433_f.mono hle143
 obtain ⟨u_0147_a, u_0147_c, u_0147_e, u_0147_l⟩ := qh154.shape
 subst u_0147_e
 obtain ⟨u_1149_a, u_1149_c, u_1149_e, u_1149_l⟩ := qh155.shape
 subst u_1149_e
 obtain ⟨u_2151_a, u_2151_c, u_2151_e, u_2151_l⟩ := qh156.shape
 subst u_2151_e
 have qr157_len := qr157.1
 try simp only [List.length_set, List.length_append, List.length_cons, List.length_nil, List.length_take] at qr157_len
 refine seq_mem (M' := ((Ms_0148 ++ (Ms_1150 ++ (Ms_2153 ++ (b48, Obj.cells #[.slice u0431_a (((play exYard [((⟨0, 1, 2⟩ : Shift))]).1).cars).length u0431_c, .slice u0432_a (((play exYard [((⟨0, 1, 2⟩ : Shift))]).1).room).length u0432_c, .slice u0433_a (((play exYard [((⟨0, 1, 2⟩ : Shift))]).1).tracks).length u0433_c] 26 (0, 0)) :: (Ms0137 ++ (Ms091 ++ F))))))) (fun w h => by simpa only [List.append_assoc, List.cons_append, List.nil_append] using h) ?_
 refine pm (M' := ((b48, Obj.cells #[.slice u0431_a (((play exYard [((⟨0, 1, 2⟩ : Shift))]).1).cars).length u0431_c, .slice u0432_a (((play exYard [((⟨0, 1, 2⟩ : Shift))]).1).room).length u0432_c, .slice u0433_a (((play exYard [((⟨0, 1, 2⟩ : Shift))]).1).tracks).length u0433_c] 26 (0, 0)) :: (Ms_0148 ++ (Ms_1150 ++ (Ms_2153 ++ (Ms0137 ++ (Ms091 ++ F))))))) ((List.Perm.append_left _ ((List.Perm.append_left _ List.perm_middle).trans List.perm_middle)).trans List.perm_middle) ?_
 show Seq _ _ _ _ _ _ ((31, .agg #[.slice u_0147_a exYard.cars.length u_0147_c, .slice u_1149_a exYard.room.length u_1149_c, .slice u_2151_a ws_2152.length u_2151_c]) :: _) _ _
 refine sfz (A := ((b48, Obj.cells #[.slice u0431_a (((play exYard [((⟨0, 1, 2⟩ : Shift))]).1).cars).length u0431_c, .slice u0432_a (((play exYard [((⟨0, 1, 2⟩ : Shift))]).1).room).length u0432_c, .slice u0433_a (((play exYard [((⟨0, 1, 2⟩ : Shift))]).1).tracks).length u0433_c] 26 (0, 0)) :: (Ms_1150 ++ (Ms_2153 ++ (Ms0137 ++ (Ms091 ++ F)))))) noCar qh154 (List.perm_middle.symm) (fun I161 hle162 fz163_f => ?_)
 replace hG := hG.mono hle162
 replace u0433_f := u0433_f.mono hle162
 replace qr157 := qr157.mono hle162
 obtain ⟨fz163_a, fz163_c, fz163_b, fz163_o, fz163_e, fz163_l, fz163_m, fz163_r⟩ := id fz163_f
 cases fz163_e
 refine sfz (A := ((b48, Obj.cells #[.slice u0431_a (((play exYard [((⟨0, 1, 2⟩ : Shift))]).1).cars).length u0431_c, .slice u0432_a (((play exYard [((⟨0, 1, 2⟩ : Shift))]).1).room).length u0432_c, .slice u0433_a (((play exYard [((⟨0, 1, 2⟩ : Shift))]).1).tracks).length u0433_c] 26 (0, 0)) :: (Ms_2153 ++ (Ms0137 ++ (Ms091 ++ F))))) 0 qh155 (List.perm_middle.symm) (fun I164 hle165 fz166_f => ?_)
 replace hG := hG.mono hle165
 replace u0433_f := u0433_f.mono hle165
 replace qr157 := qr157.mono hle165
 replace fz163_f := fz163_f.mono hle165
 obtain ⟨fz166_a, fz166_c, fz166_b, fz166_o, fz166_e, fz166_l, fz166_m, fz166_r⟩ := id fz166_f
 cases fz166_e
 refine sfz (A := ((b48, Obj.cells #[.slice u0431_a (((play exYard [((⟨0, 1, 2⟩ : Shift))]).1).cars).length u0431_c, .slice u0432_a (((play exYard [((⟨0, 1, 2⟩ : Shift))]).1).room).length u0432_c, .slice u0433_a (((play exYard [((⟨0, 1, 2⟩ : Shift))]).1).tracks).length u0433_c] 26 (0, 0)) :: (Ms0137 ++ (Ms091 ++ F)))) undef qh156 (List.perm_middle.symm) (fun I167 hle168 fz169_f => ?_)
 replace hG := hG.mono hle168
 replace u0433_f := u0433_f.mono hle168
 replace qr157 := qr157.mono hle168
 replace fz163_f := fz163_f.mono hle168
 replace fz166_f := fz166_f.mono hle168
 obtain ⟨fz169_a, fz169_c, fz169_b, fz169_o, fz169_e, fz169_l, fz169_m, fz169_r⟩ := id fz169_f
 cases fz169_e
 have fr170_f := qr157.isRows fz169_f
 have fr170_len := qr157.1
 obtain ⟨fr170_a, fr170_c, fr170_b, fr170_o, fr170_vs, fr170_e, fr170_l, fr170_m, fr170_r, fr170_w⟩ := id fr170_f
 injection fr170_e with fr170_e1 fr170_e2 fr170_e3; subst fr170_e1; subst fr170_e3
 have hct178 := Reach_ct I167 _ (exYard) (3) (mkYard fz163_f fz166_f fr170_f) (by first | exact hG | exact hG.mono hI)
 refine sS (sc (some 32) (F := ((b48, Obj.cells #[.slice u0431_a (((play exYard [((⟨0, 1, 2⟩ : Shift))]).1).cars).length u0431_c, .slice u0432_a (((play exYard [((⟨0, 1, 2⟩ : Shift))]).1).room).length u0432_c, .slice u0433_a (((play exYard [((⟨0, 1, 2⟩ : Shift))]).1).tracks).length u0433_c] 26 (0, 0)) :: (Ms0137 ++ (Ms091 ++ F)))) (hct178 :) (.refl _) (fun rv176 I171 rm177 hle172 hp173 => ?_))
 obtain ⟨hv174, hm175⟩ := hp173
 rw [hv174, hm175]; clear hv174 hm175
 replace u0433_f := u0433_f.mono hle172
 refine nm ?_
 show Seq _ _ _ _ _ _ ((32, .tuple #[.int .i64 (((reachE exYard 3).1)), .int .i64 (((reachE exYard 3).2))]) :: _) _ _
 refine sp 5 [(8, .int .i64 (((reachE exYard 3).2))), (7, .int .i64 (((reachE exYard 3).1)))] ?_
 refine seq_re 7 rfl (show (.int .i64 (((reachE exYard 3).1)) : Value) = .int .i64 (4) from congrArg (Value.int .i64) (congrArg Prod.fst ex_reach)) ?_
 refine seq_re 8 rfl (show (.int .i64 (((reachE exYard 3).2)) : Value) = .int .i64 (0) from congrArg (Value.int .i64) (congrArg Prod.snd ex_reach)) ?_
 refine sn ?_
 have hct197 := yard_ct I171
 refine sS (sc (some 36) (F := ((b48, Obj.cells #[.slice u0431_a (((play exYard [((⟨0, 1, 2⟩ : Shift))]).1).cars).length u0431_c, .slice u0432_a (((play exYard [((⟨0, 1, 2⟩ : Shift))]).1).room).length u0432_c, .slice u0433_a (((play exYard [((⟨0, 1, 2⟩ : Shift))]).1).tracks).length u0433_c] 26 (0, 0)) :: (Ms0137 ++ (Ms091 ++ F)))) (hct197 :) (.refl _) (fun rv195 I179 rm196 hle180 hp181 => ?_))
 obtain ⟨u_0184, Ms_0185, u_1186, Ms_1187, u_2188, ws_2189, Ms_2190, hv182, hm183, qh191, qh192, qh193, qr194⟩ := hp181
 rw [hv182, hm183]; clear hv182 hm183
 replace u0433_f := u0433_f.mono hle180
 obtain ⟨u_0184_a, u_0184_c, u_0184_e, u_0184_l⟩ := qh191.shape
 subst u_0184_e
 obtain ⟨u_1186_a, u_1186_c, u_1186_e, u_1186_l⟩ := qh192.shape
 subst u_1186_e
 obtain ⟨u_2188_a, u_2188_c, u_2188_e, u_2188_l⟩ := qh193.shape
 subst u_2188_e
 have qr194_len := qr194.1
 try simp only [List.length_set, List.length_append, List.length_cons, List.length_nil, List.length_take] at qr194_len
 refine seq_mem (M' := ((Ms_0185 ++ (Ms_1187 ++ (Ms_2190 ++ (b48, Obj.cells #[.slice u0431_a (((play exYard [((⟨0, 1, 2⟩ : Shift))]).1).cars).length u0431_c, .slice u0432_a (((play exYard [((⟨0, 1, 2⟩ : Shift))]).1).room).length u0432_c, .slice u0433_a (((play exYard [((⟨0, 1, 2⟩ : Shift))]).1).tracks).length u0433_c] 26 (0, 0)) :: (Ms0137 ++ (Ms091 ++ F))))))) (fun w h => by simpa only [List.append_assoc, List.cons_append, List.nil_append] using h) ?_
 refine pm (M' := ((b48, Obj.cells #[.slice u0431_a (((play exYard [((⟨0, 1, 2⟩ : Shift))]).1).cars).length u0431_c, .slice u0432_a (((play exYard [((⟨0, 1, 2⟩ : Shift))]).1).room).length u0432_c, .slice u0433_a (((play exYard [((⟨0, 1, 2⟩ : Shift))]).1).tracks).length u0433_c] 26 (0, 0)) :: (Ms_0185 ++ (Ms_1187 ++ (Ms_2190 ++ (Ms0137 ++ (Ms091 ++ F))))))) ((List.Perm.append_left _ ((List.Perm.append_left _ List.perm_middle).trans List.perm_middle)).trans List.perm_middle) ?_
 show Seq _ _ _ _ _ _ ((36, .agg #[.slice u_0184_a exYard.cars.length u_0184_c, .slice u_1186_a exYard.room.length u_1186_c, .slice u_2188_a ws_2189.length u_2188_c]) :: _) _ _
 refine sfz (A := ((b48, Obj.cells #[.slice u0431_a (((play exYard [((⟨0, 1, 2⟩ : Shift))]).1).cars).length u0431_c, .slice u0432_a (((play exYard [((⟨0, 1, 2⟩ : Shift))]).1).room).length u0432_c, .slice u0433_a (((play exYard [((⟨0, 1, 2⟩ : Shift))]).1).tracks).length u0433_c] 26 (0, 0)) :: (Ms_1187 ++ (Ms_2190 ++ (Ms0137 ++ (Ms091 ++ F)))))) noCar qh191 (List.perm_middle.symm) (fun I198 hle199 fz200_f => ?_)
 replace u0433_f := u0433_f.mono hle199
 replace qr194 := qr194.mono hle199
 obtain ⟨fz200_a, fz200_c, fz200_b, fz200_o, fz200_e, fz200_l, fz200_m, fz200_r⟩ := id fz200_f
 cases fz200_e
 refine sfz (A := ((b48, Obj.cells #[.slice u0431_a (((play exYard [((⟨0, 1, 2⟩ : Shift))]).1).cars).length u0431_c, .slice u0432_a (((play exYard [((⟨0, 1, 2⟩ : Shift))]).1).room).length u0432_c, .slice u0433_a (((play exYard [((⟨0, 1, 2⟩ : Shift))]).1).tracks).length u0433_c] 26 (0, 0)) :: (Ms_2190 ++ (Ms0137 ++ (Ms091 ++ F))))) 0 qh192 (List.perm_middle.symm) (fun I201 hle202 fz203_f => ?_)
 replace u0433_f := u0433_f.mono hle202
 replace qr194 := qr194.mono hle202
 replace fz200_f := fz200_f.mono hle202
 obtain ⟨fz203_a, fz203_c, fz203_b, fz203_o, fz203_e, fz203_l, fz203_m, fz203_r⟩ := id fz203_f
 cases fz203_e
 refine sfz (A := ((b48, Obj.cells #[.slice u0431_a (((play exYard [((⟨0, 1, 2⟩ : Shift))]).1).cars).length u0431_c, .slice u0432_a (((play exYard [((⟨0, 1, 2⟩ : Shift))]).1).room).length u0432_c, .slice u0433_a (((play exYard [((⟨0, 1, 2⟩ : Shift))]).1).tracks).length u0433_c] 26 (0, 0)) :: (Ms0137 ++ (Ms091 ++ F)))) undef qh193 (List.perm_middle.symm) (fun I204 hle205 fz206_f => ?_)
 replace u0433_f := u0433_f.mono hle205
 replace qr194 := qr194.mono hle205
 replace fz200_f := fz200_f.mono hle205
 replace fz203_f := fz203_f.mono hle205
 obtain ⟨fz206_a, fz206_c, fz206_b, fz206_o, fz206_e, fz206_l, fz206_m, fz206_r⟩ := id fz206_f
 cases fz206_e
 have fr207_f := qr194.isRows fz206_f
 have fr207_len := qr194.1
 obtain ⟨fr207_a, fr207_c, fr207_b, fr207_o, fr207_vs, fr207_e, fr207_l, fr207_m, fr207_r, fr207_w⟩ := id fr207_f
 injection fr207_e with fr207_e1 fr207_e2 fr207_e3; subst fr207_e1; subst fr207_e3
 have hct217 := Warm_ct I204 _ (exYard) (mkYard fz200_f fz203_f fr207_f)
 refine sS (sc (some 37) (F := ((b48, Obj.cells #[.slice u0431_a (((play exYard [((⟨0, 1, 2⟩ : Shift))]).1).cars).length u0431_c, .slice u0432_a (((play exYard [((⟨0, 1, 2⟩ : Shift))]).1).room).length u0432_c, .slice u0433_a (((play exYard [((⟨0, 1, 2⟩ : Shift))]).1).tracks).length u0433_c] 26 (0, 0)) :: (Ms0137 ++ (Ms091 ++ F)))) (hct217 :) (.refl _) (fun rv215 I208 rm216 hle209 hp210 => ?_))
 obtain ⟨u0213, hv211, hm212, qf214⟩ := hp210
 rw [hv211, hm212]; clear hv211 hm212
 replace u0433_f := u0433_f.mono hle209
 have u0213_f := qf214
 obtain ⟨u0213_a, u0213_c, u0213_b, u0213_o, u0213_e, u0213_l, u0213_m, u0213_r⟩ := id u0213_f
 subst u0213_e
 refine nm ?_
 show Seq _ _ _ _ _ _ ((37, .tuple #[.slice u0213_a ((warmE exYard).1).length u0213_c, .int .i64 (((warmE exYard).2.1)), .int .i64 (((warmE exYard).2.2))]) :: _) _ _
 refine sp 7 [(11, .int .i64 (((warmE exYard).2.2))), (10, .int .i64 (((warmE exYard).2.1))), (9, .slice u0213_a ((warmE exYard).1).length u0213_c)] ?_
 refine seq_re 10 rfl (show (.int .i64 (((warmE exYard).2.1)) : Value) = .int .i64 (1) from congrArg (Value.int .i64) (congrArg (fun p => p.2.1) ex_warm)) ?_
 refine seq_re 11 rfl (show (.int .i64 (((warmE exYard).2.2)) : Value) = .int .i64 (0) from congrArg (Value.int .i64) (congrArg (fun p => p.2.2) ex_warm)) ?_
 refine sn ?_
 refine sp 1 [(41, .int .i64 (0))] ?_
 refine sd (dcm 42 .eql (0) (0) true (by rfl)) ?_
 refine sp 2 [(44, .int .i64 (0)), (43, .bool (true))] ?_
 refine sd (dcm 45 .eql (0) (0) true (by rfl)) ?_
 refine sp 3 [(48, .int .i64 (0)), (47, .bool (true))] ?_
 refine sd (dcm 49 .eql (0) (0) true (by rfl)) ?_
 refine sp 3 [(52, .int .i64 (0)), (51, .bool (true))] ?_
 refine sd (dcm 53 .eql (0) (0) true (by rfl)) ?_
 refine sp 3 [(56, .int .i64 (0)), (55, .bool (true))] ?_
 refine sd (dcm 57 .eql (0) (0) true (by rfl)) ?_
 refine sp 3 [(60, .int .i64 (4)), (59, .bool (true))] ?_
 refine sd (dcm 61 .eql (4) (4) true (by rfl)) ?_
 refine sp 3 [(64, .int .i64 (1)), (63, .bool (true))] ?_
 refine sd (dcm 65 .eql (1) (1) true (by rfl)) ?_
 refine sp 3 [(68, .pointer (some ⟨b48, 2, none⟩)), (67, .bool (true))] ?_
 refine sd (dlb 69 0 2 b48 (.slice u0433_a (((play exYard [((⟨0, 1, 2⟩ : Shift))]).1).tracks).length u0433_c)) ?_
 refine sS (sbs 70 3 2 #[.int .i64 (0), .int .i64 (1)] (fun b218 => ?_))
 refine sS (sbs 71 3 2 #[.int .i64 (2), .int .i64 (3)] (fun b220 => ?_))
 refine pm (M' := ((b220, Obj.cells #[.int .i64 (2), .int .i64 (3)] 3 (0, 0)) :: (b48, Obj.cells #[.slice u0431_a (((play exYard [((⟨0, 1, 2⟩ : Shift))]).1).cars).length u0431_c, .slice u0432_a (((play exYard [((⟨0, 1, 2⟩ : Shift))]).1).room).length u0432_c, .slice u0433_a (((play exYard [((⟨0, 1, 2⟩ : Shift))]).1).tracks).length u0433_c] 26 (0, 0)) :: ([(b218, Obj.cells #[.int .i64 (0), .int .i64 (1)] 3 (0, 0))] ++ (Ms0137 ++ (Ms091 ++ F))))) (List.Perm.cons _ (List.Perm.swap _ _ _)) ?_
 have ho222 : Own 3 1 intCell (.slice (some ⟨b218, 0, none⟩) 2 2) ([(0 : Int), (1 : Int)] : List Int) [(b218, Obj.cells #[.int .i64 (0), .int .i64 (1)] 3 (0, 0))] := Own.lit rfl rfl
 refine sfz (A := ((b220, Obj.cells #[.int .i64 (2), .int .i64 (3)] 3 (0, 0)) :: (b48, Obj.cells #[.slice u0431_a (((play exYard [((⟨0, 1, 2⟩ : Shift))]).1).cars).length u0431_c, .slice u0432_a (((play exYard [((⟨0, 1, 2⟩ : Shift))]).1).room).length u0432_c, .slice u0433_a (((play exYard [((⟨0, 1, 2⟩ : Shift))]).1).tracks).length u0433_c] 26 (0, 0)) :: (Ms0137 ++ (Ms091 ++ F)))) 0 ho222 ((List.Perm.cons _ (List.perm_middle.symm)).trans (List.perm_middle.symm)) (fun I223 hle224 fz225_f => ?_)
 replace u0433_f := u0433_f.mono hle224
 replace u0213_f := u0213_f.mono hle224
 obtain ⟨fz225_a, fz225_c, fz225_b, fz225_o, fz225_e, fz225_l, fz225_m, fz225_r⟩ := id fz225_f
 cases fz225_e
 refine pm (M' := ((b48, Obj.cells #[.slice u0431_a (((play exYard [((⟨0, 1, 2⟩ : Shift))]).1).cars).length u0431_c, .slice u0432_a (((play exYard [((⟨0, 1, 2⟩ : Shift))]).1).room).length u0432_c, .slice u0433_a (((play exYard [((⟨0, 1, 2⟩ : Shift))]).1).tracks).length u0433_c] 26 (0, 0)) :: ([(b220, Obj.cells #[.int .i64 (2), .int .i64 (3)] 3 (0, 0))] ++ (Ms0137 ++ (Ms091 ++ F))))) (List.Perm.swap _ _ _) ?_
 have ho226 : Own 3 1 intCell (.slice (some ⟨b220, 0, none⟩) 2 2) ([(2 : Int), (3 : Int)] : List Int) [(b220, Obj.cells #[.int .i64 (2), .int .i64 (3)] 3 (0, 0))] := Own.lit rfl rfl
 refine sfz (A := ((b48, Obj.cells #[.slice u0431_a (((play exYard [((⟨0, 1, 2⟩ : Shift))]).1).cars).length u0431_c, .slice u0432_a (((play exYard [((⟨0, 1, 2⟩ : Shift))]).1).room).length u0432_c, .slice u0433_a (((play exYard [((⟨0, 1, 2⟩ : Shift))]).1).tracks).length u0433_c] 26 (0, 0)) :: (Ms0137 ++ (Ms091 ++ F)))) 0 ho226 (List.perm_middle.symm) (fun I227 hle228 fz229_f => ?_)
 replace u0433_f := u0433_f.mono hle228
 replace u0213_f := u0213_f.mono hle228
 replace fz225_f := fz225_f.mono hle228
 obtain ⟨fz229_a, fz229_c, fz229_b, fz229_o, fz229_e, fz229_l, fz229_m, fz229_r⟩ := id fz229_f
 cases fz229_e
 refine sS (sbs 72 22 3 #[.slice (some ⟨b218, 0, none⟩) 2 2, .slice (some ⟨b220, 0, none⟩) 2 2, .slice none 0 0] (fun b230 => ?_))
 refine pm (M' := ((b48, Obj.cells #[.slice u0431_a (((play exYard [((⟨0, 1, 2⟩ : Shift))]).1).cars).length u0431_c, .slice u0432_a (((play exYard [((⟨0, 1, 2⟩ : Shift))]).1).room).length u0432_c, .slice u0433_a (((play exYard [((⟨0, 1, 2⟩ : Shift))]).1).tracks).length u0433_c] 26 (0, 0)) :: ([(b230, Obj.cells #[.slice (some ⟨b218, 0, none⟩) 2 2, .slice (some ⟨b220, 0, none⟩) 2 2, .slice none 0 0] 22 (0, 0))] ++ (Ms0137 ++ (Ms091 ++ F))))) (List.Perm.swap _ _ _) ?_
 have ho232 : Own 22 1 valCell (.slice (some ⟨b230, 0, none⟩) 3 3) ([(.slice (some ⟨b218, 0, none⟩) 2 2 : Value), (.slice (some ⟨b220, 0, none⟩) 2 2 : Value), (.slice none 0 0 : Value)] : List Value) [(b230, Obj.cells #[.slice (some ⟨b218, 0, none⟩) 2 2, .slice (some ⟨b220, 0, none⟩) 2 2, .slice none 0 0] 22 (0, 0))] := Own.lit rfl rfl
 have orw233 := ((((RowsV.nil I227).snoc fz225_f).snoc fz229_f).snoc (IsSl.nil _))
 simp only [List.nil_append, List.cons_append] at orw233
 refine sfz (A := ((b48, Obj.cells #[.slice u0431_a (((play exYard [((⟨0, 1, 2⟩ : Shift))]).1).cars).length u0431_c, .slice u0432_a (((play exYard [((⟨0, 1, 2⟩ : Shift))]).1).room).length u0432_c, .slice u0433_a (((play exYard [((⟨0, 1, 2⟩ : Shift))]).1).tracks).length u0433_c] 26 (0, 0)) :: (Ms0137 ++ (Ms091 ++ F)))) undef ho232 (List.perm_middle.symm) (fun I234 hle235 fz236_f => ?_)
 replace u0433_f := u0433_f.mono hle235
 replace u0213_f := u0213_f.mono hle235
 replace orw233 := orw233.mono hle235
 obtain ⟨fz236_a, fz236_c, fz236_b, fz236_o, fz236_e, fz236_l, fz236_m, fz236_r⟩ := id fz236_f
 cases fz236_e
 have fr237_f := orw233.isRows fz236_f
 have fr237_len := orw233.1
 obtain ⟨fr237_a, fr237_c, fr237_b, fr237_o, fr237_vs, fr237_e, fr237_l, fr237_m, fr237_r, fr237_w⟩ := id fr237_f
 injection fr237_e with fr237_e1 fr237_e2 fr237_e3; subst fr237_e1; subst fr237_e3
 refine sd (dc 73 (fun I' hI => (EqualRows_ct I' _ _ _ _ (u0433_f.mono hI) (fr237_f.mono hI) :))) ?_
 refine seq_re 73 rfl (show (.bool (decide ((((play exYard [((⟨0, 1, 2⟩ : Shift))]).1).tracks) = ([([(0 : Int), (1 : Int)] : List Int), ([(2 : Int), (3 : Int)] : List Int), []]))) : Value) = .bool (true) from congrArg Value.bool (decide_eq_true (ex_draw.2))) ?_
 refine sp 3 [(76, .slice u090_a ((fewestE exYard (([(0 : Int), (2 : Int), (3 : Int), (1 : Int)] : List Int))).1).length u090_c), (75, .bool (true))] ?_
 have hct248 := four_ct I234
 refine sS (sc (some 77) (F := ((b48, Obj.cells #[.slice u0431_a (((play exYard [((⟨0, 1, 2⟩ : Shift))]).1).cars).length u0431_c, .slice u0432_a (((play exYard [((⟨0, 1, 2⟩ : Shift))]).1).room).length u0432_c, .slice u0433_a (((play exYard [((⟨0, 1, 2⟩ : Shift))]).1).tracks).length u0433_c] 26 (0, 0)) :: (Ms0137 ++ (Ms091 ++ F)))) (hct248 :) (.refl _) (fun rv246 I238 rm247 hle239 hp240 => ?_))
 obtain ⟨u243, Ms244, hv241, hm242, qh245⟩ := hp240
 rw [hv241, hm242]; clear hv241 hm242
 replace u0213_f := u0213_f.mono hle239
 obtain ⟨u243_a, u243_c, u243_e, u243_l⟩ := qh245.shape
 subst u243_e
 refine pm (M' := ((b48, Obj.cells #[.slice u0431_a (((play exYard [((⟨0, 1, 2⟩ : Shift))]).1).cars).length u0431_c, .slice u0432_a (((play exYard [((⟨0, 1, 2⟩ : Shift))]).1).room).length u0432_c, .slice u0433_a (((play exYard [((⟨0, 1, 2⟩ : Shift))]).1).tracks).length u0433_c] 26 (0, 0)) :: (Ms244 ++ (Ms0137 ++ (Ms091 ++ F))))) List.perm_middle ?_
 show Seq _ _ _ _ _ _ ((77, .slice u243_a exFour.length u243_c) :: _) _ _
 have hfl : ((fewestE exYard [0, 2, 3, 1]).1).length ≤ 4 := by rw [ex_fewest.1]; decide
 refine sfz (A := ((b48, Obj.cells #[.slice u0431_a (((play exYard [((⟨0, 1, 2⟩ : Shift))]).1).cars).length u0431_c, .slice u0432_a (((play exYard [((⟨0, 1, 2⟩ : Shift))]).1).room).length u0432_c, .slice u0433_a (((play exYard [((⟨0, 1, 2⟩ : Shift))]).1).tracks).length u0433_c] 26 (0, 0)) :: (Ms244 ++ (Ms0137 ++ F)))) noShift qh92 ((List.Perm.cons _ ((List.Perm.append_left _ (List.perm_append_comm_assoc _ _ _)).trans (List.perm_append_comm_assoc _ _ _))).trans (List.perm_middle.symm)) (fun I249 hle250 fz251_f => ?_)
 replace u0213_f := u0213_f.mono hle250
 obtain ⟨fz251_a, fz251_c, fz251_b, fz251_o, fz251_e, fz251_l, fz251_m, fz251_r⟩ := id fz251_f
 cases fz251_e
 refine sfz (A := ((b48, Obj.cells #[.slice u0431_a (((play exYard [((⟨0, 1, 2⟩ : Shift))]).1).cars).length u0431_c, .slice u0432_a (((play exYard [((⟨0, 1, 2⟩ : Shift))]).1).room).length u0432_c, .slice u0433_a (((play exYard [((⟨0, 1, 2⟩ : Shift))]).1).tracks).length u0433_c] 26 (0, 0)) :: (Ms0137 ++ F))) noShift qh245 (List.perm_middle.symm) (fun I252 hle253 fz254_f => ?_)
 replace u0213_f := u0213_f.mono hle253
 replace fz251_f := fz251_f.mono hle253
 obtain ⟨fz254_a, fz254_c, fz254_b, fz254_o, fz254_e, fz254_l, fz254_m, fz254_r⟩ := id fz254_f
 cases fz254_e
 refine sd (dc 78 (fun I' hI => (EqualShifts_ct I' _ _ _ _ (fz251_f.mono hI) (fz254_f.mono hI) :))) ?_
 refine seq_re 78 rfl (show (.bool (decide (((fewestE exYard (([(0 : Int), (2 : Int), (3 : Int), (1 : Int)] : List Int))).1) = exFour)) : Value) = .bool (true) from congrArg Value.bool (decide_eq_true (ex_fewest.1))) ?_
 refine sp 3 [(81, .slice u0136_a ((lacksE exYard (([(1 : Int), (2 : Int), (3 : Int), (0 : Int)] : List Int))).1).length u0136_c), (80, .bool (true))] ?_
 refine sS (sbs 82 3 2 #[.int .i64 (1), .int .i64 (2)] (fun b255 => ?_))
 have hll : ((lacksE exYard [1, 2, 3, 0]).1).length ≤ 4 := by rw [ex_lacks.1]; decide
 refine sfz (A := ((b255, Obj.cells #[.int .i64 (1), .int .i64 (2)] 3 (0, 0)) :: (b48, Obj.cells #[.slice u0431_a (((play exYard [((⟨0, 1, 2⟩ : Shift))]).1).cars).length u0431_c, .slice u0432_a (((play exYard [((⟨0, 1, 2⟩ : Shift))]).1).room).length u0432_c, .slice u0433_a (((play exYard [((⟨0, 1, 2⟩ : Shift))]).1).tracks).length u0433_c] 26 (0, 0)) :: F)) 0 qh138 ((List.Perm.cons _ (List.perm_middle.symm)).trans (List.perm_middle.symm)) (fun I257 hle258 fz259_f => ?_)
 replace u0213_f := u0213_f.mono hle258
 obtain ⟨fz259_a, fz259_c, fz259_b, fz259_o, fz259_e, fz259_l, fz259_m, fz259_r⟩ := id fz259_f
 cases fz259_e
 refine pm (M' := ((b48, Obj.cells #[.slice u0431_a (((play exYard [((⟨0, 1, 2⟩ : Shift))]).1).cars).length u0431_c, .slice u0432_a (((play exYard [((⟨0, 1, 2⟩ : Shift))]).1).room).length u0432_c, .slice u0433_a (((play exYard [((⟨0, 1, 2⟩ : Shift))]).1).tracks).length u0433_c] 26 (0, 0)) :: ([(b255, Obj.cells #[.int .i64 (1), .int .i64 (2)] 3 (0, 0))] ++ F))) (List.Perm.swap _ _ _) ?_
 have ho260 : Own 3 1 intCell (.slice (some ⟨b255, 0, none⟩) 2 2) ([(1 : Int), (2 : Int)] : List Int) [(b255, Obj.cells #[.int .i64 (1), .int .i64 (2)] 3 (0, 0))] := Own.lit rfl rfl
 refine sfz (A := ((b48, Obj.cells #[.slice u0431_a (((play exYard [((⟨0, 1, 2⟩ : Shift))]).1).cars).length u0431_c, .slice u0432_a (((play exYard [((⟨0, 1, 2⟩ : Shift))]).1).room).length u0432_c, .slice u0433_a (((play exYard [((⟨0, 1, 2⟩ : Shift))]).1).tracks).length u0433_c] 26 (0, 0)) :: F)) 0 ho260 (List.perm_middle.symm) (fun I261 hle262 fz263_f => ?_)
 replace u0213_f := u0213_f.mono hle262
 replace fz259_f := fz259_f.mono hle262
 obtain ⟨fz263_a, fz263_c, fz263_b, fz263_o, fz263_e, fz263_l, fz263_m, fz263_r⟩ := id fz263_f
 cases fz263_e
 refine sd (dc 83 (fun I' hI => (EqualInts_ct I' _ _ _ _ (fz259_f.mono hI) (fz263_f.mono hI) :))) ?_
 refine seq_re 83 rfl (show (.bool (decide (((lacksE exYard (([(1 : Int), (2 : Int), (3 : Int), (0 : Int)] : List Int))).1) = (([(1 : Int), (2 : Int)] : List Int)))) : Value) = .bool (true) from congrArg Value.bool (decide_eq_true (ex_lacks.1))) ?_
 refine sp 3 [(86, .slice u0213_a ((warmE exYard).1).length u0213_c), (85, .bool (true))] ?_
 refine sS (sbs 87 3 4 #[.int .i64 (0), .int .i64 (2), .int .i64 (3), .int .i64 (1)] (fun b264 => ?_))
 refine pm (M' := ((b48, Obj.cells #[.slice u0431_a (((play exYard [((⟨0, 1, 2⟩ : Shift))]).1).cars).length u0431_c, .slice u0432_a (((play exYard [((⟨0, 1, 2⟩ : Shift))]).1).room).length u0432_c, .slice u0433_a (((play exYard [((⟨0, 1, 2⟩ : Shift))]).1).tracks).length u0433_c] 26 (0, 0)) :: ([(b264, Obj.cells #[.int .i64 (0), .int .i64 (2), .int .i64 (3), .int .i64 (1)] 3 (0, 0))] ++ F))) (List.Perm.swap _ _ _) ?_
 have ho266 : Own 3 1 intCell (.slice (some ⟨b264, 0, none⟩) 4 4) ([(0 : Int), (2 : Int), (3 : Int), (1 : Int)] : List Int) [(b264, Obj.cells #[.int .i64 (0), .int .i64 (2), .int .i64 (3), .int .i64 (1)] 3 (0, 0))] := Own.lit rfl rfl
 refine sfz (A := ((b48, Obj.cells #[.slice u0431_a (((play exYard [((⟨0, 1, 2⟩ : Shift))]).1).cars).length u0431_c, .slice u0432_a (((play exYard [((⟨0, 1, 2⟩ : Shift))]).1).room).length u0432_c, .slice u0433_a (((play exYard [((⟨0, 1, 2⟩ : Shift))]).1).tracks).length u0433_c] 26 (0, 0)) :: F)) 0 ho266 (List.perm_middle.symm) (fun I267 hle268 fz269_f => ?_)
 replace u0213_f := u0213_f.mono hle268
 obtain ⟨fz269_a, fz269_c, fz269_b, fz269_o, fz269_e, fz269_l, fz269_m, fz269_r⟩ := id fz269_f
 cases fz269_e
 refine sd (dc 88 (fun I' hI => (EqualInts_ct I' _ _ _ _ (u0213_f.mono hI) (fz269_f.mono hI) :))) ?_
 refine seq_re 88 rfl (show (.bool (decide (((warmE exYard).1) = (([(0 : Int), (2 : Int), (3 : Int), (1 : Int)] : List Int)))) : Value) = .bool (true) from congrArg Value.bool (decide_eq_true (congrArg Prod.fst ex_warm))) ?_
 refine sp 2 [(0, .bool (true))] ?_
 refine se ?_
 refine rret ?_
 refine pst_ret1 (t := 0) [] (by kernel_rfl) rfl (List.Sublist.cons _ (List.Sublist.refl _)) (Imm.le.trans (Imm.le.trans (Imm.le.trans (Imm.le.trans (Imm.le.trans (Imm.le.trans (Imm.le.trans (Imm.le.trans (Imm.le.trans (Imm.le.trans (Imm.le.trans (Imm.le.trans (Imm.le.trans (Imm.le.trans (Imm.le.trans (Imm.le.trans (Imm.le.trans (Imm.le.trans (Imm.le.trans (Imm.le.trans (Imm.le.trans (Imm.le.trans (Imm.le.trans (Imm.le.trans (Imm.le.trans (Imm.le.trans (Imm.le.trans (Imm.le.trans (Imm.le.trans (Imm.le.trans (Imm.le.trans (Imm.le.trans (Imm.le.trans (Imm.le.trans (Imm.le.trans (Imm.le.trans hle2 hle21) hle29) hle32) hle35) hle39) hle51) hle72) hle75) hle78) hle83) hle86) hle97) hle118) hle121) hle124) hle129) hle132) hle143) hle162) hle165) hle168) hle172) hle180) hle199) hle202) hle205) hle209) hle224) hle228) hle235) hle239) hle250) hle253) hle258) hle262) hle268) ?_
 exact ⟨rfl, rfl⟩

end Go.Proofs.YtcaocbhbofejnaaDoor
namespace Go.Sl
open Go
section
variable {P : Program} {N : Nat} {ops : Array Oper} {i : Nat} {l : Sl} {I : Imm} {R M : Seg} {ty : TypeId} {gd : Option (Nat × Bool)} {K : Sl → Imm → Seg → Prop} {d : Nat}
theorem stp_makeSlice {x : Operand} {T E bs n : Nat} {z zv : Value} (hop : opAt ops N i = some (some d, .makeSlice T x x, ty, gd)) (hg : gval ops l gd = some true)
    (hT : tyElem P T = some E) (hsz : tySize P E = some 1) (hz : tyZero P E = some z) (hzc : z.cells = #[zv]) (hb : tyBytes P E = some bs) (hbs : 1 ≤ bs ∧ bs ≤ 256)
    (hx : oval l x = some (.int .i64 (n : Int))) (hn : 0 < n ∧ n ≤ 1000000)
    (next : ∀ b, K ((d, .slice (some ⟨b, 0, none⟩) n n) :: l) I ((b, Obj.cells (List.replicate n zv).toArray E (0, 0)) :: M)) : Stp P N ops i l I M K := by
  have hinfo : ∃ inf, P.info? E = some inf ∧ inf.bytes = bs := by
    unfold tyBytes at hb
    cases hi : P.info? E with
    | none => rw [hi] at hb; cases hb
    | some inf => rw [hi] at hb; exact ⟨inf, rfl, by simpa using hb⟩
  obtain ⟨inf, hinf, hbytes⟩ := hinfo
  refine stp_of_wpL hop hg (known2 hx hx) ?_
  show wpL P (Instr.makeSlice T (rho l x) (rho l x) >>= fun x => pure (Next.value x)) _ I M
  refine wpL_val ?_
  rw [rho_of hx]
  have hw : IntKind.i64.wrap (n : Int) = (n : Int) := wrap64_id ⟨by omega, by omega⟩
  have hbig : ¬ ((inf.bytes : Int) * (n : Int) > 2 ^ 48) := by
    have h1 : inf.bytes * n ≤ 256 * 1000000 := Nat.mul_le_mul (by omega) hn.2
    have h2 : ((inf.bytes * n : Nat) : Int) ≤ ((256 * 1000000 : Nat) : Int) := Int.ofNat_le.2 h1
    rw [Int.natCast_mul] at h2
    omega
  unfold Instr.makeSlice
  rw [wpL_bind, wpL_underlying (tyElem_spec hT)]
  show wpL P (pure (n : Int) >>= _) _ I M
  rw [wpL_bind, wpL_pure]
  show wpL P (pure (n : Int) >>= _) _ I M
  rw [wpL_bind, wpL_pure, wpL_bind, wpL_typeInfo hinf]
  simp only [hw]
  have hc : (decide ((n : Int) < 0) || decide ((inf.bytes : Int) * (n : Int) > 2 ^ 48) || decide ((n : Int) < 0) || decide ((n : Int) > (n : Int))) = false := by
    rw [decide_eq_false (show ¬ (n : Int) < 0 by omega), decide_eq_false hbig, decide_eq_false (show ¬ (n : Int) > n by omega)]; rfl
  rw [if_neg (by rw [hc]; simp)]
  rw [wpL_bind]
  have hask : ∀ (n : Nat) (Q : Unit → Seg → Prop), Q () M → wpL P (askRoom n) Q I M := fun n Q hq => by
    unfold askRoom
    split <;> exact hq
  refine hask _ _ ?_
  rw [wpL_bind, wpL_sizeOf hsz]
  simp only [Int.toNat_natCast, Nat.mul_one]
  rw [if_neg (show ¬ n = 0 by omega), wpL_bind, wpL_zeroValue hz, wpL_bind, wpL_pure, wpL_bind]
  intro b
  refine ⟨_, .inl rfl, ?_⟩
  have e : (Array.range n).map (fun k => z.cells[k % z.cells.size]!) = (List.replicate n zv).toArray := by
    rw [hzc]
    apply Array.ext
    · simp
    · intro i h1 h2
      simp [Nat.mod_one]
  rw [e]
  exact next b
end
theorem encL_vals (vs : List Value) : encL 1 valCell vs = vs := by
  induction vs with
  | nil => rfl
  | cons v r ih =>
    have : encL 1 valCell (v :: r) = [v] ++ encL 1 valCell r := by simp [encL, valCell]
    rw [this, ih]; rfl
theorem Own.made {E : TypeId} {b n : Nat} (z : Value) : Own E 1 valCell (.slice (some ⟨b, 0, none⟩) n n) (List.replicate n z) [(b, Obj.cells (List.replicate n z).toArray E (0, 0))] :=
  .inr ⟨b, n, [], by simp, by simp, by rw [encL_vals]; simp, by simp [encL_vals]⟩

structure Lent (I J : Imm) (Ms : Seg) : Prop where
  free : ∀ b o, (b, o) ∈ Ms → I.blk b = none
  held : ∀ b o, (b, o) ∈ Ms → J.blk b = some o
  nodup : (Ms.map Prod.fst).Nodup
theorem Lent.mono {I J K : Imm} {Ms : Seg} (h : Lent I J Ms) (le : J.le K) : Lent I K Ms := ⟨h.free, fun b o hm => le.blk _ _ (h.held b o hm), h.nodup⟩
section
variable {ρ : Option Nat} {P : Program} {N : Nat} {ds : List Deferred} {l : Sl} {I : Imm} {M A B Ms : Seg} {Q : Exit → Act → World → Prop} {c : Code}
end
end Go.Sl
namespace Go.Sh
open Go Go.Sl

def gAt (cs : List Car) (i : Nat) : Int := (cs.getD i noCar).grp
structure CarsInv (cs : List Car) (g l : Int) : Prop where
  ok : ∀ c ∈ cs, carErr c = 0 ∧ c.len ≤ 3
  le : ∀ i, i < cs.length → gAt cs i ≤ g
  run : ∀ i j, i ≤ j → j < cs.length → gAt cs i = gAt cs j → gAt cs i ≠ 0 → ∀ m, i ≤ m → m ≤ j → gAt cs m = gAt cs i
  g0 : 0 ≤ g ∧ g ≤ 3
  l0 : 0 ≤ l ∧ l ≤ 2
  last : 0 < l → 1 ≤ g ∧ (0 < cs.length → gAt cs (cs.length - 1) = g ∨ ∀ i, i < cs.length → gAt cs i < g)
theorem CarsInv.nil : CarsInv [] 0 0 := ⟨fun c h => by simp at h, fun i h => by simp at h, fun i j _ h => by simp at h, by omega, by omega, fun h => by omega⟩
theorem CarsInv.group {cs : List Car} {g l l' : Int} (h : CarsInv cs g l) (hg : g < 3) (hl : 1 ≤ l' ∧ l' ≤ 2) : CarsInv cs (g + 1) l' := by
  have := h.g0
  refine ⟨h.ok, fun i hi => by have := h.le i hi; omega, h.run, by omega, by omega, fun _ => ⟨by omega, fun _ => .inr fun i hi => by have := h.le i hi; omega⟩⟩
theorem gAt_append {cs : List Car} {c : Car} {i : Nat} : gAt (cs ++ [c]) i = if i < cs.length then gAt cs i else if i = cs.length then c.grp else 0 := by
  unfold gAt
  simp only [List.getD]
  split
  · rename_i h; rw [List.getElem?_append_left h]
  · rename_i h
    rw [List.getElem?_append_right (by omega)]
    split
    · rename_i h2; simp [h2]
    · rename_i h2
      have : 1 ≤ i - cs.length := by omega
      cases hh : i - cs.length with
      | zero => omega
      | succ n => simp [noCar]
theorem CarsInv.snoc {cs : List Car} {g l : Int} (h : CarsInv cs g l) {c : Car} (hc : carErr c = 0 ∧ c.len ≤ 3) (hg : (0 < l → c.grp = g) ∧ (¬ 0 < l → c.grp = 0)) : CarsInv (cs ++ [c]) g (if 0 < l then l - 1 else l) := by
  have hg0 := h.g0; have hl0 := h.l0
  have hle : c.grp ≤ g := by by_cases hl : 0 < l; exact Int.le_of_eq (hg.1 hl); rw [hg.2 hl]; omega
  refine ⟨fun x hx => ?_, fun i hi => ?_, ?_, hg0, by split <;> omega, fun hl => ?_⟩
  · rcases List.mem_append.1 hx with hx | hx
    · exact h.ok x hx
    · simp at hx; subst hx; exact hc
  · rw [gAt_append]
    split
    · rename_i h1; exact h.le i h1
    · split
      · exact hle
      · omega
  · intro i j hij hj e h0 m him hmj
    simp only [List.length_append, List.length_cons, List.length_nil] at hj
    have A : ∀ x, x < cs.length → gAt (cs ++ [c]) x = gAt cs x := fun x hx => by rw [gAt_append, if_pos hx]
    have B : gAt (cs ++ [c]) cs.length = c.grp := by rw [gAt_append, if_neg (by omega), if_pos rfl]
    by_cases hj1 : j < cs.length
    · rw [A i (by omega)] at e h0 ⊢
      rw [A j hj1] at e
      rw [A m (by omega)]
      exact h.run i j hij hj1 e h0 m him hmj
    · have hj2 : j = cs.length := by omega
      subst hj2
      rw [B] at e
      by_cases hi1 : i < cs.length
      · rw [A i hi1] at e h0 ⊢
        by_cases hm1 : m < cs.length
        · rw [A m hm1]
          by_cases hl : 0 < l
          · have hcg := hg.1 hl
            rcases (h.last hl).2 (by omega) with hla | hla
            · exact h.run i (cs.length - 1) (by omega) (by omega) (by rw [hla]; omega) h0 m him (by omega)
            · have := hla i hi1; omega
          · have := hg.2 hl; omega
        · have hm2 : m = cs.length := by omega
          subst hm2
          rw [B]; exact e.symm
      · have hi2 : i = cs.length := by omega
        have hm2 : m = i := by omega
        rw [hm2]
  · have hl1 : 0 < l := by
      by_cases h1 : 0 < l
      · exact h1
      · rw [if_neg h1] at hl; exact hl
    have := h.last hl1
    refine ⟨this.1, fun _ => .inl ?_⟩
    have e : (cs ++ [c]).length - 1 = cs.length := by simp
    rw [e, gAt_append, if_neg (by omega), if_pos rfl]
    exact hg.1 hl1

structure Placed (cs : List Car) (T k a : Nat) (ts : List (List Int)) : Prop where
  len : ts.length = T
  a0 : a < T
  perm : ts.flatten.Perm (wholeL k)
  ex : ∃ tr : Nat → Nat, (∀ i, i < T → ts.getD i [] = (wholeL k).filter fun c => decide (tr c.toNat = i)) ∧ (∀ c, c < k → tr c < T) ∧ (∀ c, c + 1 < k → gAt cs (c + 1) ≠ 0 → gAt cs (c + 1) = gAt cs c → tr (c + 1) = tr c) ∧ (0 < k → tr (k - 1) = a)
theorem mem_wholeL {n : Nat} {c : Int} : c ∈ wholeL n ↔ 0 ≤ c ∧ c < n := by
  unfold wholeL
  simp only [List.mem_map, List.mem_range]
  constructor
  · rintro ⟨i, hi, rfl⟩; omega
  · intro h; exact ⟨c.toNat, by omega, by omega⟩
theorem Placed.start {cs : List Car} {T : Nat} (hT : 0 < T) : Placed cs T 0 0 (List.replicate T []) := by
  refine ⟨by simp, hT, by simp [wholeL], fun _ => 0, fun i hi => ?_, fun c h => by omega, fun c h => by omega, fun h => by omega⟩
  simp [wholeL, List.getD, hi]
theorem flatten_set_snoc : ∀ (ts : List (List Int)) (a : Nat) (x : Int), a < ts.length → (ts.set a (ts.getD a [] ++ [x])).flatten.Perm (ts.flatten ++ [x]) := by
  intro ts
  induction ts with
  | nil => intro a x h; simp at h
  | cons t r ih =>
    intro a x h
    cases a with
    | zero =>
      simp only [List.set_cons_zero, List.getD_cons_zero, List.flatten_cons, List.append_assoc]
      exact List.Perm.append_left t List.perm_append_comm
    | succ a =>
      simp only [List.set_cons_succ, List.getD_cons_succ, List.flatten_cons, List.append_assoc]
      exact List.Perm.append_left t (ih a x (by simpa using h))
theorem Placed.put {cs : List Car} {T k a a2 : Nat} {ts : List (List Int)} (h : Placed cs T k a ts) (h2 : a2 < T) (hs : k ≠ 0 → gAt cs k ≠ 0 → gAt cs k = gAt cs (k - 1) → a2 = a) :
    Placed cs T (k + 1) a2 (ts.set a2 (ts.getD a2 [] ++ [(k : Int)])) := by
  obtain ⟨tr, t1, t2, t3, t4⟩ := h.ex
  have hl := h.len
  refine ⟨by rw [List.length_set]; exact hl, h2, ?_, fun c => if c = k then a2 else tr c, fun i hi => ?_, fun c hc => ?_, fun c hc h0 he => ?_, fun _ => ?_⟩
  · rw [wholeL_succ]
    exact (flatten_set_snoc ts a2 k (by omega)).trans (List.Perm.append_right _ h.perm)
  · have hf : (wholeL k).filter (fun c => decide ((if c.toNat = k then a2 else tr c.toNat) = i)) = ts.getD i [] := by
      rw [t1 i hi]
      refine List.filter_congr fun c hc => ?_
      have := mem_wholeL.1 hc
      rw [if_neg (by omega)]
    rw [wholeL_succ, List.filter_append, hf]
    by_cases e : a2 = i
    · subst e
      simp [List.getD, List.getElem?_set, hl, hi]
    · simp [List.getD, List.getElem?_set, e]
  · show (if c = k then a2 else tr c) < T
    split
    · exact h2
    · exact t2 c (by omega)
  · show (if c + 1 = k then a2 else tr (c + 1)) = (if c = k then a2 else tr c)
    by_cases e1 : c + 1 = k
    · have e3 : ¬ c = k := by omega
      rw [if_pos e1, if_neg e3]
      have := hs (by omega) (by rw [← e1]; exact h0) (by rw [← e1]; exact he)
      rw [this, ← t4 (by omega), ← e1]; rfl
    · have e3 : ¬ c = k := by omega
      rw [if_neg e1, if_neg e3]
      exact t3 c (by omega) h0 he
  · simp
theorem sorted_prev {l : List Int} (hs : l.Pairwise (· < ·)) {j : Nat} (hj : j < l.length) (hm : l.getD j 0 - 1 ∈ l) : 0 < j ∧ l.getD (j - 1) 0 = l.getD j 0 - 1 := by
  obtain ⟨m, hm1, hm2⟩ := List.mem_iff_getElem.1 hm
  have hlt : ∀ (x y : Nat) (hx : x < l.length) (hy : y < l.length), x < y → l.getD x 0 < l.getD y 0 := fun x y hx hy h => by
    have := List.pairwise_iff_getElem.1 hs x y hx hy h
    simpa [List.getD, hx, hy] using this
  have e : l.getD m 0 = l.getD j 0 - 1 := by simpa [List.getD, hm1] using hm2
  have h1 : m < j := by
    rcases Nat.lt_trichotomy m j with h | h | h
    · exact h
    · subst h; omega
    · have := hlt j m hj hm1 h; omega
  rcases Nat.lt_or_ge m (j - 1) with h2 | h2
  · have a := hlt m (j - 1) hm1 (by omega) h2
    have b := hlt (j - 1) j (by omega) hj (by omega)
    omega
  · have : m = j - 1 := by omega
    subst this
    exact ⟨by omega, e⟩
theorem wholeL_sorted (n : Nat) : (wholeL n).Pairwise (· < ·) := by
  unfold wholeL
  rw [List.pairwise_map]
  exact List.pairwise_lt_range.imp fun h => by omega
theorem Placed.groups {cs : List Car} {T a : Nat} {ts : List (List Int)} {g l : Int} (h : Placed cs T cs.length a ts) (hc : CarsInv cs g l) : GrpFrom cs ts [] := by
  obtain ⟨tr, t1, t2, t3, t4⟩ := h.ex
  have hmem : ∀ i, i < T → ∀ c, c ∈ ts.getD i [] ↔ (0 ≤ c ∧ c < cs.length) ∧ tr c.toNat = i := fun i hi c => by
    rw [t1 i hi, List.mem_filter, mem_wholeL, decide_eq_true_eq]
  have hgrp : ∀ c : Int, grp cs c = gAt cs c.toNat := fun c => rfl
  have hrun : ∀ n x : Nat, x + n < cs.length → gAt cs x ≠ 0 → gAt cs x = gAt cs (x + n) → tr (x + n) = tr x := by
    intro n
    induction n with
    | zero => intro x _ _ _; rfl
    | succ n ih =>
      intro x hx h0 e
      have e1 : gAt cs (x + n) = gAt cs x := hc.run x (x + (n + 1)) (by omega) hx e h0 (x + n) (by omega) (by omega)
      have := ih x (by omega) h0 e1.symm
      rw [← this]
      exact t3 (x + n) (by omega) (by rw [show x + n + 1 = x + (n + 1) by omega, ← e]; exact h0) (by rw [show x + n + 1 = x + (n + 1) by omega, ← e, e1])
  have hrun2 : ∀ x y : Nat, x < cs.length → y < cs.length → gAt cs x ≠ 0 → gAt cs x = gAt cs y → tr x = tr y := fun x y hx hy h0 e => by
    rcases Nat.le_total x y with hxy | hxy
    · have := hrun (y - x) x (by omega) h0 (by rw [show x + (y - x) = y by omega]; exact e)
      rw [show x + (y - x) = y by omega] at this
      exact this.symm
    · have := hrun (x - y) y (by omega) (by rw [← e]; exact h0) (by rw [show y + (x - y) = x by omega]; exact e.symm)
      rw [show y + (x - y) = x by omega] at this
      exact this
  intro i j hi hj h0 hm
  rw [h.len] at hi
  have hcm : (ts.getD i []).getD j 0 ∈ ts.getD i [] := getD_mem hj
  obtain ⟨⟨c0, c1⟩, c2⟩ := (hmem i hi _).1 hcm
  generalize hcc : (ts.getD i []).getD j 0 = c at hcm c0 c1 c2 h0 hm
  rcases hm with hm | ⟨c', hc', e⟩
  · simp at hm
  · rw [hgrp, hgrp] at e
    rw [hgrp] at h0
    have hs : (ts.getD i []).Pairwise (· < ·) := by rw [t1 i hi]; exact (wholeL_sorted _).sublist List.filter_sublist
    have hc2 : (0 ≤ c' ∧ c' < cs.length) ∧ (tr c'.toNat < i ∨ c' ∈ (ts.getD i []).take j) := by
      rcases List.mem_append.1 hc' with hx | hx
      · obtain ⟨t, ht, hx⟩ := List.mem_flatten.1 hx
        obtain ⟨m, hm1, hm2⟩ := List.mem_iff_getElem.1 ht
        have hm3 : m < i ∧ m < ts.length := by rw [List.length_take] at hm1; omega
        have e3 : ts.getD m [] = t := by rw [← hm2]; simp [List.getD, hm3.2]
        rw [← e3] at hx
        obtain ⟨hb, ht2⟩ := (hmem m (by rw [← h.len]; exact hm3.2) _).1 hx
        exact ⟨hb, .inl (by omega)⟩
      · exact ⟨((hmem i hi _).1 (List.mem_of_mem_take hx)).1, .inr hx⟩
    obtain ⟨⟨d0, d1⟩, hd⟩ := hc2
    have htr := hrun2 c.toNat c'.toNat (by omega) (by omega) (by omega) e.symm
    rcases hd with hd | hd
    · omega
    · obtain ⟨m, hm1, hm2⟩ := List.mem_iff_getElem.1 hd
      have hm3 : m < j ∧ m < (ts.getD i []).length := by rw [List.length_take] at hm1; omega
      have hlt : c' < c := by
        have h1 := List.pairwise_iff_getElem.1 hs m j hm3.2 hj hm3.1
        have e1 : c' = (ts.getD i [])[m] := by rw [← hm2]; simp
        have e2 : c = (ts.getD i [])[j] := by rw [← hcc, List.getD, List.getElem?_eq_getElem hj]; rfl
        rw [e1, e2]; exact h1
      have e4 : gAt cs (c.toNat - 1) = gAt cs c'.toNat := hc.run c'.toNat c.toNat (by omega) (by omega) e (by omega) (c.toNat - 1) (by omega) (by omega)
      have e5 : tr (c.toNat - 1) = i := by
        have := hrun2 (c.toNat - 1) c.toNat (by omega) (by omega) (by omega) (by omega)
        omega
      have hin : c - 1 ∈ ts.getD i [] := (hmem i hi _).2 ⟨by omega, by rw [show (c - 1).toNat = c.toNat - 1 by omega]; exact e5⟩
      have hp := sorted_prev hs hj (by rw [hcc]; exact hin)
      rw [hcc] at hp
      unfold coupled
      have e6 : ((j : Int) - 1).toNat = j - 1 := by omega
      rw [show (↑j : Int).toNat = j by omega, e6, hp.2, hcc]
      have e7 : inB ↑j 1 (↑(ts.getD i []).length - 1) = true := by simp only [inB, Bool.and_eq_true, decide_eq_true_eq]; omega
      rw [e7]
      have e8 : (carAt cs c).grp = (carAt cs (c - 1)).grp := by
        show gAt cs c.toNat = gAt cs (c - 1).toNat
        rw [show (c - 1).toNat = c.toNat - 1 by omega]; omega
      rw [decide_eq_true (show 0 < (carAt cs c).grp from h0), decide_eq_true e8]; rfl

structure Roomy (cs : List Car) (ts : List (List Int)) (k : Nat) (rm : List Int) : Prop where
  len : rm.length = k
  ok : ∀ n ∈ rm, 0 ≤ n ∧ n ≤ 20
  fits : ∀ i, i < k → lenOf cs (ts.getD i []) ≤ rm.getD i 0
theorem Roomy.nil (cs : List Car) (ts : List (List Int)) : Roomy cs ts 0 [] := ⟨rfl, fun n h => by simp at h, fun i h => by omega⟩
theorem Roomy.snoc {cs : List Car} {ts : List (List Int)} {k : Nat} {rm : List Int} (h : Roomy cs ts k rm) {n : Int} (hn : 0 ≤ n ∧ n ≤ 20) (hf : lenOf cs (ts.getD k []) ≤ n) : Roomy cs ts (k + 1) (rm ++ [n]) := by
  have hl := h.len
  refine ⟨by simp [hl], fun x hx => ?_, fun i hi => ?_⟩
  · rcases List.mem_append.1 hx with hx | hx
    · exact h.ok x hx
    · simp at hx; subst hx; exact hn
  · by_cases e : i < k
    · have := h.fits i e
      have e2 : (rm ++ [n]).getD i 0 = rm.getD i 0 := by simp only [List.getD]; rw [List.getElem?_append_left (by omega)]
      rw [e2]; exact this
    · have : i = k := by omega
      subst this
      have e2 : (rm ++ [n]).getD i 0 = n := by simp only [List.getD]; rw [List.getElem?_append_right (by omega), hl]; simp
      rw [e2]; exact hf
theorem carAt_len {cs : List Car} {g l : Int} (h : CarsInv cs g l) (c : Int) : 0 ≤ (carAt cs c).len ∧ (carAt cs c).len ≤ 3 := by
  unfold carAt
  by_cases hc : c.toNat < cs.length
  · have h1 := h.ok _ (getD_mem (d := noCar) hc)
    have := carOk_range h1.1
    omega
  · simp [List.getD, List.getElem?_eq_none (Nat.le_of_not_lt hc), noCar]
theorem lenOf_3 {cs : List Car} {g l : Int} (h : CarsInv cs g l) (t : List Int) : 0 ≤ lenOf cs t ∧ lenOf cs t ≤ 3 * t.length := by
  induction t with
  | nil => simp [lenOf]
  | cons c t ih =>
    have := carAt_len h c
    simp only [lenOf, List.map_cons, List.sum_cons, List.length_cons] at ih ⊢
    omega
theorem Placed.tracks {cs : List Car} {T k a : Nat} {ts : List (List Int)} (h : Placed cs T k a ts) : ts.flatten.length = k := by rw [h.perm.length_eq, wholeL_length]
theorem Placed.tlen {cs : List Car} {T k a : Nat} {ts : List (List Int)} (h : Placed cs T k a ts) (i : Nat) : (ts.getD i []).length ≤ k := by
  by_cases hi : i < ts.length
  · have := mem_le_flatten (getD_mem (d := []) hi)
    rw [h.tracks] at this; exact this
  · simp [List.getD, List.getElem?_eq_none (Nat.le_of_not_lt hi)]
theorem drawn_valid {cs : List Car} {T a : Nat} {ts : List (List Int)} {rm : List Int} {g l : Int} (hc : CarsInv cs g l) (hp : Placed cs T cs.length a ts) (hr : Roomy cs ts T rm) (h5 : cs.length ≤ 5) (h3 : T ≤ 3) : Valid ⟨cs, rm, ts⟩ := by
  have hT := hp.a0
  refine Fine.valid ⟨h5, fun c hx => (hc.ok c hx).1, by show 0 < rm.length; rw [hr.len]; omega, by show rm.length ≤ 3; rw [hr.len]; exact h3, fun n hn => ?_, by show ts.length = rm.length; rw [hr.len, hp.len], fun t ht c hc2 => ?_, ?_, fun k hk => hr.fits k (by rw [← hp.len]; exact hk), by show cs.length ≤ ts.flatten.length; rw [hp.tracks]; exact Nat.le_refl _, groups_iff.2 (hp.groups hc)⟩
  · have := hr.ok n hn; simp [inB]; omega
  · have : c ∈ wholeL cs.length := hp.perm.mem_iff.1 (List.mem_flatten.2 ⟨t, ht, hc2⟩)
    exact mem_wholeL.1 this
  · show ts.flatten.Nodup
    exact (hp.perm.nodup_iff).2 ((wholeL_sorted _).imp fun h e => by omega)
end Go.Sh
namespace Go.Sh
open Go Go.Sl
theorem carErr_mk {a b c d : Int} {p h : Bool} (h1 : 1 ≤ a ∧ a ≤ 3) (h2 : 1 ≤ b ∧ b ≤ 60) (h3 : 0 ≤ c ∧ c ≤ b) (h4 : 0 ≤ d ∧ d ≤ 3) : carErr ⟨a, b, c, d, p, h⟩ = 0 ∧ a ≤ 3 := by
  refine ⟨?_, h1.2⟩
  unfold carErr
  rw [if_pos]
  simp only [inB, Bool.and_eq_true, decide_eq_true_eq]
  omega
theorem Placed.tl {cs : List Car} {T k a : Nat} {ts : List (List Int)} (h : Placed cs T k a ts) : ∀ t ∈ ts, t.length ≤ k := fun t ht => by
  have := mem_le_flatten ht
  rw [h.tracks] at this; exact this
theorem Placed.okAll {cs : List Car} {T a : Nat} {ts : List (List Int)} (h : Placed cs T cs.length a ts) : OkAll cs ts := fun t ht c hc =>
  mem_wholeL.1 (h.perm.mem_iff.1 (List.mem_flatten.2 ⟨t, ht, hc⟩))
end Go.Sh
namespace Go.Proofs.YtcaocbhbofejnaaDoor
open Go Go.Sl Go.Sh
set_option maxRecDepth 100000
noncomputable def c_YardOf (p : List Nat) : Code := sub (bodyOf Tryd.f7) p
set_option maxHeartbeats 1000000 in
theorem YardOf_ct (I : Imm) (p : Nat) (p_s : Int) (c : Nat) (s : Nat) (hc : c ≤ 1000) (hs : s ≤ 1000) : Ct Tryd.prog 7 #[.pointer (some ⟨p, 0, none⟩), .int .i64 ↑c, .int .i64 ↑s] I ([(p, Obj.cells #[.int .u64 (p_s)] 65 (0, 0))]) (fun v I' M' => ∃ p_t : Int, ∃ Y : Yard, ∃ u_0 : Value, ∃ Ms_0 : Seg, ∃ u_1 : Value, ∃ Ms_1 : Seg, ∃ u_2 : Value, ∃ ws_2 : List Value, ∃ Ms_2 : Seg, v = .agg #[u_0, u_1, u_2] ∧ M' = [(p, Obj.cells #[.int .u64 (p_t)] 65 (0, 0))] ++ (Ms_0 ++ (Ms_1 ++ (Ms_2))) ∧ (Valid Y) ∧ (Y.cars.length ≤ c) ∧ Own 40 6 carCell u_0 ((Y).cars) Ms_0 ∧ Own 3 1 intCell u_1 ((Y).room) Ms_1 ∧ Own 22 1 valCell u_2 ws_2 Ms_2 ∧ RowsV I' ws_2 ((Y).tracks)) := by
 refine fn_of_run (fn := Tryd.f7) (args := [_, _, _]) (N := 179) Tryd.func7 rfl (by kernel_rfl) (Nat.le_of_ble_eq_true rfl) (fun F => ?_)
 show Run _ _ (c_YardOf []) _ _ [(0, .pointer (some ⟨p, 0, none⟩)), (1, .int .i64 (↑c)), (2, .int .i64 (↑s))] _ _
 refine rnm ?_
 refine rqr ?_
 refine sS (sal 6 26 #[.slice none 0 0, .slice none 0 0, .slice none 0 0] (fun b1 => ?_))
 refine sn ?_
 refine sS (sal 7 26 #[.slice none 0 0, .slice none 0 0, .slice none 0 0] (fun b3 => ?_))
 refine sn ?_
 refine sp 3 [(20, .int .i64 ((if (5 : Int) < (↑c : Int) then 5 else ↑c))), (18, .pointer (some ⟨p, 0, none⟩))] ?_
 have hct15 := Up_ct I (p) (p_s) ((if (5 : Int) < (↑c : Int) then 5 else ↑c)) (by omega)
 refine sS (sc (some 21) (F := ((b3, Obj.cells #[.slice none 0 0, .slice none 0 0, .slice none 0 0] 26 (0, 0)) :: (b1, Obj.cells #[.slice none 0 0, .slice none 0 0, .slice none 0 0] 26 (0, 0)) :: F)) (hct15 :) ((List.Perm.cons _ (List.Perm.swap _ _ _)).trans (List.Perm.swap _ _ _)) (fun rv13 I5 rm14 hle6 hp7 => ?_))
 obtain ⟨p_t10, n11, hv8, hm9, qp12⟩ := hp7
 rw [hv8, hm9]; clear hv8 hm9
 refine nm ?_
 show Seq _ _ _ _ _ _ ((21, .int .i64 (↑n11)) :: _) _ _
 refine sp 1 [(8, .int .i64 (↑n11))] ?_
 have hn5 : n11 ≤ 5 ∧ n11 ≤ c := by
  have hq := qp12
  split at hq <;> omega
 refine sn ?_
 refine sp 2 [(10, .int .i64 (0)), (9, .int .i64 (0))] ?_
 refine se ?_
 refine rq ?_
 refine rqr ?_
 refine sp 1 [(11, .int .i64 (0))] ?_
 refine se ?_
 refine rb 0 ?_
 refine rl (fun mz a w => ∃ J0 : Imm, ∃ k : Nat, ∃ cs : List Car, ∃ g : Int, ∃ l : Int, ∃ bs : Int, ∃ ov0_c7_0 : Value, ∃ oM0_c7_0 : Seg, (I5.le J0) ∧ (k ≤ n11) ∧ (cs.length = k) ∧ (CarsInv cs g l) ∧ (Own 40 6 carCell ov0_c7_0 (cs) oM0_c7_0) ∧ Slots 179 [(9, .int .i64 g), (10, .int .i64 l), (11, .int .i64 ↑k), (0, .pointer (some ⟨p, 0, none⟩)), (2, .int .i64 (↑s)), (6, .pointer (some ⟨b1, 0, none⟩)), (7, .pointer (some ⟨b3, 0, none⟩)), (8, .int .i64 (↑n11))] a ∧ a.defers = [] ∧ St J0 ((p, Obj.cells #[.int .u64 (bs)] 65 (0, 0)) :: (b3, Obj.cells #[ov0_c7_0, .slice none 0 0, .slice none 0 0] 26 (0, 0)) :: (b1, Obj.cells #[.slice none 0 0, .slice none 0 0, .slice none 0 0] 26 (0, 0)) :: (oM0_c7_0 ++ F)) w ∧ mz = n11 - k) ?_ ?_
 ·intro a w hS hD hW
  exact ⟨_, I5, 0, [], 0, 0, p_t10, (.slice none 0 0), [], Imm.le.refl _, Nat.zero_le _, rfl, CarsInv.nil, (Own.nil _ _ _), hS.sub (.cons 9 rfl (.cons 10 rfl (.cons 11 rfl (.cons 0 rfl (.cons 2 rfl (.cons 6 rfl (.cons 7 rfl (.cons 8 rfl (.nil _))))))))), hD, hW, rfl⟩
 ·rintro mz a w ⟨J0, k, cs, g, l, bs, ov0_c7_0, oM0_c7_0, hJ0, hk, hcl, hci, oh0_c7_0, hS, hD, hW, rfl⟩
  refine run_at hS hD hW ?_
  clear hS hD hW a w
  obtain ⟨ov0_c7_0_a, ov0_c7_0_c, ov0_c7_0_e, ov0_c7_0_l⟩ := oh0_c7_0.shape; subst ov0_c7_0_e
  have hg0 := hci.g0; have hl0 := hci.l0
  refine rq ?_
  refine rqr ?_
  refine sp 3 [(24, .bool (cmp .lss (↑k) (↑n11)))] ?_
  refine se ?_
  refine rc 24 rfl (fun h1 => ?_) (fun h1 => ?_)
  ·
   have h1_r := h1
   have h1 := lss_t h1
   refine rskip ?_
   refine pst_next ?_
   refine rq ?_
   refine rb 1 ?_
   refine rqr ?_
   refine sp 2 [(28, .pointer (some ⟨p, 0, none⟩)), (27, .pointer (some ⟨p, 0, none⟩))] ?_
   have hct26 := From_ct J0 (p) (bs) (1) (3) (by omega) (by omega)
   refine sS (sc (some 29) (F := ((b3, Obj.cells #[.slice ov0_c7_0_a cs.length ov0_c7_0_c, .slice none 0 0, .slice none 0 0] 26 (0, 0)) :: (b1, Obj.cells #[.slice none 0 0, .slice none 0 0, .slice none 0 0] 26 (0, 0)) :: (oM0_c7_0 ++ F))) (hct26 :) (.refl _) (fun rv24 I16 rm25 hle17 hp18 => ?_))
   obtain ⟨p_t21, r22, hv19, hm20, qp23⟩ := hp18
   rw [hv19, hm20]; clear hv19 hm20
   refine nm ?_
   show Seq _ _ _ _ _ _ ((29, .int .i64 ((r22))) :: _) _ _
   refine sS (sbs 30 3 3 #[.int .i64 (1), .int .i64 (1), .int .i64 ((r22))] (fun b27 => ?_))
   refine pm (M' := ((p, Obj.cells #[.int .u64 (p_t21)] 65 (0, 0)) :: (b3, Obj.cells #[.slice ov0_c7_0_a cs.length ov0_c7_0_c, .slice none 0 0, .slice none 0 0] 26 (0, 0)) :: (b1, Obj.cells #[.slice none 0 0, .slice none 0 0, .slice none 0 0] 26 (0, 0)) :: ([(b27, Obj.cells #[.int .i64 (1), .int .i64 (1), .int .i64 ((r22))] 3 (0, 0))] ++ (oM0_c7_0 ++ F)))) ((List.Perm.swap _ _ _).trans (List.Perm.cons _ ((List.Perm.swap _ _ _).trans (List.Perm.cons _ (List.Perm.swap _ _ _))))) ?_
   have ho29 : Own 3 1 intCell (.slice (some ⟨b27, 0, none⟩) 3 3) ([(1 : Int), (1 : Int), ((r22) : Int)] : List Int) [(b27, Obj.cells #[.int .i64 (1), .int .i64 (1), .int .i64 ((r22))] 3 (0, 0))] := Own.lit rfl rfl
   refine sfz (A := ((p, Obj.cells #[.int .u64 (p_t21)] 65 (0, 0)) :: (b3, Obj.cells #[.slice ov0_c7_0_a cs.length ov0_c7_0_c, .slice none 0 0, .slice none 0 0] 26 (0, 0)) :: (b1, Obj.cells #[.slice none 0 0, .slice none 0 0, .slice none 0 0] 26 (0, 0)) :: (oM0_c7_0 ++ F))) 0 ho29 ((List.Perm.cons _ ((List.Perm.cons _ (List.perm_middle.symm)).trans (List.perm_middle.symm))).trans (List.perm_middle.symm)) (fun I30 hle31 fz32_f => ?_)
   obtain ⟨fz32_a, fz32_c, fz32_b, fz32_o, fz32_e, fz32_l, fz32_m, fz32_r⟩ := id fz32_f
   cases fz32_e
   have hct43 := One_ct I30 (p) (p_t21) _ _ fz32_f (by simp)
   refine sS (sc (some 31) (F := ((b3, Obj.cells #[.slice ov0_c7_0_a cs.length ov0_c7_0_c, .slice none 0 0, .slice none 0 0] 26 (0, 0)) :: (b1, Obj.cells #[.slice none 0 0, .slice none 0 0, .slice none 0 0] 26 (0, 0)) :: (oM0_c7_0 ++ F))) (hct43 :) (.refl _) (fun rv41 I33 rm42 hle34 hp35 => ?_))
   obtain ⟨p_t38, r39, hv36, hm37, qp40⟩ := hp35
   rw [hv36, hm37]; clear hv36 hm37
   refine nm ?_
   show Seq _ _ _ _ _ _ ((31, .int .i64 ((r39))) :: _) _ _
   have hl3 : 1 ≤ (r39) ∧ (r39) ≤ 3 := by
    have hq := qp40
    simp only [List.mem_cons, List.not_mem_nil, or_false] at hq
    omega
   refine sp 1 [(32, .pointer (some ⟨p, 0, none⟩))] ?_
   have hct54 := From_ct I33 (p) (p_t38) (5) (60) (by omega) (by omega)
   refine sS (sc (some 33) (F := ((b3, Obj.cells #[.slice ov0_c7_0_a cs.length ov0_c7_0_c, .slice none 0 0, .slice none 0 0] 26 (0, 0)) :: (b1, Obj.cells #[.slice none 0 0, .slice none 0 0, .slice none 0 0] 26 (0, 0)) :: (oM0_c7_0 ++ F))) (hct54 :) (.refl _) (fun rv52 I44 rm53 hle45 hp46 => ?_))
   obtain ⟨p_t49, r50, hv47, hm48, qp51⟩ := hp46
   rw [hv47, hm48]; clear hv47 hm48
   refine nm ?_
   show Seq _ _ _ _ _ _ ((33, .int .i64 ((r50))) :: _) _ _
   refine sp 1 [(34, .pointer (some ⟨p, 0, none⟩))] ?_
   have hct64 := Chance_ct I44 (p) (p_t49) (2) (3) (by omega)
   refine sS (sc (some 35) (F := ((b3, Obj.cells #[.slice ov0_c7_0_a cs.length ov0_c7_0_c, .slice none 0 0, .slice none 0 0] 26 (0, 0)) :: (b1, Obj.cells #[.slice none 0 0, .slice none 0 0, .slice none 0 0] 26 (0, 0)) :: (oM0_c7_0 ++ F))) (hct64 :) (.refl _) (fun rv62 I55 rm63 hle56 hp57 => ?_))
   obtain ⟨p_t60, r61, hv58, hm59⟩ := hp57
   rw [hv58, hm59]; clear hv58 hm59
   refine nm ?_
   show Seq _ _ _ _ _ _ ((35, .bool (r61)) :: _) _ _
   refine sp 1 [(36, .pointer (some ⟨p, 0, none⟩))] ?_
   have hct74 := Chance_ct I55 (p) (p_t60) (2) (3) (by omega)
   refine sS (sc (some 37) (F := ((b3, Obj.cells #[.slice ov0_c7_0_a cs.length ov0_c7_0_c, .slice none 0 0, .slice none 0 0] 26 (0, 0)) :: (b1, Obj.cells #[.slice none 0 0, .slice none 0 0, .slice none 0 0] 26 (0, 0)) :: (oM0_c7_0 ++ F))) (hct74 :) (.refl _) (fun rv72 I65 rm73 hle66 hp67 => ?_))
   obtain ⟨p_t70, r71, hv68, hm69⟩ := hp67
   rw [hv68, hm69]; clear hv68 hm69
   refine nm ?_
   show Seq _ _ _ _ _ _ ((37, .bool (r71)) :: _) _ _
   refine sp 1 [(38, .agg #[.int .i64 ((r39)), .int .i64 ((r50)), .int .i64 (0), .int .i64 (0), .bool (r61), .bool (r71)])] ?_
   refine sS (sal 12 40 #[.int .i64 (0), .int .i64 (0), .int .i64 (0), .int .i64 (0), .bool (false), .bool (false)] (fun b75 => ?_))
   refine sS (ss 0 0 b75 [.int .i64 ((r39)), .int .i64 ((r50)), .int .i64 (0), .int .i64 (0), .bool (r61), .bool (r71)] [.int .i64 ((r39)), .int .i64 ((r50)), .int .i64 (0), .int .i64 (0), .bool (r61), .bool (r71)] (_ :: _ :: _ :: _ :: _) (cs := [_, _, _, _, _, _]) rfl rfl ?_)
   refine sn ?_
   refine sp 2 [(40, .pointer (some ⟨b75, 1, none⟩)), (39, .pointer (some ⟨p, 0, none⟩))] ?_
   refine sd (dlb 41 0 1 b75 (.int .i64 ((r50)))) ?_
   have hct87 := Up_ct I65 (p) (p_t70) ((r50)) (by omega)
   refine sS (sc (some 42) (F := ((b75, Obj.cells #[.int .i64 ((r39)), .int .i64 ((r50)), .int .i64 (0), .int .i64 (0), .bool (r61), .bool (r71)] 40 (0, 0)) :: (b3, Obj.cells #[.slice ov0_c7_0_a cs.length ov0_c7_0_c, .slice none 0 0, .slice none 0 0] 26 (0, 0)) :: (b1, Obj.cells #[.slice none 0 0, .slice none 0 0, .slice none 0 0] 26 (0, 0)) :: (oM0_c7_0 ++ F))) (hct87 :) (List.Perm.swap _ _ _) (fun rv85 I77 rm86 hle78 hp79 => ?_))
   obtain ⟨p_t82, n83, hv80, hm81, qp84⟩ := hp79
   rw [hv80, hm81]; clear hv80 hm81
   refine nm ?_
   show Seq _ _ _ _ _ _ ((42, .int .i64 (↑n83)) :: _) _ _
   refine sp 1 [(43, .pointer (some ⟨b75, 2, none⟩))] ?_
   refine sS (ss 1 2 b75 [.int .i64 (↑n83)] [.int .i64 ((r39)), .int .i64 ((r50)), .int .i64 (↑n83), .int .i64 (0), .bool (r61), .bool (r71)] (_ :: _ :: _ :: _ :: _) (cs := [_, _, _, _, _, _]) rfl rfl ?_)
   refine se ?_
   refine rq ?_
   refine rqr ?_
   refine sp 3 [(46, .bool (cmp .eql (l) (0)))] ?_
   refine seq_split 46 rfl (fun h2 => ?_) (fun h2 => ?_)
   ·
    have h2_b := h2
    have h2_b := eql_t h2_b
    refine sp 4 [(50, .bool (cmp .lss (g) (3)))] ?_
    refine seq_split 50 rfl (fun h3 => ?_) (fun h3 => ?_)
    ·
     have h3_b := h3
     have h3_b := lss_t h3_b
     refine sp 1 [(51, .pointer (some ⟨p, 0, none⟩))] ?_
     have hct97 := Chance_ct I77 (p) (p_t82) (1) (4) (by omega)
     refine sS (sc (some 52) (F := ((b75, Obj.cells #[.int .i64 ((r39)), .int .i64 ((r50)), .int .i64 (↑n83), .int .i64 (0), .bool (r61), .bool (r71)] 40 (0, 0)) :: (b3, Obj.cells #[.slice ov0_c7_0_a cs.length ov0_c7_0_c, .slice none 0 0, .slice none 0 0] 26 (0, 0)) :: (b1, Obj.cells #[.slice none 0 0, .slice none 0 0, .slice none 0 0] 26 (0, 0)) :: (oM0_c7_0 ++ F))) (hct97 :) (.refl _) (fun rv95 I88 rm96 hle89 hp90 => ?_))
     obtain ⟨p_t93, r94, hv91, hm92⟩ := hp90
     rw [hv91, hm92]; clear hv91 hm92
     refine nm ?_
     show Seq _ _ _ _ _ _ ((52, .bool (r94)) :: _) _ _
     refine sp 1 [(53, .bool (r94))] ?_
     refine se ?_
     refine rc 53 rfl (fun h4 => ?_) (fun h4 => ?_)
     ·
      have h4_r := h4
      refine rr ?_
      refine sp 1 [(54, .int .i64 (g))] ?_
      refine sd (da 55 (g) (1)) ?_
      refine sp 1 [(56, .pointer (some ⟨p, 0, none⟩))] ?_
      have hct108 := From_ct I88 (p) (p_t93) (1) (2) (by omega) (by omega)
      refine sS (sc (some 57) (F := ((b75, Obj.cells #[.int .i64 ((r39)), .int .i64 ((r50)), .int .i64 (↑n83), .int .i64 (0), .bool (r61), .bool (r71)] 40 (0, 0)) :: (b3, Obj.cells #[.slice ov0_c7_0_a cs.length ov0_c7_0_c, .slice none 0 0, .slice none 0 0] 26 (0, 0)) :: (b1, Obj.cells #[.slice none 0 0, .slice none 0 0, .slice none 0 0] 26 (0, 0)) :: (oM0_c7_0 ++ F))) (hct108 :) (.refl _) (fun rv106 I98 rm107 hle99 hp100 => ?_))
      obtain ⟨p_t103, r104, hv101, hm102, qp105⟩ := hp100
      rw [hv101, hm102]; clear hv101 hm102
      refine nm ?_
      show Seq _ _ _ _ _ _ ((57, .int .i64 ((r104))) :: _) _ _
      refine sp 2 [(10, .int .i64 ((r104))), (9, .int .i64 (g + 1))] ?_
      refine se ?_
      refine rq ?_
      refine rqr ?_
      refine sp 2 [(59, .bool (cmp .gtr ((r104)) (0)))] ?_
      refine se ?_
      refine rc 59 rfl (fun h5 => ?_) (fun h5 => ?_)
      ·
       have h5_r := h5
       have h5 := gtr_t h5
       refine rr ?_
       refine sp 2 [(61, .int .i64 ((r104))), (60, .int .i64 (g + 1))] ?_
       refine sd (dsb 62 ((r104)) (1)) ?_
       refine sp 1 [(63, .pointer (some ⟨b75, 3, none⟩))] ?_
       refine sS (ss 1 3 b75 [.int .i64 (g + 1)] [.int .i64 ((r39)), .int .i64 ((r50)), .int .i64 (↑n83), .int .i64 (g + 1), .bool (r61), .bool (r71)] (_ :: _ :: _ :: _ :: _) (cs := [_, _, _, _, _, _]) rfl rfl ?_)
       refine sp 1 [(10, .int .i64 (((r104)) - 1))] ?_
       refine se ?_
       refine rr ?_
       refine sp 1 [(64, .pointer (some ⟨b3, 0, none⟩))] ?_
       refine sd (dlb 65 2 0 b3 (.slice ov0_c7_0_a cs.length ov0_c7_0_c)) ?_
       refine sd (dnb 66 1 0 b75 [.int .i64 ((r39)), .int .i64 ((r50)), .int .i64 (↑n83), .int .i64 (g + 1), .bool (r61), .bool (r71)]) ?_
       refine sS (sbs 67 40 1 #[.int .i64 ((r39)), .int .i64 ((r50)), .int .i64 (↑n83), .int .i64 (g + 1), .bool (r61), .bool (r71)] (fun b109 => ?_))
       refine sS (stp_append (d := 68) (x := (.tmp 65)) (y := (.tmp 67)) (T := 23) (T' := 23) (E := 40) (E' := 40) (sz := 6) (bs := 40) (z := .agg #[.int .i64 (0), .int .i64 (0), .int .i64 (0), .int .i64 (0), .bool (false), .bool (false)]) (cell := carCell) (xs := cs) (ys := [(⟨(r39), (r50), ↑n83, g + 1, r61, r71⟩ : Car)]) (Ms := oM0_c7_0) (ty := 23) (gd := none) (by kernel_rfl) rfl (by kernel_rfl) (by kernel_rfl) (by kernel_rfl) (by kernel_rfl) (by kernel_rfl) (by decide) (by kernel_rfl) rfl rfl (oh0_c7_0) ((List.Perm.cons _ ((List.Perm.cons _ ((List.Perm.cons _ ((List.Perm.cons _ (List.perm_middle.symm)).trans (List.perm_middle.symm))).trans (List.perm_middle.symm))).trans (List.perm_middle.symm))).trans (List.perm_middle.symm)) (one_carCell _) (src_atS 0 rfl rfl) (by first | omega | (simp only [List.length_cons, List.length_nil, List.length_append, List.length_take, List.length_drop]; omega)) (fun v111 Ms111 ho111 => ?_))
       refine seq_mem (M' := ((p, Obj.cells #[.int .u64 (p_t103)] 65 (0, 0)) :: (b75, Obj.cells #[.int .i64 ((r39)), .int .i64 ((r50)), .int .i64 (↑n83), .int .i64 (g + 1), .bool (r61), .bool (r71)] 40 (0, 0)) :: (b3, Obj.cells #[.slice ov0_c7_0_a cs.length ov0_c7_0_c, .slice none 0 0, .slice none 0 0] 26 (0, 0)) :: (b1, Obj.cells #[.slice none 0 0, .slice none 0 0, .slice none 0 0] 26 (0, 0)) :: (Ms111 ++ F))) (fun w h => (h.perm (List.perm_middle.trans (List.Perm.cons _ (List.perm_middle.trans (List.Perm.cons _ (List.perm_middle.trans (List.Perm.cons _ (List.perm_middle.trans (List.Perm.cons _ List.perm_middle))))))))).sub (List.Sublist.cons _ (List.Sublist.refl _))) ?_
       obtain ⟨oa111, oc111, oe111, ol111⟩ := ho111.shape
       subst oe111
       show Seq _ _ _ _ _ _ ((68, .slice oa111 (cs ++ ([(⟨(r39), (r50), ↑n83, g + 1, r61, r71⟩ : Car)])).length oc111) :: _) _ _
       refine sp 1 [(69, .pointer (some ⟨b3, 0, none⟩))] ?_
       refine sS (ss 2 0 b3 [.slice oa111 (cs ++ ([(⟨(r39), (r50), ↑n83, g + 1, r61, r71⟩ : Car)])).length oc111] [.slice oa111 (cs ++ ([(⟨(r39), (r50), ↑n83, g + 1, r61, r71⟩ : Car)])).length oc111, .slice none 0 0, .slice none 0 0] (_ :: _ :: _ :: _ :: _) (cs := [_, _, _]) rfl rfl ?_)
       refine ee ?_
       refine pst_normal_block ?_
       refine pst_next ?_
       refine rr ?_
       refine sp 1 [(25, .int .i64 (↑k))] ?_
       refine sd (da 26 (↑k) (1)) ?_
       refine sp 1 [(11, .int .i64 (↑k + 1))] ?_
       refine ee ?_
       refine pst_back (n11 - (k+1)) (by omega) ?_
       intro a w hS hD hW
       exact ⟨I98, k+1, cs ++ [(⟨(r39), (r50), ↑n83, g + 1, r61, r71⟩ : Car)], g + 1, ((r104)) - 1, p_t103, .slice oa111 (cs ++ ([(⟨(r39), (r50), ↑n83, g + 1, r61, r71⟩ : Car)])).length oc111, Ms111, (Imm.le.trans (Imm.le.trans (Imm.le.trans (Imm.le.trans (Imm.le.trans (Imm.le.trans (Imm.le.trans (Imm.le.trans (Imm.le.trans hJ0 hle17) hle31) hle34) hle45) hle56) hle66) hle78) hle89) hle99), by omega, by simp only [List.length_append, List.length_cons, List.length_nil]; omega, (by have hh := CarsInv.snoc (hci.group (by omega) (by omega)) (c := (⟨(r39), (r50), ↑n83, g + 1, r61, r71⟩ : Car)) (carErr_mk (by omega) (by omega) (by omega) (by have hgg := hci.g0; omega)) ⟨fun _ => rfl, fun hh => absurd h5 hh⟩; rw [if_pos h5] at hh; exact hh), ho111, hS.sub (.consE 9 rfl rfl (.consE 10 rfl rfl (.consE 11 rfl rfl (.cons 0 rfl (.cons 2 rfl (.cons 6 rfl (.cons 7 rfl (.cons 8 rfl (.nil _))))))))), hD, (hW.perm (List.Perm.swap _ _ _)).sub (List.Sublist.cons _ (List.Sublist.refl _)), rfl⟩
      ·
       have h5_r := h5
       have h5 := gtr_f h5
       refine rskip ?_
       refine pst_next ?_
       refine rr ?_
       refine sp 1 [(64, .pointer (some ⟨b3, 0, none⟩))] ?_
       refine sd (dlb 65 2 0 b3 (.slice ov0_c7_0_a cs.length ov0_c7_0_c)) ?_
       refine sd (dnb 66 1 0 b75 [.int .i64 ((r39)), .int .i64 ((r50)), .int .i64 (↑n83), .int .i64 (0), .bool (r61), .bool (r71)]) ?_
       refine sS (sbs 67 40 1 #[.int .i64 ((r39)), .int .i64 ((r50)), .int .i64 (↑n83), .int .i64 (0), .bool (r61), .bool (r71)] (fun b112 => ?_))
       refine sS (stp_append (d := 68) (x := (.tmp 65)) (y := (.tmp 67)) (T := 23) (T' := 23) (E := 40) (E' := 40) (sz := 6) (bs := 40) (z := .agg #[.int .i64 (0), .int .i64 (0), .int .i64 (0), .int .i64 (0), .bool (false), .bool (false)]) (cell := carCell) (xs := cs) (ys := [(⟨(r39), (r50), ↑n83, 0, r61, r71⟩ : Car)]) (Ms := oM0_c7_0) (ty := 23) (gd := none) (by kernel_rfl) rfl (by kernel_rfl) (by kernel_rfl) (by kernel_rfl) (by kernel_rfl) (by kernel_rfl) (by decide) (by kernel_rfl) rfl rfl (oh0_c7_0) ((List.Perm.cons _ ((List.Perm.cons _ ((List.Perm.cons _ ((List.Perm.cons _ (List.perm_middle.symm)).trans (List.perm_middle.symm))).trans (List.perm_middle.symm))).trans (List.perm_middle.symm))).trans (List.perm_middle.symm)) (one_carCell _) (src_atS 0 rfl rfl) (by first | omega | (simp only [List.length_cons, List.length_nil, List.length_append, List.length_take, List.length_drop]; omega)) (fun v114 Ms114 ho114 => ?_))
       refine seq_mem (M' := ((p, Obj.cells #[.int .u64 (p_t103)] 65 (0, 0)) :: (b75, Obj.cells #[.int .i64 ((r39)), .int .i64 ((r50)), .int .i64 (↑n83), .int .i64 (0), .bool (r61), .bool (r71)] 40 (0, 0)) :: (b3, Obj.cells #[.slice ov0_c7_0_a cs.length ov0_c7_0_c, .slice none 0 0, .slice none 0 0] 26 (0, 0)) :: (b1, Obj.cells #[.slice none 0 0, .slice none 0 0, .slice none 0 0] 26 (0, 0)) :: (Ms114 ++ F))) (fun w h => (h.perm (List.perm_middle.trans (List.Perm.cons _ (List.perm_middle.trans (List.Perm.cons _ (List.perm_middle.trans (List.Perm.cons _ (List.perm_middle.trans (List.Perm.cons _ List.perm_middle))))))))).sub (List.Sublist.cons _ (List.Sublist.refl _))) ?_
       obtain ⟨oa114, oc114, oe114, ol114⟩ := ho114.shape
       subst oe114
       show Seq _ _ _ _ _ _ ((68, .slice oa114 (cs ++ ([(⟨(r39), (r50), ↑n83, 0, r61, r71⟩ : Car)])).length oc114) :: _) _ _
       refine sp 1 [(69, .pointer (some ⟨b3, 0, none⟩))] ?_
       refine sS (ss 2 0 b3 [.slice oa114 (cs ++ ([(⟨(r39), (r50), ↑n83, 0, r61, r71⟩ : Car)])).length oc114] [.slice oa114 (cs ++ ([(⟨(r39), (r50), ↑n83, 0, r61, r71⟩ : Car)])).length oc114, .slice none 0 0, .slice none 0 0] (_ :: _ :: _ :: _ :: _) (cs := [_, _, _]) rfl rfl ?_)
       refine ee ?_
       refine pst_normal_block ?_
       refine pst_next ?_
       refine rr ?_
       refine sp 1 [(25, .int .i64 (↑k))] ?_
       refine sd (da 26 (↑k) (1)) ?_
       refine sp 1 [(11, .int .i64 (↑k + 1))] ?_
       refine ee ?_
       refine pst_back (n11 - (k+1)) (by omega) ?_
       intro a w hS hD hW
       exact ⟨I98, k+1, cs ++ [(⟨(r39), (r50), ↑n83, 0, r61, r71⟩ : Car)], g + 1, (r104), p_t103, .slice oa114 (cs ++ ([(⟨(r39), (r50), ↑n83, 0, r61, r71⟩ : Car)])).length oc114, Ms114, (Imm.le.trans (Imm.le.trans (Imm.le.trans (Imm.le.trans (Imm.le.trans (Imm.le.trans (Imm.le.trans (Imm.le.trans (Imm.le.trans hJ0 hle17) hle31) hle34) hle45) hle56) hle66) hle78) hle89) hle99), by omega, by simp only [List.length_append, List.length_cons, List.length_nil]; omega, (by have hh := CarsInv.snoc (hci.group (by omega) (by omega)) (c := (⟨(r39), (r50), ↑n83, 0, r61, r71⟩ : Car)) (carErr_mk (by omega) (by omega) (by omega) (by have hgg := hci.g0; omega)) ⟨fun hh => absurd hh (by omega), fun _ => rfl⟩; rw [if_neg (show ¬ (0 < (r104)) by omega)] at hh; exact hh), ho114, hS.sub (.consE 9 rfl rfl (.consE 10 rfl rfl (.consE 11 rfl rfl (.cons 0 rfl (.cons 2 rfl (.cons 6 rfl (.cons 7 rfl (.cons 8 rfl (.nil _))))))))), hD, (hW.perm (List.Perm.swap _ _ _)).sub (List.Sublist.cons _ (List.Sublist.refl _)), rfl⟩
     ·
      have h4_r := h4
      refine rskip ?_
      refine pst_next ?_
      refine rq ?_
      refine rqr ?_
      refine sp 2 [(59, .bool (cmp .gtr (l) (0)))] ?_
      refine se ?_
      refine rc 59 rfl (fun h6 => ?_) (fun h6 => ?_)
      ·
       have h6_r := h6
       have h6 := gtr_t h6
       refine rr ?_
       refine sp 2 [(61, .int .i64 (l)), (60, .int .i64 (g))] ?_
       refine sd (dsb 62 (l) (1)) ?_
       refine sp 1 [(63, .pointer (some ⟨b75, 3, none⟩))] ?_
       refine sS (ss 1 3 b75 [.int .i64 (g)] [.int .i64 ((r39)), .int .i64 ((r50)), .int .i64 (↑n83), .int .i64 (g), .bool (r61), .bool (r71)] (_ :: _ :: _ :: _ :: _) (cs := [_, _, _, _, _, _]) rfl rfl ?_)
       refine sp 1 [(10, .int .i64 (l - 1))] ?_
       refine se ?_
       refine rr ?_
       refine sp 1 [(64, .pointer (some ⟨b3, 0, none⟩))] ?_
       refine sd (dlb 65 2 0 b3 (.slice ov0_c7_0_a cs.length ov0_c7_0_c)) ?_
       refine sd (dnb 66 1 0 b75 [.int .i64 ((r39)), .int .i64 ((r50)), .int .i64 (↑n83), .int .i64 (g), .bool (r61), .bool (r71)]) ?_
       refine sS (sbs 67 40 1 #[.int .i64 ((r39)), .int .i64 ((r50)), .int .i64 (↑n83), .int .i64 (g), .bool (r61), .bool (r71)] (fun b115 => ?_))
       refine sS (stp_append (d := 68) (x := (.tmp 65)) (y := (.tmp 67)) (T := 23) (T' := 23) (E := 40) (E' := 40) (sz := 6) (bs := 40) (z := .agg #[.int .i64 (0), .int .i64 (0), .int .i64 (0), .int .i64 (0), .bool (false), .bool (false)]) (cell := carCell) (xs := cs) (ys := [(⟨(r39), (r50), ↑n83, g, r61, r71⟩ : Car)]) (Ms := oM0_c7_0) (ty := 23) (gd := none) (by kernel_rfl) rfl (by kernel_rfl) (by kernel_rfl) (by kernel_rfl) (by kernel_rfl) (by kernel_rfl) (by decide) (by kernel_rfl) rfl rfl (oh0_c7_0) ((List.Perm.cons _ ((List.Perm.cons _ ((List.Perm.cons _ ((List.Perm.cons _ (List.perm_middle.symm)).trans (List.perm_middle.symm))).trans (List.perm_middle.symm))).trans (List.perm_middle.symm))).trans (List.perm_middle.symm)) (one_carCell _) (src_atS 0 rfl rfl) (by first | omega | (simp only [List.length_cons, List.length_nil, List.length_append, List.length_take, List.length_drop]; omega)) (fun v117 Ms117 ho117 => ?_))
       refine seq_mem (M' := ((p, Obj.cells #[.int .u64 (p_t93)] 65 (0, 0)) :: (b75, Obj.cells #[.int .i64 ((r39)), .int .i64 ((r50)), .int .i64 (↑n83), .int .i64 (g), .bool (r61), .bool (r71)] 40 (0, 0)) :: (b3, Obj.cells #[.slice ov0_c7_0_a cs.length ov0_c7_0_c, .slice none 0 0, .slice none 0 0] 26 (0, 0)) :: (b1, Obj.cells #[.slice none 0 0, .slice none 0 0, .slice none 0 0] 26 (0, 0)) :: (Ms117 ++ F))) (fun w h => (h.perm (List.perm_middle.trans (List.Perm.cons _ (List.perm_middle.trans (List.Perm.cons _ (List.perm_middle.trans (List.Perm.cons _ (List.perm_middle.trans (List.Perm.cons _ List.perm_middle))))))))).sub (List.Sublist.cons _ (List.Sublist.refl _))) ?_
       obtain ⟨oa117, oc117, oe117, ol117⟩ := ho117.shape
       subst oe117
       show Seq _ _ _ _ _ _ ((68, .slice oa117 (cs ++ ([(⟨(r39), (r50), ↑n83, g, r61, r71⟩ : Car)])).length oc117) :: _) _ _
       refine sp 1 [(69, .pointer (some ⟨b3, 0, none⟩))] ?_
       refine sS (ss 2 0 b3 [.slice oa117 (cs ++ ([(⟨(r39), (r50), ↑n83, g, r61, r71⟩ : Car)])).length oc117] [.slice oa117 (cs ++ ([(⟨(r39), (r50), ↑n83, g, r61, r71⟩ : Car)])).length oc117, .slice none 0 0, .slice none 0 0] (_ :: _ :: _ :: _ :: _) (cs := [_, _, _]) rfl rfl ?_)
       refine ee ?_
       refine pst_normal_block ?_
       refine pst_next ?_
       refine rr ?_
       refine sp 1 [(25, .int .i64 (↑k))] ?_
       refine sd (da 26 (↑k) (1)) ?_
       refine sp 1 [(11, .int .i64 (↑k + 1))] ?_
       refine ee ?_
       refine pst_back (n11 - (k+1)) (by omega) ?_
       intro a w hS hD hW
       exact ⟨I88, k+1, cs ++ [(⟨(r39), (r50), ↑n83, g, r61, r71⟩ : Car)], g, l - 1, p_t93, .slice oa117 (cs ++ ([(⟨(r39), (r50), ↑n83, g, r61, r71⟩ : Car)])).length oc117, Ms117, (Imm.le.trans (Imm.le.trans (Imm.le.trans (Imm.le.trans (Imm.le.trans (Imm.le.trans (Imm.le.trans (Imm.le.trans hJ0 hle17) hle31) hle34) hle45) hle56) hle66) hle78) hle89), by omega, by simp only [List.length_append, List.length_cons, List.length_nil]; omega, (by have hh := CarsInv.snoc (hci) (c := (⟨(r39), (r50), ↑n83, g, r61, r71⟩ : Car)) (carErr_mk (by omega) (by omega) (by omega) (by have hgg := hci.g0; omega)) ⟨fun _ => rfl, fun hh => absurd h6 hh⟩; rw [if_pos h6] at hh; exact hh), ho117, hS.sub (.consE 9 rfl rfl (.consE 10 rfl rfl (.consE 11 rfl rfl (.cons 0 rfl (.cons 2 rfl (.cons 6 rfl (.cons 7 rfl (.cons 8 rfl (.nil _))))))))), hD, (hW.perm (List.Perm.swap _ _ _)).sub (List.Sublist.cons _ (List.Sublist.refl _)), rfl⟩
      ·
       have h6_r := h6
       have h6 := gtr_f h6
       refine rskip ?_
       refine pst_next ?_
       refine rr ?_
       refine sp 1 [(64, .pointer (some ⟨b3, 0, none⟩))] ?_
       refine sd (dlb 65 2 0 b3 (.slice ov0_c7_0_a cs.length ov0_c7_0_c)) ?_
       refine sd (dnb 66 1 0 b75 [.int .i64 ((r39)), .int .i64 ((r50)), .int .i64 (↑n83), .int .i64 (0), .bool (r61), .bool (r71)]) ?_
       refine sS (sbs 67 40 1 #[.int .i64 ((r39)), .int .i64 ((r50)), .int .i64 (↑n83), .int .i64 (0), .bool (r61), .bool (r71)] (fun b118 => ?_))
       refine sS (stp_append (d := 68) (x := (.tmp 65)) (y := (.tmp 67)) (T := 23) (T' := 23) (E := 40) (E' := 40) (sz := 6) (bs := 40) (z := .agg #[.int .i64 (0), .int .i64 (0), .int .i64 (0), .int .i64 (0), .bool (false), .bool (false)]) (cell := carCell) (xs := cs) (ys := [(⟨(r39), (r50), ↑n83, 0, r61, r71⟩ : Car)]) (Ms := oM0_c7_0) (ty := 23) (gd := none) (by kernel_rfl) rfl (by kernel_rfl) (by kernel_rfl) (by kernel_rfl) (by kernel_rfl) (by kernel_rfl) (by decide) (by kernel_rfl) rfl rfl (oh0_c7_0) ((List.Perm.cons _ ((List.Perm.cons _ ((List.Perm.cons _ ((List.Perm.cons _ (List.perm_middle.symm)).trans (List.perm_middle.symm))).trans (List.perm_middle.symm))).trans (List.perm_middle.symm))).trans (List.perm_middle.symm)) (one_carCell _) (src_atS 0 rfl rfl) (by first | omega | (simp only [List.length_cons, List.length_nil, List.length_append, List.length_take, List.length_drop]; omega)) (fun v120 Ms120 ho120 => ?_))
       refine seq_mem (M' := ((p, Obj.cells #[.int .u64 (p_t93)] 65 (0, 0)) :: (b75, Obj.cells #[.int .i64 ((r39)), .int .i64 ((r50)), .int .i64 (↑n83), .int .i64 (0), .bool (r61), .bool (r71)] 40 (0, 0)) :: (b3, Obj.cells #[.slice ov0_c7_0_a cs.length ov0_c7_0_c, .slice none 0 0, .slice none 0 0] 26 (0, 0)) :: (b1, Obj.cells #[.slice none 0 0, .slice none 0 0, .slice none 0 0] 26 (0, 0)) :: (Ms120 ++ F))) (fun w h => (h.perm (List.perm_middle.trans (List.Perm.cons _ (List.perm_middle.trans (List.Perm.cons _ (List.perm_middle.trans (List.Perm.cons _ (List.perm_middle.trans (List.Perm.cons _ List.perm_middle))))))))).sub (List.Sublist.cons _ (List.Sublist.refl _))) ?_
       obtain ⟨oa120, oc120, oe120, ol120⟩ := ho120.shape
       subst oe120
       show Seq _ _ _ _ _ _ ((68, .slice oa120 (cs ++ ([(⟨(r39), (r50), ↑n83, 0, r61, r71⟩ : Car)])).length oc120) :: _) _ _
       refine sp 1 [(69, .pointer (some ⟨b3, 0, none⟩))] ?_
       refine sS (ss 2 0 b3 [.slice oa120 (cs ++ ([(⟨(r39), (r50), ↑n83, 0, r61, r71⟩ : Car)])).length oc120] [.slice oa120 (cs ++ ([(⟨(r39), (r50), ↑n83, 0, r61, r71⟩ : Car)])).length oc120, .slice none 0 0, .slice none 0 0] (_ :: _ :: _ :: _ :: _) (cs := [_, _, _]) rfl rfl ?_)
       refine ee ?_
       refine pst_normal_block ?_
       refine pst_next ?_
       refine rr ?_
       refine sp 1 [(25, .int .i64 (↑k))] ?_
       refine sd (da 26 (↑k) (1)) ?_
       refine sp 1 [(11, .int .i64 (↑k + 1))] ?_
       refine ee ?_
       refine pst_back (n11 - (k+1)) (by omega) ?_
       intro a w hS hD hW
       exact ⟨I88, k+1, cs ++ [(⟨(r39), (r50), ↑n83, 0, r61, r71⟩ : Car)], g, l, p_t93, .slice oa120 (cs ++ ([(⟨(r39), (r50), ↑n83, 0, r61, r71⟩ : Car)])).length oc120, Ms120, (Imm.le.trans (Imm.le.trans (Imm.le.trans (Imm.le.trans (Imm.le.trans (Imm.le.trans (Imm.le.trans (Imm.le.trans hJ0 hle17) hle31) hle34) hle45) hle56) hle66) hle78) hle89), by omega, by simp only [List.length_append, List.length_cons, List.length_nil]; omega, (by have hh := CarsInv.snoc (hci) (c := (⟨(r39), (r50), ↑n83, 0, r61, r71⟩ : Car)) (carErr_mk (by omega) (by omega) (by omega) (by have hgg := hci.g0; omega)) ⟨fun hh => absurd hh (by omega), fun _ => rfl⟩; rw [if_neg (show ¬ (0 < l) by omega)] at hh; exact hh), ho120, hS.sub (.consE 9 rfl rfl (.consE 10 rfl rfl (.consE 11 rfl rfl (.cons 0 rfl (.cons 2 rfl (.cons 6 rfl (.cons 7 rfl (.cons 8 rfl (.nil _))))))))), hD, (hW.perm (List.Perm.swap _ _ _)).sub (List.Sublist.cons _ (List.Sublist.refl _)), rfl⟩
    ·
     have h3_b := h3
     have h3_b := lss_f h3_b
     refine sp 3 [(53, .bool (false))] ?_
     refine se ?_
     refine rcf 53 rfl ?_
     refine rskip ?_
     refine pst_next ?_
     refine rq ?_
     refine rqr ?_
     refine sp 2 [(59, .bool (cmp .gtr (l) (0)))] ?_
     refine se ?_
     refine rc 59 rfl (fun h7 => ?_) (fun h7 => ?_)
     ·
      have h7_r := h7
      have h7 := gtr_t h7
      refine rr ?_
      refine sp 2 [(61, .int .i64 (l)), (60, .int .i64 (g))] ?_
      refine sd (dsb 62 (l) (1)) ?_
      refine sp 1 [(63, .pointer (some ⟨b75, 3, none⟩))] ?_
      refine sS (ss 1 3 b75 [.int .i64 (g)] [.int .i64 ((r39)), .int .i64 ((r50)), .int .i64 (↑n83), .int .i64 (g), .bool (r61), .bool (r71)] (_ :: _ :: _ :: _ :: _) (cs := [_, _, _, _, _, _]) rfl rfl ?_)
      refine sp 1 [(10, .int .i64 (l - 1))] ?_
      refine se ?_
      refine rr ?_
      refine sp 1 [(64, .pointer (some ⟨b3, 0, none⟩))] ?_
      refine sd (dlb 65 2 0 b3 (.slice ov0_c7_0_a cs.length ov0_c7_0_c)) ?_
      refine sd (dnb 66 1 0 b75 [.int .i64 ((r39)), .int .i64 ((r50)), .int .i64 (↑n83), .int .i64 (g), .bool (r61), .bool (r71)]) ?_
      refine sS (sbs 67 40 1 #[.int .i64 ((r39)), .int .i64 ((r50)), .int .i64 (↑n83), .int .i64 (g), .bool (r61), .bool (r71)] (fun b121 => ?_))
      refine sS (stp_append (d := 68) (x := (.tmp 65)) (y := (.tmp 67)) (T := 23) (T' := 23) (E := 40) (E' := 40) (sz := 6) (bs := 40) (z := .agg #[.int .i64 (0), .int .i64 (0), .int .i64 (0), .int .i64 (0), .bool (false), .bool (false)]) (cell := carCell) (xs := cs) (ys := [(⟨(r39), (r50), ↑n83, g, r61, r71⟩ : Car)]) (Ms := oM0_c7_0) (ty := 23) (gd := none) (by kernel_rfl) rfl (by kernel_rfl) (by kernel_rfl) (by kernel_rfl) (by kernel_rfl) (by kernel_rfl) (by decide) (by kernel_rfl) rfl rfl (oh0_c7_0) ((List.Perm.cons _ ((List.Perm.cons _ ((List.Perm.cons _ ((List.Perm.cons _ (List.perm_middle.symm)).trans (List.perm_middle.symm))).trans (List.perm_middle.symm))).trans (List.perm_middle.symm))).trans (List.perm_middle.symm)) (one_carCell _) (src_atS 0 rfl rfl) (by first | omega | (simp only [List.length_cons, List.length_nil, List.length_append, List.length_take, List.length_drop]; omega)) (fun v123 Ms123 ho123 => ?_))
      refine seq_mem (M' := ((p, Obj.cells #[.int .u64 (p_t82)] 65 (0, 0)) :: (b75, Obj.cells #[.int .i64 ((r39)), .int .i64 ((r50)), .int .i64 (↑n83), .int .i64 (g), .bool (r61), .bool (r71)] 40 (0, 0)) :: (b3, Obj.cells #[.slice ov0_c7_0_a cs.length ov0_c7_0_c, .slice none 0 0, .slice none 0 0] 26 (0, 0)) :: (b1, Obj.cells #[.slice none 0 0, .slice none 0 0, .slice none 0 0] 26 (0, 0)) :: (Ms123 ++ F))) (fun w h => (h.perm (List.perm_middle.trans (List.Perm.cons _ (List.perm_middle.trans (List.Perm.cons _ (List.perm_middle.trans (List.Perm.cons _ (List.perm_middle.trans (List.Perm.cons _ List.perm_middle))))))))).sub (List.Sublist.cons _ (List.Sublist.refl _))) ?_
      obtain ⟨oa123, oc123, oe123, ol123⟩ := ho123.shape
      subst oe123
      show Seq _ _ _ _ _ _ ((68, .slice oa123 (cs ++ ([(⟨(r39), (r50), ↑n83, g, r61, r71⟩ : Car)])).length oc123) :: _) _ _
      refine sp 1 [(69, .pointer (some ⟨b3, 0, none⟩))] ?_
      refine sS (ss 2 0 b3 [.slice oa123 (cs ++ ([(⟨(r39), (r50), ↑n83, g, r61, r71⟩ : Car)])).length oc123] [.slice oa123 (cs ++ ([(⟨(r39), (r50), ↑n83, g, r61, r71⟩ : Car)])).length oc123, .slice none 0 0, .slice none 0 0] (_ :: _ :: _ :: _ :: _) (cs := [_, _, _]) rfl rfl ?_)
      refine ee ?_
      refine pst_normal_block ?_
      refine pst_next ?_
      refine rr ?_
      refine sp 1 [(25, .int .i64 (↑k))] ?_
      refine sd (da 26 (↑k) (1)) ?_
      refine sp 1 [(11, .int .i64 (↑k + 1))] ?_
      refine ee ?_
      refine pst_back (n11 - (k+1)) (by omega) ?_
      intro a w hS hD hW
      exact ⟨I77, k+1, cs ++ [(⟨(r39), (r50), ↑n83, g, r61, r71⟩ : Car)], g, l - 1, p_t82, .slice oa123 (cs ++ ([(⟨(r39), (r50), ↑n83, g, r61, r71⟩ : Car)])).length oc123, Ms123, (Imm.le.trans (Imm.le.trans (Imm.le.trans (Imm.le.trans (Imm.le.trans (Imm.le.trans (Imm.le.trans hJ0 hle17) hle31) hle34) hle45) hle56) hle66) hle78), by omega, by simp only [List.length_append, List.length_cons, List.length_nil]; omega, (by have hh := CarsInv.snoc (hci) (c := (⟨(r39), (r50), ↑n83, g, r61, r71⟩ : Car)) (carErr_mk (by omega) (by omega) (by omega) (by have hgg := hci.g0; omega)) ⟨fun _ => rfl, fun hh => absurd h7 hh⟩; rw [if_pos h7] at hh; exact hh), ho123, hS.sub (.consE 9 rfl rfl (.consE 10 rfl rfl (.consE 11 rfl rfl (.cons 0 rfl (.cons 2 rfl (.cons 6 rfl (.cons 7 rfl (.cons 8 rfl (.nil _))))))))), hD, (hW.perm (List.Perm.swap _ _ _)).sub (List.Sublist.cons _ (List.Sublist.refl _)), rfl⟩
     ·
      have h7_r := h7
      have h7 := gtr_f h7
      refine rskip ?_
      refine pst_next ?_
      refine rr ?_
      refine sp 1 [(64, .pointer (some ⟨b3, 0, none⟩))] ?_
      refine sd (dlb 65 2 0 b3 (.slice ov0_c7_0_a cs.length ov0_c7_0_c)) ?_
      refine sd (dnb 66 1 0 b75 [.int .i64 ((r39)), .int .i64 ((r50)), .int .i64 (↑n83), .int .i64 (0), .bool (r61), .bool (r71)]) ?_
      refine sS (sbs 67 40 1 #[.int .i64 ((r39)), .int .i64 ((r50)), .int .i64 (↑n83), .int .i64 (0), .bool (r61), .bool (r71)] (fun b124 => ?_))
      refine sS (stp_append (d := 68) (x := (.tmp 65)) (y := (.tmp 67)) (T := 23) (T' := 23) (E := 40) (E' := 40) (sz := 6) (bs := 40) (z := .agg #[.int .i64 (0), .int .i64 (0), .int .i64 (0), .int .i64 (0), .bool (false), .bool (false)]) (cell := carCell) (xs := cs) (ys := [(⟨(r39), (r50), ↑n83, 0, r61, r71⟩ : Car)]) (Ms := oM0_c7_0) (ty := 23) (gd := none) (by kernel_rfl) rfl (by kernel_rfl) (by kernel_rfl) (by kernel_rfl) (by kernel_rfl) (by kernel_rfl) (by decide) (by kernel_rfl) rfl rfl (oh0_c7_0) ((List.Perm.cons _ ((List.Perm.cons _ ((List.Perm.cons _ ((List.Perm.cons _ (List.perm_middle.symm)).trans (List.perm_middle.symm))).trans (List.perm_middle.symm))).trans (List.perm_middle.symm))).trans (List.perm_middle.symm)) (one_carCell _) (src_atS 0 rfl rfl) (by first | omega | (simp only [List.length_cons, List.length_nil, List.length_append, List.length_take, List.length_drop]; omega)) (fun v126 Ms126 ho126 => ?_))
      refine seq_mem (M' := ((p, Obj.cells #[.int .u64 (p_t82)] 65 (0, 0)) :: (b75, Obj.cells #[.int .i64 ((r39)), .int .i64 ((r50)), .int .i64 (↑n83), .int .i64 (0), .bool (r61), .bool (r71)] 40 (0, 0)) :: (b3, Obj.cells #[.slice ov0_c7_0_a cs.length ov0_c7_0_c, .slice none 0 0, .slice none 0 0] 26 (0, 0)) :: (b1, Obj.cells #[.slice none 0 0, .slice none 0 0, .slice none 0 0] 26 (0, 0)) :: (Ms126 ++ F))) (fun w h => (h.perm (List.perm_middle.trans (List.Perm.cons _ (List.perm_middle.trans (List.Perm.cons _ (List.perm_middle.trans (List.Perm.cons _ (List.perm_middle.trans (List.Perm.cons _ List.perm_middle))))))))).sub (List.Sublist.cons _ (List.Sublist.refl _))) ?_
      obtain ⟨oa126, oc126, oe126, ol126⟩ := ho126.shape
      subst oe126
      show Seq _ _ _ _ _ _ ((68, .slice oa126 (cs ++ ([(⟨(r39), (r50), ↑n83, 0, r61, r71⟩ : Car)])).length oc126) :: _) _ _
      refine sp 1 [(69, .pointer (some ⟨b3, 0, none⟩))] ?_
      refine sS (ss 2 0 b3 [.slice oa126 (cs ++ ([(⟨(r39), (r50), ↑n83, 0, r61, r71⟩ : Car)])).length oc126] [.slice oa126 (cs ++ ([(⟨(r39), (r50), ↑n83, 0, r61, r71⟩ : Car)])).length oc126, .slice none 0 0, .slice none 0 0] (_ :: _ :: _ :: _ :: _) (cs := [_, _, _]) rfl rfl ?_)
      refine ee ?_
      refine pst_normal_block ?_
      refine pst_next ?_
      refine rr ?_
      refine sp 1 [(25, .int .i64 (↑k))] ?_
      refine sd (da 26 (↑k) (1)) ?_
      refine sp 1 [(11, .int .i64 (↑k + 1))] ?_
      refine ee ?_
      refine pst_back (n11 - (k+1)) (by omega) ?_
      intro a w hS hD hW
      exact ⟨I77, k+1, cs ++ [(⟨(r39), (r50), ↑n83, 0, r61, r71⟩ : Car)], g, l, p_t82, .slice oa126 (cs ++ ([(⟨(r39), (r50), ↑n83, 0, r61, r71⟩ : Car)])).length oc126, Ms126, (Imm.le.trans (Imm.le.trans (Imm.le.trans (Imm.le.trans (Imm.le.trans (Imm.le.trans (Imm.le.trans hJ0 hle17) hle31) hle34) hle45) hle56) hle66) hle78), by omega, by simp only [List.length_append, List.length_cons, List.length_nil]; omega, (by have hh := CarsInv.snoc (hci) (c := (⟨(r39), (r50), ↑n83, 0, r61, r71⟩ : Car)) (carErr_mk (by omega) (by omega) (by omega) (by have hgg := hci.g0; omega)) ⟨fun hh => absurd hh (by omega), fun _ => rfl⟩; rw [if_neg (show ¬ (0 < l) by omega)] at hh; exact hh), ho126, hS.sub (.consE 9 rfl rfl (.consE 10 rfl rfl (.consE 11 rfl rfl (.cons 0 rfl (.cons 2 rfl (.cons 6 rfl (.cons 7 rfl (.cons 8 rfl (.nil _))))))))), hD, (hW.perm (List.Perm.swap _ _ _)).sub (List.Sublist.cons _ (List.Sublist.refl _)), rfl⟩
   ·
    have h2_b := h2
    have h2_b := eql_f h2_b
    refine sp 7 [(53, .bool (false))] ?_
    refine se ?_
    refine rcf 53 rfl ?_
    refine rskip ?_
    refine pst_next ?_
    refine rq ?_
    refine rqr ?_
    refine sp 2 [(59, .bool (cmp .gtr (l) (0)))] ?_
    refine se ?_
    refine rc 59 rfl (fun h8 => ?_) (fun h8 => ?_)
    ·
     have h8_r := h8
     have h8 := gtr_t h8
     refine rr ?_
     refine sp 2 [(61, .int .i64 (l)), (60, .int .i64 (g))] ?_
     refine sd (dsb 62 (l) (1)) ?_
     refine sp 1 [(63, .pointer (some ⟨b75, 3, none⟩))] ?_
     refine sS (ss 1 3 b75 [.int .i64 (g)] [.int .i64 ((r39)), .int .i64 ((r50)), .int .i64 (↑n83), .int .i64 (g), .bool (r61), .bool (r71)] (_ :: _ :: _ :: _ :: _) (cs := [_, _, _, _, _, _]) rfl rfl ?_)
     refine sp 1 [(10, .int .i64 (l - 1))] ?_
     refine se ?_
     refine rr ?_
     refine sp 1 [(64, .pointer (some ⟨b3, 0, none⟩))] ?_
     refine sd (dlb 65 2 0 b3 (.slice ov0_c7_0_a cs.length ov0_c7_0_c)) ?_
     refine sd (dnb 66 1 0 b75 [.int .i64 ((r39)), .int .i64 ((r50)), .int .i64 (↑n83), .int .i64 (g), .bool (r61), .bool (r71)]) ?_
     refine sS (sbs 67 40 1 #[.int .i64 ((r39)), .int .i64 ((r50)), .int .i64 (↑n83), .int .i64 (g), .bool (r61), .bool (r71)] (fun b127 => ?_))
     refine sS (stp_append (d := 68) (x := (.tmp 65)) (y := (.tmp 67)) (T := 23) (T' := 23) (E := 40) (E' := 40) (sz := 6) (bs := 40) (z := .agg #[.int .i64 (0), .int .i64 (0), .int .i64 (0), .int .i64 (0), .bool (false), .bool (false)]) (cell := carCell) (xs := cs) (ys := [(⟨(r39), (r50), ↑n83, g, r61, r71⟩ : Car)]) (Ms := oM0_c7_0) (ty := 23) (gd := none) (by kernel_rfl) rfl (by kernel_rfl) (by kernel_rfl) (by kernel_rfl) (by kernel_rfl) (by kernel_rfl) (by decide) (by kernel_rfl) rfl rfl (oh0_c7_0) ((List.Perm.cons _ ((List.Perm.cons _ ((List.Perm.cons _ ((List.Perm.cons _ (List.perm_middle.symm)).trans (List.perm_middle.symm))).trans (List.perm_middle.symm))).trans (List.perm_middle.symm))).trans (List.perm_middle.symm)) (one_carCell _) (src_atS 0 rfl rfl) (by first | omega | (simp only [List.length_cons, List.length_nil, List.length_append, List.length_take, List.length_drop]; omega)) (fun v129 Ms129 ho129 => ?_))
     refine seq_mem (M' := ((p, Obj.cells #[.int .u64 (p_t82)] 65 (0, 0)) :: (b75, Obj.cells #[.int .i64 ((r39)), .int .i64 ((r50)), .int .i64 (↑n83), .int .i64 (g), .bool (r61), .bool (r71)] 40 (0, 0)) :: (b3, Obj.cells #[.slice ov0_c7_0_a cs.length ov0_c7_0_c, .slice none 0 0, .slice none 0 0] 26 (0, 0)) :: (b1, Obj.cells #[.slice none 0 0, .slice none 0 0, .slice none 0 0] 26 (0, 0)) :: (Ms129 ++ F))) (fun w h => (h.perm (List.perm_middle.trans (List.Perm.cons _ (List.perm_middle.trans (List.Perm.cons _ (List.perm_middle.trans (List.Perm.cons _ (List.perm_middle.trans (List.Perm.cons _ List.perm_middle))))))))).sub (List.Sublist.cons _ (List.Sublist.refl _))) ?_
     obtain ⟨oa129, oc129, oe129, ol129⟩ := ho129.shape
     subst oe129
     show Seq _ _ _ _ _ _ ((68, .slice oa129 (cs ++ ([(⟨(r39), (r50), ↑n83, g, r61, r71⟩ : Car)])).length oc129) :: _) _ _
     refine sp 1 [(69, .pointer (some ⟨b3, 0, none⟩))] ?_
     refine sS (ss 2 0 b3 [.slice oa129 (cs ++ ([(⟨(r39), (r50), ↑n83, g, r61, r71⟩ : Car)])).length oc129] [.slice oa129 (cs ++ ([(⟨(r39), (r50), ↑n83, g, r61, r71⟩ : Car)])).length oc129, .slice none 0 0, .slice none 0 0] (_ :: _ :: _ :: _ :: _) (cs := [_, _, _]) rfl rfl ?_)
     refine ee ?_
     refine pst_normal_block ?_
     refine pst_next ?_
     refine rr ?_
     refine sp 1 [(25, .int .i64 (↑k))] ?_
     refine sd (da 26 (↑k) (1)) ?_
     refine sp 1 [(11, .int .i64 (↑k + 1))] ?_
     refine ee ?_
     refine pst_back (n11 - (k+1)) (by omega) ?_
     intro a w hS hD hW
     exact ⟨I77, k+1, cs ++ [(⟨(r39), (r50), ↑n83, g, r61, r71⟩ : Car)], g, l - 1, p_t82, .slice oa129 (cs ++ ([(⟨(r39), (r50), ↑n83, g, r61, r71⟩ : Car)])).length oc129, Ms129, (Imm.le.trans (Imm.le.trans (Imm.le.trans (Imm.le.trans (Imm.le.trans (Imm.le.trans (Imm.le.trans hJ0 hle17) hle31) hle34) hle45) hle56) hle66) hle78), by omega, by simp only [List.length_append, List.length_cons, List.length_nil]; omega, (by have hh := CarsInv.snoc (hci) (c := (⟨(r39), (r50), ↑n83, g, r61, r71⟩ : Car)) (carErr_mk (by omega) (by omega) (by omega) (by have hgg := hci.g0; omega)) ⟨fun _ => rfl, fun hh => absurd h8 hh⟩; rw [if_pos h8] at hh; exact hh), ho129, hS.sub (.consE 9 rfl rfl (.consE 10 rfl rfl (.consE 11 rfl rfl (.cons 0 rfl (.cons 2 rfl (.cons 6 rfl (.cons 7 rfl (.cons 8 rfl (.nil _))))))))), hD, (hW.perm (List.Perm.swap _ _ _)).sub (List.Sublist.cons _ (List.Sublist.refl _)), rfl⟩
    ·
     have h8_r := h8
     have h8 := gtr_f h8
     refine rskip ?_
     refine pst_next ?_
     refine rr ?_
     refine sp 1 [(64, .pointer (some ⟨b3, 0, none⟩))] ?_
     refine sd (dlb 65 2 0 b3 (.slice ov0_c7_0_a cs.length ov0_c7_0_c)) ?_
     refine sd (dnb 66 1 0 b75 [.int .i64 ((r39)), .int .i64 ((r50)), .int .i64 (↑n83), .int .i64 (0), .bool (r61), .bool (r71)]) ?_
     refine sS (sbs 67 40 1 #[.int .i64 ((r39)), .int .i64 ((r50)), .int .i64 (↑n83), .int .i64 (0), .bool (r61), .bool (r71)] (fun b130 => ?_))
     refine sS (stp_append (d := 68) (x := (.tmp 65)) (y := (.tmp 67)) (T := 23) (T' := 23) (E := 40) (E' := 40) (sz := 6) (bs := 40) (z := .agg #[.int .i64 (0), .int .i64 (0), .int .i64 (0), .int .i64 (0), .bool (false), .bool (false)]) (cell := carCell) (xs := cs) (ys := [(⟨(r39), (r50), ↑n83, 0, r61, r71⟩ : Car)]) (Ms := oM0_c7_0) (ty := 23) (gd := none) (by kernel_rfl) rfl (by kernel_rfl) (by kernel_rfl) (by kernel_rfl) (by kernel_rfl) (by kernel_rfl) (by decide) (by kernel_rfl) rfl rfl (oh0_c7_0) ((List.Perm.cons _ ((List.Perm.cons _ ((List.Perm.cons _ ((List.Perm.cons _ (List.perm_middle.symm)).trans (List.perm_middle.symm))).trans (List.perm_middle.symm))).trans (List.perm_middle.symm))).trans (List.perm_middle.symm)) (one_carCell _) (src_atS 0 rfl rfl) (by first | omega | (simp only [List.length_cons, List.length_nil, List.length_append, List.length_take, List.length_drop]; omega)) (fun v132 Ms132 ho132 => ?_))
     refine seq_mem (M' := ((p, Obj.cells #[.int .u64 (p_t82)] 65 (0, 0)) :: (b75, Obj.cells #[.int .i64 ((r39)), .int .i64 ((r50)), .int .i64 (↑n83), .int .i64 (0), .bool (r61), .bool (r71)] 40 (0, 0)) :: (b3, Obj.cells #[.slice ov0_c7_0_a cs.length ov0_c7_0_c, .slice none 0 0, .slice none 0 0] 26 (0, 0)) :: (b1, Obj.cells #[.slice none 0 0, .slice none 0 0, .slice none 0 0] 26 (0, 0)) :: (Ms132 ++ F))) (fun w h => (h.perm (List.perm_middle.trans (List.Perm.cons _ (List.perm_middle.trans (List.Perm.cons _ (List.perm_middle.trans (List.Perm.cons _ (List.perm_middle.trans (List.Perm.cons _ List.perm_middle))))))))).sub (List.Sublist.cons _ (List.Sublist.refl _))) ?_
     obtain ⟨oa132, oc132, oe132, ol132⟩ := ho132.shape
     subst oe132
     show Seq _ _ _ _ _ _ ((68, .slice oa132 (cs ++ ([(⟨(r39), (r50), ↑n83, 0, r61, r71⟩ : Car)])).length oc132) :: _) _ _
     refine sp 1 [(69, .pointer (some ⟨b3, 0, none⟩))] ?_
     refine sS (ss 2 0 b3 [.slice oa132 (cs ++ ([(⟨(r39), (r50), ↑n83, 0, r61, r71⟩ : Car)])).length oc132] [.slice oa132 (cs ++ ([(⟨(r39), (r50), ↑n83, 0, r61, r71⟩ : Car)])).length oc132, .slice none 0 0, .slice none 0 0] (_ :: _ :: _ :: _ :: _) (cs := [_, _, _]) rfl rfl ?_)
     refine ee ?_
     refine pst_normal_block ?_
     refine pst_next ?_
     refine rr ?_
     refine sp 1 [(25, .int .i64 (↑k))] ?_
     refine sd (da 26 (↑k) (1)) ?_
     refine sp 1 [(11, .int .i64 (↑k + 1))] ?_
     refine ee ?_
     refine pst_back (n11 - (k+1)) (by omega) ?_
     intro a w hS hD hW
     exact ⟨I77, k+1, cs ++ [(⟨(r39), (r50), ↑n83, 0, r61, r71⟩ : Car)], g, l, p_t82, .slice oa132 (cs ++ ([(⟨(r39), (r50), ↑n83, 0, r61, r71⟩ : Car)])).length oc132, Ms132, (Imm.le.trans (Imm.le.trans (Imm.le.trans (Imm.le.trans (Imm.le.trans (Imm.le.trans (Imm.le.trans hJ0 hle17) hle31) hle34) hle45) hle56) hle66) hle78), by omega, by simp only [List.length_append, List.length_cons, List.length_nil]; omega, (by have hh := CarsInv.snoc (hci) (c := (⟨(r39), (r50), ↑n83, 0, r61, r71⟩ : Car)) (carErr_mk (by omega) (by omega) (by omega) (by have hgg := hci.g0; omega)) ⟨fun hh => absurd hh (by omega), fun _ => rfl⟩; rw [if_neg (show ¬ (0 < l) by omega)] at hh; exact hh), ho132, hS.sub (.consE 9 rfl rfl (.consE 10 rfl rfl (.consE 11 rfl rfl (.cons 0 rfl (.cons 2 rfl (.cons 6 rfl (.cons 7 rfl (.cons 8 rfl (.nil _))))))))), hD, (hW.perm (List.Perm.swap _ _ _)).sub (List.Sublist.cons _ (List.Sublist.refl _)), rfl⟩
  ·
   have h1_r := h1
   have h1 := lss_f h1
   refine rexit 0 ?_
   refine (pst_exit_pass (pst_exit_pass (pst_exit_block ?_)))
   refine pst_next ?_
   refine rqr ?_
   refine sp 3 [(72, .int .i64 ((if (2 : Int) < (↑s : Int) then 2 else ↑s))), (70, .pointer (some ⟨p, 0, none⟩))] ?_
   have hct143 := Up_ct J0 (p) (bs) ((if (2 : Int) < (↑s : Int) then 2 else ↑s)) (by omega)
   refine sS (sc (some 73) (F := ((b3, Obj.cells #[.slice ov0_c7_0_a cs.length ov0_c7_0_c, .slice none 0 0, .slice none 0 0] 26 (0, 0)) :: (b1, Obj.cells #[.slice none 0 0, .slice none 0 0, .slice none 0 0] 26 (0, 0)) :: (oM0_c7_0 ++ F))) (hct143 :) (.refl _) (fun rv141 I133 rm142 hle134 hp135 => ?_))
   obtain ⟨p_t138, n139, hv136, hm137, qp140⟩ := hp135
   rw [hv136, hm137]; clear hv136 hm137
   refine nm ?_
   show Seq _ _ _ _ _ _ ((73, .int .i64 (↑n139)) :: _) _ _
   have hT3 : 1 + n139 ≤ 3 := by
    have hq := qp140
    split at hq <;> omega
   refine sd (da 74 (1) (↑n139)) ?_
   refine seq_re 74 rfl (show (.int .i64 (1 + ↑n139) : Value) = .int .i64 (↑(1 + n139)) from congrArg (Value.int .i64) (by omega)) ?_
   refine sS (stp_makeSlice (d := 75) (x := (.tmp 74)) (T := 24) (E := 22) (bs := 24) (n := 1 + n139) (z := .slice none 0 0) (zv := .slice none 0 0) (ty := 24) (gd := none) (by kernel_rfl) rfl (by kernel_rfl) (by kernel_rfl) (by kernel_rfl) rfl (by kernel_rfl) (by decide) rfl (by omega) (fun b144 => ?_))
   have ho145 : Own 22 1 valCell (.slice (some ⟨b144, 0, none⟩) (1 + n139) (1 + n139)) (List.replicate (1 + n139) (.slice none 0 0)) [(b144, Obj.cells (List.replicate (1 + n139) (.slice none 0 0)).toArray 22 (0, 0))] := Own.made _
   obtain ⟨mS147, hmS147⟩ : ∃ X : Seg, X = [(b144, Obj.cells (List.replicate (1 + n139) (.slice none 0 0)).toArray 22 (0, 0))] := ⟨_, rfl⟩
   rw [← hmS147] at ho145
   refine seq_mem (I' := I133) (M' := ((mS147 ++ (p, Obj.cells #[.int .u64 (p_t138)] 65 (0, 0)) :: (b3, Obj.cells #[.slice ov0_c7_0_a cs.length ov0_c7_0_c, .slice none 0 0, .slice none 0 0] 26 (0, 0)) :: (b1, Obj.cells #[.slice none 0 0, .slice none 0 0, .slice none 0 0] 26 (0, 0)) :: (oM0_c7_0 ++ F)))) (fun w h => by rw [hmS147]; exact h) ?_
   refine pm (M' := ((p, Obj.cells #[.int .u64 (p_t138)] 65 (0, 0)) :: (b3, Obj.cells #[.slice ov0_c7_0_a cs.length ov0_c7_0_c, .slice none 0 0, .slice none 0 0] 26 (0, 0)) :: (b1, Obj.cells #[.slice none 0 0, .slice none 0 0, .slice none 0 0] 26 (0, 0)) :: (mS147 ++ (oM0_c7_0 ++ F)))) (List.perm_middle.trans (List.Perm.cons _ (List.perm_middle.trans (List.Perm.cons _ List.perm_middle)))) ?_
   have hea146 := OwnEach.nils 3 (1 + n139)
   refine sp 1 [(76, .pointer (some ⟨b3, 2, none⟩))] ?_
   refine sS (ss 1 2 b3 [.slice (some ⟨b144, 0, none⟩) (1 + n139) (1 + n139)] [.slice ov0_c7_0_a cs.length ov0_c7_0_c, .slice none 0 0, .slice (some ⟨b144, 0, none⟩) (1 + n139) (1 + n139)] (_ :: _ :: _ :: _) (cs := [_, _, _]) rfl rfl ?_)
   refine sn ?_
   refine sp 1 [(13, .int .i64 (0))] ?_
   refine se ?_
   refine rq ?_
   refine rqr ?_
   refine sp 1 [(14, .int .i64 (0))] ?_
   refine se ?_
   refine rb 2 ?_
   refine rl (fun mz a w => ∃ J1 : Imm, ∃ j : Nat, ∃ aa : Nat, ∃ ts : List (List Int), ∃ tv : Value, ∃ vs : List Value, ∃ tM : Seg, ∃ eM : Seg, ∃ bs2 : Int, (I133.le J1) ∧ (j ≤ n11) ∧ (Placed cs (1 + n139) j aa ts) ∧ (Own 22 1 valCell tv vs tM) ∧ (OwnEach 3 vs ts eM) ∧ Slots 179 [(13, .int .i64 ↑aa), (14, .int .i64 ↑j), (0, .pointer (some ⟨p, 0, none⟩)), (6, .pointer (some ⟨b1, 0, none⟩)), (7, .pointer (some ⟨b3, 0, none⟩)), (8, .int .i64 (↑n11))] a ∧ a.defers = [] ∧ St J1 ((p, Obj.cells #[.int .u64 (bs2)] 65 (0, 0)) :: (b3, Obj.cells #[.slice ov0_c7_0_a cs.length ov0_c7_0_c, .slice none 0 0, tv] 26 (0, 0)) :: (b1, Obj.cells #[.slice none 0 0, .slice none 0 0, .slice none 0 0] 26 (0, 0)) :: (tM ++ (oM0_c7_0 ++ (eM ++ F)))) w ∧ mz = n11 - j) ?_ ?_
   ·intro a w hS hD hW
    exact ⟨_, I133, 0, 0, (List.replicate (1 + n139) []), (.slice (some ⟨b144, 0, none⟩) (1 + n139) (1 + n139)), (List.replicate (1 + n139) (.slice none 0 0)), mS147, [], p_t138, Imm.le.refl _, Nat.zero_le _, Placed.start (by omega), ho145, hea146, hS.sub (.cons 13 rfl (.cons 14 rfl (.cons 0 rfl (.cons 6 rfl (.cons 7 rfl (.cons 8 rfl (.nil _))))))), hD, hW, rfl⟩
   ·rintro mz a w ⟨J1, j, aa, ts, tv, vs, tM, eM, bs2, hJ1, hj, hpl, to_, hea, hS, hD, hW, rfl⟩
    refine run_at hS hD hW ?_
    clear hS hD hW a w
    obtain ⟨tv_a, tv_c, tv_e, tv_l⟩ := to_.shape; subst tv_e
    have hvl := hea.length; have hpt := hpl.len; have hpa := hpl.a0
    refine rq ?_
    refine rqr ?_
    refine sp 3 [(79, .bool (cmp .lss (↑j) (↑n11)))] ?_
    refine se ?_
    refine rc 79 rfl (fun h9 => ?_) (fun h9 => ?_)
    ·
     have h9_r := h9
     have h9 := lss_t h9
     refine rskip ?_
     refine pst_next ?_
     refine rq ?_
     refine rb 3 ?_
     refine rq ?_
     refine rq ?_
     refine run_cut (fun a w => Slots 179 [(0, .pointer (some ⟨p, 0, none⟩)), (6, .pointer (some ⟨b1, 0, none⟩)), (7, .pointer (some ⟨b3, 0, none⟩)), (8, .int .i64 (↑n11)), (13, .int .i64 (↑aa)), (14, .int .i64 (↑j)), (108, .bool ((cmp .eql (↑j) (0)) || ((cmp .eql ((cs.getD (j) noCar).grp) (0)) || (!(cmp .eql ((cs.getD (j) noCar).grp) ((cs.getD ((↑j - 1 : Int).toNat) noCar).grp))))))] a ∧ a.defers = [] ∧ St J1 ((p, Obj.cells #[.int .u64 (bs2)] 65 (0, 0)) :: (b3, Obj.cells #[.slice ov0_c7_0_a cs.length ov0_c7_0_c, .slice none 0 0, .slice tv_a vs.length tv_c] 26 (0, 0)) :: (b1, Obj.cells #[.slice none 0 0, .slice none 0 0, .slice none 0 0] 26 (0, 0)) :: (tM ++ (oM0_c7_0 ++ (eM ++ F)))) w) ?_ ?_
     ·
      refine rd0 25 ?_
      refine ox 3 [(84, .bool (cmp .eql (↑j) (0)))] ?_
      refine ofp_split 84 (fun h10 => ?_) (fun h10 => ?_)
      ·
       have h10_b := h10
       have h10_b := eql_t h10_b
       refine ox 22 [(106, undef), (99, undef), (93, .bool (true))] ?_
       refine ofp_end0 ?_
       refine sp 2 [(108, .bool (true))] ?_
       refine ee ?_
       refine pst_meet (fun a w hS hD hW => ⟨hS.sub (.cons 0 rfl (.cons 6 rfl (.cons 7 rfl (.cons 8 rfl (.cons 13 rfl (.cons 14 rfl (.consE 108 rfl (congrArg Value.bool (by simp only [h10, Bool.true_and, Bool.false_and, Bool.and_true, Bool.and_false, Bool.true_or, Bool.false_or, Bool.or_true, Bool.or_false, cond_true, cond_false])) (.nil _)))))))), hD, hW⟩)
      ·
       have h10_b := h10
       have h10_b := eql_f h10_b
       refine ox 1 [(85, .pointer (some ⟨b3, 0, none⟩))] ?_
       refine ofp_det (dlb 86 1 0 b3 (.slice ov0_c7_0_a cs.length ov0_c7_0_c)) ?_
       refine ox 1 [(87, .int .i64 (↑j))] ?_
       obtain ⟨ob148, orr149⟩ := oh0_c7_0.row noCar
       refine ofp_det (di 88 6 (j) orr149.addr) ?_
       refine ox 1 [(89, .pointer (some ⟨ob148, 0 + j * 6 + 3, none⟩))] ?_
       refine ofp_det (dl 90 (orr149.get (j) (by omega) 3 (by decide) _ _ (fun x hx => by simp [hx]))) ?_
       refine ox 3 [(93, .bool (cmp .eql ((cs.getD (j) noCar).grp) (0)))] ?_
       refine ofp_split 93 (fun h11 => ?_) (fun h11 => ?_)
       ·
        have h11_b := h11
        have h11_b := eql_t h11_b
        refine ox 13 [(106, undef), (99, undef)] ?_
        refine ofp_end0 ?_
        refine sp 2 [(108, .bool (true))] ?_
        refine ee ?_
        refine pst_meet (fun a w hS hD hW => ⟨hS.sub (.cons 0 rfl (.cons 6 rfl (.cons 7 rfl (.cons 8 rfl (.cons 13 rfl (.cons 14 rfl (.consE 108 rfl (congrArg Value.bool (by simp only [h10, h11, Bool.true_and, Bool.false_and, Bool.and_true, Bool.and_false, Bool.true_or, Bool.false_or, Bool.or_true, Bool.or_false, cond_true, cond_false])) (.nil _)))))))), hD, hW⟩)
       ·
        have h11_b := h11
        have h11_b := eql_f h11_b
        refine ox 1 [(94, .pointer (some ⟨b3, 0, none⟩))] ?_
        refine ofp_det (dlb 95 1 0 b3 (.slice ov0_c7_0_a cs.length ov0_c7_0_c)) ?_
        refine ox 1 [(96, .int .i64 (↑j))] ?_
        obtain ⟨ob150, orr151⟩ := oh0_c7_0.row noCar
        refine ofp_det (di 97 6 (j) orr151.addr) ?_
        refine ox 1 [(98, .pointer (some ⟨ob150, 0 + j * 6 + 3, none⟩))] ?_
        refine ofp_det (dl 99 (orr151.get (j) (by omega) 3 (by decide) _ _ (fun x hx => by simp [hx]))) ?_
        refine ox 1 [(100, .pointer (some ⟨b3, 0, none⟩))] ?_
        refine ofp_det (dlb 101 1 0 b3 (.slice ov0_c7_0_a cs.length ov0_c7_0_c)) ?_
        refine ox 1 [(102, .int .i64 (↑j))] ?_
        refine ofp_det (dsb 103 (↑j) (1)) ?_
        obtain ⟨ob152, orr153⟩ := oh0_c7_0.row noCar
        refine ofp_det (diI 104 6 (↑j - 1) orr153.addr) ?_
        refine ox 1 [(105, .pointer (some ⟨ob152, 0 + ((↑j - 1 : Int).toNat) * 6 + 3, none⟩))] ?_
        refine ofp_det (dl 106 (orr153.get ((↑j - 1 : Int).toNat) (by omega) 3 (by decide) _ _ (fun x hx => by simp [hx]))) ?_
        refine ofp_end0 ?_
        refine sp 2 [(108, .bool (!(cmp .eql ((cs.getD (j) noCar).grp) ((cs.getD ((↑j - 1 : Int).toNat) noCar).grp))))] ?_
        refine ee ?_
        refine pst_meet (fun a w hS hD hW => ⟨hS.sub (.cons 0 rfl (.cons 6 rfl (.cons 7 rfl (.cons 8 rfl (.cons 13 rfl (.cons 14 rfl (.consE 108 rfl (congrArg Value.bool (by simp only [h10, h11, Bool.true_and, Bool.false_and, Bool.and_true, Bool.and_false, Bool.true_or, Bool.false_or, Bool.or_true, Bool.or_false, cond_true, cond_false])) (.nil _)))))))), hD, hW⟩)
     ·rintro a w ⟨hS, hD, hW⟩
      refine run_at hS hD hW ?_
      clear hS hD hW a w
      refine rc 108 rfl (fun h12 => ?_) (fun h12 => ?_)
      ·
       have h12_r := h12
       refine rr ?_
       refine sp 3 [(111, .pointer (some ⟨b3, 2, none⟩)), (110, .pointer (some ⟨p, 0, none⟩)), (109, .pointer (some ⟨p, 0, none⟩))] ?_
       refine sd (dlb 112 1 2 b3 (.slice tv_a vs.length tv_c)) ?_
       refine sp 1 [(113, .int .i64 (↑(vs.length)))] ?_
       refine sd (dsb 114 (↑(vs.length)) (1)) ?_
       have hct164 := Up_ct J1 (p) (bs2) ((↑(vs.length)) - 1) (by omega)
       refine sS (sc (some 115) (F := ((b3, Obj.cells #[.slice ov0_c7_0_a cs.length ov0_c7_0_c, .slice none 0 0, .slice tv_a vs.length tv_c] 26 (0, 0)) :: (b1, Obj.cells #[.slice none 0 0, .slice none 0 0, .slice none 0 0] 26 (0, 0)) :: (tM ++ (oM0_c7_0 ++ (eM ++ F))))) (hct164 :) (.refl _) (fun rv162 I154 rm163 hle155 hp156 => ?_))
       obtain ⟨p_t159, n160, hv157, hm158, qp161⟩ := hp156
       rw [hv157, hm158]; clear hv157 hm158
       refine nm ?_
       show Seq _ _ _ _ _ _ ((115, .int .i64 (↑n160)) :: _) _ _
       refine sS (sbs 116 3 4 #[.int .i64 (0), .int .i64 (0), .int .i64 (0), .int .i64 (↑n160)] (fun b165 => ?_))
       refine pm (M' := ((p, Obj.cells #[.int .u64 (p_t159)] 65 (0, 0)) :: (b3, Obj.cells #[.slice ov0_c7_0_a cs.length ov0_c7_0_c, .slice none 0 0, .slice tv_a vs.length tv_c] 26 (0, 0)) :: (b1, Obj.cells #[.slice none 0 0, .slice none 0 0, .slice none 0 0] 26 (0, 0)) :: ([(b165, Obj.cells #[.int .i64 (0), .int .i64 (0), .int .i64 (0), .int .i64 (↑n160)] 3 (0, 0))] ++ (tM ++ (oM0_c7_0 ++ (eM ++ F)))))) ((List.Perm.swap _ _ _).trans (List.Perm.cons _ ((List.Perm.swap _ _ _).trans (List.Perm.cons _ (List.Perm.swap _ _ _))))) ?_
       have ho167 : Own 3 1 intCell (.slice (some ⟨b165, 0, none⟩) 4 4) ([(0 : Int), (0 : Int), (0 : Int), (↑n160 : Int)] : List Int) [(b165, Obj.cells #[.int .i64 (0), .int .i64 (0), .int .i64 (0), .int .i64 (↑n160)] 3 (0, 0))] := Own.lit rfl rfl
       refine sfz (A := ((p, Obj.cells #[.int .u64 (p_t159)] 65 (0, 0)) :: (b3, Obj.cells #[.slice ov0_c7_0_a cs.length ov0_c7_0_c, .slice none 0 0, .slice tv_a vs.length tv_c] 26 (0, 0)) :: (b1, Obj.cells #[.slice none 0 0, .slice none 0 0, .slice none 0 0] 26 (0, 0)) :: (tM ++ (oM0_c7_0 ++ (eM ++ F))))) 0 ho167 ((List.Perm.cons _ ((List.Perm.cons _ (List.perm_middle.symm)).trans (List.perm_middle.symm))).trans (List.perm_middle.symm)) (fun I168 hle169 fz170_f => ?_)
       obtain ⟨fz170_a, fz170_c, fz170_b, fz170_o, fz170_e, fz170_l, fz170_m, fz170_r⟩ := id fz170_f
       cases fz170_e
       have hct181 := One_ct I168 (p) (p_t159) _ _ fz170_f (by simp)
       refine sS (sc (some 117) (F := ((b3, Obj.cells #[.slice ov0_c7_0_a cs.length ov0_c7_0_c, .slice none 0 0, .slice tv_a vs.length tv_c] 26 (0, 0)) :: (b1, Obj.cells #[.slice none 0 0, .slice none 0 0, .slice none 0 0] 26 (0, 0)) :: (tM ++ (oM0_c7_0 ++ (eM ++ F))))) (hct181 :) (.refl _) (fun rv179 I171 rm180 hle172 hp173 => ?_))
       obtain ⟨p_t176, r177, hv174, hm175, qp178⟩ := hp173
       rw [hv174, hm175]; clear hv174 hm175
       refine nm ?_
       show Seq _ _ _ _ _ _ ((117, .int .i64 ((r177))) :: _) _ _
       refine sp 1 [(13, .int .i64 ((r177)))] ?_
       obtain ⟨a2, ha2, ha3⟩ : ∃ a2 : Nat, (r177) = ↑a2 ∧ a2 < 1 + n139 := by
        have hq := qp178
        simp only [List.mem_cons, List.not_mem_nil, or_false] at hq
        exact ⟨((r177)).toNat, by omega, by omega⟩
       refine seq_re 13 rfl (show (.int .i64 ((r177)) : Value) = .int .i64 (↑a2) from congrArg (Value.int .i64) ha2) ?_
       refine se ?_
       have hsame : j ≠ 0 → gAt cs j ≠ 0 → gAt cs j = gAt cs (j - 1) → a2 = aa := fun e1 e2 e3 => by
        exfalso
        have hh := h12_r
        have e4 : ((↑j : Int) - 1).toNat = j - 1 := by omega
        unfold gAt at e2 e3
        rw [e4] at hh
        simp only [cmp_eql, cmp_neq, Bool.or_eq_true, decide_eq_true_eq, Bool.not_eq_true', decide_eq_false_iff_not] at hh
        omega
       obtain ⟨eMs182, eR182, eo182, ep182, ek182⟩ := OwnEach.pull hea (a2) (by omega)
       obtain ⟨ev182_a, ev182_c, ev182_e, ev182_l⟩ := eo182.shape
       rw [ev182_e] at eo182
       refine rn_mem (M' := ((eMs182 ++ (eR182 ++ (p, Obj.cells #[.int .u64 (p_t176)] 65 (0, 0)) :: (b3, Obj.cells #[.slice ov0_c7_0_a cs.length ov0_c7_0_c, .slice none 0 0, .slice tv_a vs.length tv_c] 26 (0, 0)) :: (b1, Obj.cells #[.slice none 0 0, .slice none 0 0, .slice none 0 0] 26 (0, 0)) :: (tM ++ (oM0_c7_0 ++ F)))))) (fun w h => ?_) ?_
       ·have h2 := h.perm ((List.Perm.cons _ ((List.Perm.cons _ ((List.Perm.cons _ ((List.Perm.append_left _ (List.perm_append_comm_assoc _ _ _)).trans (List.perm_append_comm_assoc _ _ _))).trans (List.perm_middle.symm))).trans (List.perm_middle.symm))).trans (List.perm_middle.symm))
        have h3 := St.permL (A' := eMs182 ++ eR182) (A := eM) (by simpa only [List.append_assoc, List.append_nil] using ep182) (by simpa only [List.append_assoc] using h2)
        simpa only [List.append_assoc] using h3
       refine rn_mem (M' := ((p, Obj.cells #[.int .u64 (p_t176)] 65 (0, 0)) :: (b3, Obj.cells #[.slice ov0_c7_0_a cs.length ov0_c7_0_c, .slice none 0 0, .slice tv_a vs.length tv_c] 26 (0, 0)) :: (b1, Obj.cells #[.slice none 0 0, .slice none 0 0, .slice none 0 0] 26 (0, 0)) :: (eMs182 ++ (eR182 ++ (tM ++ (oM0_c7_0 ++ F)))))) (fun w h => h.perm (((List.Perm.append_left _ List.perm_middle).trans List.perm_middle).trans (List.Perm.cons _ (((List.Perm.append_left _ List.perm_middle).trans List.perm_middle).trans (List.Perm.cons _ ((List.Perm.append_left _ List.perm_middle).trans List.perm_middle)))))) ?_
       have hel := hpl.tlen a2
       refine rpm (M' := ((p, Obj.cells #[.int .u64 (p_t176)] 65 (0, 0)) :: (b3, Obj.cells #[.slice ov0_c7_0_a cs.length ov0_c7_0_c, .slice none 0 0, .slice tv_a vs.length tv_c] 26 (0, 0)) :: (b1, Obj.cells #[.slice none 0 0, .slice none 0 0, .slice none 0 0] 26 (0, 0)) :: (tM ++ (eMs182 ++ (eR182 ++ (oM0_c7_0 ++ F)))))) (List.Perm.cons _ (List.Perm.cons _ (List.Perm.cons _ ((List.Perm.append_left _ (List.perm_append_comm_assoc _ _ _)).trans (List.perm_append_comm_assoc _ _ _))))) ?_
       refine rd 11 [(0, true), (1, true), (2, true), (3, true), (4, true), (5, true), (6, true), (7, true), (8, true), (9, false), (10, false)] ((p, Obj.cells #[.int .u64 (p_t176)] 65 (0, 0)) :: (b3, Obj.cells #[.slice ov0_c7_0_a cs.length ov0_c7_0_c, .slice none 0 0, .slice tv_a vs.length tv_c] 26 (0, 0)) :: (b1, Obj.cells #[.slice none 0 0, .slice none 0 0, .slice none 0 0] 26 (0, 0)) :: tM) ((eMs182 ++ (eR182 ++ (oM0_c7_0 ++ F)))) ?_
       refine ox 1 [(118, .pointer (some ⟨b3, 2, none⟩))] ?_
       refine ofp_det (dlb 119 1 2 b3 (.slice tv_a vs.length tv_c)) ?_
       refine ox 2 [(121, .pointer (some ⟨b3, 2, none⟩)), (120, .int .i64 (↑a2))] ?_
       refine ofp_det (dlb 122 1 2 b3 (.slice tv_a vs.length tv_c)) ?_
       refine ox 1 [(123, .int .i64 (↑a2))] ?_
       obtain ⟨ob183, orr184⟩ := to_.row undef
       refine ofp_det (di 124 1 (a2) orr184.addr) ?_
       refine ofp_det (det_eq (dl 125 (orr184.get (a2) (by omega) 0 (by decide) _ _ (fun x hx => by simp [hx]))) ev182_e) ?_
       refine ox 1 [(126, .int .i64 (↑j))] ?_
       refine ofp_stp (sbs 127 3 1 #[.int .i64 (↑j)] (fun b185 => ?_))
       refine ofp_settle (S' := ((b185, Obj.cells #[.int .i64 (↑j)] 3 (0, 0)) :: (eMs182 ++ (eR182 ++ (oM0_c7_0 ++ F))))) ((List.Perm.swap _ _ _).trans (List.Perm.cons _ ((List.Perm.swap _ _ _).trans (List.Perm.cons _ ((List.Perm.swap _ _ _).trans (List.Perm.cons _ (List.perm_middle.symm))))))) ?_
       refine ofp_stp (stp_append (d := 128) (x := (.tmp 125)) (y := (.tmp 127)) (T := 22) (T' := 22) (E := 3) (E' := 3) (sz := 1) (bs := 8) (z := .int .i64 (0)) (cell := intCell) (xs := ts.getD (a2) []) (ys := [(↑j : Int)]) (Ms := eMs182) (ty := 22) (gd := none) (by kernel_rfl) rfl (by kernel_rfl) (by kernel_rfl) (by kernel_rfl) (by kernel_rfl) (by kernel_rfl) (by decide) (by kernel_rfl) rfl rfl (eo182) (((List.Perm.cons _ ((List.Perm.cons _ ((List.Perm.cons _ ((List.Perm.append_left _ (List.perm_middle.symm)).trans (List.perm_append_comm_assoc _ _ _))).trans (List.perm_middle.symm))).trans (List.perm_middle.symm))).trans (List.perm_middle.symm)).trans (List.Perm.append_left _ (List.Perm.cons _ (List.Perm.cons _ (List.Perm.cons _ List.perm_middle))))) (one_intCell _) (src_atS 3 rfl rfl) (by first | omega | (simp only [List.length_cons, List.length_nil, List.length_append, List.length_take, List.length_drop]; omega)) (fun v187 Ms187 ho187 => ?_))
       refine ofp_settle (S' := ((b185, Obj.cells #[.int .i64 (↑j)] 3 (0, 0)) :: (Ms187 ++ (eR182 ++ (oM0_c7_0 ++ F))))) (List.perm_middle.trans (List.Perm.cons _ (List.perm_middle.trans (List.Perm.cons _ (List.perm_middle.trans (List.Perm.cons _ (((List.Perm.append_left _ (List.perm_middle.symm)).trans (List.perm_append_comm_assoc _ _ _)).trans (List.Perm.append_left _ List.perm_middle)))))))) ?_
       obtain ⟨oa187, oc187, oe187, ol187⟩ := ho187.shape
       subst oe187
       show OFP _ _ _ _ _ _ ((128, .slice oa187 ((ts.getD (a2) []) ++ ([(↑j : Int)])).length oc187) :: _) _ _
       refine ofp_end ?_
       refine nm ?_
       refine pm (M' := ((p, Obj.cells #[.int .u64 (p_t176)] 65 (0, 0)) :: (b3, Obj.cells #[.slice ov0_c7_0_a cs.length ov0_c7_0_c, .slice none 0 0, .slice tv_a vs.length tv_c] 26 (0, 0)) :: (b1, Obj.cells #[.slice none 0 0, .slice none 0 0, .slice none 0 0] 26 (0, 0)) :: (b185, Obj.cells #[.int .i64 (↑j)] 3 (0, 0)) :: (tM ++ (Ms187 ++ (eR182 ++ (oM0_c7_0 ++ F)))))) (List.Perm.cons _ (List.Perm.cons _ (List.Perm.cons _ List.perm_middle))) ?_
       obtain ⟨ob188, orr189⟩ := to_.row undef
       refine sd (di 129 1 (a2) orr189.addr) ?_
       refine sS (stp_storeOwn (T := 22) (x := (.tmp 129)) (y := (.tmp 128)) (rc := fun i f => valCell ((vs).getD i undef) f) undef (a2) 0 ((.slice oa187 ((ts.getD (a2) []) ++ ([(↑j : Int)])).length oc187 : Value)) (ty := 0) (gd := none) (by kernel_rfl) rfl to_ orr189 (by omega) (by decide) rfl rfl (by kernel_rfl) rfl rfl (by intro f hf; match f, hf with | 0, _ => rfl) ((List.Perm.cons _ ((List.Perm.cons _ ((List.Perm.cons _ (List.perm_middle.symm)).trans (List.perm_middle.symm))).trans (List.perm_middle.symm))).trans (List.perm_middle.symm)) (fun Ms190 ho190 => ?_))
       refine pm (M' := ((p, Obj.cells #[.int .u64 (p_t176)] 65 (0, 0)) :: (b3, Obj.cells #[.slice ov0_c7_0_a cs.length ov0_c7_0_c, .slice none 0 0, .slice tv_a vs.length tv_c] 26 (0, 0)) :: (b1, Obj.cells #[.slice none 0 0, .slice none 0 0, .slice none 0 0] 26 (0, 0)) :: (b185, Obj.cells #[.int .i64 (↑j)] 3 (0, 0)) :: (Ms190 ++ (Ms187 ++ (eR182 ++ (oM0_c7_0 ++ F)))))) (List.perm_middle.trans (List.Perm.cons _ (List.perm_middle.trans (List.Perm.cons _ (List.perm_middle.trans (List.Perm.cons _ List.perm_middle)))))) ?_
       obtain ⟨eM190, hea190, ep190⟩ := ek182 _ _ _ ho187
       refine seq_mem (I' := I171) (M' := ((eM190 ++ (p, Obj.cells #[.int .u64 (p_t176)] 65 (0, 0)) :: (b3, Obj.cells #[.slice ov0_c7_0_a cs.length ov0_c7_0_c, .slice none 0 0, .slice tv_a vs.length tv_c] 26 (0, 0)) :: (b1, Obj.cells #[.slice none 0 0, .slice none 0 0, .slice none 0 0] 26 (0, 0)) :: (b185, Obj.cells #[.int .i64 (↑j)] 3 (0, 0)) :: (Ms190 ++ (oM0_c7_0 ++ F))))) (fun w h => ?_) ?_
       ·have h2 := h.perm (((List.Perm.cons _ ((List.Perm.cons _ ((List.Perm.cons _ ((List.Perm.cons _ (List.perm_append_comm_assoc _ _ _)).trans (List.perm_middle.symm))).trans (List.perm_middle.symm))).trans (List.perm_middle.symm))).trans (List.perm_middle.symm)).trans (List.Perm.append_left _ ((List.Perm.cons _ ((List.Perm.cons _ ((List.Perm.cons _ ((List.Perm.cons _ (List.perm_append_comm_assoc _ _ _)).trans (List.perm_middle.symm))).trans (List.perm_middle.symm))).trans (List.perm_middle.symm))).trans (List.perm_middle.symm))))
        simp only [← List.append_assoc] at h2
        have h3 := St.permL (A' := eM190) (A := Ms187 ++ eR182) (by simpa only [List.append_assoc, List.append_nil] using ep190.symm) (by simpa only [List.append_assoc] using h2)
        simpa only [List.append_assoc] using h3
       refine pm (M' := ((p, Obj.cells #[.int .u64 (p_t176)] 65 (0, 0)) :: (b3, Obj.cells #[.slice ov0_c7_0_a cs.length ov0_c7_0_c, .slice none 0 0, .slice tv_a vs.length tv_c] 26 (0, 0)) :: (b1, Obj.cells #[.slice none 0 0, .slice none 0 0, .slice none 0 0] 26 (0, 0)) :: (b185, Obj.cells #[.int .i64 (↑j)] 3 (0, 0)) :: (eM190 ++ (Ms190 ++ (oM0_c7_0 ++ F))))) (List.perm_middle.trans (List.Perm.cons _ (List.perm_middle.trans (List.Perm.cons _ (List.perm_middle.trans (List.Perm.cons _ List.perm_middle)))))) ?_
       refine ee ?_
       refine pst_normal_block ?_
       refine pst_next ?_
       refine rr ?_
       refine sp 1 [(80, .int .i64 (↑j))] ?_
       refine sd (da 81 (↑j) (1)) ?_
       refine sp 1 [(14, .int .i64 (↑j + 1))] ?_
       refine ee ?_
       refine pst_back (n11 - (j+1)) (by omega) ?_
       intro a w hS hD hW
       exact ⟨I171, j+1, a2, ts.set (a2) ((ts.getD (a2) []) ++ ([(↑j : Int)])), (.slice tv_a vs.length tv_c), vs.set (a2) ((.slice oa187 ((ts.getD (a2) []) ++ ([(↑j : Int)])).length oc187 : Value)), Ms190, eM190, p_t176, (Imm.le.trans (Imm.le.trans (Imm.le.trans hJ1 hle155) hle169) hle172), by omega, (hpl.put (by omega) (fun e1 e2 e3 => hsame e1 e2 e3)), ho190, hea190, hS.sub (.consE 13 rfl rfl (.consE 14 rfl rfl (.cons 0 rfl (.cons 6 rfl (.cons 7 rfl (.cons 8 rfl (.nil _))))))), hD, (hW.perm (((List.Perm.cons _ ((List.Perm.cons _ (List.Perm.swap _ _ _)).trans (List.Perm.swap _ _ _))).trans (List.Perm.swap _ _ _)).trans (List.Perm.cons _ (List.Perm.cons _ (List.Perm.cons _ (List.Perm.cons _ ((List.perm_append_comm_assoc _ _ _).trans (List.Perm.append_left _ (List.perm_append_comm_assoc _ _ _))))))))).sub (List.Sublist.cons _ (List.Sublist.refl _)), rfl⟩
      ·
       have h12_r := h12
       obtain ⟨h12_1, h12_2⟩ := or_f h12
       have h12_1 := eql_f h12_1
       obtain ⟨h12_2_1, h12_2_2⟩ := or_f h12_2
       have h12_2_1 := eql_f h12_2_1
       have h12_2_2 := not_f h12_2_2
       have h12_2_2 := eql_t h12_2_2
       refine rskip ?_
       refine pst_next ?_
       obtain ⟨eMs191, eR191, eo191, ep191, ek191⟩ := OwnEach.pull hea (aa) (by omega)
       obtain ⟨ev191_a, ev191_c, ev191_e, ev191_l⟩ := eo191.shape
       rw [ev191_e] at eo191
       refine rn_mem (M' := ((eMs191 ++ (eR191 ++ (p, Obj.cells #[.int .u64 (bs2)] 65 (0, 0)) :: (b3, Obj.cells #[.slice ov0_c7_0_a cs.length ov0_c7_0_c, .slice none 0 0, .slice tv_a vs.length tv_c] 26 (0, 0)) :: (b1, Obj.cells #[.slice none 0 0, .slice none 0 0, .slice none 0 0] 26 (0, 0)) :: (tM ++ (oM0_c7_0 ++ F)))))) (fun w h => ?_) ?_
       ·have h2 := h.perm ((List.Perm.cons _ ((List.Perm.cons _ ((List.Perm.cons _ ((List.Perm.append_left _ (List.perm_append_comm_assoc _ _ _)).trans (List.perm_append_comm_assoc _ _ _))).trans (List.perm_middle.symm))).trans (List.perm_middle.symm))).trans (List.perm_middle.symm))
        have h3 := St.permL (A' := eMs191 ++ eR191) (A := eM) (by simpa only [List.append_assoc, List.append_nil] using ep191) (by simpa only [List.append_assoc] using h2)
        simpa only [List.append_assoc] using h3
       refine rn_mem (M' := ((p, Obj.cells #[.int .u64 (bs2)] 65 (0, 0)) :: (b3, Obj.cells #[.slice ov0_c7_0_a cs.length ov0_c7_0_c, .slice none 0 0, .slice tv_a vs.length tv_c] 26 (0, 0)) :: (b1, Obj.cells #[.slice none 0 0, .slice none 0 0, .slice none 0 0] 26 (0, 0)) :: (eMs191 ++ (eR191 ++ (tM ++ (oM0_c7_0 ++ F)))))) (fun w h => h.perm (((List.Perm.append_left _ List.perm_middle).trans List.perm_middle).trans (List.Perm.cons _ (((List.Perm.append_left _ List.perm_middle).trans List.perm_middle).trans (List.Perm.cons _ ((List.Perm.append_left _ List.perm_middle).trans List.perm_middle)))))) ?_
       have hel := hpl.tlen aa
       refine rpm (M' := ((p, Obj.cells #[.int .u64 (bs2)] 65 (0, 0)) :: (b3, Obj.cells #[.slice ov0_c7_0_a cs.length ov0_c7_0_c, .slice none 0 0, .slice tv_a vs.length tv_c] 26 (0, 0)) :: (b1, Obj.cells #[.slice none 0 0, .slice none 0 0, .slice none 0 0] 26 (0, 0)) :: (tM ++ (eMs191 ++ (eR191 ++ (oM0_c7_0 ++ F)))))) (List.Perm.cons _ (List.Perm.cons _ (List.Perm.cons _ ((List.Perm.append_left _ (List.perm_append_comm_assoc _ _ _)).trans (List.perm_append_comm_assoc _ _ _))))) ?_
       refine rd 11 [(0, true), (1, true), (2, true), (3, true), (4, true), (5, true), (6, true), (7, true), (8, true), (9, false), (10, false)] ((p, Obj.cells #[.int .u64 (bs2)] 65 (0, 0)) :: (b3, Obj.cells #[.slice ov0_c7_0_a cs.length ov0_c7_0_c, .slice none 0 0, .slice tv_a vs.length tv_c] 26 (0, 0)) :: (b1, Obj.cells #[.slice none 0 0, .slice none 0 0, .slice none 0 0] 26 (0, 0)) :: tM) ((eMs191 ++ (eR191 ++ (oM0_c7_0 ++ F)))) ?_
       refine ox 1 [(118, .pointer (some ⟨b3, 2, none⟩))] ?_
       refine ofp_det (dlb 119 1 2 b3 (.slice tv_a vs.length tv_c)) ?_
       refine ox 2 [(121, .pointer (some ⟨b3, 2, none⟩)), (120, .int .i64 (↑aa))] ?_
       refine ofp_det (dlb 122 1 2 b3 (.slice tv_a vs.length tv_c)) ?_
       refine ox 1 [(123, .int .i64 (↑aa))] ?_
       obtain ⟨ob192, orr193⟩ := to_.row undef
       refine ofp_det (di 124 1 (aa) orr193.addr) ?_
       refine ofp_det (det_eq (dl 125 (orr193.get (aa) (by omega) 0 (by decide) _ _ (fun x hx => by simp [hx]))) ev191_e) ?_
       refine ox 1 [(126, .int .i64 (↑j))] ?_
       refine ofp_stp (sbs 127 3 1 #[.int .i64 (↑j)] (fun b194 => ?_))
       refine ofp_settle (S' := ((b194, Obj.cells #[.int .i64 (↑j)] 3 (0, 0)) :: (eMs191 ++ (eR191 ++ (oM0_c7_0 ++ F))))) ((List.Perm.swap _ _ _).trans (List.Perm.cons _ ((List.Perm.swap _ _ _).trans (List.Perm.cons _ ((List.Perm.swap _ _ _).trans (List.Perm.cons _ (List.perm_middle.symm))))))) ?_
       refine ofp_stp (stp_append (d := 128) (x := (.tmp 125)) (y := (.tmp 127)) (T := 22) (T' := 22) (E := 3) (E' := 3) (sz := 1) (bs := 8) (z := .int .i64 (0)) (cell := intCell) (xs := ts.getD (aa) []) (ys := [(↑j : Int)]) (Ms := eMs191) (ty := 22) (gd := none) (by kernel_rfl) rfl (by kernel_rfl) (by kernel_rfl) (by kernel_rfl) (by kernel_rfl) (by kernel_rfl) (by decide) (by kernel_rfl) rfl rfl (eo191) (((List.Perm.cons _ ((List.Perm.cons _ ((List.Perm.cons _ ((List.Perm.append_left _ (List.perm_middle.symm)).trans (List.perm_append_comm_assoc _ _ _))).trans (List.perm_middle.symm))).trans (List.perm_middle.symm))).trans (List.perm_middle.symm)).trans (List.Perm.append_left _ (List.Perm.cons _ (List.Perm.cons _ (List.Perm.cons _ List.perm_middle))))) (one_intCell _) (src_atS 3 rfl rfl) (by first | omega | (simp only [List.length_cons, List.length_nil, List.length_append, List.length_take, List.length_drop]; omega)) (fun v196 Ms196 ho196 => ?_))
       refine ofp_settle (S' := ((b194, Obj.cells #[.int .i64 (↑j)] 3 (0, 0)) :: (Ms196 ++ (eR191 ++ (oM0_c7_0 ++ F))))) (List.perm_middle.trans (List.Perm.cons _ (List.perm_middle.trans (List.Perm.cons _ (List.perm_middle.trans (List.Perm.cons _ (((List.Perm.append_left _ (List.perm_middle.symm)).trans (List.perm_append_comm_assoc _ _ _)).trans (List.Perm.append_left _ List.perm_middle)))))))) ?_
       obtain ⟨oa196, oc196, oe196, ol196⟩ := ho196.shape
       subst oe196
       show OFP _ _ _ _ _ _ ((128, .slice oa196 ((ts.getD (aa) []) ++ ([(↑j : Int)])).length oc196) :: _) _ _
       refine ofp_end ?_
       refine nm ?_
       refine pm (M' := ((p, Obj.cells #[.int .u64 (bs2)] 65 (0, 0)) :: (b3, Obj.cells #[.slice ov0_c7_0_a cs.length ov0_c7_0_c, .slice none 0 0, .slice tv_a vs.length tv_c] 26 (0, 0)) :: (b1, Obj.cells #[.slice none 0 0, .slice none 0 0, .slice none 0 0] 26 (0, 0)) :: (b194, Obj.cells #[.int .i64 (↑j)] 3 (0, 0)) :: (tM ++ (Ms196 ++ (eR191 ++ (oM0_c7_0 ++ F)))))) (List.Perm.cons _ (List.Perm.cons _ (List.Perm.cons _ List.perm_middle))) ?_
       obtain ⟨ob197, orr198⟩ := to_.row undef
       refine sd (di 129 1 (aa) orr198.addr) ?_
       refine sS (stp_storeOwn (T := 22) (x := (.tmp 129)) (y := (.tmp 128)) (rc := fun i f => valCell ((vs).getD i undef) f) undef (aa) 0 ((.slice oa196 ((ts.getD (aa) []) ++ ([(↑j : Int)])).length oc196 : Value)) (ty := 0) (gd := none) (by kernel_rfl) rfl to_ orr198 (by omega) (by decide) rfl rfl (by kernel_rfl) rfl rfl (by intro f hf; match f, hf with | 0, _ => rfl) ((List.Perm.cons _ ((List.Perm.cons _ ((List.Perm.cons _ (List.perm_middle.symm)).trans (List.perm_middle.symm))).trans (List.perm_middle.symm))).trans (List.perm_middle.symm)) (fun Ms199 ho199 => ?_))
       refine pm (M' := ((p, Obj.cells #[.int .u64 (bs2)] 65 (0, 0)) :: (b3, Obj.cells #[.slice ov0_c7_0_a cs.length ov0_c7_0_c, .slice none 0 0, .slice tv_a vs.length tv_c] 26 (0, 0)) :: (b1, Obj.cells #[.slice none 0 0, .slice none 0 0, .slice none 0 0] 26 (0, 0)) :: (b194, Obj.cells #[.int .i64 (↑j)] 3 (0, 0)) :: (Ms199 ++ (Ms196 ++ (eR191 ++ (oM0_c7_0 ++ F)))))) (List.perm_middle.trans (List.Perm.cons _ (List.perm_middle.trans (List.Perm.cons _ (List.perm_middle.trans (List.Perm.cons _ List.perm_middle)))))) ?_
       obtain ⟨eM199, hea199, ep199⟩ := ek191 _ _ _ ho196
       refine seq_mem (I' := J1) (M' := ((eM199 ++ (p, Obj.cells #[.int .u64 (bs2)] 65 (0, 0)) :: (b3, Obj.cells #[.slice ov0_c7_0_a cs.length ov0_c7_0_c, .slice none 0 0, .slice tv_a vs.length tv_c] 26 (0, 0)) :: (b1, Obj.cells #[.slice none 0 0, .slice none 0 0, .slice none 0 0] 26 (0, 0)) :: (b194, Obj.cells #[.int .i64 (↑j)] 3 (0, 0)) :: (Ms199 ++ (oM0_c7_0 ++ F))))) (fun w h => ?_) ?_
       ·have h2 := h.perm (((List.Perm.cons _ ((List.Perm.cons _ ((List.Perm.cons _ ((List.Perm.cons _ (List.perm_append_comm_assoc _ _ _)).trans (List.perm_middle.symm))).trans (List.perm_middle.symm))).trans (List.perm_middle.symm))).trans (List.perm_middle.symm)).trans (List.Perm.append_left _ ((List.Perm.cons _ ((List.Perm.cons _ ((List.Perm.cons _ ((List.Perm.cons _ (List.perm_append_comm_assoc _ _ _)).trans (List.perm_middle.symm))).trans (List.perm_middle.symm))).trans (List.perm_middle.symm))).trans (List.perm_middle.symm))))
        simp only [← List.append_assoc] at h2
        have h3 := St.permL (A' := eM199) (A := Ms196 ++ eR191) (by simpa only [List.append_assoc, List.append_nil] using ep199.symm) (by simpa only [List.append_assoc] using h2)
        simpa only [List.append_assoc] using h3
       refine pm (M' := ((p, Obj.cells #[.int .u64 (bs2)] 65 (0, 0)) :: (b3, Obj.cells #[.slice ov0_c7_0_a cs.length ov0_c7_0_c, .slice none 0 0, .slice tv_a vs.length tv_c] 26 (0, 0)) :: (b1, Obj.cells #[.slice none 0 0, .slice none 0 0, .slice none 0 0] 26 (0, 0)) :: (b194, Obj.cells #[.int .i64 (↑j)] 3 (0, 0)) :: (eM199 ++ (Ms199 ++ (oM0_c7_0 ++ F))))) (List.perm_middle.trans (List.Perm.cons _ (List.perm_middle.trans (List.Perm.cons _ (List.perm_middle.trans (List.Perm.cons _ List.perm_middle)))))) ?_
       refine ee ?_
       refine pst_normal_block ?_
       refine pst_next ?_
       refine rr ?_
       refine sp 1 [(80, .int .i64 (↑j))] ?_
       refine sd (da 81 (↑j) (1)) ?_
       refine sp 1 [(14, .int .i64 (↑j + 1))] ?_
       refine ee ?_
       refine pst_back (n11 - (j+1)) (by omega) ?_
       intro a w hS hD hW
       exact ⟨J1, j+1, aa, ts.set (aa) ((ts.getD (aa) []) ++ ([(↑j : Int)])), (.slice tv_a vs.length tv_c), vs.set (aa) ((.slice oa196 ((ts.getD (aa) []) ++ ([(↑j : Int)])).length oc196 : Value)), Ms199, eM199, bs2, hJ1, by omega, (hpl.put (by omega) (fun _ _ _ => rfl)), ho199, hea199, hS.sub (.consE 13 rfl rfl (.consE 14 rfl rfl (.cons 0 rfl (.cons 6 rfl (.cons 7 rfl (.cons 8 rfl (.nil _))))))), hD, (hW.perm (((List.Perm.cons _ ((List.Perm.cons _ (List.Perm.swap _ _ _)).trans (List.Perm.swap _ _ _))).trans (List.Perm.swap _ _ _)).trans (List.Perm.cons _ (List.Perm.cons _ (List.Perm.cons _ (List.Perm.cons _ ((List.perm_append_comm_assoc _ _ _).trans (List.Perm.append_left _ (List.perm_append_comm_assoc _ _ _))))))))).sub (List.Sublist.cons _ (List.Sublist.refl _)), rfl⟩
    ·
     have h9_r := h9
     have h9 := lss_f h9
     refine rexit 2 ?_
     refine (pst_exit_pass (pst_exit_pass (pst_exit_block ?_)))
     refine pst_next ?_
     refine rq ?_
     refine rq ?_
     have hjn : j = cs.length := by omega
     have hpl2 : Placed cs (1 + n139) cs.length aa ts := hjn ▸ hpl
     have hok := hpl2.okAll
     have htl := hpl2.tl
     refine rn_freezeEach (B := ((p, Obj.cells #[.int .u64 (bs2)] 65 (0, 0)) :: (b3, Obj.cells #[.slice ov0_c7_0_a cs.length ov0_c7_0_c, .slice none 0 0, .slice tv_a vs.length tv_c] 26 (0, 0)) :: (b1, Obj.cells #[.slice none 0 0, .slice none 0 0, .slice none 0 0] 26 (0, 0)) :: (tM ++ (oM0_c7_0 ++ F)))) hea (by intro xs hx; have := htl xs hx; omega) ((List.Perm.cons _ ((List.Perm.cons _ ((List.Perm.cons _ ((List.Perm.append_left _ (List.perm_append_comm_assoc _ _ _)).trans (List.perm_append_comm_assoc _ _ _))).trans (List.perm_middle.symm))).trans (List.perm_middle.symm))).trans (List.perm_middle.symm)) (List.Perm.refl _) (fun I200 hle201 orw202 => ?_)
     have orw202_len := orw202.1
     try simp only [List.length_set, List.length_append, List.length_cons, List.length_nil, List.length_take] at orw202_len
     refine rr ?_
     refine sp 1 [(15, .int .i64 (0))] ?_
     refine se ?_
     refine rb 4 ?_
     refine rl (fun mz a w => ∃ J2 : Imm, ∃ t : Nat, ∃ rm : List Int, ∃ bs3 : Int, ∃ ov2_c7_1 : Value, ∃ oM2_c7_1 : Seg, (I200.le J2) ∧ (t ≤ 1 + n139) ∧ (Sh.Roomy cs ts t rm) ∧ (Own 3 1 intCell ov2_c7_1 (rm) oM2_c7_1) ∧ Slots 179 [(15, .int .i64 ↑t), (0, .pointer (some ⟨p, 0, none⟩)), (6, .pointer (some ⟨b1, 0, none⟩)), (7, .pointer (some ⟨b3, 0, none⟩))] a ∧ a.defers = [] ∧ St J2 ((p, Obj.cells #[.int .u64 (bs3)] 65 (0, 0)) :: (b3, Obj.cells #[.slice ov0_c7_0_a cs.length ov0_c7_0_c, ov2_c7_1, .slice tv_a vs.length tv_c] 26 (0, 0)) :: (b1, Obj.cells #[.slice none 0 0, .slice none 0 0, .slice none 0 0] 26 (0, 0)) :: (tM ++ (oM0_c7_0 ++ (oM2_c7_1 ++ F)))) w ∧ mz = 1 + n139 - t) ?_ ?_
     ·intro a w hS hD hW
      exact ⟨_, I200, 0, [], bs2, (.slice none 0 0), [], Imm.le.refl _, Nat.zero_le _, Sh.Roomy.nil _ _, (Own.nil _ _ _), hS.sub (.cons 15 rfl (.cons 0 rfl (.cons 6 rfl (.cons 7 rfl (.nil _))))), hD, hW, rfl⟩
     ·rintro mz a w ⟨J2, t, rm, bs3, ov2_c7_1, oM2_c7_1, hJ2, ht, hro, oh2_c7_1, hS, hD, hW, rfl⟩
      refine run_at hS hD hW ?_
      clear hS hD hW a w
      replace orw202 := orw202.mono hJ2
      obtain ⟨ov2_c7_1_a, ov2_c7_1_c, ov2_c7_1_e, ov2_c7_1_l⟩ := oh2_c7_1.shape; subst ov2_c7_1_e
      have hrl := hro.len
      refine rq ?_
      refine rqr ?_
      refine sp 2 [(131, .pointer (some ⟨b3, 2, none⟩)), (130, .int .i64 (↑t))] ?_
      refine sd (dlb 132 1 2 b3 (.slice tv_a vs.length tv_c)) ?_
      refine sp 2 [(134, .bool (cmp .lss (↑t) (↑(vs.length))))] ?_
      refine se ?_
      refine rc 134 rfl (fun h13 => ?_) (fun h13 => ?_)
      ·
       have h13_r := h13
       have h13 := lss_t h13
       refine rskip ?_
       refine pst_next ?_
       refine rq ?_
       refine rb 5 ?_
       refine rqr ?_
       refine sp 1 [(137, .pointer (some ⟨p, 0, none⟩))] ?_
       have hct213 := Up_ct J2 (p) (bs3) (5) (by omega)
       refine sS (sc (some 138) (F := ((b3, Obj.cells #[.slice ov0_c7_0_a cs.length ov0_c7_0_c, .slice ov2_c7_1_a rm.length ov2_c7_1_c, .slice tv_a vs.length tv_c] 26 (0, 0)) :: (b1, Obj.cells #[.slice none 0 0, .slice none 0 0, .slice none 0 0] 26 (0, 0)) :: (tM ++ (oM0_c7_0 ++ (oM2_c7_1 ++ F))))) (hct213 :) (.refl _) (fun rv211 I203 rm212 hle204 hp205 => ?_))
       obtain ⟨p_t208, n209, hv206, hm207, qp210⟩ := hp205
       rw [hv206, hm207]; clear hv206 hm207
       replace orw202 := orw202.mono hle204
       refine nm ?_
       show Seq _ _ _ _ _ _ ((138, .int .i64 (↑n209)) :: _) _ _
       refine sp 1 [(16, .int .i64 (↑n209))] ?_
       refine se ?_
       refine rq ?_
       refine rq ?_
       have htk := htl _ (getD_mem (d := []) (xs := ts) (k := t) (by omega))
       have hto := hok.at t (by omega)
       refine rr ?_
       refine sp 1 [(17, .int .i64 (0))] ?_
       refine se ?_
       refine rb 6 ?_
       refine rl (fun mz a w => ∃ i : Nat, ∃ l2 : Int, (i ≤ (ts.getD (t) []).length) ∧ (lenOf cs ((ts.getD (t) []).take i) ≤ l2) ∧ (0 ≤ l2 ∧ l2 ≤ 5 + 3 * i) ∧ Slots 179 [(16, .int .i64 l2), (17, .int .i64 ↑i), (0, .pointer (some ⟨p, 0, none⟩)), (6, .pointer (some ⟨b1, 0, none⟩)), (7, .pointer (some ⟨b3, 0, none⟩)), (15, .int .i64 (↑t))] a ∧ a.defers = [] ∧ St I203 ((p, Obj.cells #[.int .u64 (p_t208)] 65 (0, 0)) :: (b3, Obj.cells #[.slice ov0_c7_0_a cs.length ov0_c7_0_c, .slice ov2_c7_1_a rm.length ov2_c7_1_c, .slice tv_a vs.length tv_c] 26 (0, 0)) :: (b1, Obj.cells #[.slice none 0 0, .slice none 0 0, .slice none 0 0] 26 (0, 0)) :: (tM ++ (oM0_c7_0 ++ (oM2_c7_1 ++ F)))) w ∧ mz = (ts.getD (t) []).length - i) ?_ ?_
       ·intro a w hS hD hW
        exact ⟨_, 0, ↑n209, Nat.zero_le _, (by rw [List.take_zero, lenOf_nil]; omega), (by omega), hS.sub (.cons 16 rfl (.cons 17 rfl (.cons 0 rfl (.cons 6 rfl (.cons 7 rfl (.cons 15 rfl (.nil _))))))), hD, hW, rfl⟩
       ·rintro mz a w ⟨i, l2, hi, hl1, hl2, hS, hD, hW, rfl⟩
        refine run_at hS hD hW ?_
        clear hS hD hW a w
        refine rq ?_
        refine rqr ?_
        refine sp 2 [(140, .pointer (some ⟨b3, 2, none⟩)), (139, .int .i64 (↑i))] ?_
        refine sd (dlb 141 1 2 b3 (.slice tv_a vs.length tv_c)) ?_
        refine sp 1 [(142, .int .i64 (↑t))] ?_
        obtain ⟨ob214, orr215⟩ := to_.row undef
        refine sd (di 143 1 (t) orr215.addr) ?_
        have r216_f := orw202.2 (t) (by omega)
        obtain ⟨r216_a, r216_c, r216_b, r216_o, r216_e, r216_l, r216_m, r216_r⟩ := id r216_f
        rw [r216_e] at r216_f
        refine sd (det_eq (dl 144 (orr215.get (t) (by omega) 0 (by decide) _ _ (fun x hx => by simp [hx]))) r216_e) ?_
        refine sp 2 [(146, .bool (cmp .lss (↑i) (↑((ts.getD (t) []).length))))] ?_
        refine se ?_
        refine rc 146 rfl (fun h14 => ?_) (fun h14 => ?_)
        ·
         have h14_r := h14
         have h14 := lss_t h14
         refine rskip ?_
         refine pst_next ?_
         refine rq ?_
         refine rb 7 ?_
         have hc1 := hto.at i (by omega)
         have hc2 := carAt_len hci ((ts.getD (t) []).getD i 0)
         have hc3 : (carAt cs ((ts.getD (t) []).getD i 0)).len = (cs.getD ((ts.getD (t) []).getD (i) 0).toNat noCar).len := rfl
         refine rd0 14 ?_
         refine ox 2 [(150, .pointer (some ⟨b3, 0, none⟩)), (149, .int .i64 (l2))] ?_
         refine ofp_det (dlb 151 1 0 b3 (.slice ov0_c7_0_a cs.length ov0_c7_0_c)) ?_
         refine ox 1 [(152, .pointer (some ⟨b3, 2, none⟩))] ?_
         refine ofp_det (dlb 153 1 2 b3 (.slice tv_a vs.length tv_c)) ?_
         refine ox 1 [(154, .int .i64 (↑t))] ?_
         obtain ⟨ob217, orr218⟩ := to_.row undef
         refine ofp_det (di 155 1 (t) orr218.addr) ?_
         have r219_f := orw202.2 (t) (by omega)
         obtain ⟨r219_a, r219_c, r219_b, r219_o, r219_e, r219_l, r219_m, r219_r⟩ := id r219_f
         rw [r219_e] at r219_f
         refine ofp_det (det_eq (dl 156 (orr218.get (t) (by omega) 0 (by decide) _ _ (fun x hx => by simp [hx]))) r219_e) ?_
         refine ox 1 [(157, .int .i64 (↑i))] ?_
         refine ofp_det (di 158 1 (i) r219_r.addr) ?_
         refine ofp_det (dl 159 (ints_get r219_r (i) (by omega))) ?_
         obtain ⟨ob220, orr221⟩ := oh0_c7_0.row noCar
         refine ofp_det (diI 160 6 ((ts.getD (t) []).getD (i) 0) orr221.addr) ?_
         refine ox 1 [(161, .pointer (some ⟨ob220, 0 + (((ts.getD (t) []).getD (i) 0 : Int).toNat) * 6, none⟩))] ?_
         refine ofp_det (dl 162 (orr221.get (((ts.getD (t) []).getD (i) 0 : Int).toNat) (by omega) 0 (by decide) _ _ (fun x hx => by simp [hx]))) ?_
         refine ofp_end0 ?_
         refine sd (da 163 (l2) ((cs.getD (((ts.getD (t) []).getD (i) 0 : Int).toNat) noCar).len)) ?_
         refine sp 1 [(16, .int .i64 (l2 + ((cs.getD (((ts.getD (t) []).getD (i) 0 : Int).toNat) noCar).len)))] ?_
         refine ee ?_
         refine pst_normal_block ?_
         refine pst_next ?_
         refine rr ?_
         refine sp 1 [(147, .int .i64 (↑i))] ?_
         refine sd (da 148 (↑i) (1)) ?_
         refine sp 1 [(17, .int .i64 (↑i + 1))] ?_
         refine ee ?_
         refine pst_back ((ts.getD (t) []).length - (i+1)) (by omega) ?_
         intro a w hS hD hW
         exact ⟨i+1, l2 + ((cs.getD (((ts.getD (t) []).getD (i) 0 : Int).toNat) noCar).len), by omega, (by rw [lenOf_succ (by omega)]; omega), (by omega), hS.sub (.consE 16 rfl rfl (.consE 17 rfl rfl (.cons 0 rfl (.cons 6 rfl (.cons 7 rfl (.cons 15 rfl (.nil _))))))), hD, hW, rfl⟩
        ·
         have h14_r := h14
         have h14 := lss_f h14
         refine rexit 6 ?_
         refine (pst_exit_pass (pst_exit_pass (pst_exit_block ?_)))
         refine pst_next ?_
         refine rq ?_
         refine rqr ?_
         refine sp 2 [(165, .bool (cmp .eql (↑t) (0)))] ?_
         refine se ?_
         refine rc 165 rfl (fun h15 => ?_) (fun h15 => ?_)
         ·
          have h15_r := h15
          have h15 := eql_t h15
          refine rr ?_
          refine sp 2 [(167, .pointer (some ⟨p, 0, none⟩)), (166, .int .i64 (l2))] ?_
          refine sS (sbs 168 3 2 #[.int .i64 (0), .int .i64 (9)] (fun b222 => ?_))
          refine pm (M' := ((p, Obj.cells #[.int .u64 (p_t208)] 65 (0, 0)) :: (b3, Obj.cells #[.slice ov0_c7_0_a cs.length ov0_c7_0_c, .slice ov2_c7_1_a rm.length ov2_c7_1_c, .slice tv_a vs.length tv_c] 26 (0, 0)) :: (b1, Obj.cells #[.slice none 0 0, .slice none 0 0, .slice none 0 0] 26 (0, 0)) :: ([(b222, Obj.cells #[.int .i64 (0), .int .i64 (9)] 3 (0, 0))] ++ (tM ++ (oM0_c7_0 ++ (oM2_c7_1 ++ F)))))) ((List.Perm.swap _ _ _).trans (List.Perm.cons _ ((List.Perm.swap _ _ _).trans (List.Perm.cons _ (List.Perm.swap _ _ _))))) ?_
          have ho224 : Own 3 1 intCell (.slice (some ⟨b222, 0, none⟩) 2 2) ([(0 : Int), (9 : Int)] : List Int) [(b222, Obj.cells #[.int .i64 (0), .int .i64 (9)] 3 (0, 0))] := Own.lit rfl rfl
          refine sfz (A := ((p, Obj.cells #[.int .u64 (p_t208)] 65 (0, 0)) :: (b3, Obj.cells #[.slice ov0_c7_0_a cs.length ov0_c7_0_c, .slice ov2_c7_1_a rm.length ov2_c7_1_c, .slice tv_a vs.length tv_c] 26 (0, 0)) :: (b1, Obj.cells #[.slice none 0 0, .slice none 0 0, .slice none 0 0] 26 (0, 0)) :: (tM ++ (oM0_c7_0 ++ (oM2_c7_1 ++ F))))) 0 ho224 ((List.Perm.cons _ ((List.Perm.cons _ (List.perm_middle.symm)).trans (List.perm_middle.symm))).trans (List.perm_middle.symm)) (fun I225 hle226 fz227_f => ?_)
          replace orw202 := orw202.mono hle226
          obtain ⟨fz227_a, fz227_c, fz227_b, fz227_o, fz227_e, fz227_l, fz227_m, fz227_r⟩ := id fz227_f
          cases fz227_e
          have hct238 := One_ct I225 (p) (p_t208) _ _ fz227_f (by simp)
          refine sS (sc (some 169) (F := ((b3, Obj.cells #[.slice ov0_c7_0_a cs.length ov0_c7_0_c, .slice ov2_c7_1_a rm.length ov2_c7_1_c, .slice tv_a vs.length tv_c] 26 (0, 0)) :: (b1, Obj.cells #[.slice none 0 0, .slice none 0 0, .slice none 0 0] 26 (0, 0)) :: (tM ++ (oM0_c7_0 ++ (oM2_c7_1 ++ F))))) (hct238 :) (.refl _) (fun rv236 I228 rm237 hle229 hp230 => ?_))
          obtain ⟨p_t233, r234, hv231, hm232, qp235⟩ := hp230
          rw [hv231, hm232]; clear hv231 hm232
          replace orw202 := orw202.mono hle229
          refine nm ?_
          show Seq _ _ _ _ _ _ ((169, .int .i64 ((r234))) :: _) _ _
          have hl9 : 0 ≤ (r234) ∧ (r234) ≤ 9 := by
           have hq := qp235
           simp only [List.mem_cons, List.not_mem_nil, or_false] at hq
           omega
          refine sd (da 170 (l2) ((r234))) ?_
          refine sp 1 [(16, .int .i64 (l2 + ((r234))))] ?_
          refine se ?_
          have hli : lenOf cs (ts.getD (t) []) ≤ l2 := by have hq := hl1; rw [take_done (by omega)] at hq; exact hq
          have hl15 := lenOf_3 hci (ts.getD (t) [])
          refine rr ?_
          refine sp 1 [(171, .pointer (some ⟨b3, 1, none⟩))] ?_
          refine sd (dlb 172 1 1 b3 (.slice ov2_c7_1_a rm.length ov2_c7_1_c)) ?_
          refine sp 2 [(174, .int .i64 ((if (l2 + ((r234)) : Int) < (20 : Int) then l2 + ((r234)) else 20)))] ?_
          refine sS (sbs 175 3 1 #[.int .i64 ((if (l2 + ((r234)) : Int) < (20 : Int) then l2 + ((r234)) else 20))] (fun b239 => ?_))
          refine sS (stp_append (d := 176) (x := (.tmp 172)) (y := (.tmp 175)) (T := 22) (T' := 22) (E := 3) (E' := 3) (sz := 1) (bs := 8) (z := .int .i64 (0)) (cell := intCell) (xs := rm) (ys := [((if (l2 + ((r234)) : Int) < (20 : Int) then l2 + ((r234)) else 20) : Int)]) (Ms := oM2_c7_1) (ty := 22) (gd := none) (by kernel_rfl) rfl (by kernel_rfl) (by kernel_rfl) (by kernel_rfl) (by kernel_rfl) (by kernel_rfl) (by decide) (by kernel_rfl) rfl rfl (oh2_c7_1) ((List.Perm.cons _ ((List.Perm.cons _ ((List.Perm.cons _ ((List.Perm.cons _ ((List.Perm.append_left _ (List.perm_append_comm_assoc _ _ _)).trans (List.perm_append_comm_assoc _ _ _))).trans (List.perm_middle.symm))).trans (List.perm_middle.symm))).trans (List.perm_middle.symm))).trans (List.perm_middle.symm)) (one_intCell _) (src_atS 0 rfl rfl) (by first | omega | (simp only [List.length_cons, List.length_nil, List.length_append, List.length_take, List.length_drop]; omega)) (fun v241 Ms241 ho241 => ?_))
          refine seq_mem (M' := ((p, Obj.cells #[.int .u64 (p_t233)] 65 (0, 0)) :: (b3, Obj.cells #[.slice ov0_c7_0_a cs.length ov0_c7_0_c, .slice ov2_c7_1_a rm.length ov2_c7_1_c, .slice tv_a vs.length tv_c] 26 (0, 0)) :: (b1, Obj.cells #[.slice none 0 0, .slice none 0 0, .slice none 0 0] 26 (0, 0)) :: (Ms241 ++ (tM ++ (oM0_c7_0 ++ F))))) (fun w h => (h.perm (List.perm_middle.trans (List.Perm.cons _ (List.perm_middle.trans (List.Perm.cons _ (List.perm_middle.trans (List.Perm.cons _ List.perm_middle))))))).sub (List.Sublist.cons _ (List.Sublist.refl _))) ?_
          obtain ⟨oa241, oc241, oe241, ol241⟩ := ho241.shape
          subst oe241
          show Seq _ _ _ _ _ _ ((176, .slice oa241 (rm ++ ([((if (l2 + ((r234)) : Int) < (20 : Int) then l2 + ((r234)) else 20) : Int)])).length oc241) :: _) _ _
          refine sp 1 [(177, .pointer (some ⟨b3, 1, none⟩))] ?_
          refine sS (ss 1 1 b3 [.slice oa241 (rm ++ ([((if (l2 + ((r234)) : Int) < (20 : Int) then l2 + ((r234)) else 20) : Int)])).length oc241] [.slice ov0_c7_0_a cs.length ov0_c7_0_c, .slice oa241 (rm ++ ([((if (l2 + ((r234)) : Int) < (20 : Int) then l2 + ((r234)) else 20) : Int)])).length oc241, .slice tv_a vs.length tv_c] (_ :: _ :: _ :: _) (cs := [_, _, _]) rfl rfl ?_)
          refine ee ?_
          refine pst_normal_block ?_
          refine pst_next ?_
          refine rr ?_
          refine sp 1 [(135, .int .i64 (↑t))] ?_
          refine sd (da 136 (↑t) (1)) ?_
          refine sp 1 [(15, .int .i64 (↑t + 1))] ?_
          refine ee ?_
          refine pst_back (1 + n139 - (t+1)) (by omega) ?_
          intro a w hS hD hW
          exact ⟨I228, t+1, rm ++ ([((if (l2 + ((r234)) : Int) < (20 : Int) then l2 + ((r234)) else 20) : Int)]), p_t233, .slice oa241 (rm ++ ([((if (l2 + ((r234)) : Int) < (20 : Int) then l2 + ((r234)) else 20) : Int)])).length oc241, Ms241, (Imm.le.trans (Imm.le.trans (Imm.le.trans hJ2 hle204) hle226) hle229), by omega, hro.snoc (by split <;> omega) (by split <;> omega), ho241, hS.sub (.consE 15 rfl rfl (.cons 0 rfl (.cons 6 rfl (.cons 7 rfl (.nil _))))), hD, hW.perm (List.Perm.cons _ (List.Perm.cons _ (List.Perm.cons _ ((List.perm_append_comm_assoc _ _ _).trans (List.Perm.append_left _ (List.perm_append_comm_assoc _ _ _)))))), rfl⟩
         ·
          have h15_r := h15
          have h15 := eql_f h15
          refine rskip ?_
          refine pst_next ?_
          have hli : lenOf cs (ts.getD (t) []) ≤ l2 := by have hq := hl1; rw [take_done (by omega)] at hq; exact hq
          have hl15 := lenOf_3 hci (ts.getD (t) [])
          refine rr ?_
          refine sp 1 [(171, .pointer (some ⟨b3, 1, none⟩))] ?_
          refine sd (dlb 172 1 1 b3 (.slice ov2_c7_1_a rm.length ov2_c7_1_c)) ?_
          refine sp 2 [(174, .int .i64 ((if (l2 : Int) < (20 : Int) then l2 else 20)))] ?_
          refine sS (sbs 175 3 1 #[.int .i64 ((if (l2 : Int) < (20 : Int) then l2 else 20))] (fun b242 => ?_))
          refine sS (stp_append (d := 176) (x := (.tmp 172)) (y := (.tmp 175)) (T := 22) (T' := 22) (E := 3) (E' := 3) (sz := 1) (bs := 8) (z := .int .i64 (0)) (cell := intCell) (xs := rm) (ys := [((if (l2 : Int) < (20 : Int) then l2 else 20) : Int)]) (Ms := oM2_c7_1) (ty := 22) (gd := none) (by kernel_rfl) rfl (by kernel_rfl) (by kernel_rfl) (by kernel_rfl) (by kernel_rfl) (by kernel_rfl) (by decide) (by kernel_rfl) rfl rfl (oh2_c7_1) ((List.Perm.cons _ ((List.Perm.cons _ ((List.Perm.cons _ ((List.Perm.cons _ ((List.Perm.append_left _ (List.perm_append_comm_assoc _ _ _)).trans (List.perm_append_comm_assoc _ _ _))).trans (List.perm_middle.symm))).trans (List.perm_middle.symm))).trans (List.perm_middle.symm))).trans (List.perm_middle.symm)) (one_intCell _) (src_atS 0 rfl rfl) (by first | omega | (simp only [List.length_cons, List.length_nil, List.length_append, List.length_take, List.length_drop]; omega)) (fun v244 Ms244 ho244 => ?_))
          refine seq_mem (M' := ((p, Obj.cells #[.int .u64 (p_t208)] 65 (0, 0)) :: (b3, Obj.cells #[.slice ov0_c7_0_a cs.length ov0_c7_0_c, .slice ov2_c7_1_a rm.length ov2_c7_1_c, .slice tv_a vs.length tv_c] 26 (0, 0)) :: (b1, Obj.cells #[.slice none 0 0, .slice none 0 0, .slice none 0 0] 26 (0, 0)) :: (Ms244 ++ (tM ++ (oM0_c7_0 ++ F))))) (fun w h => (h.perm (List.perm_middle.trans (List.Perm.cons _ (List.perm_middle.trans (List.Perm.cons _ (List.perm_middle.trans (List.Perm.cons _ List.perm_middle))))))).sub (List.Sublist.cons _ (List.Sublist.refl _))) ?_
          obtain ⟨oa244, oc244, oe244, ol244⟩ := ho244.shape
          subst oe244
          show Seq _ _ _ _ _ _ ((176, .slice oa244 (rm ++ ([((if (l2 : Int) < (20 : Int) then l2 else 20) : Int)])).length oc244) :: _) _ _
          refine sp 1 [(177, .pointer (some ⟨b3, 1, none⟩))] ?_
          refine sS (ss 1 1 b3 [.slice oa244 (rm ++ ([((if (l2 : Int) < (20 : Int) then l2 else 20) : Int)])).length oc244] [.slice ov0_c7_0_a cs.length ov0_c7_0_c, .slice oa244 (rm ++ ([((if (l2 : Int) < (20 : Int) then l2 else 20) : Int)])).length oc244, .slice tv_a vs.length tv_c] (_ :: _ :: _ :: _) (cs := [_, _, _]) rfl rfl ?_)
          refine ee ?_
          refine pst_normal_block ?_
          refine pst_next ?_
          refine rr ?_
          refine sp 1 [(135, .int .i64 (↑t))] ?_
          refine sd (da 136 (↑t) (1)) ?_
          refine sp 1 [(15, .int .i64 (↑t + 1))] ?_
          refine ee ?_
          refine pst_back (1 + n139 - (t+1)) (by omega) ?_
          intro a w hS hD hW
          exact ⟨I203, t+1, rm ++ ([((if (l2 : Int) < (20 : Int) then l2 else 20) : Int)]), p_t208, .slice oa244 (rm ++ ([((if (l2 : Int) < (20 : Int) then l2 else 20) : Int)])).length oc244, Ms244, (Imm.le.trans hJ2 hle204), by omega, hro.snoc (by split <;> omega) (by split <;> omega), ho244, hS.sub (.consE 15 rfl rfl (.cons 0 rfl (.cons 6 rfl (.cons 7 rfl (.nil _))))), hD, hW.perm (List.Perm.cons _ (List.Perm.cons _ (List.Perm.cons _ ((List.perm_append_comm_assoc _ _ _).trans (List.Perm.append_left _ (List.perm_append_comm_assoc _ _ _)))))), rfl⟩
      ·
       have h13_r := h13
       have h13 := lss_f h13
       refine rexit 4 ?_
       refine (pst_exit_pass (pst_exit_pass (pst_exit_block ?_)))
       refine pst_next ?_
       refine rqr ?_
       refine sd (dnb 178 1 0 b3 [.slice ov0_c7_0_a cs.length ov0_c7_0_c, .slice ov2_c7_1_a rm.length ov2_c7_1_c, .slice tv_a vs.length tv_c]) ?_
       refine sS (ss 2 0 b1 [.slice ov0_c7_0_a cs.length ov0_c7_0_c, .slice ov2_c7_1_a rm.length ov2_c7_1_c, .slice tv_a vs.length tv_c] [.slice ov0_c7_0_a cs.length ov0_c7_0_c, .slice ov2_c7_1_a rm.length ov2_c7_1_c, .slice tv_a vs.length tv_c] (_ :: _ :: _ :: _) (cs := [_, _, _]) rfl rfl ?_)
       refine se ?_
       refine rret ?_
       refine ppm (M' := ((p, Obj.cells #[.int .u64 (bs3)] 65 (0, 0)) :: (oM0_c7_0 ++ (oM2_c7_1 ++ (tM ++ (b3, Obj.cells #[.slice ov0_c7_0_a cs.length ov0_c7_0_c, .slice ov2_c7_1_a rm.length ov2_c7_1_c, .slice tv_a vs.length tv_c] 26 (0, 0)) :: (b1, Obj.cells #[.slice ov0_c7_0_a cs.length ov0_c7_0_c, .slice ov2_c7_1_a rm.length ov2_c7_1_c, .slice tv_a vs.length tv_c] 26 (0, 0)) :: F))))) (List.Perm.cons _ (((List.Perm.cons _ ((List.Perm.cons _ (List.perm_append_comm_assoc _ _ _)).trans (List.perm_middle.symm))).trans (List.perm_middle.symm)).trans (List.Perm.append_left _ (((List.Perm.cons _ ((List.Perm.cons _ (List.perm_append_comm_assoc _ _ _)).trans (List.perm_middle.symm))).trans (List.perm_middle.symm)).trans (List.Perm.append_left _ ((List.Perm.cons _ (List.perm_middle.symm)).trans (List.perm_middle.symm))))))) ?_
       refine pst_retC1 (t := 6) (T := 26) (n := 3) ([(p, Obj.cells #[.int .u64 (bs3)] 65 (0, 0))] ++ (oM0_c7_0 ++ (oM2_c7_1 ++ (tM)))) (by kernel_rfl) rfl (by kernel_rfl) rfl (seesN_mem (n := 3) (cs := #[.slice ov0_c7_0_a cs.length ov0_c7_0_c, .slice ov2_c7_1_a rm.length ov2_c7_1_c, .slice tv_a vs.length tv_c]) (b := b1) (off := 0) (T := 26) (fz := (0, 0)) (vs := [.slice ov0_c7_0_a cs.length ov0_c7_0_c, .slice ov2_c7_1_a rm.length ov2_c7_1_c, .slice tv_a vs.length tv_c]) (by simp) rfl) (.inl ⟨by kernel_rfl, rfl⟩) (by simp only [List.append_assoc, List.nil_append, List.cons_append]; exact (List.Sublist.cons_cons _ (List.Sublist.append_left (List.Sublist.append_left (List.Sublist.append_left (List.Sublist.cons _ (List.Sublist.cons _ (List.Sublist.refl _))) _) _) _))) (Imm.le.trans (Imm.le.trans (Imm.le.trans (Imm.le.trans (Imm.le.trans hle6 hJ0) hle134) hJ1) hle201) hJ2) ?_
       exact ⟨_, ⟨cs, rm, ts⟩, _, _, _, _, _, _, _, rfl, rfl, drawn_valid hci hpl2 ((show t = 1 + n139 by omega) ▸ hro) (by omega) (by omega), (by show cs.length ≤ c; omega), oh0_c7_0, oh2_c7_1, to_, orw202⟩

end Go.Proofs.YtcaocbhbofejnaaDoor
namespace Go.Sh
open Go Go.Sl

theorem perm_sum {l m : List Int} (h : l.Perm m) : l.sum = m.sum := by
  induction h with
  | nil => rfl
  | cons x _ ih => simp [ih]
  | swap x y l => simp only [List.sum_cons]; omega
  | trans _ _ h1 h2 => exact h1.trans h2
theorem erase_perm {α : Type} {d : α} {l : List α} {i : Nat} (h : i < l.length) : (l.getD i d :: l.eraseIdx i).Perm l := by
  have e : l = l.take i ++ l.getD i d :: l.drop (i + 1) := by rw [← drop_cons h, List.take_append_drop]
  rw [← erase_take]
  exact (List.perm_middle.symm).trans (List.Perm.of_eq e.symm)
structure Blk (cs : List Car) (bl : List (List Int)) : Prop where
  one : ∀ b ∈ bl, ∀ x ∈ b, ∀ y ∈ b, grp cs x = grp cs y
  apart : bl.Pairwise fun b c => ∀ x ∈ b, ∀ y ∈ c, 0 < grp cs x → grp cs x ≠ grp cs y
theorem Blk.perm {cs : List Car} {bl bl' : List (List Int)} (h : Blk cs bl) (p : bl.Perm bl') : Blk cs bl' :=
  ⟨fun b hb => h.one b (p.mem_iff.2 hb), (p.pairwise_iff (fun {b c} hbc x hx y hy h0 e => hbc y hy x hx (by omega) e.symm)).1 h.apart⟩
def RowOk (cs : List Car) (t : List Int) : Prop := ∀ k, k < t.length → 0 < grp cs (t.getD k 0) → (∃ c ∈ t.take k, grp cs c = grp cs (t.getD k 0)) → 0 < k ∧ grp cs (t.getD (k - 1) 0) = grp cs (t.getD k 0)
theorem getD_app {a b : List Int} {k : Nat} : (a ++ b).getD k 0 = if k < a.length then a.getD k 0 else b.getD (k - a.length) 0 := by
  simp only [List.getD]
  split
  · rename_i h; rw [List.getElem?_append_left h]
  · rename_i h; rw [List.getElem?_append_right (by omega)]
theorem Blk.row {cs : List Car} : ∀ {bl : List (List Int)}, Blk cs bl → RowOk cs bl.flatten := by
  intro bl
  induction bl with
  | nil => intro _ k hk; simp at hk
  | cons b r ih =>
    intro h k hk h0 hc
    have ih := ih ⟨fun b hb => h.one b (List.mem_cons_of_mem _ hb), (List.pairwise_cons.1 h.apart).2⟩
    rw [List.flatten_cons] at hk h0 hc ⊢
    obtain ⟨c, hc, e⟩ := hc
    by_cases hkb : k < b.length
    · have e0 : (b ++ r.flatten).getD k 0 = b.getD k 0 := by rw [getD_app, if_pos hkb]
      rw [List.take_append_of_le_length (by omega)] at hc
      have hk0 : 0 < k := by
        rcases Nat.eq_zero_or_pos k with hz | hz
        · subst hz; simp at hc
        · exact hz
      refine ⟨hk0, ?_⟩
      rw [e0, getD_app, if_pos (by omega)]
      exact h.one b List.mem_cons_self _ (getD_mem (by omega)) _ (getD_mem hkb)
    · have e0 : (b ++ r.flatten).getD k 0 = r.flatten.getD (k - b.length) 0 := by rw [getD_app, if_neg hkb]
      rw [e0] at h0 e ⊢
      have hk2 : k - b.length < r.flatten.length := by rw [List.length_append] at hk; omega
      have hmem : r.flatten.getD (k - b.length) 0 ∈ r.flatten := getD_mem hk2
      rw [List.take_append, List.take_of_length_le (by omega)] at hc
      rcases List.mem_append.1 hc with hc | hc
      · exfalso
        obtain ⟨b2, hb2, hm2⟩ := List.mem_flatten.1 hmem
        exact (List.pairwise_cons.1 h.apart).1 b2 hb2 c hc _ hm2 (by omega) e
      · obtain ⟨i1, i2⟩ := ih (k - b.length) hk2 h0 ⟨c, hc, e⟩
        refine ⟨by omega, ?_⟩
        rw [getD_app, if_neg (by omega), show k - 1 - b.length = k - b.length - 1 by omega]
        exact i2
theorem coupled_of {cs : List Car} {t : List Int} {k : Nat} (hk : k < t.length) (h0 : 0 < grp cs (t.getD k 0)) (h1 : 0 < k) (e : grp cs (t.getD (k - 1) 0) = grp cs (t.getD k 0)) : coupled cs t ↑k = true := by
  rw [coupled_raw hk, show ((k : Int) - 1).toNat = k - 1 by omega, decide_eq_true (show 0 < (k : Int) by omega), decide_eq_true (show 0 < (carAt cs (t.getD k 0)).grp from h0), decide_eq_true (show (carAt cs (t.getD k 0)).grp = (carAt cs (t.getD (k - 1) 0)).grp from e.symm)]
  rfl
theorem coupled_to {cs : List Car} {t : List Int} {k : Nat} (hk : k < t.length) (h : coupled cs t ↑k = true) : 0 < k ∧ 0 < grp cs (t.getD k 0) ∧ grp cs (t.getD k 0) = grp cs (t.getD (k - 1) 0) := by
  rw [coupled_raw hk, show ((k : Int) - 1).toNat = k - 1 by omega] at h
  simp only [Bool.and_eq_true, decide_eq_true_eq] at h
  exact ⟨by omega, h.2.1, h.2.2⟩
theorem blocks_blk {cs : List Car} {t : List Int} (h : ∀ k, k < t.length → 0 < grp cs (t.getD k 0) → (∃ c ∈ t.take k, grp cs c = grp cs (t.getD k 0)) → coupled cs t ↑k = true) :
    ∀ k, k ≤ t.length → Blk cs (blocksTo cs t k) ∧ (0 < k → ∃ ys y, blocksTo cs t k = ys ++ [y] ∧ t.getD (k - 1) 0 ∈ y) := by
  intro k
  induction k with
  | zero => intro _; exact ⟨⟨fun b hb => by simp [blocksTo] at hb, by simp [blocksTo]⟩, fun h => by omega⟩
  | succ k ih =>
    intro hk
    obtain ⟨hb, hl⟩ := ih (by omega)
    by_cases hc : coupled cs t ↑k = true
    · obtain ⟨c1, c2, c3⟩ := coupled_to (by omega) hc
      obtain ⟨ys, y, e, hy⟩ := hl c1
      have e2 : blocksTo cs t (k + 1) = ys ++ [y ++ [t.getD k 0]] := by
        rw [blocksTo_yes hc, e]
        simp [List.getD]
      rw [e2]
      rw [e] at hb
      have ho := hb.one
      have ha := List.pairwise_append.1 hb.apart
      refine ⟨⟨fun b hb2 => ?_, List.pairwise_append.2 ⟨ha.1, by simp, fun b hb2 c hc2 => ?_⟩⟩, fun _ => ⟨ys, _, rfl, by simp⟩⟩
      · rcases List.mem_append.1 hb2 with hb2 | hb2
        · exact ho b (List.mem_append_left _ hb2)
        · have hb2 := List.mem_singleton.1 hb2
          subst hb2
          have key : ∀ x ∈ y ++ [t.getD k 0], grp cs x = grp cs (t.getD (k - 1) 0) := fun x hx => by
            rcases List.mem_append.1 hx with hx | hx
            · exact ho y (by simp) x hx _ hy
            · have hx := List.mem_singleton.1 hx; subst hx; exact c3
          intro x hx z hz
          rw [key x hx, key z hz]
      · have hc2 := List.mem_singleton.1 hc2
        subst hc2
        intro x hx z hz h0
        rcases List.mem_append.1 hz with hz | hz
        · exact ha.2.2 b hb2 y (by simp) x hx z hz h0
        · have hz := List.mem_singleton.1 hz; subst hz
          rw [c3]
          exact ha.2.2 b hb2 y (by simp) x hx _ hy h0
    · have hc' : coupled cs t ↑k = false := by simpa using hc
      rw [blocksTo_no hc']
      refine ⟨⟨fun b hb2 => ?_, List.pairwise_append.2 ⟨hb.apart, by simp, fun b hb2 c hc2 => ?_⟩⟩, fun _ => ⟨_, _, rfl, by simp⟩⟩
      · rcases List.mem_append.1 hb2 with hb2 | hb2
        · exact hb.one b hb2
        · have hb2 := List.mem_singleton.1 hb2
          subst hb2
          intro x hx z hz
          rw [List.mem_singleton.1 hx, List.mem_singleton.1 hz]
      · have hc2 := List.mem_singleton.1 hc2
        subst hc2
        intro x hx z hz h0 e
        have hz := List.mem_singleton.1 hz; subst hz
        refine hc (h k (by omega) (by omega) ⟨x, ?_, e⟩)
        rw [← blocksTo_flat k (by omega)]
        exact List.mem_flatten.2 ⟨b, hb2, hx⟩
theorem rowsN_perm : ∀ (n : Nat) (bl : List (List Int)), bl.length = n → ∀ x ∈ rowsN n bl, ∃ bl' : List (List Int), bl'.Perm bl ∧ x = bl'.flatten := by
  intro n
  induction n with
  | zero => intro bl h x hx; simp [rowsN, ordN] at hx; subst hx; exact ⟨[], by rw [List.length_eq_zero_iff.1 h], rfl⟩
  | succ n ih =>
    intro bl h x hx
    simp only [rowsN, ordN, ordFrom, List.mem_flatMap, List.mem_map] at hx
    obtain ⟨i, hi, y, hy, rfl⟩ := hx
    have hi := List.mem_range'_1.1 hi
    obtain ⟨bl', hp, rfl⟩ := ih _ (erase_len (k := i) (by omega) h) y hy
    refine ⟨bl.getD i [] :: bl', ?_, rfl⟩
    refine (List.Perm.cons _ hp).trans ?_
    have hb : i < bl.length := by omega
    exact erase_perm hb
theorem Fine.row {Y : Yard} (f : Fine Y) {r : List Int} (hr : r ∈ rowsN (blocksOf Y.cars (trk Y 0)).length (blocksOf Y.cars (trk Y 0))) : Valid { Y with tracks := Y.tracks.set 0 r } ∧ r.Perm (trk Y 0) := by
  have hlen := f.len; have hr1 := f.room1
  obtain ⟨t, ts, ht⟩ : ∃ t ts, Y.tracks = t :: ts := by
    cases hh : Y.tracks with
    | nil => rw [hh] at hlen; simp at hlen; omega
    | cons t ts => exact ⟨t, ts, rfl⟩
  have ht0 : trk Y 0 = t := by show Y.tracks.getD 0 [] = t; rw [ht]; rfl
  rw [ht0] at hr ⊢
  have hg := groups_iff.1 f.groups
  have hrow : ∀ k, k < t.length → 0 < grp Y.cars (t.getD k 0) → (∃ c ∈ t.take k, grp Y.cars c = grp Y.cars (t.getD k 0)) → coupled Y.cars t ↑k = true := fun k hk h0 hc => by
    have := hg 0 k (by rw [ht]; simp) (by rw [ht]; simpa using hk) (by rw [ht]; simpa using h0) (.inr (by rw [ht]; simpa using hc))
    rw [ht] at this; simpa using this
  obtain ⟨hb, _⟩ := blocks_blk hrow t.length (Nat.le_refl _)
  obtain ⟨bl', hp, rfl⟩ := rowsN_perm _ _ rfl r hr
  have hflat : (blocksOf Y.cars t).flatten = t := by
    have := blocksTo_flat (cs := Y.cars) (t := t) t.length (Nat.le_refl _)
    rw [List.take_length] at this; exact this
  have hperm : bl'.flatten.Perm t := by
    have := hp.flatten
    rw [hflat] at this; exact this
  have hrok := (Blk.perm hb hp.symm).row
  refine ⟨Fine.valid ⟨f.cars, f.carOk, f.room1, f.room3, f.roomOk, by rw [List.length_set]; exact f.len, ?_, ?_, ?_, ?_, ?_⟩, hperm⟩
  all_goals simp only [ht, List.set_cons_zero]
  · intro x hx c hc
    have hok := f.ok
    rw [ht] at hok
    rcases List.mem_cons.1 hx with e | hx
    · subst e; exact hok t List.mem_cons_self c (hperm.mem_iff.1 hc)
    · exact hok x (List.mem_cons_of_mem _ hx) c hc
  · have hn := f.nodup
    rw [ht] at hn
    rw [List.flatten_cons] at hn ⊢
    exact (List.Perm.append_right _ hperm).nodup_iff.2 hn
  · intro k hk
    have hf := f.fits
    rw [ht] at hf
    cases k with
    | zero =>
      have := hf 0 (by simp)
      rw [List.getD_cons_zero] at this ⊢
      have e : lenOf Y.cars bl'.flatten = lenOf Y.cars t := by
        unfold lenOf; exact perm_sum (hperm.map _)
      rw [e]; exact this
    | succ k => simpa using hf (k + 1) (by simpa using hk)
  · have ha := f.all
    rw [ht] at ha
    rw [List.flatten_cons, List.length_append] at ha ⊢
    rw [hperm.length_eq]; exact ha
  · refine groups_iff.2 ?_
    show GrpFrom Y.cars (bl'.flatten :: ts) []
    intro i k hi hk h0 hm
    rcases hm with hm | ⟨c, hc, e⟩
    · simp at hm
    · cases i with
      | zero =>
        simp only [List.getD_cons_zero, List.take_zero, List.flatten_nil, List.nil_append] at hk h0 hc e ⊢
        obtain ⟨h1, h2⟩ := hrok k hk h0 ⟨c, hc, e⟩
        exact coupled_of hk h0 h1 h2
      | succ i =>
        have := hg (i + 1) k (by rw [ht]; simpa using hi) (by rw [ht]; simpa using hk) (by rw [ht]; simpa using h0) (.inr ⟨c, by
          rw [ht]
          simp only [List.take_succ_cons, List.flatten_cons, List.getD_cons_succ, List.mem_append] at hc ⊢
          rcases hc with (hc | hc) | hc
          · exact .inl (.inl (hperm.mem_iff.1 hc))
          · exact .inl (.inr hc)
          · exact .inr hc, by rw [ht]; simpa using e⟩)
        rw [ht] at this; simpa using this

theorem sumBy_perm {f : Car → Int} {cs : List Car} {s t : List Int} (h : s.Perm t) : sumBy f cs s = sumBy f cs t := perm_sum (h.map _)
def quoOf (cs : List Car) (c : Int) : Int := 100 * (carAt cs c).brk / (carAt cs c).wt
def worstM (cs : List Car) (t : List Int) : Int := t.foldl (fun w c => if quoOf cs c < w then quoOf cs c else w) 100
def bestM (cs : List Car) (t : List Int) : Int := t.foldl (fun b c => if b < quoOf cs c then quoOf cs c else b) 0
theorem worstM_succ {cs : List Car} {t : List Int} {k : Nat} (hk : k < t.length) : worstM cs (t.take (k + 1)) = if quoOf cs (t.getD k 0) < worstM cs (t.take k) then quoOf cs (t.getD k 0) else worstM cs (t.take k) := by
  unfold worstM; rw [take_snoc (d := 0) hk, List.foldl_append]; rfl
theorem bestM_succ {cs : List Car} {t : List Int} {k : Nat} (hk : k < t.length) : bestM cs (t.take (k + 1)) = if bestM cs (t.take k) < quoOf cs (t.getD k 0) then quoOf cs (t.getD k 0) else bestM cs (t.take k) := by
  unfold bestM; rw [take_snoc (d := 0) hk, List.foldl_append]; rfl
theorem worst_fold (cs : List Car) : ∀ (t : List Int) (w : Int), t.foldl (fun w c => if quoOf cs c < w then quoOf cs c else w) w ≤ w ∧ ∀ c ∈ t, t.foldl (fun w c => if quoOf cs c < w then quoOf cs c else w) w ≤ quoOf cs c := by
  intro t
  induction t with
  | nil => intro w; exact ⟨Int.le_refl _, fun c h => by simp at h⟩
  | cons x r ih =>
    intro w
    simp only [List.foldl_cons]
    obtain ⟨h1, h2⟩ := ih (if quoOf cs x < w then quoOf cs x else w)
    refine ⟨by split at h1 <;> split <;> omega, fun c hc => ?_⟩
    rcases List.mem_cons.1 hc with e | hc
    · subst e; split at h1 <;> split <;> omega
    · exact h2 c hc
theorem best_fold (cs : List Car) : ∀ (t : List Int) (w : Int), w ≤ t.foldl (fun w c => if w < quoOf cs c then quoOf cs c else w) w ∧ ∀ c ∈ t, quoOf cs c ≤ t.foldl (fun w c => if w < quoOf cs c then quoOf cs c else w) w := by
  intro t
  induction t with
  | nil => intro w; exact ⟨Int.le_refl _, fun c h => by simp at h⟩
  | cons x r ih =>
    intro w
    simp only [List.foldl_cons]
    obtain ⟨h1, h2⟩ := ih (if w < quoOf cs x then quoOf cs x else w)
    refine ⟨by split at h1 <;> split <;> omega, fun c hc => ?_⟩
    rcases List.mem_cons.1 hc with e | hc
    · subst e; split at h1 <;> split <;> omega
    · exact h2 c hc
end Go.Sh
namespace Go.Sh
open Go Go.Sl
theorem sum_low {f g : Car → Int} {cs : List Car} {w : Int} : ∀ (t : List Int), (∀ c ∈ t, w * f (carAt cs c) ≤ 100 * g (carAt cs c)) → w * sumBy f cs t ≤ 100 * sumBy g cs t := by
  intro t
  induction t with
  | nil => intro _; simp [sumBy]
  | cons c r ih =>
    intro h
    have h1 := h c List.mem_cons_self
    have h2 := ih fun x hx => h x (List.mem_cons_of_mem _ hx)
    simp only [sumBy, List.map_cons, List.sum_cons] at h2 ⊢
    rw [Int.mul_add, Int.mul_add]; omega
theorem sum_high {f g : Car → Int} {cs : List Car} {w : Int} : ∀ (t : List Int), (∀ c ∈ t, 100 * g (carAt cs c) + 1 ≤ w * f (carAt cs c)) → 100 * sumBy g cs t + t.length ≤ w * sumBy f cs t := by
  intro t
  induction t with
  | nil => intro _; simp [sumBy]
  | cons c r ih =>
    intro h
    have h1 := h c List.mem_cons_self
    have h2 := ih fun x hx => h x (List.mem_cons_of_mem _ hx)
    simp only [sumBy, List.map_cons, List.sum_cons, List.length_cons] at h2 ⊢
    rw [Int.mul_add, Int.mul_add]; omega
theorem Fine.carIn {Y : Yard} (f : Fine Y) {c : Int} (h : 0 ≤ c ∧ c < Y.cars.length) : carErr (carAt Y.cars c) = 0 := f.carOk _ (getD_mem (d := noCar) (by omega))
theorem weight_pos {Y : Yard} (f : Fine Y) : ∀ (t : List Int), Ok Y.cars t → (t.length : Int) ≤ sumBy Car.wt Y.cars t := by
  intro t
  induction t with
  | nil => intro _; simp [sumBy]
  | cons c r ih =>
    intro h
    have h1 := carOk_range (f.carIn (h c List.mem_cons_self))
    have h2 := ih fun x hx => h x (List.mem_cons_of_mem _ hx)
    simp only [sumBy, List.map_cons, List.sum_cons, List.length_cons] at h2 ⊢
    omega
theorem Fine.trk0 {Y : Yard} (f : Fine Y) : Ok Y.cars (trk Y 0) ∧ (trk Y 0).length ≤ 5 := ⟨f.warm.ok, f.warm.tl⟩
theorem brake_empty {Y : Yard} (h : Valid Y) (h0 : (trk Y 0).length = 0) : brakeOf Y = (0, 11) := brake_none h (by rw [List.length_eq_zero_iff.1 h0]; rfl)
theorem brake_full {Y : Yard} (h : Valid Y) (h0 : (trk Y 0).length ≠ 0) : brakeOf Y = (100 * sumBy Car.brk Y.cars (trk Y 0) / sumBy Car.wt Y.cars (trk Y 0), 0) ∧
    worstM Y.cars (trk Y 0) ≤ 100 * sumBy Car.brk Y.cars (trk Y 0) / sumBy Car.wt Y.cars (trk Y 0) ∧ 100 * sumBy Car.brk Y.cars (trk Y 0) / sumBy Car.wt Y.cars (trk Y 0) ≤ bestM Y.cars (trk Y 0) := by
  have f := h.fine
  have hw := weight_pos f _ f.trk0.1
  have hpos : 0 < sumBy Car.wt Y.cars (trk Y 0) := by omega
  have hq : ∀ c ∈ trk Y 0, 0 < (carAt Y.cars c).wt := fun c hc => by
    have := carOk_range (f.carIn (f.trk0.1 c hc)); omega
  refine ⟨brake_some h (by omega), ?_, ?_⟩
  · refine (Int.le_ediv_iff_mul_le hpos).2 ?_
    refine sum_low (f := Car.wt) (g := Car.brk) _ fun c hc => ?_
    exact (Int.le_ediv_iff_mul_le (hq c hc)).1 ((worst_fold Y.cars (trk Y 0) 100).2 c hc)
  · have hs := sum_high (f := Car.wt) (g := Car.brk) (cs := Y.cars) (w := bestM Y.cars (trk Y 0) + 1) (trk Y 0) fun c hc => by
      have h1 := (best_fold Y.cars (trk Y 0) 0).2 c hc
      have h2 : quoOf Y.cars c < bestM Y.cars (trk Y 0) + 1 := by unfold bestM; omega
      have := (Int.ediv_lt_iff_lt_mul (hq c hc)).1 h2
      omega
    have : 100 * sumBy Car.brk Y.cars (trk Y 0) / sumBy Car.wt Y.cars (trk Y 0) < bestM Y.cars (trk Y 0) + 1 := (Int.ediv_lt_iff_lt_mul hpos).2 (by omega)
    omega
theorem brake_row {Y : Yard} (h : Valid Y) (h0 : (trk Y 0).length ≠ 0) {r : List Int} (hr : r ∈ rowsN (blocksOf Y.cars (trk Y 0)).length (blocksOf Y.cars (trk Y 0))) : brakeOf { Y with tracks := Y.tracks.set 0 r } = brakeOf Y := by
  obtain ⟨hv, hp⟩ := h.fine.row hr
  have hpos : 0 < Y.tracks.length := by have := h.fine.len; have := h.fine.room1; omega
  have ht : trk { Y with tracks := Y.tracks.set 0 r } 0 = r := by
    show (Y.tracks.set 0 r).getD 0 [] = r
    simp [List.getD, hpos]
  have h1 := (brake_full hv (by rw [ht, hp.length_eq]; exact h0)).1
  rw [ht] at h1
  rw [h1, (brake_full h h0).1]
  show (100 * sumBy Car.brk Y.cars r / sumBy Car.wt Y.cars r, (0 : Int)) = _
  rw [sumBy_perm hp, sumBy_perm hp]
end Go.Sh

/- A part of the proof of the laws of this seat. -/
import Derived.Test.YtcaocbhbofejnaaGreatDoorP3
import Derived.Test.YtcaocbhbofejnaaGreatDoorP1
set_option linter.unusedVariables false
set_option linter.unusedSimpArgs false
namespace Go.Proofs.YtcaocbhbofejnaaGreatDoor
open Go Go.Sl Go.Sh
set_option maxRecDepth 100000
noncomputable def c_Lacks (p : List Nat) : Code := sub (bodyOf Tryz.f26) p
theorem Lacks_ct (I : Imm) (y : Value) (Y : Yard) (a : Value) (o : List Int) (y_f : IsYard I y Y) (a_f : IsInts I a o) (hG : Glob I) : Ct Tryz.prog 26 #[y, a] I ([]) (fun v I' M' => ∃ u0 : Value, ∃ Ms0 : Seg, v = .tuple #[u0, .int .i64 ((lacksE Y o).2)] ∧ M' = Ms0 ∧ Own 3 1 intCell u0 ((lacksE Y o).1) Ms0) := by
 obtain ⟨y1, y2, y3, t3, c1, c2, c5⟩ := id y_f;subst t3;obtain ⟨b9, c0, s1, s4, p1, s2, s3, c8⟩ := id c1;subst p1;obtain ⟨b6, b7, s5, s8, p2, s6, s7, c9⟩ := id c2;subst p2;obtain ⟨c3, c4, s9, t2, q4, p3, t0, t1, d0, d1⟩ := id c5;subst p3;obtain ⟨j8, j9, t8, u2, q7, t9, u1, e3⟩ := id a_f;subst q7;refine fr (args := [_, _]) (N := 53) Tryz.func26 (fun F => ?_);show Run _ _ (c_Lacks []) _ _ [(0, .agg #[.slice b9 Y.cars.length c0, .slice b6 Y.room.length b7, .slice c3 Y.tracks.length c4]), (1, .slice j8 o.length j9)] _ _;refine rnm (rqr ?_);refine sS (sb 2 26 #[.slice b9 Y.cars.length c0, .slice b6 Y.room.length b7, .slice c3 Y.tracks.length c4] (fun b1 => ?_));refine sp 2 [(5, .int .i64 (0)), (4, .slice none 0 0)] ?_;refine sn ?_;refine sd (dnb 14 0 0 b1 [.slice b9 Y.cars.length c0, .slice b6 Y.room.length b7, .slice c3 Y.tracks.length c4]) ?_;refine sp 1 [(15, .slice j8 o.length j9)] ?_;have i1 := Fewest_ct I _ (Y) _ _ (mkYard c1 c2 c5) a_f (by first | exact hG | exact hG.mono hI);refine sS (sc (some 16) (i1 :) (.refl _) (fun r6 I3 r2 d3 q9 => ?_));obtain ⟨u8, c6, p7, p6, o8⟩ := q9;rw [p7, p6]; clear p7 p6;replace y_f := y_f.mono d3;replace c1 := c1.mono d3;replace c8 := c8.mono d3;replace c2 := c2.mono d3;replace c9 := c9.mono d3;replace c5 := c5.mono d3;replace d0 := d0.mono d3;replace d1 := fun i hi => (d1 i hi).mono d3
 replace a_f := a_f.mono d3;replace e3 := e3.mono d3;replace hG := hG.mono d3;obtain ⟨p8, p9, j7, q0⟩ := o8.shape;subst j7;refine pm (M' := ((b1, Obj.cells #[.slice b9 Y.cars.length c0, .slice b6 Y.room.length b7, .slice c3 Y.tracks.length c4] 26 (0, 0)) :: (c6 ++ F))) PM ?_;refine sp 5 [(7, .int .i64 (((fewestE Y o).2)))] ?_;refine se (rq (rqr ?_));refine sp 2 [(20, .bool (!(cmp .eql (((fewestE Y o).2)) (11))))] ?_;refine se ?_;refine rc 20 rfl (fun h1 => ?_) (fun h1 => ?_)
 ·
  have n7 := h1;have h1 := not_t h1;have h1 := eql_f h1;refine rqr ?_;refine sp 3 [(5, .int .i64 (((fewestE Y o).2))), (4, .slice none 0 0)] ?_;refine se (rret ?_);refine (pst_ret_pass ?_);have g0 := lacksE_bad h1;refine pst_ret2 (t := 4) (u := 5) ([]) (by kernel_rfl) rfl rfl (TC _ (TT (TR _) (TB _ _))) d3 ?_;exact ⟨_, _, (congrArg (fun n => Value.tuple #[_, .int .i64 n]) (show ((fewestE Y o).2 : Int) = (lacksE Y o).2 from by rw [g0])), rfl, ((show [] = (lacksE Y o).1 from by rw [g0]) ▸ Own.nil _ _ _)⟩
 have n7 := h1;have h1 := not_f h1;have h1 := eql_t h1;have n6 : (fewestE Y o).2 = 11 := h1;refine rskip (pst_next (rqr ?_));have q8 := fewest_11 n6;have o6 := orderErr_valid q8;have k1 := o6.fine; have i5 := o6.good; have u5 := o6.lens;have u6 := k1.room1; have u7 := k1.room3;refine sp 1 [(8, .slice none 0 0)] ?_;refine se (rq (rqr ?_));refine sp 1 [(9, .int .i64 (1))] ?_;refine se (rb 0 ?_);refine rl (fun mz a w => ∃ J0 : Imm, ∃ i : Nat, ∃ e8 : List Int, ∃ f2 : Value, ∃ a8 : Seg, (I3.le J0) ∧ (1 ≤ i) ∧ (i ≤ Y.room.length) ∧ (lacksFrom Y o 1 = e8 ++ lacksFrom Y o i) ∧ (Own 3 1 intCell f2 (e8) a8) ∧ Slots 53 [(8, f2), (9, .int .i64 (↑i)), (1, .slice j8 o.length j9), (2, .pointer (some ⟨b1, 0, none⟩)), (4, .slice none 0 0), (5, .int .i64 (0))] a ∧ a.defers = [] ∧ St J0 ((b1, Obj.cells #[.slice b9 Y.cars.length c0, .slice b6 Y.room.length b7, .slice c3 Y.tracks.length c4] 26 (0, 0)) :: (c6 ++ (a8 ++ F))) w ∧ mz = Y.room.length - i) ?_ ?_
 ·intro a w hS hD hW;exact ⟨_, I3, 1, [], (.slice none 0 0), [], Imm.le.refl _, Nat.le_refl _, by omega, rfl, (Own.nil _ _ _), hS.sub (.cons 8 rfl (.cons 9 rfl (.cons 1 rfl (.cons 2 rfl (.cons 4 rfl (.cons 5 rfl (.nil _))))))), hD, hW, rfl⟩
 rintro mz a w ⟨J0, i, e8, f2, a8, hJ0, u4, hi, hr, e7, hS, hD, hW, rfl⟩
 refine run_at hS hD hW ?_;clear hS hD hW a w;replace y_f := y_f.mono hJ0;replace c1 := c1.mono hJ0;replace c8 := c8.mono hJ0;replace c2 := c2.mono hJ0;replace c9 := c9.mono hJ0;replace c5 := c5.mono hJ0;replace d0 := d0.mono hJ0;replace d1 := fun i hi => (d1 i hi).mono hJ0
 replace a_f := a_f.mono hJ0;replace e3 := e3.mono hJ0;replace hG := hG.mono hJ0;obtain ⟨e1, e2, f4, k2⟩ := e7.shape; subst f4;refine rq (rqr ?_);refine sp 2 [(23, .pointer (some ⟨b1, 1, none⟩)), (22, .int .i64 (↑i))] ?_;refine sd (dlb 24 0 1 b1 (.slice b6 Y.room.length b7)) ?_;refine sp 2 [(26, .bool (cmp .lss (↑i) (↑(Y.room.length))))] ?_;refine se ?_;refine rc 26 rfl (fun h2 => ?_) (fun h2 => ?_)
 ·
  have n8 := h2;have h2 := lss_t h2;refine rskip (pst_next (rq (rb 1 (rqr ?_))));refine sd (dnb 29 0 0 b1 [.slice b9 Y.cars.length c0, .slice b6 Y.room.length b7, .slice c3 Y.tracks.length c4]) ?_;have i2 := copied_ct J0 _ (Y) (mkYard c1 c2 c5) (by omega) (by omega) (by omega) (by exact i5.le);refine sS (sc (some 30) (i2 :) (.refl _) (fun r7 t4 r3 b5 o3 => ?_));obtain ⟨q1, e4, q2, e9, q3, b0, d7, j0, i6, j5, g9, j6, d6⟩ := o3;rw [j0, i6]; clear j0 i6;replace y_f := y_f.mono b5;replace c1 := c1.mono b5;replace c8 := c8.mono b5;replace c2 := c2.mono b5;replace c9 := c9.mono b5;replace c5 := c5.mono b5;replace d0 := d0.mono b5;replace d1 := fun i hi => (d1 i hi).mono b5
  replace a_f := a_f.mono b5;replace e3 := e3.mono b5;replace hG := hG.mono b5;obtain ⟨a4, a5, f6, k3⟩ := j5.shape;subst f6;obtain ⟨a1, a2, f7, k4⟩ := g9.shape;subst f7;obtain ⟨a6, a7, f8, k5⟩ := j6.shape;subst f8;have f3 := d6.1
  try simp only [LS, LA, LC, LN, LK] at f3
  refine seq_mem (M' := ((e4 ++ (e9 ++ (d7 ++ (b1, Obj.cells #[.slice b9 Y.cars.length c0, .slice b6 Y.room.length b7, .slice c3 Y.tracks.length c4] 26 (0, 0)) :: (c6 ++ (a8 ++ F))))))) (fun w h => by simpa only [AA, CA, NA] using h) ?_;refine pm (M' := ((b1, Obj.cells #[.slice b9 Y.cars.length c0, .slice b6 Y.room.length b7, .slice c3 Y.tracks.length c4] 26 (0, 0)) :: (e4 ++ (e9 ++ (d7 ++ (c6 ++ (a8 ++ F))))))) ((PA _ ((PA _ PM).trans PM)).trans PM) ?_;refine sS (sal 10 26 #[.slice none 0 0, .slice none 0 0, .slice none 0 0] (fun e6 => ?_));refine sS (ss 0 0 e6 [.slice a4 Y.cars.length a5, .slice a1 Y.room.length a2, .slice a6 b0.length a7] [.slice a4 Y.cars.length a5, .slice a1 Y.room.length a2, .slice a6 b0.length a7] (_ :: _ :: _) (cs := [_, _, _]) rfl rfl ?_);refine sn ?_;refine sp 1 [(31, .pointer (some ⟨e6, 1, none⟩))] ?_;refine sd (dlb 32 0 1 e6 (.slice a1 Y.room.length a2)) ?_;refine sp 1 [(33, .int .i64 (↑i))] ?_;obtain ⟨r0, g1⟩ := g9.row 0;refine sd (di 34 1 (i) g1.addr) ?_;refine sS (stp_storeOwn (T := 3) (x := (.tmp 34)) (y := (.const (.int .i64 20))) (rc := fun i f => intCell ((Y.room).getD i 0) f) 0 (i) 0 (20) (ty := 0) (gd := none) (by kernel_rfl) rfl g9 g1 (by omega) (by decide) rfl rfl (by kernel_rfl) rfl rfl (by intro f hf; match f, hf with | 0, _ => rfl) ((PC _ ((PC _ (PO _ _ _)).trans (PM.symm))).trans (PM.symm)) (fun h7 o1 => ?_));refine pm (M' := ((e6, Obj.cells #[.slice a4 Y.cars.length a5, .slice a1 Y.room.length a2, .slice a6 b0.length a7] 26 (0, 0)) :: (b1, Obj.cells #[.slice b9 Y.cars.length c0, .slice b6 Y.room.length b7, .slice c3 Y.tracks.length c4] 26 (0, 0)) :: (h7 ++ (e4 ++ (d7 ++ (c6 ++ (a8 ++ F))))))) (List.perm_middle.trans (PC _ PM)) ?_;refine se (rq ?_);refine rn_freeze (B := ((e6, Obj.cells #[.slice a4 Y.cars.length a5, .slice a1 Y.room.length a2, .slice a6 b0.length a7] 26 (0, 0)) :: (b1, Obj.cells #[.slice b9 Y.cars.length c0, .slice b6 Y.room.length b7, .slice c3 Y.tracks.length c4] 26 (0, 0)) :: (h7 ++ (d7 ++ (c6 ++ (a8 ++ F)))))) noCar j5 (by first | omega | (simp only [LS, LC, LN, LA, LK, LD] <;> omega) | decide) ((PC _ ((PC _ (PO _ _ _)).trans (PM.symm))).trans (PM.symm)) (PR _) (fun t5 b3 b4 => ?_);replace y_f := y_f.mono b3;replace c1 := c1.mono b3;replace c8 := c8.mono b3;replace c2 := c2.mono b3;replace c9 := c9.mono b3;replace c5 := c5.mono b3;replace d0 := d0.mono b3;replace d1 := fun i hi => (d1 i hi).mono b3
  replace a_f := a_f.mono b3;replace e3 := e3.mono b3;replace hG := hG.mono b3;replace d6 := d6.mono b3;obtain ⟨l3, l5, l4, l8, g3, l6, l7, c7⟩ := id b4;cases g3;refine rn_freeze (B := ((e6, Obj.cells #[.slice a4 Y.cars.length a5, .slice a1 Y.room.length a2, .slice a6 b0.length a7] 26 (0, 0)) :: (b1, Obj.cells #[.slice b9 Y.cars.length c0, .slice b6 Y.room.length b7, .slice c3 Y.tracks.length c4] 26 (0, 0)) :: (d7 ++ (c6 ++ (a8 ++ F))))) 0 o1 (by first | omega | (simp only [LS, LC, LN, LA, LK, LD] <;> omega) | decide) ((PC _ (PM.symm)).trans (PM.symm)) (PR _) (fun t6 b2 b8 => ?_);replace y_f := y_f.mono b2;replace c1 := c1.mono b2;replace c8 := c8.mono b2;replace c2 := c2.mono b2;replace c9 := c9.mono b2;replace c5 := c5.mono b2;replace d0 := d0.mono b2;replace d1 := fun i hi => (d1 i hi).mono b2
  replace a_f := a_f.mono b2;replace e3 := e3.mono b2;replace hG := hG.mono b2;replace d6 := d6.mono b2;replace b4 := b4.mono b2;replace c7 := c7.mono b2;obtain ⟨l9, m1, m0, m2, e5, g4, g5, d2⟩ := id b8;simp only [LS] at e5 g4 g5 d2
  first | cases e5 | (injection e5 with fz43_e1 fz43_e2 fz43_e3; subst fz43_e1; subst fz43_e3; try rw [← fz43_e2] at b8)
  refine rn_freeze (B := ((e6, Obj.cells #[.slice a4 Y.cars.length a5, .slice a1 Y.room.length a2, .slice a6 b0.length a7] 26 (0, 0)) :: (b1, Obj.cells #[.slice b9 Y.cars.length c0, .slice b6 Y.room.length b7, .slice c3 Y.tracks.length c4] 26 (0, 0)) :: (c6 ++ (a8 ++ F)))) undef j6 (by first | omega | (simp only [LS, LC, LN, LA, LK, LD] <;> omega) | decide) ((PC _ (PM.symm)).trans (PM.symm)) (PR _) (fun q5 a9 d5 => ?_);replace y_f := y_f.mono a9;replace c1 := c1.mono a9;replace c8 := c8.mono a9;replace c2 := c2.mono a9;replace c9 := c9.mono a9;replace c5 := c5.mono a9;replace d0 := d0.mono a9;replace d1 := fun i hi => (d1 i hi).mono a9
  replace a_f := a_f.mono a9;replace e3 := e3.mono a9;replace hG := hG.mono a9;replace d6 := d6.mono a9;replace b4 := b4.mono a9;replace c7 := c7.mono a9;replace b8 := b8.mono a9;replace d2 := d2.mono a9;obtain ⟨m3, m5, m4, m8, g6, m6, m7, e0⟩ := id d5;cases g6;have d4 := d6.isRows d5;have i0 := d6.1;obtain ⟨k7, k9, k8, l2, k0, g2, l0, l1, d8, d9⟩ := id d4
  injection g2 with fr47_e1 fr47_e2 fr47_e3; subst fr47_e1; subst fr47_e3
  refine rd 9 [(0, true), (1, true), (2, false), (3, false), (4, false), (5, true), (6, true), (7, true), (8, true)] ((e6, Obj.cells #[.slice a4 Y.cars.length a5, .slice a1 Y.room.length a2, .slice a6 b0.length a7] 26 (0, 0)) :: (b1, Obj.cells #[.slice b9 Y.cars.length c0, .slice b6 Y.room.length b7, .slice c3 Y.tracks.length c4] 26 (0, 0)) :: []) ((c6 ++ (a8 ++ F))) ?_;refine ofp_det (dnb 36 0 0 e6 [.slice a4 Y.cars.length a5, .slice a1 Y.room.length a2, .slice a6 b0.length a7]) ?_;refine ox 1 [(37, .slice j8 o.length j9)] ?_;have i3 := ordered_ct q5 _ _ a_f;refine ofp_stp (sc (some 38) (F := ((e6, Obj.cells #[.slice a4 Y.cars.length a5, .slice a1 Y.room.length a2, .slice a6 b0.length a7] 26 (0, 0)) :: (b1, Obj.cells #[.slice b9 Y.cars.length c0, .slice b6 Y.room.length b7, .slice c3 Y.tracks.length c4] 26 (0, 0)) :: (c6 ++ (a8 ++ F)))) (i3 :) (PR _) (fun r8 t7 r4 a3 o4 => ?_));obtain ⟨h9, j1, i7, f5⟩ := o4;rw [j1, i7]; clear j1 i7;replace y_f := y_f.mono a3;replace c1 := c1.mono a3;replace c8 := c8.mono a3;replace c2 := c2.mono a3;replace c9 := c9.mono a3;replace c5 := c5.mono a3;replace d0 := d0.mono a3;replace d1 := fun i hi => (d1 i hi).mono a3
  replace a_f := a_f.mono a3;replace e3 := e3.mono a3;replace hG := hG.mono a3;replace d6 := d6.mono a3;replace b4 := b4.mono a3;replace c7 := c7.mono a3;replace b8 := b8.mono a3;replace d2 := d2.mono a3;replace d5 := d5.mono a3;replace e0 := e0.mono a3;replace d4 := d4.mono a3;replace d8 := d8.mono a3;replace d9 := fun i hi => (d9 i hi).mono a3
  refine ofp_settle (S' := ((c6 ++ (a8 ++ F)))) (PR _) ?_;show OFP _ _ _ _ _ _ ((38, .func (.func 131) #[] #[.pointer (some ⟨h9, 0, none⟩)]) :: _) _ _;refine ofp_stpH (sbs 39 101 1 #[.func (.func 131) #[] #[.pointer (some ⟨h9, 0, none⟩)]] (fun k6 => ?_));refine hk_mem (M' := ((e6, Obj.cells #[.slice a4 Y.cars.length a5, .slice a1 Y.room.length a2, .slice a6 b0.length a7] 26 (0, 0)) :: (b1, Obj.cells #[.slice b9 Y.cars.length c0, .slice b6 Y.room.length b7, .slice c3 Y.tracks.length c4] 26 (0, 0)) :: ([(k6, Obj.cells #[.func (.func 131) #[] #[.pointer (some ⟨h9, 0, none⟩)]] 101 (0, 0))] ++ (c6 ++ (a8 ++ F))))) (fun w h => h.perm ((PS _ _ _).trans (PC _ (PS _ _ _)))) ?_;have o2 : Own 101 1 valCell (.slice (some ⟨k6, 0, none⟩) 1 1) ([(.func (.func 131) #[] #[.pointer (some ⟨h9, 0, none⟩)] : Value)] : List Value) [(k6, Obj.cells #[.func (.func 131) #[] #[.pointer (some ⟨h9, 0, none⟩)]] 101 (0, 0))] := Own.lit rfl rfl;refine hk_freeze (B := ((e6, Obj.cells #[.slice a4 Y.cars.length a5, .slice a1 Y.room.length a2, .slice a6 b0.length a7] 26 (0, 0)) :: (b1, Obj.cells #[.slice b9 Y.cars.length c0, .slice b6 Y.room.length b7, .slice c3 Y.tracks.length c4] 26 (0, 0)) :: (c6 ++ (a8 ++ F)))) undef o2 (by first | omega | (simp only [LS, LC, LN, LA, LK, LD] <;> omega) | decide) ((PC _ (PM.symm)).trans (PM.symm)) (PR _) (fun q6 a0 f0 => ?_);replace y_f := y_f.mono a0;replace c1 := c1.mono a0;replace c8 := c8.mono a0;replace c2 := c2.mono a0;replace c9 := c9.mono a0;replace c5 := c5.mono a0;replace d0 := d0.mono a0;replace d1 := fun i hi => (d1 i hi).mono a0
  replace a_f := a_f.mono a0;replace e3 := e3.mono a0;replace hG := hG.mono a0;replace d6 := d6.mono a0;replace b4 := b4.mono a0;replace c7 := c7.mono a0;replace b8 := b8.mono a0;replace d2 := d2.mono a0;replace d5 := d5.mono a0;replace e0 := e0.mono a0;replace d4 := d4.mono a0;replace d8 := d8.mono a0;replace d9 := fun i hi => (d9 i hi).mono a0
  replace f5 := a0.blk _ _ f5;obtain ⟨m9, n1, n0, n4, g7, n2, n3, n5⟩ := id f0;cases g7;refine hk_done ?_;refine ofp_settle (S' := ((c6 ++ (a8 ++ F)))) (PR _) ?_;have i4 := fewest_ct q6 _ ((⟨Y.cars, Y.room.set (i) 20, Y.tracks⟩ : Yard)) _ _ ([orderedP o]) (mkYard b4 b8 d4) f0 (by first | exact hG | exact hG.mono hI) (by exact goals_ordered (by assumption) (by assumption) (Kin.pos (wide_fine k1 i) (Kin.refl _))) (by exact (wide_fine k1 i).valid);refine ofp_stp (sc (some 40) (F := ((e6, Obj.cells #[.slice a4 Y.cars.length a5, .slice a1 Y.room.length a2, .slice a6 b0.length a7] 26 (0, 0)) :: (b1, Obj.cells #[.slice b9 Y.cars.length c0, .slice b6 Y.room.length b7, .slice c3 Y.tracks.length c4] 26 (0, 0)) :: (c6 ++ (a8 ++ F)))) (i4 :) (PR _) (fun r9 p4 r5 f1 o5 => ?_));obtain ⟨s0, f9, j2, i8, o9⟩ := o5;rw [j2, i8]; clear j2 i8;replace f5 := f1.blk _ _ f5;obtain ⟨h0, h5, h6, p0⟩ := o9.shape;subst h6;refine ofp_settle (S' := ((f9 ++ (c6 ++ (a8 ++ F))))) (List.perm_middle.trans (PC _ PM)) ?_;show OFP _ _ _ _ _ _ ((40, .tuple #[.slice h0 ((fewestM (allP ([orderedP o])) ((⟨Y.cars, Y.room.set (i) 20, Y.tracks⟩ : Yard))).getD []).length h5, .int .i64 ((errOf (fewestM (allP ([orderedP o])) ((⟨Y.cars, Y.room.set (i) 20, Y.tracks⟩ : Yard)))))]) :: _) _ _;refine ox 4 [(42, .int .i64 ((errOf (fewestM (allP ([orderedP o])) ((⟨Y.cars, Y.room.set (i) 20, Y.tracks⟩ : Yard))))))] ?_;refine ofp_end ?_;refine nm (nm ?_);refine sp 1 [(12, .int .i64 ((errOf (fewestM (allP ([orderedP o])) ((⟨Y.cars, Y.room.set (i) 20, Y.tracks⟩ : Yard))))))] ?_;refine sn ?_;refine sp 2 [(44, .bool (cmp .eql ((errOf (fewestM (allP ([orderedP o])) ((⟨Y.cars, Y.room.set (i) 20, Y.tracks⟩ : Yard))))) (0)))] ?_;refine se ?_;refine rc 44 rfl (fun h3 => ?_) (fun h3 => ?_)
  ·
   have n9 := h3;have h3 := eql_t h3;refine rr ?_;refine sp 2 [(46, .int .i64 (↑i)), (45, .slice e1 e8.length e2)] ?_;refine sS (sbs 47 3 1 #[.int .i64 (↑i)] (fun u3 => ?_));refine sS (stp_append (d := 48) (x := (.tmp 45)) (y := (.tmp 47)) (T := 23) (T' := 23) (E := 3) (E' := 3) (sz := 1) (bs := 8) (z := .int .i64 (0)) (cell := intCell) (xs := e8) (ys := [(↑i : Int)]) (Ms := a8) (ty := 23) (gd := none) (by kernel_rfl) rfl (by kernel_rfl) (by kernel_rfl) (by kernel_rfl) (by kernel_rfl) (by kernel_rfl) (by decide) (by kernel_rfl) rfl rfl (e7) ((PC _ ((PC _ ((PC _ ((PA _ (PO _ _ _)).trans (PO _ _ _))).trans (PM.symm))).trans (PM.symm))).trans (PM.symm)) (one_intCell _) (src_atS 0 rfl rfl) (by first | omega | (have p5 := lacks_le Y o 1; rw [hr] at p5; simp only [LA, LC, LN] at p5 ⊢; omega)) (fun u9 h8 i9 => ?_));refine seq_mem (M' := ((e6, Obj.cells #[.slice a4 Y.cars.length a5, .slice a1 Y.room.length a2, .slice a6 b0.length a7] 26 (0, 0)) :: (b1, Obj.cells #[.slice b9 Y.cars.length c0, .slice b6 Y.room.length b7, .slice c3 Y.tracks.length c4] 26 (0, 0)) :: (h8 ++ (f9 ++ (c6 ++ F))))) (fun w h => (h.perm (List.perm_middle.trans (PC _ (List.perm_middle.trans (PC _ PM))))).sub (TC _ (TR _))) ?_;obtain ⟨j3, j4, o7, r1⟩ := i9.shape;subst o7;refine sp 1 [(8, .slice j3 (e8 ++ ([(↑i : Int)])).length j4)] ?_;refine ee (pst_normal_block (pst_next (rr ?_)));refine sp 1 [(27, .int .i64 (↑i))] ?_;refine sd (da 28 (↑i) (1)) ?_;refine sp 1 [(9, .int .i64 (↑i + 1))] ?_;refine ee ?_;refine pst_back (Y.room.length - (i+1)) (by omega) ?_;intro a w hS hD hW;exact ⟨p4, i+1, e8 ++ [(i : Int)], .slice j3 (e8 ++ ([(↑i : Int)])).length j4, h8, (Imm.le.trans (Imm.le.trans (Imm.le.trans (Imm.le.trans (Imm.le.trans (Imm.le.trans (Imm.le.trans hJ0 b5) b3) b2) a9) a3) a0) f1), by omega, by omega, hr.trans (by rw [lacks_yes (by omega) (errOf_is h3)]; simp), i9, hS.sub (.consE 8 rfl rfl (.consE 9 rfl rfl (.cons 1 rfl (.cons 2 rfl (.cons 4 rfl (.cons 5 rfl (.nil _))))))), hD, (hW.perm (PC _ (((PC _ (PO _ _ _)).trans (PM.symm)).trans (PA _ (PC _ (PO _ _ _)))))).sub (TC _ (TT (TR _) (TB _ _))), rfl⟩
  have n9 := h3;have h3 := eql_f h3;refine rskip (pst_normal_block (pst_next (rr ?_)));refine sp 1 [(27, .int .i64 (↑i))] ?_;refine sd (da 28 (↑i) (1)) ?_;refine sp 1 [(9, .int .i64 (↑i + 1))] ?_;refine ee ?_;refine pst_back (Y.room.length - (i+1)) (by omega) ?_;intro a w hS hD hW;exact ⟨p4, i+1, e8, .slice e1 e8.length e2, a8, (Imm.le.trans (Imm.le.trans (Imm.le.trans (Imm.le.trans (Imm.le.trans (Imm.le.trans (Imm.le.trans hJ0 b5) b3) b2) a9) a3) a0) f1), by omega, by omega, hr.trans (by rw [lacks_no (by omega) (errOf_not h3)]), e7, hS.sub (.consE 8 rfl rfl (.consE 9 rfl rfl (.cons 1 rfl (.cons 2 rfl (.cons 4 rfl (.cons 5 rfl (.nil _))))))), hD, (hW.perm (PC _ (PM.symm))).sub (TC _ (TT (TR _) (TB _ _))), rfl⟩
 have n8 := h2;have h2 := lss_f h2;refine rexit 0 ?_;refine (pst_exit_pass (pst_exit_pass (pst_exit_block ?_)));refine pst_next (rq (rqr ?_));have g8 : lacksFrom Y o 1 = e8 := hr.trans (by rw [lacks_done (by omega), List.append_nil]);refine sp 3 [(51, .bool (cmp .eql (↑(e8.length)) (0)))] ?_;refine se ?_;refine rc 51 rfl (fun h4 => ?_) (fun h4 => ?_)
 ·
  have o0 := h4;have h4 := eql_t h4;refine rqr ?_;refine sp 2 [(5, .int .i64 (11)), (4, .slice none 0 0)] ?_;refine se (rret ?_);refine (pst_ret_pass ?_);have g0 := lacksE_none n6 (by rw [g8]; omega);refine pst_ret2 (t := 4) (u := 5) ([]) (by kernel_rfl) rfl rfl (TC _ (TT (TT (TR _) (TB _ _)) (TB _ _))) (Imm.le.trans d3 hJ0) ?_;exact ⟨_, _, (congrArg (fun n => Value.tuple #[_, .int .i64 n]) (show (11 : Int) = (lacksE Y o).2 from by rw [g0])), rfl, ((show [] = (lacksE Y o).1 from by rw [g0]) ▸ Own.nil _ _ _)⟩
 have o0 := h4;have h4 := eql_f h4;refine rskip (pst_next (rqr ?_));refine sp 3 [(5, .int .i64 (0)), (4, .slice e1 e8.length e2)] ?_;refine se (rret ?_);have g0 := (lacksE_some n6 (by rw [g8]; omega)).trans (by rw [g8]);refine ppm (M' := ((a8 ++ (b1, Obj.cells #[.slice b9 Y.cars.length c0, .slice b6 Y.room.length b7, .slice c3 Y.tracks.length c4] 26 (0, 0)) :: (c6 ++ F)))) ((PC _ (PO _ _ _)).trans (PM.symm)) ?_;refine pst_ret2 (t := 4) (u := 5) (a8) (by kernel_rfl) rfl rfl (TA (TC _ (TT (TR _) (TB _ _))) _) (Imm.le.trans d3 hJ0) ?_;exact ⟨_, _, (congrArg (fun n => Value.tuple #[_, .int .i64 n]) (show (0 : Int) = (lacksE Y o).2 from by rw [g0])), rfl, ((show e8 = (lacksE Y o).1 from by rw [g0]) ▸ e7)⟩

end Go.Proofs.YtcaocbhbofejnaaGreatDoor
namespace Go.Sl
open Go
section
variable {P : Program} {N : Nat} {ops : Array Oper} {i : Nat} {l : Sl} {I : Imm} {R M : Seg} {ty : TypeId} {gd : Option (Nat × Bool)} {K : Sl → Imm → Seg → Prop} {d : Nat}
variable {κ : Type} [DecidableEq κ] {enc : κ → Value}

theorem stp_builtin {b : Builtin} {args : Array Operand} {tys : Array TypeId} {vals : List Value} {dst : Option Tmp}
    (hop : opAt ops N i = some (dst, .call { callee := .builtin b, args, argTypes := tys }, ty, gd)) (hg : gval ops l gd = some true) (hk : ∀ x ∈ args, known l x) (hvals : args.toList.map (rho l) = vals)
    (h : ∀ (cs : Array Bool), wpL P (builtin b tys ty cs vals.toArray) (fun n M' => ∃ v, (n = .value v ∨ (n = .skip ∧ v = undef)) ∧ K (ups dst v l) I M') I M) : Stp P N ops i l I M K :=
  stp_of_wpL hop hg (by simpa [Op.operands, Call.operands] using hk) (by
    have e : args.map (rho l) = vals.toArray := by
      apply Array.ext'
      simp [hvals]
    show wpL P (do let d ← resolve (rho l) { callee := .builtin b, args, argTypes := tys } ty; invoke d.target d.args) _ I M
    unfold resolve
    simp only [e]
    exact h _)

theorem stp_delete {x y : Operand} {T T' kt et r cl : Nat} {es : Array MapEntry} {kvs : List (κ × Value)} {k : κ} (n : Nat) (hop : opAt ops N i = some (none, .call { callee := .builtin .delete, args := #[x, y], argTypes := #[T, T'] }, ty, gd)) (hg : gval ops l gd = some true)
    (hT : tyMap P T = some (kt, et)) (hK : KeyOk P kt enc) (hx : oval l x = some (.map (some r))) (hy : oval l y = some (enc k)) (hn : M[n]? = some (r, Obj.map es cl)) (his : MapIs enc es kvs)
    (h : ∀ es' cl', MapIs enc es' (del k kvs) → K l I (M.set n (r, Obj.map es' cl'))) : Stp P N ops i l I M K := by
  refine stp_builtin (vals := [.map (some r), enc k]) hop hg (known2 hx hy) (by simp [rho_of hx, rho_of hy]) fun cs => ?_
  show wpL P (Builtin.delete_ #[T, T'] ty #[.map (some r), enc k] >>= fun x => pure (Next.value x)) _ I M
  refine wpL_val ?_
  unfold Builtin.delete_
  show wpL P (underlying T >>= _) _ I M
  rw [wpL_bind, wpL_underlying (tyMap_spec hT)]
  show wpL P (Sem.getObj r _) _ I M
  refine ⟨_, .inl (List.mem_of_getElem? hn), rfl, ?_⟩
  show wpL P (Instr.checkKey _ _ _ _ >>= _) _ I _
  rw [wpL_bind]
  refine hK.check _ _ _ _ _ ?_
  rw [wpL_bind]
  refine hK.find k es.toList kvs _ _ _ his ?_
  have hf := findKv_upd k undef kvs 0
  cases hkv : findKv k kvs 0 with
  | none =>
    rw [hkv] at hf
    simp only at hf
    show wpL P (Sem.setObj r _ _) _ I M
    refine wpL_setObj n rfl hn rfl ?_
    exact ⟨_, .inl rfl, h _ _ (by rw [hf.2]; exact his)⟩
  | some p =>
    obtain ⟨j, w⟩ := p
    rw [hkv] at hf
    simp only [Nat.sub_zero] at hf
    show wpL P (Sem.setObj r _ _) _ I M
    refine wpL_setObj n rfl hn rfl ?_
    refine ⟨_, .inl rfl, h _ _ ?_⟩
    rw [hf.2.2.1]
    exact mapIs_erase his j

theorem stp_appendN {x y : Operand} {T T' E bs n : Nat} {z : Value} (hop : opAt ops N i = some (some d, .call { callee := .builtin .append, args := #[x, y], argTypes := #[T, T'] }, ty, gd)) (hg : gval ops l gd = some true)
    (hT : tyElem P T = some E) (hsz : tySize P E = some 1) (hz : tyZero P E = some z) (hzc : z.cells.size = 1) (hb : tyBytes P E = some bs) (hbs : 1 ≤ bs ∧ bs ≤ 256) (hT' : tyI64 P T' = true)
    (hx : oval l x = some (.slice none 0 0)) (hy : oval l y = some (.int .i64 (n : Int))) (hn : 0 < n ∧ n ≤ 1000000)
    (next : ∀ b nc zs, n ≤ nc → zs.length = nc → K ((d, .slice (some ⟨b, 0, none⟩) n nc) :: l) I ((b, Obj.cells (List.toArray zs) E (0, 0)) :: M)) : Stp P N ops i l I M K := by
  refine stp_builtin (vals := [.slice none 0 0, .int .i64 n]) hop hg (known2 hx hy) (by simp [rho_of hx, rho_of hy]) fun cs => ?_
  have hinfo : ∃ inf, P.info? E = some inf ∧ inf.bytes = bs := by
    unfold tyBytes at hb
    cases hi : P.info? E with
    | none => rw [hi] at hb; cases hb
    | some inf => rw [hi] at hb; exact ⟨inf, rfl, by simpa using hb⟩
  obtain ⟨inf, hinf, hbytes⟩ := hinfo
  show wpL P (Builtin.append_ #[T, T'] ty #[.slice none 0 0, .int .i64 n] >>= fun x => pure (Next.value x)) _ I M
  refine wpL_val ?_
  unfold Builtin.append_
  simp only [List.getElem?_toArray, List.getElem?_cons_zero, List.getElem?_cons_succ, wpL_bind, wpL_underlying (tyElem_spec hT), wpL_sizeOf hsz, wpL_underlying (tyI64_spec hT'), wpL_pure]
  simp only [if_true, asInt]
  rw [wpL_bind]
  have hw : IntKind.i64.wrap (n : Int) = (n : Int) := wrap64_id ⟨by omega, by omega⟩
  show wpL P (pure (n : Int)) _ I M
  rw [wpL_pure]
  simp only [hw]
  rw [if_neg (show ¬ (n : Int) < 0 by omega)]
  rw [wpL_bind, wpL_typeInfo hinf]
  have hbig : ¬ ((n : Int) * (inf.bytes : Int) > 2 ^ 48) := by
    have h1 : n * inf.bytes ≤ 1000000 * 256 := Nat.mul_le_mul hn.2 (by omega)
    have h2 : ((n * inf.bytes : Nat) : Int) ≤ ((1000000 * 256 : Nat) : Int) := Int.ofNat_le.2 h1
    rw [Int.natCast_mul] at h2
    omega
  rw [if_neg hbig]
  rw [wpL_bind, wpL_pure]
  simp only [Int.toNat_natCast, Nat.zero_add, Bool.not_true, Bool.false_eq_true, if_false]
  rw [if_neg (show ¬ n ≤ 0 by omega)]
  simp only [true_or, and_true]
  rw [if_neg (show ¬ ((n : Int) > IntKind.i64.max) by have : IntKind.i64.max = 9223372036854775807 := rfl
                                                      omega)]
  rw [wpL_bind, wpL_typeInfo hinf]
  rw [wpL_bind, wpL_typeInfo hinf, if_neg (show ¬ (Builtin.nextslicecap n 0 * inf.bytes > 2 ^ 48) from fun h => by
    have h1 : Builtin.nextslicecap n 0 ≤ 2 * n + 1000 := nextslicecap_le (by omega)
    have h2 : Builtin.nextslicecap n 0 * inf.bytes ≤ (2 * n + 1000) * 256 := Nat.mul_le_mul h1 (by omega)
    omega)]
  rw [wpL_bind]
  show (if (Question.appendCap n 0 E).forced then _ else ∀ t, _)
  rw [if_neg (by simp [Question.forced])]
  intro t
  show wpL P (typeInfo E >>= _) _ I _
  rw [wpL_bind, wpL_typeInfo hinf, wpL_bind]
  have hask : ∀ (n : Nat) (Q : Unit → Seg → Prop), Q () M → wpL P (askRoom n) Q I M := fun n Q hq => by
    unfold askRoom
    split <;> exact hq
  refine hask _ _ ?_
  rw [wpL_bind]
  show wpL P (_ >>= _) _ I M
  rw [wpL_bind]
  rw [if_neg (show ¬ n * 1 = 0 by omega)]
  rw [wpL_bind, wpL_zeroValue hz, wpL_pure, wpL_bind, wpL_zeroValue hz, wpL_bind]
  intro b
  have hcap : n ≤ Question.cut (.appendCap n 0 E) t := by simp [Question.cut]
  generalize Question.cut (.appendCap n 0 E) t = nc at hcap
  refine ⟨_, .inl rfl, ?_⟩
  have := next b nc ((#[] : Array Value) ++ Builtin.zeroCells z.cells n ++ Builtin.zeroCells z.cells (nc - n)).toList hcap (by
    simp only [Array.length_toList, Array.size_append, zeroCells_length, hzc, List.size_toArray, List.length_nil]; omega)
  rw [Array.toArray_toList] at this
  exact this
end

theorem Own.empty {E : TypeId} {b nc : Nat} {zs : List Value} (h : zs.length = nc) : Own E 1 intCell (.slice (some ⟨b, 0, none⟩) 0 nc) ([] : List Int) [(b, Obj.cells zs.toArray E (0, 0))] :=
  .inr ⟨b, nc, zs, rfl, Nat.zero_le _, rfl, by simpa [encL] using h⟩
end Go.Sl
namespace Go.Sh
open Go Go.Sl

def goCold (cs : List Car) : Bool → List Int → List Int
  | _, [] => []
  | p, c :: r => if (carAt cs c).heat && !p then c :: goCold cs (p && (carAt cs c).pipe) r else goCold cs (p && (carAt cs c).pipe) r
def coldOf (cs : List Car) (t : List Int) : List Int := goCold cs true t
theorem goCold_yes {cs : List Car} {t : List Int} {k : Nat} {p : Bool} (hk : k < t.length) (h : ((carAt cs (t.getD k 0)).heat && !p) = true) :
    goCold cs p (t.drop k) = t.getD k 0 :: goCold cs (p && (carAt cs (t.getD k 0)).pipe) (t.drop (k + 1)) := by
  rw [drop_cons (d := 0) hk]; simp only [goCold]; rw [if_pos h]
theorem goCold_no {cs : List Car} {t : List Int} {k : Nat} {p : Bool} (hk : k < t.length) (h : ((carAt cs (t.getD k 0)).heat && !p) = false) :
    goCold cs p (t.drop k) = goCold cs (p && (carAt cs (t.getD k 0)).pipe) (t.drop (k + 1)) := by
  rw [drop_cons (d := 0) hk]; simp only [goCold]; rw [if_neg (by rw [h]; simp)]
theorem goCold_done {cs : List Car} {t : List Int} {k : Nat} {p : Bool} (hk : t.length ≤ k) : goCold cs p (t.drop k) = [] := by rw [drop_done hk]; rfl
theorem goCold_le (cs : List Car) : ∀ (t : List Int) (p : Bool), (goCold cs p t).length ≤ t.length := by
  intro t
  induction t with
  | nil => intro p; simp [goCold]
  | cons c r ih => intro p; simp only [goCold]; split <;> simp only [List.length_cons] <;> have := ih (p && (carAt cs c).pipe) <;> omega
theorem coldOf_le (cs : List Car) (t : List Int) : (coldOf cs t).length ≤ t.length := goCold_le cs t true
def cmpI (a b : Int) : Int := if a < b then -1 else if b < a then 1 else 0
def cmpL : List Int → List Int → Int
  | [], [] => 0
  | [], _ :: _ => -1
  | _ :: _, [] => 1
  | a :: ar, b :: br => if cmpI a b = 0 then cmpL ar br else cmpI a b
section
variable {xs ys : List Int} {k : Nat}
theorem cmpL_more (h1 : k < xs.length) (h2 : ys.length ≤ k) : cmpL (xs.drop k) (ys.drop k) = 1 := by
  rw [drop_cons (d := 0) h1, drop_done h2]; rfl
theorem cmpL_diff (h1 : k < xs.length) (h2 : k < ys.length) (h : cmpI (xs.getD k 0) (ys.getD k 0) ≠ 0) : cmpL (xs.drop k) (ys.drop k) = cmpI (xs.getD k 0) (ys.getD k 0) := by
  rw [drop_cons (d := 0) h1, drop_cons (d := 0) h2]; simp only [cmpL]; rw [if_neg h]
theorem cmpL_next (h1 : k < xs.length) (h2 : k < ys.length) (h : cmpI (xs.getD k 0) (ys.getD k 0) = 0) : cmpL (xs.drop k) (ys.drop k) = cmpL (xs.drop (k + 1)) (ys.drop (k + 1)) := by
  rw [drop_cons (d := 0) h1, drop_cons (d := 0) h2]; simp only [cmpL]; rw [if_pos h]
theorem cmpL_less (h1 : xs.length ≤ k) (h2 : k < ys.length) : cmpL (xs.drop k) (ys.drop k) = -1 := by
  rw [drop_done h1, drop_cons (d := 0) h2]; rfl
theorem cmpL_same (h1 : xs.length ≤ k) (h2 : ys.length ≤ k) : cmpL (xs.drop k) (ys.drop k) = 0 := by
  rw [drop_done h1, drop_done h2]; rfl
end
def minF (f : List Int → List Int → Int) : List (List Int) → List Int → List Int
  | [], m => m
  | x :: r, m => minF f r (if f x m < 0 then x else m)
theorem minF_take {f : List Int → List Int → Int} {l : List (List Int)} {k : Nat} {m : List Int} (hk : k < l.length) (h : f (l.getD k []) m < 0) : minF f (l.drop k) m = minF f (l.drop (k + 1)) (l.getD k []) := by
  rw [drop_cons (d := []) hk]; simp only [minF]; rw [if_pos h]
theorem minF_leave {f : List Int → List Int → Int} {l : List (List Int)} {k : Nat} {m : List Int} (hk : k < l.length) (h : ¬ f (l.getD k []) m < 0) : minF f (l.drop k) m = minF f (l.drop (k + 1)) m := by
  rw [drop_cons (d := []) hk]; simp only [minF]; rw [if_neg h]
theorem minF_done {f : List Int → List Int → Int} {l : List (List Int)} {k : Nat} {m : List Int} (hk : l.length ≤ k) : minF f (l.drop k) m = m := by rw [drop_done hk]; rfl
def warmCmp (cs : List Car) (a b : List Int) : Int := if ((coldOf cs a).length : Int) - (coldOf cs b).length = 0 then cmpL a b else ((coldOf cs a).length : Int) - (coldOf cs b).length

theorem flat_take {xss : List (List Int)} {k : Nat} (h : k < xss.length) : (xss.take (k + 1)).flatten = (xss.take k).flatten ++ xss.getD k [] := by
  rw [take_snoc (d := []) h]; simp
theorem flat_succ {xss : List (List Int)} {k : Nat} (h : k < xss.length) : (((xss.take (k + 1)).flatten.length : Nat) : Int) = ↑(xss.take k).flatten.length + ↑(xss.getD k []).length := by
  rw [flat_take h, List.length_append]; omega
theorem flat_le (xss : List (List Int)) (k : Nat) (h : k < xss.length) : (xss.take k).flatten.length + (xss.getD k []).length ≤ xss.flatten.length := by
  rw [← List.length_append, ← flat_take h]
  have : xss.flatten = (xss.take (k + 1)).flatten ++ (xss.drop (k + 1)).flatten := by rw [← List.flatten_append, List.take_append_drop]
  rw [this, List.length_append]; omega
def stepB (cs : List Car) (t : List Int) (k : Nat) (acc : List (List Int)) : List (List Int) :=
  if coupled cs t ↑k then acc.set (acc.length - 1) (acc.getD (acc.length - 1) [] ++ [t.getD k 0]) else acc ++ [[t.getD k 0]]
def blocksTo (cs : List Car) (t : List Int) : Nat → List (List Int)
  | 0 => []
  | k + 1 => stepB cs t k (blocksTo cs t k)
def blocksOf (cs : List Car) (t : List Int) : List (List Int) := blocksTo cs t t.length
theorem coupled_pos {cs : List Car} {t : List Int} {k : Nat} (h : coupled cs t ↑k = true) : 1 ≤ k := by
  unfold coupled at h
  simp only [Bool.and_eq_true] at h
  have := inB_t h.1.1
  omega
theorem blocksTo_len (cs : List Car) (t : List Int) : ∀ k, (blocksTo cs t k).length ≤ k ∧ (0 < k → 0 < (blocksTo cs t k).length) ∧ ∀ b ∈ blocksTo cs t k, b.length ≤ k := by
  intro k
  induction k with
  | zero => exact ⟨Nat.le_refl _, fun h => by omega, fun b h => by simp [blocksTo] at h⟩
  | succ k ih =>
    obtain ⟨h1, h2, h3⟩ := ih
    simp only [blocksTo, stepB]
    split
    · rename_i hc
      have hk := coupled_pos hc
      refine ⟨by rw [List.length_set]; omega, fun _ => by rw [List.length_set]; exact h2 (by omega), fun b hb => ?_⟩
      rcases List.mem_or_eq_of_mem_set hb with hb | e
      · have := h3 b hb; omega
      · subst e
        have hm : (blocksTo cs t k).getD ((blocksTo cs t k).length - 1) [] ∈ blocksTo cs t k := getD_mem (by have := h2 (by omega); omega)
        have := h3 _ hm
        simp only [List.length_append, List.length_cons, List.length_nil]; omega
    · refine ⟨by simp; omega, fun _ => by simp, fun b hb => ?_⟩
      rcases List.mem_append.1 hb with hb | hb
      · have := h3 b hb; omega
      · simp at hb; subst hb; simp
theorem blocksTo_yes {cs : List Car} {t : List Int} {k : Nat} (h : coupled cs t ↑k = true) : blocksTo cs t (k + 1) = (blocksTo cs t k).set ((blocksTo cs t k).length - 1) ((blocksTo cs t k).getD ((blocksTo cs t k).length - 1) [] ++ [t.getD k 0]) := by
  simp only [blocksTo, stepB]; rw [if_pos h]
theorem blocksTo_no {cs : List Car} {t : List Int} {k : Nat} (h : coupled cs t ↑k = false) : blocksTo cs t (k + 1) = blocksTo cs t k ++ [[t.getD k 0]] := by
  simp only [blocksTo, stepB]; rw [if_neg (by rw [h]; simp)]

def growFrom (bl : List (List Int)) (rec : List Int → List Int → List (List Int)) (begun us : List Int) (k : Nat) : List (List Int) :=
  (List.range' k (bl.length - k)).flatMap fun i : Nat => if (i : Int) ∈ us then [] else rec (begun ++ bl.getD i []) (us ++ [(i : Int)])
def growM (bl : List (List Int)) : Nat → List Int → List Int → List (List Int)
  | 0, begun, _ => [begun]
  | n + 1, begun, us => growFrom bl (growM bl n) begun us 0
section
variable {bl : List (List Int)} {rec : List Int → List Int → List (List Int)} {begun us : List Int} {k : Nat}
theorem growFrom_skip (hk : k < bl.length) (h : (k : Int) ∈ us) : growFrom bl rec begun us k = growFrom bl rec begun us (k + 1) := by
  unfold growFrom; rw [range_cons hk]; simp [h]
theorem growFrom_go (hk : k < bl.length) (h : ¬ (k : Int) ∈ us) : growFrom bl rec begun us k = rec (begun ++ bl.getD k []) (us ++ [(k : Int)]) ++ growFrom bl rec begun us (k + 1) := by
  unfold growFrom; rw [range_cons hk]; simp [h]
theorem growFrom_done (hk : bl.length ≤ k) : growFrom bl rec begun us k = [] := by
  unfold growFrom; rw [show bl.length - k = 0 by omega]; rfl
end
theorem erase_snoc {us : List Int} {x : Int} (h : ¬ x ∈ us) : (us ++ [x]).erase x = us := by
  rw [List.erase_append_right _ h]; simp
def warmE (Y : Yard) : List Int × Int × Int :=
  if checkErr Y = 0 then
    (let os := growM (blocksOf Y.cars (trk Y 0)) (blocksOf Y.cars (trk Y 0)).length [] []
     let m := minF (warmCmp Y.cars) (os.drop 1) (os.getD 0 [])
     (m, ((coldOf Y.cars m).length : Int), 0))
  else ([], 0, checkErr Y)
end Go.Sh
namespace Go.Proofs.YtcaocbhbofejnaaGreatDoor
open Go Go.Sl Go.Sh
set_option maxRecDepth 100000
noncomputable def c_cold (p : List Nat) : Code := sub (bodyOf Tryz.f105) p
theorem cold_ct (I : Imm) (y : Value) (Y : Yard) (a : Value) (t : List Int) (y_f : IsYard I y Y) (a_f : IsInts I a t) (ho : Ok Y.cars t) (hl : t.length ≤ 1000000) : Ct Tryz.prog 105 #[y, a] I ([]) (fun v I' M' => ∃ u : Value, ∃ Ms : Seg, v = u ∧ M' = Ms ∧ Own 3 1 intCell u (coldOf Y.cars t) Ms) := by
 obtain ⟨y1, y2, y3, f6, d4, d6, d8⟩ := id y_f;subst f6;obtain ⟨a4, a5, b8, b9, d3, e3, e4, a8⟩ := id d4;subst d3;obtain ⟨a9, b0, e5, e8, d5, e6, e7, e9⟩ := id d6;subst d5;obtain ⟨b2, b4, f0, f3, d9, d7, f1, f2, f4, f5⟩ := id d8;subst d7;obtain ⟨c1, c2, f7, g0, e0, f8, f9, c3⟩ := id a_f;subst e0;refine fr (args := [_, _]) (N := 40) Tryz.func105 (fun F => ?_);show Run _ _ (c_cold []) _ _ [(0, .agg #[.slice a4 Y.cars.length a5, .slice a9 Y.room.length b0, .slice b2 Y.tracks.length b4]), (1, .slice c1 t.length c2)] _ _;refine rnm (rqr ?_);refine sS (sb 2 26 #[.slice a4 Y.cars.length a5, .slice a9 Y.room.length b0, .slice b2 Y.tracks.length b4] (fun b1 => ?_));refine sp 1 [(4, .slice none 0 0)] ?_;refine sn ?_;refine sp 1 [(5, .slice none 0 0)] ?_;refine sn ?_;refine sp 1 [(6, .bool (true))] ?_;refine se (rq (rqr ?_));refine sp 3 [(11, .int .i64 (0)), (10, .int .i64 (↑(t.length))), (9, .slice c1 t.length c2)] ?_;refine se (rb 0 ?_);refine rl (fun mz a w => ∃ J0 : Imm, ∃ k : Nat, ∃ a6 : List Int, ∃ a3 : Bool, ∃ b6 : Value, ∃ a0 : Seg, (I.le J0) ∧ (k ≤ t.length) ∧ (coldOf Y.cars t = a6 ++ goCold Y.cars a3 (t.drop k)) ∧ (a6.length ≤ k) ∧ (Own 3 1 intCell b6 (a6) a0) ∧ Slots 40 [(5, b6), (6, .bool (a3)), (11, .int .i64 ↑k), (2, .pointer (some ⟨b1, 0, none⟩)), (4, .slice none 0 0), (9, .slice c1 t.length c2), (10, .int .i64 (↑(t.length)))] a ∧ a.defers = [] ∧ St J0 ((b1, Obj.cells #[.slice a4 Y.cars.length a5, .slice a9 Y.room.length b0, .slice b2 Y.tracks.length b4] 26 (0, 0)) :: (a0 ++ F)) w ∧ mz = t.length - k) ?_ ?_
 ·intro a w hS hD hW;exact ⟨_, I, 0, [], true, (.slice none 0 0), [], Imm.le.refl _, Nat.zero_le _, rfl, Nat.le_refl _, (Own.nil _ _ _), hS.sub (.cons 5 rfl (.cons 6 rfl (.cons 11 rfl (.cons 2 rfl (.cons 4 rfl (.cons 9 rfl (.cons 10 rfl (.nil _)))))))), hD, hW, rfl⟩
 rintro mz a w ⟨J0, k, a6, a3, b6, a0, hJ0, hk, hr, g1, a7, hS, hD, hW, rfl⟩
 refine run_at hS hD hW ?_;clear hS hD hW a w;replace a8 := a8.mono hJ0;replace c3 := c3.mono hJ0;obtain ⟨a1, a2, b7, c4⟩ := a7.shape; subst b7;refine rqr ?_;refine sp 1 [(12, .bool (cmp .lss (↑k) (↑(t.length))))] ?_;refine se (rq ?_);refine rc 12 rfl (fun h1 => ?_) (fun h1 => ?_)
 ·
  have c6 := h1;have h1 := lss_t h1;refine rskip (pst_next (rq (rb 1 (rqr ?_))));refine sd (di 13 1 (k) c3.addr) ?_;refine sd (dl 14 (ints_get c3 (k) (by omega))) ?_;refine sp 1 [(8, .int .i64 (t.getD (k) 0))] ?_;refine se (rq (rq ?_));refine run_cut (fun a w => Slots 40 [(2, .pointer (some ⟨b1, 0, none⟩)), (4, .slice none 0 0), (5, .slice a1 a6.length a2), (6, .bool (a3)), (8, .int .i64 (t.getD (k) 0)), (9, .slice c1 t.length c2), (10, .int .i64 (↑(t.length))), (11, .int .i64 (↑k)), (24, .bool (((Y.cars.getD ((t.getD (k) 0 : Int).toNat) noCar).heat) && (!(a3))))] a ∧ a.defers = [] ∧ St J0 ((b1, Obj.cells #[.slice a4 Y.cars.length a5, .slice a9 Y.room.length b0, .slice b2 Y.tracks.length b4] 26 (0, 0)) :: (a0 ++ F)) w) ?_ ?_
  ·
   refine rr ?_;have hc := ho.at k (by omega);refine sp 1 [(15, .pointer (some ⟨b1, 0, none⟩))] ?_;refine sd (dlb 16 0 0 b1 (.slice a4 Y.cars.length a5)) ?_;refine sp 1 [(17, .int .i64 (t.getD (k) 0))] ?_;refine sd (diI 18 6 (t.getD (k) 0) a8.addr) ?_;refine sp 1 [(19, .pointer (some ⟨b8, b9 + ((t.getD (k) 0 : Int).toNat) * 6 + 5, none⟩))] ?_;refine sd (dl 20 (cars_get a8 ((t.getD (k) 0 : Int).toNat) (by omega) 5 (by decide) (v := .bool ((Y.cars.getD ((t.getD (k) 0 : Int).toNat) noCar).heat)) rfl)) ?_;refine sp 1 [(21, .bool ((Y.cars.getD ((t.getD (k) 0 : Int).toNat) noCar).heat))] ?_;refine seq_split 21 rfl (fun h2 => ?_) (fun h2 => ?_)
   ·
    have c7 := h2;refine sp 3 [(24, .bool (!(a3)))] ?_;refine ee ?_;refine pst_meet (fun a w hS hD hW => ⟨hS.sub (.cons 2 rfl (.cons 4 rfl (.cons 5 rfl (.cons 6 rfl (.cons 8 rfl (.cons 9 rfl (.cons 10 rfl (.cons 11 rfl (.consE 24 rfl (congrArg Value.bool (by simp only [h2, Bool.true_and, Bool.false_and, Bool.and_true, Bool.and_false, Bool.true_or, Bool.false_or, Bool.or_true, Bool.or_false, cond_true, cond_false])) (.nil _)))))))))), hD, hW⟩)
   have c7 := h2;refine sp 3 [(24, .bool (false))] ?_;refine ee ?_;refine pst_meet (fun a w hS hD hW => ⟨hS.sub (.cons 2 rfl (.cons 4 rfl (.cons 5 rfl (.cons 6 rfl (.cons 8 rfl (.cons 9 rfl (.cons 10 rfl (.cons 11 rfl (.consE 24 rfl (congrArg Value.bool (by simp only [h2, Bool.true_and, Bool.false_and, Bool.and_true, Bool.and_false, Bool.true_or, Bool.false_or, Bool.or_true, Bool.or_false, cond_true, cond_false])) (.nil _)))))))))), hD, hW⟩)
  rintro a w ⟨hS, hD, hW⟩
  refine run_at hS hD hW ?_;clear hS hD hW a w;refine rc 24 rfl (fun h3 => ?_) (fun h3 => ?_)
  ·
   have b5 := h3;obtain ⟨e1, c0⟩ := and_t h3;have c0 := not_t c0;refine rr ?_;refine sp 2 [(26, .int .i64 (t.getD (k) 0)), (25, .slice a1 a6.length a2)] ?_;refine sS (sbs 27 3 1 #[.int .i64 (t.getD (k) 0)] (fun b3 => ?_));refine sS (stp_append (d := 28) (x := (.tmp 25)) (y := (.tmp 27)) (T := 23) (T' := 23) (E := 3) (E' := 3) (sz := 1) (bs := 8) (z := .int .i64 (0)) (cell := intCell) (xs := a6) (ys := [(t.getD (k) 0 : Int)]) (Ms := a0) (ty := 23) (gd := none) (by kernel_rfl) rfl (by kernel_rfl) (by kernel_rfl) (by kernel_rfl) (by kernel_rfl) (by kernel_rfl) (by decide) (by kernel_rfl) rfl rfl (a7) ((PC _ (PM.symm)).trans (PM.symm)) (one_intCell _) (src_atS 0 rfl rfl) (by first | omega | (simp only [LC, LN, LA, LK, LD]; omega)) (fun v5 c5 d0 => ?_));refine seq_mem (M' := ((b1, Obj.cells #[.slice a4 Y.cars.length a5, .slice a9 Y.room.length b0, .slice b2 Y.tracks.length b4] 26 (0, 0)) :: (c5 ++ F))) (fun w h => (h.perm (List.perm_middle.trans (PC _ PM))).sub (TC _ (TR _))) ?_;obtain ⟨d1, d2, e2, g2⟩ := d0.shape;subst e2;refine sp 1 [(5, .slice d1 (a6 ++ ([(t.getD (k) 0 : Int)])).length d2)] ?_;refine se (rr ?_);have hc := ho.at k (by omega);refine sp 2 [(30, .bool (a3))] ?_;refine seq_split 30 rfl (fun h4 => ?_) (fun h4 => ?_)
   ·
    have c8 := h4;refine sp 1 [(31, .pointer (some ⟨b1, 0, none⟩))] ?_;refine sd (dlb 32 0 0 b1 (.slice a4 Y.cars.length a5)) ?_;refine sp 1 [(33, .int .i64 (t.getD (k) 0))] ?_;refine sd (diI 34 6 (t.getD (k) 0) a8.addr) ?_;refine sp 1 [(35, .pointer (some ⟨b8, b9 + ((t.getD (k) 0 : Int).toNat) * 6 + 4, none⟩))] ?_;refine sd (dl 36 (cars_get a8 ((t.getD (k) 0 : Int).toNat) (by omega) 4 (by decide) (v := .bool ((Y.cars.getD ((t.getD (k) 0 : Int).toNat) noCar).pipe)) rfl)) ?_;refine sp 2 [(6, .bool ((Y.cars.getD ((t.getD (k) 0 : Int).toNat) noCar).pipe))] ?_;refine ee (pst_normal_block (pst_next (rr ?_)));refine sd (da 38 (↑k) (1)) ?_;refine sp 1 [(11, .int .i64 (↑k + 1))] ?_;refine ee ?_;refine pst_back (t.length - (k+1)) (by omega) ?_;intro a w hS hD hW;exact ⟨J0, k+1, a6 ++ [t.getD k 0], ((Y.cars.getD ((t.getD (k) 0 : Int).toNat) noCar).pipe), .slice d1 (a6 ++ ([(t.getD (k) 0 : Int)])).length d2, c5, hJ0, by omega, hr.trans (by rw [goCold_yes (k := k) (by omega) b5, h4]; try simp only [Bool.true_and, Bool.false_and, AA, CA, NA]; try rfl), by simp only [LA, LC, LN]; omega, d0, hS.sub (.consE 5 rfl rfl (.consE 6 rfl rfl (.consE 11 rfl rfl (.cons 2 rfl (.cons 4 rfl (.cons 9 rfl (.cons 10 rfl (.nil _)))))))), hD, hW, rfl⟩
   have c8 := h4;refine sp 8 [(6, .bool (false))] ?_;refine ee (pst_normal_block (pst_next (rr ?_)));refine sd (da 38 (↑k) (1)) ?_;refine sp 1 [(11, .int .i64 (↑k + 1))] ?_;refine ee ?_;refine pst_back (t.length - (k+1)) (by omega) ?_;intro a w hS hD hW;exact ⟨J0, k+1, a6 ++ [t.getD k 0], (false), .slice d1 (a6 ++ ([(t.getD (k) 0 : Int)])).length d2, c5, hJ0, by omega, hr.trans (by rw [goCold_yes (k := k) (by omega) b5, h4]; try simp only [Bool.true_and, Bool.false_and, AA, CA, NA]; try rfl), by simp only [LA, LC, LN]; omega, d0, hS.sub (.consE 5 rfl rfl (.consE 6 rfl rfl (.consE 11 rfl rfl (.cons 2 rfl (.cons 4 rfl (.cons 9 rfl (.cons 10 rfl (.nil _)))))))), hD, hW, rfl⟩
  have b5 := h3;refine rskip (pst_next (rr ?_));have hc := ho.at k (by omega);refine sp 2 [(30, .bool (a3))] ?_;refine seq_split 30 rfl (fun h5 => ?_) (fun h5 => ?_)
  ·
   have c9 := h5;refine sp 1 [(31, .pointer (some ⟨b1, 0, none⟩))] ?_;refine sd (dlb 32 0 0 b1 (.slice a4 Y.cars.length a5)) ?_;refine sp 1 [(33, .int .i64 (t.getD (k) 0))] ?_;refine sd (diI 34 6 (t.getD (k) 0) a8.addr) ?_;refine sp 1 [(35, .pointer (some ⟨b8, b9 + ((t.getD (k) 0 : Int).toNat) * 6 + 4, none⟩))] ?_;refine sd (dl 36 (cars_get a8 ((t.getD (k) 0 : Int).toNat) (by omega) 4 (by decide) (v := .bool ((Y.cars.getD ((t.getD (k) 0 : Int).toNat) noCar).pipe)) rfl)) ?_;refine sp 2 [(6, .bool ((Y.cars.getD ((t.getD (k) 0 : Int).toNat) noCar).pipe))] ?_;refine ee (pst_normal_block (pst_next (rr ?_)));refine sd (da 38 (↑k) (1)) ?_;refine sp 1 [(11, .int .i64 (↑k + 1))] ?_;refine ee ?_;refine pst_back (t.length - (k+1)) (by omega) ?_;intro a w hS hD hW;exact ⟨J0, k+1, a6, ((Y.cars.getD ((t.getD (k) 0 : Int).toNat) noCar).pipe), .slice a1 a6.length a2, a0, hJ0, by omega, hr.trans (by rw [goCold_no (k := k) (by omega) b5, h5]; try simp only [Bool.true_and, Bool.false_and, AA, CA, NA]; try rfl), by omega, a7, hS.sub (.consE 5 rfl rfl (.consE 6 rfl rfl (.consE 11 rfl rfl (.cons 2 rfl (.cons 4 rfl (.cons 9 rfl (.cons 10 rfl (.nil _)))))))), hD, hW, rfl⟩
  have c9 := h5;refine sp 8 [(6, .bool (false))] ?_;refine ee (pst_normal_block (pst_next (rr ?_)));refine sd (da 38 (↑k) (1)) ?_;refine sp 1 [(11, .int .i64 (↑k + 1))] ?_;refine ee ?_;refine pst_back (t.length - (k+1)) (by omega) ?_;intro a w hS hD hW;exact ⟨J0, k+1, a6, (false), .slice a1 a6.length a2, a0, hJ0, by omega, hr.trans (by rw [goCold_no (k := k) (by omega) b5, h5]; try simp only [Bool.true_and, Bool.false_and, AA, CA, NA]; try rfl), by omega, a7, hS.sub (.consE 5 rfl rfl (.consE 6 rfl rfl (.consE 11 rfl rfl (.cons 2 rfl (.cons 4 rfl (.cons 9 rfl (.cons 10 rfl (.nil _)))))))), hD, hW, rfl⟩
 have c6 := h1;have h1 := lss_f h1;refine rexit 0 ?_;refine (pst_exit_pass (pst_exit_pass (pst_exit_block ?_)));refine pst_next (rqr ?_);refine sp 2 [(4, .slice a1 a6.length a2)] ?_;refine se (rret ?_);refine ppm (M' := ((a0 ++ (b1, Obj.cells #[.slice a4 Y.cars.length a5, .slice a9 Y.room.length b0, .slice b2 Y.tracks.length b4] 26 (0, 0)) :: F))) (PM.symm) ?_;refine pst_ret1 (t := 4) (a0) (by kernel_rfl) rfl (TA (TC _ (TR _)) _) hJ0 ?_;exact ⟨_, _, rfl, rfl, ((show a6 = coldOf Y.cars t from (hr.trans (by rw [goCold_done (by omega), List.append_nil])).symm) ▸ a7)⟩

noncomputable def c_isNaN (p : List Nat) : Code := sub (bodyOf Tryz.f162) p
theorem isNaN_ct (I : Imm) (n : Int) : CtV Tryz.prog 162 #[.int .i64 n] I (.bool (false)) := by
 refine fr (args := [_]) (N := 6) Tryz.func162 (fun F => ?_);show Run _ _ (c_isNaN []) _ _ [(0, .int .i64 (n))] _ _;refine rnm (rqr ?_);refine sp 1 [(2, .bool (false))] ?_;refine sn ?_;refine sp 4 [(2, .bool (!(cmp .eql (n) (n))))] ?_;refine se (rret ?_);refine pst_ret1 (t := 2) [] (by kernel_rfl) rfl (TR _) (Imm.le.refl _) ?_;exact ⟨by simp [cmp], rfl⟩

noncomputable def c_cmpI (p : List Nat) : Code := sub (bodyOf Tryz.f143) p
theorem cmpI_ct (I : Imm) (n : Int) (m : Int) : CtV Tryz.prog 143 #[.int .i64 n, .int .i64 m] I (.int .i64 (cmpI n m)) := by
 refine fr (args := [_, _]) (N := 20) Tryz.func143 (fun F => ?_);show Run _ _ (c_cmpI []) _ _ [(0, .int .i64 (n)), (1, .int .i64 (m))] _ _;refine rnm (rqr ?_);refine sp 1 [(4, .int .i64 (0))] ?_;refine sn ?_;refine sp 1 [(7, .int .i64 (n))] ?_;refine sd (dc 8 (fun I' hI => (isNaN_ct I' (n) :))) ?_;refine sp 1 [(5, .bool (false))] ?_;refine sn ?_;refine sp 1 [(9, .int .i64 (m))] ?_;refine sd (dc 10 (fun I' hI => (isNaN_ct I' (m) :))) ?_;refine sp 1 [(6, .bool (false))] ?_;refine se (rq (rqr ?_));refine sp 1 [(11, .bool (false))] ?_;refine se ?_;refine rcf 11 rfl ?_;refine rskip (pst_next (rq (rqr ?_)));refine sp 1 [(13, .bool (false))] ?_;refine se ?_;refine rcf 13 rfl ?_;refine rskip (pst_next (rq (rqr ?_)));refine sp 3 [(16, .bool (cmp .lss (n) (m)))] ?_;refine se ?_;refine rc 16 rfl (fun h1 => ?_) (fun h1 => ?_)
 ·
  have a0 := h1;have h1 := lss_t h1;refine rqr ?_;refine sp 1 [(4, .int .i64 ((-1)))] ?_;refine se (rret ?_);refine (pst_ret_pass ?_);refine pst_ret1 (t := 4) [] (by kernel_rfl) rfl (TR _) (Imm.le.refl _) ?_;exact ⟨congrArg (Value.int .i64) (show (-1 : Int) = cmpI n m by unfold cmpI; rw [if_pos (by omega)]), rfl⟩
 have a0 := h1;have h1 := lss_f h1;refine rskip (pst_next (rq (rqr ?_)));refine sp 3 [(19, .bool (cmp .gtr (n) (m)))] ?_;refine se ?_;refine rc 19 rfl (fun h2 => ?_) (fun h2 => ?_)
 ·
  have a1 := h2;have h2 := gtr_t h2;refine rqr ?_;refine sp 1 [(4, .int .i64 (1))] ?_;refine se (rret ?_);refine (pst_ret_pass ?_);refine pst_ret1 (t := 4) [] (by kernel_rfl) rfl (TR _) (Imm.le.refl _) ?_;exact ⟨congrArg (Value.int .i64) (show (1 : Int) = cmpI n m by unfold cmpI; rw [if_neg (by omega), if_pos (by omega)]), rfl⟩
 have a1 := h2;have h2 := gtr_f h2;refine rskip (pst_next (rqr ?_));refine sp 1 [(4, .int .i64 (0))] ?_;refine se (rret ?_);refine pst_ret1 (t := 4) [] (by kernel_rfl) rfl (TR _) (Imm.le.refl _) ?_;exact ⟨congrArg (Value.int .i64) (show (0 : Int) = cmpI n m by unfold cmpI; rw [if_neg (by omega), if_neg (by omega)]), rfl⟩

noncomputable def c_cmpL (p : List Nat) : Code := sub (bodyOf Tryz.f106) p
theorem cmpL_ct (I : Imm) (a : Value) (xs : List Int) (b : Value) (ys : List Int) (a_f : IsInts I a xs) (b_f : IsInts I b ys) : CtV Tryz.prog 106 #[a, b] I (.int .i64 (cmpL xs ys)) := by
 obtain ⟨a0, a1, b2, b5, b0, b3, b4, a8⟩ := id a_f;subst b0;obtain ⟨a2, a3, b6, b9, b1, b7, b8, a9⟩ := id b_f;subst b1;refine fr (args := [_, _]) (N := 36) Tryz.func106 (fun F => ?_);show Run _ _ (c_cmpL []) _ _ [(0, .slice a0 xs.length a1), (1, .slice a2 ys.length a3)] _ _;refine rnm (rqr ?_);refine sp 1 [(4, .int .i64 (0))] ?_;refine se (rq (rqr ?_));refine sp 3 [(11, .int .i64 (0)), (10, .int .i64 (↑(xs.length))), (9, .slice a0 xs.length a1)] ?_;refine se (rb 0 ?_);refine rl (fun mz a w => ∃ k : Nat, (k ≤ xs.length) ∧ (k ≤ ys.length) ∧ (cmpL xs ys = cmpL (xs.drop k) (ys.drop k)) ∧ Slots 36 [(11, .int .i64 ↑k), (0, .slice a0 xs.length a1), (1, .slice a2 ys.length a3), (9, .slice a0 xs.length a1), (10, .int .i64 (↑(xs.length)))] a ∧ a.defers = [] ∧ St I (F) w ∧ mz = xs.length - k) ?_ ?_
 ·intro a w hS hD hW;exact ⟨_, 0, Nat.zero_le _, Nat.zero_le _, rfl, hS.sub (.cons 11 rfl (.cons 0 rfl (.cons 1 rfl (.cons 9 rfl (.cons 10 rfl (.nil _)))))), hD, hW, rfl⟩
 rintro mz a w ⟨k, hk, c0, hr, hS, hD, hW, rfl⟩
 refine run_at hS hD hW ?_;clear hS hD hW a w;refine rqr ?_;refine sp 1 [(12, .bool (cmp .lss (↑k) (↑(xs.length))))] ?_;refine se (rq ?_);refine rc 12 rfl (fun h1 => ?_) (fun h1 => ?_)
 ·
  have a4 := h1;have h1 := lss_t h1;refine rskip (pst_next (rq (rb 1 (rqr ?_))));refine sp 1 [(13, .int .i64 (↑k))] ?_;refine sd (di 14 1 (k) a8.addr) ?_;refine sd (dl 15 (ints_get a8 (k) (by omega))) ?_;refine sp 2 [(6, .int .i64 (xs.getD (k) 0)), (5, .int .i64 (↑k))] ?_;refine se (rq (rqr ?_));refine sp 4 [(19, .bool (cmp .geq (↑k) (↑(ys.length))))] ?_;refine se ?_;refine rc 19 rfl (fun h2 => ?_) (fun h2 => ?_)
  ·
   have a5 := h2;have h2 := geq_t h2;refine rqr ?_;refine sp 1 [(4, .int .i64 (1))] ?_;refine se (rret ?_);refine (pst_ret_pass (pst_ret_block (pst_ret_pass (pst_ret_pass (pst_ret_block (pst_ret_pass ?_))))));refine pst_ret1 (t := 4) [] (by kernel_rfl) rfl (TR _) (Imm.le.refl _) ?_;exact ⟨congrArg (Value.int .i64) (show (1 : Int) = cmpL xs ys from (hr.trans (cmpL_more (by omega) (by omega))).symm), rfl⟩
  have a5 := h2;have h2 := geq_f h2;refine rskip (pst_next (rqr ?_));refine sp 2 [(21, .int .i64 (↑k)), (20, .slice a2 ys.length a3)] ?_;refine sd (di 22 1 (k) a9.addr) ?_;refine sd (dl 23 (ints_get a9 (k) (by omega))) ?_;refine sp 1 [(7, .int .i64 (ys.getD (k) 0))] ?_;refine sn ?_;refine sp 2 [(25, .int .i64 (ys.getD (k) 0)), (24, .int .i64 (xs.getD (k) 0))] ?_;refine sd (dc 26 (fun I' hI => (cmpI_ct I' (xs.getD (k) 0) (ys.getD (k) 0) :))) ?_;refine sp 1 [(8, .int .i64 ((cmpI (xs.getD (k) 0) (ys.getD (k) 0))))] ?_;refine sn ?_;refine sp 2 [(28, .bool (!(cmp .eql ((cmpI (xs.getD (k) 0) (ys.getD (k) 0))) (0))))] ?_;refine se ?_;refine rc 28 rfl (fun h3 => ?_) (fun h3 => ?_)
  ·
   have a6 := h3;have h3 := not_t h3;have h3 := eql_f h3;refine rqr ?_;refine sp 2 [(4, .int .i64 ((cmpI (xs.getD (k) 0) (ys.getD (k) 0))))] ?_;refine se (rret ?_);refine (pst_ret_block (pst_ret_pass (pst_ret_pass (pst_ret_block (pst_ret_pass ?_)))));refine pst_ret1 (t := 4) [] (by kernel_rfl) rfl (TR _) (Imm.le.refl _) ?_;exact ⟨congrArg (Value.int .i64) (show cmpI (xs.getD k 0) (ys.getD k 0) = cmpL xs ys from (hr.trans (cmpL_diff (by omega) (by omega) h3)).symm), rfl⟩
  have a6 := h3;have h3 := not_f h3;have h3 := eql_t h3;refine rskip (pst_normal_block (pst_next (rr ?_)));refine sd (da 30 (↑k) (1)) ?_;refine sp 1 [(11, .int .i64 (↑k + 1))] ?_;refine ee ?_;refine pst_back (xs.length - (k+1)) (by omega) ?_;intro a w hS hD hW;exact ⟨k+1, by omega, by omega, hr.trans (cmpL_next (by omega) (by omega) h3), hS.sub (.consE 11 rfl rfl (.cons 0 rfl (.cons 1 rfl (.cons 9 rfl (.cons 10 rfl (.nil _)))))), hD, hW, rfl⟩
 have a4 := h1;have h1 := lss_f h1;refine rexit 0 ?_;refine (pst_exit_pass (pst_exit_pass (pst_exit_block ?_)));refine pst_next (rq (rqr ?_));refine sp 5 [(35, .bool (cmp .lss (↑(xs.length)) (↑(ys.length))))] ?_;refine se ?_;refine rc 35 rfl (fun h4 => ?_) (fun h4 => ?_)
 ·
  have a7 := h4;have h4 := lss_t h4;refine rqr ?_;refine sp 1 [(4, .int .i64 ((-1)))] ?_;refine se (rret ?_);refine (pst_ret_pass ?_);refine pst_ret1 (t := 4) [] (by kernel_rfl) rfl (TR _) (Imm.le.refl _) ?_;exact ⟨congrArg (Value.int .i64) (show (-1 : Int) = cmpL xs ys from (hr.trans (cmpL_less (by omega) (by omega))).symm), rfl⟩
 have a7 := h4;have h4 := lss_f h4;refine rskip (pst_next (rqr ?_));refine sp 1 [(4, .int .i64 (0))] ?_;refine se (rret ?_);refine pst_ret1 (t := 4) [] (by kernel_rfl) rfl (TR _) (Imm.le.refl _) ?_;exact ⟨congrArg (Value.int .i64) (show (0 : Int) = cmpL xs ys from (hr.trans (cmpL_same (by omega) (by omega))).symm), rfl⟩

end Go.Proofs.YtcaocbhbofejnaaGreatDoor
namespace Go.Proofs.YtcaocbhbofejnaaGreatDoor
open Go Go.Sl Go.Sh
set_option maxRecDepth 100000
noncomputable def c_Grow (p : List Nat) : Code := sub (bodyOf Tryz.f140) p
theorem Grow_ct (I : Imm) (n : Nat) (hn : n ≤ 1000000) : Ct Tryz.prog 140 #[.slice none 0 0, .int .i64 ↑n] I [] (fun v I' M' => ∃ Ms, M' = Ms ∧ Own 3 1 intCell v ([] : List Int) Ms) := by
 refine fr (args := [_, _]) (N := 27) Tryz.func140 (fun F => ?_);show Run _ _ (c_Grow []) _ _ [(0, .slice none 0 0), (1, .int .i64 (↑n))] _ _;refine rnm (rqr ?_);refine sp 1 [(4, .slice none 0 0)] ?_;refine se (rq (rqr ?_));refine sp 2 [(6, .bool (cmp .lss (↑n) (0)))] ?_;refine se ?_;refine rc 6 rfl (fun h1 => ?_) (fun h1 => ?_)
 ·
  have a0 := h1;have h1 := lss_t h1
  exfalso; omega
 have a0 := h1;have h1 := lss_f h1;refine rskip (pst_next (rq (rqr ?_)));refine sp 5 [(12, .int .i64 (0)), (10, .int .i64 (0)), (8, .int .i64 (↑n))] ?_;refine sd (dsb 13 (0) (0)) ?_;refine sd (dsb 14 (↑n) (0 - 0)) ?_;refine seq_re 14 rfl (show (.int .i64 (↑n - (0 - 0)) : Value) = .int .i64 (↑n) from congrArg (Value.int .i64) (by omega)) ?_;refine sp 1 [(1, .int .i64 (↑n))] ?_;refine sn ?_;refine sp 2 [(16, .bool (cmp .gtr (↑n) (0)))] ?_;refine se ?_;refine rc 16 rfl (fun h2 => ?_) (fun h2 => ?_)
 ·
  have a1 := h2;have h2 := gtr_t h2;refine rr ?_;refine sp 3 [(19, .int .i64 (0)), (17, .slice none 0 0)] ?_;refine sd (det_eq (det_slice (x := .tmp 17) (lo := none) (hi := some (.tmp 19)) (T := 23) (e := 3) (sz := 1) 0 0 (d := 20) (ty := 23) (gd := none) (by kernel_rfl) rfl (by kernel_rfl) (by kernel_rfl) rfl (.inl ⟨rfl, rfl⟩) (.inr ⟨_, .i64, rfl, rfl⟩) (Nat.le_refl _) (Nat.le_refl _)) (show _ = Value.slice none 0 0 from rfl)) ?_;refine sp 1 [(21, .int .i64 (↑n))] ?_;refine sS (stp_appendN (x := .tmp 20) (y := .tmp 21) (T := 23) (T' := 3) (E := 3) (bs := 8) (n := n) (z := .int .i64 0) (d := 22) (ty := 23) (gd := none) (by kernel_rfl) rfl (by kernel_rfl) (by kernel_rfl) (by kernel_rfl) rfl (by kernel_rfl) (by decide) (by kernel_rfl) rfl rfl ⟨by omega, hn⟩ (fun gb nc zs a4 a3 => ?_));show Seq _ _ _ _ _ _ ((22, .slice (some ⟨gb, 0, none⟩) n nc) :: _) _ _;refine sp 2 [(24, .int .i64 (0))] ?_;refine sd (det_eq (det_slice (x := .tmp 22) (lo := none) (hi := some (.tmp 24)) (T := 23) (e := 3) (sz := 1) 0 0 (d := 25) (ty := 23) (gd := none) (by kernel_rfl) rfl (by kernel_rfl) (by kernel_rfl) rfl (.inl ⟨rfl, rfl⟩) (.inr ⟨_, .i64, rfl, rfl⟩) (Nat.le_refl _) (Nat.zero_le _)) (show _ = Value.slice (some ⟨gb, 0, none⟩) 0 nc by simp [addr_add])) ?_;have a2 : Own 3 1 intCell (.slice (some ⟨gb, 0, none⟩) 0 nc) ([] : List Int) [(gb, Obj.cells (List.toArray zs) 3 (0, 0))] := Own.empty a3;refine seq_mem (M' := (([(gb, Obj.cells (List.toArray zs) 3 (0, 0))] ++ F))) (fun w h => h) ?_;refine sp 1 [(0, .slice (some ⟨gb, 0, none⟩) 0 nc)] ?_;refine sn ?_;refine sp 2 [(4, .slice (some ⟨gb, 0, none⟩) 0 nc)] ?_;refine se (rret ?_);refine pst_ret1 (t := 4) ([(gb, Obj.cells (List.toArray zs) 3 (0, 0))]) (by kernel_rfl) rfl (TK _ (TR _)) (Imm.le.refl _) ?_;exact ⟨_, rfl, a2⟩
 have a1 := h2;have h2 := gtr_f h2;refine rskip (pst_next (rqr ?_));refine sp 2 [(4, .slice none 0 0)] ?_;refine se (rret ?_);refine pst_ret1 (t := 4) ([]) (by kernel_rfl) rfl (TR _) (Imm.le.refl _) ?_;exact ⟨[], rfl, Own.nil _ _ _⟩

noncomputable def c_Concat (p : List Nat) : Code := sub (bodyOf Tryz.f102) p
theorem Concat_ct (I : Imm) (s : Value) (xss : List (List Int)) (s_f : IsRows I s xss) (hl : xss.flatten.length ≤ 1000000) : Ct Tryz.prog 102 #[s] I ([]) (fun v I' M' => ∃ u : Value, ∃ Ms : Seg, v = u ∧ M' = Ms ∧ Own 3 1 intCell u (xss.flatten) Ms) := by
 obtain ⟨b1, b2, f3, f6, e9, e8, f4, f5, a6, b3⟩ := id s_f;subst e8;refine fr (args := [_]) (N := 36) Tryz.func102 (fun F => ?_);show Run _ _ (c_Concat []) _ _ [(0, .slice b1 xss.length b2)] _ _;refine rnm (rqr ?_);refine sp 1 [(2, .slice none 0 0)] ?_;refine sn ?_;refine sp 1 [(3, .int .i64 (0))] ?_;refine se (rq (rqr ?_));refine sp 3 [(11, .int .i64 (0)), (10, .int .i64 (↑(xss.length))), (9, .slice b1 xss.length b2)] ?_;refine se (rb 0 ?_);refine rl (fun mz a w => ∃ k : Nat, (k ≤ xss.length) ∧ Slots 36 [(3, .int .i64 (↑(xss.take k).flatten.length)), (11, .int .i64 ↑k), (0, .slice b1 xss.length b2), (2, .slice none 0 0), (9, .slice b1 xss.length b2), (10, .int .i64 (↑(xss.length)))] a ∧ a.defers = [] ∧ St I (F) w ∧ mz = xss.length - k) ?_ ?_
 ·intro a w hS hD hW;exact ⟨_, 0, Nat.zero_le _, hS.sub (.cons 3 rfl (.cons 11 rfl (.cons 0 rfl (.cons 2 rfl (.cons 9 rfl (.cons 10 rfl (.nil _))))))), hD, hW, rfl⟩
 rintro mz a w ⟨k, hk, hS, hD, hW, rfl⟩
 refine run_at hS hD hW ?_;clear hS hD hW a w;refine rqr ?_;refine sp 1 [(12, .bool (cmp .lss (↑k) (↑(xss.length))))] ?_;refine se (rq ?_);refine rc 12 rfl (fun h1 => ?_) (fun h1 => ?_)
 ·
  have c1 := h1;have h1 := lss_t h1;refine rskip (pst_next (rq (rb 1 (rqr ?_))));refine sd (di 13 1 (k) a6.addr) ?_;have b6 := b3 (k) (by omega);obtain ⟨c5, c6, d7, e0, b5, d8, d9, e1⟩ := id b6;rw [b5] at b6;refine sd (det_eq (dl 14 (rows_get a6 (k) (by omega))) b5) ?_;refine sp 1 [(5, .slice c5 (xss.getD (k) []).length c6)] ?_;refine sn ?_;refine sp 3 [(17, .int .i64 (↑((xss.getD (k) []).length))), (15, .int .i64 (↑(xss.take k).flatten.length))] ?_;refine sd (da 18 (↑(xss.take k).flatten.length) (↑((xss.getD (k) []).length)) (hr := by have hq := flat_le xss k (by omega); omega)) ?_;refine sp 1 [(3, .int .i64 ((↑(xss.take k).flatten.length) + (↑((xss.getD (k) []).length))))] ?_;refine sn ?_;refine sp 2 [(20, .bool (cmp .lss ((↑(xss.take k).flatten.length) + (↑((xss.getD (k) []).length))) (0)))] ?_;refine se ?_;refine rc 20 rfl (fun h2 => ?_) (fun h2 => ?_)
  ·
   have c2 := h2;have h2 := lss_t h2
   exfalso; omega
  have c2 := h2;have h2 := lss_f h2;refine rskip (pst_normal_block (pst_next (rr ?_)));refine sd (da 22 (↑k) (1)) ?_;refine sp 1 [(11, .int .i64 (↑k + 1))] ?_;refine ee ?_;refine pst_back (xss.length - (k+1)) (by omega) ?_;intro a w hS hD hW;exact ⟨k+1, by omega, hS.sub (.consE 3 rfl (congrArg (Value.int .i64) (flat_succ (by omega)).symm) (.consE 11 rfl rfl (.cons 0 rfl (.cons 2 rfl (.cons 9 rfl (.cons 10 rfl (.nil _))))))), hD, hW, rfl⟩
 have c1 := h1;have h1 := lss_f h1;refine rexit 0 ?_;refine (pst_exit_pass (pst_exit_pass (pst_exit_block ?_)));refine pst_next (rqr ?_);refine sp 1 [(23, .int .i64 (↑(xss.take k).flatten.length))] ?_;have d4 : (xss.take k).flatten = xss.flatten := by rw [take_done (by omega)]
 rw [d4];have c4 := Grow_ct I xss.flatten.length hl;refine sS (stp_call (d := (some 24)) (f := (.func 140)) (fid := 140) (args := #[(.const (.slice none 0 0)), (.tmp 23)]) (tys := #[23, 3]) (cv := []) (F := (F)) (ty := 23) (gd := none) (by kernel_rfl) rfl rfl rfl (by kernel_rfl) rfl c4 (PR _) (fun f2 I2 f1 a7 d5 => ?_));obtain ⟨d3, c8, b4⟩ := d5;replace a6 := a6.mono a7;replace b3 := fun i hi => (b3 i hi).mono a7
 rw [c8]; clear c8;obtain ⟨a9, b0, c7, e7⟩ := b4.shape; subst c7;refine nm ?_;show Seq _ _ _ _ _ _ ((24, .slice a9 (([] : List Int)).length b0) :: _) _ _;refine sp 1 [(6, .slice a9 (([] : List Int)).length b0)] ?_;refine se (rq (rqr ?_));refine sp 3 [(27, .int .i64 (0)), (26, .int .i64 (↑(xss.length))), (25, .slice b1 xss.length b2)] ?_;refine se (rb 2 ?_);refine rl (fun mz a w => ∃ J1 : Imm, ∃ j : Nat, ∃ a4 : Value, ∃ a0 : Seg, (I2.le J1) ∧ (j ≤ xss.length) ∧ (Own 3 1 intCell a4 ((xss.take j).flatten) a0) ∧ Slots 36 [(6, a4), (27, .int .i64 ↑j), (2, .slice none 0 0), (25, .slice b1 xss.length b2), (26, .int .i64 (↑(xss.length)))] a ∧ a.defers = [] ∧ St J1 ((a0 ++ F)) w ∧ mz = xss.length - j) ?_ ?_
 ·intro a w hS hD hW;exact ⟨_, I2, 0, .slice a9 (([] : List Int)).length b0, d3, Imm.le.refl _, Nat.zero_le _, b4, hS.sub (.cons 6 rfl (.cons 27 rfl (.cons 2 rfl (.cons 25 rfl (.cons 26 rfl (.nil _)))))), hD, hW, rfl⟩
 rintro mz a w ⟨J1, j, a4, a0, hJ1, hj, a3, hS, hD, hW, rfl⟩
 refine run_at hS hD hW ?_;clear hS hD hW a w;replace a6 := a6.mono hJ1;replace b3 := fun i hi => (b3 i hi).mono hJ1
 obtain ⟨a1, a2, a5, c0⟩ := a3.shape; subst a5;refine rqr ?_;refine sp 1 [(28, .bool (cmp .lss (↑j) (↑(xss.length))))] ?_;refine se (rq ?_);refine rc 28 rfl (fun h3 => ?_) (fun h3 => ?_)
 ·
  have c3 := h3;have h3 := lss_t h3;refine rskip (pst_next (rq (rb 3 (rqr ?_))));refine sd (di 29 1 (j) a6.addr) ?_;have a8 := b3 (j) (by omega);obtain ⟨b7, b8, e2, e5, b9, e3, e4, e6⟩ := id a8;rw [b9] at a8;refine sd (det_eq (dl 30 (rows_get a6 (j) (by omega))) b9) ?_;refine sp 1 [(8, .slice b7 (xss.getD (j) []).length b8)] ?_;refine se (rr ?_);refine sp 2 [(32, .slice b7 (xss.getD (j) []).length b8), (31, .slice a1 ((xss.take j).flatten).length a2)] ?_;refine sS (stp_append (d := 33) (x := (.tmp 31)) (y := (.tmp 32)) (T := 23) (T' := 23) (E := 3) (E' := 3) (sz := 1) (bs := 8) (z := .int .i64 (0)) (cell := intCell) (xs := (xss.take j).flatten) (ys := xss.getD (j) []) (Ms := a0) (ty := 23) (gd := none) (by kernel_rfl) rfl (by kernel_rfl) (by kernel_rfl) (by kernel_rfl) (by kernel_rfl) (by kernel_rfl) (by decide) (by kernel_rfl) rfl rfl (a3) (PR _) (one_intCell _) a8.src (by first | omega | (have hq := flat_le xss j (by omega); omega)) (fun v9 d2 c9 => ?_));refine nm ?_;obtain ⟨d0, d1, d6, f0⟩ := c9.shape;subst d6;refine sp 1 [(6, .slice d0 (((xss.take j).flatten) ++ (xss.getD (j) [])).length d1)] ?_;refine ee (pst_normal_block (pst_next (rr ?_)));refine sd (da 34 (↑j) (1)) ?_;refine sp 1 [(27, .int .i64 (↑j + 1))] ?_;refine ee ?_;refine pst_back (xss.length - (j+1)) (by omega) ?_;intro a w hS hD hW;exact ⟨J1, j+1, .slice d0 (((xss.take j).flatten) ++ (xss.getD (j) [])).length d1, d2, hJ1, by omega, ((flat_take (xss := xss) (k := j) (by omega)).symm ▸ c9), hS.sub (.consE 6 rfl rfl (.consE 27 rfl rfl (.cons 2 rfl (.cons 25 rfl (.cons 26 rfl (.nil _)))))), hD, hW, rfl⟩
 have c3 := h3;have h3 := lss_f h3;refine rexit 2 ?_;refine (pst_exit_pass (pst_exit_pass (pst_exit_block ?_)));refine pst_next (rqr ?_);refine sp 2 [(2, .slice a1 ((xss.take j).flatten).length a2)] ?_;refine se (rret ?_);refine pst_ret1 (t := 2) (a0) (by kernel_rfl) rfl (TA (TR _) _) (Imm.le.trans a7 hJ1) ?_;exact ⟨_, _, rfl, rfl, ((show (xss.take j).flatten = xss.flatten from by rw [take_done (by omega)]) ▸ a3)⟩

end Go.Proofs.YtcaocbhbofejnaaGreatDoor
namespace Go.Proofs.YtcaocbhbofejnaaGreatDoor
open Go Go.Sl Go.Sh
set_option maxRecDepth 100000
def GrowAt (n : Nat) : Prop := ∀ (I : Imm) (bg : Value) (begun : List Int) (r : Nat) (es : Array MapEntry) (cl : Nat) (us : List Int) (b2 b3 b4 : Nat) (blv : Value) (bl : List (List Int)) (ov : Value) (ows : List Value) (oMs : Seg) (os : List (List Int)) (hb2 : I.blk b2 = some (Obj.cells #[blv] 24 (0, 0))) (hb4 : I.blk b4 = some (Obj.cells #[.func (.func 101) #[] #[.pointer (some ⟨b2, 0, none⟩), .pointer (some ⟨b3, 0, none⟩), .pointer (some ⟨b4, 0, none⟩)]] 132 (0, 0))) (blv_f : IsRows I blv bl) (bg_f : IsInts I bg begun) (his : MapIs encI es (trues us)) (oo : Own 23 1 valCell ov ows oMs) (orr : RowsV I ows os) (hn : us.length + n = bl.length) (hb5 : bl.length ≤ 5) (hbl : ∀ b ∈ bl, b.length ≤ 5) (hbb : begun.length ≤ 5 * us.length) (hos : os.length + (growM bl n begun us).length ≤ 1000000), Ct Tryz.prog 101 #[bg, .map (some r), .pointer (some ⟨b2, 0, none⟩), .pointer (some ⟨b3, 0, none⟩), .pointer (some ⟨b4, 0, none⟩)] I ((r, Obj.map es cl) :: (b3, Obj.cells #[ov] 24 (0, 0)) :: oMs) (fun v I' M' => ∃ (es' : Array MapEntry) (cl' : Nat) (ov' : Value) (ows' : List Value) (oMs' : Seg), v = .tuple #[] ∧ M' = (r, Obj.map es' cl') :: (b3, Obj.cells #[ov'] 24 (0, 0)) :: oMs' ∧ MapIs encI es' (trues us) ∧ Own 23 1 valCell ov' ows' oMs' ∧ RowsV I' ows' (os ++ growM bl n begun us))
noncomputable def c_Warm1 (p : List Nat) : Code := sub (bodyOf Tryz.f101) p
set_option maxHeartbeats 1000000 in
theorem grow_of (n : Nat) (ihn : ∀ m, m + 1 = n → GrowAt m) (I : Imm) (bg : Value) (begun : List Int) (r : Nat) (es : Array MapEntry) (cl : Nat) (us : List Int) (b2 b3 b4 : Nat) (blv : Value) (bl : List (List Int)) (ov : Value) (ows : List Value) (oMs : Seg) (os : List (List Int)) (hb2 : I.blk b2 = some (Obj.cells #[blv] 24 (0, 0))) (hb4 : I.blk b4 = some (Obj.cells #[.func (.func 101) #[] #[.pointer (some ⟨b2, 0, none⟩), .pointer (some ⟨b3, 0, none⟩), .pointer (some ⟨b4, 0, none⟩)]] 132 (0, 0))) (blv_f : IsRows I blv bl) (bg_f : IsInts I bg begun) (his : MapIs encI es (trues us)) (oo : Own 23 1 valCell ov ows oMs) (orr : RowsV I ows os) (hn : us.length + n = bl.length) (hb5 : bl.length ≤ 5) (hbl : ∀ b ∈ bl, b.length ≤ 5) (hbb : begun.length ≤ 5 * us.length) (hos : os.length + (growM bl n begun us).length ≤ 1000000) : Ct Tryz.prog 101 #[bg, .map (some r), .pointer (some ⟨b2, 0, none⟩), .pointer (some ⟨b3, 0, none⟩), .pointer (some ⟨b4, 0, none⟩)] I ((r, Obj.map es cl) :: (b3, Obj.cells #[ov] 24 (0, 0)) :: oMs) (fun v I' M' => ∃ (es' : Array MapEntry) (cl' : Nat) (ov' : Value) (ows' : List Value) (oMs' : Seg), v = .tuple #[] ∧ M' = (r, Obj.map es' cl') :: (b3, Obj.cells #[ov'] 24 (0, 0)) :: oMs' ∧ MapIs encI es' (trues us) ∧ Own 23 1 valCell ov' ows' oMs' ∧ RowsV I' ows' (os ++ growM bl n begun us)) := by
 obtain ⟨a0, a1, l9, m2, g1, m0, m1, m3⟩ := id bg_f;subst g1;obtain ⟨c1, c2, k4, k7, g2, e2, k5, k6, a9, c3⟩ := id blv_f;subst e2;obtain ⟨d1, d2, k2, n0⟩ := oo.shape; subst k2;have b5 := orr.1
 try simp only [LS, LA, LC, LN, LK] at b5
 refine fr (args := [_, _, _, _, _]) (N := 40) Tryz.func101 (fun F => ?_);show Run _ _ (c_Warm1 []) _ _ [(0, .slice a0 begun.length a1), (1, .map (some r)), (2, .pointer (some ⟨b2, 0, none⟩)), (3, .pointer (some ⟨b3, 0, none⟩)), (4, .pointer (some ⟨b4, 0, none⟩))] _ _;refine run_mem (M' := ((r, Obj.map es cl) :: (b3, Obj.cells #[.slice d1 ows.length d2] 24 (0, 0)) :: (oMs ++ F))) (fun w h => by simpa only [AA, CA, NA] using h) ?_;refine rnm (rq (rqr ?_));refine sp 1 [(9, .map (some r))] ?_;refine sd (det_eq (det_len_map (x := (.tmp 9)) (T := 133) (K := 3) (E := 4) (d := 10) (ty := 3) (gd := none) (by kernel_rfl) rfl (by kernel_rfl) rfl (.inl (List.mem_of_getElem? (i := 0) rfl))) (congrArg (fun n : Nat => Value.int .i64 ↑n) ((MapIs.size his).trans (trues_length _)))) ?_;refine sd (det_load (v := .slice c1 bl.length c2) (x := (.tmp 2)) (T := 24) (d := 11) (ty := 24) (gd := none) (by kernel_rfl) rfl (by kernel_rfl) rfl (sees_held hb2 rfl)) ?_;refine sp 2 [(13, .bool (cmp .eql (↑(us.length)) (↑(bl.length))))] ?_;refine se ?_;refine rc 13 rfl (fun h1 => ?_) (fun h1 => ?_)
 ·
  have j2 := h1;have h1 := eql_t h1;have l3 : n = 0 := by omega
  refine rqr ?_;refine sd (dlb 14 1 0 b3 (.slice d1 ows.length d2)) ?_;refine sp 1 [(15, .slice a0 begun.length a1)] ?_;refine sS (sbs 16 23 1 #[.slice a0 begun.length a1] (fun b1 => ?_));refine sS (stp_append (d := 17) (x := (.tmp 14)) (y := (.tmp 16)) (T := 24) (T' := 24) (E := 23) (E' := 23) (sz := 1) (bs := 24) (z := .slice none 0 0) (cell := valCell) (xs := ows) (ys := [(.slice a0 begun.length a1 : Value)]) (Ms := oMs) (ty := 24) (gd := none) (by kernel_rfl) rfl (by kernel_rfl) (by kernel_rfl) (by kernel_rfl) (by kernel_rfl) (by kernel_rfl) (by decide) (by kernel_rfl) rfl rfl (oo) ((PC _ ((PC _ (PM.symm)).trans (PM.symm))).trans (PM.symm)) (one_valCell rfl) (src_atS 0 rfl rfl) (by first | omega | (have hq := b5; have o3 : (growM bl n begun us).length = 1 := (by rw [l3]; rfl); simp only [LC, LN]; omega)) (fun v3 k3 l4 => ?_));refine seq_mem (M' := ((r, Obj.map es cl) :: (b3, Obj.cells #[.slice d1 ows.length d2] 24 (0, 0)) :: (k3 ++ F))) (fun w h => (h.perm (List.perm_middle.trans (PC _ (List.perm_middle.trans (PC _ PM))))).sub (TC _ (TR _))) ?_;obtain ⟨j8, j9, m9, o4⟩ := l4.shape;subst m9;have k0 := (orr).snoc bg_f;refine sS (ss 1 0 b3 [.slice j8 (ows ++ ([(.slice a0 begun.length a1 : Value)])).length j9] [.slice j8 (ows ++ ([(.slice a0 begun.length a1 : Value)])).length j9] (_ :: _ :: _) (cs := [_]) rfl rfl ?_);refine se (rret ?_);refine (pst_ret_pass ?_);refine pst_ret0 ([(r, Obj.map es cl)] ++ ([(b3, Obj.cells #[.slice j8 (ows ++ ([(.slice a0 begun.length a1 : Value)])).length j9] 24 (0, 0))] ++ (k3))) (by kernel_rfl) (by simp only [AA, NA, CA]; exact (TK _ (TK _ (TA (TR _) _)))) (Imm.le.refl _) ?_;exact ⟨_, _, _, _, _, rfl, rfl, his, l4, (show os ++ [begun] = os ++ growM bl n begun us from by rw [l3]; rfl) ▸ k0⟩
 have j2 := h1;have h1 := eql_f h1;obtain ⟨m, hnm⟩ : ∃ m, n = m + 1 := ⟨n - 1, by omega⟩;have ih := ihn m (by omega);refine rskip (pst_next (rqr ?_));refine sd (det_load (v := .slice c1 bl.length c2) (x := (.tmp 2)) (T := 24) (d := 18) (ty := 24) (gd := none) (by kernel_rfl) rfl (by kernel_rfl) rfl (sees_held hb2 rfl)) ?_;refine sp 2 [(20, .int .i64 (0)), (19, .int .i64 (↑(bl.length)))] ?_;refine se (rb 0 ?_);refine rl (fun mz a w => ∃ J0 : Imm, ∃ k : Nat, ∃ e0 : List (List Int), ∃ k1 : Value, ∃ a2 : List Value, ∃ b6 : Seg, ∃ e3 : Array MapEntry, ∃ f7 : Nat, (I.le J0) ∧ (k ≤ bl.length) ∧ (os ++ growM bl n begun us = e0 ++ growFrom bl (growM bl m) begun us k) ∧ (MapIs encI e3 (trues us)) ∧ (Own 23 1 valCell k1 a2 b6) ∧ (RowsV J0 a2 e0) ∧ Slots 40 [(20, .int .i64 ↑k), (0, .slice a0 begun.length a1), (1, .map (some r)), (4, .pointer (some ⟨b4, 0, none⟩)), (18, .slice c1 bl.length c2), (19, .int .i64 (↑(bl.length)))] a ∧ a.defers = [] ∧ St J0 ((r, Obj.map e3 f7) :: (b3, Obj.cells #[k1] 24 (0, 0)) :: (b6 ++ F)) w ∧ mz = bl.length - k) ?_ ?_
 ·intro a w hS hD hW;exact ⟨_, I, 0, os, .slice d1 ows.length d2, ows, oMs, es, cl, Imm.le.refl _, Nat.zero_le _, by rw [hnm]; rfl, his, oo, orr, hS.sub (.cons 20 rfl (.cons 0 rfl (.cons 1 rfl (.cons 4 rfl (.cons 18 rfl (.cons 19 rfl (.nil _))))))), hD, hW, rfl⟩
 rintro mz a w ⟨J0, k, e0, k1, a2, b6, e3, f7, hJ0, hk, hr, c9, f9, c0, hS, hD, hW, rfl⟩
 refine run_at hS hD hW ?_;clear hS hD hW a w;replace hb2 := hJ0.blk _ _ hb2;replace hb4 := hJ0.blk _ _ hb4;replace bg_f := bg_f.mono hJ0;replace blv_f := blv_f.mono hJ0;replace a9 := a9.mono hJ0;replace c3 := fun i hi => (c3 i hi).mono hJ0
 obtain ⟨a6, a7, j7, m8⟩ := f9.shape; subst j7;have d0 := c0.1
 try simp only [LS, LA, LC, LN, LK] at d0
 refine rqr ?_;refine sp 1 [(21, .bool (cmp .lss (↑k) (↑(bl.length))))] ?_;refine se (rq ?_);refine rc 21 rfl (fun h2 => ?_) (fun h2 => ?_)
 ·
  have j3 := h2;have h2 := lss_t h2;refine rskip (pst_next (rq (rb 1 (rqr ?_))));refine sp 1 [(22, .int .i64 (↑k))] ?_;refine sd (di 23 1 (k) a9.addr) ?_;have e1 := c3 (k) (by omega);obtain ⟨b8, b9, n1, n4, f3, n2, n3, n5⟩ := id e1;rw [f3] at e1;refine sd (det_eq (dl 24 (rows_get a9 (k) (by omega))) f3) ?_;refine sp 2 [(8, .slice b8 (bl.getD (k) []).length b9), (7, .int .i64 (↑k))] ?_;refine se (rq (rqr ?_));refine sp 2 [(26, .int .i64 (↑k)), (25, .map (some r))] ?_;refine sd (det_lookup (x := (.tmp 25)) (y := (.tmp 26)) (T := 133) (kt := 3) (et := 4) (k := (↑k : Int)) (kvs := trues (us)) (z := .bool false) (d := 27) (ty := 4) (gd := none) (by kernel_rfl) rfl (by kernel_rfl) (keyOk_int (tyI64_spec (by kernel_rfl))) rfl rfl (by kernel_rfl) (.inl (List.mem_of_getElem? (i := 0) rfl)) c9 (getKv_trues _ _)) ?_;refine se ?_;refine rc 27 rfl (fun h3 => ?_) (fun h3 => ?_)
  ·
   have j4 := h3;have h3 := dec_t h3;refine rexit 1 ?_;refine (pst_exit_pass (pst_exit_block ?_));refine pst_next (rr ?_);refine sd (da 39 (↑k) (1)) ?_;refine sp 1 [(20, .int .i64 (↑k + 1))] ?_;refine ee ?_;refine pst_back (bl.length - (k+1)) (by omega) ?_;intro a w hS hD hW;exact ⟨J0, k+1, e0, (.slice a6 a2.length a7), a2, b6, e3, f7, hJ0, by omega, hr.trans (by rw [growFrom_skip (by omega) h3]), c9, f9, c0, hS.sub (.consE 20 rfl rfl (.cons 0 rfl (.cons 1 rfl (.cons 4 rfl (.cons 18 rfl (.cons 19 rfl (.nil _))))))), hD, hW, rfl⟩
  have j4 := h3;have h3 := dec_f h3;refine rskip (pst_next (rqr ?_));refine sp 2 [(29, .int .i64 (↑k)), (28, .map (some r))] ?_;refine sS (stp_mapUpdate (x := (.tmp 28)) (y := (.tmp 29)) (u := (.const (.bool true))) (T := 133) (kt := 3) (et := 4) (k := (↑k : Int)) (kvs := trues (us)) 0 (ty := 0) (gd := none) (by kernel_rfl) rfl (by kernel_rfl) (keyOk_int (tyI64_spec (by kernel_rfl))) rfl rfl rfl rfl c9 (fun d4 d3 d9 => ?_));rw [upd_trues] at d9;rw [if_neg h3] at d9;refine nm (se (rq ?_));have l1 := hbl _ (getD_mem (d := []) (xs := bl) (k := k) (by omega));have o2 : [begun, bl.getD (k) []].flatten.length ≤ 1000000 := by simp only [List.flatten_cons, List.flatten_nil, LA, LN]; omega
  refine rd 6 [(0, true), (1, true), (2, true), (5, true), (3, false), (4, false)] ((r, Obj.map d4 d3) :: (b3, Obj.cells #[.slice a6 a2.length a7] 24 (0, 0)) :: []) ((b6 ++ F)) ?_;refine ofp_det (det_load (v := .func (.func 101) #[] #[.pointer (some ⟨b2, 0, none⟩), .pointer (some ⟨b3, 0, none⟩), .pointer (some ⟨b4, 0, none⟩)]) (x := (.tmp 4)) (T := 132) (d := 30) (ty := 132) (gd := none) (by kernel_rfl) rfl (by kernel_rfl) rfl (sees_held hb4 rfl)) ?_;refine ox 3 [(35, .map (some r)), (32, .slice b8 (bl.getD (k) []).length b9), (31, .slice a0 begun.length a1)] ?_;refine ofp_stpH (sbs 33 23 2 #[.slice a0 begun.length a1, .slice b8 (bl.getD (k) []).length b9] (fun b7 => ?_));refine hk_mem (M' := ((r, Obj.map d4 d3) :: (b3, Obj.cells #[.slice a6 a2.length a7] 24 (0, 0)) :: ([(b7, Obj.cells #[.slice a0 begun.length a1, .slice b8 (bl.getD (k) []).length b9] 23 (0, 0))] ++ (b6 ++ F)))) (fun w h => h.perm ((PS _ _ _).trans (PC _ (PS _ _ _)))) ?_;have m7 : Own 23 1 valCell (.slice (some ⟨b7, 0, none⟩) 2 2) ([(.slice a0 begun.length a1 : Value), (.slice b8 (bl.getD (k) []).length b9 : Value)] : List Value) [(b7, Obj.cells #[.slice a0 begun.length a1, .slice b8 (bl.getD (k) []).length b9] 23 (0, 0))] := Own.lit rfl rfl;have a8 := (((RowsV.nil J0).snoc bg_f).snoc e1);simp only [NA, CA] at a8;refine hk_freeze (B := ((r, Obj.map d4 d3) :: (b3, Obj.cells #[.slice a6 a2.length a7] 24 (0, 0)) :: (b6 ++ F))) undef m7 (by first | omega | (simp only [LS, LC, LN, LA, LK, LD] <;> omega) | decide) ((PC _ (PM.symm)).trans (PM.symm)) (PR _) (fun l6 a3 c5 => ?_);replace hb2 := a3.blk _ _ hb2;replace hb4 := a3.blk _ _ hb4;replace blv_f := blv_f.mono a3;replace c0 := c0.mono a3;replace a8 := a8.mono a3;obtain ⟨h6, h8, h7, i1, d6, h9, i0, i2⟩ := id c5;cases d6;have c4 := a8.isRows c5;have e4 := a8.1;obtain ⟨g5, g7, g6, h0, f8, d5, g8, g9, h4, h5⟩ := id c4
  injection d5 with fr14_e1 fr14_e2 fr14_e3; subst fr14_e1; subst fr14_e3
  refine hk_done ?_;refine ofp_settle (S' := ((b6 ++ F))) (PR _) ?_;have e7 := Concat_ct l6 _ _ c4 (by have l1 := hbl _ (getD_mem (d := []) (xs := bl) (k := k) (by omega)); simp only [List.flatten_cons, List.flatten_nil, LA, LN]; omega);refine ofp_stpH (sc (some 34) (F := ((r, Obj.map d4 d3) :: (b3, Obj.cells #[.slice a6 a2.length a7] 24 (0, 0)) :: (b6 ++ F))) (e7 :) (PR _) (fun n8 o0 n6 a4 j5 => ?_));obtain ⟨o5, g0, f1, f0, f2⟩ := j5;rw [f1, f0]; clear f1 f0;replace hb2 := a4.blk _ _ hb2;replace hb4 := a4.blk _ _ hb4;replace blv_f := blv_f.mono a4;replace c0 := c0.mono a4;obtain ⟨f4, f5, f6, l5⟩ := f2.shape;subst f6;refine hk_mem (M' := ((g0 ++ (r, Obj.map d4 d3) :: (b3, Obj.cells #[.slice a6 a2.length a7] 24 (0, 0)) :: (b6 ++ F)))) (fun w h => by simpa only [AA, CA, NA] using h) ?_;refine hk_freeze (B := ((r, Obj.map d4 d3) :: (b3, Obj.cells #[.slice a6 a2.length a7] 24 (0, 0)) :: (b6 ++ F))) 0 f2 (by first | omega | (simp only [LS, LC, LN, LA, LK, LD] <;> omega) | decide) (PR _) (PR _) (fun l7 a5 c6 => ?_);replace hb2 := a5.blk _ _ hb2;replace hb4 := a5.blk _ _ hb4;replace blv_f := blv_f.mono a5;replace c0 := c0.mono a5;obtain ⟨i3, i5, i4, i8, d7, i6, i7, i9⟩ := id c6;cases d7;refine hk_done ?_;refine ofp_settle (S' := ((b6 ++ F))) (PR _) ?_;show OFP _ _ _ _ _ _ ((34, .slice f4 (([begun, bl.getD (k) []]).flatten).length f5) :: _) _ _;refine ofp_end ?_;refine nm (nm ?_);have e9 := congrArg List.length hr;rw [growFrom_go (by omega) h3] at e9; simp only [LA] at e9;have l1 := hbl _ (getD_mem (d := []) (xs := bl) (k := k) (by omega));have e8 := ih l7 _ (([begun, bl.getD (k) []]).flatten) r d4 d3 (us ++ [(k : Int)]) b2 b3 b4 _ bl _ _ _ e0 hb2 hb4 blv_f c6 d9 f9 c0 (by simp only [LA, LC, LN]; omega) hb5 hbl (by simp only [LA, LC, LN, List.flatten_cons, List.flatten_nil]; omega) (by simp only [List.flatten_cons, List.flatten_nil, List.append_nil]; omega);refine sS (stp_call (d := (some 36)) (f := (.tmp 30)) (fid := 101) (args := #[(.tmp 34), (.tmp 35)]) (tys := #[23, 133]) (cv := [.pointer (some ⟨b2, 0, none⟩), .pointer (some ⟨b3, 0, none⟩), .pointer (some ⟨b4, 0, none⟩)]) (F := (F)) (ty := 0) (gd := none) (by kernel_rfl) rfl rfl rfl (by kernel_rfl) rfl e8 (by simpa only [AA, CA, NA] using (PR _)) (fun n9 l8 n7 b0 j6 => ?_));obtain ⟨m5, m4, o1, d8, k8, rfl, l2, j0, k9, l0⟩ := j6;replace hb2 := b0.blk _ _ hb2;replace hb4 := b0.blk _ _ hb4;replace c0 := c0.mono b0;rw [l2]; clear l2;obtain ⟨e5, e6, j1, m6⟩ := k9.shape; subst j1;have c8 := l0.1
  try simp only [LS, LA, LC, LN, LK] at c8
  refine seq_mem (M' := ((r, Obj.map m5 m4) :: (b3, Obj.cells #[.slice e5 d8.length e6] 24 (0, 0)) :: (k8 ++ F))) (fun w h => by simpa only [AA, CA, NA] using h) ?_;refine nm ?_;show Seq _ _ _ _ _ _ ((36, .tuple #[]) :: _) _ _;refine se (rr ?_);refine sp 2 [(38, .int .i64 (↑k)), (37, .map (some r))] ?_;refine sS (stp_delete (x := (.tmp 37)) (y := (.tmp 38)) (T := 133) (T' := 3) (kt := 3) (et := 4) (k := (↑k : Int)) (kvs := trues (us ++ [(k : Int)])) 0 (ty := 0) (gd := none) (by kernel_rfl) rfl (by kernel_rfl) (keyOk_int (tyI64_spec (by kernel_rfl))) rfl rfl rfl j0 (fun g4 g3 c7 => ?_));rw [del_trues] at c7;rw [erase_snoc h3] at c7;refine nm (ee (pst_normal_block (pst_next (rr ?_))));refine sd (da 39 (↑k) (1)) ?_;refine sp 1 [(20, .int .i64 (↑k + 1))] ?_;refine ee ?_;refine pst_back (bl.length - (k+1)) (by omega) ?_;intro a w hS hD hW;exact ⟨l8, k+1, e0 ++ growM bl m (([begun, bl.getD (k) []]).flatten) (us ++ [(k : Int)]), (.slice e5 d8.length e6), d8, k8, g4, g3, (Imm.le.trans (Imm.le.trans (Imm.le.trans (Imm.le.trans hJ0 a3) a4) a5) b0), by omega, hr.trans (by rw [growFrom_go (by omega) h3]; simp only [List.flatten_cons, List.flatten_nil, List.append_nil, AA]), c7, k9, l0, hS.sub (.consE 20 rfl rfl (.cons 0 rfl (.cons 1 rfl (.cons 4 rfl (.cons 18 rfl (.cons 19 rfl (.nil _))))))), hD, hW, rfl⟩
 have j3 := h2;have h2 := lss_f h2;refine rexit 0 ?_;refine (pst_exit_pass (pst_exit_pass (pst_exit_block ?_)));refine pst_end0 ([(r, Obj.map e3 f7)] ++ ([(b3, Obj.cells #[.slice a6 a2.length a7] 24 (0, 0))] ++ (b6))) (by kernel_rfl) (by simp only [AA, NA, CA]; exact (TK _ (TK _ (TA (TR _) _)))) hJ0 ?_;exact ⟨_, _, _, _, _, rfl, rfl, c9, f9, (show e0 = os ++ growM bl n begun us from (hr.trans (by rw [growFrom_done (by omega), List.append_nil])).symm) ▸ c0⟩

theorem grow_all (n : Nat) : GrowAt n := by
 induction n with
 | zero => intro I bg begun r es cl us b2 b3 b4 blv bl ov ows oMs os hb2 hb4 blv_f bg_f his oo orr hn hb5 hbl hbb hos; exact grow_of 0 (fun m h => by omega) I bg begun r es cl us b2 b3 b4 blv bl ov ows oMs os hb2 hb4 blv_f bg_f his oo orr hn hb5 hbl hbb hos
 | succ n ih => intro I bg begun r es cl us b2 b3 b4 blv bl ov ows oMs os hb2 hb4 blv_f bg_f his oo orr hn hb5 hbl hbb hos; exact grow_of (n + 1) (fun m h => (show n = m by omega) ▸ ih) I bg begun r es cl us b2 b3 b4 blv bl ov ows oMs os hb2 hb4 blv_f bg_f his oo orr hn hb5 hbl hbb hos
end Go.Proofs.YtcaocbhbofejnaaGreatDoor
namespace Go.Proofs.YtcaocbhbofejnaaGreatDoor
open Go Go.Sl Go.Sh
set_option maxRecDepth 100000
noncomputable def c_Warm2 (p : List Nat) : Code := sub (bodyOf Tryz.f104) p
theorem Warm2_ct (I : Imm) (lv : Value) (l : List Int) (yb : Nat) (v1 v2 v3 : Value) (Y : Yard) (hyb : I.blk yb = some (Obj.cells #[v1, v2, v3] 26 (0, 0))) (v1_f : IsCars I v1 Y.cars) (v2_f : IsInts I v2 Y.room) (v3_f : IsRows I v3 Y.tracks) (lv_f : IsInts I lv l) (ho : Ok Y.cars l) (hl : l.length ≤ 1000000) : CtV Tryz.prog 104 #[lv, .pointer (some ⟨yb, 0, none⟩)] I (.int .i64 ↑(coldOf Y.cars l).length) := by
 obtain ⟨a5, a6, c8, d1, a7, c9, d0, d2⟩ := id v1_f;subst a7;obtain ⟨a8, a9, d3, d6, b0, d4, d5, d7⟩ := id v2_f;subst b0;obtain ⟨b1, b2, d8, e1, b6, b3, d9, e0, e2, e3⟩ := id v3_f;subst b3;obtain ⟨a1, a2, b8, c1, a3, b9, c0, c2⟩ := id lv_f;subst a3;refine fr (args := [_, _]) (N := 8) Tryz.func104 (fun F => ?_);show Run _ _ (c_Warm2 []) _ _ [(0, .slice a1 l.length a2), (1, .pointer (some ⟨yb, 0, none⟩))] _ _;refine rnm (rqr ?_);refine sp 1 [(3, .int .i64 (0))] ?_;refine sn ?_;refine sd (det_loadN (x := (.tmp 1)) (T := 26) (n := 3) (vs := [.slice a5 Y.cars.length a6, .slice a8 Y.room.length a9, .slice b1 Y.tracks.length b2]) (d := 4) (ty := 26) (gd := none) (by kernel_rfl) rfl (by kernel_rfl) (by kernel_rfl) rfl rfl (seesN_held (n := 3) hyb rfl)) ?_;refine sp 1 [(5, .slice a1 l.length a2)] ?_;refine sS (sc (some 6) (cold_ct _ _ (Y) _ _ (mkYard v1_f v2_f v3_f) lv_f (by exact ho) (by exact hl) :) (.refl _) (fun e5 I1 c4 a0 b7 => ?_));obtain ⟨u6, e4, b5, b4, c3⟩ := b7;rw [b5, b4]; clear b5 b4;replace hyb := a0.blk _ _ hyb;obtain ⟨c5, c6, a4, c7⟩ := c3.shape;subst a4;refine nm ?_;refine sp 2 [(3, .int .i64 (↑((coldOf Y.cars l).length)))] ?_;refine se (rret ?_);refine pst_ret1 (t := 3) [] (by kernel_rfl) rfl (TT (TR _) (TB _ _)) a0 ?_;exact ⟨rfl, rfl⟩

noncomputable def c_least1 (p : List Nat) : Code := sub (bodyOf Tryz.f142) p
theorem least1_ct (I : Imm) (av bv : Value) (xs ys : List Int) (yb : Nat) (v1 v2 v3 : Value) (Y : Yard) (hyb : I.blk yb = some (Obj.cells #[v1, v2, v3] 26 (0, 0))) (v1_f : IsCars I v1 Y.cars) (v2_f : IsInts I v2 Y.room) (v3_f : IsRows I v3 Y.tracks) (nb2 nb3 : Nat) (hnb2 : I.blk nb2 = some (Obj.cells #[.func (.func 104) #[] #[.pointer (some ⟨yb, 0, none⟩)]] 137 (0, 0))) (hnb3 : I.blk nb3 = some (Obj.cells #[.func (.func 106) #[] #[]] 138 (0, 0))) (av_f : IsInts I av xs) (bv_f : IsInts I bv ys) (hox : Ok Y.cars xs) (hoy : Ok Y.cars ys) (hlx : xs.length ≤ 1000000) (hly : ys.length ≤ 1000000) : CtV Tryz.prog 142 #[av, bv, .pointer (some ⟨nb2, 0, none⟩), .pointer (some ⟨nb3, 0, none⟩)] I (.int .i64 (warmCmp Y.cars xs ys)) := by
 obtain ⟨c1, c3, c2, c6, a7, c4, c5, c7⟩ := id v1_f;subst a7;obtain ⟨c8, d0, c9, d3, a8, d1, d2, d4⟩ := id v2_f;subst a8;obtain ⟨d5, d7, d6, e0, b0, a9, d8, d9, e1, e2⟩ := id v3_f;subst a9;obtain ⟨a0, a1, b1, b4, a4, b2, b3, b5⟩ := id av_f;obtain ⟨a2, a3, b6, b9, a5, b7, b8, c0⟩ := id bv_f;subst a4; subst a5;refine fr (args := [_, _, _, _]) (N := 22) Tryz.func142 (fun F => ?_);show Run _ _ (c_least1 []) _ _ [(0, .slice a0 xs.length a1), (1, .slice a2 ys.length a3), (2, .pointer (some ⟨nb2, 0, none⟩)), (3, .pointer (some ⟨nb3, 0, none⟩))] _ _;refine rnm (rqr ?_);refine sp 1 [(6, .int .i64 (0))] ?_;refine se (rq (rq ?_));refine rd0 5 ?_;refine ofp_det (det_load (v := .func (.func 104) #[] #[.pointer (some ⟨yb, 0, none⟩)]) (x := (.tmp 2)) (T := 137) (d := 8) (ty := 137) (gd := none) (by kernel_rfl) rfl (by kernel_rfl) rfl (sees_held hnb2 rfl)) ?_;refine ox 1 [(9, .slice a0 xs.length a1)] ?_;refine ofp_det (dc 10 (fun I' hI => Warm2_ct I' _ _ yb _ _ _ Y (hI.blk _ _ hyb) (v1_f.mono hI) (v2_f.mono hI) (v3_f.mono hI) (av_f.mono hI) (by first | exact hox | exact hoy) (by omega))) ?_;refine ofp_det (det_load (v := .func (.func 104) #[] #[.pointer (some ⟨yb, 0, none⟩)]) (x := (.tmp 2)) (T := 137) (d := 11) (ty := 137) (gd := none) (by kernel_rfl) rfl (by kernel_rfl) rfl (sees_held hnb2 rfl)) ?_;refine ox 1 [(12, .slice a2 ys.length a3)] ?_;refine ofp_end0 ?_;refine sd (dc 13 (fun I' hI => Warm2_ct I' _ _ yb _ _ _ Y (hI.blk _ _ hyb) (v1_f.mono hI) (v2_f.mono hI) (v3_f.mono hI) (bv_f.mono hI) (by first | exact hox | exact hoy) (by omega))) ?_;refine sd (dsb 14 (↑(coldOf Y.cars xs).length) (↑(coldOf Y.cars ys).length) (hr := by have q1 := coldOf_le Y.cars xs; have q2 := coldOf_le Y.cars ys; omega)) ?_;refine sp 1 [(7, .int .i64 ((↑(coldOf Y.cars xs).length) - (↑(coldOf Y.cars ys).length)))] ?_;refine sn ?_;refine sp 2 [(16, .bool (!(cmp .eql ((↑(coldOf Y.cars xs).length) - (↑(coldOf Y.cars ys).length)) (0))))] ?_;refine se ?_;refine rc 16 rfl (fun h1 => ?_) (fun h1 => ?_)
 ·
  have a6 := h1;have h1 := not_t h1;have h1 := eql_f h1;refine rqr ?_;refine sp 2 [(6, .int .i64 ((↑(coldOf Y.cars xs).length) - (↑(coldOf Y.cars ys).length)))] ?_;refine se (rret ?_);refine (pst_ret_pass ?_);refine pst_ret1 (t := 6) [] (by kernel_rfl) rfl (TR _) (Imm.le.refl _) ?_;exact ⟨congrArg (Value.int .i64) (show _ = warmCmp Y.cars xs ys from (if_neg h1).symm), rfl⟩
 have a6 := h1;have h1 := not_f h1;have h1 := eql_t h1;refine rskip (pst_next (rqr ?_));refine sd (det_load (v := .func (.func 106) #[] #[]) (x := (.tmp 3)) (T := 138) (d := 18) (ty := 138) (gd := none) (by kernel_rfl) rfl (by kernel_rfl) rfl (sees_held hnb3 rfl)) ?_;refine sp 2 [(20, .slice a2 ys.length a3), (19, .slice a0 xs.length a1)] ?_;refine sd (dc 21 (fun I' hI => (cmpL_ct I' _ _ _ _ (av_f.mono hI) (bv_f.mono hI) :))) ?_;refine sp 1 [(6, .int .i64 ((cmpL xs ys)))] ?_;refine se (rret ?_);refine pst_ret1 (t := 6) [] (by kernel_rfl) rfl (TR _) (Imm.le.refl _) ?_;exact ⟨congrArg (Value.int .i64) (show _ = warmCmp Y.cars xs ys from (if_pos h1).symm), rfl⟩

noncomputable def c_MinFunc (p : List Nat) : Code := sub (bodyOf Tryz.f141) p
theorem MinFunc_ct (I : Imm) (sv : Value) (l : List (List Int)) (fid : FuncId) (cv : List Value) (f : List Int → List Int → Int) (hcl : callable Tryz.prog fid = true) (sv_f : IsRows I sv l) (hl : 0 < l.length) (hl2 : l.length ≤ 1000000) (hc : ∀ J xs ys a b, I.le J → xs ∈ l → ys ∈ l → IsInts J a xs → IsInts J b ys → CtV Tryz.prog fid (a :: b :: cv).toArray J (.int .i64 (f xs ys))) : Ct Tryz.prog 141 #[sv, .func (.func fid) #[] cv.toArray] I [] (fun v I' M' => M' = [] ∧ IsInts I' v (minF f (l.drop 1) (l.getD 0 []))) := by
 obtain ⟨a1, a2, e6, e9, c3, c1, e7, e8, a0, a9⟩ := id sv_f;subst c1;refine fr (args := [_, _]) (N := 33) Tryz.func141 (fun F => ?_);show Run _ _ (c_MinFunc []) _ _ [(0, .slice a1 l.length a2), (1, .func (.func fid) #[] cv.toArray)] _ _;refine rnm (rqr ?_);refine sp 1 [(4, .slice none 0 0)] ?_;refine se (rq (rqr ?_));refine sp 3 [(9, .bool (cmp .lss (↑(l.length)) (1)))] ?_;refine se ?_;refine rc 9 rfl (fun h1 => ?_) (fun h1 => ?_)
 ·
  have b7 := h1;have h1 := lss_t h1
  exfalso; omega
 have b7 := h1;have h1 := lss_f h1;refine rskip (pst_next (rqr ?_));refine sp 1 [(11, .slice a1 l.length a2)] ?_;refine sd (di 12 1 (0) a0.addr) ?_;have a6 := a9 (0) (by omega);obtain ⟨b0, b1, c9, d2, b2, d0, d1, d3⟩ := id a6;rw [b2] at a6;refine sd (det_eq (dl 13 (rows_get a0 (0) (by omega))) b2) ?_;refine sp 1 [(5, .slice b0 (l.getD (0) []).length b1)] ?_;refine se (rq (rqr ?_));refine sp 1 [(6, .int .i64 (1))] ?_;refine se (rb 0 ?_);refine rl (fun mz a w => ∃ k : Nat, ∃ mv : Value, ∃ mm : List Int, (1 ≤ k) ∧ (k ≤ l.length) ∧ (IsInts I mv mm) ∧ (mm ∈ l) ∧ (minF f (l.drop 1) (l.getD 0 []) = minF f (l.drop k) mm) ∧ Slots 33 [(5, mv), (6, .int .i64 (↑k)), (0, .slice a1 l.length a2), (1, .func (.func fid) #[] cv.toArray), (4, .slice none 0 0)] a ∧ a.defers = [] ∧ St I (F) w ∧ mz = l.length - k) ?_ ?_
 ·intro a w hS hD hW;exact ⟨_, 1, (.slice b0 (l.getD (0) []).length b1), l.getD 0 [], Nat.le_refl _, by omega, a6, getD_mem hl, rfl, hS.sub (.cons 5 rfl (.cons 6 rfl (.cons 0 rfl (.cons 1 rfl (.cons 4 rfl (.nil _)))))), hD, hW, rfl⟩
 rintro mz a w ⟨k, mv, mm, f0, hk, a3, c2, hr, hS, hD, hW, rfl⟩
 refine run_at hS hD hW ?_;clear hS hD hW a w;obtain ⟨a4, a5, c4, c7, c0, c5, c6, c8⟩ := id a3;subst c0;refine rq (rqr ?_);refine sp 4 [(17, .bool (cmp .lss (↑k) (↑(l.length))))] ?_;refine se ?_;refine rc 17 rfl (fun h2 => ?_) (fun h2 => ?_)
 ·
  have b8 := h2;have h2 := lss_t h2;refine rskip (pst_next (rq (rb 1 (rqr ?_))));refine sp 3 [(22, .int .i64 (↑k)), (21, .slice a1 l.length a2), (20, .func (.func fid) #[] cv.toArray)] ?_;refine sd (di 23 1 (k) a0.addr) ?_;have a7 := a9 (k) (by omega);obtain ⟨d4, d6, d5, d9, b3, d7, d8, e0⟩ := id a7;rw [b3] at a7;refine sd (det_eq (dl 24 (rows_get a0 (k) (by omega))) b3) ?_;refine sp 1 [(25, .slice a4 mm.length a5)] ?_;refine sd (det_call (f := .tmp 20) (fid := fid) (args := #[.tmp 24, .tmp 25]) (tys := #[23, 23]) (cv := cv) (v := .int .i64 (f (l.getD (k) []) mm)) (d := 26) (ty := 3) (gd := none) (by kernel_rfl) rfl rfl rfl hcl rfl (fun I' hI => hc I' _ _ _ _ hI (getD_mem (by omega)) c2 (a7.mono hI) (a3.mono hI))) ?_;refine sp 1 [(27, .bool (cmp .lss (f (l.getD (k) []) mm) (0)))] ?_;refine se ?_;refine rc 27 rfl (fun h3 => ?_) (fun h3 => ?_)
  ·
   have b9 := h3;have h3 := lss_t h3;refine rr ?_;refine sp 2 [(29, .int .i64 (↑k)), (28, .slice a1 l.length a2)] ?_;refine sd (di 30 1 (k) a0.addr) ?_;have a8 := a9 (k) (by omega);obtain ⟨b4, b5, e1, e4, b6, e2, e3, e5⟩ := id a8;rw [b6] at a8;refine sd (det_eq (dl 31 (rows_get a0 (k) (by omega))) b6) ?_;refine sp 1 [(5, .slice b4 (l.getD (k) []).length b5)] ?_;refine ee (pst_normal_block (pst_next (rr ?_)));refine sp 1 [(18, .int .i64 (↑k))] ?_;refine sd (da 19 (↑k) (1)) ?_;refine sp 1 [(6, .int .i64 (↑k + 1))] ?_;refine ee ?_;refine pst_back (l.length - (k+1)) (by omega) ?_;intro a w hS hD hW;exact ⟨k+1, (.slice b4 (l.getD (k) []).length b5), l.getD (k) [], by omega, by omega, a8, getD_mem (by omega), hr.trans (minF_take (by omega) h3), hS.sub (.consE 5 rfl rfl (.consE 6 rfl rfl (.cons 0 rfl (.cons 1 rfl (.cons 4 rfl (.nil _)))))), hD, hW, rfl⟩
  have b9 := h3;have h3 := lss_f h3;refine rskip (pst_normal_block (pst_next (rr ?_)));refine sp 1 [(18, .int .i64 (↑k))] ?_;refine sd (da 19 (↑k) (1)) ?_;refine sp 1 [(6, .int .i64 (↑k + 1))] ?_;refine ee ?_;refine pst_back (l.length - (k+1)) (by omega) ?_;intro a w hS hD hW;exact ⟨k+1, (.slice a4 mm.length a5), mm, by omega, by omega, a3, c2, hr.trans (minF_leave (by omega) (by omega)), hS.sub (.consE 5 rfl rfl (.consE 6 rfl rfl (.cons 0 rfl (.cons 1 rfl (.cons 4 rfl (.nil _)))))), hD, hW, rfl⟩
 have b8 := h2;have h2 := lss_f h2;refine rexit 0 ?_;refine (pst_exit_pass (pst_exit_pass (pst_exit_block ?_)));refine pst_next (rqr ?_);refine sp 2 [(4, .slice a4 mm.length a5)] ?_;refine se (rret ?_);refine pst_ret1 (t := 4) [] (by kernel_rfl) rfl (TR _) (Imm.le.refl _) ?_;exact ⟨rfl, (show mm = _ from (hr.trans (minF_done (by omega))).symm) ▸ a3⟩

noncomputable def c_least (p : List Nat) : Code := sub (bodyOf Tryz.f103) p
theorem least_ct (I : Imm) (sv : Value) (l : List (List Int)) (yb : Nat) (v1 v2 v3 : Value) (Y : Yard) (hyb : I.blk yb = some (Obj.cells #[v1, v2, v3] 26 (0, 0))) (v1_f : IsCars I v1 Y.cars) (v2_f : IsInts I v2 Y.room) (v3_f : IsRows I v3 Y.tracks) (sv_f : IsRows I sv l) (hl : 0 < l.length) (hl2 : l.length ≤ 1000000) (hok : ∀ xs ∈ l, Ok Y.cars xs ∧ xs.length ≤ 1000000) : Ct Tryz.prog 103 #[sv, .func (.func 104) #[] #[.pointer (some ⟨yb, 0, none⟩)], .func (.func 106) #[] #[]] I [] (fun v I' M' => M' = [] ∧ IsInts I' v (minF (warmCmp Y.cars) (l.drop 1) (l.getD 0 []))) := by
 obtain ⟨d6, d8, d7, e1, b6, d9, e0, e2⟩ := id v1_f;subst b6;obtain ⟨e3, e5, e4, e8, b7, e6, e7, e9⟩ := id v2_f;subst b7;obtain ⟨f0, f2, f1, f5, c0, b8, f3, f4, f6, f7⟩ := id v3_f;subst b8;obtain ⟨a9, b0, d0, d3, b9, b5, d1, d2, d4, d5⟩ := id sv_f;subst b5;refine fr (args := [_, _, _]) (N := 10) Tryz.func103 (fun F => ?_);show Run _ _ (c_least []) _ _ [(0, .slice a9 l.length b0), (1, .func (.func 104) #[] #[.pointer (some ⟨yb, 0, none⟩)]), (2, .func (.func 106) #[] #[])] _ _;refine rnm (rqr ?_);refine sS (sb 4 137 #[.func (.func 104) #[] #[.pointer (some ⟨yb, 0, none⟩)]] (fun b1 => ?_));refine sS (sb 5 138 #[.func (.func 106) #[] #[]] (fun b3 => ?_));refine sp 1 [(6, .slice none 0 0)] ?_;refine sn ?_;refine seq_hold (b := b1) (o := Obj.cells #[.func (.func 104) #[] #[.pointer (some ⟨yb, 0, none⟩)]] 137 (0, 0)) (M0 := ((b3, Obj.cells #[.func (.func 106) #[] #[]] 138 (0, 0)) :: F)) (PS _ _ _) (fun I5 a2 a4 => ?_);replace v1_f := v1_f.mono a2;replace v2_f := v2_f.mono a2;replace v3_f := v3_f.mono a2;replace hyb := a2.blk _ _ hyb;replace sv_f := sv_f.mono a2;refine seq_hold (b := b3) (o := Obj.cells #[.func (.func 106) #[] #[]] 138 (0, 0)) (M0 := (F)) (PR _) (fun I8 a0 a3 => ?_);replace v1_f := v1_f.mono a0;replace v2_f := v2_f.mono a0;replace v3_f := v3_f.mono a0;replace hyb := a0.blk _ _ hyb;replace sv_f := sv_f.mono a0;replace a4 := a0.blk _ _ a4;refine sp 2 [(8, .func (.func 142) #[] #[.pointer (some ⟨b1, 0, none⟩), .pointer (some ⟨b3, 0, none⟩)]), (7, .slice a9 l.length b0)] ?_;have c1 : ∀ J xs ys a b, I8.le J → xs ∈ l → ys ∈ l → IsInts J a xs → IsInts J b ys → CtV Tryz.prog 142 (a :: b :: [.pointer (some ⟨b1, 0, none⟩), .pointer (some ⟨b3, 0, none⟩)]).toArray J (.int .i64 (warmCmp Y.cars xs ys)) := fun J xs ys a b hJ h1 h2 h3 h4 => least1_ct J a b xs ys yb _ _ _ Y (hJ.blk _ _ hyb) (v1_f.mono hJ) (v2_f.mono hJ) (v3_f.mono hJ) b1 b3 (hJ.blk _ _ a4) (hJ.blk _ _ a3) h3 h4 (hok xs h1).1 (hok ys h2).1 (hok xs h1).2 (hok ys h2).2
 have a5 := MinFunc_ct I8 _ l 142 [.pointer (some ⟨b1, 0, none⟩), .pointer (some ⟨b3, 0, none⟩)] (warmCmp Y.cars) (by kernel_rfl) sv_f hl hl2 c1;refine sS (stp_call (d := (some 9)) (f := (.func 141)) (fid := 141) (args := #[(.tmp 7), (.tmp 8)]) (tys := #[24, 138]) (cv := []) (F := (F)) (ty := 23) (gd := none) (by kernel_rfl) rfl rfl rfl (by kernel_rfl) rfl a5 (PR _) (fun c4 f8 c3 a1 b2 => ?_));obtain ⟨c2, a8⟩ := b2;replace hyb := a1.blk _ _ hyb;replace a4 := a1.blk _ _ a4;replace a3 := a1.blk _ _ a3;subst c2;obtain ⟨a6, a7, c5, c8, b4, c6, c7, c9⟩ := id a8;subst b4;refine nm ?_;show Seq _ _ _ _ _ _ ((9, .slice a6 (minF (warmCmp Y.cars) (l.drop 1) (l.getD 0 [])).length a7) :: _) _ _;refine sp 1 [(6, .slice a6 (minF (warmCmp Y.cars) (l.drop 1) (l.getD 0 [])).length a7)] ?_;refine se (rret ?_);refine pst_ret1 (t := 6) [] (by kernel_rfl) rfl (TR _) (Imm.le.trans (Imm.le.trans a2 a0) a1) ?_;exact ⟨rfl, a8⟩

end Go.Proofs.YtcaocbhbofejnaaGreatDoor
namespace Go.Sl
open Go
theorem St.permL {I : Imm} {A A' B : Seg} {w : World} (h : A.Perm A') (st : St I (A ++ B) w) : St I (A' ++ B) w := st.perm (List.Perm.append_right _ h)
section
variable {ρ : Option Nat} {P : Program} {N : Nat} {ds : List Deferred} {l : Sl} {I : Imm} {M A B eM : Seg} {Q : Exit → Act → World → Prop} {E : TypeId} {vs : List Value} {xss : List (List Int)}
theorem rn_freezeEach {c : Code} (h : OwnEach E vs xss eM) (hl : ∀ xs ∈ xss, xs.length ≤ 1000000) (hM : M.Perm (eM ++ A)) (hA : A.Perm B)
    (next : ∀ J, I.le J → RowsV J vs xss → Run (ρ := ρ) P N c Q ds l J B) : Run (ρ := ρ) P N c Q ds l I M := fun a w hS hD hW => by
  obtain ⟨J, h1, h2, h3⟩ := h.freeze (fun xs hx => by have := hl xs hx; omega) (hW.perm hM)
  exact next J h1 h2 a w hS hD (h3.perm hA)
end
end Go.Sl
namespace Go.Sh
open Go Go.Sl
theorem blocksTo_yesI {cs : List Car} {t : List Int} {k i : Nat} (h : coupled cs t ↑k = true) (hi : i = (blocksTo cs t k).length - 1) : blocksTo cs t (k + 1) = (blocksTo cs t k).set i ((blocksTo cs t k).getD i [] ++ [t.getD k 0]) := by
  subst hi; exact blocksTo_yes h
theorem blocksTo_mem {cs : List Car} {t : List Int} {p : Int → Prop} (ht : ∀ x ∈ t, p x) : ∀ k, k ≤ t.length → ∀ b ∈ blocksTo cs t k, ∀ x ∈ b, p x := by
  intro k
  induction k with
  | zero => intro _ b hb; simp [blocksTo] at hb
  | succ k ih =>
    intro hk b hb x hx
    have ih := ih (by omega)
    have hm : t.getD k 0 ∈ t := getD_mem (by omega)
    simp only [blocksTo, stepB] at hb
    split at hb
    · rename_i hc
      have hp := coupled_pos hc
      rcases List.mem_or_eq_of_mem_set hb with hb | e
      · exact ih b hb x hx
      · subst e
        rcases List.mem_append.1 hx with hx | hx
        · have hm : (blocksTo cs t k).getD ((blocksTo cs t k).length - 1) [] ∈ blocksTo cs t k := getD_mem (by have := (blocksTo_len cs t k).2.1 (by omega); omega)
          exact ih _ hm x hx
        · simp at hx; subst hx; exact ht _ hm
    · rcases List.mem_append.1 hb with hb | hb
      · exact ih b hb x hx
      · simp at hb; subst hb; simp at hx; subst hx; exact ht _ hm
theorem blocksTo_flat {cs : List Car} {t : List Int} : ∀ k, k ≤ t.length → (blocksTo cs t k).flatten = t.take k := by
  intro k
  induction k with
  | zero => intro _; simp [blocksTo]
  | succ k ih =>
    intro hk
    have ih := ih (by omega)
    rw [take_snoc (d := 0) (by omega), ← ih]
    simp only [blocksTo, stepB]
    split
    · rename_i hc
      have hp := coupled_pos hc
      have hl := (blocksTo_len cs t k).2.1 (by omega)
      obtain ⟨ys, y, e⟩ : ∃ ys y, blocksTo cs t k = ys ++ [y] := by
        rcases List.eq_nil_or_concat (blocksTo cs t k) with h | ⟨ys, y, h⟩
        · rw [h] at hl; simp at hl
        · exact ⟨ys, y, by rw [h, List.concat_eq_append]⟩
      rw [e]
      have e2 : (ys ++ [y]).length - 1 = ys.length := by simp
      rw [e2, List.set_append_right _ _ (Nat.le_refl _)]
      simp [List.getD]
    · simp
theorem growM_mem {bl : List (List Int)} {p : Int → Prop} (hb : ∀ b ∈ bl, ∀ x ∈ b, p x) : ∀ (n : Nat) (begun us : List Int), (∀ x ∈ begun, p x) → ∀ l ∈ growM bl n begun us, ∀ x ∈ l, p x := by
  intro n
  induction n with
  | zero => intro begun us h l hl x hx; simp [growM] at hl; subst hl; exact h x hx
  | succ n ih =>
    intro begun us h l hl x hx
    simp only [growM, growFrom, List.mem_flatMap] at hl
    obtain ⟨i, hi, hl⟩ := hl
    split at hl
    · simp at hl
    · refine ih _ _ (fun y hy => ?_) l hl x hx
      rcases List.mem_append.1 hy with hy | hy
      · exact h y hy
      · by_cases hi2 : i < bl.length
        · exact hb _ (getD_mem hi2) y hy
        · simp [List.getD, List.getElem?_eq_none (Nat.le_of_not_lt hi2)] at hy
theorem growM_len {bl : List (List Int)} {m : Nat} (hb : ∀ b ∈ bl, b.length ≤ m) : ∀ (n : Nat) (begun us : List Int), ∀ l ∈ growM bl n begun us, l.length ≤ begun.length + m * n := by
  intro n
  induction n with
  | zero => intro begun us l hl; simp [growM] at hl; subst hl; simp
  | succ n ih =>
    intro begun us l hl
    simp only [growM, growFrom, List.mem_flatMap] at hl
    obtain ⟨i, hi, hl⟩ := hl
    split at hl
    · simp at hl
    · have h1 := ih _ _ l hl
      have h2 : (bl.getD i []).length ≤ m := by
        by_cases hi2 : i < bl.length
        · exact hb _ (getD_mem hi2)
        · simp [List.getD, List.getElem?_eq_none (Nat.le_of_not_lt hi2)]
      rw [List.length_append] at h1
      rw [Nat.mul_succ]; omega
theorem flatMap_leAll {α β : Type} (f : α → List β) (m : Nat) (h : ∀ x, (f x).length ≤ m) : ∀ l : List α, (l.flatMap f).length ≤ l.length * m := by
  intro l
  induction l with
  | nil => simp
  | cons x r ih => have := h x; simp only [List.flatMap_cons, List.length_append, List.length_cons, Nat.succ_mul]; omega
theorem growM_count {bl : List (List Int)} : ∀ (n : Nat) (begun us : List Int), (growM bl n begun us).length ≤ bl.length ^ n := by
  intro n
  induction n with
  | zero => intro begun us; simp [growM]
  | succ n ih =>
    intro begun us
    simp only [growM, growFrom]
    refine Nat.le_trans (flatMap_leAll _ (bl.length ^ n) (fun i => ?_) _) (by simp [Nat.pow_succ, Nat.mul_comm])
    split
    · simp
    · exact ih _ _
theorem pigeon {us : List Int} {n : Nat} (h : us.length < n) : ∃ i : Nat, i < n ∧ ¬ (i : Int) ∈ us := by
  rcases Classical.em (∃ i : Nat, i < n ∧ ¬ (i : Int) ∈ us) with h1 | h1
  · exact h1
  · exfalso
    have hs : (List.range n).map (fun k : Nat => (k : Int)) ⊆ us := fun c hc => by
      obtain ⟨k, hk, rfl⟩ := List.mem_map.1 hc
      rcases Classical.em ((k : Int) ∈ us) with h2 | h2
      · exact h2
      · exact absurd ⟨k, List.mem_range.1 hk, h2⟩ h1
    have hn : ((List.range n).map (fun k : Nat => (k : Int))).Nodup := by
      refine List.pairwise_map.2 ((List.nodup_range (n := n)).imp (fun hab e => hab (by exact_mod_cast e)))
    have := hn.length_le_of_subset hs
    simp at this; omega
theorem growM_pos {bl : List (List Int)} : ∀ (n : Nat) (begun us : List Int), us.length + n ≤ bl.length → 0 < (growM bl n begun us).length := by
  intro n
  induction n with
  | zero => intro begun us _; simp [growM]
  | succ n ih =>
    intro begun us h
    obtain ⟨i, hi, hu⟩ := pigeon (us := us) (n := bl.length) (by omega)
    have h1 := ih (begun ++ bl.getD i []) (us ++ [(i : Int)]) (by simp; omega)
    obtain ⟨x, hx⟩ := List.exists_mem_of_length_pos h1
    refine List.length_pos_of_mem (a := x) ?_
    simp only [growM, growFrom, List.mem_flatMap]
    exact ⟨i, List.mem_range'_1.2 ⟨Nat.zero_le _, by omega⟩, by rw [if_neg hu]; exact hx⟩
structure WarmOk (Y : Yard) : Prop where
  tl : (trk Y 0).length ≤ 5
  ok : Ok Y.cars (trk Y 0)
  bl : (blocksOf Y.cars (trk Y 0)).length ≤ 5
  each : ∀ b ∈ blocksOf Y.cars (trk Y 0), b.length ≤ 5
  many : (growM (blocksOf Y.cars (trk Y 0)) (blocksOf Y.cars (trk Y 0)).length [] []).length ≤ 3125
  some : 0 < (growM (blocksOf Y.cars (trk Y 0)) (blocksOf Y.cars (trk Y 0)).length [] []).length
  okAll : ∀ xs ∈ growM (blocksOf Y.cars (trk Y 0)) (blocksOf Y.cars (trk Y 0)).length [] [], Ok Y.cars xs ∧ xs.length ≤ 1000000
theorem Fine.warm {Y : Yard} (h : Fine Y) : WarmOk Y := by
  have hr := h.room1; have hl := h.len
  have ho : Ok Y.cars (trk Y 0) := h.ok.at 0 (by omega)
  have ht : (trk Y 0).length ≤ 5 := by
    have := (List.sublist_flatten_of_mem (getD_mem (d := []) (xs := Y.tracks) (k := 0) (by omega))).length_le
    exact Nat.le_trans this h.sum
  obtain ⟨b1, b2, b3⟩ := blocksTo_len Y.cars (trk Y 0) (trk Y 0).length
  have hb1 : (blocksOf Y.cars (trk Y 0)).length ≤ 5 := Nat.le_trans b1 ht
  have hb3 : ∀ b ∈ blocksOf Y.cars (trk Y 0), b.length ≤ 5 := fun b hb => Nat.le_trans (b3 b hb) ht
  refine ⟨ht, ho, hb1, hb3, ?_, growM_pos _ _ _ (by simp), fun xs hx => ⟨fun c hc => growM_mem (p := fun c => 0 ≤ c ∧ c < Y.cars.length) (blocksTo_mem (fun x hx => ho x hx) _ (Nat.le_refl _)) _ _ _ (fun x hx => by simp at hx) xs hx c hc, ?_⟩⟩
  · refine Nat.le_trans (growM_count _ _ _) ?_
    match (blocksOf Y.cars (trk Y 0)).length, hb1 with
    | 0, _ | 1, _ | 2, _ | 3, _ | 4, _ | 5, _ => decide
  · have := growM_len hb3 _ _ _ xs hx
    simp at this; omega
theorem warmE_bad {Y : Yard} (h : checkErr Y ≠ 0) : warmE Y = ([], 0, checkErr Y) := if_neg h
theorem warmE_ok {Y : Yard} (h : Valid Y) : warmE Y = (let os := growM (blocksOf Y.cars (trk Y 0)) (blocksOf Y.cars (trk Y 0)).length [] []
     let m := minF (warmCmp Y.cars) (os.drop 1) (os.getD 0 [])
     (m, ((coldOf Y.cars m).length : Int), 0)) := if_pos h
theorem minF_mem {f : List Int → List Int → Int} : ∀ (l : List (List Int)) (m : List Int), minF f l m = m ∨ minF f l m ∈ l := by
  intro l
  induction l with
  | nil => intro m; exact .inl rfl
  | cons x r ih =>
    intro m
    simp only [minF]
    split
    · rcases ih x with h | h
      · exact .inr (by rw [h]; simp)
      · exact .inr (by simp [h])
    · rcases ih m with h | h
      · exact .inl h
      · exact .inr (by simp [h])
theorem minF_in {f : List Int → List Int → Int} {l : List (List Int)} (h : 0 < l.length) : minF f (l.drop 1) (l.getD 0 []) ∈ l := by
  cases l with
  | nil => simp at h
  | cons x r => rcases minF_mem (f := f) r x with h | h <;> simp [h]
end Go.Sh
namespace Go.Proofs.YtcaocbhbofejnaaGreatDoor
open Go Go.Sl Go.Sh
set_option maxRecDepth 100000
noncomputable def c_Warm (p : List Nat) : Code := sub (bodyOf Tryz.f48) p
theorem Warm_ct (I : Imm) (y : Value) (Y : Yard) (y_f : IsYard I y Y) : Ct Tryz.prog 48 #[y] I ([]) (fun v I' M' => ∃ u0 : Value, v = .tuple #[u0, .int .i64 ((warmE Y).2.1), .int .i64 ((warmE Y).2.2)] ∧ M' = [] ∧ IsInts I' u0 ((warmE Y).1)) := by
 obtain ⟨y1, y2, y3, t8, a8, a9, b0⟩ := id y_f;subst t8;obtain ⟨a0, a1, s4, s7, o0, s5, s6, s8⟩ := id a8;subst o0;obtain ⟨a4, a5, s9, t2, o1, t0, t1, t3⟩ := id a9;subst o1;obtain ⟨a2, a3, t4, t7, p4, o2, t5, t6, i5, o3⟩ := id b0;subst o2;refine fr (args := [_]) (N := 65) Tryz.func48 (fun F => ?_);show Run _ _ (c_Warm []) _ _ [(0, .agg #[.slice a0 Y.cars.length a1, .slice a4 Y.room.length a5, .slice a2 Y.tracks.length a3])] _ _;refine rnm (rqr ?_);refine sS (sb 1 26 #[.slice a0 Y.cars.length a1, .slice a4 Y.room.length a5, .slice a2 Y.tracks.length a3] (fun b1 => ?_));refine sp 3 [(4, .int .i64 (0)), (3, .int .i64 (0)), (2, .slice none 0 0)] ?_;refine se (rq (rqr ?_));refine sd (dnb 12 0 0 b1 [.slice a0 Y.cars.length a1, .slice a4 Y.room.length a5, .slice a2 Y.tracks.length a3]) ?_;refine sd (dc 13 (fun I' hI => (Check_ct I' _ (Y) ((mkYard a8 a9 b0).mono hI) :))) ?_;refine sp 1 [(5, .int .i64 ((checkErr Y)))] ?_;refine sn ?_;refine sp 2 [(15, .bool (!(cmp .eql ((checkErr Y)) (0))))] ?_;refine se ?_;refine rc 15 rfl (fun h1 => ?_) (fun h1 => ?_)
 ·
  have m6 := h1;have h1 := not_t h1;have h1 := eql_f h1;refine rqr ?_;refine sp 4 [(4, .int .i64 ((checkErr Y))), (3, .int .i64 (0)), (2, .slice none 0 0)] ?_;refine se (rret ?_);refine (pst_ret_pass ?_);refine pst_ret3 (t := 2) (u := 3) (r := 4) [] (by kernel_rfl) rfl rfl rfl (TC _ (TR _)) (Imm.le.refl _) ?_;exact ⟨_, (congrArg (fun p : List Int × Int × Int => Value.tuple #[.slice none 0 0, .int .i64 p.2.1, .int .i64 p.2.2]) (warmE_bad h1).symm), rfl, ((show [] = (warmE Y).1 from (congrArg Prod.fst (warmE_bad h1)).symm) ▸ (IsSl.nil _))⟩
 have m6 := h1;have h1 := not_f h1;have h1 := eql_t h1;refine rskip (pst_next (rqr ?_));refine sS (sal 6 24 #[.slice none 0 0] (fun b3 => ?_));refine se (rq ?_);have n5 : Valid Y := by (show checkErr Y = 0; omega)
 have m9 := n5.fine;have v1 := m9.room1; have v2 := m9.len;have f8 := m9.warm;have v4 : (Y.tracks.getD (0) []).length ≤ 5 := f8.tl;have v5 : Ok Y.cars (Y.tracks.getD (0) []) := f8.ok;have q5 : (blocksOf Y.cars (Y.tracks.getD (0) [])).length ≤ 5 := f8.bl;have p0 : ∀ b ∈ blocksOf Y.cars (Y.tracks.getD (0) []), b.length ≤ 5 := f8.each;have v6 : (growM (blocksOf Y.cars (Y.tracks.getD (0) [])) (blocksOf Y.cars (Y.tracks.getD (0) [])).length [] []).length ≤ 3125 := f8.many;have i9 : 0 < (growM (blocksOf Y.cars (Y.tracks.getD (0) [])) (blocksOf Y.cars (Y.tracks.getD (0) [])).length [] []).length := f8.some;have j0 : ∀ xs ∈ growM (blocksOf Y.cars (Y.tracks.getD (0) [])) (blocksOf Y.cars (Y.tracks.getD (0) [])).length [] [], Ok Y.cars xs ∧ xs.length ≤ 1000000 := f8.okAll;refine rr ?_;refine sp 1 [(17, .pointer (some ⟨b1, 2, none⟩))] ?_;refine sd (dlb 18 1 2 b1 (.slice a2 Y.tracks.length a3)) ?_;refine sd (di 19 1 (0) i5.addr) ?_;have g3 := o3 (0) (by omega);obtain ⟨e2, e3, q9, r2, i2, r0, r1, i3⟩ := id g3;rw [i2] at g3;refine sd (det_eq (dl 20 (rows_get i5 (0) (by omega))) i2) ?_;refine sp 1 [(7, .slice e2 (Y.tracks.getD (0) []).length e3)] ?_;refine se (rq (rqr ?_));refine sp 3 [(23, .int .i64 (0)), (22, .int .i64 (↑((Y.tracks.getD (0) []).length))), (21, .slice e2 (Y.tracks.getD (0) []).length e3)] ?_;refine se (rb 0 ?_);refine rl (fun mz a w => ∃ k : Nat, ∃ bv : Value, ∃ vs : List Value, ∃ bM : Seg, ∃ eM : Seg, (k ≤ (Y.tracks.getD (0) []).length) ∧ (Own 23 1 valCell bv vs bM) ∧ (OwnEach 3 vs (blocksTo Y.cars (Y.tracks.getD (0) []) k) eM) ∧ Slots 65 [(23, .int .i64 ↑k), (1, .pointer (some ⟨b1, 0, none⟩)), (2, .slice none 0 0), (3, .int .i64 (0)), (4, .int .i64 (0)), (6, .pointer (some ⟨b3, 0, none⟩)), (7, .slice e2 (Y.tracks.getD (0) []).length e3), (21, .slice e2 (Y.tracks.getD (0) []).length e3), (22, .int .i64 (↑((Y.tracks.getD (0) []).length)))] a ∧ a.defers = [] ∧ St I ((b3, Obj.cells #[bv] 24 (0, 0)) :: (b1, Obj.cells #[.slice a0 Y.cars.length a1, .slice a4 Y.room.length a5, .slice a2 Y.tracks.length a3] 26 (0, 0)) :: (bM ++ (eM ++ F))) w ∧ mz = (Y.tracks.getD (0) []).length - k) ?_ ?_
 ·intro a w hS hD hW;exact ⟨_, 0, (.slice none 0 0), [], [], [], Nat.zero_le _, Own.nil _ _ _, OwnEach.nil, hS.sub (.cons 23 rfl (.cons 1 rfl (.cons 2 rfl (.cons 3 rfl (.cons 4 rfl (.cons 6 rfl (.cons 7 rfl (.cons 21 rfl (.cons 22 rfl (.nil _)))))))))), hD, hW, rfl⟩
 rintro mz a w ⟨k, bv, vs, bM, eM, hk, bo, h5, hS, hD, hW, rfl⟩
 refine run_at hS hD hW ?_;clear hS hD hW a w;obtain ⟨a6, a7, j2, p9⟩ := bo.shape; subst j2;have u8 := h5.length;have o9 := blocksTo_len Y.cars (Y.tracks.getD (0) []) k;refine rqr ?_;refine sp 1 [(24, .bool (cmp .lss (↑k) (↑((Y.tracks.getD (0) []).length))))] ?_;refine se (rq ?_);refine rc 24 rfl (fun h2 => ?_) (fun h2 => ?_)
 ·
  have m7 := h2;have h2 := lss_t h2;refine rskip (pst_next (rq (rb 1 (rqr ?_))));refine sp 1 [(25, .int .i64 (↑k))] ?_;refine sd (di 26 1 (k) i3.addr) ?_;refine sd (dl 27 (ints_get i3 (k) (by omega))) ?_;refine sp 2 [(9, .int .i64 ((Y.tracks.getD (0) []).getD (k) 0)), (8, .int .i64 (↑k))] ?_;refine se (rq (rqr ?_));refine sp 2 [(29, .pointer (some ⟨b1, 0, none⟩)), (28, .slice e2 (Y.tracks.getD (0) []).length e3)] ?_;refine sd (dlb 30 1 0 b1 (.slice a0 Y.cars.length a1)) ?_;refine sp 1 [(31, .int .i64 (↑k))] ?_;refine sd (dc 32 (fun I' hI => (coupled_ct I' _ _ _ _ (↑k) (g3.mono hI) (a8.mono hI) (by assumption) :))) ?_;refine se ?_;refine rc 32 rfl (fun h3 => ?_) (fun h3 => ?_)
  ·
   have m8 := h3;refine rq ?_;have u9 := coupled_pos h3;have u7 := o9.2.1 (by omega);have v0 := o9.2.2 _ (getD_mem (d := []) (xs := blocksTo Y.cars (Y.tracks.getD (0) []) k) (k := ((↑(vs.length)) - 1 : Int).toNat) (by omega));obtain ⟨c3, d9, j3, q1, q0⟩ := OwnEach.pull h5 (((↑(vs.length)) - 1 : Int).toNat) (by omega);obtain ⟨o4, o5, f0, o6⟩ := j3.shape;rw [f0] at j3;refine rn_mem (M' := ((c3 ++ (d9 ++ (b3, Obj.cells #[.slice a6 vs.length a7] 24 (0, 0)) :: (b1, Obj.cells #[.slice a0 Y.cars.length a1, .slice a4 Y.room.length a5, .slice a2 Y.tracks.length a3] 26 (0, 0)) :: (bM ++ F))))) (fun w h => ?_) ?_
   ·have h2 := h.perm ((PC _ ((PC _ (PO _ _ _)).trans (PM.symm))).trans (PM.symm));have h3 := St.permL (A' := c3 ++ d9) (A := eM) (by simpa only [AA, List.append_nil] using q1) (by simpa only [AA] using h2)
    simpa only [AA] using h3
   refine rn_mem (M' := ((b3, Obj.cells #[.slice a6 vs.length a7] 24 (0, 0)) :: (b1, Obj.cells #[.slice a0 Y.cars.length a1, .slice a4 Y.room.length a5, .slice a2 Y.tracks.length a3] 26 (0, 0)) :: (c3 ++ (d9 ++ (bM ++ F))))) (fun w h => h.perm (((PA _ PM).trans PM).trans (PC _ ((PA _ PM).trans PM)))) ?_;refine rpm (M' := ((b3, Obj.cells #[.slice a6 vs.length a7] 24 (0, 0)) :: (b1, Obj.cells #[.slice a0 Y.cars.length a1, .slice a4 Y.room.length a5, .slice a2 Y.tracks.length a3] 26 (0, 0)) :: (bM ++ (c3 ++ (d9 ++ F))))) (PC _ (PC _ ((PA _ (PO _ _ _)).trans (PO _ _ _)))) ?_;refine rd 13 [(0, true), (1, true), (2, true), (3, true), (4, true), (5, true), (6, true), (7, true), (8, true), (9, true), (10, true), (11, false), (12, false)] ((b3, Obj.cells #[.slice a6 vs.length a7] 24 (0, 0)) :: (b1, Obj.cells #[.slice a0 Y.cars.length a1, .slice a4 Y.room.length a5, .slice a2 Y.tracks.length a3] 26 (0, 0)) :: bM) ((c3 ++ (d9 ++ F))) ?_;refine ofp_det (dlb 33 0 0 b3 (.slice a6 vs.length a7)) ?_;refine ofp_det (dlb 34 0 0 b3 (.slice a6 vs.length a7)) ?_;refine ox 1 [(35, .int .i64 (↑(vs.length)))] ?_;refine ofp_det (dsb 36 (↑(vs.length)) (1)) ?_;refine ofp_det (dlb 37 0 0 b3 (.slice a6 vs.length a7)) ?_;refine ofp_det (dlb 38 0 0 b3 (.slice a6 vs.length a7)) ?_;refine ox 1 [(39, .int .i64 (↑(vs.length)))] ?_;refine ofp_det (dsb 40 (↑(vs.length)) (1)) ?_;obtain ⟨v7, i1⟩ := bo.row undef;refine ofp_det (diI 41 1 ((↑(vs.length)) - 1) i1.addr) ?_;refine ofp_det (det_eq (det_load (x := (.tmp 41)) (T := 23) (d := 42) (ty := 23) (gd := none) (by kernel_rfl) rfl (by kernel_rfl) rfl (i1.get (((↑(vs.length)) - 1 : Int).toNat) (by omega) 0 (by decide) _ _ (fun x hx => by simp [hx]))) f0) ?_;refine ox 1 [(43, .int .i64 ((Y.tracks.getD (0) []).getD (k) 0))] ?_;refine ofp_stp (sbs 44 3 1 #[.int .i64 ((Y.tracks.getD (0) []).getD (k) 0)] (fun b9 => ?_));refine ofp_settle (S' := ((b9, Obj.cells #[.int .i64 ((Y.tracks.getD (0) []).getD (k) 0)] 3 (0, 0)) :: (c3 ++ (d9 ++ F)))) ((PS _ _ _).trans (PC _ ((PS _ _ _).trans (PC _ (PM.symm))))) ?_;refine ofp_stp (stp_append (d := 45) (x := (.tmp 42)) (y := (.tmp 44)) (T := 23) (T' := 23) (E := 3) (E' := 3) (sz := 1) (bs := 8) (z := .int .i64 (0)) (cell := intCell) (xs := (blocksTo Y.cars (Y.tracks.getD (0) []) k).getD (((↑(vs.length)) - 1 : Int).toNat) []) (ys := [((Y.tracks.getD (0) []).getD (k) 0 : Int)]) (Ms := c3) (ty := 23) (gd := none) (by kernel_rfl) rfl (by kernel_rfl) (by kernel_rfl) (by kernel_rfl) (by kernel_rfl) (by kernel_rfl) (by decide) (by kernel_rfl) rfl rfl (j3) (show List.Perm ((b3, Obj.cells #[.slice a6 vs.length a7] 24 (0, 0)) :: (b1, Obj.cells #[.slice a0 Y.cars.length a1, .slice a4 Y.room.length a5, .slice a2 Y.tracks.length a3] 26 (0, 0)) :: (bM ++ (b9, Obj.cells #[.int .i64 ((Y.tracks.getD (0) []).getD (k) 0)] 3 (0, 0)) :: (c3 ++ (d9 ++ F)))) ((c3 ++ (b3, Obj.cells #[.slice a6 vs.length a7] 24 (0, 0)) :: (b1, Obj.cells #[.slice a0 Y.cars.length a1, .slice a4 Y.room.length a5, .slice a2 Y.tracks.length a3] 26 (0, 0)) :: (b9, Obj.cells #[.int .i64 ((Y.tracks.getD (0) []).getD (k) 0)] 3 (0, 0)) :: (bM ++ (d9 ++ F)))) from (((PC _ ((PC _ ((PA _ (PM.symm)).trans (PO _ _ _))).trans (PM.symm))).trans (PM.symm)).trans (PA _ (PC _ (PC _ PM))))) (one_intCell _) (src_atS 2 rfl rfl) (by first | omega | (simp only [LC, LN, LA, LK, LD]; omega)) (fun v9 e5 h8 => ?_));refine ofp_settle (S' := ((b9, Obj.cells #[.int .i64 ((Y.tracks.getD (0) []).getD (k) 0)] 3 (0, 0)) :: (e5 ++ (d9 ++ F)))) (List.perm_middle.trans (PC _ (List.perm_middle.trans (PC _ (((PA _ (PM.symm)).trans (PO _ _ _)).trans (PA _ PM)))))) ?_;obtain ⟨f9, g1, n6, q7⟩ := h8.shape;subst n6;show OFP _ _ _ _ _ _ ((45, .slice f9 (((blocksTo Y.cars (Y.tracks.getD (0) []) k).getD (((↑(vs.length)) - 1 : Int).toNat) []) ++ ([((Y.tracks.getD (0) []).getD (k) 0 : Int)])).length g1) :: _) _ _;refine ofp_end ?_;refine nm ?_;refine pm (M' := ((b3, Obj.cells #[.slice a6 vs.length a7] 24 (0, 0)) :: (b1, Obj.cells #[.slice a0 Y.cars.length a1, .slice a4 Y.room.length a5, .slice a2 Y.tracks.length a3] 26 (0, 0)) :: (b9, Obj.cells #[.int .i64 ((Y.tracks.getD (0) []).getD (k) 0)] 3 (0, 0)) :: (bM ++ (e5 ++ (d9 ++ F))))) (PC _ (PC _ PM)) ?_;obtain ⟨q6, f2⟩ := bo.row undef;refine sd (diI 46 1 ((↑(vs.length)) - 1) f2.addr) ?_;refine sS (stp_storeOwn (T := 23) (x := (.tmp 46)) (y := (.tmp 45)) (rc := fun i f => valCell ((vs).getD i undef) f) undef (((↑(vs.length)) - 1 : Int).toNat) 0 ((.slice f9 (((blocksTo Y.cars (Y.tracks.getD (0) []) k).getD (((↑(vs.length)) - 1 : Int).toNat) []) ++ ([((Y.tracks.getD (0) []).getD (k) 0 : Int)])).length g1 : Value)) (ty := 0) (gd := none) (by kernel_rfl) rfl bo f2 (by omega) (by decide) rfl rfl (by kernel_rfl) rfl rfl (by intro f hf; match f, hf with | 0, _ => rfl) ((PC _ ((PC _ (PM.symm)).trans (PM.symm))).trans (PM.symm)) (fun e6 n0 => ?_));refine pm (M' := ((b3, Obj.cells #[.slice a6 vs.length a7] 24 (0, 0)) :: (b1, Obj.cells #[.slice a0 Y.cars.length a1, .slice a4 Y.room.length a5, .slice a2 Y.tracks.length a3] 26 (0, 0)) :: (b9, Obj.cells #[.int .i64 ((Y.tracks.getD (0) []).getD (k) 0)] 3 (0, 0)) :: (e6 ++ (e5 ++ (d9 ++ F))))) (List.perm_middle.trans (PC _ (List.perm_middle.trans (PC _ PM)))) ?_;obtain ⟨e8, h6, j4⟩ := q0 _ _ _ h8;refine seq_mem (I' := I) (M' := ((e8 ++ (b3, Obj.cells #[.slice a6 vs.length a7] 24 (0, 0)) :: (b1, Obj.cells #[.slice a0 Y.cars.length a1, .slice a4 Y.room.length a5, .slice a2 Y.tracks.length a3] 26 (0, 0)) :: (b9, Obj.cells #[.int .i64 ((Y.tracks.getD (0) []).getD (k) 0)] 3 (0, 0)) :: (e6 ++ F)))) (fun w h => ?_) ?_
   ·have h2 := h.perm (((PC _ ((PC _ ((PC _ (PO _ _ _)).trans (PM.symm))).trans (PM.symm))).trans (PM.symm)).trans (PA _ ((PC _ ((PC _ ((PC _ (PO _ _ _)).trans (PM.symm))).trans (PM.symm))).trans (PM.symm))));simp only [← AA] at h2;have h3 := St.permL (A' := e8) (A := e5 ++ d9) (by simpa only [AA, List.append_nil] using j4.symm) (by simpa only [AA] using h2)
    simpa only [AA] using h3
   refine pm (M' := ((b3, Obj.cells #[.slice a6 vs.length a7] 24 (0, 0)) :: (b1, Obj.cells #[.slice a0 Y.cars.length a1, .slice a4 Y.room.length a5, .slice a2 Y.tracks.length a3] 26 (0, 0)) :: (b9, Obj.cells #[.int .i64 ((Y.tracks.getD (0) []).getD (k) 0)] 3 (0, 0)) :: (e8 ++ (e6 ++ F)))) (List.perm_middle.trans (PC _ (List.perm_middle.trans (PC _ PM)))) ?_;refine se (rexit 1 ?_);refine (pst_exit_pass (pst_exit_block ?_));refine pst_next (rr ?_);refine sd (da 52 (↑k) (1)) ?_;refine sp 1 [(23, .int .i64 (↑k + 1))] ?_;refine ee ?_;refine pst_back ((Y.tracks.getD (0) []).length - (k+1)) (by omega) ?_;intro a w hS hD hW;exact ⟨k+1, (.slice a6 vs.length a7), vs.set (((↑(vs.length)) - 1 : Int).toNat) ((.slice f9 (((blocksTo Y.cars (Y.tracks.getD (0) []) k).getD (((↑(vs.length)) - 1 : Int).toNat) []) ++ ([((Y.tracks.getD (0) []).getD (k) 0 : Int)])).length g1 : Value)), e6, e8, by omega, n0, (by rw [blocksTo_yesI (i := ((↑(vs.length)) - 1 : Int).toNat) h3 (by omega)]; exact h6), hS.sub (.consE 23 rfl rfl (.cons 1 rfl (.cons 2 rfl (.cons 3 rfl (.cons 4 rfl (.cons 6 rfl (.cons 7 rfl (.cons 21 rfl (.cons 22 rfl (.nil _)))))))))), hD, (hW.perm (((PC _ (PS _ _ _)).trans (PS _ _ _)).trans (PC _ (PC _ (PC _ (PO _ _ _)))))).sub (TC _ (TR _)), rfl⟩
  have m8 := h3;refine rskip (pst_next (rr ?_));refine sd (dlb 47 0 0 b3 (.slice a6 vs.length a7)) ?_;refine sp 1 [(48, .int .i64 ((Y.tracks.getD (0) []).getD (k) 0))] ?_;refine sS (sbs 49 3 1 #[.int .i64 ((Y.tracks.getD (0) []).getD (k) 0)] (fun d3 => ?_));refine sS (sbs 50 23 1 #[.slice (some ⟨d3, 0, none⟩) 1 1] (fun p8 => ?_));refine pm (M' := ((p8, Obj.cells #[.slice (some ⟨d3, 0, none⟩) 1 1] 23 (0, 0)) :: (b3, Obj.cells #[.slice a6 vs.length a7] 24 (0, 0)) :: (b1, Obj.cells #[.slice a0 Y.cars.length a1, .slice a4 Y.room.length a5, .slice a2 Y.tracks.length a3] 26 (0, 0)) :: ([(d3, Obj.cells #[.int .i64 ((Y.tracks.getD (0) []).getD (k) 0)] 3 (0, 0))] ++ (bM ++ (eM ++ F))))) (PC _ ((PS _ _ _).trans (PC _ (PS _ _ _)))) ?_;have n1 : Own 3 1 intCell (.slice (some ⟨d3, 0, none⟩) 1 1) ([((Y.tracks.getD (0) []).getD (k) 0 : Int)] : List Int) [(d3, Obj.cells #[.int .i64 ((Y.tracks.getD (0) []).getD (k) 0)] 3 (0, 0))] := Own.lit rfl rfl;refine sS (stp_append (d := 51) (x := (.tmp 47)) (y := (.tmp 50)) (T := 24) (T' := 24) (E := 23) (E' := 23) (sz := 1) (bs := 24) (z := .slice none 0 0) (cell := valCell) (xs := vs) (ys := [(.slice (some ⟨d3, 0, none⟩) 1 1 : Value)]) (Ms := bM) (ty := 24) (gd := none) (by kernel_rfl) rfl (by kernel_rfl) (by kernel_rfl) (by kernel_rfl) (by kernel_rfl) (by kernel_rfl) (by decide) (by kernel_rfl) rfl rfl (bo) ((PC _ ((PC _ ((PC _ (PO _ _ _)).trans (PM.symm))).trans (PM.symm))).trans (PM.symm)) (one_valCell rfl) (src_atS 0 rfl rfl) (by first | omega | (simp only [LC, LN, LA, LK, LD]; omega)) (fun x0 e7 h9 => ?_));refine seq_mem (M' := ((b3, Obj.cells #[.slice a6 vs.length a7] 24 (0, 0)) :: (b1, Obj.cells #[.slice a0 Y.cars.length a1, .slice a4 Y.room.length a5, .slice a2 Y.tracks.length a3] 26 (0, 0)) :: (e7 ++ ([(d3, Obj.cells #[.int .i64 ((Y.tracks.getD (0) []).getD (k) 0)] 3 (0, 0))] ++ (eM ++ F))))) (fun w h => (h.perm (List.perm_middle.trans (PC _ (List.perm_middle.trans (PC _ PM))))).sub (TC _ (TR _))) ?_;obtain ⟨g0, g2, n7, q8⟩ := h9.shape;subst n7;have f1 := OwnEach.snoc h5 n1;obtain ⟨eM20, heM20_d⟩ : ∃ X, X = eM ++ [(d3, Obj.cells #[.int .i64 ((Y.tracks.getD (0) []).getD (k) 0)] 3 (0, 0))] := ⟨_, rfl⟩; rw [← heM20_d] at f1;refine seq_mem (I' := I) (M' := ((eM20 ++ (b3, Obj.cells #[.slice a6 vs.length a7] 24 (0, 0)) :: (b1, Obj.cells #[.slice a0 Y.cars.length a1, .slice a4 Y.room.length a5, .slice a2 Y.tracks.length a3] 26 (0, 0)) :: (e7 ++ F)))) (fun w h => ?_) ?_
  ·have h2 := h.perm (((PC _ ((PC _ ((PA _ (PO _ _ _)).trans (PO _ _ _))).trans (PM.symm))).trans (PM.symm)).trans (PA _ ((PC _ ((PC _ (PO _ _ _)).trans (PM.symm))).trans (PM.symm))));simp only [← AA] at h2;have h3 := St.permL (A' := eM20) (A := eM ++ [(d3, Obj.cells #[.int .i64 ((Y.tracks.getD (0) []).getD (k) 0)] 3 (0, 0))]) (by simpa only [AA, List.append_nil] using (heM20_d ▸ PR _)) (by simpa only [AA] using h2)
   simpa only [AA] using h3
  refine pm (M' := ((b3, Obj.cells #[.slice a6 vs.length a7] 24 (0, 0)) :: (b1, Obj.cells #[.slice a0 Y.cars.length a1, .slice a4 Y.room.length a5, .slice a2 Y.tracks.length a3] 26 (0, 0)) :: (eM20 ++ (e7 ++ F)))) (List.perm_middle.trans (PC _ PM)) ?_;refine sS (ss 0 0 b3 [.slice g0 (vs ++ ([(.slice (some ⟨d3, 0, none⟩) 1 1 : Value)])).length g2] [.slice g0 (vs ++ ([(.slice (some ⟨d3, 0, none⟩) 1 1 : Value)])).length g2] (_ :: _ :: _) (cs := [_]) rfl rfl ?_);refine ee (pst_normal_block (pst_next (rr ?_)));refine sd (da 52 (↑k) (1)) ?_;refine sp 1 [(23, .int .i64 (↑k + 1))] ?_;refine ee ?_;refine pst_back ((Y.tracks.getD (0) []).length - (k+1)) (by omega) ?_;intro a w hS hD hW;exact ⟨k+1, (.slice g0 (vs ++ ([(.slice (some ⟨d3, 0, none⟩) 1 1 : Value)])).length g2), vs ++ ([(.slice (some ⟨d3, 0, none⟩) 1 1 : Value)]), e7, eM20, by omega, h9, (by rw [blocksTo_no h3]; exact f1), hS.sub (.consE 23 rfl rfl (.cons 1 rfl (.cons 2 rfl (.cons 3 rfl (.cons 4 rfl (.cons 6 rfl (.cons 7 rfl (.cons 21 rfl (.cons 22 rfl (.nil _)))))))))), hD, hW.perm (PC _ (PC _ (PO _ _ _))), rfl⟩
 have m7 := h2;have h2 := lss_f h2;refine rexit 0 ?_;refine (pst_exit_pass (pst_exit_pass (pst_exit_block ?_)));refine pst_next (rq ?_);have q4 : k = (Y.tracks.getD (0) []).length := by omega
 rw [show blocksTo Y.cars (Y.tracks.getD (0) []) k = blocksOf Y.cars (Y.tracks.getD (0) []) from by rw [q4]; rfl] at h5;refine rn_freezeEach (B := ((b3, Obj.cells #[.slice a6 vs.length a7] 24 (0, 0)) :: (b1, Obj.cells #[.slice a0 Y.cars.length a1, .slice a4 Y.room.length a5, .slice a2 Y.tracks.length a3] 26 (0, 0)) :: (bM ++ F))) h5 (by intro xs hx; have := p0 xs hx; omega) ((PC _ ((PC _ (PO _ _ _)).trans (PM.symm))).trans (PM.symm)) (PR _) (fun t9 d2 c8 => ?_);replace a8 := a8.mono d2;replace a9 := a9.mono d2;replace b0 := b0.mono d2;have d6 := c8.1
 try simp only [LS, LA, LC, LN, LK] at d6
 refine rr ?_;refine sS (sal 10 24 #[.slice none 0 0] (fun c2 => ?_));refine sn ?_;refine sS (sal 11 132 #[.nilFunc] (fun d4 => ?_));refine sn ?_;refine sp 1 [(53, .func (.func 101) #[] #[.pointer (some ⟨b3, 0, none⟩), .pointer (some ⟨c2, 0, none⟩), .pointer (some ⟨d4, 0, none⟩)])] ?_;refine sS (ss 0 0 d4 [.func (.func 101) #[] #[.pointer (some ⟨b3, 0, none⟩), .pointer (some ⟨c2, 0, none⟩), .pointer (some ⟨d4, 0, none⟩)]] [.func (.func 101) #[] #[.pointer (some ⟨b3, 0, none⟩), .pointer (some ⟨c2, 0, none⟩), .pointer (some ⟨d4, 0, none⟩)]] (_ :: _ :: _ :: _ :: _) (cs := [_]) rfl rfl ?_);refine se (rq ?_);refine rn_freeze (B := ((d4, Obj.cells #[.func (.func 101) #[] #[.pointer (some ⟨b3, 0, none⟩), .pointer (some ⟨c2, 0, none⟩), .pointer (some ⟨d4, 0, none⟩)]] 132 (0, 0)) :: (c2, Obj.cells #[.slice none 0 0] 24 (0, 0)) :: (b3, Obj.cells #[.slice a6 vs.length a7] 24 (0, 0)) :: (b1, Obj.cells #[.slice a0 Y.cars.length a1, .slice a4 Y.room.length a5, .slice a2 Y.tracks.length a3] 26 (0, 0)) :: F)) undef bo (by first | omega | (simp only [LS, LC, LN, LA, LK, LD] <;> omega) | decide) ((PC _ ((PC _ ((PC _ (PM.symm)).trans (PM.symm))).trans (PM.symm))).trans (PM.symm)) (PR _) (fun u1 c5 e0 => ?_);replace a8 := a8.mono c5;replace a9 := a9.mono c5;replace b0 := b0.mono c5;replace c8 := c8.mono c5;obtain ⟨l1, l3, l2, l6, f6, l4, l5, l7⟩ := id e0;cases f6;have b2 := c8.isRows e0;have g7 := c8.1;obtain ⟨j5, j7, j6, k0, i6, f4, j8, j9, k1, k2⟩ := id b2
 injection f4 with fr31_e1 fr31_e2 fr31_e3; subst fr31_e1; subst fr31_e3
 refine run_hold (b := b3) (o := Obj.cells #[.slice a6 vs.length a7] 24 (0, 0)) (M0 := ((d4, Obj.cells #[.func (.func 101) #[] #[.pointer (some ⟨b3, 0, none⟩), .pointer (some ⟨c2, 0, none⟩), .pointer (some ⟨d4, 0, none⟩)]] 132 (0, 0)) :: (c2, Obj.cells #[.slice none 0 0] 24 (0, 0)) :: (b1, Obj.cells #[.slice a0 Y.cars.length a1, .slice a4 Y.room.length a5, .slice a2 Y.tracks.length a3] 26 (0, 0)) :: F)) ((PC _ (PS _ _ _)).trans (PS _ _ _)) (fun u2 c6 b4 => ?_);replace a8 := a8.mono c6;replace a9 := a9.mono c6;replace b0 := b0.mono c6;replace b2 := b2.mono c6;refine run_hold (b := d4) (o := Obj.cells #[.func (.func 101) #[] #[.pointer (some ⟨b3, 0, none⟩), .pointer (some ⟨c2, 0, none⟩), .pointer (some ⟨d4, 0, none⟩)]] 132 (0, 0)) (M0 := ((c2, Obj.cells #[.slice none 0 0] 24 (0, 0)) :: (b1, Obj.cells #[.slice a0 Y.cars.length a1, .slice a4 Y.room.length a5, .slice a2 Y.tracks.length a3] 26 (0, 0)) :: F)) (PR _) (fun p5 c0 b5 => ?_);replace a8 := a8.mono c0;replace a9 := a9.mono c0;replace b0 := b0.mono c0;replace b2 := b2.mono c0;replace b4 := c0.blk _ _ b4;refine rr ?_;refine sd (det_load (v := .func (.func 101) #[] #[.pointer (some ⟨b3, 0, none⟩), .pointer (some ⟨c2, 0, none⟩), .pointer (some ⟨d4, 0, none⟩)]) (x := (.tmp 11)) (T := 132) (d := 54) (ty := 132) (gd := none) (by kernel_rfl) rfl (by kernel_rfl) rfl (sees_held b5 rfl)) ?_;refine sS (stp_makeMap (d := 55) (T := 133) (ty := 133) (gd := none) (by kernel_rfl) rfl (fun f3 => ?_));have g9 := grow_all (blocksOf Y.cars (Y.tracks.getD (0) [])).length p5 (.slice none 0 0) [] f3 #[] 0 [] b3 c2 d4 _ (blocksOf Y.cars (Y.tracks.getD (0) [])) (.slice none 0 0) [] [] [] b4 b5 b2 (IsSl.nil _) (MapIs.nil _) (Own.nil _ _ _) (RowsV.nil _) (by simp) q5 p0 (by simp) (by simp only [LN]; omega);refine sS (stp_call (d := (some 56)) (f := (.tmp 54)) (fid := 101) (args := #[(.const (.slice none 0 0)), (.tmp 55)]) (tys := #[23, 133]) (cv := [.pointer (some ⟨b3, 0, none⟩), .pointer (some ⟨c2, 0, none⟩), .pointer (some ⟨d4, 0, none⟩)]) (F := ((b1, Obj.cells #[.slice a0 Y.cars.length a1, .slice a4 Y.room.length a5, .slice a2 Y.tracks.length a3] 26 (0, 0)) :: F)) (ty := 0) (gd := none) (by kernel_rfl) rfl rfl rfl (by kernel_rfl) rfl g9 (by simpa only [AA, CA, NA] using (PR _)) (fun r6 u3 r3 c1 n2 => ?_));obtain ⟨g5, g4, u6, c9, o7, rfl, i8, q2, o8, g6⟩ := n2;replace a8 := a8.mono c1;replace a9 := a9.mono c1;replace b0 := b0.mono c1;replace b4 := c1.blk _ _ b4;replace b5 := c1.blk _ _ b5;rw [i8]; clear i8;obtain ⟨d0, d1, m5, q3⟩ := o8.shape; subst m5;have e9 := g6.1
 try simp only [LS, LA, LC, LN, LK] at e9
 rw [NA] at g6;refine seq_mem (M' := ((f3, Obj.map g5 g4) :: (c2, Obj.cells #[.slice d0 c9.length d1] 24 (0, 0)) :: (o7 ++ (b1, Obj.cells #[.slice a0 Y.cars.length a1, .slice a4 Y.room.length a5, .slice a2 Y.tracks.length a3] 26 (0, 0)) :: F))) (fun w h => by simpa only [AA, CA, NA] using h) ?_;refine pm (M' := ((f3, Obj.map g5 g4) :: (c2, Obj.cells #[.slice d0 c9.length d1] 24 (0, 0)) :: (b1, Obj.cells #[.slice a0 Y.cars.length a1, .slice a4 Y.room.length a5, .slice a2 Y.tracks.length a3] 26 (0, 0)) :: (o7 ++ F))) (PC _ (PC _ PM)) ?_;show Seq _ _ _ _ _ _ ((56, .tuple #[]) :: _) _ _;refine sn ?_;refine sd (dlb 57 1 0 c2 (.slice d0 c9.length d1)) ?_;refine sp 1 [(58, .func (.func 104) #[] #[.pointer (some ⟨b1, 0, none⟩)])] ?_;refine sfz (A := ((f3, Obj.map g5 g4) :: (c2, Obj.cells #[.slice d0 c9.length d1] 24 (0, 0)) :: (b1, Obj.cells #[.slice a0 Y.cars.length a1, .slice a4 Y.room.length a5, .slice a2 Y.tracks.length a3] 26 (0, 0)) :: F)) undef o8 ((PC _ ((PC _ (PM.symm)).trans (PM.symm))).trans (PM.symm)) (fun u4 b6 e1 => ?_);replace a8 := a8.mono b6;replace a9 := a9.mono b6;replace b0 := b0.mono b6;replace b4 := b6.blk _ _ b4;replace b5 := b6.blk _ _ b5;replace g6 := g6.mono b6;obtain ⟨l8, m0, l9, m3, f7, m1, m2, m4⟩ := id e1;cases f7;have c4 := g6.isRows e1;have g8 := g6.1;obtain ⟨k3, k5, k4, k8, i7, f5, k6, k7, k9, l0⟩ := id c4
 injection f5 with fr49_e1 fr49_e2 fr49_e3; subst fr49_e1; subst fr49_e3
 refine seq_hold (b := b1) (o := Obj.cells #[.slice a0 Y.cars.length a1, .slice a4 Y.room.length a5, .slice a2 Y.tracks.length a3] 26 (0, 0)) (M0 := ((f3, Obj.map g5 g4) :: (c2, Obj.cells #[.slice d0 c9.length d1] 24 (0, 0)) :: F)) ((PC _ (PS _ _ _)).trans (PS _ _ _)) (fun p6 b7 d5 => ?_);replace a8 := a8.mono b7;replace a9 := a9.mono b7;replace b0 := b0.mono b7;replace b4 := b7.blk _ _ b4;replace b5 := b7.blk _ _ b5;replace c4 := c4.mono b7;have h0 := least_ct p6 _ (growM (blocksOf Y.cars (Y.tracks.getD (0) [])) (blocksOf Y.cars (Y.tracks.getD (0) [])).length [] []) b1 _ _ _ Y d5 a8 a9 b0 c4 i9 (by omega) j0;refine sS (stp_call (d := (some 59)) (f := (.func 103)) (fid := 103) (args := #[(.tmp 57), (.tmp 58), (.func 106)]) (tys := #[24, 137, 138]) (cv := []) (F := ((f3, Obj.map g5 g4) :: (c2, Obj.cells #[.slice d0 c9.length d1] 24 (0, 0)) :: F)) (ty := 23) (gd := none) (by kernel_rfl) rfl rfl rfl (by kernel_rfl) rfl h0 (PR _) (fun r7 p7 r4 b8 n3 => ?_));obtain ⟨i8, e4⟩ := n3;replace a8 := a8.mono b8;replace a9 := a9.mono b8;replace b0 := b0.mono b8;replace b4 := b8.blk _ _ b4;replace b5 := b8.blk _ _ b5;replace d5 := b8.blk _ _ d5;subst i8;obtain ⟨d7, d8, r9, s2, n9, s0, s1, s3⟩ := id e4;subst n9;refine nm ?_;show Seq _ _ _ _ _ _ ((59, .slice d7 (minF (warmCmp Y.cars) ((growM (blocksOf Y.cars (Y.tracks.getD (0) [])) (blocksOf Y.cars (Y.tracks.getD (0) [])).length [] []).drop 1) ((growM (blocksOf Y.cars (Y.tracks.getD (0) [])) (blocksOf Y.cars (Y.tracks.getD (0) [])).length [] []).getD 0 [])).length d8) :: _) _ _;refine sp 1 [(2, .slice d7 (minF (warmCmp Y.cars) ((growM (blocksOf Y.cars (Y.tracks.getD (0) [])) (blocksOf Y.cars (Y.tracks.getD (0) [])).length [] []).drop 1) ((growM (blocksOf Y.cars (Y.tracks.getD (0) [])) (blocksOf Y.cars (Y.tracks.getD (0) [])).length [] []).getD 0 [])).length d8)] ?_;refine sn ?_;refine sp 1 [(60, .slice d7 (minF (warmCmp Y.cars) ((growM (blocksOf Y.cars (Y.tracks.getD (0) [])) (blocksOf Y.cars (Y.tracks.getD (0) [])).length [] []).drop 1) ((growM (blocksOf Y.cars (Y.tracks.getD (0) [])) (blocksOf Y.cars (Y.tracks.getD (0) [])).length [] []).getD 0 [])).length d8)] ?_;refine sd (det_loadN (x := (.tmp 1)) (T := 26) (n := 3) (vs := [.slice a0 Y.cars.length a1, .slice a4 Y.room.length a5, .slice a2 Y.tracks.length a3]) (d := 61) (ty := 26) (gd := none) (by kernel_rfl) rfl (by kernel_rfl) (by kernel_rfl) rfl rfl (seesN_held (n := 3) d5 rfl)) ?_;refine sp 1 [(62, .slice d7 (minF (warmCmp Y.cars) ((growM (blocksOf Y.cars (Y.tracks.getD (0) [])) (blocksOf Y.cars (Y.tracks.getD (0) [])).length [] []).drop 1) ((growM (blocksOf Y.cars (Y.tracks.getD (0) [])) (blocksOf Y.cars (Y.tracks.getD (0) [])).length [] []).getD 0 [])).length d8)] ?_;have v3 := j0 _ (minF_in (f := warmCmp Y.cars) i9);have h4 := cold_ct p7 _ (Y) _ _ (mkYard a8 a9 b0) e4 (by exact (j0 _ (minF_in (f := warmCmp Y.cars) i9)).1) (by exact (j0 _ (minF_in (f := warmCmp Y.cars) i9)).2);refine sS (sc (some 63) (h4 :) (.refl _) (fun r8 u5 r5 c7 n4 => ?_));obtain ⟨v8, j1, i0, h7, n8⟩ := n4;rw [i0, h7]; clear i0 h7;replace b4 := c7.blk _ _ b4;replace b5 := c7.blk _ _ b5;replace d5 := c7.blk _ _ d5;replace e4 := e4.mono c7;obtain ⟨p1, p2, i4, p3⟩ := n8.shape;subst i4;refine pm (M' := ((f3, Obj.map g5 g4) :: (c2, Obj.cells #[.slice d0 c9.length d1] 24 (0, 0)) :: (j1 ++ F))) (List.perm_middle.trans (PC _ PM)) ?_;refine sp 4 [(4, .int .i64 (0)), (3, .int .i64 (↑((coldOf Y.cars (minF (warmCmp Y.cars) ((growM (blocksOf Y.cars (Y.tracks.getD (0) [])) (blocksOf Y.cars (Y.tracks.getD (0) [])).length [] []).drop 1) ((growM (blocksOf Y.cars (Y.tracks.getD (0) [])) (blocksOf Y.cars (Y.tracks.getD (0) [])).length [] []).getD 0 []))).length))), (2, .slice d7 (minF (warmCmp Y.cars) ((growM (blocksOf Y.cars (Y.tracks.getD (0) [])) (blocksOf Y.cars (Y.tracks.getD (0) [])).length [] []).drop 1) ((growM (blocksOf Y.cars (Y.tracks.getD (0) [])) (blocksOf Y.cars (Y.tracks.getD (0) [])).length [] []).getD 0 [])).length d8)] ?_;refine se (rret ?_);refine pst_ret3 (t := 2) (u := 3) (r := 4) [] (by kernel_rfl) rfl rfl rfl (TC _ (TC _ (TT (TR _) (TB _ _)))) (Imm.le.trans (Imm.le.trans (Imm.le.trans (Imm.le.trans (Imm.le.trans (Imm.le.trans (Imm.le.trans (Imm.le.trans d2 c5) c6) c0) c1) b6) b7) b8) c7) ?_;exact ⟨_, (congrArg (fun p : List Int × Int × Int => Value.tuple #[.slice d7 p.1.length d8, .int .i64 p.2.1, .int .i64 p.2.2]) (warmE_ok n5).symm), rfl, ((show minF (warmCmp Y.cars) ((growM (blocksOf Y.cars (Y.tracks.getD (0) [])) (blocksOf Y.cars (Y.tracks.getD (0) [])).length [] []).drop 1) ((growM (blocksOf Y.cars (Y.tracks.getD (0) [])) (blocksOf Y.cars (Y.tracks.getD (0) [])).length [] []).getD 0 []) = (warmE Y).1 from (congrArg Prod.fst (warmE_ok n5)).symm) ▸ e4)⟩

end Go.Proofs.YtcaocbhbofejnaaGreatDoor
namespace Go.Sl
open Go
section
variable {P : Program} {N : Nat} {ops : Array Oper} {i : Nat} {l : Sl} {I : Imm} {M : Seg} {ty : TypeId} {gd : Option (Nat × Bool)} {K : Sl → Imm → Seg → Prop} {κ : Type} [DecidableEq κ] {enc : κ → Value}
theorem stp_insert {x y u : Operand} {T kt et r cl : Nat} {es : Array MapEntry} {kvs : List (κ × Value)} {k : κ} {v : Value} (n : Nat) (hop : opAt ops N i = some (none, .insert T x y u, ty, gd)) (hg : gval ops l gd = some true)
    (hT : tyMap P T = some (kt, et)) (hK : KeyOk P kt enc) (hx : oval l x = some (.map (some r))) (hy : oval l y = some (enc k)) (hu : oval l u = some v) (hn : M[n]? = some (r, Obj.map es cl)) (his : MapIs enc es kvs)
    (h : ∀ es' cl', MapIs enc es' (upd k v kvs) → K l I (M.set n (r, Obj.map es' cl'))) : Stp P N ops i l I M K :=
  stp_of_wpL hop hg (known3 hx hy hu) (by
    show wpL P (Instr.mapUpdate T (rho l x) (rho l y) (rho l u) >>= fun _ => pure Next.skip) _ I M
    rw [rho_of hx, rho_of hy, rho_of hu, wpL_bind]
    unfold Instr.mapUpdate
    rw [wpL_bind, wpL_underlying (tyMap_spec hT)]
    show wpL P (Sem.getObj r _) _ I M
    refine ⟨_, .inl (List.mem_of_getElem? hn), rfl, ?_⟩
    show wpL P (Instr.checkKey _ _ _ _ >>= _) _ I _
    rw [wpL_bind]
    refine hK.check _ _ _ _ _ ?_
    rw [wpL_bind]
    refine hK.find k es.toList kvs _ _ _ his ?_
    have hf := findKv_upd k v kvs 0
    cases hkv : findKv k kvs 0 with
    | none =>
      rw [hkv] at hf
      simp only at hf
      show wpL P (Sem.setObj r _ _) _ I M
      refine wpL_setObj n rfl hn rfl ?_
      refine ⟨undef, .inr ⟨rfl, rfl⟩, h _ _ ?_⟩
      rw [hf.1]
      exact mapIs_push his k v cl
    | some p =>
      obtain ⟨j, w⟩ := p
      rw [hkv] at hf
      simp only [Nat.sub_zero] at hf
      obtain ⟨_, h1, _, h2⟩ := hf
      have hold : ((es[j]?).map (·.key)).getD (enc k) = enc k := by
        have := congrArg (fun l => (l[j]?).map Prod.fst) his
        simp only [List.getElem?_map, Array.getElem?_toList, Option.map_map] at this
        cases he : es[j]? with
        | none => rfl
        | some e =>
          rw [he] at this
          cases hq : kvs[j]? with
          | none => rw [hq] at this; simp at this
          | some q =>
            rw [hq] at this h2
            simp [entOf] at this h2
            simp [this, h2]
      have key : ∀ key, key = enc k → wpL P (Sem.setObj r (.map (es.modify j fun e => { e with key, val := v }) cl) (Sem.pure ())) (fun _ M' => wpL P (pure Next.skip) (fun n M' => ∃ v, (n = .value v ∨ (n = .skip ∧ v = undef)) ∧ K (ups none v l) I M') I M') I M := fun key hkey => by
        refine wpL_setObj n rfl hn rfl ?_
        refine ⟨undef, .inr ⟨rfl, rfl⟩, h _ _ ?_⟩
        rw [h1]
        exact mapIs_set his j k v key hkey
      show wpL P (Instr.keyThatStays (((es[j]?).map (·.key)).getD (enc k)) (enc k) >>= _) _ I M
      rw [wpL_bind, hold]
      unfold Instr.keyThatStays
      split
      · exact key _ rfl
      · rw [wpL_bind]
        show (if (Question.extern "map.whichKeyStays" 2).forced then _ else ∀ t, _)
        split
        · refine key _ ?_; split <;> rfl
        · intro t; refine key _ ?_; split <;> rfl)

end
theorem decI_t {p : Prop} {i : Decidable p} (h : @decide p i = true) : p := of_decide_eq_true h
theorem decI_f {p : Prop} {i : Decidable p} (h : @decide p i = false) : ¬ p := of_decide_eq_false h
def NoR : Imm → Seg → Prop := fun _ M => M = []
end Go.Sl
namespace Go.Sh
open Go Go.Sl
def YardH (T : TypeId) (I : Imm) (v : Value) (Y : Yard) : Prop :=
  ∃ b v1 v2 v3, v = .pointer (some ⟨b, 0, none⟩) ∧ I.blk b = some (Obj.cells #[v1, v2, v3] T (0, 0)) ∧ IsCars I v1 Y.cars ∧ IsInts I v2 Y.room ∧ IsRows I v3 Y.tracks
theorem YardH.mono {T : TypeId} {I J : Imm} {v : Value} {Y : Yard} (h : YardH T I v Y) (le : I.le J) : YardH T J v Y := by
  obtain ⟨b, v1, v2, v3, h1, h2, h3, h4, h5⟩ := h
  exact ⟨b, v1, v2, v3, h1, le.blk _ _ h2, h3.mono le, h4.mono le, h5.mono le⟩
def YardsH (T : TypeId) (I : Imm) (vs : List Value) (zs : List Yard) : Prop := vs.length = zs.length ∧ ∀ i, i < zs.length → YardH T I (vs.getD i undef) (zs.getD i noYard)
theorem YardsH.mono {T : TypeId} {I J : Imm} {vs : List Value} {zs : List Yard} (h : YardsH T I vs zs) (le : I.le J) : YardsH T J vs zs := ⟨h.1, fun i hi => (h.2 i hi).mono le⟩
theorem YardsH.nil (T : TypeId) (I : Imm) : YardsH T I [] [] := ⟨rfl, fun i hi => by simp at hi⟩
theorem YardsH.snoc {T : TypeId} {I : Imm} {vs : List Value} {zs : List Yard} (h : YardsH T I vs zs) {v : Value} {Z : Yard} (hz : YardH T I v Z) : YardsH T I (vs ++ [v]) (zs ++ [Z]) := by
  refine ⟨by simp [h.1], fun i hi => ?_⟩
  have hl := h.1
  by_cases e : i < zs.length
  · have := h.2 i e
    simp only [List.getD] at this ⊢
    rw [List.getElem?_append_left (by omega), List.getElem?_append_left e]; exact this
  · simp only [List.length_append, List.length_cons, List.length_nil] at hi
    have e2 : i = zs.length := by omega
    subst e2
    simp only [List.getD]
    rw [List.getElem?_append_right (by omega), List.getElem?_append_right (by omega), hl]
    simpa using hz
theorem YardH.mk {T : TypeId} {I : Imm} {b : Nat} {v1 v2 v3 : Value} {Y : Yard} (h2 : I.blk b = some (Obj.cells #[v1, v2, v3] T (0, 0))) (h3 : IsCars I v1 Y.cars) (h4 : IsInts I v2 Y.room) (h5 : IsRows I v3 Y.tracks) :
    YardH T I (.pointer (some ⟨b, 0, none⟩)) Y := ⟨b, v1, v2, v3, rfl, h2, h3, h4, h5⟩

structure VisOk (A : Yard) (s : List Place × List Yard) : Prop where
  met : ∃ m : List Yard, s.1 = m.map placeOf ∧ (∀ y ∈ m, Kin A y) ∧ (m.map Yard.tracks).Nodup
  kin : ∀ y ∈ s.2, Kin A y
  le : s.2.length ≤ s.1.length
theorem VisOk.count {A : Yard} {s : List Place × List Yard} (h : VisOk A s) (f : Fine A) : s.1.length ≤ 5000 ∧ s.2.length ≤ 5000 := by
  obtain ⟨m, e, hk, hn⟩ := h.met
  have hs : m.map Yard.tracks ⊆ allCuts A.tracks.length 5 A.tracks.flatten := fun t ht => by
    obtain ⟨y, hy, rfl⟩ := List.mem_map.1 ht
    exact kin_mem f (hk y hy) f.sum
  have := hn.length_le_of_subset hs
  rw [List.length_map, allCuts_length] at this
  have hf : fact A.tracks.flatten.length ≤ 120 := by
    match A.tracks.flatten.length, f.sum with
    | 0, _ | 1, _ | 2, _ | 3, _ | 4, _ | 5, _ => decide
  have h2 : fact A.tracks.flatten.length * ((5 + 1) * (5 + 1)) ≤ 120 * 36 := Nat.mul_le_mul_right 36 hf
  have h3 : s.1.length = m.length := by rw [e, List.length_map]
  have := h.le
  omega
theorem VisOk.visit {A : Yard} {s : List Place × List Yard} {z : Yard} (h : VisOk A s) (f : Fine A) (hz : Kin A z) : VisOk A (visit s z) := by
  obtain ⟨m, e, hk, hn⟩ := h.met
  have hle := h.le
  unfold Go.Sh.visit
  split
  · exact h
  · rename_i hm
    refine ⟨⟨m ++ [z], by simp [e], fun y hy => ?_, ?_⟩, fun y hy => ?_, by simp only [List.length_append, List.length_cons, List.length_nil]; omega⟩
    · rcases List.mem_append.1 hy with hy | hy
      · exact hk y hy
      · simp at hy; subst hy; exact hz
    · rw [List.map_append]
      refine List.nodup_append.2 ⟨hn, by simp, fun a ha b hb => ?_⟩
      simp at hb; subst hb
      intro e2
      obtain ⟨y, hy, rfl⟩ := List.mem_map.1 ha
      have := kin_tracks (hk y hy) hz e2
      subst this
      exact hm (e ▸ List.mem_map_of_mem hy)
    · rcases List.mem_append.1 hy with hy | hy
      · exact h.kin y hy
      · simp at hy; subst hy; exact hz
theorem VisOk.visitAll {A : Yard} (f : Fine A) : ∀ (zs : List Yard) (s : List Place × List Yard), VisOk A s → (∀ z ∈ zs, Kin A z) → VisOk A (visitAll zs s) := by
  intro zs
  induction zs with
  | nil => intro s h _; exact h
  | cons z r ih => intro s h hk; exact ih _ (h.visit f (hk z List.mem_cons_self)) (fun y hy => hk y (List.mem_cons_of_mem _ hy))
theorem VisOk.fresh {A : Yard} {s : List Place × List Yard} (h : VisOk A s) : VisOk A (s.1, []) := ⟨h.met, fun y hy => by simp at hy, Nat.zero_le _⟩
theorem VisOk.start (A : Yard) : VisOk A ([placeOf A], [A]) := ⟨⟨[A], rfl, fun y hy => by simp at hy; subst hy; exact Kin.refl _, by simp⟩, fun y hy => by simp at hy; subst hy; exact Kin.refl _, by simp⟩
def visJ (met : List Place) (now : List Yard) (j : Nat) : List Place × List Yard := visitAll ((now.take j).flatMap nexts) (met, [])
theorem visJ_zero (met : List Place) (now : List Yard) : visJ met now 0 = (met, []) := by simp [visJ, visitAll]
theorem visJ_succ {met : List Place} {now : List Yard} {j : Nat} (h : j < now.length) : visJ met now (j + 1) = visitAll (nexts (now.getD j noYard)) (visJ met now j) := by
  unfold visJ; rw [take_snoc (d := noYard) h, List.flatMap_append, visitAll_append]; simp
theorem visJ_done {met : List Place} {now : List Yard} {j : Nat} (h : now.length ≤ j) : visJ met now j = roundM now met := by
  unfold visJ roundM; rw [take_done h]
def visX (s : List Place × List Yard) (x : Yard) (xs : List Shift) : List Place × List Yard := visitAll (xs.map (moved x)) s
theorem visX_snoc (s : List Place × List Yard) (x : Yard) (xs : List Shift) (d : Shift) : visX s x (xs ++ [d]) = visit (visX s x xs) (moved x d) := by
  unfold visX; rw [List.map_append, visitAll_append]; rfl
theorem VisOk.j {A : Yard} (f : Fine A) {met : List Place} {now : List Yard} (h : VisOk A (met, now)) (j : Nat) : VisOk A (visJ met now j) :=
  VisOk.visitAll f _ _ h.fresh (flat_kin fun y hy => h.kin y (List.mem_of_mem_take hy))
theorem VisOk.x {A : Yard} (f : Fine A) {s : List Place × List Yard} {x : Yard} (h : VisOk A s) (hx : Kin A x) {xs : List Shift} (hp : xs <+: draws x) : VisOk A (visX s x xs) :=
  VisOk.visitAll f _ _ h fun y hy => by
    obtain ⟨d, hd, rfl⟩ := List.mem_map.1 hy
    exact hx.moved (mem_draws_may (hp.subset hd))
theorem VisOk.round {A : Yard} (f : Fine A) {met : List Place} {now : List Yard} (h : VisOk A (met, now)) : VisOk A (roundM now met) := VisOk.visitAll f _ _ h.fresh (flat_kin h.kin)
def reachE (Y : Yard) (d : Int) : Int × Int := if checkErr Y = 0 then (if inB d 0 4 then (reach Y d.toNat, 0) else (0, 1)) else (0, checkErr Y)
theorem reachE_bad {Y : Yard} {d : Int} (h : checkErr Y ≠ 0) : reachE Y d = (0, checkErr Y) := if_neg h
theorem reachE_far {Y : Yard} {d : Int} (h : Valid Y) (hd : inB d 0 4 = false) : reachE Y d = (0, 1) := (if_pos h).trans (if_neg (by rw [hd]; simp))
theorem reachE_ok {Y : Yard} {d : Int} (h : Valid Y) (hd : inB d 0 4 = true) : reachE Y d = (reach Y d.toNat, 0) := (if_pos h).trans (if_pos hd)
end Go.Sh
namespace Go.Sh
open Go Go.Sl
theorem visit_old {s : List Place × List Yard} {z : Yard} (h : placeOf z ∈ s.1) : visit s z = s := if_pos h
theorem visit_new {s : List Place × List Yard} {z : Yard} (h : ¬ placeOf z ∈ s.1) : visit s z = (s.1 ++ [placeOf z], s.2 ++ [z]) := if_neg h
theorem reach_step {met : List Place} {zs : List Yard} {d k j : Nat} (hk : k < d) (hj : zs.length ≤ j) : reachM (d - k) met zs = reachM (d - (k + 1)) (visJ met zs j).1 (visJ met zs j).2 := by
  rw [visJ_done hj, show d - k = (d - (k + 1)) + 1 by omega]; rfl
theorem reach_end {Y : Yard} {met : List Place} {zs : List Yard} {d k : Nat} (h : reachM d [placeOf Y] [Y] = reachM (d - k) met zs) (hk : d ≤ k) : reach Y d = (met.length : Int) := by
  unfold reach; rw [h, show d - k = 0 by omega]; rfl
theorem prefix_left {α : Type} {xs ys : List α} {x : α} (h : (xs ++ [x]) <+: ys) : xs <+: ys := (List.prefix_append xs [x]).trans h
theorem Kin.lens {A Y : Yard} (f : Fine A) (k : Kin A Y) : Y.cars.length ≤ 1000000 ∧ Y.room.length ≤ 1000000 ∧ Y.tracks.length ≤ 1000000 := by
  have := k.cars5 f; have := k.len3 f; have := f.room3
  rw [k.room]; omega
end Go.Sh
namespace Go.Proofs.YtcaocbhbofejnaaGreatDoor
open Go Go.Sl Go.Sh
set_option maxRecDepth 100000
noncomputable def c_mayh (p : List Nat) : Code := sub (bodyOf Tryz.f92) p
theorem mayh_ct (I : Imm) (y : Nat) (y_1 y_2 y_3 : Value) (Y : Yard) (s : Shift) (y_b : I.blk y = some (Obj.cells #[y_1, y_2, y_3] 110 (0, 0))) (y_1f : IsCars I y_1 Y.cars) (y_2f : IsInts I y_2 Y.room) (y_3f : IsRows I y_3 Y.tracks) (ho : OkAll Y.cars Y.tracks) (hs : Small Y.cars) (hl : Y.room.length = Y.tracks.length) (hq : ∀ t ∈ Y.tracks, t.length ≤ 1000000) : Ct Tryz.prog 92 #[.pointer (some ⟨y, 0, none⟩), .agg #[.int .i64 s.frm, .int .i64 s.to, .int .i64 s.many]] I ([]) (fun v I' M' => v = errV (mayErr Y s) ∧ M' = []) := by
 have a2 := y_1f;obtain ⟨a5, a6, d8, e1, c3, d9, e0, e2⟩ := id a2;subst c3;have c7 := y_2f;obtain ⟨c4, c5, e3, e6, c6, e4, e5, a9⟩ := id c7;subst c6;have c9 := y_3f;obtain ⟨a3, a4, e7, f0, d7, c8, e8, e9, a1, a7⟩ := id c9;subst c8;have a0 : (Y.tracks).length = (Y.tracks).length := rfl;refine fr (args := [_, _]) (N := 120) Tryz.func92 (fun F => ?_);show Run _ _ (c_mayh []) _ _ [(0, .pointer (some ⟨y, 0, none⟩)), (1, .agg #[.int .i64 (s.frm), .int .i64 (s.to), .int .i64 (s.many)])] _ _;refine rnm (rqr ?_);refine sS (sb 3 52 #[.int .i64 (s.frm), .int .i64 (s.to), .int .i64 (s.many)] (fun b1 => ?_));refine sp 1 [(4, .nilIface)] ?_;refine se (rq (rqr ?_));refine sp 2 [(9, .pointer (some ⟨y, 0, none⟩))] ?_;refine sd (det_fieldAddr (x := (.tmp 9)) (T := 110) (k := 0) (o := 0) (d := 10) (ty := 0) (gd := none) (by kernel_rfl) rfl (by kernel_rfl) rfl) ?_;refine sd (det_fieldAddr (x := (.tmp 10)) (T := 26) (k := 2) (o := 2) (d := 11) (ty := 0) (gd := none) (by kernel_rfl) rfl (by kernel_rfl) rfl) ?_;refine sd (det_load (v := .slice a3 Y.tracks.length a4) (x := (.tmp 11)) (T := 24) (d := 12) (ty := 24) (gd := none) (by kernel_rfl) rfl (by kernel_rfl) rfl (sees_held y_b rfl)) ?_;refine sp 2 [(5, .int .i64 (↑(Y.tracks.length)))] ?_;refine se (rb 0 (rq (rqr ?_)));refine sp 1 [(15, .pointer (some ⟨b1, 0, none⟩))] ?_;refine sd (dlb 16 0 0 b1 (.int .i64 (s.frm))) ?_;refine sp 1 [(17, .int .i64 (↑(Y.tracks.length)))] ?_;refine sd (dsb 18 (↑(Y.tracks.length)) (1)) ?_;refine sd (dc 19 (fun I' hI => (in_ct I' (s.frm) (0) ((↑(Y.tracks.length)) - 1) :))) ?_;refine sp 2 [(14, .bool (!(inB s.frm 0 ((↑(Y.tracks.length)) - 1))))] ?_;refine se ?_;refine rc 14 rfl (fun h1 => ?_) (fun h1 => ?_)
 ·
  have b6 := h1;have h1 := not_t h1;have d0 := inB_f h1;refine rskip (pst_next ?_);refine run_re 14 rfl (congrArg Value.bool b6) ?_;refine rct 14 rfl ?_;refine rqr ?_;refine sp 3 [(4, .iface 167 (.agg #[.int .i64 (3)]))] ?_;refine se (rret ?_);refine (pst_ret_block (pst_ret_pass ?_));refine pst_ret1 (t := 4) [] (by kernel_rfl) rfl (TC _ (TR _)) (Imm.le.refl _) ?_;exact ⟨(show errV 3 = _ from congrArg errV (mayErr_1 a0 h1).symm), rfl⟩
 have b6 := h1;have h1 := not_f h1;have d0 := inB_t h1;refine rr ?_;refine sp 1 [(21, .pointer (some ⟨b1, 1, none⟩))] ?_;refine sd (dlb 22 0 1 b1 (.int .i64 (s.to))) ?_;refine sp 1 [(23, .int .i64 (↑(Y.tracks.length)))] ?_;refine sd (dsb 24 (↑(Y.tracks.length)) (1)) ?_;refine sd (dc 25 (fun I' hI => (in_ct I' (s.to) (0) ((↑(Y.tracks.length)) - 1) :))) ?_;refine sp 2 [(14, .bool (!(inB s.to 0 ((↑(Y.tracks.length)) - 1))))] ?_;refine se ?_;refine rc 14 rfl (fun h2 => ?_) (fun h2 => ?_)
 ·
  have d2 := h2;have h2 := not_t h2;have d1 := inB_f h2;refine rqr ?_;refine sp 3 [(4, .iface 167 (.agg #[.int .i64 (3)]))] ?_;refine se (rret ?_);refine (pst_ret_block (pst_ret_pass ?_));refine pst_ret1 (t := 4) [] (by kernel_rfl) rfl (TC _ (TR _)) (Imm.le.refl _) ?_;exact ⟨(show errV 3 = _ from congrArg errV (mayErr_2 a0 h1 h2).symm), rfl⟩
 have d2 := h2;have h2 := not_f h2;have d1 := inB_t h2;refine rqr ?_;refine sp 1 [(30, .pointer (some ⟨b1, 0, none⟩))] ?_;refine sd (dlb 31 0 0 b1 (.int .i64 (s.frm))) ?_;refine sp 1 [(32, .pointer (some ⟨b1, 1, none⟩))] ?_;refine sd (dlb 33 0 1 b1 (.int .i64 (s.to))) ?_;refine sp 2 [(29, .bool (cmp .eql (s.frm) (s.to)))] ?_;refine se ?_;refine rc 29 rfl (fun h3 => ?_) (fun h3 => ?_)
 ·
  have d3 := h3;have h3 := eql_t h3;refine rqr ?_;refine sp 3 [(4, .iface 167 (.agg #[.int .i64 (4)]))] ?_;refine se (rret ?_);refine (pst_ret_block (pst_ret_pass ?_));refine pst_ret1 (t := 4) [] (by kernel_rfl) rfl (TC _ (TR _)) (Imm.le.refl _) ?_;exact ⟨(show errV 4 = _ from congrArg errV (mayErr_3 a0 h1 h2 h3).symm), rfl⟩
 have d3 := h3;have h3 := eql_f h3;refine rqr ?_;refine sp 1 [(38, .pointer (some ⟨b1, 2, none⟩))] ?_;refine sd (dlb 39 0 2 b1 (.int .i64 (s.many))) ?_;refine sp 2 [(37, .bool (cmp .lss (s.many) (1)))] ?_;refine se ?_;refine rc 37 rfl (fun h4 => ?_) (fun h4 => ?_)
 ·
  have d4 := h4;have h4 := lss_t h4;refine rqr ?_;refine sp 3 [(4, .iface 167 (.agg #[.int .i64 (7)]))] ?_;refine se (rret ?_);refine (pst_ret_block (pst_ret_pass ?_));refine pst_ret1 (t := 4) [] (by kernel_rfl) rfl (TC _ (TR _)) (Imm.le.refl _) ?_;exact ⟨(show errV 7 = _ from congrArg errV (mayErr_4 a0 h1 h2 (by omega) (by omega)).symm), rfl⟩
 have d4 := h4;have h4 := lss_f h4;refine rq ?_;refine rd0 12 ?_;refine ox 1 [(44, .pointer (some ⟨b1, 2, none⟩))] ?_;refine ofp_det (dlb 45 0 2 b1 (.int .i64 (s.many))) ?_;refine ox 2 [(47, .pointer (some ⟨y, 0, none⟩))] ?_;refine ofp_det (det_fieldAddr (x := (.tmp 47)) (T := 110) (k := 0) (o := 0) (d := 48) (ty := 0) (gd := none) (by kernel_rfl) rfl (by kernel_rfl) rfl) ?_;refine ofp_det (det_fieldAddr (x := (.tmp 48)) (T := 26) (k := 2) (o := 2) (d := 49) (ty := 0) (gd := none) (by kernel_rfl) rfl (by kernel_rfl) rfl) ?_;refine ofp_det (det_load (v := .slice a3 Y.tracks.length a4) (x := (.tmp 49)) (T := 24) (d := 50) (ty := 24) (gd := none) (by kernel_rfl) rfl (by kernel_rfl) rfl (sees_held y_b rfl)) ?_;refine ox 1 [(51, .pointer (some ⟨b1, 0, none⟩))] ?_;refine ofp_det (dlb 52 0 0 b1 (.int .i64 (s.frm))) ?_;refine ofp_det (diI 53 1 (s.frm) a1.addr) ?_;have b9 := a7 ((s.frm : Int).toNat) (by omega);obtain ⟨f2, f4, f3, f7, b8, f5, f6, f8⟩ := id b9;rw [b8] at b9;refine ofp_det (det_eq (dl 54 (rows_get a1 ((s.frm : Int).toNat) (by omega))) b8) ?_;refine ox 1 [(55, .int .i64 (↑((Y.tracks.getD ((s.frm : Int).toNat) []).length)))] ?_;refine ofp_end0 ?_;refine sp 2 [(43, .bool (cmp .gtr (s.many) (↑((Y.tracks.getD ((s.frm : Int).toNat) []).length))))] ?_;refine se ?_;refine rc 43 rfl (fun h5 => ?_) (fun h5 => ?_)
 ·
  have d5 := h5;have h5 := gtr_t h5;refine rqr ?_;refine sp 3 [(4, .iface 167 (.agg #[.int .i64 (6)]))] ?_;refine se (rret ?_);refine (pst_ret_block (pst_ret_pass ?_));refine pst_ret1 (t := 4) [] (by kernel_rfl) rfl (TC _ (TR _)) (Imm.le.refl _) ?_;exact ⟨(show errV 6 = _ from congrArg errV (mayErr_5 a0 h1 h2 (by omega) (by omega) h5).symm), rfl⟩
 have d5 := h5;have h5 := gtr_f h5;refine rskip (pst_normal_block (pst_next (rq ?_)));refine rd0 7 ?_;refine ox 2 [(60, .pointer (some ⟨y, 0, none⟩))] ?_;refine ofp_det (det_fieldAddr (x := (.tmp 60)) (T := 110) (k := 0) (o := 0) (d := 61) (ty := 0) (gd := none) (by kernel_rfl) rfl (by kernel_rfl) rfl) ?_;refine ofp_det (det_fieldAddr (x := (.tmp 61)) (T := 26) (k := 2) (o := 2) (d := 62) (ty := 0) (gd := none) (by kernel_rfl) rfl (by kernel_rfl) rfl) ?_;refine ofp_det (det_load (v := .slice a3 Y.tracks.length a4) (x := (.tmp 62)) (T := 24) (d := 63) (ty := 24) (gd := none) (by kernel_rfl) rfl (by kernel_rfl) rfl (sees_held y_b rfl)) ?_;refine ox 1 [(64, .pointer (some ⟨b1, 0, none⟩))] ?_;refine ofp_det (dlb 65 0 0 b1 (.int .i64 (s.frm))) ?_;refine ofp_end0 ?_;refine sd (diI 66 1 (s.frm) a1.addr) ?_;have a8 := a7 ((s.frm : Int).toNat) (by omega);obtain ⟨b2, b3, f9, g2, c0, g0, g1, g3⟩ := id a8;rw [c0] at a8;refine sd (det_eq (dl 67 (rows_get a1 ((s.frm : Int).toNat) (by omega))) c0) ?_;refine sp 1 [(6, .slice b2 (Y.tracks.getD ((s.frm : Int).toNat) []).length b3)] ?_;refine sn ?_;refine sp 3 [(70, .pointer (some ⟨b1, 2, none⟩)), (69, .int .i64 (↑((Y.tracks.getD ((s.frm : Int).toNat) []).length)))] ?_;refine sd (dlb 71 0 2 b1 (.int .i64 (s.many))) ?_;refine sd (dsb 72 (↑((Y.tracks.getD ((s.frm : Int).toNat) []).length)) (s.many)) ?_;refine sp 1 [(7, .int .i64 ((↑((Y.tracks.getD ((s.frm : Int).toNat) []).length)) - s.many))] ?_;refine se (rq (rq ?_));refine run_cut (fun a w => Slots 120 [(4, .nilIface), (117, .bool ((coupled Y.cars (Y.tracks.getD ((s.frm : Int).toNat) []) ((↑((Y.tracks.getD ((s.frm : Int).toNat) []).length)) - s.many)) || (cmp .gtr (((lenOf Y.cars ((Y.tracks.getD ((s.frm : Int).toNat) []).drop (((↑((Y.tracks.getD ((s.frm).toNat) []).length) : Int) - s.many).toNat)))) + ((lenOf Y.cars (Y.tracks.getD ((s.to : Int).toNat) [])))) (Y.room.getD ((s.to : Int).toNat) 0))))] a ∧ a.defers = [] ∧ St I ((b1, Obj.cells #[.int .i64 (s.frm), .int .i64 (s.to), .int .i64 (s.many)] 52 (0, 0)) :: F) w) ?_ ?_
 ·
  refine rd0 43 ?_;refine ox 3 [(75, .pointer (some ⟨y, 0, none⟩)), (73, .slice b2 (Y.tracks.getD ((s.frm : Int).toNat) []).length b3)] ?_;refine ofp_det (det_fieldAddr (x := (.tmp 75)) (T := 110) (k := 0) (o := 0) (d := 76) (ty := 0) (gd := none) (by kernel_rfl) rfl (by kernel_rfl) rfl) ?_;refine ofp_det (det_fieldAddr (x := (.tmp 76)) (T := 26) (k := 0) (o := 0) (d := 77) (ty := 0) (gd := none) (by kernel_rfl) rfl (by kernel_rfl) rfl) ?_;refine ofp_det (det_load (v := .slice a5 Y.cars.length a6) (x := (.tmp 77)) (T := 22) (d := 78) (ty := 22) (gd := none) (by kernel_rfl) rfl (by kernel_rfl) rfl (sees_held y_b rfl)) ?_;refine ox 1 [(79, .int .i64 ((↑((Y.tracks.getD ((s.frm : Int).toNat) []).length)) - s.many))] ?_
  skip
  refine ofp_det (dc 80 (fun I' hI => (coupled_ct I' _ _ _ _ ((↑((Y.tracks.getD ((s.frm : Int).toNat) []).length)) - s.many) (a8.mono hI) (a2.mono hI) (by exact ho.at s.frm.toNat (by omega)) :))) ?_;refine ox 1 [(81, .bool (coupled Y.cars (Y.tracks.getD ((s.frm : Int).toNat) []) ((↑((Y.tracks.getD ((s.frm : Int).toNat) []).length)) - s.many)))] ?_;refine ofp_split 81 (fun h6 => ?_) (fun h6 => ?_)
  ·
   have d6 := h6;refine ox 34 [(115, undef), (106, undef)] ?_;refine ofp_end0 ?_;refine sp 2 [(117, .bool (true))] ?_;refine ee ?_;refine pst_meet (fun a w hS hD hW => ⟨hS.sub (.cons 4 rfl (.consE 117 rfl (congrArg Value.bool (by simp only [h6, Bool.true_and, Bool.false_and, Bool.and_true, Bool.and_false, Bool.true_or, Bool.false_or, Bool.or_true, Bool.or_false, cond_true, cond_false])) (.nil _))), hD, hW⟩)
  have d6 := h6;refine ox 2 [(83, .int .i64 ((↑((Y.tracks.getD ((s.frm : Int).toNat) []).length)) - s.many)), (82, .slice b2 (Y.tracks.getD ((s.frm : Int).toNat) []).length b3)] ?_;have b5 := a8.cutLo (((↑((Y.tracks.getD ((s.frm).toNat) []).length) : Int) - s.many).toNat) (by omega);obtain ⟨h8, i0, h9, i3, c2, i1, i2, i4⟩ := id b5;rw [c2] at b5;refine ofp_det (det_eq (det_slice (x := (.tmp 82)) (lo := (some (.tmp 83))) (hi := none) (T := 130) (e := 3) (sz := 1) (((↑((Y.tracks.getD ((s.frm).toNat) []).length) : Int) - s.many).toNat) ((Y.tracks.getD ((s.frm : Int).toNat) []).length) (d := 84) (ty := 130) (gd := (some (8, false))) (by kernel_rfl) (by kernel_rfl) (by kernel_rfl) (by kernel_rfl) rfl (.inr ⟨_, .i64, rfl, (look_int rfl (by omega))⟩) (.inl ⟨rfl, rfl⟩) (by omega) (by omega)) c2) ?_;refine ox 2 [(86, .pointer (some ⟨y, 0, none⟩))] ?_;refine ofp_det (det_fieldAddr (x := (.tmp 86)) (T := 110) (k := 0) (o := 0) (d := 87) (ty := 0) (gd := (some (8, false))) (by kernel_rfl) (by kernel_rfl) (by kernel_rfl) rfl) ?_;refine ofp_det (det_fieldAddr (x := (.tmp 87)) (T := 26) (k := 0) (o := 0) (d := 88) (ty := 0) (gd := (some (8, false))) (by kernel_rfl) (by kernel_rfl) (by kernel_rfl) rfl) ?_;refine ofp_det (det_load (v := .slice a5 Y.cars.length a6) (x := (.tmp 88)) (T := 22) (d := 89) (ty := 22) (gd := (some (8, false))) (by kernel_rfl) (by kernel_rfl) (by kernel_rfl) rfl (sees_held y_b rfl)) ?_;refine ofp_det (dc 90 (fun I' hI => (long_ct I' _ _ _ _ (b5.mono hI) (a2.mono hI) (by exact (ho.at s.frm.toNat (by omega)).drop _) (by assumption) :))) ?_;refine ox 2 [(92, .pointer (some ⟨y, 0, none⟩))] ?_;refine ofp_det (det_fieldAddr (x := (.tmp 92)) (T := 110) (k := 0) (o := 0) (d := 93) (ty := 0) (gd := (some (8, false))) (by kernel_rfl) (by kernel_rfl) (by kernel_rfl) rfl) ?_;refine ofp_det (det_fieldAddr (x := (.tmp 93)) (T := 26) (k := 2) (o := 2) (d := 94) (ty := 0) (gd := (some (8, false))) (by kernel_rfl) (by kernel_rfl) (by kernel_rfl) rfl) ?_;refine ofp_det (det_load (v := .slice a3 Y.tracks.length a4) (x := (.tmp 94)) (T := 24) (d := 95) (ty := 24) (gd := (some (8, false))) (by kernel_rfl) (by kernel_rfl) (by kernel_rfl) rfl (sees_held y_b rfl)) ?_;refine ox 1 [(96, .pointer (some ⟨b1, 1, none⟩))] ?_;refine ofp_det (dlb 97 0 1 b1 (.int .i64 (s.to))) ?_;refine ofp_det (diI 98 1 (s.to) a1.addr) ?_;have b4 := a7 ((s.to : Int).toNat) (by omega);obtain ⟨g4, g6, g5, g9, c1, g7, g8, h0⟩ := id b4;rw [c1] at b4;refine ofp_det (det_eq (dl 99 (rows_get a1 ((s.to : Int).toNat) (by omega))) c1) ?_;refine ox 2 [(101, .pointer (some ⟨y, 0, none⟩))] ?_;refine ofp_det (det_fieldAddr (x := (.tmp 101)) (T := 110) (k := 0) (o := 0) (d := 102) (ty := 0) (gd := (some (8, false))) (by kernel_rfl) (by kernel_rfl) (by kernel_rfl) rfl) ?_;refine ofp_det (det_fieldAddr (x := (.tmp 102)) (T := 26) (k := 0) (o := 0) (d := 103) (ty := 0) (gd := (some (8, false))) (by kernel_rfl) (by kernel_rfl) (by kernel_rfl) rfl) ?_;refine ofp_det (det_load (v := .slice a5 Y.cars.length a6) (x := (.tmp 103)) (T := 22) (d := 104) (ty := 22) (gd := (some (8, false))) (by kernel_rfl) (by kernel_rfl) (by kernel_rfl) rfl (sees_held y_b rfl)) ?_;refine ofp_det (dc 105 (fun I' hI => (long_ct I' _ _ _ _ (b4.mono hI) (a2.mono hI) (by exact ho.at s.to.toNat (by omega)) (by assumption) :))) ?_;refine ofp_det (da 106 ((lenOf Y.cars ((Y.tracks.getD ((s.frm : Int).toNat) []).drop (((↑((Y.tracks.getD ((s.frm).toNat) []).length) : Int) - s.many).toNat)))) ((lenOf Y.cars (Y.tracks.getD ((s.to : Int).toNat) []))) (hr := by have q1 := lenOf_bound hs ((Y.tracks.getD s.frm.toNat []).drop ((↑((Y.tracks.getD ((s.frm).toNat) []).length) : Int) - s.many).toNat); have q2 := lenOf_bound hs (Y.tracks.getD s.to.toNat []); have q3 := hq _ (getD_mem (d := []) (xs := Y.tracks) (k := s.frm.toNat) (by omega)); have q4 := hq _ (getD_mem (d := []) (xs := Y.tracks) (k := s.to.toNat) (by omega)); simp only [LD] at q1; omega)) ?_;refine ox 2 [(108, .pointer (some ⟨y, 0, none⟩))] ?_;refine ofp_det (det_fieldAddr (x := (.tmp 108)) (T := 110) (k := 0) (o := 0) (d := 109) (ty := 0) (gd := (some (8, false))) (by kernel_rfl) (by kernel_rfl) (by kernel_rfl) rfl) ?_;refine ofp_det (det_fieldAddr (x := (.tmp 109)) (T := 26) (k := 1) (o := 1) (d := 110) (ty := 0) (gd := (some (8, false))) (by kernel_rfl) (by kernel_rfl) (by kernel_rfl) rfl) ?_;refine ofp_det (det_load (v := .slice c4 Y.room.length c5) (x := (.tmp 110)) (T := 23) (d := 111) (ty := 23) (gd := (some (8, false))) (by kernel_rfl) (by kernel_rfl) (by kernel_rfl) rfl (sees_held y_b rfl)) ?_;refine ox 1 [(112, .pointer (some ⟨b1, 1, none⟩))] ?_;refine ofp_det (dlb 113 0 1 b1 (.int .i64 (s.to))) ?_;refine ofp_det (diI 114 1 (s.to) a9.addr) ?_;refine ofp_det (dl 115 (ints_get a9 ((s.to : Int).toNat) (by omega))) ?_;refine ofp_end0 ?_;refine sp 2 [(117, .bool (cmp .gtr (((lenOf Y.cars ((Y.tracks.getD ((s.frm : Int).toNat) []).drop (((↑((Y.tracks.getD ((s.frm).toNat) []).length) : Int) - s.many).toNat)))) + ((lenOf Y.cars (Y.tracks.getD ((s.to : Int).toNat) [])))) (Y.room.getD ((s.to : Int).toNat) 0)))] ?_;refine ee ?_;refine pst_meet (fun a w hS hD hW => ⟨hS.sub (.cons 4 rfl (.consE 117 rfl (congrArg Value.bool (by simp only [h6, Bool.true_and, Bool.false_and, Bool.and_true, Bool.and_false, Bool.true_or, Bool.false_or, Bool.or_true, Bool.or_false, cond_true, cond_false])) (.nil _))), hD, hW⟩)
 rintro a w ⟨hS, hD, hW⟩
 refine run_at hS hD hW ?_;clear hS hD hW a w;refine rc 117 rfl (fun h7 => ?_) (fun h7 => ?_)
 ·
  have b0 := h7;refine rqr ?_;refine sp 3 [(4, .iface 167 (.agg #[.int .i64 (9)]))] ?_;refine se (rret ?_);refine (pst_ret_pass ?_);refine pst_ret1 (t := 4) [] (by kernel_rfl) rfl (TC _ (TR _)) (Imm.le.refl _) ?_;exact ⟨(show errV 9 = _ from congrArg errV (mayErr_6 a0 h1 h2 (by omega) (by omega) (Int.not_lt.2 h5) b0).symm), rfl⟩
 have b0 := h7;obtain ⟨f1, b7⟩ := or_f h7;have b7 := gtr_f b7;refine rskip (pst_next (rqr ?_));refine sp 1 [(4, .nilIface)] ?_;refine se (rret ?_);refine pst_ret1 (t := 4) [] (by kernel_rfl) rfl (TC _ (TR _)) (Imm.le.refl _) ?_;exact ⟨(show errV 0 = _ from congrArg errV (mayErr_7 a0 h1 h2 (by omega) (by omega) (Int.not_lt.2 h5) b0).symm), rfl⟩

noncomputable def c_shifts1h (p : List Nat) : Code := sub (bodyOf Tryz.f135) p
set_option maxHeartbeats 1000000 in
theorem shifts1h_iter (I0 : Imm) (y by_ bm : Nat) (y_1 y_2 y_3 : Value) (Y : Yard) (hG : Glob I0) (hy : I0.blk by_ = some (Obj.cells #[.pointer (some ⟨y, 0, none⟩)] 108 (0, 0))) (hm : I0.blk bm = some (Obj.cells #[.func (.func 92) #[] #[]] 164 (0, 0))) (y_b : I0.blk y = some (Obj.cells #[y_1, y_2, y_3] 110 (0, 0))) (y_1f : IsCars I0 y_1 Y.cars) (y_2f : IsInts I0 y_2 Y.room) (y_3f : IsRows I0 y_3 Y.tracks) (hgood : GoodY Y) (h3 : Y.tracks.length ≤ 1000000) : IterCt Tryz.prog 135 [.pointer (some ⟨by_, 0, none⟩), .pointer (some ⟨bm, 0, none⟩)] encS (draws Y) NoR I0 := by
 intro L Cl Sp hmono hround I Mr M hI0 hR hCl;obtain rfl : Mr = [] := hR;replace hy := hI0.blk _ _ hy;replace hm := hI0.blk _ _ hm;replace y_b := hI0.blk _ _ y_b;replace y_1f := y_1f.mono hI0;replace y_2f := y_2f.mono hI0;replace y_3f := y_3f.mono hI0;have a0 := y_1f;obtain ⟨d4, d6, d5, d9, b9, d7, d8, e0⟩ := id a0;subst b9;have a1 := y_2f;obtain ⟨e1, e3, e2, e6, c0, e4, e5, e7⟩ := id a1;subst c0;have a2 := y_3f;obtain ⟨a7, a8, e8, f1, c8, c1, e9, f0, a3, a4⟩ := id a2;subst c1;have c2 : (Y.tracks).length = (Y.tracks).length := rfl;refine fr (args := [_, _, _]) (N := 56) Tryz.func135 (fun F => ?_);show Run _ _ (c_shifts1h []) _ _ [(0, .func (.yield L) #[] #[]), (1, .pointer (some ⟨by_, 0, none⟩)), (2, .pointer (some ⟨bm, 0, none⟩))] _ _;refine run_mem (M' := ((M ++ F))) (fun w h => by simpa only [AA, CA, NA] using h) ?_;refine rnm ?_;have g1 := hgood.le;refine rqr ?_;refine sd (det_load (v := .pointer (some ⟨y, 0, none⟩)) (x := (.tmp 1)) (T := 108) (d := 8) (ty := 108) (gd := none) (by kernel_rfl) rfl (by kernel_rfl) rfl (sees_held hy rfl)) ?_;refine sp 1 [(9, .pointer (some ⟨y, 0, none⟩))] ?_;refine sd (det_fieldAddr (x := (.tmp 9)) (T := 110) (k := 0) (o := 0) (d := 10) (ty := 0) (gd := none) (by kernel_rfl) rfl (by kernel_rfl) rfl) ?_;refine sd (det_fieldAddr (x := (.tmp 10)) (T := 26) (k := 2) (o := 2) (d := 11) (ty := 0) (gd := none) (by kernel_rfl) rfl (by kernel_rfl) rfl) ?_;refine sd (det_load (v := .slice a7 Y.tracks.length a8) (x := (.tmp 11)) (T := 24) (d := 12) (ty := 24) (gd := none) (by kernel_rfl) rfl (by kernel_rfl) rfl (sees_held y_b rfl)) ?_;refine sp 2 [(14, .int .i64 (0)), (13, .int .i64 (↑(Y.tracks.length)))] ?_;refine se (rb 0 ?_);refine rl (fun mz a w => ∃ J0 : Imm, ∃ k : Nat, ∃ b7 : List Shift, ∃ b1 : Seg, (I.le J0) ∧ (k ≤ Y.tracks.length) ∧ (b7 ++ drawsY Y k = draws Y) ∧ (Cl b7 J0 b1) ∧ Slots 56 [(14, .int .i64 ↑k), (0, .func (.yield L) #[] #[]), (1, .pointer (some ⟨by_, 0, none⟩)), (2, .pointer (some ⟨bm, 0, none⟩)), (13, .int .i64 (↑(Y.tracks.length)))] a ∧ a.defers = [] ∧ St J0 ((b1 ++ F)) w ∧ mz = Y.tracks.length - k) ?_ ?_
 ·intro a w hS hD hW;exact ⟨_, I, 0, [], M, Imm.le.refl _, Nat.zero_le _, rfl, hCl, hS.sub (.cons 14 rfl (.cons 0 rfl (.cons 1 rfl (.cons 2 rfl (.cons 13 rfl (.nil _)))))), hD, hW, rfl⟩
 rintro mz a w ⟨J0, k, b7, b1, hJ0, hk, d2, hCl, hS, hD, hW, rfl⟩
 refine run_at hS hD hW ?_;clear hS hD hW a w;replace hy := hJ0.blk _ _ hy;replace hm := hJ0.blk _ _ hm;replace a0 := a0.mono hJ0;replace a1 := a1.mono hJ0;replace a2 := a2.mono hJ0;replace a3 := a3.mono hJ0;replace a4 := fun i hi => (a4 i hi).mono hJ0
 replace y_b := hJ0.blk _ _ y_b;refine rqr ?_;refine sp 1 [(15, .bool (cmp .lss (↑k) (↑(Y.tracks.length))))] ?_;refine se (rq ?_);refine rc 15 rfl (fun h1 => ?_) (fun h1 => ?_)
 ·
  have c4 := h1;have h1 := lss_t h1;refine rskip (pst_next (rq (rb 1 (rqr ?_))));refine sp 2 [(4, .int .i64 (↑k))] ?_;refine sn ?_;refine sd (det_load (v := .pointer (some ⟨y, 0, none⟩)) (x := (.tmp 1)) (T := 108) (d := 17) (ty := 108) (gd := none) (by kernel_rfl) rfl (by kernel_rfl) rfl (sees_held hy rfl)) ?_;refine sp 1 [(18, .pointer (some ⟨y, 0, none⟩))] ?_;refine sd (det_fieldAddr (x := (.tmp 18)) (T := 110) (k := 0) (o := 0) (d := 19) (ty := 0) (gd := none) (by kernel_rfl) rfl (by kernel_rfl) rfl) ?_;refine sd (det_fieldAddr (x := (.tmp 19)) (T := 26) (k := 2) (o := 2) (d := 20) (ty := 0) (gd := none) (by kernel_rfl) rfl (by kernel_rfl) rfl) ?_;refine sd (det_load (v := .slice a7 Y.tracks.length a8) (x := (.tmp 20)) (T := 24) (d := 21) (ty := 24) (gd := none) (by kernel_rfl) rfl (by kernel_rfl) rfl (sees_held y_b rfl)) ?_;refine sp 2 [(23, .int .i64 (0)), (22, .int .i64 (↑(Y.tracks.length)))] ?_;refine se (rb 2 ?_);refine rl (fun mz a w => ∃ J1 : Imm, ∃ t : Nat, ∃ b8 : List Shift, ∃ b3 : Seg, (J0.le J1) ∧ (t ≤ Y.tracks.length) ∧ (b8 ++ (drawsF Y k t ++ drawsY Y (k + 1)) = draws Y) ∧ (Cl b8 J1 b3) ∧ Slots 56 [(23, .int .i64 ↑t), (0, .func (.yield L) #[] #[]), (1, .pointer (some ⟨by_, 0, none⟩)), (2, .pointer (some ⟨bm, 0, none⟩)), (4, .int .i64 (↑k)), (13, .int .i64 (↑(Y.tracks.length))), (14, .int .i64 (↑k)), (22, .int .i64 (↑(Y.tracks.length)))] a ∧ a.defers = [] ∧ St J1 ((b3 ++ F)) w ∧ mz = Y.tracks.length - t) ?_ ?_
  ·intro a w hS hD hW;exact ⟨_, J0, 0, b7, b1, Imm.le.refl _, Nat.zero_le _, by rw [← d2, drawsY_step (Y := Y) (f := k) (by omega)], hCl, hS.sub (.cons 23 rfl (.cons 0 rfl (.cons 1 rfl (.cons 2 rfl (.cons 4 rfl (.cons 13 rfl (.cons 14 rfl (.cons 22 rfl (.nil _))))))))), hD, hW, rfl⟩
  rintro mz a w ⟨J1, t, b8, b3, hJ1, ht, d3, hCl, hS, hD, hW, rfl⟩
  refine run_at hS hD hW ?_;clear hS hD hW a w;replace hy := hJ1.blk _ _ hy;replace hm := hJ1.blk _ _ hm;replace a0 := a0.mono hJ1;replace a1 := a1.mono hJ1;replace a2 := a2.mono hJ1;replace a3 := a3.mono hJ1;replace a4 := fun i hi => (a4 i hi).mono hJ1
  replace y_b := hJ1.blk _ _ y_b;refine rqr ?_;refine sp 1 [(24, .bool (cmp .lss (↑t) (↑(Y.tracks.length))))] ?_;refine se (rq ?_);refine rc 24 rfl (fun h2 => ?_) (fun h2 => ?_)
  ·
   have c5 := h2;have h2 := lss_t h2;refine rskip (pst_next (rq (rb 3 (rqr ?_))));refine sp 2 [(5, .int .i64 (↑t))] ?_;refine sn ?_;refine sp 1 [(6, .int .i64 (1))] ?_;refine se (rb 4 ?_);refine rl (fun mz a w => ∃ J2 : Imm, ∃ j : Nat, ∃ a9 : List Shift, ∃ b0 : Seg, (J1.le J2) ∧ (j ≤ (Y.tracks.getD (k) []).length) ∧ (a9 ++ (drawsFT Y k t j ++ (drawsF Y k (t + 1) ++ drawsY Y (k + 1))) = draws Y) ∧ (Cl a9 J2 b0) ∧ Slots 56 [(6, .int .i64 (↑j + 1)), (0, .func (.yield L) #[] #[]), (1, .pointer (some ⟨by_, 0, none⟩)), (2, .pointer (some ⟨bm, 0, none⟩)), (4, .int .i64 (↑k)), (5, .int .i64 (↑t)), (13, .int .i64 (↑(Y.tracks.length))), (14, .int .i64 (↑k)), (22, .int .i64 (↑(Y.tracks.length))), (23, .int .i64 (↑t))] a ∧ a.defers = [] ∧ St J2 ((b0 ++ F)) w ∧ mz = (Y.tracks.getD (k) []).length - j) ?_ ?_
   ·intro a w hS hD hW;exact ⟨_, J1, 0, b8, b3, Imm.le.refl _, Nat.zero_le _, by rw [← d3, drawsF_step (Y := Y) (f := k) (t := t) (by omega), AA], hCl, hS.sub (.cons 6 rfl (.cons 0 rfl (.cons 1 rfl (.cons 2 rfl (.cons 4 rfl (.cons 5 rfl (.cons 13 rfl (.cons 14 rfl (.cons 22 rfl (.cons 23 rfl (.nil _))))))))))), hD, hW, rfl⟩
   rintro mz a w ⟨J2, j, a9, b0, hJ2, hj, c3, hCl, hS, hD, hW, rfl⟩
   refine run_at hS hD hW ?_;clear hS hD hW a w;replace hy := hJ2.blk _ _ hy;replace hm := hJ2.blk _ _ hm;replace a0 := a0.mono hJ2;replace a1 := a1.mono hJ2;replace a2 := a2.mono hJ2;replace a3 := a3.mono hJ2;replace a4 := fun i hi => (a4 i hi).mono hJ2
   replace y_b := hJ2.blk _ _ y_b;refine rq (rqr ?_);refine sp 1 [(26, .int .i64 (↑j + 1))] ?_;refine sd (det_load (v := .pointer (some ⟨y, 0, none⟩)) (x := (.tmp 1)) (T := 108) (d := 27) (ty := 108) (gd := none) (by kernel_rfl) rfl (by kernel_rfl) rfl (sees_held hy rfl)) ?_;refine sp 1 [(28, .pointer (some ⟨y, 0, none⟩))] ?_;refine sd (det_fieldAddr (x := (.tmp 28)) (T := 110) (k := 0) (o := 0) (d := 29) (ty := 0) (gd := none) (by kernel_rfl) rfl (by kernel_rfl) rfl) ?_;refine sd (det_fieldAddr (x := (.tmp 29)) (T := 26) (k := 2) (o := 2) (d := 30) (ty := 0) (gd := none) (by kernel_rfl) rfl (by kernel_rfl) rfl) ?_;refine sd (det_load (v := .slice a7 Y.tracks.length a8) (x := (.tmp 30)) (T := 24) (d := 31) (ty := 24) (gd := none) (by kernel_rfl) rfl (by kernel_rfl) rfl (sees_held y_b rfl)) ?_;refine sp 1 [(32, .int .i64 (↑k))] ?_;refine sd (di 33 1 (k) a3.addr) ?_;have b6 := a4 (k) (by omega);obtain ⟨f3, f5, f4, f8, b5, f6, f7, f9⟩ := id b6;rw [b5] at b6;refine sd (det_eq (dl 34 (rows_get a3 (k) (by omega))) b5) ?_;refine sp 2 [(36, .bool (cmp .leq (↑j + 1) (↑((Y.tracks.getD (k) []).length))))] ?_;refine se ?_;refine rc 36 rfl (fun h3 => ?_) (fun h3 => ?_)
   ·
    have c6 := h3;have h3 := leq_t h3;refine rskip (pst_next (rq (rb 5 (rqr ?_))));refine sp 4 [(42, .agg #[.int .i64 (↑k), .int .i64 (↑t), .int .i64 (↑j + 1)])] ?_;refine sS (sal 7 52 #[.int .i64 (0), .int .i64 (0), .int .i64 (0)] (fun b2 => ?_));refine sS (ss 0 0 b2 [.int .i64 (↑k), .int .i64 (↑t), .int .i64 (↑j + 1)] [.int .i64 (↑k), .int .i64 (↑t), .int .i64 (↑j + 1)] (_ :: _) (cs := [_, _, _]) rfl rfl ?_);refine sn ?_;refine sd (det_load (v := .func (.func 92) #[] #[]) (x := (.tmp 2)) (T := 164) (d := 43) (ty := 164) (gd := none) (by kernel_rfl) rfl (by kernel_rfl) rfl (sees_held hm rfl)) ?_;refine sd (det_load (v := .pointer (some ⟨y, 0, none⟩)) (x := (.tmp 1)) (T := 108) (d := 44) (ty := 108) (gd := none) (by kernel_rfl) rfl (by kernel_rfl) rfl (sees_held hy rfl)) ?_;refine sd (dnb 45 0 0 b2 [.int .i64 (↑k), .int .i64 (↑t), .int .i64 (↑j + 1)]) ?_;have b4 := mayh_ct J2 (y) _ _ _ (Y) ((⟨↑k, ↑t, ↑j + 1⟩ : Shift)) y_b a0 a1 a2 (by exact hgood.ok) (by exact hgood.small) (by exact hgood.len) (by exact hgood.le);refine sS (sc (some 46) (b4 :) (.refl _) (fun g2 I4 g0 a5 f2 => ?_));obtain ⟨d1, c9⟩ := f2;rw [d1, c9]; clear d1 c9;replace hy := a5.blk _ _ hy;replace hm := a5.blk _ _ hm;replace y_b := a5.blk _ _ y_b;replace hCl := hmono _ _ _ _ a5 hCl;refine nm ?_;refine sd (det_eqIface (x := (.tmp 46)) (T := 126) (T' := 126) (d := 47) (ty := 4) (gd := none) (by kernel_rfl) rfl (by kernel_rfl) rfl (isNI_err _)) ?_;refine sp 1 [(48, .bool (decide ((mayErr Y ((⟨↑k, ↑t, ↑j + 1⟩ : Shift))) = 0)))] ?_;refine seq_split 48 rfl (fun h4 => ?_) (fun h4 => ?_)
    ·
     have a6 := h4;have a6 := dec_t a6;refine sp 1 [(49, .func (.yield L) #[] #[])] ?_;refine sd (dnb 50 0 0 b2 [.int .i64 (↑k), .int .i64 (↑t), .int .i64 (↑j + 1)]) ?_;have d0 : mayErr Y (mk3 k t (j + 1)) = 0 := a6;have c7 : a9 ++ [mk3 k t (j + 1)] <+: draws Y := ⟨_, by rw [← c3, drawsFT_yes (by omega) d0]; simp; rfl⟩;refine sS (stp_yield (d := some 51) (f := (.tmp 49)) (args := #[.tmp 50]) (tys := #[52]) (pre := ([] ++ b0)) (F := ((b2, Obj.cells #[.int .i64 (↑k), .int .i64 (↑t), .int .i64 (↑j + 1)] 52 (0, 0)) :: F)) (ty := 4) (gd := (some (5, true))) (by kernel_rfl) (by kernel_rfl) rfl rfl (hround a9 (mk3 k t (j + 1)) _ [] b0 c7 (Imm.le.trans (Imm.le.trans (Imm.le.trans (Imm.le.trans hI0 hJ0) hJ1) hJ2) a5) rfl hCl) (by simpa only [AA, CA, NA] using (PM.symm)) (fun yv IY MY hIY hYP => ?_));rcases hYP with ⟨rfl, Mr4, Mc4, rfl, hR4, hCl4⟩ | ⟨rfl, hSp4⟩
     ·
      obtain rfl : Mr4 = [] := hR4;replace hy := hIY.blk _ _ hy;replace hm := hIY.blk _ _ hm;replace y_b := hIY.blk _ _ y_b;replace hCl := hmono _ _ _ _ hIY hCl;replace hCl := hCl4;refine seq_mem (M' := ((Mc4 ++ (b2, Obj.cells #[.int .i64 (↑k), .int .i64 (↑t), .int .i64 (↑j + 1)] 52 (0, 0)) :: F))) (fun w h => by simpa only [AA, CA, NA] using h) ?_;refine pm (M' := ((b2, Obj.cells #[.int .i64 (↑k), .int .i64 (↑t), .int .i64 (↑j + 1)] 52 (0, 0)) :: (Mc4 ++ F))) PM ?_;refine sp 2 [(53, .bool (!(true)))] ?_;refine se ?_;refine rcf 53 rfl ?_;refine rskip (pst_normal_block (pst_next (rr ?_)));refine sp 1 [(37, .int .i64 (↑j + 1))] ?_;refine sd (da 38 (↑j + 1) (1)) ?_;refine sp 1 [(6, .int .i64 ((↑j + 1) + 1))] ?_;refine ee ?_;refine pst_back ((Y.tracks.getD (k) []).length - (j+1)) (by omega) ?_;intro a w hS hD hW;exact ⟨IY, j+1, a9 ++ [mk3 k t (j + 1)], Mc4, (Imm.le.trans (Imm.le.trans hJ2 a5) hIY), by omega, by rw [← c3, drawsFT_yes (by omega) d0]; simp, hCl, hS.sub (.consE 6 rfl rfl (.cons 0 rfl (.cons 1 rfl (.cons 2 rfl (.cons 4 rfl (.cons 5 rfl (.cons 13 rfl (.cons 14 rfl (.cons 22 rfl (.cons 23 rfl (.nil _))))))))))), hD, (hW.perm (PR _)).sub (TC _ (TR _)), rfl⟩
     replace hy := hIY.blk _ _ hy;replace hm := hIY.blk _ _ hm;replace y_b := hIY.blk _ _ y_b;replace hCl := hmono _ _ _ _ hIY hCl;refine seq_mem (M' := ((MY ++ (b2, Obj.cells #[.int .i64 (↑k), .int .i64 (↑t), .int .i64 (↑j + 1)] 52 (0, 0)) :: F))) (fun w h => by simpa only [AA, CA, NA] using h) ?_;refine pm (M' := ((b2, Obj.cells #[.int .i64 (↑k), .int .i64 (↑t), .int .i64 (↑j + 1)] 52 (0, 0)) :: (MY ++ F))) PM ?_;refine sp 2 [(53, .bool (!(false)))] ?_;refine se ?_;refine rct 53 rfl ?_;refine rret ?_;refine (pst_ret_block (pst_ret_pass (pst_ret_pass (pst_ret_block (pst_ret_block (pst_ret_pass (pst_ret_pass (pst_ret_block (pst_ret_block (pst_ret_pass (pst_ret_pass (pst_ret_block ?_))))))))))));refine ppm (M' := ((MY ++ (b2, Obj.cells #[.int .i64 (↑k), .int .i64 (↑t), .int .i64 (↑j + 1)] 52 (0, 0)) :: F))) (PM.symm) ?_;refine pst_ret0 (MY) (by kernel_rfl) (TA (TC _ (TR _)) _) (Imm.le.trans (Imm.le.trans (Imm.le.trans (Imm.le.trans hJ0 hJ1) hJ2) a5) hIY) ?_;exact .inr ⟨_, hSp4⟩
    have a6 := h4;have a6 := dec_f a6;refine sp 5 [(53, .bool (false))] ?_;refine se ?_;refine rcf 53 rfl ?_;refine rskip (pst_normal_block (pst_next (rr ?_)));refine sp 1 [(37, .int .i64 (↑j + 1))] ?_;refine sd (da 38 (↑j + 1) (1)) ?_;refine sp 1 [(6, .int .i64 ((↑j + 1) + 1))] ?_;refine ee ?_;refine pst_back ((Y.tracks.getD (k) []).length - (j+1)) (by omega) ?_;intro a w hS hD hW;exact ⟨I4, j+1, a9, b0, (Imm.le.trans hJ2 a5), by omega, by rw [← c3, drawsFT_no (by omega) (show mayErr Y (mk3 k t (j + 1)) ≠ 0 from a6)], hCl, hS.sub (.consE 6 rfl rfl (.cons 0 rfl (.cons 1 rfl (.cons 2 rfl (.cons 4 rfl (.cons 5 rfl (.cons 13 rfl (.cons 14 rfl (.cons 22 rfl (.cons 23 rfl (.nil _))))))))))), hD, (hW.perm (PR _)).sub (TC _ (TR _)), rfl⟩
   have c6 := h3;have h3 := leq_f h3;refine rexit 4 ?_;refine (pst_exit_pass (pst_exit_pass (pst_exit_block ?_)));refine pst_normal_block (pst_next (rr ?_));refine sd (da 54 (↑t) (1)) ?_;refine sp 1 [(23, .int .i64 (↑t + 1))] ?_;refine ee ?_;refine pst_back (Y.tracks.length - (t+1)) (by omega) ?_;intro a w hS hD hW;exact ⟨J2, t+1, a9, b0, (Imm.le.trans hJ1 hJ2), by omega, by rw [← c3, drawsFT_done (Y := Y) (f := k) (t := t) (k := j) (by omega), NA], hCl, hS.sub (.consE 23 rfl rfl (.cons 0 rfl (.cons 1 rfl (.cons 2 rfl (.cons 4 rfl (.cons 13 rfl (.cons 14 rfl (.cons 22 rfl (.nil _))))))))), hD, hW, rfl⟩
  have c5 := h2;have h2 := lss_f h2;refine rexit 2 ?_;refine (pst_exit_pass (pst_exit_pass (pst_exit_block ?_)));refine pst_normal_block (pst_next (rr ?_));refine sd (da 55 (↑k) (1)) ?_;refine sp 1 [(14, .int .i64 (↑k + 1))] ?_;refine ee ?_;refine pst_back (Y.tracks.length - (k+1)) (by omega) ?_;intro a w hS hD hW;exact ⟨J1, k+1, b8, b3, (Imm.le.trans hJ0 hJ1), by omega, by rw [← d3, drawsF_done (Y := Y) (f := k) (t := t) (by omega), NA], hCl, hS.sub (.consE 14 rfl rfl (.cons 0 rfl (.cons 1 rfl (.cons 2 rfl (.cons 13 rfl (.nil _)))))), hD, hW, rfl⟩
 have c4 := h1;have h1 := lss_f h1;refine rexit 0 ?_;refine (pst_exit_pass (pst_exit_pass (pst_exit_block ?_)));refine pst_end0 (b1) (by kernel_rfl) (TA (TR _) _) hJ0 ?_;exact .inl ⟨[], b1, rfl, rfl, (show b7 = draws Y by rw [← d2, drawsY_done (Y := Y) (f := k) (by omega), List.append_nil]) ▸ hCl⟩

end Go.Proofs.YtcaocbhbofejnaaGreatDoor

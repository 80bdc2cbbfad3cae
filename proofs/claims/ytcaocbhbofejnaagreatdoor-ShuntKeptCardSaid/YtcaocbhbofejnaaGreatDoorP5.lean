/- A part of the proof of the laws of this seat. -/
import Derived.Test.YtcaocbhbofejnaaGreatDoorP4
set_option linter.unusedVariables false
set_option linter.unusedSimpArgs false
namespace Go.Proofs.YtcaocbhbofejnaaGreatDoor
open Go Go.Sl Go.Sh
set_option maxRecDepth 100000
noncomputable def c_Reach (p : List Nat) : Code := sub (bodyOf Tryz.f28) p
set_option maxHeartbeats 2000000 in
theorem Reach_ct (I : Imm) (y : Value) (Y : Yard) (dr : Int) (y_f : IsYard I y Y) (hG : Glob I) : Ct Tryz.prog 28 #[y, .int .i64 dr] I ([]) (fun v I' M' => v = .tuple #[.int .i64 ((reachE Y dr).1), .int .i64 ((reachE Y dr).2)] ∧ M' = []) := by
 obtain ⟨y1, y2, y3, R6, o2, o3, o4⟩ := id y_f
 subst R6
 obtain ⟨b0, b2, Q0, Q3, G0, Q1, Q2, Q4⟩ := id o2
 subst G0
 obtain ⟨b3, b4, Q5, Q8, G1, Q6, Q7, Q9⟩ := id o3
 subst G1
 obtain ⟨b5, b6, R0, R3, K3, G2, R1, R2, R4, R5⟩ := id o4
 subst G2
 refine fnM_of_run (fn := Tryz.f28) (args := [_, _]) (N := 73) Tryz.func28 rfl (by kernel_rfl) (Nat.le_of_ble_eq_true rfl) (fun F => ?_)
 show Run _ _ (c_Reach []) _ _ [(0, .agg #[.slice b0 Y.cars.length b2, .slice b3 Y.room.length b4, .slice b5 Y.tracks.length b6]), (1, .int .i64 (dr))] _ _
 refine rnm (rqr ?_)
 refine sS (sb 2 26 #[.slice b0 Y.cars.length b2, .slice b3 Y.room.length b4, .slice b5 Y.tracks.length b6] (fun b1 => ?_))
 refine sp 2 [(5, .int .i64 (0)), (4, .int .i64 (0))] ?_
 refine se (rq (rqr ?_))
 refine sd (dnb 16 0 0 b1 [.slice b0 Y.cars.length b2, .slice b3 Y.room.length b4, .slice b5 Y.tracks.length b6]) ?_
 refine sd (dc 17 (fun I' hI => (Check_ct I' _ (Y) ((mkYard o2 o3 o4).mono hI) :))) ?_
 refine sp 1 [(6, .int .i64 ((checkErr Y)))] ?_
 refine sn ?_
 refine sp 2 [(19, .bool (!(cmp .eql ((checkErr Y)) (0))))] ?_
 refine se ?_
 refine rc 19 rfl (fun h1 => ?_) (fun h1 => ?_)
 ·
  have B3 := h1
  have h1 := not_t h1
  have h1 := eql_f h1
  refine rqr ?_
  refine sp 3 [(5, .int .i64 ((checkErr Y))), (4, .int .i64 (0))] ?_
  refine se (rret ?_)
  refine (pst_ret_pass ?_)
  refine pst_marks (R := ((b1, Obj.cells #[.slice b0 Y.cars.length b2, .slice b3 Y.room.length b4, .slice b5 Y.tracks.length b6] 26 (0, 0)) :: F)) [] (.inl rfl) (PR _) ?_
  refine pst_ret2 (t := 4) (u := 5) [] (by kernel_rfl) rfl rfl (TC _ (TR _)) (Imm.le.refl _) ?_
  exact ⟨(congrArg (fun p : Int × Int => Value.tuple #[.int .i64 p.1, .int .i64 p.2]) (reachE_bad h1).symm), rfl⟩
 have B3 := h1
 have h1 := not_f h1
 have h1 := eql_t h1
 refine rskip (pst_next (rq (rq ?_)))
 have r0 : Valid Y := by (show checkErr Y = 0; omega)
 have i3 := r0.fine; have l5 := r0.good; have T4 := r0.lens
 refine rr ?_
 refine sp 1 [(21, .int .i64 (dr))] ?_
 refine sd (dc 22 (fun I' hI => (in_ct I' (dr) (0) (4) :))) ?_
 refine sp 1 [(23, .bool (!(inB dr 0 4)))] ?_
 refine se ?_
 refine rc 23 rfl (fun h2 => ?_) (fun h2 => ?_)
 ·
  have B5 := h2
  have h2 := not_t h2
  have B4 := inB_f h2
  refine rqr ?_
  refine sp 2 [(5, .int .i64 (1)), (4, .int .i64 (0))] ?_
  refine se (rret ?_)
  refine (pst_ret_pass ?_)
  refine pst_marks (R := ((b1, Obj.cells #[.slice b0 Y.cars.length b2, .slice b3 Y.room.length b4, .slice b5 Y.tracks.length b6] 26 (0, 0)) :: F)) [] (.inl rfl) (PR _) ?_
  refine pst_ret2 (t := 4) (u := 5) [] (by kernel_rfl) rfl rfl (TC _ (TR _)) (Imm.le.refl _) ?_
  exact ⟨(congrArg (fun p : Int × Int => Value.tuple #[.int .i64 p.1, .int .i64 p.2]) (reachE_far r0 h2).symm), rfl⟩
 have B5 := h2
 have h2 := not_f h2
 have B4 := inB_t h2
 have C1 : inB dr 0 4 = true := h2
 refine rskip (pst_next (rq ?_))
 obtain ⟨d, hdd⟩ : ∃ d : Nat, dr = ↑d := ⟨dr.toNat, by have := inB_t C1; omega⟩
 have T3 := inB_t C1
 refine rr ?_
 refine sd (dnb 24 0 0 b1 [.slice b0 Y.cars.length b2, .slice b3 Y.room.length b4, .slice b5 Y.tracks.length b6]) ?_
 have p4 := copied_ct I _ (Y) (mkYard o2 o3 o4) (by omega) (by omega) (by omega) (by exact l5.le)
 refine sS (sc (some 25) (p4 :) (.refl _) (fun P1 I3 O7 q1 M8 => ?_))
 obtain ⟨P5, l0, J6, g3, J8, f2, e8, G7, G4, r5, r6, o0, f3⟩ := M8
 rw [G7, G4]; clear G7 G4
 replace hG := hG.mono q1
 obtain ⟨f0, f1, o1, E7⟩ := r5.shape
 subst o1
 obtain ⟨d9, e0, k4, v8⟩ := r6.shape
 subst k4
 obtain ⟨e1, e2, k6, x0⟩ := o0.shape
 subst k6
 have j3 := f3.1
 try simp only [LS, LA, LC, LN, LK] at j3
 refine seq_mem (M' := ((l0 ++ (g3 ++ (e8 ++ (b1, Obj.cells #[.slice b0 Y.cars.length b2, .slice b3 Y.room.length b4, .slice b5 Y.tracks.length b6] 26 (0, 0)) :: F))))) (fun w h => by simpa only [AA, CA, NA] using h) ?_
 refine pm (M' := ((b1, Obj.cells #[.slice b0 Y.cars.length b2, .slice b3 Y.room.length b4, .slice b5 Y.tracks.length b6] 26 (0, 0)) :: (l0 ++ (g3 ++ (e8 ++ F))))) ((PA _ ((PA _ PM).trans PM)).trans PM) ?_
 refine sfz (A := ((b1, Obj.cells #[.slice b0 Y.cars.length b2, .slice b3 Y.room.length b4, .slice b5 Y.tracks.length b6] 26 (0, 0)) :: (g3 ++ (e8 ++ F)))) noCar r5 (PM.symm) (fun R7 j0 a4 => ?_)
 replace hG := hG.mono j0
 replace f3 := f3.mono j0
 obtain ⟨z2, z4, z3, z7, m3, z5, z6, z8⟩ := id a4
 cases m3
 refine sfz (A := ((b1, Obj.cells #[.slice b0 Y.cars.length b2, .slice b3 Y.room.length b4, .slice b5 Y.tracks.length b6] 26 (0, 0)) :: (e8 ++ F))) 0 r6 (PM.symm) (fun K8 h8 c4 => ?_)
 replace hG := hG.mono h8
 replace f3 := f3.mono h8
 replace a4 := a4.mono h8
 obtain ⟨z9, A1, A0, A4, m4, A2, A3, A5⟩ := id c4
 cases m4
 refine sp 1 [(26, .agg #[.slice f0 Y.cars.length f1, .slice d9 Y.room.length e0, .slice e1 f2.length e2])] ?_
 refine sS (sb 27 110 #[.slice f0 Y.cars.length f1, .slice d9 Y.room.length e0, .slice e1 f2.length e2] (fun g5 => ?_))
 refine sp 1 [(7, .pointer (some ⟨g5, 0, none⟩))] ?_
 refine sn ?_
 refine sS (stp_makeMap (d := 28) (T := 115) (ty := 115) (gd := none) (by kernel_rfl) rfl (fun d0 => ?_))
 refine sp 1 [(29, .pointer (some ⟨g5, 0, none⟩))] ?_
 have p5 := where_ct K8 (g5) _ _ _ _ _ (Y) a4 c4 o0 f3 (by exact l5.ok) (by exact i3.cars) (by omega)
 refine sS (sc (some 30) (F := ((d0, Obj.map #[] 0) :: (b1, Obj.cells #[.slice b0 Y.cars.length b2, .slice b3 Y.room.length b4, .slice b5 Y.tracks.length b6] 26 (0, 0)) :: F)) (p5 :) ((PS _ _ _).trans (PC _ ((PC _ (PM.symm)).trans (PM.symm)))) (fun P2 R8 O8 f8 C6 => ?_))
 obtain ⟨q7, q2⟩ := C6
 rw [q7, q2]; clear q7 q2
 replace hG := hG.mono f8
 replace f3 := f3.mono f8
 replace a4 := a4.mono f8
 replace c4 := c4.mono f8
 refine seq_mem (M' := ((g5, Obj.cells #[.slice f0 Y.cars.length f1, .slice d9 Y.room.length e0, .slice e1 f2.length e2] 110 (0, 0)) :: (e8 ++ (d0, Obj.map #[] 0) :: (b1, Obj.cells #[.slice b0 Y.cars.length b2, .slice b3 Y.room.length b4, .slice b5 Y.tracks.length b6] 26 (0, 0)) :: F))) (fun w h => by simpa only [AA, CA, NA] using h) ?_
 refine pm (M' := ((g5, Obj.cells #[.slice f0 Y.cars.length f1, .slice d9 Y.room.length e0, .slice e1 f2.length e2] 110 (0, 0)) :: (d0, Obj.map #[] 0) :: (b1, Obj.cells #[.slice b0 Y.cars.length b2, .slice b3 Y.room.length b4, .slice b5 Y.tracks.length b6] 26 (0, 0)) :: (e8 ++ F))) (PC _ (List.perm_middle.trans (PC _ PM))) ?_
 refine sS (stp_insert (x := (.tmp 28)) (y := (.tmp 30)) (u := (.const (.bool true))) (T := 115) (kt := 113) (et := 4) (k := (placeOf Y)) (kvs := trues ([])) 1 (ty := 0) (gd := none) (by kernel_rfl) rfl (by kernel_rfl) (keyOk_place (by kernel_rfl) (by kernel_rfl)) rfl rfl rfl rfl (MapIs.nil _) (fun i7 i6 i9 => ?_))
 rw [upd_trues] at i9
 rw [if_neg (by simp)] at i9
 refine nm ?_
 refine sp 1 [(31, .map (some d0))] ?_
 refine sS (sal 8 115 #[.map none] (fun l1 => ?_))
 refine sS (ss 0 0 l1 [.map (some d0)] [.map (some d0)] (_ :: _ :: _ :: _ :: _) (cs := [_]) rfl rfl ?_)
 refine se (rq ?_)
 refine rn_freeze (B := ((l1, Obj.cells #[.map (some d0)] 115 (0, 0)) :: (g5, Obj.cells #[.slice f0 Y.cars.length f1, .slice d9 Y.room.length e0, .slice e1 f2.length e2] 110 (0, 0)) :: (d0, Obj.map i7 i6) :: (b1, Obj.cells #[.slice b0 Y.cars.length b2, .slice b3 Y.room.length b4, .slice b5 Y.tracks.length b6] 26 (0, 0)) :: F)) undef o0 (by first | omega | (simp only [LS, LC, LN, LA, LK, LD] <;> omega) | decide) ((PC _ ((PC _ ((PC _ (PM.symm)).trans (PM.symm))).trans (PM.symm))).trans (PM.symm)) (PR _) (fun R9 f9 i8 => ?_)
 replace hG := hG.mono f9
 replace f3 := f3.mono f9
 replace a4 := a4.mono f9
 replace c4 := c4.mono f9
 obtain ⟨A6, A8, A7, B1, m5, A9, B0, B2⟩ := id i8
 cases m5
 have e9 := f3.isRows i8
 have p2 := f3.1
 obtain ⟨y4, y6, y5, y9, t3, m2, y7, y8, z0, z1⟩ := id e9
 injection m2 with fr46_e1 fr46_e2 fr46_e3; subst fr46_e1; subst fr46_e3
 refine run_hold (b := g5) (o := Obj.cells #[.slice f0 Y.cars.length f1, .slice d9 Y.room.length e0, .slice e1 f2.length e2] 110 (0, 0)) (M0 := ((l1, Obj.cells #[.map (some d0)] 115 (0, 0)) :: (d0, Obj.map i7 i6) :: (b1, Obj.cells #[.slice b0 Y.cars.length b2, .slice b3 Y.room.length b4, .slice b5 Y.tracks.length b6] 26 (0, 0)) :: F)) (PS _ _ _) (fun T0 g0 a2 => ?_)
 replace hG := hG.mono g0
 replace a4 := a4.mono g0
 replace c4 := c4.mono g0
 replace e9 := e9.mono g0
 refine run_hold (b := l1) (o := Obj.cells #[.map (some d0)] 115 (0, 0)) (M0 := ((d0, Obj.map i7 i6) :: (b1, Obj.cells #[.slice b0 Y.cars.length b2, .slice b3 Y.room.length b4, .slice b5 Y.tracks.length b6] 26 (0, 0)) :: F)) (PR _) (fun y0 f5 a3 => ?_)
 replace hG := hG.mono f5
 replace a4 := a4.mono f5
 replace c4 := c4.mono f5
 replace e9 := e9.mono f5
 replace a2 := f5.blk _ _ a2
 refine rr ?_
 refine sp 1 [(32, .pointer (some ⟨g5, 0, none⟩))] ?_
 refine sS (sbs 33 108 1 #[.pointer (some ⟨g5, 0, none⟩)] (fun o5 => ?_))
 refine sp 1 [(9, .slice (some ⟨o5, 0, none⟩) 1 1)] ?_
 refine se (rq (rq ?_))
 refine rn_mem (M' := ((d0, Obj.map i7 i6) :: (b1, Obj.cells #[.slice b0 Y.cars.length b2, .slice b3 Y.room.length b4, .slice b5 Y.tracks.length b6] 26 (0, 0)) :: ([(o5, Obj.cells #[.pointer (some ⟨g5, 0, none⟩)] 108 (0, 0))] ++ F))) (fun w h => h.perm ((PS _ _ _).trans (PC _ (PS _ _ _)))) ?_
 have C5 : Own 108 1 valCell (.slice (some ⟨o5, 0, none⟩) 1 1) ([(.pointer (some ⟨g5, 0, none⟩) : Value)] : List Value) [(o5, Obj.cells #[.pointer (some ⟨g5, 0, none⟩)] 108 (0, 0))] := Own.lit rfl rfl
 have i1 : YardsH 110 y0 [.pointer (some ⟨g5, 0, none⟩)] [Y] := (YardsH.nil _ _).snoc (YardH.mk a2 a4 c4 e9)
 refine rr ?_
 refine sp 1 [(34, .int .i64 (dr))] ?_
 refine seq_re 34 rfl (show (.int .i64 (dr) : Value) = .int .i64 (↑d) from congrArg (Value.int .i64) hdd) ?_
 refine sp 1 [(35, .int .i64 (0))] ?_
 refine se (rb 0 ?_)
 refine rl (fun mz a w => ∃ J0 : Imm, ∃ k : Nat, ∃ nv : Value, ∃ i4 : List Value, ∃ nM : Seg, ∃ zs : List Yard, ∃ g9 : List Sh.Place, ∃ es : Array MapEntry, ∃ cl : Nat, ∃ Ds : List Nat, (y0.le J0) ∧ (k ≤ d) ∧ (reachM d [placeOf Y] [Y] = reachM (d - k) g9 zs) ∧ (VisOk Y (g9, zs)) ∧ (Own 108 1 valCell nv i4 nM) ∧ (YardsH 110 J0 i4 zs) ∧ (MapIs encP es (trues g9)) ∧ Slots 73 [(9, nv), (35, .int .i64 ↑k), (4, .int .i64 (0)), (5, .int .i64 (0)), (8, .pointer (some ⟨l1, 0, none⟩)), (34, .int .i64 (↑d))] a ∧ a.defers = Ds.map Sl.mark ∧ St J0 ((d0, Obj.map es cl) :: (b1, Obj.cells #[.slice b0 Y.cars.length b2, .slice b3 Y.room.length b4, .slice b5 Y.tracks.length b6] 26 (0, 0)) :: (nM ++ (Sl.blocksOf Ds ++ F))) w ∧ mz = d - k) ?_ ?_
 ·intro a w hS hD hW
  exact ⟨_, y0, 0, (.slice (some ⟨o5, 0, none⟩) 1 1), ([(.pointer (some ⟨g5, 0, none⟩) : Value)] : List Value), [(o5, Obj.cells #[.pointer (some ⟨g5, 0, none⟩)] 108 (0, 0))], [Y], [placeOf Y], i7, i6, [], Imm.le.refl _, Nat.zero_le _, rfl, VisOk.start Y, C5, i1, i9, hS.sub (.cons 9 rfl (.cons 35 rfl (.cons 4 rfl (.cons 5 rfl (.cons 8 rfl (.cons 34 rfl (.nil _))))))), hD, hW, rfl⟩
 rintro mz a w ⟨J0, k, nv, i4, nM, zs, g9, es, cl, Ds, hJ0, hk, hr, v5, no, i1, p9, hS, hD, hW, rfl⟩
 refine run_at hS hD hW ?_
 clear hS hD hW a w
 replace hG := hG.mono hJ0
 replace a2 := hJ0.blk _ _ a2
 replace a3 := hJ0.blk _ _ a3
 obtain ⟨n8, n9, E6, O5⟩ := no.shape; subst E6
 have T6 := i1.1
 have T8 : zs.length ≤ 5000 := (v5.count i3).2
 refine rqr ?_
 refine sp 1 [(36, .bool (cmp .lss (↑k) (↑d)))] ?_
 refine se (rq ?_)
 refine rc 36 rfl (fun h3 => ?_) (fun h3 => ?_)
 ·
  have B6 := h3
  have h3 := lss_t h3
  refine rskip (pst_next (rq (rb 1 (rqr ?_))))
  refine sS (sal 10 116 #[.slice none 0 0] (fun e4 => ?_))
  refine se (rq (rqr ?_))
  refine sp 3 [(39, .int .i64 (0)), (38, .int .i64 (↑(i4.length))), (37, .slice n8 i4.length n9)] ?_
  refine se (rb 2 ?_)
  refine rl (fun mz a w => ∃ J1 : Imm, ∃ j : Nat, ∃ xv : Value, ∃ k8 : List Value, ∃ xM : Seg, ∃ o6 : Array MapEntry, ∃ p0 : Nat, ∃ j8 : List Nat, (J0.le J1) ∧ (j ≤ zs.length) ∧ (Own 108 1 valCell xv k8 xM) ∧ (YardsH 110 J1 k8 (visJ g9 zs j).2) ∧ (MapIs encP o6 (trues (visJ g9 zs j).1)) ∧ Slots 73 [(39, .int .i64 ↑j), (4, .int .i64 (0)), (5, .int .i64 (0)), (8, .pointer (some ⟨l1, 0, none⟩)), (9, .slice n8 i4.length n9), (10, .pointer (some ⟨e4, 0, none⟩)), (34, .int .i64 (↑d)), (35, .int .i64 (↑k)), (37, .slice n8 i4.length n9), (38, .int .i64 (↑(i4.length)))] a ∧ a.defers = j8.map Sl.mark ∧ St J1 ((e4, Obj.cells #[xv] 116 (0, 0)) :: (d0, Obj.map o6 p0) :: (b1, Obj.cells #[.slice b0 Y.cars.length b2, .slice b3 Y.room.length b4, .slice b5 Y.tracks.length b6] 26 (0, 0)) :: (nM ++ (Sl.blocksOf j8 ++ (xM ++ F)))) w ∧ mz = zs.length - j) ?_ ?_
  ·intro a w hS hD hW
   exact ⟨_, J0, 0, (.slice none 0 0), [], [], es, cl, Ds, Imm.le.refl _, Nat.zero_le _, Own.nil _ _ _, (by rw [visJ_zero]; exact YardsH.nil _ _), (by rw [visJ_zero]; exact p9), hS.sub (.cons 39 rfl (.cons 4 rfl (.cons 5 rfl (.cons 8 rfl (.cons 9 rfl (.cons 10 rfl (.cons 34 rfl (.cons 35 rfl (.cons 37 rfl (.cons 38 rfl (.nil _))))))))))), hD, hW, rfl⟩
  rintro mz a w ⟨J1, j, xv, k8, xM, o6, p0, j8, hJ1, hj, xo, xh, p8, hS, hD, hW, rfl⟩
  refine run_at hS hD hW ?_
  clear hS hD hW a w
  replace hG := hG.mono hJ1
  replace a2 := hJ1.blk _ _ a2
  replace a3 := hJ1.blk _ _ a3
  replace i1 := i1.mono hJ1
  obtain ⟨j6, j7, E9, P9⟩ := xo.shape; subst E9
  refine rqr ?_
  refine sp 1 [(40, .bool (cmp .lss (↑j) (↑(i4.length))))] ?_
  refine se (rq ?_)
  refine rc 40 rfl (fun h4 => ?_) (fun h4 => ?_)
  ·
   have B7 := h4
   have h4 := lss_t h4
   refine rskip (pst_next (rq (rb 3 (rqr ?_))))
   obtain ⟨O6, m1⟩ := no.row undef
   refine sd (di 41 1 (j) m1.addr) ?_
   obtain ⟨xb, O2, O3, O4, E5, b7, r1, r2, r3⟩ := i1.2 (j) (by omega)
   have d1 := r1
   obtain ⟨m9, n0, C9, D2, n1, D0, D1, D3⟩ := id d1
   subst n1
   have d2 := r2
   obtain ⟨n2, n3, D4, D7, n4, D5, D6, D8⟩ := id d2
   subst n4
   have d3 := r3
   obtain ⟨n5, n6, D9, E2, v6, n7, E0, E1, E3, E4⟩ := id d3
   subst n7
   have o8 : ((zs.getD (j) noYard).tracks).length = ((zs.getD (j) noYard).tracks).length := rfl
   refine sd (det_eq (dl 42 (m1.get (j) (by omega) 0 (by decide) _ _ (fun x hx => by simp [hx]))) E5) ?_
   refine sS (sal 12 108 #[.pointer none] (fun s2 => ?_))
   refine sS (ss 0 0 s2 [.pointer (some ⟨xb, 0, none⟩)] [.pointer (some ⟨xb, 0, none⟩)] (_ :: _ :: _ :: _ :: _) (cs := [_]) rfl rfl ?_)
   refine se (rq ?_)
   have q0 : Kin Y (zs.getD (j) noYard) := v5.kin _ (getD_mem (d := noYard) (xs := zs) (k := j) (by omega))
   have B9 := Kin.good i3 q0; have M7 := q0.lens i3; have M5 := q0.cars5 i3
   have O0 : VisOk Y (visJ g9 zs j) := v5.j i3 j
   refine run_hold (b := s2) (o := Obj.cells #[.pointer (some ⟨xb, 0, none⟩)] 108 (0, 0)) (M0 := ((e4, Obj.cells #[.slice j6 k8.length j7] 116 (0, 0)) :: (d0, Obj.map o6 p0) :: (b1, Obj.cells #[.slice b0 Y.cars.length b2, .slice b3 Y.room.length b4, .slice b5 Y.tracks.length b6] 26 (0, 0)) :: (nM ++ (Sl.blocksOf j8 ++ (xM ++ F))))) (PR _) (fun K9 e5 c7 => ?_)
   replace hG := hG.mono e5
   replace a2 := e5.blk _ _ a2
   replace a3 := e5.blk _ _ a3
   replace xh := xh.mono e5
   replace d1 := d1.mono e5
   replace d2 := d2.mono e5
   replace d3 := d3.mono e5
   replace b7 := e5.blk _ _ b7
   refine rr ?_
   refine sd (det_load (v := .pointer (some ⟨xb, 0, none⟩)) (x := (.tmp 12)) (T := 108) (d := 43) (ty := 108) (gd := none) (by kernel_rfl) rfl (by kernel_rfl) rfl (sees_held c7 rfl)) ?_
   have p6 := shifts_ct K9 (xb)
   refine sS (sc (some 44) (p6 :) (.refl _) (fun P3 M3 O9 e3 C7 => ?_))
   obtain ⟨l2, o9, q8, q3, d4, d5⟩ := C7
   rw [q8, q3]; clear q8 q3
   replace hG := hG.mono e3
   replace a2 := e3.blk _ _ a2
   replace a3 := e3.blk _ _ a3
   replace xh := xh.mono e3
   replace d1 := d1.mono e3
   replace d2 := d2.mono e3
   replace d3 := d3.mono e3
   replace b7 := e3.blk _ _ b7
   replace c7 := e3.blk _ _ c7
   refine nm (se (rb 4 ?_))
   refine run_rangeFunc (α := Shift) (g := (.tmp 44)) (ps := #[45]) (assign := c_Reach [1, 1, 1, 1, 1, 1, 0, 1, 0, 0, 1, 1, 0, 0, 1, 0, 1, 0, 0, 1, 1, 0, 0, 1, 1, 0, 0]) (body := c_Reach [1, 1, 1, 1, 1, 1, 0, 1, 0, 0, 1, 1, 0, 0, 1, 0, 1, 0, 0, 1, 1, 0, 0, 1, 1, 0, 1]) (gf := 135) (cv := [.pointer (some ⟨l2, 0, none⟩), .pointer (some ⟨o9, 0, none⟩)]) (enc := encS) (seq := draws (zs.getD (j) noYard)) (R := NoR) (Mr := []) (M0 := ((d0, Obj.map o6 p0) :: (e4, Obj.cells #[.slice j6 k8.length j7] 116 (0, 0)) :: xM)) (F0 := ((b1, Obj.cells #[.slice b0 Y.cars.length b2, .slice b3 Y.room.length b4, .slice b5 Y.tracks.length b6] 26 (0, 0)) :: (nM ++ (Sl.blocksOf j8 ++ F))))
    (fun xs I M => ∃ es cl nv i4 nM, M = (d0, Obj.map es cl) :: (e4, Obj.cells #[nv] 116 (0, 0)) :: nM ∧ MapIs encP es (trues (visX (visJ g9 zs j) (zs.getD (j) noYard) xs).1) ∧ Own 108 1 valCell nv i4 nM ∧ YardsH 110 I i4 (visX (visJ g9 zs j) (zs.getD (j) noYard) xs).2) (fun _ _ _ _ => False) (fun x k => [(4, .int .i64 (0)), (5, .int .i64 (0)), (8, .pointer (some ⟨l1, 0, none⟩)), (10, .pointer (some ⟨e4, 0, none⟩)), (12, .pointer (some ⟨s2, 0, none⟩)), (13, .pointer (some ⟨k, 0, none⟩))]) (fun x k => [(k, Obj.cells #[.int .i64 (x.frm), .int .i64 (x.to), .int .i64 (x.many)] 52 (0, 0))])
    (by kernel_rfl) rfl (by kernel_rfl) (fun _ => rfl) (by kernel_rfl) (shifts1h_iter M3 xb l2 o9 _ _ _ (zs.getD (j) noYard) hG d4 d5 b7 d1 d2 d3 B9 M7.2.2) ((fun xs I J M hle ⟨a, b, c, d, e, h1, h2, h3, h4⟩ => ⟨a, b, c, d, e, h1, h2, h3, h4.mono hle⟩)) (by simpa only [AA, CA, NA] using ((PS _ _ _).trans (PC _ (PC _ ((PC _ ((PA _ (PO _ _ _)).trans (PO _ _ _))).trans (PM.symm)))))) rfl ⟨_, _, _, _, _, rfl, p8, xo, xh⟩ ?_ ?_ ?_ ?_
   ·intro L x I1 M1
    refine run_sub (l' := [(4, .int .i64 (0)), (5, .int .i64 (0)), (8, .pointer (some ⟨l1, 0, none⟩)), (10, .pointer (some ⟨e4, 0, none⟩)), (12, .pointer (some ⟨s2, 0, none⟩)), (45, .agg #[.int .i64 (x.frm), .int .i64 (x.to), .int .i64 (x.many)])]) (.cons 4 rfl (.cons 5 rfl (.cons 8 rfl (.cons 10 rfl (.cons 12 rfl (.cons 45 rfl (.nil _))))))) ?_
    refine rr ?_
    refine sS (sal 13 52 #[.int .i64 (0), .int .i64 (0), .int .i64 (0)] (fun G3 => ?_))
    refine sS (ss 0 0 G3 [.int .i64 (x.frm), .int .i64 (x.to), .int .i64 (x.many)] [.int .i64 (x.frm), .int .i64 (x.to), .int .i64 (x.many)] (_ :: _) (cs := [_, _, _]) rfl rfl ?_)
    refine ee ?_
    exact pst_meet (fun a w hS hD hW => ⟨G3, hS.sub (.cons 4 rfl (.cons 5 rfl (.cons 8 rfl (.cons 10 rfl (.cons 12 rfl (.cons 13 rfl (.nil _))))))), hD, hW⟩)
   ·intro L x k xs I1 Mr1 M1 F1 hpre hle1 hR1 hC1
    replace a2 := hle1.blk _ _ a2
    replace a3 := hle1.blk _ _ a3
    replace xh := xh.mono hle1
    replace d1 := d1.mono hle1
    replace d2 := d2.mono hle1
    replace d3 := d3.mono hle1
    replace b7 := hle1.blk _ _ b7
    replace c7 := hle1.blk _ _ c7
    replace d4 := hle1.blk _ _ d4
    replace d5 := hle1.blk _ _ d5
    obtain rfl : Mr1 = [] := hR1
    obtain ⟨g7, g6, T9, c9, g2, rfl, m8, E8, g1⟩ := hC1
    obtain ⟨a5, a6, s0, K1⟩ := E8.shape; subst s0
    have G5 : mayErr (zs.getD (j) noYard) x = 0 := mem_draws_may (mem_of_prefix hpre)
    have O1 : VisOk Y (visX (visJ g9 zs j) (zs.getD (j) noYard) xs) := VisOk.x i3 O0 q0 (prefix_left hpre)
    have T2 := (O1.count i3).2
    have T7 := g1.1
    have C3 : Kin Y (moved (zs.getD (j) noYard) x) := q0.moved G5
    have M6 := Kin.good i3 C3; have T5 := C3.lens i3; have C0 := C3.cars5 i3
    have C4 := mayErr_ok G5
    refine run_mem (M' := ((k, Obj.cells #[.int .i64 (x.frm), .int .i64 (x.to), .int .i64 (x.many)] 52 (0, 0)) :: (d0, Obj.map g7 g6) :: (e4, Obj.cells #[.slice a5 c9.length a6] 116 (0, 0)) :: (g2 ++ F1))) (fun w h => by simpa only [AA, CA, NA] using h) ?_
    refine rnm (rb 5 (rqr ?_))
    refine sd (det_load (v := .pointer (some ⟨xb, 0, none⟩)) (x := (.tmp 12)) (T := 108) (d := 46) (ty := 108) (gd := none) (by kernel_rfl) rfl (by kernel_rfl) rfl (sees_held c7 rfl)) ?_
    refine sp 1 [(47, .pointer (some ⟨xb, 0, none⟩))] ?_
    refine sd (det_fieldAddr (x := (.tmp 47)) (T := 110) (k := 0) (o := 0) (d := 48) (ty := 0) (gd := none) (by kernel_rfl) rfl (by kernel_rfl) rfl) ?_
    refine sd (det_loadN (x := (.tmp 48)) (T := 26) (n := 3) (vs := [.slice m9 ((zs.getD (j) noYard).cars).length n0, .slice n2 ((zs.getD (j) noYard).room).length n3, .slice n5 ((zs.getD (j) noYard).tracks).length n6]) (d := 49) (ty := 26) (gd := none) (by kernel_rfl) rfl (by kernel_rfl) (by kernel_rfl) rfl rfl (seesN_held (n := 3) b7 rfl)) ?_
    have p7 := copied_ct I1 _ (zs.getD (j) noYard) (mkYard d1 d2 d3) (by omega) (by omega) (by omega) (by exact B9.le)
    refine sS (sc (some 50) (p7 :) (.refl _) (fun P4 T1 P0 e6 C8 => ?_))
    obtain ⟨J5, i5, J7, g4, J9, d6, f6, q9, q4, r7, r8, r9, i2⟩ := C8
    rw [q9, q4]; clear q9 q4
    replace a2 := e6.blk _ _ a2
    replace a3 := e6.blk _ _ a3
    replace b7 := e6.blk _ _ b7
    replace c7 := e6.blk _ _ c7
    replace d4 := e6.blk _ _ d4
    replace d5 := e6.blk _ _ d5
    replace g1 := g1.mono e6
    obtain ⟨b8, b9, k3, v7⟩ := r7.shape
    subst k3
    obtain ⟨c0, c1, k5, v9⟩ := r8.shape
    subst k5
    obtain ⟨c2, c3, k7, x1⟩ := r9.shape
    subst k7
    have j4 := i2.1
    try simp only [LS, LA, LC, LN, LK] at j4
    refine seq_mem (M' := ((i5 ++ (g4 ++ (f6 ++ (k, Obj.cells #[.int .i64 (x.frm), .int .i64 (x.to), .int .i64 (x.many)] 52 (0, 0)) :: (d0, Obj.map g7 g6) :: (e4, Obj.cells #[.slice a5 c9.length a6] 116 (0, 0)) :: (g2 ++ F1)))))) (fun w h => by simpa only [AA, CA, NA] using h) ?_
    refine pm (M' := ((k, Obj.cells #[.int .i64 (x.frm), .int .i64 (x.to), .int .i64 (x.many)] 52 (0, 0)) :: (d0, Obj.map g7 g6) :: (e4, Obj.cells #[.slice a5 c9.length a6] 116 (0, 0)) :: (i5 ++ (g4 ++ (f6 ++ (g2 ++ F1)))))) (((PA _ ((PA _ PM).trans PM)).trans PM).trans (PC _ (((PA _ ((PA _ PM).trans PM)).trans PM).trans (PC _ ((PA _ ((PA _ PM).trans PM)).trans PM))))) ?_
    refine sfz (A := ((k, Obj.cells #[.int .i64 (x.frm), .int .i64 (x.to), .int .i64 (x.many)] 52 (0, 0)) :: (d0, Obj.map g7 g6) :: (e4, Obj.cells #[.slice a5 c9.length a6] 116 (0, 0)) :: (g4 ++ (f6 ++ (g2 ++ F1))))) noCar r7 ((PC _ ((PC _ (PM.symm)).trans (PM.symm))).trans (PM.symm)) (fun K4 c8 a0 => ?_)
    replace a2 := c8.blk _ _ a2
    replace a3 := c8.blk _ _ a3
    replace b7 := c8.blk _ _ b7
    replace c7 := c8.blk _ _ c7
    replace d4 := c8.blk _ _ d4
    replace d5 := c8.blk _ _ d5
    replace g1 := g1.mono c8
    replace i2 := i2.mono c8
    obtain ⟨t4, t6, t5, t9, k1, t7, t8, u0⟩ := id a0
    cases k1
    refine sfz (A := ((k, Obj.cells #[.int .i64 (x.frm), .int .i64 (x.to), .int .i64 (x.many)] 52 (0, 0)) :: (d0, Obj.map g7 g6) :: (e4, Obj.cells #[.slice a5 c9.length a6] 116 (0, 0)) :: (f6 ++ (g2 ++ F1)))) 0 r8 ((PC _ ((PC _ (PM.symm)).trans (PM.symm))).trans (PM.symm)) (fun x8 c5 a1 => ?_)
    replace a2 := c5.blk _ _ a2
    replace a3 := c5.blk _ _ a3
    replace b7 := c5.blk _ _ b7
    replace c7 := c5.blk _ _ c7
    replace d4 := c5.blk _ _ d4
    replace d5 := c5.blk _ _ d5
    replace g1 := g1.mono c5
    replace i2 := i2.mono c5
    replace a0 := a0.mono c5
    obtain ⟨u1, u3, u2, u6, k2, u4, u5, u7⟩ := id a1
    cases k2
    refine sp 1 [(51, .agg #[.slice b8 (((zs.getD (j) noYard)).cars).length b9, .slice c0 (((zs.getD (j) noYard)).room).length c1, .slice c2 d6.length c3])] ?_
    refine sS (sb 52 110 #[.slice b8 (((zs.getD (j) noYard)).cars).length b9, .slice c0 (((zs.getD (j) noYard)).room).length c1, .slice c2 d6.length c3] (fun d7 => ?_))
    refine sp 1 [(14, .pointer (some ⟨d7, 0, none⟩))] ?_
    refine sn ?_
    refine sp 1 [(53, .pointer (some ⟨d7, 0, none⟩))] ?_
    refine sd (dnb 54 1 0 k [.int .i64 (x.frm), .int .i64 (x.to), .int .i64 (x.many)]) ?_
    have m6 := move_ct x8 (d7) _ _ _ _ _ (((zs.getD (j) noYard))) (x) a0 a1 r9 i2 (by exact C4.1) (by exact C4.2.1) (by exact C4.2.2) (by exact B9.le)
    refine sS (sc (some 55) (F := ((k, Obj.cells #[.int .i64 (x.frm), .int .i64 (x.to), .int .i64 (x.many)] 52 (0, 0)) :: (d0, Obj.map g7 g6) :: (e4, Obj.cells #[.slice a5 c9.length a6] 116 (0, 0)) :: (g2 ++ F1))) (m6 :) (PC _ ((PC _ ((PC _ (PM.symm)).trans (PM.symm))).trans (PM.symm))) (fun J3 x9 G9 c6 q5 => ?_))
    obtain ⟨x7, e7, l9, l6, h0, d8⟩ := q5
    rw [l9, l6]; clear l9 l6
    replace a2 := c6.blk _ _ a2
    replace a3 := c6.blk _ _ a3
    replace b7 := c6.blk _ _ b7
    replace c7 := c6.blk _ _ c7
    replace d4 := c6.blk _ _ d4
    replace d5 := c6.blk _ _ d5
    replace g1 := g1.mono c6
    replace a0 := a0.mono c6
    replace a1 := a1.mono c6
    obtain ⟨x2, x3, x4, x5⟩ := id h0.shape
    have h6 := d8.1
    try simp only [LS, LA, LC, LN, LK] at h6
    refine seq_mem (M' := ((d7, Obj.cells #[.slice b8 (((zs.getD (j) noYard)).cars).length b9, .slice c0 (((zs.getD (j) noYard)).room).length c1, .slice c2 d6.length c3] 110 (0, 0)) :: (e7 ++ (k, Obj.cells #[.int .i64 (x.frm), .int .i64 (x.to), .int .i64 (x.many)] 52 (0, 0)) :: (d0, Obj.map g7 g6) :: (e4, Obj.cells #[.slice a5 c9.length a6] 116 (0, 0)) :: (g2 ++ F1)))) (fun w h => by simpa only [AA, CA, NA] using h) ?_
    refine pm (M' := ((d7, Obj.cells #[.slice b8 (((zs.getD (j) noYard)).cars).length b9, .slice c0 (((zs.getD (j) noYard)).room).length c1, .slice c2 d6.length c3] 110 (0, 0)) :: (k, Obj.cells #[.int .i64 (x.frm), .int .i64 (x.to), .int .i64 (x.many)] 52 (0, 0)) :: (d0, Obj.map g7 g6) :: (e4, Obj.cells #[.slice a5 c9.length a6] 116 (0, 0)) :: (e7 ++ (g2 ++ F1)))) (PC _ (List.perm_middle.trans (PC _ (List.perm_middle.trans (PC _ PM))))) ?_
    refine sn ?_
    refine sp 1 [(56, .pointer (some ⟨d7, 0, none⟩))] ?_
    have m7 := where_ct x9 (d7) _ _ _ _ _ (moved (((zs.getD (j) noYard))) x) a0 a1 h0 d8 (by exact M6.ok) (by exact C0) (by omega)
    refine sS (sc (some 57) (F := ((k, Obj.cells #[.int .i64 (x.frm), .int .i64 (x.to), .int .i64 (x.many)] 52 (0, 0)) :: (d0, Obj.map g7 g6) :: (e4, Obj.cells #[.slice a5 c9.length a6] 116 (0, 0)) :: (g2 ++ F1))) (m7 :) (PC _ ((PC _ ((PC _ (PM.symm)).trans (PM.symm))).trans (PM.symm))) (fun J4 K5 J2 a7 q6 => ?_))
    obtain ⟨m0, l7⟩ := q6
    rw [m0, l7]; clear m0 l7
    replace a2 := a7.blk _ _ a2
    replace a3 := a7.blk _ _ a3
    replace b7 := a7.blk _ _ b7
    replace c7 := a7.blk _ _ c7
    replace d4 := a7.blk _ _ d4
    replace d5 := a7.blk _ _ d5
    replace g1 := g1.mono a7
    replace a0 := a0.mono a7
    replace a1 := a1.mono a7
    replace d8 := d8.mono a7
    refine seq_mem (M' := ((d7, Obj.cells #[.slice b8 (((zs.getD (j) noYard)).cars).length b9, .slice c0 (((zs.getD (j) noYard)).room).length c1, .slice c2 d6.length c3] 110 (0, 0)) :: (e7 ++ (k, Obj.cells #[.int .i64 (x.frm), .int .i64 (x.to), .int .i64 (x.many)] 52 (0, 0)) :: (d0, Obj.map g7 g6) :: (e4, Obj.cells #[.slice a5 c9.length a6] 116 (0, 0)) :: (g2 ++ F1)))) (fun w h => by simpa only [AA, CA, NA] using h) ?_
    refine pm (M' := ((d7, Obj.cells #[.slice b8 (((zs.getD (j) noYard)).cars).length b9, .slice c0 (((zs.getD (j) noYard)).room).length c1, .slice c2 d6.length c3] 110 (0, 0)) :: (k, Obj.cells #[.int .i64 (x.frm), .int .i64 (x.to), .int .i64 (x.many)] 52 (0, 0)) :: (d0, Obj.map g7 g6) :: (e4, Obj.cells #[.slice a5 c9.length a6] 116 (0, 0)) :: (e7 ++ (g2 ++ F1)))) (PC _ (List.perm_middle.trans (PC _ (List.perm_middle.trans (PC _ PM))))) ?_
    refine sS (sal 15 113 #[.int .i64 (0), .int .i64 (0), .int .i64 (0), .int .i64 (0), .int .i64 (0), .int .i64 (0), .int .i64 (0), .int .i64 (0), .int .i64 (0), .int .i64 (0)] (fun j9 => ?_))
    refine sS (stp_storeW (T := 113) (x := (.tmp 15)) (y := (.tmp 57)) (n := 10) (vs := plCells (placeOf (moved (((zs.getD (j) noYard))) x)).val) (M' := ((j9, Obj.cells (plCells (placeOf (moved (((zs.getD (j) noYard))) x)).val) 113 (0, 0)) :: (d7, Obj.cells #[.slice b8 (((zs.getD (j) noYard)).cars).length b9, .slice c0 (((zs.getD (j) noYard)).room).length c1, .slice c2 d6.length c3] 110 (0, 0)) :: (k, Obj.cells #[.int .i64 (x.frm), .int .i64 (x.to), .int .i64 (x.many)] 52 (0, 0)) :: (d0, Obj.map g7 g6) :: (e4, Obj.cells #[.slice a5 c9.length a6] 116 (0, 0)) :: (e7 ++ (g2 ++ F1)))) 0 (ty := 0) (gd := none) (by kernel_rfl) rfl rfl rfl (by kernel_rfl) rfl (plCells_size _) (plCells_one _) rfl (rfl) rfl ?_)
    refine se (rq ?_)
    refine rn_freeze (B := ((j9, Obj.cells (plCells (placeOf (moved (((zs.getD (j) noYard))) x)).val) 113 (0, 0)) :: (d7, Obj.cells #[.slice b8 (((zs.getD (j) noYard)).cars).length b9, .slice c0 (((zs.getD (j) noYard)).room).length c1, .slice c2 d6.length c3] 110 (0, 0)) :: (k, Obj.cells #[.int .i64 (x.frm), .int .i64 (x.to), .int .i64 (x.many)] 52 (0, 0)) :: (d0, Obj.map g7 g6) :: (e4, Obj.cells #[.slice a5 c9.length a6] 116 (0, 0)) :: (g2 ++ F1))) undef h0 (by first | omega | (simp only [LS, LC, LN, LA, LK, LD] <;> omega) | decide) ((PC _ ((PC _ ((PC _ ((PC _ (PM.symm)).trans (PM.symm))).trans (PM.symm))).trans (PM.symm))).trans (PM.symm)) (PR _) (fun K6 a8 f7 => ?_)
    replace a2 := a8.blk _ _ a2
    replace a3 := a8.blk _ _ a3
    replace b7 := a8.blk _ _ b7
    replace c7 := a8.blk _ _ c7
    replace d4 := a8.blk _ _ d4
    replace d5 := a8.blk _ _ d5
    replace g1 := g1.mono a8
    replace a0 := a0.mono a8
    replace a1 := a1.mono a8
    replace d8 := d8.mono a8
    obtain ⟨u8, v0, u9, v3, h7, v1, v2, v4⟩ := id f7
    first | cases h7 | (injection h7 with fz133_e1 fz133_e2 fz133_e3; subst fz133_e1; subst fz133_e3; try rw [← fz133_e2] at f7)
    have f4 := d8.isRows f7
    have o7 := d8.1
    obtain ⟨s5, s7, s6, t0, p1, k0, s8, s9, t1, t2⟩ := id f4
    injection k0 with fr134_e1 fr134_e2 fr134_e3; subst fr134_e1; subst fr134_e3
    refine run_hold (b := d7) (o := Obj.cells #[.slice b8 (((zs.getD (j) noYard)).cars).length b9, .slice c0 (((zs.getD (j) noYard)).room).length c1, .slice c2 d6.length c3] 110 (0, 0)) (M0 := ((j9, Obj.cells (plCells (placeOf (moved (((zs.getD (j) noYard))) x)).val) 113 (0, 0)) :: (k, Obj.cells #[.int .i64 (x.frm), .int .i64 (x.to), .int .i64 (x.many)] 52 (0, 0)) :: (d0, Obj.map g7 g6) :: (e4, Obj.cells #[.slice a5 c9.length a6] 116 (0, 0)) :: (g2 ++ F1))) (PS _ _ _) (fun K7 a9 p3 => ?_)
    replace a2 := a9.blk _ _ a2
    replace a3 := a9.blk _ _ a3
    replace b7 := a9.blk _ _ b7
    replace c7 := a9.blk _ _ c7
    replace d4 := a9.blk _ _ d4
    replace d5 := a9.blk _ _ d5
    replace g1 := g1.mono a9
    replace a0 := a0.mono a9
    replace a1 := a1.mono a9
    replace f4 := f4.mono a9
    refine rr ?_
    refine sd (det_load (v := .map (some d0)) (x := (.tmp 8)) (T := 115) (d := 58) (ty := 115) (gd := none) (by kernel_rfl) rfl (by kernel_rfl) rfl (sees_held a3 rfl)) ?_
    refine sd (det_loadW (x := (.tmp 15)) (T := 113) (n := 10) (d := 59) (ty := 113) (gd := none) (by kernel_rfl) rfl (by kernel_rfl) (by kernel_rfl) (plCells_size _) rfl (.inl (List.mem_of_getElem? (i := 0) rfl))) ?_
    refine sd (det_lookup (x := (.tmp 58)) (y := (.tmp 59)) (T := 115) (kt := 113) (et := 4) (k := (placeOf (moved (((zs.getD (j) noYard))) x))) (kvs := trues ((visX (visJ g9 zs j) (zs.getD (j) noYard) xs).1)) (z := .bool false) (d := 60) (ty := 4) (gd := none) (by kernel_rfl) rfl (by kernel_rfl) (keyOk_place (by kernel_rfl) (by kernel_rfl)) rfl rfl (by kernel_rfl) (.inl (List.mem_of_getElem? (i := 2) rfl)) m8 (getKv_trues _ _)) ?_
    refine sd (det_not (x := (.tmp 60)) (T := 4) (d := 61) (ty := 4) (gd := none) (by kernel_rfl) rfl rfl) ?_
    refine se ?_
    refine rc 61 rfl (fun h5 => ?_) (fun h5 => ?_)
    ·
     have B8 := h5
     have h5 := not_t h5
     have h5 := decI_f h5
     refine rqr ?_
     refine sd (det_load (v := .map (some d0)) (x := (.tmp 8)) (T := 115) (d := 62) (ty := 115) (gd := none) (by kernel_rfl) rfl (by kernel_rfl) rfl (sees_held a3 rfl)) ?_
     refine sd (det_loadW (x := (.tmp 15)) (T := 113) (n := 10) (d := 63) (ty := 113) (gd := none) (by kernel_rfl) rfl (by kernel_rfl) (by kernel_rfl) (plCells_size _) rfl (.inl (List.mem_of_getElem? (i := 0) rfl))) ?_
     refine sS (stp_mapUpdate (x := (.tmp 62)) (y := (.tmp 63)) (u := (.const (.bool true))) (T := 115) (kt := 113) (et := 4) (k := (placeOf (moved (((zs.getD (j) noYard))) x))) (kvs := trues ((visX (visJ g9 zs j) (zs.getD (j) noYard) xs).1)) 2 (ty := 0) (gd := none) (by kernel_rfl) rfl (by kernel_rfl) (keyOk_place (by kernel_rfl) (by kernel_rfl)) rfl rfl rfl rfl m8 (fun l4 l3 g8 => ?_))
     rw [upd_trues] at g8
     rw [if_neg h5] at g8
     refine nm (se (rr ?_))
     refine sd (dlb 64 3 0 e4 (.slice a5 c9.length a6)) ?_
     refine sp 1 [(65, .pointer (some ⟨d7, 0, none⟩))] ?_
     refine sS (sbs 66 108 1 #[.pointer (some ⟨d7, 0, none⟩)] (fun M4 => ?_))
     refine sS (stp_append (d := 67) (x := (.tmp 64)) (y := (.tmp 66)) (T := 116) (T' := 116) (E := 108) (E' := 108) (sz := 1) (bs := 8) (z := .pointer none) (cell := valCell) (xs := c9) (ys := [(.pointer (some ⟨d7, 0, none⟩) : Value)]) (Ms := g2) (ty := 116) (gd := none) (by kernel_rfl) rfl (by kernel_rfl) (by kernel_rfl) (by kernel_rfl) (by kernel_rfl) (by kernel_rfl) (by decide) (by kernel_rfl) rfl rfl (E8) ((PC _ ((PC _ ((PC _ ((PC _ (PM.symm)).trans (PM.symm))).trans (PM.symm))).trans (PM.symm))).trans (PM.symm)) (one_valCell rfl) (src_atS 0 rfl rfl) (by first | omega | (simp only [LC, LN, LA, LK, LD]; omega)) (fun P6 k9 l8 => ?_))
     refine seq_mem (M' := ((j9, Obj.cells (plCells (placeOf (moved (((zs.getD (j) noYard))) x)).val) 113 (0, 0)) :: (k, Obj.cells #[.int .i64 (x.frm), .int .i64 (x.to), .int .i64 (x.many)] 52 (0, 0)) :: (d0, Obj.map l4 l3) :: (e4, Obj.cells #[.slice a5 c9.length a6] 116 (0, 0)) :: (k9 ++ F1))) (fun w h => (h.perm (List.perm_middle.trans (PC _ (List.perm_middle.trans (PC _ (List.perm_middle.trans (PC _ (List.perm_middle.trans (PC _ PM))))))))).sub (TC _ (TR _))) ?_
     obtain ⟨j1, j2, r4, G8⟩ := l8.shape
     subst r4
     have P7 := g1.snoc (YardH.mk (Y := moved (zs.getD (j) noYard) x) p3 a0 a1 f4)
     refine sS (ss 3 0 e4 [.slice j1 (c9 ++ ([(.pointer (some ⟨d7, 0, none⟩) : Value)])).length j2] [.slice j1 (c9 ++ ([(.pointer (some ⟨d7, 0, none⟩) : Value)])).length j2] (_ :: _ :: _ :: _ :: _) (cs := [_]) rfl rfl ?_)
     refine ee (pst_normal_block ?_)
     refine pst_round (M' := ((d0, Obj.map l4 l3) :: (e4, Obj.cells #[.slice j1 (c9 ++ ([(.pointer (some ⟨d7, 0, none⟩) : Value)])).length j2] 116 (0, 0)) :: k9)) (Imm.le.trans (Imm.le.trans (Imm.le.trans (Imm.le.trans (Imm.le.trans (Imm.le.trans e6 c8) c5) c6) a7) a8) a9) ?_ (by simp only [AA, NA, CA]; exact (TC _ (TC _ (TR _))))
     exact ⟨[], _, rfl, rfl, ⟨_, _, _, _, _, rfl, (by rw [visX_snoc, visit_new h5]; exact g8), l8, (by rw [visX_snoc, visit_new h5]; exact P7)⟩⟩
    have B8 := h5
    have h5 := not_f h5
    have h5 := decI_t h5
    refine rskip (pst_normal_block ?_)
    refine pst_round (M' := ((d0, Obj.map g7 g6) :: (e4, Obj.cells #[.slice a5 c9.length a6] 116 (0, 0)) :: g2)) (Imm.le.trans (Imm.le.trans (Imm.le.trans (Imm.le.trans (Imm.le.trans (Imm.le.trans e6 c8) c5) c6) a7) a8) a9) ?_ (by simp only [AA, NA, CA]; exact (TC _ (TC _ (TR _))))
    exact ⟨[], _, rfl, rfl, ⟨_, _, _, _, _, rfl, (by rw [visX_snoc, visit_old h5]; exact m8), E8, (by rw [visX_snoc, visit_old h5]; exact g1)⟩⟩
   ·intro D I2 Mr2 M2 hle2 hR2 hC2
    replace a2 := hle2.blk _ _ a2
    replace a3 := hle2.blk _ _ a3
    replace xh := xh.mono hle2
    replace b7 := hle2.blk _ _ b7
    replace c7 := hle2.blk _ _ c7
    replace d4 := hle2.blk _ _ d4
    replace d5 := hle2.blk _ _ d5
    obtain rfl : Mr2 = [] := hR2
    obtain ⟨s4, s3, U0, j5, x6, rfl, C2, K0, P8⟩ := hC2
    obtain ⟨h9, i0, s1, K2⟩ := K0.shape; subst s1
    refine pst_mem (M' := ((D, Obj.deferred (some [])) :: (d0, Obj.map s4 s3) :: (e4, Obj.cells #[.slice h9 j5.length i0] 116 (0, 0)) :: (x6 ++ (b1, Obj.cells #[.slice b0 Y.cars.length b2, .slice b3 Y.room.length b4, .slice b5 Y.tracks.length b6] 26 (0, 0)) :: (nM ++ (Sl.blocksOf j8 ++ F))))) (fun w h => by simpa only [AA, CA, NA] using h) ?_
    refine ppm (M' := ((D, Obj.deferred (some [])) :: (d0, Obj.map s4 s3) :: (e4, Obj.cells #[.slice h9 j5.length i0] 116 (0, 0)) :: (b1, Obj.cells #[.slice b0 Y.cars.length b2, .slice b3 Y.room.length b4, .slice b5 Y.tracks.length b6] 26 (0, 0)) :: (x6 ++ (nM ++ (Sl.blocksOf j8 ++ F))))) (PC _ (PC _ (PC _ PM))) ?_
    refine pst_normal_block (pst_normal_block (pst_next (rr ?_)))
    refine sd (da 68 (↑j) (1)) ?_
    refine sp 1 [(39, .int .i64 (↑j + 1))] ?_
    refine ee ?_
    refine ppm (M' := ((Sl.blocksOf (D :: j8) ++ (d0, Obj.map s4 s3) :: (e4, Obj.cells #[.slice h9 j5.length i0] 116 (0, 0)) :: (b1, Obj.cells #[.slice b0 Y.cars.length b2, .slice b3 Y.room.length b4, .slice b5 Y.tracks.length b6] 26 (0, 0)) :: (x6 ++ (nM ++ F))))) (PC _ ((PC _ ((PC _ ((PC _ ((PA _ (PO _ _ _)).trans (PO _ _ _))).trans (PM.symm))).trans (PM.symm))).trans (PM.symm))) ?_
    refine pst_back (zs.length - (j+1)) (by omega) ?_
    intro a w hS hD hW
    exact ⟨I2, j+1, (.slice h9 j5.length i0), j5, x6, s4, s3, D :: j8, (Imm.le.trans (Imm.le.trans (Imm.le.trans hJ1 e5) e3) hle2), by omega, K0, (by rw [visJ_succ (by omega)]; exact P8), (by rw [visJ_succ (by omega)]; exact C2), hS.sub (.consE 39 rfl rfl (.cons 4 rfl (.cons 5 rfl (.cons 8 rfl (.cons 9 rfl (.cons 10 rfl (.cons 34 rfl (.cons 35 rfl (.cons 37 rfl (.cons 38 rfl (.nil _))))))))))), hD, hW.perm (((PA _ (PS _ _ _)).trans PM).trans (PC _ (List.perm_middle.trans (PC _ (List.perm_middle.trans (PC _ ((PA _ (PO _ _ _)).trans (PO _ _ _)))))))), rfl⟩
   intro D c xs I2 M2 hle2 hS2
   exact hS2.elim
  have B7 := h4
  have h4 := lss_f h4
  refine rexit 2 ?_
  refine (pst_exit_pass (pst_exit_pass (pst_exit_block ?_)))
  refine pst_next (rr ?_)
  refine sd (dlb 69 0 0 e4 (.slice j6 k8.length j7)) ?_
  refine sp 1 [(9, .slice j6 k8.length j7)] ?_
  refine ee (pst_normal_block (pst_next (rr ?_)))
  refine sd (da 70 (↑k) (1)) ?_
  refine sp 1 [(35, .int .i64 (↑k + 1))] ?_
  refine ee ?_
  refine pst_back (d - (k+1)) (by omega) ?_
  intro a w hS hD hW
  exact ⟨J1, k+1, (.slice j6 k8.length j7), k8, xM, (visJ g9 zs j).2, (visJ g9 zs j).1, o6, p0, j8, (Imm.le.trans hJ0 hJ1), by omega, hr.trans (reach_step (by omega) (by omega)), (v5.j i3 j), xo, xh, p8, hS.sub (.consE 9 rfl rfl (.consE 35 rfl rfl (.cons 4 rfl (.cons 5 rfl (.cons 8 rfl (.cons 34 rfl (.nil _))))))), hD, (hW.perm (PC _ (((PC _ (PM.symm)).trans (PM.symm)).trans (PA _ (PC _ (PC _ (PO _ _ _))))))).sub (TC _ (TT (TR _) (TB _ _))), rfl⟩
 have B6 := h3
 have h3 := lss_f h3
 refine rexit 0 ?_
 refine (pst_exit_pass (pst_exit_pass (pst_exit_block ?_)))
 refine pst_next (rqr ?_)
 refine sd (det_load (v := .map (some d0)) (x := (.tmp 8)) (T := 115) (d := 71) (ty := 115) (gd := none) (by kernel_rfl) rfl (by kernel_rfl) rfl (sees_held a3 rfl)) ?_
 refine sd (det_eq (det_len_map (x := (.tmp 71)) (T := 115) (K := 113) (E := 4) (d := 72) (ty := 3) (gd := none) (by kernel_rfl) rfl (by kernel_rfl) rfl (.inl (List.mem_of_getElem? (i := 0) rfl))) (congrArg (fun n : Nat => Value.int .i64 ↑n) ((MapIs.size p9).trans (trues_length _)))) ?_
 refine sp 2 [(5, .int .i64 (0)), (4, .int .i64 (↑(g9.length)))] ?_
 refine se (rret ?_)
 have M9 := reach_end hr (by omega)
 have G6 := reachE_ok r0 C1
 rw [show dr.toNat = d by omega, M9] at G6
 refine pst_marks (R := ((d0, Obj.map es cl) :: (b1, Obj.cells #[.slice b0 Y.cars.length b2, .slice b3 Y.room.length b4, .slice b5 Y.tracks.length b6] 26 (0, 0)) :: (nM ++ F))) (Ds) (.inl rfl) ((PC _ ((PC _ (PO _ _ _)).trans (PM.symm))).trans (PM.symm)) ?_
 refine pst_ret2 (t := 4) (u := 5) [] (by kernel_rfl) rfl rfl (TC _ (TC _ (TT (TR _) (TB _ _)))) (Imm.le.trans (Imm.le.trans (Imm.le.trans (Imm.le.trans (Imm.le.trans (Imm.le.trans (Imm.le.trans q1 j0) h8) f8) f9) g0) f5) hJ0) ?_
 exact ⟨(congrArg (fun p : Int × Int => Value.tuple #[.int .i64 p.1, .int .i64 p.2]) G6.symm), rfl⟩

end Go.Proofs.YtcaocbhbofejnaaGreatDoor
namespace Go.Sl
open Go
theorem IsRows.split {I : Imm} {v : Value} {xss : List (List Int)} (h : IsRows I v xss) : ∃ vs : List Value, IsVals I v vs ∧ RowsV I vs xss := by
  obtain ⟨a, c, b, o, f, h1, h2, h3, h4, h5⟩ := h
  have hl : ((List.range xss.length).map f).length = xss.length := by simp
  have hg : ∀ i, i < xss.length → ((List.range xss.length).map f).getD i undef = f i := fun i hi => by simp [List.getD, hi]
  refine ⟨(List.range xss.length).map f, ⟨a, c, b, o, by rw [hl]; exact h1, by rw [hl]; exact h2, by rw [hl]; exact h3, ?_⟩, hl, fun i hi => by rw [hg i hi]; exact h5 i hi⟩
  rw [hl]
  refine ⟨h4.addr, fun i hi g hg2 => ?_⟩
  have := h4.get i hi g hg2
  show ICell I _ (((List.range xss.length).map f).getD i undef)
  rw [hg i hi]
  exact this
theorem RowsV.take {I : Imm} {vs : List Value} {xss : List (List Int)} (h : RowsV I vs xss) (k : Nat) : RowsV I (vs.take k) (xss.take k) := by
  refine ⟨by simp [h.1], fun i hi => ?_⟩
  have hi2 : i < k ∧ i < xss.length := by rw [List.length_take] at hi; omega
  have := h.2 i hi2.2
  simp only [List.getD] at this ⊢
  rw [List.getElem?_take_of_lt hi2.1, List.getElem?_take_of_lt hi2.1]
  exact this
theorem RowsV.drop {I : Imm} {vs : List Value} {xss : List (List Int)} (h : RowsV I vs xss) (k : Nat) : RowsV I (vs.drop k) (xss.drop k) := by
  refine ⟨by simp [h.1], fun i hi => ?_⟩
  have hi2 : k + i < xss.length := by simp at hi; omega
  have := h.2 (k + i) hi2
  simp only [List.getD] at this ⊢
  rw [List.getElem?_drop, List.getElem?_drop]
  exact this
theorem RowsV.append {I : Imm} {vs ws : List Value} {xss yss : List (List Int)} (h : RowsV I vs xss) (k : RowsV I ws yss) : RowsV I (vs ++ ws) (xss ++ yss) := by
  have h1 := h.1
  refine ⟨by simp [h.1, k.1], fun i hi => ?_⟩
  simp only [List.length_append] at hi
  by_cases e : i < xss.length
  · have := h.2 i e
    simp only [List.getD] at this ⊢
    rw [List.getElem?_append_left (by omega), List.getElem?_append_left e]
    exact this
  · have := k.2 (i - xss.length) (by omega)
    simp only [List.getD] at this ⊢
    rw [List.getElem?_append_right (by omega), List.getElem?_append_right (by omega), h1]
    exact this
end Go.Sl
namespace Go.Sh
open Go Go.Sl

section
variable {xs ys : List Int} {k : Nat}
end
def wholeL (n : Nat) : List Int := (List.range n).map fun i : Nat => (i : Int)
theorem wholeL_succ (n : Nat) : wholeL (n + 1) = wholeL n ++ [(n : Int)] := by simp [wholeL, List.range_succ]
theorem wholeL_length (n : Nat) : (wholeL n).length = n := by simp [wholeL]
section
variable {o l : List Int} {k : Nat}
end

section
variable {α β : Type}
def ordFrom (f : α → β → β) (d : α) (bl : List α) (rec : List α → List β) (k : Nat) : List β := (List.range' k (bl.length - k)).flatMap fun i => (rec (bl.eraseIdx i)).map (f (bl.getD i d))
def ordN (f : α → β → β) (d : α) (z : β) : Nat → List α → List β
  | 0, _ => [z]
  | n + 1, bl => ordFrom f d bl (ordN f d z n) 0
variable {f : α → β → β} {d : α} {bl : List α} {rec : List α → List β} {k : Nat}
theorem erase_take {k : Nat} : bl.take k ++ bl.drop (k + 1) = bl.eraseIdx k := (List.eraseIdx_eq_take_drop_succ ..).symm
theorem erase_len {n : Nat} (hk : k < bl.length) (h : bl.length = n + 1) : (bl.eraseIdx k).length = n := by rw [List.length_eraseIdx, if_pos hk]; omega
end
def rowsN : Nat → List (List Int) → List (List Int) := ordN (fun b r => b ++ r) [] []
def exYard : Yard := ⟨[⟨2, 30, 25, 0, true, false⟩, ⟨1, 20, 10, 0, false, true⟩, ⟨2, 40, 30, 1, true, true⟩, ⟨1, 10, 0, 1, false, true⟩], [10, 3, 2], [[0, 1, 2, 3], [], []]⟩
def exFour : List Shift := [⟨0, 1, 2⟩, ⟨0, 2, 1⟩, ⟨1, 0, 2⟩, ⟨2, 0, 1⟩]
theorem coupled_raw {cs : List Car} {t : List Int} {k : Nat} (hk : k < t.length) : coupled cs t ↑k = (decide (0 < (k : Int)) && (decide (0 < (carAt cs (t.getD k 0)).grp) && decide ((carAt cs (t.getD k 0)).grp = (carAt cs (t.getD ((k : Int) - 1).toNat 0)).grp))) := by
  unfold coupled inB
  have e1 : (↑k : Int).toNat = k := by omega
  rw [e1, Bool.and_assoc]
  have e3 : (decide ((1 : Int) ≤ ↑k) && decide ((↑k : Int) ≤ ↑t.length - 1)) = decide (0 < (k : Int)) := by
    by_cases h : 0 < (k : Int)
    · have h1 : (1 : Int) ≤ ↑k := by omega
      have h2 : (↑k : Int) ≤ ↑t.length - 1 := by omega
      rw [decide_eq_true h, decide_eq_true h1, decide_eq_true h2]; rfl
    · have h1 : ¬ (1 : Int) ≤ ↑k := by omega
      rw [decide_eq_false h, decide_eq_false h1]; rfl
  rw [e3]
end Go.Sh
namespace Go.Sl
open Go
theorem RowsV.one {I : Imm} {vs : List Value} {xss : List (List Int)} (h : RowsV I vs xss) : vs.all oneCell = true := by
  rw [List.all_eq_true]
  intro v hv
  obtain ⟨i, hi, rfl⟩ := List.mem_iff_getElem.1 hv
  have := h.2 i (h.1 ▸ hi)
  obtain ⟨a, c, b, o, e, _⟩ := this
  rw [List.getD, List.getElem?_eq_getElem hi] at e
  simp only [Option.getD_some] at e
  rw [e]; rfl
end Go.Sl
namespace Go.Proofs.YtcaocbhbofejnaaGreatDoor
open Go Go.Sl Go.Sh
set_option maxRecDepth 100000
end Go.Proofs.YtcaocbhbofejnaaGreatDoor
namespace Go.Proofs.YtcaocbhbofejnaaGreatDoor
open Go Go.Sl Go.Sh
set_option maxRecDepth 100000
noncomputable def c_drawl (p : List Nat) : Code := sub (bodyOf Tryz.f49) p
theorem drawl_ct (I : Imm) (f : Int) (t : Int) (m : Int) : Ct Tryz.prog 49 #[.int .i64 f, .int .i64 t, .int .i64 m] I ([]) (fun v I' M' => v = .agg #[.int .i64 ((⟨f, t, m⟩ : Shift)).frm, .int .i64 ((⟨f, t, m⟩ : Shift)).to, .int .i64 ((⟨f, t, m⟩ : Shift)).many] ∧ M' = []) := by
 refine fr (args := [_, _, _]) (N := 11) Tryz.func49 (fun F => ?_)
 show Run _ _ (c_drawl []) _ _ [(0, .int .i64 (f)), (1, .int .i64 (t)), (2, .int .i64 (m))] _ _
 refine rnm (rqr ?_)
 refine sS (sal 6 52 #[.int .i64 (0), .int .i64 (0), .int .i64 (0)] (fun b1 => ?_))
 refine sn ?_
 refine sp 4 [(10, .agg #[.int .i64 (f), .int .i64 (t), .int .i64 (m)])] ?_
 refine sS (ss 0 0 b1 [.int .i64 (f), .int .i64 (t), .int .i64 (m)] [.int .i64 (f), .int .i64 (t), .int .i64 (m)] (_ :: _) (cs := [_, _, _]) rfl rfl ?_)
 refine se (rret ?_)
 refine pst_retC1 (t := 6) (T := 52) (n := 3) [] (by kernel_rfl) rfl (by kernel_rfl) rfl (seesN_mem (n := 3) (cs := #[.int .i64 (f), .int .i64 (t), .int .i64 (m)]) (b := b1) (off := 0) (T := 52) (fz := (0, 0)) (vs := [.int .i64 (f), .int .i64 (t), .int .i64 (m)]) (by simp) rfl) (.inl ⟨by kernel_rfl, rfl⟩) (TC _ (TR _)) (Imm.le.refl _) ?_
 exact ⟨rfl, rfl⟩

noncomputable def c_four (p : List Nat) : Code := sub (bodyOf Tryz.f69) p
theorem four_ct (I : Imm) : Ct Tryz.prog 69 #[] I ([]) (fun v I' M' => ∃ u : Value, ∃ Ms : Seg, v = u ∧ M' = Ms ∧ Own 52 3 shiftCell u (exFour) Ms) := by
 refine fr (args := []) (N := 6) Tryz.func69 (fun F => ?_)
 show Run _ _ (c_four []) _ _ [] _ _
 refine rnm (rqr ?_)
 refine sp 1 [(0, .slice none 0 0)] ?_
 refine sn ?_
 refine sS (sc (some 1) (drawl_ct _ (0) (1) (2) :) (.refl _) (fun c7 I1 c6 a9 b7 => ?_))
 obtain ⟨b6, b5⟩ := b7
 rw [b6, b5]; clear b6 b5
 refine nm ?_
 refine sS (sc (some 2) (drawl_ct _ (0) (2) (1) :) (.refl _) (fun c1 I8 b8 b0 b2 => ?_))
 obtain ⟨a6, a3⟩ := b2
 rw [a6, a3]; clear a6 a3
 refine nm ?_
 refine sS (sc (some 3) (drawl_ct _ (1) (0) (2) :) (.refl _) (fun c2 c4 b9 a1 b3 => ?_))
 obtain ⟨a7, a4⟩ := b3
 rw [a7, a4]; clear a7 a4
 refine nm ?_
 refine sS (sc (some 4) (drawl_ct _ (2) (0) (1) :) (.refl _) (fun c3 c5 c0 a2 b4 => ?_))
 obtain ⟨a8, a5⟩ := b4
 rw [a8, a5]; clear a8 a5
 refine nm ?_
 refine sS (sbs 5 52 4 #[.int .i64 (((⟨0, 1, 2⟩ : Shift)).frm), .int .i64 (((⟨0, 1, 2⟩ : Shift)).to), .int .i64 (((⟨0, 1, 2⟩ : Shift)).many), .int .i64 (((⟨0, 2, 1⟩ : Shift)).frm), .int .i64 (((⟨0, 2, 1⟩ : Shift)).to), .int .i64 (((⟨0, 2, 1⟩ : Shift)).many), .int .i64 (((⟨1, 0, 2⟩ : Shift)).frm), .int .i64 (((⟨1, 0, 2⟩ : Shift)).to), .int .i64 (((⟨1, 0, 2⟩ : Shift)).many), .int .i64 (((⟨2, 0, 1⟩ : Shift)).frm), .int .i64 (((⟨2, 0, 1⟩ : Shift)).to), .int .i64 (((⟨2, 0, 1⟩ : Shift)).many)] (fun a0 => ?_))
 refine pm (M' := (([(a0, Obj.cells #[.int .i64 (((⟨0, 1, 2⟩ : Shift)).frm), .int .i64 (((⟨0, 1, 2⟩ : Shift)).to), .int .i64 (((⟨0, 1, 2⟩ : Shift)).many), .int .i64 (((⟨0, 2, 1⟩ : Shift)).frm), .int .i64 (((⟨0, 2, 1⟩ : Shift)).to), .int .i64 (((⟨0, 2, 1⟩ : Shift)).many), .int .i64 (((⟨1, 0, 2⟩ : Shift)).frm), .int .i64 (((⟨1, 0, 2⟩ : Shift)).to), .int .i64 (((⟨1, 0, 2⟩ : Shift)).many), .int .i64 (((⟨2, 0, 1⟩ : Shift)).frm), .int .i64 (((⟨2, 0, 1⟩ : Shift)).to), .int .i64 (((⟨2, 0, 1⟩ : Shift)).many)] 52 (0, 0))] ++ F))) (PR _) ?_
 have b1 : Own 52 3 shiftCell (.slice (some ⟨a0, 0, none⟩) 4 4) ([(⟨0, 1, 2⟩ : Shift), (⟨0, 2, 1⟩ : Shift), (⟨1, 0, 2⟩ : Shift), (⟨2, 0, 1⟩ : Shift)] : List Shift) [(a0, Obj.cells #[.int .i64 (((⟨0, 1, 2⟩ : Shift)).frm), .int .i64 (((⟨0, 1, 2⟩ : Shift)).to), .int .i64 (((⟨0, 1, 2⟩ : Shift)).many), .int .i64 (((⟨0, 2, 1⟩ : Shift)).frm), .int .i64 (((⟨0, 2, 1⟩ : Shift)).to), .int .i64 (((⟨0, 2, 1⟩ : Shift)).many), .int .i64 (((⟨1, 0, 2⟩ : Shift)).frm), .int .i64 (((⟨1, 0, 2⟩ : Shift)).to), .int .i64 (((⟨1, 0, 2⟩ : Shift)).many), .int .i64 (((⟨2, 0, 1⟩ : Shift)).frm), .int .i64 (((⟨2, 0, 1⟩ : Shift)).to), .int .i64 (((⟨2, 0, 1⟩ : Shift)).many)] 52 (0, 0))] := Own.lit rfl rfl
 refine sp 1 [(0, .slice (some ⟨a0, 0, none⟩) 4 4)] ?_
 refine se (rret ?_)
 refine pst_ret1 (t := 0) ([(a0, Obj.cells #[.int .i64 (((⟨0, 1, 2⟩ : Shift)).frm), .int .i64 (((⟨0, 1, 2⟩ : Shift)).to), .int .i64 (((⟨0, 1, 2⟩ : Shift)).many), .int .i64 (((⟨0, 2, 1⟩ : Shift)).frm), .int .i64 (((⟨0, 2, 1⟩ : Shift)).to), .int .i64 (((⟨0, 2, 1⟩ : Shift)).many), .int .i64 (((⟨1, 0, 2⟩ : Shift)).frm), .int .i64 (((⟨1, 0, 2⟩ : Shift)).to), .int .i64 (((⟨1, 0, 2⟩ : Shift)).many), .int .i64 (((⟨2, 0, 1⟩ : Shift)).frm), .int .i64 (((⟨2, 0, 1⟩ : Shift)).to), .int .i64 (((⟨2, 0, 1⟩ : Shift)).many)] 52 (0, 0))]) (by kernel_rfl) rfl (TK _ (TR _)) (Imm.le.trans (Imm.le.trans (Imm.le.trans a9 b0) a1) a2) ?_
 exact ⟨_, _, rfl, rfl, b1⟩

noncomputable def c_yard (p : List Nat) : Code := sub (bodyOf Tryz.f68) p
theorem yard_ct (I : Imm) : Ct Tryz.prog 68 #[] I ([]) (fun v I' M' => ∃ u_0 : Value, ∃ Ms_0 : Seg, ∃ u_1 : Value, ∃ Ms_1 : Seg, ∃ u_2 : Value, ∃ ws_2 : List Value, ∃ Ms_2 : Seg, v = .agg #[u_0, u_1, u_2] ∧ M' = Ms_0 ++ (Ms_1 ++ (Ms_2)) ∧ Own 56 6 carCell u_0 ((exYard).cars) Ms_0 ∧ Own 3 1 intCell u_1 ((exYard).room) Ms_1 ∧ Own 23 1 valCell u_2 ws_2 Ms_2 ∧ RowsV I' ws_2 ((exYard).tracks)) := by
 refine fr (args := []) (N := 10) Tryz.func68 (fun F => ?_)
 show Run _ _ (c_yard []) _ _ [] _ _
 refine rnm (rqr ?_)
 refine sS (sal 0 26 #[.slice none 0 0, .slice none 0 0, .slice none 0 0] (fun b1 => ?_))
 refine sn ?_
 refine sp 4 [(4, .agg #[.int .i64 (1), .int .i64 (10), .int .i64 (0), .int .i64 (1), .bool (false), .bool (true)]), (3, .agg #[.int .i64 (2), .int .i64 (40), .int .i64 (30), .int .i64 (1), .bool (true), .bool (true)]), (2, .agg #[.int .i64 (1), .int .i64 (20), .int .i64 (10), .int .i64 (0), .bool (false), .bool (true)]), (1, .agg #[.int .i64 (2), .int .i64 (30), .int .i64 (25), .int .i64 (0), .bool (true), .bool (false)])] ?_
 refine sS (sbs 5 56 4 #[.int .i64 (2), .int .i64 (30), .int .i64 (25), .int .i64 (0), .bool (true), .bool (false), .int .i64 (1), .int .i64 (20), .int .i64 (10), .int .i64 (0), .bool (false), .bool (true), .int .i64 (2), .int .i64 (40), .int .i64 (30), .int .i64 (1), .bool (true), .bool (true), .int .i64 (1), .int .i64 (10), .int .i64 (0), .int .i64 (1), .bool (false), .bool (true)] (fun b3 => ?_))
 refine sS (sbs 6 3 3 #[.int .i64 (10), .int .i64 (3), .int .i64 (2)] (fun b5 => ?_))
 refine sS (sbs 7 3 4 #[.int .i64 (0), .int .i64 (1), .int .i64 (2), .int .i64 (3)] (fun b7 => ?_))
 refine pm (M' := ((b5, Obj.cells #[.int .i64 (10), .int .i64 (3), .int .i64 (2)] 3 (0, 0)) :: (b3, Obj.cells #[.int .i64 (2), .int .i64 (30), .int .i64 (25), .int .i64 (0), .bool (true), .bool (false), .int .i64 (1), .int .i64 (20), .int .i64 (10), .int .i64 (0), .bool (false), .bool (true), .int .i64 (2), .int .i64 (40), .int .i64 (30), .int .i64 (1), .bool (true), .bool (true), .int .i64 (1), .int .i64 (10), .int .i64 (0), .int .i64 (1), .bool (false), .bool (true)] 56 (0, 0)) :: (b1, Obj.cells #[.slice none 0 0, .slice none 0 0, .slice none 0 0] 26 (0, 0)) :: ([(b7, Obj.cells #[.int .i64 (0), .int .i64 (1), .int .i64 (2), .int .i64 (3)] 3 (0, 0))] ++ F))) ((PS _ _ _).trans (PC _ ((PS _ _ _).trans (PC _ (PS _ _ _))))) ?_
 have c0 : Own 3 1 intCell (.slice (some ⟨b7, 0, none⟩) 4 4) ([(0 : Int), (1 : Int), (2 : Int), (3 : Int)] : List Int) [(b7, Obj.cells #[.int .i64 (0), .int .i64 (1), .int .i64 (2), .int .i64 (3)] 3 (0, 0))] := Own.lit rfl rfl
 refine sfz (A := ((b5, Obj.cells #[.int .i64 (10), .int .i64 (3), .int .i64 (2)] 3 (0, 0)) :: (b3, Obj.cells #[.int .i64 (2), .int .i64 (30), .int .i64 (25), .int .i64 (0), .bool (true), .bool (false), .int .i64 (1), .int .i64 (20), .int .i64 (10), .int .i64 (0), .bool (false), .bool (true), .int .i64 (2), .int .i64 (40), .int .i64 (30), .int .i64 (1), .bool (true), .bool (true), .int .i64 (1), .int .i64 (10), .int .i64 (0), .int .i64 (1), .bool (false), .bool (true)] 56 (0, 0)) :: (b1, Obj.cells #[.slice none 0 0, .slice none 0 0, .slice none 0 0] 26 (0, 0)) :: F)) 0 c0 ((PC _ ((PC _ (PM.symm)).trans (PM.symm))).trans (PM.symm)) (fun b9 a4 a1 => ?_)
 obtain ⟨a5, a7, a6, b0, a3, a8, a9, b2⟩ := id a1
 cases a3
 refine sS (sbs 8 23 3 #[.slice (some ⟨b7, 0, none⟩) 4 4, .slice none 0 0, .slice none 0 0] (fun a0 => ?_))
 refine pm (M' := ((a0, Obj.cells #[.slice (some ⟨b7, 0, none⟩) 4 4, .slice none 0 0, .slice none 0 0] 23 (0, 0)) :: (b5, Obj.cells #[.int .i64 (10), .int .i64 (3), .int .i64 (2)] 3 (0, 0)) :: (b1, Obj.cells #[.slice none 0 0, .slice none 0 0, .slice none 0 0] 26 (0, 0)) :: ([(b3, Obj.cells #[.int .i64 (2), .int .i64 (30), .int .i64 (25), .int .i64 (0), .bool (true), .bool (false), .int .i64 (1), .int .i64 (20), .int .i64 (10), .int .i64 (0), .bool (false), .bool (true), .int .i64 (2), .int .i64 (40), .int .i64 (30), .int .i64 (1), .bool (true), .bool (true), .int .i64 (1), .int .i64 (10), .int .i64 (0), .int .i64 (1), .bool (false), .bool (true)] 56 (0, 0))] ++ F))) (PC _ (PC _ (PS _ _ _))) ?_
 have b4 : Own 56 6 carCell (.slice (some ⟨b3, 0, none⟩) 4 4) ([(⟨2, 30, 25, 0, true, false⟩ : Car), (⟨1, 20, 10, 0, false, true⟩ : Car), (⟨2, 40, 30, 1, true, true⟩ : Car), (⟨1, 10, 0, 1, false, true⟩ : Car)] : List Car) [(b3, Obj.cells #[.int .i64 (2), .int .i64 (30), .int .i64 (25), .int .i64 (0), .bool (true), .bool (false), .int .i64 (1), .int .i64 (20), .int .i64 (10), .int .i64 (0), .bool (false), .bool (true), .int .i64 (2), .int .i64 (40), .int .i64 (30), .int .i64 (1), .bool (true), .bool (true), .int .i64 (1), .int .i64 (10), .int .i64 (0), .int .i64 (1), .bool (false), .bool (true)] 56 (0, 0))] := Own.lit rfl rfl
 refine pm (M' := ((a0, Obj.cells #[.slice (some ⟨b7, 0, none⟩) 4 4, .slice none 0 0, .slice none 0 0] 23 (0, 0)) :: (b1, Obj.cells #[.slice none 0 0, .slice none 0 0, .slice none 0 0] 26 (0, 0)) :: ([(b5, Obj.cells #[.int .i64 (10), .int .i64 (3), .int .i64 (2)] 3 (0, 0))] ++ ([(b3, Obj.cells #[.int .i64 (2), .int .i64 (30), .int .i64 (25), .int .i64 (0), .bool (true), .bool (false), .int .i64 (1), .int .i64 (20), .int .i64 (10), .int .i64 (0), .bool (false), .bool (true), .int .i64 (2), .int .i64 (40), .int .i64 (30), .int .i64 (1), .bool (true), .bool (true), .int .i64 (1), .int .i64 (10), .int .i64 (0), .int .i64 (1), .bool (false), .bool (true)] 56 (0, 0))] ++ F)))) (PC _ (PS _ _ _)) ?_
 have b6 : Own 3 1 intCell (.slice (some ⟨b5, 0, none⟩) 3 3) ([(10 : Int), (3 : Int), (2 : Int)] : List Int) [(b5, Obj.cells #[.int .i64 (10), .int .i64 (3), .int .i64 (2)] 3 (0, 0))] := Own.lit rfl rfl
 refine pm (M' := ((b1, Obj.cells #[.slice none 0 0, .slice none 0 0, .slice none 0 0] 26 (0, 0)) :: ([(a0, Obj.cells #[.slice (some ⟨b7, 0, none⟩) 4 4, .slice none 0 0, .slice none 0 0] 23 (0, 0))] ++ ([(b5, Obj.cells #[.int .i64 (10), .int .i64 (3), .int .i64 (2)] 3 (0, 0))] ++ ([(b3, Obj.cells #[.int .i64 (2), .int .i64 (30), .int .i64 (25), .int .i64 (0), .bool (true), .bool (false), .int .i64 (1), .int .i64 (20), .int .i64 (10), .int .i64 (0), .bool (false), .bool (true), .int .i64 (2), .int .i64 (40), .int .i64 (30), .int .i64 (1), .bool (true), .bool (true), .int .i64 (1), .int .i64 (10), .int .i64 (0), .int .i64 (1), .bool (false), .bool (true)] 56 (0, 0))] ++ F))))) (PS _ _ _) ?_
 have b8 : Own 23 1 valCell (.slice (some ⟨a0, 0, none⟩) 3 3) ([(.slice (some ⟨b7, 0, none⟩) 4 4 : Value), (.slice none 0 0 : Value), (.slice none 0 0 : Value)] : List Value) [(a0, Obj.cells #[.slice (some ⟨b7, 0, none⟩) 4 4, .slice none 0 0, .slice none 0 0] 23 (0, 0))] := Own.lit rfl rfl
 have a2 := ((((RowsV.nil b9).snoc a1).snoc (IsSl.nil _)).snoc (IsSl.nil _))
 simp only [NA, CA] at a2
 refine sp 1 [(9, .agg #[.slice (some ⟨b3, 0, none⟩) 4 4, .slice (some ⟨b5, 0, none⟩) 3 3, .slice (some ⟨a0, 0, none⟩) 3 3])] ?_
 refine sS (ss 0 0 b1 [.slice (some ⟨b3, 0, none⟩) 4 4, .slice (some ⟨b5, 0, none⟩) 3 3, .slice (some ⟨a0, 0, none⟩) 3 3] [.slice (some ⟨b3, 0, none⟩) 4 4, .slice (some ⟨b5, 0, none⟩) 3 3, .slice (some ⟨a0, 0, none⟩) 3 3] (_ :: _) (cs := [_, _, _]) rfl rfl ?_)
 refine se (rret ?_)
 refine ppm (M' := (([(b3, Obj.cells #[.int .i64 (2), .int .i64 (30), .int .i64 (25), .int .i64 (0), .bool (true), .bool (false), .int .i64 (1), .int .i64 (20), .int .i64 (10), .int .i64 (0), .bool (false), .bool (true), .int .i64 (2), .int .i64 (40), .int .i64 (30), .int .i64 (1), .bool (true), .bool (true), .int .i64 (1), .int .i64 (10), .int .i64 (0), .int .i64 (1), .bool (false), .bool (true)] 56 (0, 0))] ++ ([(b5, Obj.cells #[.int .i64 (10), .int .i64 (3), .int .i64 (2)] 3 (0, 0))] ++ ([(a0, Obj.cells #[.slice (some ⟨b7, 0, none⟩) 4 4, .slice none 0 0, .slice none 0 0] 23 (0, 0))] ++ (b1, Obj.cells #[.slice (some ⟨b3, 0, none⟩) 4 4, .slice (some ⟨b5, 0, none⟩) 3 3, .slice (some ⟨a0, 0, none⟩) 3 3] 26 (0, 0)) :: F))))) (((PC _ ((PA _ (PO _ _ _)).trans (PO _ _ _))).trans (PM.symm)).trans (PA _ (((PC _ (PO _ _ _)).trans (PM.symm)).trans (PA _ (PM.symm))))) ?_
 refine pst_retC1 (t := 0) (T := 26) (n := 3) ([(b3, Obj.cells #[.int .i64 (2), .int .i64 (30), .int .i64 (25), .int .i64 (0), .bool (true), .bool (false), .int .i64 (1), .int .i64 (20), .int .i64 (10), .int .i64 (0), .bool (false), .bool (true), .int .i64 (2), .int .i64 (40), .int .i64 (30), .int .i64 (1), .bool (true), .bool (true), .int .i64 (1), .int .i64 (10), .int .i64 (0), .int .i64 (1), .bool (false), .bool (true)] 56 (0, 0))] ++ ([(b5, Obj.cells #[.int .i64 (10), .int .i64 (3), .int .i64 (2)] 3 (0, 0))] ++ ([(a0, Obj.cells #[.slice (some ⟨b7, 0, none⟩) 4 4, .slice none 0 0, .slice none 0 0] 23 (0, 0))]))) (by kernel_rfl) rfl (by kernel_rfl) rfl (seesN_mem (n := 3) (cs := #[.slice (some ⟨b3, 0, none⟩) 4 4, .slice (some ⟨b5, 0, none⟩) 3 3, .slice (some ⟨a0, 0, none⟩) 3 3]) (b := b1) (off := 0) (T := 26) (fz := (0, 0)) (vs := [.slice (some ⟨b3, 0, none⟩) 4 4, .slice (some ⟨b5, 0, none⟩) 3 3, .slice (some ⟨a0, 0, none⟩) 3 3]) (by simp) rfl) (.inl ⟨by kernel_rfl, rfl⟩) (by simp only [AA, NA, CA]; exact (TK _ (TK _ (TK _ (TC _ (TR _)))))) a4 ?_
 exact ⟨_, _, _, _, _, _, _, rfl, rfl, b4, b6, b8, a2⟩

end Go.Proofs.YtcaocbhbofejnaaGreatDoor
namespace Go.Proofs.YtcaocbhbofejnaaGreatDoor
open Go Go.Sl Go.Sh
set_option maxRecDepth 100000
end Go.Proofs.YtcaocbhbofejnaaGreatDoor
namespace Go.Proofs.YtcaocbhbofejnaaGreatDoor
open Go Go.Sl Go.Sh
set_option maxRecDepth 100000
end Go.Proofs.YtcaocbhbofejnaaGreatDoor
namespace Go.Sh
open Go Go.Sl
set_option maxRecDepth 100000
theorem ex_warm : warmE exYard = ([0, 2, 3, 1], 1, 0) := by decide +kernel
theorem ex_reach : reachE exYard 3 = (4, 0) := by decide +kernel
theorem ex_draw : (play exYard [⟨0, 1, 2⟩]).2 = 0 ∧ (play exYard [⟨0, 1, 2⟩]).1.tracks = [[0, 1], [2, 3], []] := by decide +kernel
theorem ex_fewest : (fewestE exYard [0, 2, 3, 1]).1 = exFour ∧ (fewestE exYard [0, 2, 3, 1]).2 = 0 := by decide +kernel
theorem ex_lacks : (lacksE exYard [1, 2, 3, 0]).1 = [1, 2] ∧ (lacksE exYard [1, 2, 3, 0]).2 = 0 := by decide +kernel
end Go.Sh
namespace Go.Proofs.YtcaocbhbofejnaaGreatDoor
open Go Go.Sl Go.Sh
set_option maxRecDepth 100000
noncomputable def c_shunting (p : List Nat) : Code := sub (bodyOf Tryz.f19) p
set_option maxHeartbeats 2000000 in
theorem shunting_ct (I : Imm) (hG : Glob I) : Ct Tryz.prog 19 #[] I ([]) (fun v I' M' => v = .bool (true) ∧ M' = []) := by
 refine fr (args := []) (N := 90) Tryz.func19 (fun F => ?_)
 show Run _ _ (c_shunting []) _ _ [] _ _
 refine rnm ?_
 have hx1 : exYard.tracks.length = 3 := rfl
 have hx2 : exYard.cars.length = 4 := rfl
 have hx3 : exYard.room.length = 3 := rfl
 refine rqr ?_
 refine sp 1 [(0, .bool (false))] ?_
 refine sn ?_
 have v6 := yard_ct I
 refine sS (sc (some 13) (v6 :) (.refl _) (fun a7d I1 a6y x1 hp3 => ?_))
 obtain ⟨a7l, u8, a7m, u9, a5z, a4z, r8, hv4, hm5, z4, z5, z6, d7⟩ := hp3
 rw [hv4, hm5]; clear hv4 hm5
 replace hG := hG.mono x1
 obtain ⟨a4m, a4n, u1, a4o⟩ := z4.shape
 subst u1
 obtain ⟨a4s, a4t, u2, a4u⟩ := z5.shape
 subst u2
 obtain ⟨a0r, a0s, p0, a0t⟩ := z6.shape
 subst p0
 have k5 := d7.1
 try simp only [LS, LA, LC, LN, LK] at k5
 refine seq_mem (M' := ((u8 ++ (u9 ++ (r8 ++ F))))) (fun w h => by simpa only [AA, CA, NA] using h) ?_
 refine nm ?_
 have v7 := drawl_ct I1 (0) (1) (2)
 refine sS (sc (some 14) (v7 :) (.refl _) (fun a7e I20 a6z j6 a3z => ?_))
 obtain ⟨y8, x2⟩ := a3z
 rw [y8, x2]; clear y8 x2
 replace hG := hG.mono j6
 replace d7 := d7.mono j6
 refine nm ?_
 refine sfz noCar z4 (.refl _) (fun I28 k1 b9 => ?_)
 replace hG := hG.mono k1
 replace d7 := d7.mono k1
 obtain ⟨a1z, a2b, a2a, a2e, s3, a2c, a2d, a2f⟩ := id b9
 cases s3
 refine sfz 0 z5 (.refl _) (fun I31 h8 e6 => ?_)
 replace hG := hG.mono h8
 replace d7 := d7.mono h8
 replace b9 := b9.mono h8
 obtain ⟨a2g, a2i, a2h, a2l, s4, a2j, a2k, a2m⟩ := id e6
 cases s4
 refine sfz undef z6 (.refl _) (fun I34 f3 j0 => ?_)
 replace hG := hG.mono f3
 replace d7 := d7.mono f3
 replace b9 := b9.mono f3
 replace e6 := e6.mono f3
 obtain ⟨a2n, a2p, a2o, a2s, s5, a2q, a2r, a2t⟩ := id j0
 cases s5
 have i9 := d7.isRows j0
 have v4 := d7.1
 obtain ⟨a1i, a1k, a1j, a1n, J1, s1, a1l, a1m, a1o, a1p⟩ := id i9
 injection s1 with fr37_e1 fr37_e2 fr37_e3; subst fr37_e1; subst fr37_e3
 have v8 := Draw_ct I34 _ (exYard) ((⟨0, 1, 2⟩ : Shift)) (mkYard b9 e6 i9) (by first | exact hG | exact hG.mono hI)
 refine sS (sc (some 15) (v8 :) (.refl _) (fun a7f I38 a7a p3 a4a => ?_))
 obtain ⟨a7i, y9, x3, a4e⟩ := a4a
 rw [y9, x3]; clear y9 x3
 replace hG := hG.mono p3
 have t8 := a4e
 obtain ⟨a5t, a5u, a5v, t7, o4, o6, a0⟩ := id t8
 subst t7
 obtain ⟨a3, a4, Z5, Z8, o3, Z6, Z7, Z9⟩ := id o4
 subst o3
 obtain ⟨a5, a6, a0a, a0d, o5, a0b, a0c, a0e⟩ := id o6
 subst o5
 obtain ⟨a1, a2, a0f, a0i, A1, o7, a0g, a0h, a0j, a0k⟩ := id a0
 subst o7
 refine nm ?_
 refine sp 3 [(17, .int .i64 (((play exYard [((⟨0, 1, 2⟩ : Shift))]).2))), (16, .agg #[.slice a3 (((play exYard [((⟨0, 1, 2⟩ : Shift))]).1).cars).length a4, .slice a5 (((play exYard [((⟨0, 1, 2⟩ : Shift))]).1).room).length a6, .slice a1 (((play exYard [((⟨0, 1, 2⟩ : Shift))]).1).tracks).length a2])] ?_
 refine sS (sal 1 26 #[.slice none 0 0, .slice none 0 0, .slice none 0 0] (fun b1 => ?_))
 refine sS (ss 0 0 b1 [.slice a3 (((play exYard [((⟨0, 1, 2⟩ : Shift))]).1).cars).length a4, .slice a5 (((play exYard [((⟨0, 1, 2⟩ : Shift))]).1).room).length a6, .slice a1 (((play exYard [((⟨0, 1, 2⟩ : Shift))]).1).tracks).length a2] [.slice a3 (((play exYard [((⟨0, 1, 2⟩ : Shift))]).1).cars).length a4, .slice a5 (((play exYard [((⟨0, 1, 2⟩ : Shift))]).1).room).length a6, .slice a1 (((play exYard [((⟨0, 1, 2⟩ : Shift))]).1).tracks).length a2] (_ :: _) (cs := [_, _, _]) rfl rfl ?_)
 refine sp 1 [(2, .int .i64 (((play exYard [((⟨0, 1, 2⟩ : Shift))]).2)))] ?_
 refine seq_re 2 rfl (show (.int .i64 (((play exYard [((⟨0, 1, 2⟩ : Shift))]).2)) : Value) = .int .i64 (0) from congrArg (Value.int .i64) (ex_draw.1)) ?_
 refine sn ?_
 have v9 := yard_ct I38
 refine sS (sc (some 19) (v9 :) (.refl _) (fun a7g I50 a7b k2 a4b => ?_))
 obtain ⟨a5x, i8, a5y, f5, a6a, a5a, e3, z0, x4, z7, z8, z9, f2⟩ := a4b
 rw [z0, x4]; clear z0 x4
 replace hG := hG.mono k2
 replace a0 := a0.mono k2
 obtain ⟨a0l, a0m, o8, a0n⟩ := z7.shape
 subst o8
 obtain ⟨a0o, a0p, o9, a0q⟩ := z8.shape
 subst o9
 obtain ⟨a0u, a0v, p1, a0x⟩ := z9.shape
 subst p1
 have k6 := f2.1
 try simp only [LS, LA, LC, LN, LK] at k6
 refine seq_mem (M' := ((i8 ++ (f5 ++ (e3 ++ (b1, Obj.cells #[.slice a3 (((play exYard [((⟨0, 1, 2⟩ : Shift))]).1).cars).length a4, .slice a5 (((play exYard [((⟨0, 1, 2⟩ : Shift))]).1).room).length a6, .slice a1 (((play exYard [((⟨0, 1, 2⟩ : Shift))]).1).tracks).length a2] 26 (0, 0)) :: F))))) (fun w h => by simpa only [AA, CA, NA] using h) ?_
 refine pm (M' := ((b1, Obj.cells #[.slice a3 (((play exYard [((⟨0, 1, 2⟩ : Shift))]).1).cars).length a4, .slice a5 (((play exYard [((⟨0, 1, 2⟩ : Shift))]).1).room).length a6, .slice a1 (((play exYard [((⟨0, 1, 2⟩ : Shift))]).1).tracks).length a2] 26 (0, 0)) :: (i8 ++ (f5 ++ (e3 ++ F))))) ((PA _ ((PA _ PM).trans PM)).trans PM) ?_
 refine sS (sbs 20 3 4 #[.int .i64 (0), .int .i64 (2), .int .i64 (3), .int .i64 (1)] (fun u3 => ?_))
 refine sfz (A := ((u3, Obj.cells #[.int .i64 (0), .int .i64 (2), .int .i64 (3), .int .i64 (1)] 3 (0, 0)) :: (b1, Obj.cells #[.slice a3 (((play exYard [((⟨0, 1, 2⟩ : Shift))]).1).cars).length a4, .slice a5 (((play exYard [((⟨0, 1, 2⟩ : Shift))]).1).room).length a6, .slice a1 (((play exYard [((⟨0, 1, 2⟩ : Shift))]).1).tracks).length a2] 26 (0, 0)) :: (f5 ++ (e3 ++ F)))) noCar z7 ((PC _ (PM.symm)).trans (PM.symm)) (fun I71 h9 b2 => ?_)
 replace hG := hG.mono h9
 replace a0 := a0.mono h9
 replace f2 := f2.mono h9
 obtain ⟨a2u, a2x, a2v, a3a, s6, a2y, a2z, a3b⟩ := id b2
 cases s6
 refine sfz (A := ((u3, Obj.cells #[.int .i64 (0), .int .i64 (2), .int .i64 (3), .int .i64 (1)] 3 (0, 0)) :: (b1, Obj.cells #[.slice a3 (((play exYard [((⟨0, 1, 2⟩ : Shift))]).1).cars).length a4, .slice a5 (((play exYard [((⟨0, 1, 2⟩ : Shift))]).1).room).length a6, .slice a1 (((play exYard [((⟨0, 1, 2⟩ : Shift))]).1).tracks).length a2] 26 (0, 0)) :: (e3 ++ F))) 0 z8 ((PC _ (PM.symm)).trans (PM.symm)) (fun I74 f4 c0 => ?_)
 replace hG := hG.mono f4
 replace a0 := a0.mono f4
 replace f2 := f2.mono f4
 replace b2 := b2.mono f4
 obtain ⟨a3c, a3e, a3d, a3h, s7, a3f, a3g, a3i⟩ := id c0
 cases s7
 refine sfz (A := ((u3, Obj.cells #[.int .i64 (0), .int .i64 (2), .int .i64 (3), .int .i64 (1)] 3 (0, 0)) :: (b1, Obj.cells #[.slice a3 (((play exYard [((⟨0, 1, 2⟩ : Shift))]).1).cars).length a4, .slice a5 (((play exYard [((⟨0, 1, 2⟩ : Shift))]).1).room).length a6, .slice a1 (((play exYard [((⟨0, 1, 2⟩ : Shift))]).1).tracks).length a2] 26 (0, 0)) :: F)) undef z9 ((PC _ (PM.symm)).trans (PM.symm)) (fun I77 d8 j1 => ?_)
 replace hG := hG.mono d8
 replace a0 := a0.mono d8
 replace f2 := f2.mono d8
 replace b2 := b2.mono d8
 replace c0 := c0.mono d8
 obtain ⟨a3j, a3l, a3k, a3o, s8, a3m, a3n, a3p⟩ := id j1
 cases s8
 have e5 := f2.isRows j1
 have v5 := f2.1
 obtain ⟨a1q, a1s, a1r, a1v, J2, s2, a1t, a1u, a1x, a1y⟩ := id e5
 injection s2 with fr80_e1 fr80_e2 fr80_e3; subst fr80_e1; subst fr80_e3
 refine pm (M' := ((b1, Obj.cells #[.slice a3 (((play exYard [((⟨0, 1, 2⟩ : Shift))]).1).cars).length a4, .slice a5 (((play exYard [((⟨0, 1, 2⟩ : Shift))]).1).room).length a6, .slice a1 (((play exYard [((⟨0, 1, 2⟩ : Shift))]).1).tracks).length a2] 26 (0, 0)) :: ([(u3, Obj.cells #[.int .i64 (0), .int .i64 (2), .int .i64 (3), .int .i64 (1)] 3 (0, 0))] ++ F))) (PS _ _ _) ?_
 have a3y : Own 3 1 intCell (.slice (some ⟨u3, 0, none⟩) 4 4) ([(0 : Int), (2 : Int), (3 : Int), (1 : Int)] : List Int) [(u3, Obj.cells #[.int .i64 (0), .int .i64 (2), .int .i64 (3), .int .i64 (1)] 3 (0, 0))] := Own.lit rfl rfl
 refine sfz (A := ((b1, Obj.cells #[.slice a3 (((play exYard [((⟨0, 1, 2⟩ : Shift))]).1).cars).length a4, .slice a5 (((play exYard [((⟨0, 1, 2⟩ : Shift))]).1).room).length a6, .slice a1 (((play exYard [((⟨0, 1, 2⟩ : Shift))]).1).tracks).length a2] 26 (0, 0)) :: F)) 0 a3y (PM.symm) (fun I82 d9 j2 => ?_)
 replace hG := hG.mono d9
 replace a0 := a0.mono d9
 replace b2 := b2.mono d9
 replace c0 := c0.mono d9
 replace e5 := e5.mono d9
 obtain ⟨a3q, a3s, a3r, a3v, s9, a3t, a3u, a3x⟩ := id j2
 cases s9
 have x0 := Fewest_ct I82 _ (exYard) _ _ (mkYard b2 c0 e5) j2 (by first | exact hG | exact hG.mono hI)
 refine sS (sc (some 21) (x0 :) (.refl _) (fun a7h I85 a7c k3 a4c => ?_))
 obtain ⟨a7j, a9, z1, x5, A0⟩ := a4c
 rw [z1, x5]; clear z1 x5
 replace hG := hG.mono k3
 replace a0 := a0.mono k3
 obtain ⟨k7, k8, t9, a4f⟩ := A0.shape
 subst t9
 refine pm (M' := ((b1, Obj.cells #[.slice a3 (((play exYard [((⟨0, 1, 2⟩ : Shift))]).1).cars).length a4, .slice a5 (((play exYard [((⟨0, 1, 2⟩ : Shift))]).1).room).length a6, .slice a1 (((play exYard [((⟨0, 1, 2⟩ : Shift))]).1).tracks).length a2] 26 (0, 0)) :: (a9 ++ F))) PM ?_
 refine sp 5 [(4, .int .i64 (((fewestE exYard (([(0 : Int), (2 : Int), (3 : Int), (1 : Int)] : List Int))).2))), (3, .slice k7 ((fewestE exYard (([(0 : Int), (2 : Int), (3 : Int), (1 : Int)] : List Int))).1).length k8)] ?_
 refine seq_re 4 rfl (show (.int .i64 (((fewestE exYard (([(0 : Int), (2 : Int), (3 : Int), (1 : Int)] : List Int))).2)) : Value) = .int .i64 (0) from congrArg (Value.int .i64) (ex_fewest.2)) ?_
 refine sn ?_
 have t0 := yard_ct I85
 refine sS (sc (some 25) (t0 :) (.refl _) (fun a5k I96 a5d k4 a4d => ?_))
 obtain ⟨a4j, g3, a4p, e0, a4v, a0y, c4, z2, p4, q7, q8, q9, b6⟩ := a4d
 rw [z2, p4]; clear z2 p4
 replace hG := hG.mono k4
 replace a0 := a0.mono k4
 obtain ⟨A2, A3, k9, A4⟩ := q7.shape
 subst k9
 obtain ⟨B1, B2, l2, B3⟩ := q8.shape
 subst l2
 obtain ⟨C0, C1, l5, C2⟩ := q9.shape
 subst l5
 have i5 := b6.1
 try simp only [LS, LA, LC, LN, LK] at i5
 refine seq_mem (M' := ((g3 ++ (e0 ++ (c4 ++ (b1, Obj.cells #[.slice a3 (((play exYard [((⟨0, 1, 2⟩ : Shift))]).1).cars).length a4, .slice a5 (((play exYard [((⟨0, 1, 2⟩ : Shift))]).1).room).length a6, .slice a1 (((play exYard [((⟨0, 1, 2⟩ : Shift))]).1).tracks).length a2] 26 (0, 0)) :: (a9 ++ F)))))) (fun w h => by simpa only [AA, CA, NA] using h) ?_
 refine pm (M' := ((b1, Obj.cells #[.slice a3 (((play exYard [((⟨0, 1, 2⟩ : Shift))]).1).cars).length a4, .slice a5 (((play exYard [((⟨0, 1, 2⟩ : Shift))]).1).room).length a6, .slice a1 (((play exYard [((⟨0, 1, 2⟩ : Shift))]).1).tracks).length a2] 26 (0, 0)) :: (g3 ++ (e0 ++ (c4 ++ (a9 ++ F)))))) ((PA _ ((PA _ PM).trans PM)).trans PM) ?_
 refine sS (sbs 26 3 4 #[.int .i64 (1), .int .i64 (2), .int .i64 (3), .int .i64 (0)] (fun i4 => ?_))
 refine sfz (A := ((i4, Obj.cells #[.int .i64 (1), .int .i64 (2), .int .i64 (3), .int .i64 (0)] 3 (0, 0)) :: (b1, Obj.cells #[.slice a3 (((play exYard [((⟨0, 1, 2⟩ : Shift))]).1).cars).length a4, .slice a5 (((play exYard [((⟨0, 1, 2⟩ : Shift))]).1).room).length a6, .slice a1 (((play exYard [((⟨0, 1, 2⟩ : Shift))]).1).tracks).length a2] 26 (0, 0)) :: (e0 ++ (c4 ++ (a9 ++ F))))) noCar q7 ((PC _ (PM.symm)).trans (PM.symm)) (fun a6b e7 b0 => ?_)
 replace hG := hG.mono e7
 replace a0 := a0.mono e7
 replace b6 := b6.mono e7
 obtain ⟨J3, J5, J4, J8, m3, J6, J7, J9⟩ := id b0
 cases m3
 refine sfz (A := ((i4, Obj.cells #[.int .i64 (1), .int .i64 (2), .int .i64 (3), .int .i64 (0)] 3 (0, 0)) :: (b1, Obj.cells #[.slice a3 (((play exYard [((⟨0, 1, 2⟩ : Shift))]).1).cars).length a4, .slice a5 (((play exYard [((⟨0, 1, 2⟩ : Shift))]).1).room).length a6, .slice a1 (((play exYard [((⟨0, 1, 2⟩ : Shift))]).1).tracks).length a2] 26 (0, 0)) :: (c4 ++ (a9 ++ F)))) 0 q8 ((PC _ (PM.symm)).trans (PM.symm)) (fun a6c d3 b3 => ?_)
 replace hG := hG.mono d3
 replace a0 := a0.mono d3
 replace b6 := b6.mono d3
 replace b0 := b0.mono d3
 obtain ⟨K0, K2, K1, K5, m4, K3, K4, K6⟩ := id b3
 cases m4
 refine sfz (A := ((i4, Obj.cells #[.int .i64 (1), .int .i64 (2), .int .i64 (3), .int .i64 (0)] 3 (0, 0)) :: (b1, Obj.cells #[.slice a3 (((play exYard [((⟨0, 1, 2⟩ : Shift))]).1).cars).length a4, .slice a5 (((play exYard [((⟨0, 1, 2⟩ : Shift))]).1).room).length a6, .slice a1 (((play exYard [((⟨0, 1, 2⟩ : Shift))]).1).tracks).length a2] 26 (0, 0)) :: (a9 ++ F))) undef q9 ((PC _ (PM.symm)).trans (PM.symm)) (fun a6d c1 g9 => ?_)
 replace hG := hG.mono c1
 replace a0 := a0.mono c1
 replace b6 := b6.mono c1
 replace b0 := b0.mono c1
 replace b3 := b3.mono c1
 obtain ⟨K7, K9, K8, M2, m5, M0, M1, M3⟩ := id g9
 cases m5
 have c7 := b6.isRows g9
 have u4 := b6.1
 obtain ⟨C9, D1, D0, D4, v0, l9, D2, D3, D5, D6⟩ := id c7
 injection l9 with fr126_e1 fr126_e2 fr126_e3; subst fr126_e1; subst fr126_e3
 refine pm (M' := ((b1, Obj.cells #[.slice a3 (((play exYard [((⟨0, 1, 2⟩ : Shift))]).1).cars).length a4, .slice a5 (((play exYard [((⟨0, 1, 2⟩ : Shift))]).1).room).length a6, .slice a1 (((play exYard [((⟨0, 1, 2⟩ : Shift))]).1).tracks).length a2] 26 (0, 0)) :: ([(i4, Obj.cells #[.int .i64 (1), .int .i64 (2), .int .i64 (3), .int .i64 (0)] 3 (0, 0))] ++ (a9 ++ F)))) (PS _ _ _) ?_
 have x6 : Own 3 1 intCell (.slice (some ⟨i4, 0, none⟩) 4 4) ([(1 : Int), (2 : Int), (3 : Int), (0 : Int)] : List Int) [(i4, Obj.cells #[.int .i64 (1), .int .i64 (2), .int .i64 (3), .int .i64 (0)] 3 (0, 0))] := Own.lit rfl rfl
 refine sfz (A := ((b1, Obj.cells #[.slice a3 (((play exYard [((⟨0, 1, 2⟩ : Shift))]).1).cars).length a4, .slice a5 (((play exYard [((⟨0, 1, 2⟩ : Shift))]).1).room).length a6, .slice a1 (((play exYard [((⟨0, 1, 2⟩ : Shift))]).1).tracks).length a2] 26 (0, 0)) :: (a9 ++ F))) 0 x6 (PM.symm) (fun a1b c2 h0 => ?_)
 replace hG := hG.mono c2
 replace a0 := a0.mono c2
 replace b0 := b0.mono c2
 replace b3 := b3.mono c2
 replace c7 := c7.mono c2
 obtain ⟨M4, M6, M5, M9, m6, M7, M8, O0⟩ := id h0
 cases m6
 have t1 := Lacks_ct a1b _ (exYard) _ _ (mkYard b0 b3 c7) h0 (by first | exact hG | exact hG.mono hI)
 refine sS (sc (some 27) (t1 :) (.refl _) (fun a5l a1c a5e f7 y2 => ?_))
 obtain ⟨a5r, a8, q1, p5, r0⟩ := y2
 rw [q1, p5]; clear q1 p5
 replace hG := hG.mono f7
 replace a0 := a0.mono f7
 obtain ⟨i0, i1, o1, Y9⟩ := r0.shape
 subst o1
 refine pm (M' := ((b1, Obj.cells #[.slice a3 (((play exYard [((⟨0, 1, 2⟩ : Shift))]).1).cars).length a4, .slice a5 (((play exYard [((⟨0, 1, 2⟩ : Shift))]).1).room).length a6, .slice a1 (((play exYard [((⟨0, 1, 2⟩ : Shift))]).1).tracks).length a2] 26 (0, 0)) :: (a8 ++ (a9 ++ F)))) PM ?_
 refine sp 5 [(6, .int .i64 (((lacksE exYard (([(1 : Int), (2 : Int), (3 : Int), (0 : Int)] : List Int))).2))), (5, .slice i0 ((lacksE exYard (([(1 : Int), (2 : Int), (3 : Int), (0 : Int)] : List Int))).1).length i1)] ?_
 refine seq_re 6 rfl (show (.int .i64 (((lacksE exYard (([(1 : Int), (2 : Int), (3 : Int), (0 : Int)] : List Int))).2)) : Value) = .int .i64 (0) from congrArg (Value.int .i64) (ex_lacks.2)) ?_
 refine sn ?_
 have t2 := yard_ct a1c
 refine sS (sc (some 31) (t2 :) (.refl _) (fun a5m a6e a5f f8 y3 => ?_))
 obtain ⟨a4k, g4, a4q, e1, a4x, a0z, c5, q2, p6, r1, r2, r3, b7⟩ := y3
 rw [q2, p6]; clear q2 p6
 replace hG := hG.mono f8
 replace a0 := a0.mono f8
 obtain ⟨A5, A6, l0, A7⟩ := r1.shape
 subst l0
 obtain ⟨B4, B5, l3, B6⟩ := r2.shape
 subst l3
 obtain ⟨C3, C4, l6, C5⟩ := r3.shape
 subst l6
 have i6 := b7.1
 try simp only [LS, LA, LC, LN, LK] at i6
 refine seq_mem (M' := ((g4 ++ (e1 ++ (c5 ++ (b1, Obj.cells #[.slice a3 (((play exYard [((⟨0, 1, 2⟩ : Shift))]).1).cars).length a4, .slice a5 (((play exYard [((⟨0, 1, 2⟩ : Shift))]).1).room).length a6, .slice a1 (((play exYard [((⟨0, 1, 2⟩ : Shift))]).1).tracks).length a2] 26 (0, 0)) :: (a8 ++ (a9 ++ F))))))) (fun w h => by simpa only [AA, CA, NA] using h) ?_
 refine pm (M' := ((b1, Obj.cells #[.slice a3 (((play exYard [((⟨0, 1, 2⟩ : Shift))]).1).cars).length a4, .slice a5 (((play exYard [((⟨0, 1, 2⟩ : Shift))]).1).room).length a6, .slice a1 (((play exYard [((⟨0, 1, 2⟩ : Shift))]).1).tracks).length a2] 26 (0, 0)) :: (g4 ++ (e1 ++ (c5 ++ (a8 ++ (a9 ++ F))))))) ((PA _ ((PA _ PM).trans PM)).trans PM) ?_
 refine sfz (A := ((b1, Obj.cells #[.slice a3 (((play exYard [((⟨0, 1, 2⟩ : Shift))]).1).cars).length a4, .slice a5 (((play exYard [((⟨0, 1, 2⟩ : Shift))]).1).room).length a6, .slice a1 (((play exYard [((⟨0, 1, 2⟩ : Shift))]).1).tracks).length a2] 26 (0, 0)) :: (e1 ++ (c5 ++ (a8 ++ (a9 ++ F)))))) noCar r1 (PM.symm) (fun a6f e8 b4 => ?_)
 replace hG := hG.mono e8
 replace a0 := a0.mono e8
 replace b7 := b7.mono e8
 obtain ⟨O1, O3, O2, O6, m7, O4, O5, O7⟩ := id b4
 cases m7
 refine sfz (A := ((b1, Obj.cells #[.slice a3 (((play exYard [((⟨0, 1, 2⟩ : Shift))]).1).cars).length a4, .slice a5 (((play exYard [((⟨0, 1, 2⟩ : Shift))]).1).room).length a6, .slice a1 (((play exYard [((⟨0, 1, 2⟩ : Shift))]).1).tracks).length a2] 26 (0, 0)) :: (c5 ++ (a8 ++ (a9 ++ F))))) 0 r2 (PM.symm) (fun a6g d4 c8 => ?_)
 replace hG := hG.mono d4
 replace a0 := a0.mono d4
 replace b7 := b7.mono d4
 replace b4 := b4.mono d4
 obtain ⟨O8, P0, O9, P3, m8, P1, P2, P4⟩ := id c8
 cases m8
 refine sfz (A := ((b1, Obj.cells #[.slice a3 (((play exYard [((⟨0, 1, 2⟩ : Shift))]).1).cars).length a4, .slice a5 (((play exYard [((⟨0, 1, 2⟩ : Shift))]).1).room).length a6, .slice a1 (((play exYard [((⟨0, 1, 2⟩ : Shift))]).1).tracks).length a2] 26 (0, 0)) :: (a8 ++ (a9 ++ F)))) undef r3 (PM.symm) (fun a1d c3 h1 => ?_)
 replace hG := hG.mono c3
 replace a0 := a0.mono c3
 replace b7 := b7.mono c3
 replace b4 := b4.mono c3
 replace c8 := c8.mono c3
 obtain ⟨P5, P7, P6, Q0, m9, P8, P9, Q1⟩ := id h1
 cases m9
 have g6 := b7.isRows h1
 have u5 := b7.1
 obtain ⟨D7, D9, D8, E2, v1, m0, E0, E1, E3, E4⟩ := id g6
 injection m0 with fr170_e1 fr170_e2 fr170_e3; subst fr170_e1; subst fr170_e3
 have t3 := Reach_ct a1d _ (exYard) (3) (mkYard b4 c8 g6) (by first | exact hG | exact hG.mono hI)
 refine sS (sc (some 32) (t3 :) (.refl _) (fun a5n a1e a5g j3 y4 => ?_))
 obtain ⟨q3, p7⟩ := y4
 rw [q3, p7]; clear q3 p7
 replace a0 := a0.mono j3
 refine nm ?_
 refine sp 5 [(8, .int .i64 (((reachE exYard 3).2))), (7, .int .i64 (((reachE exYard 3).1)))] ?_
 refine seq_re 7 rfl (show (.int .i64 (((reachE exYard 3).1)) : Value) = .int .i64 (4) from congrArg (Value.int .i64) (congrArg Prod.fst ex_reach)) ?_
 refine seq_re 8 rfl (show (.int .i64 (((reachE exYard 3).2)) : Value) = .int .i64 (0) from congrArg (Value.int .i64) (congrArg Prod.snd ex_reach)) ?_
 refine sn ?_
 have t4 := yard_ct a1e
 refine sS (sc (some 36) (t4 :) (.refl _) (fun a5o a6h a5h j4 y5 => ?_))
 obtain ⟨a4l, g5, a4r, e2, a4y, a1a, c6, q4, p8, r4, r5, r6, b8⟩ := y5
 rw [q4, p8]; clear q4 p8
 replace a0 := a0.mono j4
 obtain ⟨A8, A9, l1, B0⟩ := r4.shape
 subst l1
 obtain ⟨B7, B8, l4, B9⟩ := r5.shape
 subst l4
 obtain ⟨C6, C7, l7, C8⟩ := r6.shape
 subst l7
 have i7 := b8.1
 try simp only [LS, LA, LC, LN, LK] at i7
 refine seq_mem (M' := ((g5 ++ (e2 ++ (c6 ++ (b1, Obj.cells #[.slice a3 (((play exYard [((⟨0, 1, 2⟩ : Shift))]).1).cars).length a4, .slice a5 (((play exYard [((⟨0, 1, 2⟩ : Shift))]).1).room).length a6, .slice a1 (((play exYard [((⟨0, 1, 2⟩ : Shift))]).1).tracks).length a2] 26 (0, 0)) :: (a8 ++ (a9 ++ F))))))) (fun w h => by simpa only [AA, CA, NA] using h) ?_
 refine pm (M' := ((b1, Obj.cells #[.slice a3 (((play exYard [((⟨0, 1, 2⟩ : Shift))]).1).cars).length a4, .slice a5 (((play exYard [((⟨0, 1, 2⟩ : Shift))]).1).room).length a6, .slice a1 (((play exYard [((⟨0, 1, 2⟩ : Shift))]).1).tracks).length a2] 26 (0, 0)) :: (g5 ++ (e2 ++ (c6 ++ (a8 ++ (a9 ++ F))))))) ((PA _ ((PA _ PM).trans PM)).trans PM) ?_
 refine sfz (A := ((b1, Obj.cells #[.slice a3 (((play exYard [((⟨0, 1, 2⟩ : Shift))]).1).cars).length a4, .slice a5 (((play exYard [((⟨0, 1, 2⟩ : Shift))]).1).room).length a6, .slice a1 (((play exYard [((⟨0, 1, 2⟩ : Shift))]).1).tracks).length a2] 26 (0, 0)) :: (e2 ++ (c6 ++ (a8 ++ (a9 ++ F)))))) noCar r4 (PM.symm) (fun a6i f9 b5 => ?_)
 replace a0 := a0.mono f9
 replace b8 := b8.mono f9
 obtain ⟨Q2, Q4, Q3, Q7, n0, Q5, Q6, Q8⟩ := id b5
 cases n0
 refine sfz (A := ((b1, Obj.cells #[.slice a3 (((play exYard [((⟨0, 1, 2⟩ : Shift))]).1).cars).length a4, .slice a5 (((play exYard [((⟨0, 1, 2⟩ : Shift))]).1).room).length a6, .slice a1 (((play exYard [((⟨0, 1, 2⟩ : Shift))]).1).tracks).length a2] 26 (0, 0)) :: (c6 ++ (a8 ++ (a9 ++ F))))) 0 r5 (PM.symm) (fun a6j e9 c9 => ?_)
 replace a0 := a0.mono e9
 replace b8 := b8.mono e9
 replace b5 := b5.mono e9
 obtain ⟨Q9, R1, R0, R4, n1, R2, R3, R5⟩ := id c9
 cases n1
 refine sfz (A := ((b1, Obj.cells #[.slice a3 (((play exYard [((⟨0, 1, 2⟩ : Shift))]).1).cars).length a4, .slice a5 (((play exYard [((⟨0, 1, 2⟩ : Shift))]).1).room).length a6, .slice a1 (((play exYard [((⟨0, 1, 2⟩ : Shift))]).1).tracks).length a2] 26 (0, 0)) :: (a8 ++ (a9 ++ F)))) undef r6 (PM.symm) (fun a1f d5 h2 => ?_)
 replace a0 := a0.mono d5
 replace b8 := b8.mono d5
 replace b5 := b5.mono d5
 replace c9 := c9.mono d5
 obtain ⟨R6, R8, R7, T1, n2, R9, T0, T2⟩ := id h2
 cases n2
 have g7 := b8.isRows h2
 have u6 := b8.1
 obtain ⟨E5, E7, E6, G0, v2, m1, E8, E9, G1, G2⟩ := id g7
 injection m1 with fr207_e1 fr207_e2 fr207_e3; subst fr207_e1; subst fr207_e3
 have t5 := Warm_ct a1f _ (exYard) (mkYard b5 c9 g7)
 refine sS (sc (some 37) (t5 :) (.refl _) (fun a5p a6k a5i j5 y6 => ?_))
 obtain ⟨a5s, q5, p9, z3⟩ := y6
 rw [q5, p9]; clear q5 p9
 replace a0 := a0.mono j5
 have a7 := z3
 obtain ⟨i2, i3, Z0, Z3, o2, Z1, Z2, Z4⟩ := id a7
 subst o2
 refine nm ?_
 refine sp 7 [(11, .int .i64 (((warmE exYard).2.2))), (10, .int .i64 (((warmE exYard).2.1))), (9, .slice i2 ((warmE exYard).1).length i3)] ?_
 refine seq_re 10 rfl (show (.int .i64 (((warmE exYard).2.1)) : Value) = .int .i64 (1) from congrArg (Value.int .i64) (congrArg (fun p => p.2.1) ex_warm)) ?_
 refine seq_re 11 rfl (show (.int .i64 (((warmE exYard).2.2)) : Value) = .int .i64 (0) from congrArg (Value.int .i64) (congrArg (fun p => p.2.2) ex_warm)) ?_
 refine sn ?_
 refine sp 1 [(41, .int .i64 (0))] ?_
 refine sd (dcm 42 .eql (0) (0) true (by rfl)) ?_
 refine sp 2 [(44, .int .i64 (0)), (43, .bool (true))] ?_
 refine sd (dcm 45 .eql (0) (0) true (by rfl)) ?_
 refine sp 3 [(48, .int .i64 (0)), (47, .bool (true))] ?_
 refine sd (dcm 49 .eql (0) (0) true (by rfl)) ?_
 refine sp 3 [(52, .int .i64 (0)), (51, .bool (true))] ?_
 refine sd (dcm 53 .eql (0) (0) true (by rfl)) ?_
 refine sp 3 [(56, .int .i64 (0)), (55, .bool (true))] ?_
 refine sd (dcm 57 .eql (0) (0) true (by rfl)) ?_
 refine sp 3 [(60, .int .i64 (4)), (59, .bool (true))] ?_
 refine sd (dcm 61 .eql (4) (4) true (by rfl)) ?_
 refine sp 3 [(64, .int .i64 (1)), (63, .bool (true))] ?_
 refine sd (dcm 65 .eql (1) (1) true (by rfl)) ?_
 refine sp 3 [(68, .pointer (some ⟨b1, 2, none⟩)), (67, .bool (true))] ?_
 refine sd (dlb 69 0 2 b1 (.slice a1 (((play exYard [((⟨0, 1, 2⟩ : Shift))]).1).tracks).length a2)) ?_
 refine sS (sbs 70 3 2 #[.int .i64 (0), .int .i64 (1)] (fun f6 => ?_))
 refine sS (sbs 71 3 2 #[.int .i64 (2), .int .i64 (3)] (fun e4 => ?_))
 refine pm (M' := ((e4, Obj.cells #[.int .i64 (2), .int .i64 (3)] 3 (0, 0)) :: (b1, Obj.cells #[.slice a3 (((play exYard [((⟨0, 1, 2⟩ : Shift))]).1).cars).length a4, .slice a5 (((play exYard [((⟨0, 1, 2⟩ : Shift))]).1).room).length a6, .slice a1 (((play exYard [((⟨0, 1, 2⟩ : Shift))]).1).tracks).length a2] 26 (0, 0)) :: ([(f6, Obj.cells #[.int .i64 (0), .int .i64 (1)] 3 (0, 0))] ++ (a8 ++ (a9 ++ F))))) (PC _ (PS _ _ _)) ?_
 have x7 : Own 3 1 intCell (.slice (some ⟨f6, 0, none⟩) 2 2) ([(0 : Int), (1 : Int)] : List Int) [(f6, Obj.cells #[.int .i64 (0), .int .i64 (1)] 3 (0, 0))] := Own.lit rfl rfl
 refine sfz (A := ((e4, Obj.cells #[.int .i64 (2), .int .i64 (3)] 3 (0, 0)) :: (b1, Obj.cells #[.slice a3 (((play exYard [((⟨0, 1, 2⟩ : Shift))]).1).cars).length a4, .slice a5 (((play exYard [((⟨0, 1, 2⟩ : Shift))]).1).room).length a6, .slice a1 (((play exYard [((⟨0, 1, 2⟩ : Shift))]).1).tracks).length a2] 26 (0, 0)) :: (a8 ++ (a9 ++ F)))) 0 x7 ((PC _ (PM.symm)).trans (PM.symm)) (fun a6l g0 d0 => ?_)
 replace a0 := a0.mono g0
 replace a7 := a7.mono g0
 obtain ⟨T3, T5, T4, T8, n3, T6, T7, T9⟩ := id d0
 cases n3
 refine pm (M' := ((b1, Obj.cells #[.slice a3 (((play exYard [((⟨0, 1, 2⟩ : Shift))]).1).cars).length a4, .slice a5 (((play exYard [((⟨0, 1, 2⟩ : Shift))]).1).room).length a6, .slice a1 (((play exYard [((⟨0, 1, 2⟩ : Shift))]).1).tracks).length a2] 26 (0, 0)) :: ([(e4, Obj.cells #[.int .i64 (2), .int .i64 (3)] 3 (0, 0))] ++ (a8 ++ (a9 ++ F))))) (PS _ _ _) ?_
 have x8 : Own 3 1 intCell (.slice (some ⟨e4, 0, none⟩) 2 2) ([(2 : Int), (3 : Int)] : List Int) [(e4, Obj.cells #[.int .i64 (2), .int .i64 (3)] 3 (0, 0))] := Own.lit rfl rfl
 refine sfz (A := ((b1, Obj.cells #[.slice a3 (((play exYard [((⟨0, 1, 2⟩ : Shift))]).1).cars).length a4, .slice a5 (((play exYard [((⟨0, 1, 2⟩ : Shift))]).1).room).length a6, .slice a1 (((play exYard [((⟨0, 1, 2⟩ : Shift))]).1).tracks).length a2] 26 (0, 0)) :: (a8 ++ (a9 ++ F)))) 0 x8 (PM.symm) (fun a1g f0 h3 => ?_)
 replace a0 := a0.mono f0
 replace a7 := a7.mono f0
 replace d0 := d0.mono f0
 obtain ⟨U0, U2, U1, U5, n4, U3, U4, U6⟩ := id h3
 cases n4
 refine sS (sbs 72 23 3 #[.slice (some ⟨f6, 0, none⟩) 2 2, .slice (some ⟨e4, 0, none⟩) 2 2, .slice none 0 0] (fun r9 => ?_))
 refine pm (M' := ((b1, Obj.cells #[.slice a3 (((play exYard [((⟨0, 1, 2⟩ : Shift))]).1).cars).length a4, .slice a5 (((play exYard [((⟨0, 1, 2⟩ : Shift))]).1).room).length a6, .slice a1 (((play exYard [((⟨0, 1, 2⟩ : Shift))]).1).tracks).length a2] 26 (0, 0)) :: ([(r9, Obj.cells #[.slice (some ⟨f6, 0, none⟩) 2 2, .slice (some ⟨e4, 0, none⟩) 2 2, .slice none 0 0] 23 (0, 0))] ++ (a8 ++ (a9 ++ F))))) (PS _ _ _) ?_
 have x9 : Own 23 1 valCell (.slice (some ⟨r9, 0, none⟩) 3 3) ([(.slice (some ⟨f6, 0, none⟩) 2 2 : Value), (.slice (some ⟨e4, 0, none⟩) 2 2 : Value), (.slice none 0 0 : Value)] : List Value) [(r9, Obj.cells #[.slice (some ⟨f6, 0, none⟩) 2 2, .slice (some ⟨e4, 0, none⟩) 2 2, .slice none 0 0] 23 (0, 0))] := Own.lit rfl rfl
 have d6 := ((((RowsV.nil a1g).snoc d0).snoc h3).snoc (IsSl.nil _))
 simp only [NA, CA] at d6
 refine sfz (A := ((b1, Obj.cells #[.slice a3 (((play exYard [((⟨0, 1, 2⟩ : Shift))]).1).cars).length a4, .slice a5 (((play exYard [((⟨0, 1, 2⟩ : Shift))]).1).room).length a6, .slice a1 (((play exYard [((⟨0, 1, 2⟩ : Shift))]).1).tracks).length a2] 26 (0, 0)) :: (a8 ++ (a9 ++ F)))) undef x9 (PM.symm) (fun a1h f1 h4 => ?_)
 replace a0 := a0.mono f1
 replace a7 := a7.mono f1
 replace d6 := d6.mono f1
 obtain ⟨U7, U9, U8, V2, n5, V0, V1, V3⟩ := id h4
 cases n5
 have g8 := d6.isRows h4
 have u7 := d6.1
 obtain ⟨G3, G5, G4, G8, v3, m2, G6, G7, G9, J0⟩ := id g8
 injection m2 with fr237_e1 fr237_e2 fr237_e3; subst fr237_e1; subst fr237_e3
 refine sd (dc 73 (fun I' hI => (EqualRows_ct I' _ _ _ _ (a0.mono hI) (g8.mono hI) :))) ?_
 refine seq_re 73 rfl (show (.bool (decide ((((play exYard [((⟨0, 1, 2⟩ : Shift))]).1).tracks) = ([([(0 : Int), (1 : Int)] : List Int), ([(2 : Int), (3 : Int)] : List Int), []]))) : Value) = .bool (true) from congrArg Value.bool (decide_eq_true (ex_draw.2))) ?_
 refine sp 3 [(76, .slice k7 ((fewestE exYard (([(0 : Int), (2 : Int), (3 : Int), (1 : Int)] : List Int))).1).length k8), (75, .bool (true))] ?_
 have t6 := four_ct a1h
 refine sS (sc (some 77) (t6 :) (.refl _) (fun a5q a6m a5j j7 y7 => ?_))
 obtain ⟨a7k, p2, q6, q0, r7⟩ := y7
 rw [q6, q0]; clear q6 q0
 replace a7 := a7.mono j7
 obtain ⟨a4g, a4h, u0, a4i⟩ := r7.shape
 subst u0
 refine pm (M' := ((b1, Obj.cells #[.slice a3 (((play exYard [((⟨0, 1, 2⟩ : Shift))]).1).cars).length a4, .slice a5 (((play exYard [((⟨0, 1, 2⟩ : Shift))]).1).room).length a6, .slice a1 (((play exYard [((⟨0, 1, 2⟩ : Shift))]).1).tracks).length a2] 26 (0, 0)) :: (p2 ++ (a8 ++ (a9 ++ F))))) PM ?_
 have hfl : ((fewestE exYard [0, 2, 3, 1]).1).length ≤ 4 := by rw [ex_fewest.1]; decide
 refine sfz (A := ((b1, Obj.cells #[.slice a3 (((play exYard [((⟨0, 1, 2⟩ : Shift))]).1).cars).length a4, .slice a5 (((play exYard [((⟨0, 1, 2⟩ : Shift))]).1).room).length a6, .slice a1 (((play exYard [((⟨0, 1, 2⟩ : Shift))]).1).tracks).length a2] 26 (0, 0)) :: (p2 ++ (a8 ++ F)))) noShift A0 ((PC _ ((PA _ (PO _ _ _)).trans (PO _ _ _))).trans (PM.symm)) (fun a6n j8 d1 => ?_)
 replace a7 := a7.mono j8
 obtain ⟨V4, V6, V5, V9, n6, V7, V8, W0⟩ := id d1
 cases n6
 refine sfz (A := ((b1, Obj.cells #[.slice a3 (((play exYard [((⟨0, 1, 2⟩ : Shift))]).1).cars).length a4, .slice a5 (((play exYard [((⟨0, 1, 2⟩ : Shift))]).1).room).length a6, .slice a1 (((play exYard [((⟨0, 1, 2⟩ : Shift))]).1).tracks).length a2] 26 (0, 0)) :: (a8 ++ F))) noShift r7 (PM.symm) (fun a6o g1 h5 => ?_)
 replace a7 := a7.mono g1
 replace d1 := d1.mono g1
 obtain ⟨W1, W3, W2, W6, n7, W4, W5, W7⟩ := id h5
 cases n7
 refine sd (dc 78 (fun I' hI => (EqualShifts_ct I' _ _ _ _ (d1.mono hI) (h5.mono hI) :))) ?_
 refine seq_re 78 rfl (show (.bool (decide (((fewestE exYard (([(0 : Int), (2 : Int), (3 : Int), (1 : Int)] : List Int))).1) = exFour)) : Value) = .bool (true) from congrArg Value.bool (decide_eq_true (ex_fewest.1))) ?_
 refine sp 3 [(81, .slice i0 ((lacksE exYard (([(1 : Int), (2 : Int), (3 : Int), (0 : Int)] : List Int))).1).length i1), (80, .bool (true))] ?_
 refine sS (sbs 82 3 2 #[.int .i64 (1), .int .i64 (2)] (fun l8 => ?_))
 have hll : ((lacksE exYard [1, 2, 3, 0]).1).length ≤ 4 := by rw [ex_lacks.1]; decide
 refine sfz (A := ((l8, Obj.cells #[.int .i64 (1), .int .i64 (2)] 3 (0, 0)) :: (b1, Obj.cells #[.slice a3 (((play exYard [((⟨0, 1, 2⟩ : Shift))]).1).cars).length a4, .slice a5 (((play exYard [((⟨0, 1, 2⟩ : Shift))]).1).room).length a6, .slice a1 (((play exYard [((⟨0, 1, 2⟩ : Shift))]).1).tracks).length a2] 26 (0, 0)) :: F)) 0 r0 ((PC _ (PM.symm)).trans (PM.symm)) (fun a6p j9 d2 => ?_)
 replace a7 := a7.mono j9
 obtain ⟨W8, X0, W9, X3, n8, X1, X2, X4⟩ := id d2
 cases n8
 refine pm (M' := ((b1, Obj.cells #[.slice a3 (((play exYard [((⟨0, 1, 2⟩ : Shift))]).1).cars).length a4, .slice a5 (((play exYard [((⟨0, 1, 2⟩ : Shift))]).1).room).length a6, .slice a1 (((play exYard [((⟨0, 1, 2⟩ : Shift))]).1).tracks).length a2] 26 (0, 0)) :: ([(l8, Obj.cells #[.int .i64 (1), .int .i64 (2)] 3 (0, 0))] ++ F))) (PS _ _ _) ?_
 have y0 : Own 3 1 intCell (.slice (some ⟨l8, 0, none⟩) 2 2) ([(1 : Int), (2 : Int)] : List Int) [(l8, Obj.cells #[.int .i64 (1), .int .i64 (2)] 3 (0, 0))] := Own.lit rfl rfl
 refine sfz (A := ((b1, Obj.cells #[.slice a3 (((play exYard [((⟨0, 1, 2⟩ : Shift))]).1).cars).length a4, .slice a5 (((play exYard [((⟨0, 1, 2⟩ : Shift))]).1).room).length a6, .slice a1 (((play exYard [((⟨0, 1, 2⟩ : Shift))]).1).tracks).length a2] 26 (0, 0)) :: F)) 0 y0 (PM.symm) (fun a6q g2 h6 => ?_)
 replace a7 := a7.mono g2
 replace d2 := d2.mono g2
 obtain ⟨X5, X7, X6, Y0, n9, X8, X9, Y1⟩ := id h6
 cases n9
 refine sd (dc 83 (fun I' hI => (EqualInts_ct I' _ _ _ _ (d2.mono hI) (h6.mono hI) :))) ?_
 refine seq_re 83 rfl (show (.bool (decide (((lacksE exYard (([(1 : Int), (2 : Int), (3 : Int), (0 : Int)] : List Int))).1) = (([(1 : Int), (2 : Int)] : List Int)))) : Value) = .bool (true) from congrArg Value.bool (decide_eq_true (ex_lacks.1))) ?_
 refine sp 3 [(86, .slice i2 ((warmE exYard).1).length i3), (85, .bool (true))] ?_
 refine sS (sbs 87 3 4 #[.int .i64 (0), .int .i64 (2), .int .i64 (3), .int .i64 (1)] (fun s0 => ?_))
 refine pm (M' := ((b1, Obj.cells #[.slice a3 (((play exYard [((⟨0, 1, 2⟩ : Shift))]).1).cars).length a4, .slice a5 (((play exYard [((⟨0, 1, 2⟩ : Shift))]).1).room).length a6, .slice a1 (((play exYard [((⟨0, 1, 2⟩ : Shift))]).1).tracks).length a2] 26 (0, 0)) :: ([(s0, Obj.cells #[.int .i64 (0), .int .i64 (2), .int .i64 (3), .int .i64 (1)] 3 (0, 0))] ++ F))) (PS _ _ _) ?_
 have y1 : Own 3 1 intCell (.slice (some ⟨s0, 0, none⟩) 4 4) ([(0 : Int), (2 : Int), (3 : Int), (1 : Int)] : List Int) [(s0, Obj.cells #[.int .i64 (0), .int .i64 (2), .int .i64 (3), .int .i64 (1)] 3 (0, 0))] := Own.lit rfl rfl
 refine sfz (A := ((b1, Obj.cells #[.slice a3 (((play exYard [((⟨0, 1, 2⟩ : Shift))]).1).cars).length a4, .slice a5 (((play exYard [((⟨0, 1, 2⟩ : Shift))]).1).room).length a6, .slice a1 (((play exYard [((⟨0, 1, 2⟩ : Shift))]).1).tracks).length a2] 26 (0, 0)) :: F)) 0 y1 (PM.symm) (fun a6r k0 h7 => ?_)
 replace a7 := a7.mono k0
 obtain ⟨Y2, Y4, Y3, Y7, o0, Y5, Y6, Y8⟩ := id h7
 cases o0
 refine sd (dc 88 (fun I' hI => (EqualInts_ct I' _ _ _ _ (a7.mono hI) (h7.mono hI) :))) ?_
 refine seq_re 88 rfl (show (.bool (decide (((warmE exYard).1) = (([(0 : Int), (2 : Int), (3 : Int), (1 : Int)] : List Int)))) : Value) = .bool (true) from congrArg Value.bool (decide_eq_true (congrArg Prod.fst ex_warm))) ?_
 refine sp 2 [(0, .bool (true))] ?_
 refine se (rret ?_)
 refine pst_ret1 (t := 0) [] (by kernel_rfl) rfl (TC _ (TR _)) (Imm.le.trans (Imm.le.trans (Imm.le.trans (Imm.le.trans (Imm.le.trans (Imm.le.trans (Imm.le.trans (Imm.le.trans (Imm.le.trans (Imm.le.trans (Imm.le.trans (Imm.le.trans (Imm.le.trans (Imm.le.trans (Imm.le.trans (Imm.le.trans (Imm.le.trans (Imm.le.trans (Imm.le.trans (Imm.le.trans (Imm.le.trans (Imm.le.trans (Imm.le.trans (Imm.le.trans (Imm.le.trans (Imm.le.trans (Imm.le.trans (Imm.le.trans (Imm.le.trans (Imm.le.trans (Imm.le.trans (Imm.le.trans (Imm.le.trans (Imm.le.trans (Imm.le.trans (Imm.le.trans x1 j6) k1) h8) f3) p3) k2) h9) f4) d8) d9) k3) k4) e7) d3) c1) c2) f7) f8) e8) d4) c3) j3) j4) f9) e9) d5) j5) g0) f0) f1) j7) j8) g1) j9) g2) k0) ?_
 exact ⟨rfl, rfl⟩

end Go.Proofs.YtcaocbhbofejnaaGreatDoor
namespace Go.Sl
open Go
section
variable {P : Program} {N : Nat} {ops : Array Oper} {i : Nat} {l : Sl} {I : Imm} {R M : Seg} {ty : TypeId} {gd : Option (Nat × Bool)} {K : Sl → Imm → Seg → Prop} {d : Nat}
theorem stp_makeSlice {x : Operand} {T E bs n : Nat} {z zv : Value} (hop : opAt ops N i = some (some d, .makeSlice T x x, ty, gd)) (hg : gval ops l gd = some true)
    (hT : tyElem P T = some E) (hsz : tySize P E = some 1) (hz : tyZero P E = some z) (hzc : z.cells = #[zv]) (hb : tyBytes P E = some bs) (hbs : 1 ≤ bs ∧ bs ≤ 256)
    (hx : oval l x = some (.int .i64 (n : Int))) (hn : 0 < n ∧ n ≤ 1000000)
    (next : ∀ b, K ((d, .slice (some ⟨b, 0, none⟩) n n) :: l) I ((b, Obj.cells (List.replicate n zv).toArray E (0, 0)) :: M)) : Stp P N ops i l I M K := by
  have hinfo : ∃ inf, P.info? E = some inf ∧ inf.bytes = bs := by
    unfold tyBytes at hb
    cases hi : P.info? E with
    | none => rw [hi] at hb; cases hb
    | some inf => rw [hi] at hb; exact ⟨inf, rfl, by simpa using hb⟩
  obtain ⟨inf, hinf, hbytes⟩ := hinfo
  refine stp_of_wpL hop hg (known2 hx hx) ?_
  show wpL P (Instr.makeSlice T (rho l x) (rho l x) >>= fun x => pure (Next.value x)) _ I M
  refine wpL_val ?_
  rw [rho_of hx]
  have hw : IntKind.i64.wrap (n : Int) = (n : Int) := wrap64_id ⟨by omega, by omega⟩
  have hbig : ¬ ((inf.bytes : Int) * (n : Int) > 2 ^ 48) := by
    have h1 : inf.bytes * n ≤ 256 * 1000000 := Nat.mul_le_mul (by omega) hn.2
    have h2 : ((inf.bytes * n : Nat) : Int) ≤ ((256 * 1000000 : Nat) : Int) := Int.ofNat_le.2 h1
    rw [Int.natCast_mul] at h2
    omega
  unfold Instr.makeSlice
  rw [wpL_bind, wpL_underlying (tyElem_spec hT)]
  show wpL P (pure (n : Int) >>= _) _ I M
  rw [wpL_bind, wpL_pure]
  show wpL P (pure (n : Int) >>= _) _ I M
  rw [wpL_bind, wpL_pure, wpL_bind, wpL_typeInfo hinf]
  simp only [hw]
  have hc : (decide ((n : Int) < 0) || decide ((inf.bytes : Int) * (n : Int) > 2 ^ 48) || decide ((n : Int) < 0) || decide ((n : Int) > (n : Int))) = false := by
    rw [decide_eq_false (show ¬ (n : Int) < 0 by omega), decide_eq_false hbig, decide_eq_false (show ¬ (n : Int) > n by omega)]; rfl
  rw [if_neg (by rw [hc]; simp)]
  rw [wpL_bind]
  have hask : ∀ (n : Nat) (Q : Unit → Seg → Prop), Q () M → wpL P (askRoom n) Q I M := fun n Q hq => by
    unfold askRoom
    split <;> exact hq
  refine hask _ _ ?_
  rw [wpL_bind, wpL_sizeOf hsz]
  simp only [Int.toNat_natCast, Nat.mul_one]
  rw [if_neg (show ¬ n = 0 by omega), wpL_bind, wpL_zeroValue hz, wpL_bind, wpL_pure, wpL_bind]
  intro b
  refine ⟨_, .inl rfl, ?_⟩
  have e : (Array.range n).map (fun k => z.cells[k % z.cells.size]!) = (List.replicate n zv).toArray := by
    rw [hzc]
    apply Array.ext
    · simp
    · intro i h1 h2
      simp [Nat.mod_one]
  rw [e]
  exact next b
end
theorem encL_vals (vs : List Value) : encL 1 valCell vs = vs := by
  induction vs with
  | nil => rfl
  | cons v r ih =>
    have : encL 1 valCell (v :: r) = [v] ++ encL 1 valCell r := by simp [encL, valCell]
    rw [this, ih]; rfl
theorem Own.made {E : TypeId} {b n : Nat} (z : Value) : Own E 1 valCell (.slice (some ⟨b, 0, none⟩) n n) (List.replicate n z) [(b, Obj.cells (List.replicate n z).toArray E (0, 0))] :=
  .inr ⟨b, n, [], by simp, by simp, by rw [encL_vals]; simp, by simp [encL_vals]⟩

structure Lent (I J : Imm) (Ms : Seg) : Prop where
  free : ∀ b o, (b, o) ∈ Ms → I.blk b = none
  held : ∀ b o, (b, o) ∈ Ms → J.blk b = some o
  nodup : (Ms.map Prod.fst).Nodup
theorem Lent.mono {I J K : Imm} {Ms : Seg} (h : Lent I J Ms) (le : J.le K) : Lent I K Ms := ⟨h.free, fun b o hm => le.blk _ _ (h.held b o hm), h.nodup⟩
theorem Own.lend {α : Type} {E : TypeId} {sz : Nat} {cell : α → Nat → Value} {v : Value} {xs : List α} {Ms M : Seg} {I : Imm} {w : World} (dflt : α) (h : Own E sz cell v xs Ms) (hl : xs.length ≤ 140737488355328) (st : St I (Ms ++ M) w) :
    ∃ J, I.le J ∧ IsSl sz cell dflt J v xs ∧ Lent I J Ms ∧ St J M w := by
  rcases h with ⟨rfl, rfl, rfl⟩ | ⟨b, c, sp, rfl, h, rfl, hc⟩
  · exact ⟨I, Imm.le.refl I, ⟨none, 0, 0, 0, rfl, Nat.le_refl _, by simp, ⟨fun h => by simp at h, fun i hi => by simp at hi⟩⟩, ⟨fun _ _ h => by simp at h, fun _ _ h => by simp at h, by simp⟩, st⟩
  · have hb : I.blk b = none := st.disj b (Obj.cells (encL sz cell xs ++ sp).toArray E (0, 0)) (by simp)
    refine ⟨I.add b _, Imm.le_add hb, ⟨_, c, b, 0, rfl, h, hl, ⟨fun _ => rfl, fun i hi f hf => ⟨rfl, _, E, (0, 0), Imm.add_same I b _, ?_⟩⟩⟩, ⟨fun b' o hm => ?_, fun b' o hm => ?_, by simp⟩, St.freeze st⟩
    · have hlt : i * sz + f < (encL sz cell xs).length := by
        rw [encL_length]
        have : i * sz + sz ≤ xs.length * sz := by rw [← Nat.succ_mul]; exact Nat.mul_le_mul_right _ hi
        omega
      simp only [List.getElem?_toArray, Nat.zero_add]
      rw [List.getElem?_append_left hlt]
      exact encL_get sz cell dflt xs i f hi hf
    · have := List.mem_singleton.1 hm; cases this; exact hb
    · have := List.mem_singleton.1 hm; cases this; exact Imm.add_same I b _
theorem St.thaw {I J : Imm} {M Ms : Seg} {w : World} (h : Lent I J Ms) (le : I.le J) (st : St J M w) : ∃ K, I.le K ∧ St K (Ms ++ M) w := by
  have hk : ∀ b, b ∈ Ms.map Prod.fst → ∃ o, (b, o) ∈ Ms := fun b hb => by
    obtain ⟨⟨c, o⟩, hm, e⟩ := List.mem_map.1 hb
    cases e
    exact ⟨o, hm⟩
  refine ⟨{ J with blk := fun b => if b ∈ Ms.map Prod.fst then none else J.blk b }, ⟨le.os, le.tape, le.output, fun b o hb => ?_⟩, ⟨st.os, st.tape, st.output, fun b o hb => ?_, fun b o hm => ?_, ?_, fun b o hm => ?_⟩⟩
  · show (if b ∈ Ms.map Prod.fst then none else J.blk b) = some o
    rw [if_neg]
    · exact le.blk b o hb
    · intro hm
      obtain ⟨o2, h2⟩ := hk b hm
      rw [h.free b o2 h2] at hb
      cases hb
  · change (if b ∈ Ms.map Prod.fst then none else J.blk b) = some o at hb
    split at hb
    · cases hb
    · exact st.imm b o hb
  · rcases List.mem_append.1 hm with hm | hm
    · exact st.imm b o (h.held b o hm)
    · exact st.mem b o hm
  · rw [List.map_append]
    refine List.nodup_append.2 ⟨h.nodup, st.nodup, fun a ha b hb e => ?_⟩
    subst e
    obtain ⟨o, ho⟩ := hk a ha
    obtain ⟨⟨c, o2⟩, hm, e⟩ := List.mem_map.1 hb
    cases e
    have := st.disj _ _ hm
    rw [h.held _ _ ho] at this
    cases this
  · show (if b ∈ Ms.map Prod.fst then none else J.blk b) = none
    rcases List.mem_append.1 hm with hm | hm
    · rw [if_pos (List.mem_map_of_mem (f := Prod.fst) hm)]
    · split
      · rfl
      · exact st.disj b o hm
section
variable {ρ : Option Nat} {P : Program} {N : Nat} {ds : List Deferred} {l : Sl} {I : Imm} {M A B Ms : Seg} {Q : Exit → Act → World → Prop} {c : Code}
end
end Go.Sl
namespace Go.Sh
open Go Go.Sl

def gAt (cs : List Car) (i : Nat) : Int := (cs.getD i noCar).grp
structure CarsInv (cs : List Car) (g l : Int) : Prop where
  ok : ∀ c ∈ cs, carErr c = 0 ∧ c.len ≤ 3
  le : ∀ i, i < cs.length → gAt cs i ≤ g
  run : ∀ i j, i ≤ j → j < cs.length → gAt cs i = gAt cs j → gAt cs i ≠ 0 → ∀ m, i ≤ m → m ≤ j → gAt cs m = gAt cs i
  g0 : 0 ≤ g ∧ g ≤ 3
  l0 : 0 ≤ l ∧ l ≤ 2
  last : 0 < l → 1 ≤ g ∧ (0 < cs.length → gAt cs (cs.length - 1) = g ∨ ∀ i, i < cs.length → gAt cs i < g)
theorem CarsInv.nil : CarsInv [] 0 0 := ⟨fun c h => by simp at h, fun i h => by simp at h, fun i j _ h => by simp at h, by omega, by omega, fun h => by omega⟩
theorem CarsInv.group {cs : List Car} {g l l' : Int} (h : CarsInv cs g l) (hg : g < 3) (hl : 1 ≤ l' ∧ l' ≤ 2) : CarsInv cs (g + 1) l' := by
  have := h.g0
  refine ⟨h.ok, fun i hi => by have := h.le i hi; omega, h.run, by omega, by omega, fun _ => ⟨by omega, fun _ => .inr fun i hi => by have := h.le i hi; omega⟩⟩
theorem gAt_append {cs : List Car} {c : Car} {i : Nat} : gAt (cs ++ [c]) i = if i < cs.length then gAt cs i else if i = cs.length then c.grp else 0 := by
  unfold gAt
  simp only [List.getD]
  split
  · rename_i h; rw [List.getElem?_append_left h]
  · rename_i h
    rw [List.getElem?_append_right (by omega)]
    split
    · rename_i h2; simp [h2]
    · rename_i h2
      have : 1 ≤ i - cs.length := by omega
      cases hh : i - cs.length with
      | zero => omega
      | succ n => simp [noCar]
theorem CarsInv.snoc {cs : List Car} {g l : Int} (h : CarsInv cs g l) {c : Car} (hc : carErr c = 0 ∧ c.len ≤ 3) (hg : (0 < l → c.grp = g) ∧ (¬ 0 < l → c.grp = 0)) : CarsInv (cs ++ [c]) g (if 0 < l then l - 1 else l) := by
  have hg0 := h.g0; have hl0 := h.l0
  have hle : c.grp ≤ g := by by_cases hl : 0 < l; exact Int.le_of_eq (hg.1 hl); rw [hg.2 hl]; omega
  refine ⟨fun x hx => ?_, fun i hi => ?_, ?_, hg0, by split <;> omega, fun hl => ?_⟩
  · rcases List.mem_append.1 hx with hx | hx
    · exact h.ok x hx
    · simp at hx; subst hx; exact hc
  · rw [gAt_append]
    split
    · rename_i h1; exact h.le i h1
    · split
      · exact hle
      · omega
  · intro i j hij hj e h0 m him hmj
    simp only [List.length_append, List.length_cons, List.length_nil] at hj
    have A : ∀ x, x < cs.length → gAt (cs ++ [c]) x = gAt cs x := fun x hx => by rw [gAt_append, if_pos hx]
    have B : gAt (cs ++ [c]) cs.length = c.grp := by rw [gAt_append, if_neg (by omega), if_pos rfl]
    by_cases hj1 : j < cs.length
    · rw [A i (by omega)] at e h0 ⊢
      rw [A j hj1] at e
      rw [A m (by omega)]
      exact h.run i j hij hj1 e h0 m him hmj
    · have hj2 : j = cs.length := by omega
      subst hj2
      rw [B] at e
      by_cases hi1 : i < cs.length
      · rw [A i hi1] at e h0 ⊢
        by_cases hm1 : m < cs.length
        · rw [A m hm1]
          by_cases hl : 0 < l
          · have hcg := hg.1 hl
            rcases (h.last hl).2 (by omega) with hla | hla
            · exact h.run i (cs.length - 1) (by omega) (by omega) (by rw [hla]; omega) h0 m him (by omega)
            · have := hla i hi1; omega
          · have := hg.2 hl; omega
        · have hm2 : m = cs.length := by omega
          subst hm2
          rw [B]; exact e.symm
      · have hi2 : i = cs.length := by omega
        have hm2 : m = i := by omega
        rw [hm2]
  · have hl1 : 0 < l := by
      by_cases h1 : 0 < l
      · exact h1
      · rw [if_neg h1] at hl; exact hl
    have := h.last hl1
    refine ⟨this.1, fun _ => .inl ?_⟩
    have e : (cs ++ [c]).length - 1 = cs.length := by simp
    rw [e, gAt_append, if_neg (by omega), if_pos rfl]
    exact hg.1 hl1

structure Placed (cs : List Car) (T k a : Nat) (ts : List (List Int)) : Prop where
  len : ts.length = T
  a0 : a < T
  perm : ts.flatten.Perm (wholeL k)
  ex : ∃ tr : Nat → Nat, (∀ i, i < T → ts.getD i [] = (wholeL k).filter fun c => decide (tr c.toNat = i)) ∧ (∀ c, c < k → tr c < T) ∧ (∀ c, c + 1 < k → gAt cs (c + 1) ≠ 0 → gAt cs (c + 1) = gAt cs c → tr (c + 1) = tr c) ∧ (0 < k → tr (k - 1) = a)
theorem mem_wholeL {n : Nat} {c : Int} : c ∈ wholeL n ↔ 0 ≤ c ∧ c < n := by
  unfold wholeL
  simp only [List.mem_map, List.mem_range]
  constructor
  · rintro ⟨i, hi, rfl⟩; omega
  · intro h; exact ⟨c.toNat, by omega, by omega⟩
theorem Placed.start {cs : List Car} {T : Nat} (hT : 0 < T) : Placed cs T 0 0 (List.replicate T []) := by
  refine ⟨by simp, hT, by simp [wholeL], fun _ => 0, fun i hi => ?_, fun c h => by omega, fun c h => by omega, fun h => by omega⟩
  simp [wholeL, List.getD, hi]
theorem flatten_set_snoc : ∀ (ts : List (List Int)) (a : Nat) (x : Int), a < ts.length → (ts.set a (ts.getD a [] ++ [x])).flatten.Perm (ts.flatten ++ [x]) := by
  intro ts
  induction ts with
  | nil => intro a x h; simp at h
  | cons t r ih =>
    intro a x h
    cases a with
    | zero =>
      simp only [List.set_cons_zero, List.getD_cons_zero, List.flatten_cons, List.append_assoc]
      exact List.Perm.append_left t List.perm_append_comm
    | succ a =>
      simp only [List.set_cons_succ, List.getD_cons_succ, List.flatten_cons, List.append_assoc]
      exact List.Perm.append_left t (ih a x (by simpa using h))
theorem Placed.put {cs : List Car} {T k a a2 : Nat} {ts : List (List Int)} (h : Placed cs T k a ts) (h2 : a2 < T) (hs : k ≠ 0 → gAt cs k ≠ 0 → gAt cs k = gAt cs (k - 1) → a2 = a) :
    Placed cs T (k + 1) a2 (ts.set a2 (ts.getD a2 [] ++ [(k : Int)])) := by
  obtain ⟨tr, t1, t2, t3, t4⟩ := h.ex
  have hl := h.len
  refine ⟨by rw [List.length_set]; exact hl, h2, ?_, fun c => if c = k then a2 else tr c, fun i hi => ?_, fun c hc => ?_, fun c hc h0 he => ?_, fun _ => ?_⟩
  · rw [wholeL_succ]
    exact (flatten_set_snoc ts a2 k (by omega)).trans (List.Perm.append_right _ h.perm)
  · have hf : (wholeL k).filter (fun c => decide ((if c.toNat = k then a2 else tr c.toNat) = i)) = ts.getD i [] := by
      rw [t1 i hi]
      refine List.filter_congr fun c hc => ?_
      have := mem_wholeL.1 hc
      rw [if_neg (by omega)]
    rw [wholeL_succ, List.filter_append, hf]
    by_cases e : a2 = i
    · subst e
      simp [List.getD, List.getElem?_set, hl, hi]
    · simp [List.getD, List.getElem?_set, e]
  · show (if c = k then a2 else tr c) < T
    split
    · exact h2
    · exact t2 c (by omega)
  · show (if c + 1 = k then a2 else tr (c + 1)) = (if c = k then a2 else tr c)
    by_cases e1 : c + 1 = k
    · have e3 : ¬ c = k := by omega
      rw [if_pos e1, if_neg e3]
      have := hs (by omega) (by rw [← e1]; exact h0) (by rw [← e1]; exact he)
      rw [this, ← t4 (by omega), ← e1]; rfl
    · have e3 : ¬ c = k := by omega
      rw [if_neg e1, if_neg e3]
      exact t3 c (by omega) h0 he
  · simp
theorem sorted_prev {l : List Int} (hs : l.Pairwise (· < ·)) {j : Nat} (hj : j < l.length) (hm : l.getD j 0 - 1 ∈ l) : 0 < j ∧ l.getD (j - 1) 0 = l.getD j 0 - 1 := by
  obtain ⟨m, hm1, hm2⟩ := List.mem_iff_getElem.1 hm
  have hlt : ∀ (x y : Nat) (hx : x < l.length) (hy : y < l.length), x < y → l.getD x 0 < l.getD y 0 := fun x y hx hy h => by
    have := List.pairwise_iff_getElem.1 hs x y hx hy h
    simpa [List.getD, hx, hy] using this
  have e : l.getD m 0 = l.getD j 0 - 1 := by simpa [List.getD, hm1] using hm2
  have h1 : m < j := by
    rcases Nat.lt_trichotomy m j with h | h | h
    · exact h
    · subst h; omega
    · have := hlt j m hj hm1 h; omega
  rcases Nat.lt_or_ge m (j - 1) with h2 | h2
  · have a := hlt m (j - 1) hm1 (by omega) h2
    have b := hlt (j - 1) j (by omega) hj (by omega)
    omega
  · have : m = j - 1 := by omega
    subst this
    exact ⟨by omega, e⟩
theorem wholeL_sorted (n : Nat) : (wholeL n).Pairwise (· < ·) := by
  unfold wholeL
  rw [List.pairwise_map]
  exact List.pairwise_lt_range.imp fun h => by omega
theorem Placed.groups {cs : List Car} {T a : Nat} {ts : List (List Int)} {g l : Int} (h : Placed cs T cs.length a ts) (hc : CarsInv cs g l) : GrpFrom cs ts [] := by
  obtain ⟨tr, t1, t2, t3, t4⟩ := h.ex
  have hmem : ∀ i, i < T → ∀ c, c ∈ ts.getD i [] ↔ (0 ≤ c ∧ c < cs.length) ∧ tr c.toNat = i := fun i hi c => by
    rw [t1 i hi, List.mem_filter, mem_wholeL, decide_eq_true_eq]
  have hgrp : ∀ c : Int, grp cs c = gAt cs c.toNat := fun c => rfl
  have hrun : ∀ n x : Nat, x + n < cs.length → gAt cs x ≠ 0 → gAt cs x = gAt cs (x + n) → tr (x + n) = tr x := by
    intro n
    induction n with
    | zero => intro x _ _ _; rfl
    | succ n ih =>
      intro x hx h0 e
      have e1 : gAt cs (x + n) = gAt cs x := hc.run x (x + (n + 1)) (by omega) hx e h0 (x + n) (by omega) (by omega)
      have := ih x (by omega) h0 e1.symm
      rw [← this]
      exact t3 (x + n) (by omega) (by rw [show x + n + 1 = x + (n + 1) by omega, ← e]; exact h0) (by rw [show x + n + 1 = x + (n + 1) by omega, ← e, e1])
  have hrun2 : ∀ x y : Nat, x < cs.length → y < cs.length → gAt cs x ≠ 0 → gAt cs x = gAt cs y → tr x = tr y := fun x y hx hy h0 e => by
    rcases Nat.le_total x y with hxy | hxy
    · have := hrun (y - x) x (by omega) h0 (by rw [show x + (y - x) = y by omega]; exact e)
      rw [show x + (y - x) = y by omega] at this
      exact this.symm
    · have := hrun (x - y) y (by omega) (by rw [← e]; exact h0) (by rw [show y + (x - y) = x by omega]; exact e.symm)
      rw [show y + (x - y) = x by omega] at this
      exact this
  intro i j hi hj h0 hm
  rw [h.len] at hi
  have hcm : (ts.getD i []).getD j 0 ∈ ts.getD i [] := getD_mem hj
  obtain ⟨⟨c0, c1⟩, c2⟩ := (hmem i hi _).1 hcm
  generalize hcc : (ts.getD i []).getD j 0 = c at hcm c0 c1 c2 h0 hm
  rcases hm with hm | ⟨c', hc', e⟩
  · simp at hm
  · rw [hgrp, hgrp] at e
    rw [hgrp] at h0
    have hs : (ts.getD i []).Pairwise (· < ·) := by rw [t1 i hi]; exact (wholeL_sorted _).sublist List.filter_sublist
    have hc2 : (0 ≤ c' ∧ c' < cs.length) ∧ (tr c'.toNat < i ∨ c' ∈ (ts.getD i []).take j) := by
      rcases List.mem_append.1 hc' with hx | hx
      · obtain ⟨t, ht, hx⟩ := List.mem_flatten.1 hx
        obtain ⟨m, hm1, hm2⟩ := List.mem_iff_getElem.1 ht
        have hm3 : m < i ∧ m < ts.length := by rw [List.length_take] at hm1; omega
        have e3 : ts.getD m [] = t := by rw [← hm2]; simp [List.getD, hm3.2]
        rw [← e3] at hx
        obtain ⟨hb, ht2⟩ := (hmem m (by rw [← h.len]; exact hm3.2) _).1 hx
        exact ⟨hb, .inl (by omega)⟩
      · exact ⟨((hmem i hi _).1 (List.mem_of_mem_take hx)).1, .inr hx⟩
    obtain ⟨⟨d0, d1⟩, hd⟩ := hc2
    have htr := hrun2 c.toNat c'.toNat (by omega) (by omega) (by omega) e.symm
    rcases hd with hd | hd
    · omega
    · obtain ⟨m, hm1, hm2⟩ := List.mem_iff_getElem.1 hd
      have hm3 : m < j ∧ m < (ts.getD i []).length := by rw [List.length_take] at hm1; omega
      have hlt : c' < c := by
        have h1 := List.pairwise_iff_getElem.1 hs m j hm3.2 hj hm3.1
        have e1 : c' = (ts.getD i [])[m] := by rw [← hm2]; simp
        have e2 : c = (ts.getD i [])[j] := by rw [← hcc, List.getD, List.getElem?_eq_getElem hj]; rfl
        rw [e1, e2]; exact h1
      have e4 : gAt cs (c.toNat - 1) = gAt cs c'.toNat := hc.run c'.toNat c.toNat (by omega) (by omega) e (by omega) (c.toNat - 1) (by omega) (by omega)
      have e5 : tr (c.toNat - 1) = i := by
        have := hrun2 (c.toNat - 1) c.toNat (by omega) (by omega) (by omega) (by omega)
        omega
      have hin : c - 1 ∈ ts.getD i [] := (hmem i hi _).2 ⟨by omega, by rw [show (c - 1).toNat = c.toNat - 1 by omega]; exact e5⟩
      have hp := sorted_prev hs hj (by rw [hcc]; exact hin)
      rw [hcc] at hp
      unfold coupled
      have e6 : ((j : Int) - 1).toNat = j - 1 := by omega
      rw [show (↑j : Int).toNat = j by omega, e6, hp.2, hcc]
      have e7 : inB ↑j 1 (↑(ts.getD i []).length - 1) = true := by simp only [inB, Bool.and_eq_true, decide_eq_true_eq]; omega
      rw [e7]
      have e8 : (carAt cs c).grp = (carAt cs (c - 1)).grp := by
        show gAt cs c.toNat = gAt cs (c - 1).toNat
        rw [show (c - 1).toNat = c.toNat - 1 by omega]; omega
      rw [decide_eq_true (show 0 < (carAt cs c).grp from h0), decide_eq_true e8]; rfl

structure Roomy (cs : List Car) (ts : List (List Int)) (k : Nat) (rm : List Int) : Prop where
  len : rm.length = k
  ok : ∀ n ∈ rm, 0 ≤ n ∧ n ≤ 20
  fits : ∀ i, i < k → lenOf cs (ts.getD i []) ≤ rm.getD i 0
theorem Roomy.nil (cs : List Car) (ts : List (List Int)) : Roomy cs ts 0 [] := ⟨rfl, fun n h => by simp at h, fun i h => by omega⟩
theorem Roomy.snoc {cs : List Car} {ts : List (List Int)} {k : Nat} {rm : List Int} (h : Roomy cs ts k rm) {n : Int} (hn : 0 ≤ n ∧ n ≤ 20) (hf : lenOf cs (ts.getD k []) ≤ n) : Roomy cs ts (k + 1) (rm ++ [n]) := by
  have hl := h.len
  refine ⟨by simp [hl], fun x hx => ?_, fun i hi => ?_⟩
  · rcases List.mem_append.1 hx with hx | hx
    · exact h.ok x hx
    · simp at hx; subst hx; exact hn
  · by_cases e : i < k
    · have := h.fits i e
      have e2 : (rm ++ [n]).getD i 0 = rm.getD i 0 := by simp only [List.getD]; rw [List.getElem?_append_left (by omega)]
      rw [e2]; exact this
    · have : i = k := by omega
      subst this
      have e2 : (rm ++ [n]).getD i 0 = n := by simp only [List.getD]; rw [List.getElem?_append_right (by omega), hl]; simp
      rw [e2]; exact hf
theorem carAt_len {cs : List Car} {g l : Int} (h : CarsInv cs g l) (c : Int) : 0 ≤ (carAt cs c).len ∧ (carAt cs c).len ≤ 3 := by
  unfold carAt
  by_cases hc : c.toNat < cs.length
  · have h1 := h.ok _ (getD_mem (d := noCar) hc)
    have := carOk_range h1.1
    omega
  · simp [List.getD, List.getElem?_eq_none (Nat.le_of_not_lt hc), noCar]
theorem lenOf_3 {cs : List Car} {g l : Int} (h : CarsInv cs g l) (t : List Int) : 0 ≤ lenOf cs t ∧ lenOf cs t ≤ 3 * t.length := by
  induction t with
  | nil => simp [lenOf]
  | cons c t ih =>
    have := carAt_len h c
    simp only [lenOf, List.map_cons, List.sum_cons, List.length_cons] at ih ⊢
    omega
theorem Placed.tracks {cs : List Car} {T k a : Nat} {ts : List (List Int)} (h : Placed cs T k a ts) : ts.flatten.length = k := by rw [h.perm.length_eq, wholeL_length]
theorem Placed.tlen {cs : List Car} {T k a : Nat} {ts : List (List Int)} (h : Placed cs T k a ts) (i : Nat) : (ts.getD i []).length ≤ k := by
  by_cases hi : i < ts.length
  · have := mem_le_flatten (getD_mem (d := []) hi)
    rw [h.tracks] at this; exact this
  · simp [List.getD, List.getElem?_eq_none (Nat.le_of_not_lt hi)]
theorem drawn_valid {cs : List Car} {T a : Nat} {ts : List (List Int)} {rm : List Int} {g l : Int} (hc : CarsInv cs g l) (hp : Placed cs T cs.length a ts) (hr : Roomy cs ts T rm) (h5 : cs.length ≤ 5) (h3 : T ≤ 3) : Valid ⟨cs, rm, ts⟩ := by
  have hT := hp.a0
  refine Fine.valid ⟨h5, fun c hx => (hc.ok c hx).1, by show 0 < rm.length; rw [hr.len]; omega, by show rm.length ≤ 3; rw [hr.len]; exact h3, fun n hn => ?_, by show ts.length = rm.length; rw [hr.len, hp.len], fun t ht c hc2 => ?_, ?_, fun k hk => hr.fits k (by rw [← hp.len]; exact hk), by show cs.length ≤ ts.flatten.length; rw [hp.tracks]; exact Nat.le_refl _, groups_iff.2 (hp.groups hc)⟩
  · have := hr.ok n hn; simp [inB]; omega
  · have : c ∈ wholeL cs.length := hp.perm.mem_iff.1 (List.mem_flatten.2 ⟨t, ht, hc2⟩)
    exact mem_wholeL.1 this
  · show ts.flatten.Nodup
    exact (hp.perm.nodup_iff).2 ((wholeL_sorted _).imp fun h e => by omega)
end Go.Sh
namespace Go.Sh
open Go Go.Sl
theorem carErr_mk {a b c d : Int} {p h : Bool} (h1 : 1 ≤ a ∧ a ≤ 3) (h2 : 1 ≤ b ∧ b ≤ 60) (h3 : 0 ≤ c ∧ c ≤ b) (h4 : 0 ≤ d ∧ d ≤ 3) : carErr ⟨a, b, c, d, p, h⟩ = 0 ∧ a ≤ 3 := by
  refine ⟨?_, h1.2⟩
  unfold carErr
  rw [if_pos]
  simp only [inB, Bool.and_eq_true, decide_eq_true_eq]
  omega
theorem Placed.tl {cs : List Car} {T k a : Nat} {ts : List (List Int)} (h : Placed cs T k a ts) : ∀ t ∈ ts, t.length ≤ k := fun t ht => by
  have := mem_le_flatten ht
  rw [h.tracks] at this; exact this
theorem Placed.okAll {cs : List Car} {T a : Nat} {ts : List (List Int)} (h : Placed cs T cs.length a ts) : OkAll cs ts := fun t ht c hc =>
  mem_wholeL.1 (h.perm.mem_iff.1 (List.mem_flatten.2 ⟨t, ht, hc⟩))
end Go.Sh

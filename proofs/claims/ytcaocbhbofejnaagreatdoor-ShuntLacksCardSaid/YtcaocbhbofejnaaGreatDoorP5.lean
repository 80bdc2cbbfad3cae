/- A part of the proof of the laws of this seat. -/
import Derived.Test.YtcaocbhbofejnaaGreatDoorP4
import Derived.Test.YtcaocbhbofejnaaGreatDoorP1
import Derived.Test.YtcaocbhbofejnaaGreatDoorP2
set_option linter.unusedVariables false
set_option linter.unusedSimpArgs false
namespace Go.Proofs.YtcaocbhbofejnaaGreatDoor
open Go Go.Sl Go.Sh
set_option maxRecDepth 100000
noncomputable def c_YardOf (p : List Nat) : Code := sub (AV Tryz.f21) p
set_option maxHeartbeats 1000000 in
theorem YardOf_ct (I : Imm) (p : Nat) (p_s : Int) (c : Nat) (s : Nat) (hc : c ≤ 1000) (hs : s ≤ 1000) : Ct Tryz.prog 21 #[vP p 0, vI ↑c, vI ↑s] I ([(bX p #[.int .u64 (p_s)] 95)]) (fun v I' M' => ∃ p_t : Int, ∃ Y : Yard, ∃ u_0 : Value, ∃ Ms_0 : Seg, ∃ u_1 : Value, ∃ Ms_1 : Seg, ∃ u_2 : Value, ∃ ws_2 : List Value, ∃ Ms_2 : Seg, v = .agg #[u_0, u_1, u_2] ∧ M' = [(bX p #[.int .u64 (p_t)] 95)] ++ (Ms_0 ++ (Ms_1 ++ (Ms_2))) ∧ (Valid Y) ∧ (Y.cars.length ≤ c) ∧ Own 56 6 DC u_0 ((Y).cars) Ms_0 ∧ Own 3 1 AP u_1 ((Y).room) Ms_1 ∧ Own 23 1 AO u_2 ws_2 Ms_2 ∧ RowsV I' ws_2 ((Y).tracks)) := by
 refine fr (args := [_, _, _]) (N := 179) Tryz.func21 (fun F => ?_);show Run _ _ (c_YardOf []) _ _ [(0, vP p 0), (1, vI (↑c)), (2, vI (↑s))] _ _;refine rnm (rqr ?_);refine sS (sal 6 26 #[vN, vN, vN] (fun b1 => (sn (sS (sal 7 26 #[vN, vN, vN] (fun b3 => (sn (sp 3 [(20, vI ((if (5 : Int) < (↑c : Int) then 5 else ↑c))), (18, vP p 0)] ?_))))))));have v9 := ND I (p) (p_s) ((if (5 : Int) < (↑c : Int) then 5 else ↑c)) (by omega);refine sS (sc (some 21) (F := ((bX b3 #[vN, vN, vN] 26) :: (bX b1 #[vN, vN, vN] 26) :: F)) (v9 :) ((PC _ (PS _ _ _)).trans (PS _ _ _)) (fun X1 I5 W3 K4 V7 => ?_));obtain ⟨B9, e0, P3, P1, M3⟩ := V7;rw [P3, P1]; clear P3 P1;refine nm ?_;refine sp 1 [(8, vI (↑e0))] ?_;have hn5 : e0 ≤ 5 ∧ e0 ≤ c := by
  have hq := M3
  split at hq <;> omega
 refine sn (sp 2 [(10, vI (0)), (9, vI (0))] (se (rq (rqr (sp 1 [(11, vI (0))] (se (rb 0 ?_)))))));refine rl (fun mz a w => ∃ J0 : Imm, ∃ k : Nat, ∃ cs : List Car, ∃ g : Int, ∃ l : Int, ∃ bs : Int, ∃ d7 : Value, ∃ a4 : Seg, (I5.le J0) ∧ (k ≤ e0) ∧ (cs.length = k) ∧ (CarsInv cs g l) ∧ (Own 56 6 DC d7 (cs) a4) ∧ Slots 179 [(9, vI g), (10, vI l), (11, vI ↑k), (0, vP p 0), (2, vI (↑s)), (6, vP b1 0), (7, vP b3 0), (8, vI (↑e0))] a ∧ a.defers = [] ∧ St J0 ((bX p #[.int .u64 (bs)] 95) :: (bX b3 #[d7, vN, vN] 26) :: (bX b1 #[vN, vN, vN] 26) :: (a4 ++ F)) w ∧ mz = e0 - k) ?_ ?_
 ·intro a w hS hD hW;exact ⟨_, I5, 0, [], 0, 0, B9, (vN), [], IR _, Nat.zero_le _, rfl, CarsInv.nil, (Own.nil _ _ _), hS.sub (.cons 9 rfl (.cons 10 rfl (.cons 11 rfl (.cons 0 rfl (.cons 2 rfl (.cons 6 rfl (.cons 7 rfl (.cons 8 rfl (.nil _))))))))), hD, hW, rfl⟩
 rintro mz a w ⟨J0, k, cs, g, l, bs, d7, a4, hJ0, hk, Z6, d9, a9, hS, hD, hW, rfl⟩
 refine AX hS hD hW ?_;clear hS hD hW a w;obtain ⟨a1, a3, f5, u0⟩ := a9.shape; subst f5;have Z7 := d9.g0; have Z8 := d9.l0;refine rq (rqr (sp 3 [(24, .bool (cmp .lss (↑k) (↑e0)))] (se (rc 24 rfl (fun h1 => ?_) (fun h1 => ?_)))))
 ·
  have J6 := h1;have h1 := BV h1;refine AL (NX (rq (rb 1 (rqr (sp 2 [(28, vP p 0), (27, vP p 0)] ?_)))));have x0 := From_ct J0 (p) (bs) (1) (3) (by omega) (by omega);refine sS (sc (some 29) (F := ((bX b3 #[vS a1 cs.length a3, vN, vN] 26) :: (bX b1 #[vN, vN, vN] 26) :: (a4 ++ F))) (x0 :) (.refl _) (fun X2 Z2 W4 d0 K6 => ?_));obtain ⟨m6, G0, z5, x7, V9⟩ := K6;rw [z5, x7]; clear z5 x7;refine nm ?_;refine sS (sbs 30 3 3 #[vI (1), vI (1), vI ((G0))] (fun G5 => (pm (M' := ((bX p #[.int .u64 (m6)] 95) :: (bX b3 #[vS a1 cs.length a3, vN, vN] 26) :: (bX b1 #[vN, vN, vN] 26) :: ([(bX G5 #[vI (1), vI (1), vI ((G0))] 3)] ++ (a4 ++ F)))) ((PS _ _ _).trans (PC _ ((PS _ _ _).trans (PC _ (PS _ _ _))))) ?_)));have K5 : Own 3 1 AP (vS (some ⟨G5, 0, none⟩) 3 3) ([(1 : Int), (1 : Int), ((G0) : Int)] : List Int) [(bX G5 #[vI (1), vI (1), vI ((G0))] 3)] := Own.lit rfl rfl;refine sfz (A := ((bX p #[.int .u64 (m6)] 95) :: (bX b3 #[vS a1 cs.length a3, vN, vN] 26) :: (bX b1 #[vN, vN, vN] 26) :: (a4 ++ F))) 0 K5 (PU (PU (PM.symm))) (fun T8 d1 i5 => ?_);obtain ⟨G6, G8, G7, J4, r9, G9, J3, J5⟩ := id i5;cases r9;have x1 := One_ct T8 (p) (m6) _ _ i5 (by simp);refine sS (sc (some 31) (F := ((bX b3 #[vS a1 cs.length a3, vN, vN] 26) :: (bX b1 #[vN, vN, vN] 26) :: (a4 ++ F))) (x1 :) (.refl _) (fun X3 T9 W5 d2 K7 => ?_));obtain ⟨C0, b0, z6, x8, M4⟩ := K7;rw [z6, x8]; clear z6 x8;refine nm ?_;have hl3 : 1 ≤ (b0) ∧ (b0) ≤ 3 := by
   have hq := M4;simp only [List.mem_cons, List.not_mem_nil, or_false] at hq;omega
  refine sp 1 [(32, vP p 0)] ?_;have x2 := From_ct T9 (p) (C0) (5) (60) (by omega) (by omega);refine sS (sc (some 33) (F := ((bX b3 #[vS a1 cs.length a3, vN, vN] 26) :: (bX b1 #[vN, vN, vN] 26) :: (a4 ++ F))) (x2 :) (.refl _) (fun X4 U0 W6 d3 K8 => ?_));obtain ⟨C1, b2, z7, x9, W0⟩ := K8;rw [z7, x9]; clear z7 x9;refine nm ?_;refine sp 1 [(34, vP p 0)] ?_;have x3 := LY U0 (p) (C1) (2) (3) (by omega);refine sS (sc (some 35) (F := ((bX b3 #[vS a1 cs.length a3, vN, vN] 26) :: (bX b1 #[vN, vN, vN] 26) :: (a4 ++ F))) (x3 :) (.refl _) (fun X5 U1 W7 d4 K9 => ?_));obtain ⟨C2, b4, z8, y0⟩ := K9;rw [z8, y0]; clear z8 y0;refine nm ?_;refine sp 1 [(36, vP p 0)] ?_;have x4 := LY U1 (p) (C2) (2) (3) (by omega);refine sS (sc (some 37) (F := ((bX b3 #[vS a1 cs.length a3, vN, vN] 26) :: (bX b1 #[vN, vN, vN] 26) :: (a4 ++ F))) (x4 :) (.refl _) (fun X6 U2 W8 d5 M0 => ?_));obtain ⟨C3, b5, z9, y1⟩ := M0;rw [z9, y1]; clear z9 y1;refine nm ?_;refine sp 1 [(38, .agg #[vI ((b0)), vI ((b2)), vI (0), vI (0), .bool (b4), .bool (b5)])] (sS (sal 12 56 #[vI (0), vI (0), vI (0), vI (0), .bool (false), .bool (false)] (fun c6 => (sS (ss 0 0 c6 [vI ((b0)), vI ((b2)), vI (0), vI (0), .bool (b4), .bool (b5)] [vI ((b0)), vI ((b2)), vI (0), vI (0), .bool (b4), .bool (b5)] (_ :: _ :: _ :: _ :: _) (cs := [_, _, _, _, _, _]) rfl rfl (sn (sp 2 [(40, vP c6 1), (39, vP p 0)] (sd (dlb 41 0 1 c6 (vI ((b2)))) ?_))))))));have x5 := ND U2 (p) (C3) ((b2)) (by omega);refine sS (sc (some 42) (F := ((bX c6 #[vI ((b0)), vI ((b2)), vI (0), vI (0), .bool (b4), .bool (b5)] 56) :: (bX b3 #[vS a1 cs.length a3, vN, vN] 26) :: (bX b1 #[vN, vN, vN] 26) :: (a4 ++ F))) (x5 :) (PS _ _ _) (fun X7 u6 W9 d6 M1 => ?_));obtain ⟨c8, b6, A0, y2, W1⟩ := M1;rw [A0, y2]; clear A0 y2;refine nm ?_;refine sp 1 [(43, vP c6 2)] (sS (ss 1 2 c6 [vI (↑b6)] [vI ((b0)), vI ((b2)), vI (↑b6), vI (0), .bool (b4), .bool (b5)] (_ :: _ :: _ :: _ :: _) (cs := [_, _, _, _, _, _]) rfl rfl (se (rq (rqr (sp 3 [(46, .bool (cmp .eql (l) (0)))] ?_))))));refine CC 46 rfl (fun h2 => ?_) (fun h2 => ?_)
  ·
   have i6 := h2;have i6 := CY i6;refine sp 4 [(50, .bool (cmp .lss (g) (3)))] ?_;refine CC 50 rfl (fun h3 => ?_) (fun h3 => ?_)
   ·
    have i7 := h3;have i7 := BV i7;refine sp 1 [(51, vP p 0)] ?_;have x6 := LY u6 (p) (c8) (1) (4) (by omega);refine sS (sc (some 52) (F := ((bX c6 #[vI ((b0)), vI ((b2)), vI (↑b6), vI (0), .bool (b4), .bool (b5)] 56) :: (bX b3 #[vS a1 cs.length a3, vN, vN] 26) :: (bX b1 #[vN, vN, vN] 26) :: (a4 ++ F))) (x6 :) (.refl _) (fun X8 G4 X0 i1 M2 => ?_));obtain ⟨f1, W2, A1, y3⟩ := M2;rw [A1, y3]; clear A1 y3;refine nm ?_;refine sp 1 [(53, .bool (W2))] (se (rc 53 rfl (fun h4 => ?_) (fun h4 => ?_)))
    ·
     have J7 := h4;refine rr (sp 1 [(54, vI (g))] (sd (da 55 (g) (1)) (sp 1 [(56, vP p 0)] ?_)));have s3 := From_ct G4 (p) (f1) (1) (2) (by omega) (by omega);refine sS (sc (some 57) (F := ((bX c6 #[vI ((b0)), vI ((b2)), vI (↑b6), vI (0), .bool (b4), .bool (b5)] 56) :: (bX b3 #[vS a1 cs.length a3, vN, vN] 26) :: (bX b1 #[vN, vN, vN] 26) :: (a4 ++ F))) (s3 :) (.refl _) (fun T1 O9 R5 p0 y8 => ?_));obtain ⟨e5, f2, r0, p1, R2⟩ := y8;rw [r0, p1]; clear r0 p1;refine nm ?_;refine sp 2 [(10, vI ((f2))), (9, vI (g + 1))] (se (rq (rqr (sp 2 [(59, .bool (cmp .gtr ((f2)) (0)))] (se (rc 59 rfl (fun h5 => ?_) (fun h5 => ?_)))))))
     ·
      have J8 := h5;have h5 := GF h5;refine rr (sp 2 [(61, vI ((f2))), (60, vI (g + 1))] (sd (dsb 62 ((f2)) (1)) (sp 1 [(63, vP c6 3)] (sS (ss 1 3 c6 [vI (g + 1)] [vI ((b0)), vI ((b2)), vI (↑b6), vI (g + 1), .bool (b4), .bool (b5)] (_ :: _ :: _ :: _ :: _) (cs := [_, _, _, _, _, _]) rfl rfl (sp 1 [(10, vI (((f2)) - 1))] (se (rr (sp 1 [(64, vP b3 0)] (sd (dlb 65 2 0 b3 (vS a1 cs.length a3)) (sd (dnb 66 1 0 c6 [vI ((b0)), vI ((b2)), vI (↑b6), vI (g + 1), .bool (b4), .bool (b5)]) (sS (sbs 67 56 1 #[vI ((b0)), vI ((b2)), vI (↑b6), vI (g + 1), .bool (b4), .bool (b5)] (fun U3 => (sS (AN (d := 68) (x := (.tmp 65)) (y := (.tmp 67)) (T := 22) (T' := 22) (E := 56) (E' := 56) (sz := 6) (bs := 40) (z := .agg #[vI (0), vI (0), vI (0), vI (0), .bool (false), .bool (false)]) (cell := DC) (xs := cs) (ys := [(⟨(b0), (b2), ↑b6, g + 1, b4, b5⟩ : Car)]) (Ms := a4) (ty := 22) (gd := none) (by kernel_rfl) rfl (by kernel_rfl) (by kernel_rfl) (by kernel_rfl) (by kernel_rfl) (by kernel_rfl) (by decide) (by kernel_rfl) rfl rfl (a9) (PU (PU (PU (PU (PM.symm))))) (DU _) (CV 0 rfl rfl) (by first | omega | (simp only [LC, LN, LA, LK, LD]; omega)) (fun Y0 n8 p7 => (AW (M' := ((bX p #[.int .u64 (e5)] 95) :: (bX c6 #[vI ((b0)), vI ((b2)), vI (↑b6), vI (g + 1), .bool (b4), .bool (b5)] 56) :: (bX b3 #[vS a1 cs.length a3, vN, vN] 26) :: (bX b1 #[vN, vN, vN] 26) :: (n8 ++ F))) (fun w h => (h.perm (PW (PW (PW (PW PM))))).sub (TC _ (TR _))) ?_))))))))))))))))));obtain ⟨j0, k2, A7, Q0⟩ := p7.shape;subst A7;refine sp 1 [(69, vP b3 0)] (sS (ss 2 0 b3 [vS j0 (cs ++ ([(⟨(b0), (b2), ↑b6, g + 1, b4, b5⟩ : Car)])).length k2] [vS j0 (cs ++ ([(⟨(b0), (b2), ↑b6, g + 1, b4, b5⟩ : Car)])).length k2, vN, vN] (_ :: _ :: _ :: _ :: _) (cs := [_, _, _]) rfl rfl (ee (NB (NX (rr (sp 1 [(25, vI (↑k))] (sd (da 26 (↑k) (1)) (sp 1 [(11, vI (↑k + 1))] (ee ?_))))))))));refine AG (e0 - (k+1)) (by omega) ?_;intro a w hS hD hW;exact ⟨O9, k+1, cs ++ [(⟨(b0), (b2), ↑b6, g + 1, b4, b5⟩ : Car)], g + 1, ((f2)) - 1, e5, vS j0 (cs ++ ([(⟨(b0), (b2), ↑b6, g + 1, b4, b5⟩ : Car)])).length k2, n8, (IT (IT (IT (IT (IT (IT (IT (IT (IT hJ0 d0) d1) d2) d3) d4) d5) d6) i1) p0), by omega, by simp only [LA, LC, LN]; omega, (by have hh := CarsInv.snoc (d9.group (by omega) (by omega)) (c := (⟨(b0), (b2), ↑b6, g + 1, b4, b5⟩ : Car)) (GV (by omega) (by omega) (by omega) (by have t2 := d9.g0; omega)) ⟨fun _ => rfl, fun hh => absurd h5 hh⟩; rw [if_pos h5] at hh; exact hh), p7, hS.sub (.consE 9 rfl rfl (.consE 10 rfl rfl (.consE 11 rfl rfl (.cons 0 rfl (.cons 2 rfl (.cons 6 rfl (.cons 7 rfl (.cons 8 rfl (.nil _))))))))), hD, (hW.perm (PS _ _ _)).sub (TC _ (TR _)), rfl⟩
     have J8 := h5;have h5 := GE h5;refine AL (NX (rr (sp 1 [(64, vP b3 0)] (sd (dlb 65 2 0 b3 (vS a1 cs.length a3)) (sd (dnb 66 1 0 c6 [vI ((b0)), vI ((b2)), vI (↑b6), vI (0), .bool (b4), .bool (b5)]) (sS (sbs 67 56 1 #[vI ((b0)), vI ((b2)), vI (↑b6), vI (0), .bool (b4), .bool (b5)] (fun U4 => (sS (AN (d := 68) (x := (.tmp 65)) (y := (.tmp 67)) (T := 22) (T' := 22) (E := 56) (E' := 56) (sz := 6) (bs := 40) (z := .agg #[vI (0), vI (0), vI (0), vI (0), .bool (false), .bool (false)]) (cell := DC) (xs := cs) (ys := [(⟨(b0), (b2), ↑b6, 0, b4, b5⟩ : Car)]) (Ms := a4) (ty := 22) (gd := none) (by kernel_rfl) rfl (by kernel_rfl) (by kernel_rfl) (by kernel_rfl) (by kernel_rfl) (by kernel_rfl) (by decide) (by kernel_rfl) rfl rfl (a9) (PU (PU (PU (PU (PM.symm))))) (DU _) (CV 0 rfl rfl) (by first | omega | (simp only [LC, LN, LA, LK, LD]; omega)) (fun Y1 n9 p8 => (AW (M' := ((bX p #[.int .u64 (e5)] 95) :: (bX c6 #[vI ((b0)), vI ((b2)), vI (↑b6), vI (0), .bool (b4), .bool (b5)] 56) :: (bX b3 #[vS a1 cs.length a3, vN, vN] 26) :: (bX b1 #[vN, vN, vN] 26) :: (n9 ++ F))) (fun w h => (h.perm (PW (PW (PW (PW PM))))).sub (TC _ (TR _))) ?_))))))))))));obtain ⟨j1, k3, A8, Q1⟩ := p8.shape;subst A8;refine sp 1 [(69, vP b3 0)] (sS (ss 2 0 b3 [vS j1 (cs ++ ([(⟨(b0), (b2), ↑b6, 0, b4, b5⟩ : Car)])).length k3] [vS j1 (cs ++ ([(⟨(b0), (b2), ↑b6, 0, b4, b5⟩ : Car)])).length k3, vN, vN] (_ :: _ :: _ :: _ :: _) (cs := [_, _, _]) rfl rfl (ee (NB (NX (rr (sp 1 [(25, vI (↑k))] (sd (da 26 (↑k) (1)) (sp 1 [(11, vI (↑k + 1))] (ee ?_))))))))));refine AG (e0 - (k+1)) (by omega) ?_;intro a w hS hD hW;exact ⟨O9, k+1, cs ++ [(⟨(b0), (b2), ↑b6, 0, b4, b5⟩ : Car)], g + 1, (f2), e5, vS j1 (cs ++ ([(⟨(b0), (b2), ↑b6, 0, b4, b5⟩ : Car)])).length k3, n9, (IT (IT (IT (IT (IT (IT (IT (IT (IT hJ0 d0) d1) d2) d3) d4) d5) d6) i1) p0), by omega, by simp only [LA, LC, LN]; omega, (by have hh := CarsInv.snoc (d9.group (by omega) (by omega)) (c := (⟨(b0), (b2), ↑b6, 0, b4, b5⟩ : Car)) (GV (by omega) (by omega) (by omega) (by have t2 := d9.g0; omega)) ⟨fun hh => absurd hh (by omega), fun _ => rfl⟩; rw [if_neg (show ¬ (0 < (f2)) by omega)] at hh; exact hh), p8, hS.sub (.consE 9 rfl rfl (.consE 10 rfl rfl (.consE 11 rfl rfl (.cons 0 rfl (.cons 2 rfl (.cons 6 rfl (.cons 7 rfl (.cons 8 rfl (.nil _))))))))), hD, (hW.perm (PS _ _ _)).sub (TC _ (TR _)), rfl⟩
    have J7 := h4;refine AL (NX (rq (rqr (sp 2 [(59, .bool (cmp .gtr (l) (0)))] (se (rc 59 rfl (fun h6 => ?_) (fun h6 => ?_)))))))
    ·
     have J9 := h6;have h6 := GF h6;refine rr (sp 2 [(61, vI (l)), (60, vI (g))] (sd (dsb 62 (l) (1)) (sp 1 [(63, vP c6 3)] (sS (ss 1 3 c6 [vI (g)] [vI ((b0)), vI ((b2)), vI (↑b6), vI (g), .bool (b4), .bool (b5)] (_ :: _ :: _ :: _ :: _) (cs := [_, _, _, _, _, _]) rfl rfl (sp 1 [(10, vI (l - 1))] (se (rr (sp 1 [(64, vP b3 0)] (sd (dlb 65 2 0 b3 (vS a1 cs.length a3)) (sd (dnb 66 1 0 c6 [vI ((b0)), vI ((b2)), vI (↑b6), vI (g), .bool (b4), .bool (b5)]) (sS (sbs 67 56 1 #[vI ((b0)), vI ((b2)), vI (↑b6), vI (g), .bool (b4), .bool (b5)] (fun U5 => (sS (AN (d := 68) (x := (.tmp 65)) (y := (.tmp 67)) (T := 22) (T' := 22) (E := 56) (E' := 56) (sz := 6) (bs := 40) (z := .agg #[vI (0), vI (0), vI (0), vI (0), .bool (false), .bool (false)]) (cell := DC) (xs := cs) (ys := [(⟨(b0), (b2), ↑b6, g, b4, b5⟩ : Car)]) (Ms := a4) (ty := 22) (gd := none) (by kernel_rfl) rfl (by kernel_rfl) (by kernel_rfl) (by kernel_rfl) (by kernel_rfl) (by kernel_rfl) (by decide) (by kernel_rfl) rfl rfl (a9) (PU (PU (PU (PU (PM.symm))))) (DU _) (CV 0 rfl rfl) (by first | omega | (simp only [LC, LN, LA, LK, LD]; omega)) (fun Y2 o0 p9 => (AW (M' := ((bX p #[.int .u64 (f1)] 95) :: (bX c6 #[vI ((b0)), vI ((b2)), vI (↑b6), vI (g), .bool (b4), .bool (b5)] 56) :: (bX b3 #[vS a1 cs.length a3, vN, vN] 26) :: (bX b1 #[vN, vN, vN] 26) :: (o0 ++ F))) (fun w h => (h.perm (PW (PW (PW (PW PM))))).sub (TC _ (TR _))) ?_))))))))))))))))));obtain ⟨j2, k4, A9, Q2⟩ := p9.shape;subst A9;refine sp 1 [(69, vP b3 0)] (sS (ss 2 0 b3 [vS j2 (cs ++ ([(⟨(b0), (b2), ↑b6, g, b4, b5⟩ : Car)])).length k4] [vS j2 (cs ++ ([(⟨(b0), (b2), ↑b6, g, b4, b5⟩ : Car)])).length k4, vN, vN] (_ :: _ :: _ :: _ :: _) (cs := [_, _, _]) rfl rfl (ee (NB (NX (rr (sp 1 [(25, vI (↑k))] (sd (da 26 (↑k) (1)) (sp 1 [(11, vI (↑k + 1))] (ee ?_))))))))));refine AG (e0 - (k+1)) (by omega) ?_;intro a w hS hD hW;exact ⟨G4, k+1, cs ++ [(⟨(b0), (b2), ↑b6, g, b4, b5⟩ : Car)], g, l - 1, f1, vS j2 (cs ++ ([(⟨(b0), (b2), ↑b6, g, b4, b5⟩ : Car)])).length k4, o0, (IT (IT (IT (IT (IT (IT (IT (IT hJ0 d0) d1) d2) d3) d4) d5) d6) i1), by omega, by simp only [LA, LC, LN]; omega, (by have hh := CarsInv.snoc (d9) (c := (⟨(b0), (b2), ↑b6, g, b4, b5⟩ : Car)) (GV (by omega) (by omega) (by omega) (by have t2 := d9.g0; omega)) ⟨fun _ => rfl, fun hh => absurd h6 hh⟩; rw [if_pos h6] at hh; exact hh), p9, hS.sub (.consE 9 rfl rfl (.consE 10 rfl rfl (.consE 11 rfl rfl (.cons 0 rfl (.cons 2 rfl (.cons 6 rfl (.cons 7 rfl (.cons 8 rfl (.nil _))))))))), hD, (hW.perm (PS _ _ _)).sub (TC _ (TR _)), rfl⟩
    have J9 := h6;have h6 := GE h6;refine AL (NX (rr (sp 1 [(64, vP b3 0)] (sd (dlb 65 2 0 b3 (vS a1 cs.length a3)) (sd (dnb 66 1 0 c6 [vI ((b0)), vI ((b2)), vI (↑b6), vI (0), .bool (b4), .bool (b5)]) (sS (sbs 67 56 1 #[vI ((b0)), vI ((b2)), vI (↑b6), vI (0), .bool (b4), .bool (b5)] (fun U6 => (sS (AN (d := 68) (x := (.tmp 65)) (y := (.tmp 67)) (T := 22) (T' := 22) (E := 56) (E' := 56) (sz := 6) (bs := 40) (z := .agg #[vI (0), vI (0), vI (0), vI (0), .bool (false), .bool (false)]) (cell := DC) (xs := cs) (ys := [(⟨(b0), (b2), ↑b6, 0, b4, b5⟩ : Car)]) (Ms := a4) (ty := 22) (gd := none) (by kernel_rfl) rfl (by kernel_rfl) (by kernel_rfl) (by kernel_rfl) (by kernel_rfl) (by kernel_rfl) (by decide) (by kernel_rfl) rfl rfl (a9) (PU (PU (PU (PU (PM.symm))))) (DU _) (CV 0 rfl rfl) (by first | omega | (simp only [LC, LN, LA, LK, LD]; omega)) (fun Y3 o1 q0 => (AW (M' := ((bX p #[.int .u64 (f1)] 95) :: (bX c6 #[vI ((b0)), vI ((b2)), vI (↑b6), vI (0), .bool (b4), .bool (b5)] 56) :: (bX b3 #[vS a1 cs.length a3, vN, vN] 26) :: (bX b1 #[vN, vN, vN] 26) :: (o1 ++ F))) (fun w h => (h.perm (PW (PW (PW (PW PM))))).sub (TC _ (TR _))) ?_))))))))))));obtain ⟨j3, k5, B0, Q3⟩ := q0.shape;subst B0;refine sp 1 [(69, vP b3 0)] (sS (ss 2 0 b3 [vS j3 (cs ++ ([(⟨(b0), (b2), ↑b6, 0, b4, b5⟩ : Car)])).length k5] [vS j3 (cs ++ ([(⟨(b0), (b2), ↑b6, 0, b4, b5⟩ : Car)])).length k5, vN, vN] (_ :: _ :: _ :: _ :: _) (cs := [_, _, _]) rfl rfl (ee (NB (NX (rr (sp 1 [(25, vI (↑k))] (sd (da 26 (↑k) (1)) (sp 1 [(11, vI (↑k + 1))] (ee ?_))))))))));refine AG (e0 - (k+1)) (by omega) ?_;intro a w hS hD hW;exact ⟨G4, k+1, cs ++ [(⟨(b0), (b2), ↑b6, 0, b4, b5⟩ : Car)], g, l, f1, vS j3 (cs ++ ([(⟨(b0), (b2), ↑b6, 0, b4, b5⟩ : Car)])).length k5, o1, (IT (IT (IT (IT (IT (IT (IT (IT hJ0 d0) d1) d2) d3) d4) d5) d6) i1), by omega, by simp only [LA, LC, LN]; omega, (by have hh := CarsInv.snoc (d9) (c := (⟨(b0), (b2), ↑b6, 0, b4, b5⟩ : Car)) (GV (by omega) (by omega) (by omega) (by have t2 := d9.g0; omega)) ⟨fun hh => absurd hh (by omega), fun _ => rfl⟩; rw [if_neg (show ¬ (0 < l) by omega)] at hh; exact hh), q0, hS.sub (.consE 9 rfl rfl (.consE 10 rfl rfl (.consE 11 rfl rfl (.cons 0 rfl (.cons 2 rfl (.cons 6 rfl (.cons 7 rfl (.cons 8 rfl (.nil _))))))))), hD, (hW.perm (PS _ _ _)).sub (TC _ (TR _)), rfl⟩
   have i7 := h3;have i7 := BZ i7;refine sp 3 [(53, .bool (false))] (se (rcf 53 rfl (AL (NX (rq (rqr (sp 2 [(59, .bool (cmp .gtr (l) (0)))] (se (rc 59 rfl (fun h7 => ?_) (fun h7 => ?_))))))))))
   ·
    have K0 := h7;have h7 := GF h7;refine rr (sp 2 [(61, vI (l)), (60, vI (g))] (sd (dsb 62 (l) (1)) (sp 1 [(63, vP c6 3)] (sS (ss 1 3 c6 [vI (g)] [vI ((b0)), vI ((b2)), vI (↑b6), vI (g), .bool (b4), .bool (b5)] (_ :: _ :: _ :: _ :: _) (cs := [_, _, _, _, _, _]) rfl rfl (sp 1 [(10, vI (l - 1))] (se (rr (sp 1 [(64, vP b3 0)] (sd (dlb 65 2 0 b3 (vS a1 cs.length a3)) (sd (dnb 66 1 0 c6 [vI ((b0)), vI ((b2)), vI (↑b6), vI (g), .bool (b4), .bool (b5)]) (sS (sbs 67 56 1 #[vI ((b0)), vI ((b2)), vI (↑b6), vI (g), .bool (b4), .bool (b5)] (fun U7 => (sS (AN (d := 68) (x := (.tmp 65)) (y := (.tmp 67)) (T := 22) (T' := 22) (E := 56) (E' := 56) (sz := 6) (bs := 40) (z := .agg #[vI (0), vI (0), vI (0), vI (0), .bool (false), .bool (false)]) (cell := DC) (xs := cs) (ys := [(⟨(b0), (b2), ↑b6, g, b4, b5⟩ : Car)]) (Ms := a4) (ty := 22) (gd := none) (by kernel_rfl) rfl (by kernel_rfl) (by kernel_rfl) (by kernel_rfl) (by kernel_rfl) (by kernel_rfl) (by decide) (by kernel_rfl) rfl rfl (a9) (PU (PU (PU (PU (PM.symm))))) (DU _) (CV 0 rfl rfl) (by first | omega | (simp only [LC, LN, LA, LK, LD]; omega)) (fun Y4 o2 q1 => (AW (M' := ((bX p #[.int .u64 (c8)] 95) :: (bX c6 #[vI ((b0)), vI ((b2)), vI (↑b6), vI (g), .bool (b4), .bool (b5)] 56) :: (bX b3 #[vS a1 cs.length a3, vN, vN] 26) :: (bX b1 #[vN, vN, vN] 26) :: (o2 ++ F))) (fun w h => (h.perm (PW (PW (PW (PW PM))))).sub (TC _ (TR _))) ?_))))))))))))))))));obtain ⟨j4, k6, B1, Q4⟩ := q1.shape;subst B1;refine sp 1 [(69, vP b3 0)] (sS (ss 2 0 b3 [vS j4 (cs ++ ([(⟨(b0), (b2), ↑b6, g, b4, b5⟩ : Car)])).length k6] [vS j4 (cs ++ ([(⟨(b0), (b2), ↑b6, g, b4, b5⟩ : Car)])).length k6, vN, vN] (_ :: _ :: _ :: _ :: _) (cs := [_, _, _]) rfl rfl (ee (NB (NX (rr (sp 1 [(25, vI (↑k))] (sd (da 26 (↑k) (1)) (sp 1 [(11, vI (↑k + 1))] (ee ?_))))))))));refine AG (e0 - (k+1)) (by omega) ?_;intro a w hS hD hW;exact ⟨u6, k+1, cs ++ [(⟨(b0), (b2), ↑b6, g, b4, b5⟩ : Car)], g, l - 1, c8, vS j4 (cs ++ ([(⟨(b0), (b2), ↑b6, g, b4, b5⟩ : Car)])).length k6, o2, (IT (IT (IT (IT (IT (IT (IT hJ0 d0) d1) d2) d3) d4) d5) d6), by omega, by simp only [LA, LC, LN]; omega, (by have hh := CarsInv.snoc (d9) (c := (⟨(b0), (b2), ↑b6, g, b4, b5⟩ : Car)) (GV (by omega) (by omega) (by omega) (by have t2 := d9.g0; omega)) ⟨fun _ => rfl, fun hh => absurd h7 hh⟩; rw [if_pos h7] at hh; exact hh), q1, hS.sub (.consE 9 rfl rfl (.consE 10 rfl rfl (.consE 11 rfl rfl (.cons 0 rfl (.cons 2 rfl (.cons 6 rfl (.cons 7 rfl (.cons 8 rfl (.nil _))))))))), hD, (hW.perm (PS _ _ _)).sub (TC _ (TR _)), rfl⟩
   have K0 := h7;have h7 := GE h7;refine AL (NX (rr (sp 1 [(64, vP b3 0)] (sd (dlb 65 2 0 b3 (vS a1 cs.length a3)) (sd (dnb 66 1 0 c6 [vI ((b0)), vI ((b2)), vI (↑b6), vI (0), .bool (b4), .bool (b5)]) (sS (sbs 67 56 1 #[vI ((b0)), vI ((b2)), vI (↑b6), vI (0), .bool (b4), .bool (b5)] (fun U8 => (sS (AN (d := 68) (x := (.tmp 65)) (y := (.tmp 67)) (T := 22) (T' := 22) (E := 56) (E' := 56) (sz := 6) (bs := 40) (z := .agg #[vI (0), vI (0), vI (0), vI (0), .bool (false), .bool (false)]) (cell := DC) (xs := cs) (ys := [(⟨(b0), (b2), ↑b6, 0, b4, b5⟩ : Car)]) (Ms := a4) (ty := 22) (gd := none) (by kernel_rfl) rfl (by kernel_rfl) (by kernel_rfl) (by kernel_rfl) (by kernel_rfl) (by kernel_rfl) (by decide) (by kernel_rfl) rfl rfl (a9) (PU (PU (PU (PU (PM.symm))))) (DU _) (CV 0 rfl rfl) (by first | omega | (simp only [LC, LN, LA, LK, LD]; omega)) (fun Y5 o3 q2 => (AW (M' := ((bX p #[.int .u64 (c8)] 95) :: (bX c6 #[vI ((b0)), vI ((b2)), vI (↑b6), vI (0), .bool (b4), .bool (b5)] 56) :: (bX b3 #[vS a1 cs.length a3, vN, vN] 26) :: (bX b1 #[vN, vN, vN] 26) :: (o3 ++ F))) (fun w h => (h.perm (PW (PW (PW (PW PM))))).sub (TC _ (TR _))) ?_))))))))))));obtain ⟨j5, k7, B2, Q5⟩ := q2.shape;subst B2;refine sp 1 [(69, vP b3 0)] (sS (ss 2 0 b3 [vS j5 (cs ++ ([(⟨(b0), (b2), ↑b6, 0, b4, b5⟩ : Car)])).length k7] [vS j5 (cs ++ ([(⟨(b0), (b2), ↑b6, 0, b4, b5⟩ : Car)])).length k7, vN, vN] (_ :: _ :: _ :: _ :: _) (cs := [_, _, _]) rfl rfl (ee (NB (NX (rr (sp 1 [(25, vI (↑k))] (sd (da 26 (↑k) (1)) (sp 1 [(11, vI (↑k + 1))] (ee ?_))))))))));refine AG (e0 - (k+1)) (by omega) ?_;intro a w hS hD hW;exact ⟨u6, k+1, cs ++ [(⟨(b0), (b2), ↑b6, 0, b4, b5⟩ : Car)], g, l, c8, vS j5 (cs ++ ([(⟨(b0), (b2), ↑b6, 0, b4, b5⟩ : Car)])).length k7, o3, (IT (IT (IT (IT (IT (IT (IT hJ0 d0) d1) d2) d3) d4) d5) d6), by omega, by simp only [LA, LC, LN]; omega, (by have hh := CarsInv.snoc (d9) (c := (⟨(b0), (b2), ↑b6, 0, b4, b5⟩ : Car)) (GV (by omega) (by omega) (by omega) (by have t2 := d9.g0; omega)) ⟨fun hh => absurd hh (by omega), fun _ => rfl⟩; rw [if_neg (show ¬ (0 < l) by omega)] at hh; exact hh), q2, hS.sub (.consE 9 rfl rfl (.consE 10 rfl rfl (.consE 11 rfl rfl (.cons 0 rfl (.cons 2 rfl (.cons 6 rfl (.cons 7 rfl (.cons 8 rfl (.nil _))))))))), hD, (hW.perm (PS _ _ _)).sub (TC _ (TR _)), rfl⟩
  have i6 := h2;have i6 := CX i6;refine sp 7 [(53, .bool (false))] (se (rcf 53 rfl (AL (NX (rq (rqr (sp 2 [(59, .bool (cmp .gtr (l) (0)))] (se (rc 59 rfl (fun h8 => ?_) (fun h8 => ?_))))))))))
  ·
   have K1 := h8;have h8 := GF h8;refine rr (sp 2 [(61, vI (l)), (60, vI (g))] (sd (dsb 62 (l) (1)) (sp 1 [(63, vP c6 3)] (sS (ss 1 3 c6 [vI (g)] [vI ((b0)), vI ((b2)), vI (↑b6), vI (g), .bool (b4), .bool (b5)] (_ :: _ :: _ :: _ :: _) (cs := [_, _, _, _, _, _]) rfl rfl (sp 1 [(10, vI (l - 1))] (se (rr (sp 1 [(64, vP b3 0)] (sd (dlb 65 2 0 b3 (vS a1 cs.length a3)) (sd (dnb 66 1 0 c6 [vI ((b0)), vI ((b2)), vI (↑b6), vI (g), .bool (b4), .bool (b5)]) (sS (sbs 67 56 1 #[vI ((b0)), vI ((b2)), vI (↑b6), vI (g), .bool (b4), .bool (b5)] (fun U9 => (sS (AN (d := 68) (x := (.tmp 65)) (y := (.tmp 67)) (T := 22) (T' := 22) (E := 56) (E' := 56) (sz := 6) (bs := 40) (z := .agg #[vI (0), vI (0), vI (0), vI (0), .bool (false), .bool (false)]) (cell := DC) (xs := cs) (ys := [(⟨(b0), (b2), ↑b6, g, b4, b5⟩ : Car)]) (Ms := a4) (ty := 22) (gd := none) (by kernel_rfl) rfl (by kernel_rfl) (by kernel_rfl) (by kernel_rfl) (by kernel_rfl) (by kernel_rfl) (by decide) (by kernel_rfl) rfl rfl (a9) (PU (PU (PU (PU (PM.symm))))) (DU _) (CV 0 rfl rfl) (by first | omega | (simp only [LC, LN, LA, LK, LD]; omega)) (fun Y6 o4 q3 => (AW (M' := ((bX p #[.int .u64 (c8)] 95) :: (bX c6 #[vI ((b0)), vI ((b2)), vI (↑b6), vI (g), .bool (b4), .bool (b5)] 56) :: (bX b3 #[vS a1 cs.length a3, vN, vN] 26) :: (bX b1 #[vN, vN, vN] 26) :: (o4 ++ F))) (fun w h => (h.perm (PW (PW (PW (PW PM))))).sub (TC _ (TR _))) ?_))))))))))))))))));obtain ⟨j6, k8, B3, Q6⟩ := q3.shape;subst B3;refine sp 1 [(69, vP b3 0)] (sS (ss 2 0 b3 [vS j6 (cs ++ ([(⟨(b0), (b2), ↑b6, g, b4, b5⟩ : Car)])).length k8] [vS j6 (cs ++ ([(⟨(b0), (b2), ↑b6, g, b4, b5⟩ : Car)])).length k8, vN, vN] (_ :: _ :: _ :: _ :: _) (cs := [_, _, _]) rfl rfl (ee (NB (NX (rr (sp 1 [(25, vI (↑k))] (sd (da 26 (↑k) (1)) (sp 1 [(11, vI (↑k + 1))] (ee ?_))))))))));refine AG (e0 - (k+1)) (by omega) ?_;intro a w hS hD hW;exact ⟨u6, k+1, cs ++ [(⟨(b0), (b2), ↑b6, g, b4, b5⟩ : Car)], g, l - 1, c8, vS j6 (cs ++ ([(⟨(b0), (b2), ↑b6, g, b4, b5⟩ : Car)])).length k8, o4, (IT (IT (IT (IT (IT (IT (IT hJ0 d0) d1) d2) d3) d4) d5) d6), by omega, by simp only [LA, LC, LN]; omega, (by have hh := CarsInv.snoc (d9) (c := (⟨(b0), (b2), ↑b6, g, b4, b5⟩ : Car)) (GV (by omega) (by omega) (by omega) (by have t2 := d9.g0; omega)) ⟨fun _ => rfl, fun hh => absurd h8 hh⟩; rw [if_pos h8] at hh; exact hh), q3, hS.sub (.consE 9 rfl rfl (.consE 10 rfl rfl (.consE 11 rfl rfl (.cons 0 rfl (.cons 2 rfl (.cons 6 rfl (.cons 7 rfl (.cons 8 rfl (.nil _))))))))), hD, (hW.perm (PS _ _ _)).sub (TC _ (TR _)), rfl⟩
  have K1 := h8;have h8 := GE h8;refine AL (NX (rr (sp 1 [(64, vP b3 0)] (sd (dlb 65 2 0 b3 (vS a1 cs.length a3)) (sd (dnb 66 1 0 c6 [vI ((b0)), vI ((b2)), vI (↑b6), vI (0), .bool (b4), .bool (b5)]) (sS (sbs 67 56 1 #[vI ((b0)), vI ((b2)), vI (↑b6), vI (0), .bool (b4), .bool (b5)] (fun V0 => (sS (AN (d := 68) (x := (.tmp 65)) (y := (.tmp 67)) (T := 22) (T' := 22) (E := 56) (E' := 56) (sz := 6) (bs := 40) (z := .agg #[vI (0), vI (0), vI (0), vI (0), .bool (false), .bool (false)]) (cell := DC) (xs := cs) (ys := [(⟨(b0), (b2), ↑b6, 0, b4, b5⟩ : Car)]) (Ms := a4) (ty := 22) (gd := none) (by kernel_rfl) rfl (by kernel_rfl) (by kernel_rfl) (by kernel_rfl) (by kernel_rfl) (by kernel_rfl) (by decide) (by kernel_rfl) rfl rfl (a9) (PU (PU (PU (PU (PM.symm))))) (DU _) (CV 0 rfl rfl) (by first | omega | (simp only [LC, LN, LA, LK, LD]; omega)) (fun Y7 o5 q4 => (AW (M' := ((bX p #[.int .u64 (c8)] 95) :: (bX c6 #[vI ((b0)), vI ((b2)), vI (↑b6), vI (0), .bool (b4), .bool (b5)] 56) :: (bX b3 #[vS a1 cs.length a3, vN, vN] 26) :: (bX b1 #[vN, vN, vN] 26) :: (o5 ++ F))) (fun w h => (h.perm (PW (PW (PW (PW PM))))).sub (TC _ (TR _))) ?_))))))))))));obtain ⟨j7, k9, B4, Q7⟩ := q4.shape;subst B4;refine sp 1 [(69, vP b3 0)] (sS (ss 2 0 b3 [vS j7 (cs ++ ([(⟨(b0), (b2), ↑b6, 0, b4, b5⟩ : Car)])).length k9] [vS j7 (cs ++ ([(⟨(b0), (b2), ↑b6, 0, b4, b5⟩ : Car)])).length k9, vN, vN] (_ :: _ :: _ :: _ :: _) (cs := [_, _, _]) rfl rfl (ee (NB (NX (rr (sp 1 [(25, vI (↑k))] (sd (da 26 (↑k) (1)) (sp 1 [(11, vI (↑k + 1))] (ee ?_))))))))));refine AG (e0 - (k+1)) (by omega) ?_;intro a w hS hD hW;exact ⟨u6, k+1, cs ++ [(⟨(b0), (b2), ↑b6, 0, b4, b5⟩ : Car)], g, l, c8, vS j7 (cs ++ ([(⟨(b0), (b2), ↑b6, 0, b4, b5⟩ : Car)])).length k9, o5, (IT (IT (IT (IT (IT (IT (IT hJ0 d0) d1) d2) d3) d4) d5) d6), by omega, by simp only [LA, LC, LN]; omega, (by have hh := CarsInv.snoc (d9) (c := (⟨(b0), (b2), ↑b6, 0, b4, b5⟩ : Car)) (GV (by omega) (by omega) (by omega) (by have t2 := d9.g0; omega)) ⟨fun hh => absurd hh (by omega), fun _ => rfl⟩; rw [if_neg (show ¬ (0 < l) by omega)] at hh; exact hh), q4, hS.sub (.consE 9 rfl rfl (.consE 10 rfl rfl (.consE 11 rfl rfl (.cons 0 rfl (.cons 2 rfl (.cons 6 rfl (.cons 7 rfl (.cons 8 rfl (.nil _))))))))), hD, (hW.perm (PS _ _ _)).sub (TC _ (TR _)), rfl⟩
 have J6 := h1;have h1 := BZ h1;refine CD 0 ((EP (EP (EB (NX (rqr (sp 3 [(72, vI ((if (2 : Int) < (↑s : Int) then 2 else ↑s))), (70, vP p 0)] ?_)))))));have s4 := ND J0 (p) (bs) ((if (2 : Int) < (↑s : Int) then 2 else ↑s)) (by omega);refine sS (sc (some 73) (F := ((bX b3 #[vS a1 cs.length a3, vN, vN] 26) :: (bX b1 #[vN, vN, vN] 26) :: (a4 ++ F))) (s4 :) (.refl _) (fun T2 r6 R6 t3 y9 => ?_));obtain ⟨f7, b8, r1, p2, C4⟩ := y9;rw [r1, p2]; clear r1 p2;refine nm ?_;have hT3 : 1 + b8 ≤ 3 := by
  have hq := C4
  split at hq <;> omega
 refine sd (da 74 (1) (↑b8)) (DN 74 rfl (show (vI (1 + ↑b8) : Value) = vI (↑(1 + b8)) from congrArg (Value.int .i64) (by omega)) (sS (MU (d := 75) (x := (.tmp 74)) (T := 24) (E := 23) (bs := 24) (n := 1 + b8) (z := vN) (zv := vN) (ty := 24) (gd := none) (by kernel_rfl) rfl (by kernel_rfl) (by kernel_rfl) (by kernel_rfl) rfl (by kernel_rfl) (by decide) rfl (by omega) (fun i2 => ?_))));have q5 : Own 23 1 AO (vS (some ⟨i2, 0, none⟩) (1 + b8) (1 + b8)) (List.replicate (1 + b8) (vN)) [(i2, Obj.cells (List.replicate (1 + b8) (vN)).toArray 23 (0, 0))] := Own.made _;obtain ⟨mS147, hmS147⟩ : ∃ X : Seg, X = [(i2, Obj.cells (List.replicate (1 + b8) (vN)).toArray 23 (0, 0))] := ⟨_, rfl⟩;rw [← hmS147] at q5;refine AW (I' := r6) (M' := ((mS147 ++ (bX p #[.int .u64 (f7)] 95) :: (bX b3 #[vS a1 cs.length a3, vN, vN] 26) :: (bX b1 #[vN, vN, vN] 26) :: (a4 ++ F)))) (fun w h => by rw [hmS147]; exact h) (pm (M' := ((bX p #[.int .u64 (f7)] 95) :: (bX b3 #[vS a1 cs.length a3, vN, vN] 26) :: (bX b1 #[vN, vN, vN] 26) :: (mS147 ++ (a4 ++ F)))) (PW (PW PM)) ?_);have s9 := OwnEach.nils 3 (1 + b8);refine sp 1 [(76, vP b3 2)] (sS (ss 1 2 b3 [vS (some ⟨i2, 0, none⟩) (1 + b8) (1 + b8)] [vS a1 cs.length a3, vN, vS (some ⟨i2, 0, none⟩) (1 + b8) (1 + b8)] (_ :: _ :: _ :: _) (cs := [_, _, _]) rfl rfl (sn (sp 1 [(13, vI (0))] (se (rq (rqr (sp 1 [(14, vI (0))] (se (rb 2 ?_))))))))));refine rl (fun mz a w => ∃ J1 : Imm, ∃ j : Nat, ∃ aa : Nat, ∃ ts : List (List Int), ∃ tv : Value, ∃ vs : List Value, ∃ tM : Seg, ∃ eM : Seg, ∃ e8 : Int, (r6.le J1) ∧ (j ≤ e0) ∧ (Placed cs (1 + b8) j aa ts) ∧ (Own 23 1 AO tv vs tM) ∧ (OwnEach 3 vs ts eM) ∧ Slots 179 [(13, vI ↑aa), (14, vI ↑j), (0, vP p 0), (6, vP b1 0), (7, vP b3 0), (8, vI (↑e0))] a ∧ a.defers = [] ∧ St J1 ((bX p #[.int .u64 (e8)] 95) :: (bX b3 #[vS a1 cs.length a3, vN, tv] 26) :: (bX b1 #[vN, vN, vN] 26) :: (tM ++ (a4 ++ (eM ++ F)))) w ∧ mz = e0 - j) ?_ ?_
 ·intro a w hS hD hW;exact ⟨_, r6, 0, 0, (List.replicate (1 + b8) []), (vS (some ⟨i2, 0, none⟩) (1 + b8) (1 + b8)), (List.replicate (1 + b8) (vN)), mS147, [], f7, IR _, Nat.zero_le _, Placed.start (by omega), q5, s9, hS.sub (.cons 13 rfl (.cons 14 rfl (.cons 0 rfl (.cons 6 rfl (.cons 7 rfl (.cons 8 rfl (.nil _))))))), hD, hW, rfl⟩
 rintro mz a w ⟨J1, j, aa, ts, tv, vs, tM, eM, e8, hJ1, hj, t8, n3, E8, hS, hD, hW, rfl⟩
 refine AX hS hD hW ?_;clear hS hD hW a w;obtain ⟨a7, a8, O8, X9⟩ := n3.shape; subst O8;have hvl := E8.length; have hpt := t8.len; have hpa := t8.a0;refine rq (rqr (sp 3 [(79, .bool (cmp .lss (↑j) (↑e0)))] (se (rc 79 rfl (fun h9 => ?_) (fun h9 => ?_)))))
 ·
  have K2 := h9;have h9 := BV h9;refine AL (NX (rq (rb 3 (rq (rq ?_)))));refine FO (fun a w => Slots 179 [(0, vP p 0), (6, vP b1 0), (7, vP b3 0), (8, vI (↑e0)), (13, vI (↑aa)), (14, vI (↑j)), (108, .bool ((cmp .eql (↑j) (0)) || ((cmp .eql ((cs.getD (j) AM).grp) (0)) || (!(cmp .eql ((cs.getD (j) AM).grp) ((cs.getD ((↑j - 1 : Int).toNat) AM).grp))))))] a ∧ a.defers = [] ∧ St J1 ((bX p #[.int .u64 (e8)] 95) :: (bX b3 #[vS a1 cs.length a3, vN, vS a7 vs.length a8] 26) :: (bX b1 #[vN, vN, vN] 26) :: (tM ++ (a4 ++ (eM ++ F)))) w) ?_ ?_
  ·
   refine rd0 25 (ox 3 [(84, .bool (cmp .eql (↑j) (0)))] ?_);refine GZ 84 (fun u2 => ?_) (fun u2 => ?_)
   ·
    have e9 := u2;have e9 := CY e9;refine ox 22 [(106, undef), (99, undef), (93, .bool (true))] ?_;refine BF (sp 2 [(108, .bool (true))] (ee ?_));refine BG (fun a w hS hD hW => ⟨hS.sub (.cons 0 rfl (.cons 6 rfl (.cons 7 rfl (.cons 8 rfl (.cons 13 rfl (.cons 14 rfl (.consE 108 rfl (congrArg Value.bool (by simp only [u2, kA, kB, kC, kD, kE, kF, kG, kH, kI, kJ])) (.nil _)))))))), hD, hW⟩)
   have e9 := u2;have e9 := CX e9;refine ox 1 [(85, vP b3 0)] ?_;refine AB (dlb 86 1 0 b3 (vS a1 cs.length a3)) (ox 1 [(87, vI (↑j))] ?_);obtain ⟨A3, l6⟩ := a9.row AM;refine AB (di 88 6 (j) l6.addr) (ox 1 [(89, .pointer (some ⟨A3, 0 + j * 6 + 3, none⟩))] ?_);refine AB (dl 90 (l6.get (j) (by omega) 3 (by decide) _ _ (fun x hx => by simp [hx]))) (ox 3 [(93, .bool (cmp .eql ((cs.getD (j) AM).grp) (0)))] ?_);refine GZ 93 (fun v4 => ?_) (fun v4 => ?_)
   ·
    have f0 := v4;have f0 := CY f0;refine ox 13 [(106, undef), (99, undef)] ?_;refine BF (sp 2 [(108, .bool (true))] (ee ?_));refine BG (fun a w hS hD hW => ⟨hS.sub (.cons 0 rfl (.cons 6 rfl (.cons 7 rfl (.cons 8 rfl (.cons 13 rfl (.cons 14 rfl (.consE 108 rfl (congrArg Value.bool (by simp only [u2, v4, kA, kB, kC, kD, kE, kF, kG, kH, kI, kJ])) (.nil _)))))))), hD, hW⟩)
   have f0 := v4;have f0 := CX f0;refine ox 1 [(94, vP b3 0)] ?_;refine AB (dlb 95 1 0 b3 (vS a1 cs.length a3)) (ox 1 [(96, vI (↑j))] ?_);obtain ⟨A4, l7⟩ := a9.row AM;refine AB (di 97 6 (j) l7.addr) (ox 1 [(98, .pointer (some ⟨A4, 0 + j * 6 + 3, none⟩))] ?_);refine AB (dl 99 (l7.get (j) (by omega) 3 (by decide) _ _ (fun x hx => by simp [hx]))) (ox 1 [(100, vP b3 0)] ?_);refine AB (dlb 101 1 0 b3 (vS a1 cs.length a3)) (ox 1 [(102, vI (↑j))] ?_);refine AB (dsb 103 (↑j) (1)) ?_;obtain ⟨A5, l8⟩ := a9.row AM;refine AB (diI 104 6 (↑j - 1) l8.addr) (ox 1 [(105, .pointer (some ⟨A5, 0 + ((↑j - 1 : Int).toNat) * 6 + 3, none⟩))] ?_);refine AB (dl 106 (l8.get ((↑j - 1 : Int).toNat) (by omega) 3 (by decide) _ _ (fun x hx => by simp [hx]))) ?_;refine BF (sp 2 [(108, .bool (!(cmp .eql ((cs.getD (j) AM).grp) ((cs.getD ((↑j - 1 : Int).toNat) AM).grp))))] (ee ?_));refine BG (fun a w hS hD hW => ⟨hS.sub (.cons 0 rfl (.cons 6 rfl (.cons 7 rfl (.cons 8 rfl (.cons 13 rfl (.cons 14 rfl (.consE 108 rfl (congrArg Value.bool (by simp only [u2, v4, kA, kB, kC, kD, kE, kF, kG, kH, kI, kJ])) (.nil _)))))))), hD, hW⟩)
  rintro a w ⟨hS, hD, hW⟩
  refine AX hS hD hW ?_;clear hS hD hW a w;refine rc 108 rfl (fun E7 => ?_) (fun E7 => ?_)
  ·
   have o9 := E7;refine rr (sp 3 [(111, vP b3 2), (110, vP p 0), (109, vP p 0)] (sd (dlb 112 1 2 b3 (vS a7 vs.length a8)) (sp 1 [(113, vI (↑(vs.length)))] (sd (dsb 114 (↑(vs.length)) (1)) ?_))));have s5 := ND J1 (p) (e8) ((↑(vs.length)) - 1) (by omega);refine sS (sc (some 115) (F := ((bX b3 #[vS a1 cs.length a3, vN, vS a7 vs.length a8] 26) :: (bX b1 #[vN, vN, vN] 26) :: (tM ++ (a4 ++ (eM ++ F))))) (s5 :) (.refl _) (fun T3 T7 R7 t4 z0 => ?_));obtain ⟨f8, n6, r2, p3, R3⟩ := z0;rw [r2, p3]; clear r2 p3;refine nm ?_;refine sS (sbs 116 3 4 #[vI (0), vI (0), vI (0), vI (↑n6)] (fun r7 => (pm (M' := ((bX p #[.int .u64 (f8)] 95) :: (bX b3 #[vS a1 cs.length a3, vN, vS a7 vs.length a8] 26) :: (bX b1 #[vN, vN, vN] 26) :: ([(bX r7 #[vI (0), vI (0), vI (0), vI (↑n6)] 3)] ++ (tM ++ (a4 ++ (eM ++ F)))))) ((PS _ _ _).trans (PC _ ((PS _ _ _).trans (PC _ (PS _ _ _))))) ?_)));have y4 : Own 3 1 AP (vS (some ⟨r7, 0, none⟩) 4 4) ([(0 : Int), (0 : Int), (0 : Int), (↑n6 : Int)] : List Int) [(bX r7 #[vI (0), vI (0), vI (0), vI (↑n6)] 3)] := Own.lit rfl rfl;refine sfz (A := ((bX p #[.int .u64 (f8)] 95) :: (bX b3 #[vS a1 cs.length a3, vN, vS a7 vs.length a8] 26) :: (bX b1 #[vN, vN, vN] 26) :: (tM ++ (a4 ++ (eM ++ F))))) 0 y4 (PU (PU (PM.symm))) (fun G1 t5 g8 => ?_);obtain ⟨D3, D5, D4, D8, n4, D6, D7, D9⟩ := id g8;cases n4;have s6 := One_ct G1 (p) (f8) _ _ g8 (by simp);refine sS (sc (some 117) (F := ((bX b3 #[vS a1 cs.length a3, vN, vS a7 vs.length a8] 26) :: (bX b1 #[vN, vN, vN] 26) :: (tM ++ (a4 ++ (eM ++ F))))) (s6 :) (.refl _) (fun T4 u3 R8 t6 z1 => ?_));obtain ⟨c0, n7, r3, p4, C5⟩ := z1;rw [r3, p4]; clear r3 p4;refine nm ?_;refine sp 1 [(13, vI ((n7)))] ?_;obtain ⟨a2, ha2, ha3⟩ : ∃ a2 : Nat, (n7) = ↑a2 ∧ a2 < 1 + b8 := by
    have hq := C5;simp only [List.mem_cons, List.not_mem_nil, or_false] at hq;exact ⟨((n7)).toNat, by omega, by omega⟩
   refine DN 13 rfl (show (vI ((n7)) : Value) = vI (↑a2) from congrArg (Value.int .i64) ha2) (se ?_);have z4 : j ≠ 0 → gAt cs j ≠ 0 → gAt cs j = gAt cs (j - 1) → a2 = aa := fun e1 e2 e3 => by
    exfalso
    have hh := o9;have e4 : ((↑j : Int) - 1).toNat = j - 1 := by omega
    unfold gAt at e2 e3;rw [e4] at hh;simp only [cmp_eql, cmp_neq, Bool.or_eq_true, decide_eq_true_eq, Bool.not_eq_true', decide_eq_false_iff_not] at hh;omega
   obtain ⟨c1, c3, i3, v0, u8⟩ := OwnEach.pull E8 (a2) (by omega);obtain ⟨C7, C8, g6, C9⟩ := i3.shape;rw [g6] at i3;refine rn_mem (M' := ((c1 ++ (c3 ++ (bX p #[.int .u64 (c0)] 95) :: (bX b3 #[vS a1 cs.length a3, vN, vS a7 vs.length a8] 26) :: (bX b1 #[vN, vN, vN] 26) :: (tM ++ (a4 ++ F)))))) (fun w h => ?_) ?_
   ·have h2 := h.perm (PU (PU (PU (PV (PO _ _ _)))));have h3 := St.permL (A' := c1 ++ c3) (A := eM) (by simpa only [AA, List.append_nil] using v0) (by simpa only [AA] using h2)
    simpa only [AA] using h3
   refine rn_mem (M' := ((bX p #[.int .u64 (c0)] 95) :: (bX b3 #[vS a1 cs.length a3, vN, vS a7 vs.length a8] 26) :: (bX b1 #[vN, vN, vN] 26) :: (c1 ++ (c3 ++ (tM ++ (a4 ++ F)))))) (fun w h => h.perm (((PA _ PM).trans PM).trans (PC _ (((PA _ PM).trans PM).trans (PC _ ((PA _ PM).trans PM)))))) ?_;have V3 := t8.tlen a2;refine rpm (M' := ((bX p #[.int .u64 (c0)] 95) :: (bX b3 #[vS a1 cs.length a3, vN, vS a7 vs.length a8] 26) :: (bX b1 #[vN, vN, vN] 26) :: (tM ++ (c1 ++ (c3 ++ (a4 ++ F)))))) (PC _ (PC _ (PC _ (PV (PO _ _ _))))) ?_;refine rd 11 [(0, true), (1, true), (2, true), (3, true), (4, true), (5, true), (6, true), (7, true), (8, true), (9, false), (10, false)] ((bX p #[.int .u64 (c0)] 95) :: (bX b3 #[vS a1 cs.length a3, vN, vS a7 vs.length a8] 26) :: (bX b1 #[vN, vN, vN] 26) :: tM) ((c1 ++ (c3 ++ (a4 ++ F)))) (ox 1 [(118, vP b3 2)] ?_);refine AB (dlb 119 1 2 b3 (vS a7 vs.length a8)) (ox 2 [(121, vP b3 2), (120, vI (↑a2))] ?_);refine AB (dlb 122 1 2 b3 (vS a7 vs.length a8)) (ox 1 [(123, vI (↑a2))] ?_);obtain ⟨P4, l9⟩ := n3.row undef;refine AB (di 124 1 (a2) l9.addr) ?_;refine AB (BD (dl 125 (l9.get (a2) (by omega) 0 (by decide) _ _ (fun x hx => by simp [hx]))) g6) (ox 1 [(126, vI (↑j))] ?_);refine BT (sbs 127 3 1 #[vI (↑j)] (fun e6 => ?_));refine AR (S' := ((bX e6 #[vI (↑j)] 3) :: (c1 ++ (c3 ++ (a4 ++ F))))) ((PS _ _ _).trans (PC _ ((PS _ _ _).trans (PC _ ((PS _ _ _).trans (PC _ (PM.symm))))))) ?_;refine BT (AN (d := 128) (x := (.tmp 125)) (y := (.tmp 127)) (T := 23) (T' := 23) (E := 3) (E' := 3) (sz := 1) (bs := 8) (z := vI (0)) (cell := AP) (xs := ts.getD (a2) []) (ys := [(↑j : Int)]) (Ms := c1) (ty := 23) (gd := none) (by kernel_rfl) rfl (by kernel_rfl) (by kernel_rfl) (by kernel_rfl) (by kernel_rfl) (by kernel_rfl) (by decide) (by kernel_rfl) rfl rfl (i3) (show List.Perm ((bX p #[.int .u64 (c0)] 95) :: (bX b3 #[vS a1 cs.length a3, vN, vS a7 vs.length a8] 26) :: (bX b1 #[vN, vN, vN] 26) :: (tM ++ (bX e6 #[vI (↑j)] 3) :: (c1 ++ (c3 ++ (a4 ++ F))))) ((c1 ++ (bX p #[.int .u64 (c0)] 95) :: (bX b3 #[vS a1 cs.length a3, vN, vS a7 vs.length a8] 26) :: (bX b1 #[vN, vN, vN] 26) :: (bX e6 #[vI (↑j)] 3) :: (tM ++ (c3 ++ (a4 ++ F))))) from ((PU (PU (PU (PV (PM.symm))))).trans (PA _ (PC _ (PC _ (PC _ PM)))))) (BP _) (CV 3 rfl rfl) (by first | omega | (simp only [LC, LN, LA, LK, LD]; omega)) (fun Y8 f9 q6 => ?_));refine AR (S' := ((bX e6 #[vI (↑j)] 3) :: (f9 ++ (c3 ++ (a4 ++ F))))) (PW (PW (PW ((PV (PM.symm)).trans (PA _ PM))))) ?_;obtain ⟨j8, l1, B5, Q8⟩ := q6.shape;subst B5;show OFP _ _ _ _ _ _ ((128, vS j8 ((ts.getD (a2) []) ++ ([(↑j : Int)])).length l1) :: _) _ _;refine EC (nm ?_);refine pm (M' := ((bX p #[.int .u64 (c0)] 95) :: (bX b3 #[vS a1 cs.length a3, vN, vS a7 vs.length a8] 26) :: (bX b1 #[vN, vN, vN] 26) :: (bX e6 #[vI (↑j)] 3) :: (tM ++ (f9 ++ (c3 ++ (a4 ++ F)))))) (PC _ (PC _ (PC _ PM))) ?_;obtain ⟨P5, m0⟩ := n3.row undef;refine sd (di 129 1 (a2) m0.addr) (sS (DA (T := 23) (x := (.tmp 129)) (y := (.tmp 128)) (rc := fun i f => AO ((vs).getD i undef) f) undef (a2) 0 ((vS j8 ((ts.getD (a2) []) ++ ([(↑j : Int)])).length l1 : Value)) (ty := 0) (gd := none) (by kernel_rfl) rfl n3 m0 (by omega) (by decide) rfl rfl (by kernel_rfl) rfl rfl (by intro f hf; match f, hf with | 0, _ => rfl) (PU (PU (PU (PM.symm)))) (fun g1 y5 => (pm (M' := ((bX p #[.int .u64 (c0)] 95) :: (bX b3 #[vS a1 cs.length a3, vN, vS a7 vs.length a8] 26) :: (bX b1 #[vN, vN, vN] 26) :: (bX e6 #[vI (↑j)] 3) :: (g1 ++ (f9 ++ (c3 ++ (a4 ++ F)))))) (PW (PW (PW PM))) ?_))));obtain ⟨g4, t0, v1⟩ := u8 _ _ _ q6;refine AW (I' := u3) (M' := ((g4 ++ (bX p #[.int .u64 (c0)] 95) :: (bX b3 #[vS a1 cs.length a3, vN, vS a7 vs.length a8] 26) :: (bX b1 #[vN, vN, vN] 26) :: (bX e6 #[vI (↑j)] 3) :: (g1 ++ (a4 ++ F))))) (fun w h => ?_) ?_
   ·have h2 := h.perm ((PU (PU (PU (PU (PO _ _ _))))).trans (PA _ (PU (PU (PU (PU (PO _ _ _)))))));simp only [← AA] at h2;have h3 := St.permL (A' := g4) (A := f9 ++ c3) (by simpa only [AA, List.append_nil] using v1.symm) (by simpa only [AA] using h2)
    simpa only [AA] using h3
   refine pm (M' := ((bX p #[.int .u64 (c0)] 95) :: (bX b3 #[vS a1 cs.length a3, vN, vS a7 vs.length a8] 26) :: (bX b1 #[vN, vN, vN] 26) :: (bX e6 #[vI (↑j)] 3) :: (g4 ++ (g1 ++ (a4 ++ F))))) (PW (PW (PW PM))) (ee (NB (NX (rr (sp 1 [(80, vI (↑j))] (sd (da 81 (↑j) (1)) (sp 1 [(14, vI (↑j + 1))] (ee ?_))))))));refine AG (e0 - (j+1)) (by omega) ?_;intro a w hS hD hW;exact ⟨u3, j+1, a2, ts.set (a2) ((ts.getD (a2) []) ++ ([(↑j : Int)])), (vS a7 vs.length a8), vs.set (a2) ((vS j8 ((ts.getD (a2) []) ++ ([(↑j : Int)])).length l1 : Value)), g1, g4, c0, (IT (IT (IT hJ1 t4) t5) t6), by omega, (t8.put (by omega) (fun e1 e2 e3 => z4 e1 e2 e3)), y5, t0, hS.sub (.consE 13 rfl rfl (.consE 14 rfl rfl (.cons 0 rfl (.cons 6 rfl (.cons 7 rfl (.cons 8 rfl (.nil _))))))), hD, (hW.perm (((PC _ ((PC _ (PS _ _ _)).trans (PS _ _ _))).trans (PS _ _ _)).trans (PC _ (PC _ (PC _ (PC _ ((PO _ _ _).trans (PA _ (PO _ _ _))))))))).sub (TC _ (TR _)), rfl⟩
  have o9 := E7;obtain ⟨o8, v5⟩ := or_f E7;have o8 := CX o8;obtain ⟨h0, i0⟩ := or_f v5;have h0 := CX h0;have i0 := CY (CF i0);refine AL (NX ?_);obtain ⟨c2, c4, i4, v2, u9⟩ := OwnEach.pull E8 (aa) (by omega);obtain ⟨D0, D1, g7, D2⟩ := i4.shape;rw [g7] at i4;refine rn_mem (M' := ((c2 ++ (c4 ++ (bX p #[.int .u64 (e8)] 95) :: (bX b3 #[vS a1 cs.length a3, vN, vS a7 vs.length a8] 26) :: (bX b1 #[vN, vN, vN] 26) :: (tM ++ (a4 ++ F)))))) (fun w h => ?_) ?_
  ·have h2 := h.perm (PU (PU (PU (PV (PO _ _ _)))));have h3 := St.permL (A' := c2 ++ c4) (A := eM) (by simpa only [AA, List.append_nil] using v2) (by simpa only [AA] using h2)
   simpa only [AA] using h3
  refine rn_mem (M' := ((bX p #[.int .u64 (e8)] 95) :: (bX b3 #[vS a1 cs.length a3, vN, vS a7 vs.length a8] 26) :: (bX b1 #[vN, vN, vN] 26) :: (c2 ++ (c4 ++ (tM ++ (a4 ++ F)))))) (fun w h => h.perm (((PA _ PM).trans PM).trans (PC _ (((PA _ PM).trans PM).trans (PC _ ((PA _ PM).trans PM)))))) ?_;have V3 := t8.tlen aa;refine rpm (M' := ((bX p #[.int .u64 (e8)] 95) :: (bX b3 #[vS a1 cs.length a3, vN, vS a7 vs.length a8] 26) :: (bX b1 #[vN, vN, vN] 26) :: (tM ++ (c2 ++ (c4 ++ (a4 ++ F)))))) (PC _ (PC _ (PC _ (PV (PO _ _ _))))) ?_;refine rd 11 [(0, true), (1, true), (2, true), (3, true), (4, true), (5, true), (6, true), (7, true), (8, true), (9, false), (10, false)] ((bX p #[.int .u64 (e8)] 95) :: (bX b3 #[vS a1 cs.length a3, vN, vS a7 vs.length a8] 26) :: (bX b1 #[vN, vN, vN] 26) :: tM) ((c2 ++ (c4 ++ (a4 ++ F)))) (ox 1 [(118, vP b3 2)] ?_);refine AB (dlb 119 1 2 b3 (vS a7 vs.length a8)) (ox 2 [(121, vP b3 2), (120, vI (↑aa))] ?_);refine AB (dlb 122 1 2 b3 (vS a7 vs.length a8)) (ox 1 [(123, vI (↑aa))] ?_);obtain ⟨P6, m1⟩ := n3.row undef;refine AB (di 124 1 (aa) m1.addr) ?_;refine AB (BD (dl 125 (m1.get (aa) (by omega) 0 (by decide) _ _ (fun x hx => by simp [hx]))) g7) (ox 1 [(126, vI (↑j))] ?_);refine BT (sbs 127 3 1 #[vI (↑j)] (fun e7 => ?_));refine AR (S' := ((bX e7 #[vI (↑j)] 3) :: (c2 ++ (c4 ++ (a4 ++ F))))) ((PS _ _ _).trans (PC _ ((PS _ _ _).trans (PC _ ((PS _ _ _).trans (PC _ (PM.symm))))))) ?_;refine BT (AN (d := 128) (x := (.tmp 125)) (y := (.tmp 127)) (T := 23) (T' := 23) (E := 3) (E' := 3) (sz := 1) (bs := 8) (z := vI (0)) (cell := AP) (xs := ts.getD (aa) []) (ys := [(↑j : Int)]) (Ms := c2) (ty := 23) (gd := none) (by kernel_rfl) rfl (by kernel_rfl) (by kernel_rfl) (by kernel_rfl) (by kernel_rfl) (by kernel_rfl) (by decide) (by kernel_rfl) rfl rfl (i4) (show List.Perm ((bX p #[.int .u64 (e8)] 95) :: (bX b3 #[vS a1 cs.length a3, vN, vS a7 vs.length a8] 26) :: (bX b1 #[vN, vN, vN] 26) :: (tM ++ (bX e7 #[vI (↑j)] 3) :: (c2 ++ (c4 ++ (a4 ++ F))))) ((c2 ++ (bX p #[.int .u64 (e8)] 95) :: (bX b3 #[vS a1 cs.length a3, vN, vS a7 vs.length a8] 26) :: (bX b1 #[vN, vN, vN] 26) :: (bX e7 #[vI (↑j)] 3) :: (tM ++ (c4 ++ (a4 ++ F))))) from ((PU (PU (PU (PV (PM.symm))))).trans (PA _ (PC _ (PC _ (PC _ PM)))))) (BP _) (CV 3 rfl rfl) (by first | omega | (simp only [LC, LN, LA, LK, LD]; omega)) (fun Y9 g2 q7 => ?_));refine AR (S' := ((bX e7 #[vI (↑j)] 3) :: (g2 ++ (c4 ++ (a4 ++ F))))) (PW (PW (PW ((PV (PM.symm)).trans (PA _ PM))))) ?_;obtain ⟨j9, l3, B6, Q9⟩ := q7.shape;subst B6;show OFP _ _ _ _ _ _ ((128, vS j9 ((ts.getD (aa) []) ++ ([(↑j : Int)])).length l3) :: _) _ _;refine EC (nm ?_);refine pm (M' := ((bX p #[.int .u64 (e8)] 95) :: (bX b3 #[vS a1 cs.length a3, vN, vS a7 vs.length a8] 26) :: (bX b1 #[vN, vN, vN] 26) :: (bX e7 #[vI (↑j)] 3) :: (tM ++ (g2 ++ (c4 ++ (a4 ++ F)))))) (PC _ (PC _ (PC _ PM))) ?_;obtain ⟨P7, m2⟩ := n3.row undef;refine sd (di 129 1 (aa) m2.addr) (sS (DA (T := 23) (x := (.tmp 129)) (y := (.tmp 128)) (rc := fun i f => AO ((vs).getD i undef) f) undef (aa) 0 ((vS j9 ((ts.getD (aa) []) ++ ([(↑j : Int)])).length l3 : Value)) (ty := 0) (gd := none) (by kernel_rfl) rfl n3 m2 (by omega) (by decide) rfl rfl (by kernel_rfl) rfl rfl (by intro f hf; match f, hf with | 0, _ => rfl) (PU (PU (PU (PM.symm)))) (fun g3 y6 => (pm (M' := ((bX p #[.int .u64 (e8)] 95) :: (bX b3 #[vS a1 cs.length a3, vN, vS a7 vs.length a8] 26) :: (bX b1 #[vN, vN, vN] 26) :: (bX e7 #[vI (↑j)] 3) :: (g3 ++ (g2 ++ (c4 ++ (a4 ++ F)))))) (PW (PW (PW PM))) ?_))));obtain ⟨g5, t1, v3⟩ := u9 _ _ _ q7;refine AW (I' := J1) (M' := ((g5 ++ (bX p #[.int .u64 (e8)] 95) :: (bX b3 #[vS a1 cs.length a3, vN, vS a7 vs.length a8] 26) :: (bX b1 #[vN, vN, vN] 26) :: (bX e7 #[vI (↑j)] 3) :: (g3 ++ (a4 ++ F))))) (fun w h => ?_) ?_
  ·have h2 := h.perm ((PU (PU (PU (PU (PO _ _ _))))).trans (PA _ (PU (PU (PU (PU (PO _ _ _)))))));simp only [← AA] at h2;have h3 := St.permL (A' := g5) (A := g2 ++ c4) (by simpa only [AA, List.append_nil] using v3.symm) (by simpa only [AA] using h2)
   simpa only [AA] using h3
  refine pm (M' := ((bX p #[.int .u64 (e8)] 95) :: (bX b3 #[vS a1 cs.length a3, vN, vS a7 vs.length a8] 26) :: (bX b1 #[vN, vN, vN] 26) :: (bX e7 #[vI (↑j)] 3) :: (g5 ++ (g3 ++ (a4 ++ F))))) (PW (PW (PW PM))) (ee (NB (NX (rr (sp 1 [(80, vI (↑j))] (sd (da 81 (↑j) (1)) (sp 1 [(14, vI (↑j + 1))] (ee ?_))))))));refine AG (e0 - (j+1)) (by omega) ?_;intro a w hS hD hW;exact ⟨J1, j+1, aa, ts.set (aa) ((ts.getD (aa) []) ++ ([(↑j : Int)])), (vS a7 vs.length a8), vs.set (aa) ((vS j9 ((ts.getD (aa) []) ++ ([(↑j : Int)])).length l3 : Value)), g3, g5, e8, hJ1, by omega, (t8.put (by omega) (fun _ _ _ => rfl)), y6, t1, hS.sub (.consE 13 rfl rfl (.consE 14 rfl rfl (.cons 0 rfl (.cons 6 rfl (.cons 7 rfl (.cons 8 rfl (.nil _))))))), hD, (hW.perm (((PC _ ((PC _ (PS _ _ _)).trans (PS _ _ _))).trans (PS _ _ _)).trans (PC _ (PC _ (PC _ (PC _ ((PO _ _ _).trans (PA _ (PO _ _ _))))))))).sub (TC _ (TR _)), rfl⟩
 have K2 := h9;have h9 := BZ h9;refine CD 2 ((EP (EP (EB (NX (rq (rq ?_)))))));have V4 : j = cs.length := by omega
 have t9 : Placed cs (1 + b8) cs.length aa ts := V4 ▸ t8;have V6 := t9.okAll;have P2 := t9.tl;refine MR (B := ((bX p #[.int .u64 (e8)] 95) :: (bX b3 #[vS a1 cs.length a3, vN, vS a7 vs.length a8] 26) :: (bX b1 #[vN, vN, vN] 26) :: (tM ++ (a4 ++ F)))) E8 (by intro xs hx; have := P2 xs hx; omega) (PU (PU (PU (PV (PO _ _ _))))) (PR _) (fun u4 t7 b9 => ?_);have f4 := b9.1
 try simp only [LS, LA, LC, LN, LK] at f4
 refine rr (sp 1 [(15, vI (0))] (se (rb 4 ?_)));refine rl (fun mz a w => ∃ J2 : Imm, ∃ t : Nat, ∃ rm : List Int, ∃ u7 : Int, ∃ d8 : Value, ∃ b7 : Seg, (u4.le J2) ∧ (t ≤ 1 + b8) ∧ (Sh.Roomy cs ts t rm) ∧ (Own 3 1 AP d8 (rm) b7) ∧ Slots 179 [(15, vI ↑t), (0, vP p 0), (6, vP b1 0), (7, vP b3 0)] a ∧ a.defers = [] ∧ St J2 ((bX p #[.int .u64 (u7)] 95) :: (bX b3 #[vS a1 cs.length a3, d8, vS a7 vs.length a8] 26) :: (bX b1 #[vN, vN, vN] 26) :: (tM ++ (a4 ++ (b7 ++ F)))) w ∧ mz = 1 + b8 - t) ?_ ?_
 ·intro a w hS hD hW;exact ⟨_, u4, 0, [], e8, (vN), [], IR _, Nat.zero_le _, Sh.Roomy.nil _ _, (Own.nil _ _ _), hS.sub (.cons 15 rfl (.cons 0 rfl (.cons 6 rfl (.cons 7 rfl (.nil _))))), hD, hW, rfl⟩
 rintro mz a w ⟨J2, t, rm, u7, d8, b7, hJ2, ht, E9, c7, hS, hD, hW, rfl⟩
 refine AX hS hD hW ?_;clear hS hD hW a w;replace b9 := b9.mono hJ2;obtain ⟨a5, a6, f6, u1⟩ := c7.shape; subst f6;have hrl := E9.len;refine rq (rqr (sp 2 [(131, vP b3 2), (130, vI (↑t))] (sd (dlb 132 1 2 b3 (vS a7 vs.length a8)) (sp 2 [(134, .bool (cmp .lss (↑t) (↑(vs.length))))] (se (rc 134 rfl (fun s0 => ?_) (fun s0 => ?_)))))))
 ·
  have v6 := s0;have s0 := BV s0;refine AL (NX (rq (rb 5 (rqr (sp 1 [(137, vP p 0)] ?_)))));have s7 := ND J2 (p) (u7) (5) (by omega);refine sS (sc (some 138) (F := ((bX b3 #[vS a1 cs.length a3, vS a5 rm.length a6, vS a7 vs.length a8] 26) :: (bX b1 #[vN, vN, vN] 26) :: (tM ++ (a4 ++ (b7 ++ F))))) (s7 :) (.refl _) (fun T5 u5 R9 f3 z2 => ?_));obtain ⟨c9, A2, r4, p5, R4⟩ := z2;rw [r4, p5]; clear r4 p5;replace b9 := b9.mono f3;refine nm ?_;refine sp 1 [(16, vI (↑A2))] (se (rq (rq ?_)));have htk := P2 _ (AH (d := []) (xs := ts) (k := t) (by omega));have V8 := V6.at t (by omega);refine rr (sp 1 [(17, vI (0))] (se (rb 6 ?_)));refine rl (fun mz a w => ∃ i : Nat, ∃ l2 : Int, (i ≤ (ts.getD (t) []).length) ∧ (lenOf cs ((ts.getD (t) []).take i) ≤ l2) ∧ (0 ≤ l2 ∧ l2 ≤ 5 + 3 * i) ∧ Slots 179 [(16, vI l2), (17, vI ↑i), (0, vP p 0), (6, vP b1 0), (7, vP b3 0), (15, vI (↑t))] a ∧ a.defers = [] ∧ St u5 ((bX p #[.int .u64 (c9)] 95) :: (bX b3 #[vS a1 cs.length a3, vS a5 rm.length a6, vS a7 vs.length a8] 26) :: (bX b1 #[vN, vN, vN] 26) :: (tM ++ (a4 ++ (b7 ++ F)))) w ∧ mz = (ts.getD (t) []).length - i) ?_ ?_
  ·intro a w hS hD hW;exact ⟨_, 0, ↑A2, Nat.zero_le _, (by rw [List.take_zero, lenOf_nil]; omega), (by omega), hS.sub (.cons 16 rfl (.cons 17 rfl (.cons 0 rfl (.cons 6 rfl (.cons 7 rfl (.cons 15 rfl (.nil _))))))), hD, hW, rfl⟩
  rintro mz a w ⟨i, l2, hi, P0, Z9, hS, hD, hW, rfl⟩
  refine AX hS hD hW ?_;clear hS hD hW a w;refine rq (rqr (sp 2 [(140, vP b3 2), (139, vI (↑i))] (sd (dlb 141 1 2 b3 (vS a7 vs.length a8)) (sp 1 [(142, vI (↑t))] ?_))));obtain ⟨P8, m3⟩ := n3.row undef;refine sd (di 143 1 (t) m3.addr) ?_;have m9 := b9.2 (t) (by omega);obtain ⟨M5, M7, M6, O0, m8, M8, M9, O1⟩ := id m9;rw [m8] at m9;refine sd (BD (dl 144 (m3.get (t) (by omega) 0 (by decide) _ _ (fun x hx => by simp [hx]))) m8) (sp 2 [(146, .bool (cmp .lss (↑i) (↑((ts.getD (t) []).length))))] (se (rc 146 rfl (fun s1 => ?_) (fun s1 => ?_))))
  ·
   have v7 := s1;have s1 := BV s1;refine AL (NX (rq (rb 7 ?_)));have Z3 := V8.at i (by omega);have Z4 := carAt_len d9 ((ts.getD (t) []).getD i 0);have Z5 : (FD cs ((ts.getD (t) []).getD i 0)).len = (cs.getD ((ts.getD (t) []).getD (i) 0).toNat AM).len := rfl;refine rd0 14 (ox 2 [(150, vP b3 0), (149, vI (l2))] ?_);refine AB (dlb 151 1 0 b3 (vS a1 cs.length a3)) (ox 1 [(152, vP b3 2)] ?_);refine AB (dlb 153 1 2 b3 (vS a7 vs.length a8)) (ox 1 [(154, vI (↑t))] ?_);obtain ⟨P9, m4⟩ := n3.row undef;refine AB (di 155 1 (t) m4.addr) ?_;have n1 := b9.2 (t) (by omega);obtain ⟨O2, O4, O3, O7, n0, O5, O6, n2⟩ := id n1;rw [n0] at n1;refine AB (BD (dl 156 (m4.get (t) (by omega) 0 (by decide) _ _ (fun x hx => by simp [hx]))) n0) (ox 1 [(157, vI (↑i))] ?_);refine AB (di 158 1 (i) n2.addr) ?_;refine AB (dl 159 (BL n2 (i) (by omega))) ?_;obtain ⟨A6, m5⟩ := a9.row AM;refine AB (diI 160 6 ((ts.getD (t) []).getD (i) 0) m5.addr) (ox 1 [(161, .pointer (some ⟨A6, 0 + (((ts.getD (t) []).getD (i) 0 : Int).toNat) * 6, none⟩))] ?_);refine AB (dl 162 (m5.get (((ts.getD (t) []).getD (i) 0 : Int).toNat) (by omega) 0 (by decide) _ _ (fun x hx => by simp [hx]))) ?_;refine BF (sd (da 163 (l2) ((cs.getD (((ts.getD (t) []).getD (i) 0 : Int).toNat) AM).len)) (sp 1 [(16, vI (l2 + ((cs.getD (((ts.getD (t) []).getD (i) 0 : Int).toNat) AM).len)))] (ee (NB (NX (rr (sp 1 [(147, vI (↑i))] (sd (da 148 (↑i) (1)) (sp 1 [(17, vI (↑i + 1))] (ee ?_))))))))));refine AG ((ts.getD (t) []).length - (i+1)) (by omega) ?_;intro a w hS hD hW;exact ⟨i+1, l2 + ((cs.getD (((ts.getD (t) []).getD (i) 0 : Int).toNat) AM).len), by omega, (by rw [NP (by omega)]; omega), (by omega), hS.sub (.consE 16 rfl rfl (.consE 17 rfl rfl (.cons 0 rfl (.cons 6 rfl (.cons 7 rfl (.cons 15 rfl (.nil _))))))), hD, hW, rfl⟩
  have v7 := s1;have s1 := BZ s1;refine CD 6 ((EP (EP (EB (NX (rq (rqr (sp 2 [(165, .bool (cmp .eql (↑t) (0)))] (se (rc 165 rfl (fun s2 => ?_) (fun s2 => ?_)))))))))))
  ·
   have v8 := s2;have s2 := CY s2;refine rr (sp 2 [(167, vP p 0), (166, vI (l2))] (sS (sbs 168 3 2 #[vI (0), vI (9)] (fun r8 => (pm (M' := ((bX p #[.int .u64 (c9)] 95) :: (bX b3 #[vS a1 cs.length a3, vS a5 rm.length a6, vS a7 vs.length a8] 26) :: (bX b1 #[vN, vN, vN] 26) :: ([(bX r8 #[vI (0), vI (9)] 3)] ++ (tM ++ (a4 ++ (b7 ++ F)))))) ((PS _ _ _).trans (PC _ ((PS _ _ _).trans (PC _ (PS _ _ _))))) ?_)))));have y7 : Own 3 1 AP (vS (some ⟨r8, 0, none⟩) 2 2) ([(0 : Int), (9 : Int)] : List Int) [(bX r8 #[vI (0), vI (9)] 3)] := Own.lit rfl rfl;refine sfz (A := ((bX p #[.int .u64 (c9)] 95) :: (bX b3 #[vS a1 cs.length a3, vS a5 rm.length a6, vS a7 vs.length a8] 26) :: (bX b1 #[vN, vN, vN] 26) :: (tM ++ (a4 ++ (b7 ++ F))))) 0 y7 (PU (PU (PM.symm))) (fun G2 i8 g9 => ?_);replace b9 := b9.mono i8;obtain ⟨E0, E2, E1, E5, n5, E3, E4, E6⟩ := id g9;cases n5;have s8 := One_ct G2 (p) (c9) _ _ g9 (by simp);refine sS (sc (some 169) (F := ((bX b3 #[vS a1 cs.length a3, vS a5 rm.length a6, vS a7 vs.length a8] 26) :: (bX b1 #[vN, vN, vN] 26) :: (tM ++ (a4 ++ (b7 ++ F))))) (s8 :) (.refl _) (fun T6 G3 T0 i9 z3 => ?_));obtain ⟨m7, c5, r5, p6, C6⟩ := z3;rw [r5, p6]; clear r5 p6;replace b9 := b9.mono i9;refine nm ?_;have hl9 : 0 ≤ (c5) ∧ (c5) ≤ 9 := by
    have hq := C6;simp only [List.mem_cons, List.not_mem_nil, or_false] at hq;omega
   refine sd (da 170 (l2) ((c5))) (sp 1 [(16, vI (l2 + ((c5))))] (se ?_));have V5 : lenOf cs (ts.getD (t) []) ≤ l2 := by have hq := P0; rw [CZ (by omega)] at hq; exact hq
   have K3 := lenOf_3 d9 (ts.getD (t) []);refine rr (sp 1 [(171, vP b3 1)] (sd (dlb 172 1 1 b3 (vS a5 rm.length a6)) (sp 2 [(174, vI ((if (l2 + ((c5)) : Int) < (20 : Int) then l2 + ((c5)) else 20)))] (sS (sbs 175 3 1 #[vI ((if (l2 + ((c5)) : Int) < (20 : Int) then l2 + ((c5)) else 20))] (fun V1 => (sS (AN (d := 176) (x := (.tmp 172)) (y := (.tmp 175)) (T := 23) (T' := 23) (E := 3) (E' := 3) (sz := 1) (bs := 8) (z := vI (0)) (cell := AP) (xs := rm) (ys := [((if (l2 + ((c5)) : Int) < (20 : Int) then l2 + ((c5)) else 20) : Int)]) (Ms := b7) (ty := 23) (gd := none) (by kernel_rfl) rfl (by kernel_rfl) (by kernel_rfl) (by kernel_rfl) (by kernel_rfl) (by kernel_rfl) (by decide) (by kernel_rfl) rfl rfl (c7) (PU (PU (PU (PU (PV (PO _ _ _)))))) (BP _) (CV 0 rfl rfl) (by first | omega | (simp only [LC, LN, LA, LK, LD]; omega)) (fun Z0 o6 q8 => (AW (M' := ((bX p #[.int .u64 (m7)] 95) :: (bX b3 #[vS a1 cs.length a3, vS a5 rm.length a6, vS a7 vs.length a8] 26) :: (bX b1 #[vN, vN, vN] 26) :: (o6 ++ (tM ++ (a4 ++ F))))) (fun w h => (h.perm (PW (PW (PW PM)))).sub (TC _ (TR _))) ?_))))))))));obtain ⟨k0, l4, B7, R0⟩ := q8.shape;subst B7;refine sp 1 [(177, vP b3 1)] (sS (ss 1 1 b3 [vS k0 (rm ++ ([((if (l2 + ((c5)) : Int) < (20 : Int) then l2 + ((c5)) else 20) : Int)])).length l4] [vS a1 cs.length a3, vS k0 (rm ++ ([((if (l2 + ((c5)) : Int) < (20 : Int) then l2 + ((c5)) else 20) : Int)])).length l4, vS a7 vs.length a8] (_ :: _ :: _ :: _) (cs := [_, _, _]) rfl rfl (ee (NB (NX (rr (sp 1 [(135, vI (↑t))] (sd (da 136 (↑t) (1)) (sp 1 [(15, vI (↑t + 1))] (ee ?_))))))))));refine AG (1 + b8 - (t+1)) (by omega) ?_;intro a w hS hD hW;exact ⟨G3, t+1, rm ++ ([((if (l2 + ((c5)) : Int) < (20 : Int) then l2 + ((c5)) else 20) : Int)]), m7, vS k0 (rm ++ ([((if (l2 + ((c5)) : Int) < (20 : Int) then l2 + ((c5)) else 20) : Int)])).length l4, o6, (IT (IT (IT hJ2 f3) i8) i9), by omega, E9.snoc (by split <;> omega) (by split <;> omega), q8, hS.sub (.consE 15 rfl rfl (.cons 0 rfl (.cons 6 rfl (.cons 7 rfl (.nil _))))), hD, hW.perm (PC _ (PC _ (PC _ ((PO _ _ _).trans (PA _ (PO _ _ _)))))), rfl⟩
  have v8 := s2;have s2 := CX s2;refine AL (NX ?_);have V5 : lenOf cs (ts.getD (t) []) ≤ l2 := by have hq := P0; rw [CZ (by omega)] at hq; exact hq
  have K3 := lenOf_3 d9 (ts.getD (t) []);refine rr (sp 1 [(171, vP b3 1)] (sd (dlb 172 1 1 b3 (vS a5 rm.length a6)) (sp 2 [(174, vI ((if (l2 : Int) < (20 : Int) then l2 else 20)))] (sS (sbs 175 3 1 #[vI ((if (l2 : Int) < (20 : Int) then l2 else 20))] (fun V2 => (sS (AN (d := 176) (x := (.tmp 172)) (y := (.tmp 175)) (T := 23) (T' := 23) (E := 3) (E' := 3) (sz := 1) (bs := 8) (z := vI (0)) (cell := AP) (xs := rm) (ys := [((if (l2 : Int) < (20 : Int) then l2 else 20) : Int)]) (Ms := b7) (ty := 23) (gd := none) (by kernel_rfl) rfl (by kernel_rfl) (by kernel_rfl) (by kernel_rfl) (by kernel_rfl) (by kernel_rfl) (by decide) (by kernel_rfl) rfl rfl (c7) (PU (PU (PU (PU (PV (PO _ _ _)))))) (BP _) (CV 0 rfl rfl) (by first | omega | (simp only [LC, LN, LA, LK, LD]; omega)) (fun Z1 o7 q9 => (AW (M' := ((bX p #[.int .u64 (c9)] 95) :: (bX b3 #[vS a1 cs.length a3, vS a5 rm.length a6, vS a7 vs.length a8] 26) :: (bX b1 #[vN, vN, vN] 26) :: (o7 ++ (tM ++ (a4 ++ F))))) (fun w h => (h.perm (PW (PW (PW PM)))).sub (TC _ (TR _))) ?_))))))))));obtain ⟨k1, l5, B8, R1⟩ := q9.shape;subst B8;refine sp 1 [(177, vP b3 1)] (sS (ss 1 1 b3 [vS k1 (rm ++ ([((if (l2 : Int) < (20 : Int) then l2 else 20) : Int)])).length l5] [vS a1 cs.length a3, vS k1 (rm ++ ([((if (l2 : Int) < (20 : Int) then l2 else 20) : Int)])).length l5, vS a7 vs.length a8] (_ :: _ :: _ :: _) (cs := [_, _, _]) rfl rfl (ee (NB (NX (rr (sp 1 [(135, vI (↑t))] (sd (da 136 (↑t) (1)) (sp 1 [(15, vI (↑t + 1))] (ee ?_))))))))));refine AG (1 + b8 - (t+1)) (by omega) ?_;intro a w hS hD hW;exact ⟨u5, t+1, rm ++ ([((if (l2 : Int) < (20 : Int) then l2 else 20) : Int)]), c9, vS k1 (rm ++ ([((if (l2 : Int) < (20 : Int) then l2 else 20) : Int)])).length l5, o7, (IT hJ2 f3), by omega, E9.snoc (by split <;> omega) (by split <;> omega), q9, hS.sub (.consE 15 rfl rfl (.cons 0 rfl (.cons 6 rfl (.cons 7 rfl (.nil _))))), hD, hW.perm (PC _ (PC _ (PC _ ((PO _ _ _).trans (PA _ (PO _ _ _)))))), rfl⟩
 have v6 := s0;have s0 := BZ s0;refine CD 4 ((EP (EP (EB (NX (rqr (sd (dnb 178 1 0 b3 [vS a1 cs.length a3, vS a5 rm.length a6, vS a7 vs.length a8]) (sS (ss 2 0 b1 [vS a1 cs.length a3, vS a5 rm.length a6, vS a7 vs.length a8] [vS a1 cs.length a3, vS a5 rm.length a6, vS a7 vs.length a8] (_ :: _ :: _ :: _) (cs := [_, _, _]) rfl rfl (se (BM (ppm (M' := ((bX p #[.int .u64 (u7)] 95) :: (a4 ++ (b7 ++ (tM ++ (bX b3 #[vS a1 cs.length a3, vS a5 rm.length a6, vS a7 vs.length a8] 26) :: (bX b1 #[vS a1 cs.length a3, vS a5 rm.length a6, vS a7 vs.length a8] 26) :: F))))) (PC _ ((PU (PU (PO _ _ _))).trans (PA _ ((PU (PU (PO _ _ _))).trans (PA _ (PU (PM.symm))))))) (FR (t := 6) (T := 26) (n := 3) ([(bX p #[.int .u64 (u7)] 95)] ++ (a4 ++ (b7 ++ (tM)))) (by kernel_rfl) rfl (by kernel_rfl) rfl (BX (n := 3) (cs := #[vS a1 cs.length a3, vS a5 rm.length a6, vS a7 vs.length a8]) (b := b1) (off := 0) (T := 26) (fz := (0, 0)) (vs := [vS a1 cs.length a3, vS a5 rm.length a6, vS a7 vs.length a8]) (by simp) rfl) (.inl ⟨by kernel_rfl, rfl⟩) (by simp only [AA, NA, CA]; exact (TK _ (TA (TA (TA (TC _ (TC _ (TR _))) _) _) _))) (IT (IT (IT (IT (IT K4 hJ0) t3) hJ1) t7) hJ2) ?_)))))))))))));exact ⟨_, ⟨cs, rm, ts⟩, _, _, _, _, _, _, _, rfl, rfl, drawn_valid d9 t9 ((show t = 1 + b8 by omega) ▸ E9) (by omega) (by omega), (by show cs.length ≤ c; omega), a9, c7, n3, b9⟩
end Go.Proofs.YtcaocbhbofejnaaGreatDoor
namespace Go.Sh
open Go Go.Sl
theorem perm_sum {l m : List Int} (h : l.Perm m) : l.sum = m.sum := by
  induction h with
  | nil => rfl
  | cons x _ ih => simp [ih]
  | swap x y l => simp only [List.sum_cons]; omega
  | trans _ _ h1 h2 => exact h1.trans h2
theorem erase_perm {α : Type} {d : α} {l : List α} {i : Nat} (h : i < l.length) : (l.getD i d :: l.eraseIdx i).Perm l := by
  have e : l = l.take i ++ l.getD i d :: l.drop (i + 1) := by rw [← BI h, List.take_append_drop]
  rw [← KR];exact (List.perm_middle.symm).trans (List.Perm.of_eq e.symm)
structure Blk (cs : List Car) (bl : List (List Int)) : Prop where
  one : ∀ b ∈ bl, ∀ x ∈ b, ∀ y ∈ b, grp cs x = grp cs y
  apart : bl.Pairwise fun b c => ∀ x ∈ b, ∀ y ∈ c, 0 < grp cs x → grp cs x ≠ grp cs y
theorem Blk.perm {cs : List Car} {bl bl' : List (List Int)} (h : Blk cs bl) (p : bl.Perm bl') : Blk cs bl' :=
  ⟨fun b hb => h.one b (p.mem_iff.2 hb), (p.pairwise_iff (fun {b c} hbc x hx y hy h0 e => hbc y hy x hx (by omega) e.symm)).1 h.apart⟩
def RowOk (cs : List Car) (t : List Int) : Prop := ∀ k, k < t.length → 0 < grp cs (t.getD k 0) → (∃ c ∈ t.take k, grp cs c = grp cs (t.getD k 0)) → 0 < k ∧ grp cs (t.getD (k - 1) 0) = grp cs (t.getD k 0)
theorem PG {a b : List Int} {k : Nat} : (a ++ b).getD k 0 = if k < a.length then a.getD k 0 else b.getD (k - a.length) 0 := by
  simp only [List.getD]
  split
  · rename_i h; rw [List.getElem?_append_left h]
  · rename_i h; rw [List.getElem?_append_right (by omega)]
theorem Blk.row {cs : List Car} : ∀ {bl : List (List Int)}, Blk cs bl → RowOk cs bl.flatten := by
  intro bl
  induction bl with
  | nil => intro _ k hk; simp at hk
  | cons b r ih =>
    intro h k hk h0 hc;have ih := ih ⟨fun b hb => h.one b (List.mem_cons_of_mem _ hb), (List.pairwise_cons.1 h.apart).2⟩;rw [List.flatten_cons] at hk h0 hc ⊢;obtain ⟨c, hc, e⟩ := hc
    by_cases hkb : k < b.length
    · have e0 : (b ++ r.flatten).getD k 0 = b.getD k 0 := by rw [PG, if_pos hkb]
      rw [List.take_append_of_le_length (by omega)] at hc;have hk0 : 0 < k := by
        rcases Nat.eq_zero_or_pos k with hz | hz
        · subst hz; simp at hc
        · exact hz
      refine ⟨hk0, ?_⟩;rw [e0, PG, if_pos (by omega)];exact h.one b List.mem_cons_self _ (AH (by omega)) _ (AH hkb)
    · have e0 : (b ++ r.flatten).getD k 0 = r.flatten.getD (k - b.length) 0 := by rw [PG, if_neg hkb]
      rw [e0] at h0 e ⊢;have hk2 : k - b.length < r.flatten.length := by rw [List.length_append] at hk; omega
      have hmem : r.flatten.getD (k - b.length) 0 ∈ r.flatten := AH hk2;rw [List.take_append, List.take_of_length_le (by omega)] at hc;rcases List.mem_append.1 hc with hc | hc
      · exfalso
        obtain ⟨b2, hb2, hm2⟩ := List.mem_flatten.1 hmem;exact (List.pairwise_cons.1 h.apart).1 b2 hb2 c hc _ hm2 (by omega) e
      · obtain ⟨i1, i2⟩ := ih (k - b.length) hk2 h0 ⟨c, hc, e⟩
        refine ⟨by omega, ?_⟩;rw [PG, if_neg (by omega), show k - 1 - b.length = k - b.length - 1 by omega];exact i2
theorem NE {cs : List Car} {t : List Int} {k : Nat} (hk : k < t.length) (h0 : 0 < grp cs (t.getD k 0)) (h1 : 0 < k) (e : grp cs (t.getD (k - 1) 0) = grp cs (t.getD k 0)) : BR cs t ↑k = true := by
  rw [coupled_raw hk, show ((k : Int) - 1).toNat = k - 1 by omega, decide_eq_true (show 0 < (k : Int) by omega), decide_eq_true (show 0 < (FD cs (t.getD k 0)).grp from h0), decide_eq_true (show (FD cs (t.getD k 0)).grp = (FD cs (t.getD (k - 1) 0)).grp from e.symm)];rfl
theorem coupled_to {cs : List Car} {t : List Int} {k : Nat} (hk : k < t.length) (h : BR cs t ↑k = true) : 0 < k ∧ 0 < grp cs (t.getD k 0) ∧ grp cs (t.getD k 0) = grp cs (t.getD (k - 1) 0) := by
  rw [coupled_raw hk, show ((k : Int) - 1).toNat = k - 1 by omega] at h;simp only [Bool.and_eq_true, decide_eq_true_eq] at h;exact ⟨by omega, h.2.1, h.2.2⟩
theorem blocks_blk {cs : List Car} {t : List Int} (h : ∀ k, k < t.length → 0 < grp cs (t.getD k 0) → (∃ c ∈ t.take k, grp cs c = grp cs (t.getD k 0)) → BR cs t ↑k = true) :
    ∀ k, k ≤ t.length → Blk cs (BC cs t k) ∧ (0 < k → ∃ ys y, BC cs t k = ys ++ [y] ∧ t.getD (k - 1) 0 ∈ y) := by
  intro k
  induction k with
  | zero => intro _; exact ⟨⟨fun b hb => by simp [BC] at hb, by simp [BC]⟩, fun h => by omega⟩
  | succ k ih =>
    intro hk;obtain ⟨hb, hl⟩ := ih (by omega)
    by_cases hc : BR cs t ↑k = true
    · obtain ⟨c1, c2, c3⟩ := coupled_to (by omega) hc
      obtain ⟨ys, y, e, hy⟩ := hl c1;have e2 : BC cs t (k + 1) = ys ++ [y ++ [t.getD k 0]] := by
        rw [OD hc, e];simp [List.getD]
      rw [e2];rw [e] at hb;have ho := hb.one;have ha := List.pairwise_append.1 hb.apart;refine ⟨⟨fun b hb2 => ?_, List.pairwise_append.2 ⟨ha.1, by simp, fun b hb2 c hc2 => ?_⟩⟩, fun _ => ⟨ys, _, rfl, by simp⟩⟩
      · rcases List.mem_append.1 hb2 with hb2 | hb2
        · exact ho b (List.mem_append_left _ hb2)
        · have hb2 := List.mem_singleton.1 hb2
          subst hb2;have key : ∀ x ∈ y ++ [t.getD k 0], grp cs x = grp cs (t.getD (k - 1) 0) := fun x hx => by
            rcases List.mem_append.1 hx with hx | hx
            · exact ho y (by simp) x hx _ hy
            · have hx := List.mem_singleton.1 hx; subst hx; exact c3
          intro x hx z hz;rw [key x hx, key z hz]
      · have hc2 := List.mem_singleton.1 hc2
        subst hc2;intro x hx z hz h0;rcases List.mem_append.1 hz with hz | hz
        · exact ha.2.2 b hb2 y (by simp) x hx z hz h0
        · have hz := List.mem_singleton.1 hz; subst hz
          rw [c3];exact ha.2.2 b hb2 y (by simp) x hx _ hy h0
    · have hc' : BR cs t ↑k = false := by simpa using hc
      rw [blocksTo_no hc'];refine ⟨⟨fun b hb2 => ?_, List.pairwise_append.2 ⟨hb.apart, by simp, fun b hb2 c hc2 => ?_⟩⟩, fun _ => ⟨_, _, rfl, by simp⟩⟩
      · rcases List.mem_append.1 hb2 with hb2 | hb2
        · exact hb.one b hb2
        · have hb2 := List.mem_singleton.1 hb2
          subst hb2;intro x hx z hz;rw [List.mem_singleton.1 hx, List.mem_singleton.1 hz]
      · have hc2 := List.mem_singleton.1 hc2
        subst hc2;intro x hx z hz h0 e;have hz := List.mem_singleton.1 hz; subst hz;refine hc (h k (by omega) (by omega) ⟨x, ?_, e⟩);rw [← MA k (by omega)];exact List.mem_flatten.2 ⟨b, hb2, hx⟩
theorem rowsN_perm : ∀ (n : Nat) (bl : List (List Int)), bl.length = n → ∀ x ∈ FN n bl, ∃ bl' : List (List Int), bl'.Perm bl ∧ x = bl'.flatten := by
  intro n
  induction n with
  | zero => intro bl h x hx; simp [FN, ordN] at hx; subst hx; exact ⟨[], by rw [List.length_eq_zero_iff.1 h], rfl⟩
  | succ n ih =>
    intro bl h x hx;simp only [FN, ordN, HS, List.mem_flatMap, List.mem_map] at hx;obtain ⟨i, hi, y, hy, rfl⟩ := hx;have hi := List.mem_range'_1.1 hi;obtain ⟨bl', hp, rfl⟩ := ih _ (IQ (k := i) (by omega) h) y hy;refine ⟨bl.getD i [] :: bl', ?_, rfl⟩;refine (List.Perm.cons _ hp).trans ?_;have hb : i < bl.length := by omega
    exact erase_perm hb
theorem Fine.row {Y : Yard} (f : Fine Y) {r : List Int} (hr : r ∈ FN (blocksOf Y.cars (trk Y 0)).length (blocksOf Y.cars (trk Y 0))) : Valid { Y with tracks := Y.tracks.set 0 r } ∧ r.Perm (trk Y 0) := by
  have hlen := f.len; have hr1 := f.room1;obtain ⟨t, ts, ht⟩ : ∃ t ts, Y.tracks = t :: ts := by
    cases hh : Y.tracks with
    | nil => rw [hh] at hlen; simp at hlen; omega
    | cons t ts => exact ⟨t, ts, rfl⟩
  have ht0 : trk Y 0 = t := by show Y.tracks.getD 0 [] = t; rw [ht]; rfl
  rw [ht0] at hr ⊢;have hg := groups_iff.1 f.groups;have hrow : ∀ k, k < t.length → 0 < grp Y.cars (t.getD k 0) → (∃ c ∈ t.take k, grp Y.cars c = grp Y.cars (t.getD k 0)) → BR Y.cars t ↑k = true := fun k hk h0 hc => by
    have := hg 0 k (by rw [ht]; simp) (by rw [ht]; simpa using hk) (by rw [ht]; simpa using h0) (.inr (by rw [ht]; simpa using hc));rw [ht] at this; simpa using this
  obtain ⟨hb, _⟩ := blocks_blk hrow t.length (Nat.le_refl _);obtain ⟨bl', hp, rfl⟩ := rowsN_perm _ _ rfl r hr;have hflat : (blocksOf Y.cars t).flatten = t := by
    have := MA (cs := Y.cars) (t := t) t.length (Nat.le_refl _);rw [List.take_length] at this; exact this
  have hperm : bl'.flatten.Perm t := by
    have := hp.flatten;rw [hflat] at this; exact this
  have hrok := (Blk.perm hb hp.symm).row;refine ⟨Fine.valid ⟨f.cars, f.carOk, f.room1, f.room3, f.roomOk, by rw [List.length_set]; exact f.len, ?_, ?_, ?_, ?_, ?_⟩, hperm⟩
  all_goals simp only [ht, List.set_cons_zero]
  · intro x hx c hc
    have hok := f.ok;rw [ht] at hok;rcases List.mem_cons.1 hx with e | hx
    · subst e; exact hok t List.mem_cons_self c (hperm.mem_iff.1 hc)
    · exact hok x (List.mem_cons_of_mem _ hx) c hc
  · have hn := f.nodup
    rw [ht] at hn;rw [List.flatten_cons] at hn ⊢;exact (List.Perm.append_right _ hperm).nodup_iff.2 hn
  · intro k hk
    have hf := f.fits;rw [ht] at hf;cases k with
    | zero =>
      have := hf 0 (by simp);rw [List.getD_cons_zero] at this ⊢;have e : lenOf Y.cars bl'.flatten = lenOf Y.cars t := by
        unfold lenOf; exact perm_sum (hperm.map _)
      rw [e]; exact this
    | succ k => simpa using hf (k + 1) (by simpa using hk)
  · have ha := f.all
    rw [ht] at ha;rw [List.flatten_cons, List.length_append] at ha ⊢;rw [hperm.length_eq]; exact ha
  · refine groups_iff.2 ?_
    show GrpFrom Y.cars (bl'.flatten :: ts) [];intro i k hi hk h0 hm;rcases hm with hm | ⟨c, hc, e⟩
    · simp at hm
    · cases i with
      | zero =>
        simp only [List.getD_cons_zero, List.take_zero, List.flatten_nil, List.nil_append] at hk h0 hc e ⊢;obtain ⟨h1, h2⟩ := hrok k hk h0 ⟨c, hc, e⟩;exact NE hk h0 h1 h2
      | succ i =>
        have := hg (i + 1) k (by rw [ht]; simpa using hi) (by rw [ht]; simpa using hk) (by rw [ht]; simpa using h0) (.inr ⟨c, by
          rw [ht]
          simp only [List.take_succ_cons, List.flatten_cons, List.getD_cons_succ, List.mem_append] at hc ⊢
          rcases hc with (hc | hc) | hc
          · exact .inl (.inl (hperm.mem_iff.1 hc))
          · exact .inl (.inr hc)
          · exact .inr hc, by rw [ht]; simpa using e⟩)
        rw [ht] at this; simpa using this
theorem playFrom_kin : ∀ (l : List Shift) {Y Z : Yard}, BS Y l = (Z, 0) → Kin Y Z := by
  intro l
  induction l with
  | nil => intro Y Z h; simp only [BS, Prod.mk.injEq, and_true] at h; subst h; exact Kin.refl _
  | cons s l ih =>
    intro Y Z h;simp only [BS] at h
    split at h
    · rename_i hm; exact (MI hm).trans (ih h)
    · rename_i hm; simp only [Prod.mk.injEq] at h; exact absurd h.2 hm
theorem MX {l : List Int} {n : Nat} (hn : l.Nodup) (hr : ∀ x ∈ l, 0 ≤ x ∧ x < (n : Int)) (hl : n ≤ l.length) : l.Perm (DB n) := by
  refine (List.perm_ext_iff_of_nodup hn ((GN _).imp fun hab => by omega)).2 fun x => ⟨fun hx => mem_wholeL.2 (hr x hx), fun hx => ?_⟩
  by_cases hm : x ∈ l
  · exact hm
  · have := JI (l := x :: l) (n := n) (List.nodup_cons.2 ⟨hm, hn⟩) (fun c hc => by
      rcases List.mem_cons.1 hc with rfl | hc
      · exact mem_wholeL.1 hx
      · exact hr c hc)
    simp only [List.length_cons] at this;omega
theorem Fine.whole_perm {Y : Yard} (f : Fine Y) : Y.tracks.flatten.Perm (DB Y.cars.length) :=
  MX f.nodup (fun x hx => IU f.ok x hx) f.all
theorem goO_fine {n : Nat} : ∀ (o pre : List Int), (pre ++ o).Nodup → (∀ c ∈ o, 0 ≤ c ∧ c < n) → goO n pre o = 0 := by
  intro o
  induction o with
  | nil => intro pre _ _; rfl
  | cons c r ih =>
    intro pre hn hr;simp only [goO];have h1 := hr c (by simp)
    rw [if_pos (by simp [inB]; omega), if_neg (fun hc => by
      have := (List.nodup_append.1 hn).2.2 c hc c (by simp)
      exact this rfl)]
    exact ih (pre ++ [c]) (by rw [List.append_assoc]; exact hn) (fun x hx => hr x (by simp [hx]))
def CM (Y : Yard) : Int :=
  if 5 < Y.cars.length then 6 else
  if Y.cars.all (fun c => decide (CW c = 0)) then
    (if Y.room.length = 0 then 7 else if 3 < Y.room.length then 6 else if Y.room.all (fun n => inB n 0 20) then 0 else 1)
  else 1
theorem checkErr_split (Y : Yard) : AJ Y = if CM Y = 0 then DW Y else CM Y := by
  unfold AJ CM
  by_cases h1 : 5 < Y.cars.length
  · rw [if_pos h1, if_pos h1, if_neg (by decide)]
  · rw [if_neg h1, if_neg h1]
    cases h2 : Y.cars.all (fun c => decide (CW c = 0)) with
    | false => simp
    | true =>
      simp only [if_true]
      by_cases h3 : Y.room.length = 0
      · rw [if_pos h3, if_pos h3, if_neg (by decide)]
      · rw [if_neg h3, if_neg h3]
        by_cases h4 : 3 < Y.room.length
        · rw [if_pos h4, if_pos h4, if_neg (by decide)]
        · rw [if_neg h4, if_neg h4]
          cases h5 : Y.room.all (fun n => inB n 0 20) <;> simp
section
variable {Y : Yard} {k : Nat}
theorem coachErr_many (h : 5 < Y.cars.length) : CM Y = 6 := by rw [CM, if_pos h]
theorem coachErr_car (h : ¬ 5 < Y.cars.length) (hk : k < Y.cars.length) (hc : CW (Y.cars.getD k AM) ≠ 0) : CM Y = 1 := by
  rw [CM, if_neg h, if_neg];intro hall;have := List.all_eq_true.1 hall _ (AH (d := AM) hk);exact hc (of_decide_eq_true this)
theorem coachErr_few (h : ¬ 5 < Y.cars.length) (hc : ∀ c ∈ Y.cars, CW c = 0) (h0 : Y.room.length = 0) : CM Y = 7 := by rw [CM, if_neg h, if_pos (JU hc), if_pos h0]
theorem coachErr_many2 (h : ¬ 5 < Y.cars.length) (hc : ∀ c ∈ Y.cars, CW c = 0) (h0 : 3 < Y.room.length) : CM Y = 6 := by rw [CM, if_neg h, if_pos (JU hc), if_neg (by omega), if_pos h0]
theorem coachErr_room (h : ¬ 5 < Y.cars.length) (hc : ∀ c ∈ Y.cars, CW c = 0) (h0 : ¬ Y.room.length = 0) (h1 : ¬ 3 < Y.room.length) (hk : k < Y.room.length) (hb : inB (Y.room.getD k 0) 0 20 = false) : CM Y = 1 := by
  rw [CM, if_neg h, if_pos (JU hc), if_neg h0, if_neg h1, if_neg];intro hall;have := List.all_eq_true.1 hall _ (AH (d := 0) hk);rw [hb] at this; cases this
theorem coachErr_ok (h : ¬ 5 < Y.cars.length) (hc : ∀ c ∈ Y.cars, CW c = 0) (h0 : ¬ Y.room.length = 0) (h1 : ¬ 3 < Y.room.length) (hm : ∀ n ∈ Y.room, inB n 0 20 = true) : CM Y = 0 := by
  rw [CM, if_neg h, if_pos (JU hc), if_neg h0, if_neg h1, if_pos (List.all_eq_true.2 hm)]
end
def cntG (cs : List Car) (g : Int) : Nat := (cs.filter fun c => decide (c.grp = g)).length
theorem cntG_succ {cs : List Car} {g : Int} {k : Nat} (hk : k < cs.length) : cntG (cs.take (k + 1)) g = cntG (cs.take k) g + if (cs.getD k AM).grp = g then 1 else 0 := by
  unfold cntG;rw [CP (d := AM) hk, List.filter_append, List.length_append]
  congr 1
  by_cases h : (cs.getD k AM).grp = g
  · rw [List.filter_cons, if_pos (decide_eq_true h), if_pos h]; rfl
  · rw [List.filter_cons, if_neg (by simp only [decide_eq_true_eq]; exact h), if_neg h]; rfl
def rowS (cs : List Car) (g : Int) (s : Nat × Nat) (c : Int) : Nat × Nat :=
  let row := if grp cs c = g then s.1 + 1 else 0
  (row, max s.2 row)
def rowT (cs : List Car) (g : Int) (most : Nat) (t : List Int) : Nat × Nat := t.foldl (rowS cs g) (0, most)
def mostTo (cs : List Car) (g : Int) (ts : List (List Int)) : Nat := ts.foldl (fun most t => (rowT cs g most t).2) 0
def FH (Y : Yard) (g : Int) : Bool := decide ((mostTo Y.cars g Y.tracks : Int) = (cntG Y.cars g : Int))
theorem rowT_succ {cs : List Car} {g : Int} {m : Nat} {t : List Int} {k : Nat} (hk : k < t.length) : rowT cs g m (t.take (k + 1)) = rowS cs g (rowT cs g m (t.take k)) (t.getD k 0) := by
  unfold rowT;rw [CP (d := 0) hk, List.foldl_append]; rfl
theorem mostTo_succ {cs : List Car} {g : Int} {ts : List (List Int)} {k : Nat} (hk : k < ts.length) : mostTo cs g (ts.take (k + 1)) = (rowT cs g (mostTo cs g (ts.take k)) (ts.getD k [])).2 := by
  unfold mostTo;rw [CP (d := []) hk, List.foldl_append]; rfl
theorem rowS_yes {cs : List Car} {g c : Int} {r m : Nat} (h : grp cs c = g) : rowS cs g (r, m) c = (r + 1, max m (r + 1)) := by simp only [rowS, if_pos h]
theorem rowS_no {cs : List Car} {g c : Int} {r m : Nat} (h : grp cs c ≠ g) : rowS cs g (r, m) c = (0, max m 0) := by simp only [rowS, if_neg h]
def refG (Y : Yard) : Int := if FH Y 1 && (FH Y 2 && FH Y 3) then 0 else 12
theorem refG_hit {Y : Yard} {g : Nat} (h1 : 1 ≤ g) (h3 : g ≤ 3) (h : FH Y ↑g = false) : refG Y = 12 := by
  unfold refG;rw [if_neg];intro hh;simp only [Bool.and_eq_true] at hh;have : g = 1 ∨ g = 2 ∨ g = 3 := by omega
  rcases this with rfl | rfl | rfl
  · have h2 := hh.1; rw [show ((1 : Int)) = ((1 : Nat) : Int) from rfl, h] at h2; cases h2
  · have h2 := hh.2.1; rw [show ((2 : Int)) = ((2 : Nat) : Int) from rfl, h] at h2; cases h2
  · have h2 := hh.2.2; rw [show ((3 : Int)) = ((3 : Nat) : Int) from rfl, h] at h2; cases h2
theorem refG_ok {Y : Yard} (h : ∀ g : Nat, 1 ≤ g → g < 4 → FH Y ↑g = true) : refG Y = 0 := by
  unfold refG;rw [if_pos];simp only [Bool.and_eq_true];exact ⟨h 1 (by omega) (by omega), h 2 (by omega) (by omega), h 3 (by omega) (by omega)⟩
def FG (Y : Yard) : Int :=
  if Y.tracks.length = Y.room.length then CJ Y.cars (fun met => if met.length < Y.cars.length then 7 else refG Y) Y.tracks Y.room [] else 2
theorem met_snoc {met : List Int} {c : Int} (h : met.Nodup) (hc : ¬ c ∈ met) : (met ++ [c]).Nodup := List.nodup_append.2 ⟨h, by simp, fun a ha b hb => by simp at hb; subst hb; intro e; subst e; exact hc ha⟩
theorem met_in {met : List Int} {c : Int} {n : Nat} (h : ∀ x ∈ met, 0 ≤ x ∧ x < (n : Int)) (hc : 0 ≤ c ∧ c < (n : Int)) : ∀ x ∈ met ++ [c], 0 ≤ x ∧ x < (n : Int) := fun x hx => by
  rcases List.mem_append.1 hx with hx | hx
  · exact h x hx
  · simp at hx; subst hx; exact hc
def PJ (Y : Yard) : Int := if CM Y = 0 then FG Y else CM Y
theorem coachErr_zero {Y : Yard} (h : CM Y = 0) : Small Y.cars ∧ Y.cars.length ≤ 5 := by
  unfold CM at h
  split at h
  · cases h
  · rename_i h1
    split at h
    · rename_i h2
      exact ⟨LW fun c hc => of_decide_eq_true (List.all_eq_true.1 h2 c hc), by omega⟩
    · cases h
theorem coupled_at {cs : List Car} {t : List Int} {j : Int} (h0 : 0 < j) (h1 : j ≤ ↑t.length - 1) : BR cs t j = (cmp .gtr ((cs.getD ((t.getD (j.toNat) 0).toNat) AM).grp) 0 && cmp .eql ((cs.getD ((t.getD (j.toNat) 0).toNat) AM).grp) ((cs.getD ((t.getD ((j - 1).toNat) 0).toNat) AM).grp)) := by
  have e : inB j 1 (↑t.length - 1) = true := by simp [inB]; omega
  simp only [BR, FD, cmp_gtr, cmp_eql, e, Bool.true_and];rfl
theorem coupled_zero {cs : List Car} {t : List Int} {j : Int} (h0 : j ≤ 0) : BR cs t j = false := by
  have e : inB j 1 (↑t.length - 1) = false := by simp [inB]; omega
  simp only [BR, e, Bool.false_and]
theorem mayErr_12 {Y : Yard} {s : Shift} {n : Nat} (hn : n = Y.tracks.length) (h : (!(inB s.frm 0 (↑n - 1)) || !(inB s.to 0 (↑n - 1))) = true) : BE Y s = 3 := by
  cases h1 : inB s.frm 0 (↑n - 1) with
  | false => exact mayErr_1 hn h1
  | true =>
    rw [h1] at h;simp only [Bool.not_true, Bool.false_or] at h;exact mayErr_2 hn h1 (by simpa using h)
end Go.Sh
namespace Go.Proofs.YtcaocbhbofejnaaGreatDoor
open Go Go.Sl Go.Sh
set_option maxRecDepth 100000
noncomputable def c_between (p : List Nat) : Code := sub (AV Tryz.f87) p
theorem EW (I : Imm) (n : Int) (lo : Int) (hi : Int) : CtV Tryz.prog 87 #[vI n, vI lo, vI hi] I (.bool (inB n lo hi)) := by
 refine fr (args := [_, _, _]) (N := 15) Tryz.func87 (fun F => ?_);show Run _ _ (c_between []) _ _ [(0, vI (n)), (1, vI (lo)), (2, vI (hi))] _ _;refine rnm (rqr ?_);refine sp 1 [(6, .bool (false))] (se (rq ?_));refine FO (fun a w => Slots 15 [(6, .bool ((cmp .leq (lo) (n)) && (cmp .leq (n) (hi))))] a ∧ a.defers = [] ∧ St I (F) w) ?_ ?_
 ·
  refine rr (sp 4 [(10, .bool (cmp .leq (lo) (n)))] ?_);refine CC 10 rfl (fun h1 => ?_) (fun h1 => ?_)
  ·
   have a0 := h1;have a0 := leq_t a0;refine sp 5 [(6, .bool (cmp .leq (n) (hi)))] (ee ?_);refine BG (fun a w hS hD hW => ⟨hS.sub (.consE 6 rfl (congrArg Value.bool (by simp only [h1, kA, kB, kC, kD, kE, kF, kG, kH, kI, kJ])) (.nil _)), hD, hW⟩)
  have a0 := h1;have a0 := leq_f a0;refine sp 5 [(6, .bool (false))] (ee ?_);refine BG (fun a w hS hD hW => ⟨hS.sub (.consE 6 rfl (congrArg Value.bool (by simp only [h1, kA, kB, kC, kD, kE, kF, kG, kH, kI, kJ])) (.nil _)), hD, hW⟩)
 rintro a w ⟨hS, hD, hW⟩
 refine AX hS hD hW ?_;clear hS hD hW a w;refine BM (AF (t := 6) [] (by kernel_rfl) rfl (TR _) (IR _) ?_);exact ⟨by simp [inB, cmp], rfl⟩
noncomputable def c_has (p : List Nat) : Code := sub (AV Tryz.f133) p
theorem has_ct (I : Imm) (a : Value) (xs : List Int) (n : Int) (a_f : AZ I a xs) : CtV Tryz.prog 133 #[a, vI n] I (.bool (decide (n ∈ xs))) := by
 obtain ⟨a0, a1, a6, a9, a5, a7, a8, a4⟩ := id a_f;subst a5;refine fr (args := [_, _]) (N := 18) Tryz.func133 (fun F => ?_);show Run _ _ (c_has []) _ _ [(0, vS a0 xs.length a1), (1, vI (n))] _ _;refine rnm (rqr ?_);refine sp 1 [(4, .bool (false))] (se (rq (rqr (sp 1 [(5, vI (0))] (se (rb 0 ?_))))));refine rl (fun mz a w => ∃ k : Nat, (k ≤ xs.length) ∧ (n ∉ xs.take k) ∧ Slots 18 [(5, vI ↑k), (0, vS a0 xs.length a1), (1, vI (n))] a ∧ a.defers = [] ∧ St I (F) w ∧ mz = xs.length - k) ?_ ?_
 ·intro a w hS hD hW;exact ⟨_, 0, Nat.zero_le _, by simp, hS.sub (.cons 5 rfl (.cons 0 rfl (.cons 1 rfl (.nil _)))), hD, hW, rfl⟩
 rintro mz a w ⟨k, hk, hn, hS, hD, hW, rfl⟩
 refine AX hS hD hW ?_;clear hS hD hW a w;refine rq (rqr (sp 4 [(9, .bool (cmp .lss (↑k) (↑(xs.length))))] (se (rc 9 rfl (fun h1 => ?_) (fun h1 => ?_)))))
 ·
  have a2 := h1;have h1 := BV h1;refine AL (NX (rq (rb 1 (rqr (sp 2 [(13, vI (↑k)), (12, vS a0 xs.length a1)] (sd (di 14 1 (k) a4.addr) (sd (dl 15 (BL a4 (k) (by omega))) (sp 2 [(17, .bool (cmp .eql (xs.getD (k) 0) (n)))] (se (rc 17 rfl (fun h2 => ?_) (fun h2 => ?_)))))))))))
  ·
   have a3 := h2;have h2 := CY h2;refine rqr (sp 1 [(4, .bool (true))] (se (BM ((RB (RP (RP (RB (RP (AF (t := 4) [] (by kernel_rfl) rfl (TR _) (IR _) ?_))))))))));exact ⟨congrArg Value.bool (decide_eq_true (h2 ▸ AH (by omega))).symm, rfl⟩
  have a3 := h2;have h2 := CX h2;refine AL (NB (NX (rr (sp 1 [(10, vI (↑k))] (sd (da 11 (↑k) (1)) (sp 1 [(5, vI (↑k + 1))] (ee ?_)))))));refine AG (xs.length - (k+1)) (by omega) ?_;intro a w hS hD hW;exact ⟨k+1, by omega, MN hn (by omega) (fun e => h2 e), hS.sub (.consE 5 rfl rfl (.cons 0 rfl (.cons 1 rfl (.nil _)))), hD, hW, rfl⟩
 have a2 := h1;have h1 := BZ h1;refine CD 0 ((EP (EP (EB (NX (rqr (sp 1 [(4, .bool (false))] (se (BM (AF (t := 4) [] (by kernel_rfl) rfl (TR _) (IR _) ?_))))))))));exact ⟨congrArg Value.bool (decide_eq_false (fun hm => hn (by rw [CZ (by omega)]; exact hm))).symm, rfl⟩
noncomputable def c_same (p : List Nat) : Code := sub (AV Tryz.f136) p
theorem same_ct (I : Imm) (a : Value) (xs : List Int) (b : Value) (ys : List Int) (a_f : AZ I a xs) (b_f : AZ I b ys) : CtV Tryz.prog 136 #[a, b] I (.bool (decide (xs = ys))) := by
 obtain ⟨a0, a1, b1, b4, a9, b2, b3, a7⟩ := id a_f;subst a9;obtain ⟨a2, a3, b5, b8, b0, b6, b7, a8⟩ := id b_f;subst b0;refine fr (args := [_, _]) (N := 26) Tryz.func136 (fun F => ?_);show Run _ _ (c_same []) _ _ [(0, vS a0 xs.length a1), (1, vS a2 ys.length a3)] _ _;refine rnm (rqr ?_);refine sp 1 [(4, .bool (false))] (se (rq (rqr (sp 5 [(10, .bool (!(cmp .eql (↑(xs.length)) (↑(ys.length)))))] (se (rc 10 rfl (fun h1 => ?_) (fun h1 => ?_)))))))
 ·
  have a4 := h1;have h1 := CX (CR h1);refine rqr (sp 1 [(4, .bool (false))] (se (BM ((RP (AF (t := 4) [] (by kernel_rfl) rfl (TR _) (IR _) ?_))))));exact ⟨by rw [decide_eq_false (fun e => h1 (by rw [e]))], rfl⟩
 have a4 := h1;have h1 := CY (CF h1);refine AL (NX (rq (rqr (sp 1 [(5, vI (0))] (se (rb 0 ?_))))));refine rl (fun mz a w => ∃ k : Nat, (k ≤ xs.length) ∧ (xs.length = ys.length) ∧ (xs.take k = ys.take k) ∧ Slots 26 [(5, vI ↑k), (0, vS a0 xs.length a1), (1, vS a2 ys.length a3)] a ∧ a.defers = [] ∧ St I (F) w ∧ mz = xs.length - k) ?_ ?_
 ·intro a w hS hD hW;exact ⟨_, 0, Nat.zero_le _, by omega, rfl, hS.sub (.cons 5 rfl (.cons 0 rfl (.cons 1 rfl (.nil _)))), hD, hW, rfl⟩
 rintro mz a w ⟨k, hk, hl, ht, hS, hD, hW, rfl⟩
 refine AX hS hD hW ?_;clear hS hD hW a w;refine rq (rqr (sp 4 [(14, .bool (cmp .lss (↑k) (↑(xs.length))))] (se (rc 14 rfl (fun h2 => ?_) (fun h2 => ?_)))))
 ·
  have a5 := h2;have h2 := BV h2;refine AL (NX (rq (rb 1 (rq ?_))));refine rd0 8 (ox 2 [(18, vI (↑k)), (17, vS a0 xs.length a1)] ?_);refine AB (di 19 1 (k) a7.addr) ?_;refine AB (dl 20 (BL a7 (k) (by omega))) (ox 2 [(22, vI (↑k)), (21, vS a2 ys.length a3)] ?_);refine AB (di 23 1 (k) a8.addr) ?_;refine AB (dl 24 (BL a8 (k) (by omega))) ?_;refine BF (sp 1 [(25, .bool (!(cmp .eql (xs.getD (k) 0) (ys.getD (k) 0))))] (se (rc 25 rfl (fun h3 => ?_) (fun h3 => ?_))))
  ·
   have a6 := h3;have h3 := CX (CR h3);refine rqr (sp 1 [(4, .bool (false))] (se (BM ((RB (RP (RP (RB (RP (AF (t := 4) [] (by kernel_rfl) rfl (TR _) (IR _) ?_))))))))));exact ⟨by rw [decide_eq_false (getD_ne hl h3)], rfl⟩
  have a6 := h3;have h3 := CY (CF h3);refine AL (NB (NX (rr (sp 1 [(15, vI (↑k))] (sd (da 16 (↑k) (1)) (sp 1 [(5, vI (↑k + 1))] (ee ?_)))))));refine AG (xs.length - (k+1)) (by omega) ?_;intro a w hS hD hW;exact ⟨k+1, by omega, hl, IW (d := 0) hl ht (by omega) h3, hS.sub (.consE 5 rfl rfl (.cons 0 rfl (.cons 1 rfl (.nil _)))), hD, hW, rfl⟩
 have a5 := h2;have h2 := BZ h2;refine CD 0 ((EP (EP (EB (NX (rqr (sp 1 [(4, .bool (true))] (se (BM (AF (t := 4) [] (by kernel_rfl) rfl (TR _) (IR _) ?_))))))))));exact ⟨by rw [decide_eq_true (KX hl ht (by omega))], rfl⟩
noncomputable def c_length (p : List Nat) : Code := sub (AV Tryz.f114) p
theorem KB (I : Imm) (y : Value) (Y : Yard) (b : Value) (t : List Int) (y_f : IsYard I y Y) (b_f : AZ I b t) (ho : Ok Y.cars t) (hs : Small Y.cars) : CtV Tryz.prog 114 #[y, b] I (vI (lenOf Y.cars t)) := by
 obtain ⟨y1, y2, y3, d5, b3, b6, b8⟩ := id y_f;subst d5;obtain ⟨a0, a1, b0, b4, b2, c2, c3, a6⟩ := id b3;subst b2;obtain ⟨a2, a3, c4, c7, b5, c5, c6, c8⟩ := id b6;subst b5;obtain ⟨a4, a5, c9, d2, c0, b7, d0, d1, d3, d4⟩ := id b8;subst b7;obtain ⟨a7, a8, d6, d9, c1, d7, d8, b9⟩ := id b_f;subst c1;refine fr (args := [_, _]) (N := 25) Tryz.func114 (fun F => ?_);show Run _ _ (c_length []) _ _ [(0, .agg #[vS a0 Y.cars.length a1, vS a2 Y.room.length a3, vS a4 Y.tracks.length a5]), (1, vS a7 t.length a8)] _ _;refine rnm (rqr ?_);refine sS (sb 2 26 #[vS a0 Y.cars.length a1, vS a2 Y.room.length a3, vS a4 Y.tracks.length a5] (fun b1 => (sp 1 [(4, vI (0))] (sn (sp 1 [(5, vI (0))] (se (rq (rqr (sp 1 [(6, vI (0))] (se (rb 0 ?_)))))))))));refine rl (fun mz a w => ∃ k : Nat, (k ≤ t.length) ∧ Slots 25 [(5, vI (lenOf Y.cars (t.take k))), (6, vI ↑k), (1, vS a7 t.length a8), (2, vP b1 0), (4, vI (0))] a ∧ a.defers = [] ∧ St I ((bX b1 #[vS a0 Y.cars.length a1, vS a2 Y.room.length a3, vS a4 Y.tracks.length a5] 26) :: F) w ∧ mz = t.length - k) ?_ ?_
 ·intro a w hS hD hW;exact ⟨_, 0, Nat.zero_le _, hS.sub (.cons 5 rfl (.cons 6 rfl (.cons 1 rfl (.cons 2 rfl (.cons 4 rfl (.nil _)))))), hD, hW, rfl⟩
 rintro mz a w ⟨k, hk, hS, hD, hW, rfl⟩
 refine AX hS hD hW ?_;clear hS hD hW a w;refine rq (rqr (sp 4 [(10, .bool (cmp .lss (↑k) (↑(t.length))))] (se (rc 10 rfl (fun h1 => ?_) (fun h1 => ?_)))))
 ·
  have a9 := h1;have h1 := BV h1;refine AL (NX (rq (rb 1 ?_)));refine rd0 10 (ox 2 [(14, vP b1 0), (13, vI (lenOf Y.cars (t.take k)))] ?_);refine AB (dlb 15 0 0 b1 (vS a0 Y.cars.length a1)) (ox 2 [(17, vI (↑k)), (16, vS a7 t.length a8)] ?_);refine AB (di 18 1 (k) b9.addr) ?_;refine AB (dl 19 (BL b9 (k) (by omega))) ?_;have hc := ho.at k (by omega);refine AB (diI 20 6 (t.getD (k) 0) a6.addr) (ox 1 [(21, .pointer (some ⟨b0, b4 + ((t.getD (k) 0 : Int).toNat) * 6, none⟩))] ?_);refine AB (dl 22 (FA a6 ((t.getD (k) 0 : Int).toNat) (by omega) 0 (by decide) (v := vI ((Y.cars.getD ((t.getD (k) 0 : Int).toNat) AM).len)) rfl)) ?_;refine BF (sd (da 23 (lenOf Y.cars (t.take k)) ((Y.cars.getD ((t.getD (k) 0 : Int).toNat) AM).len) (hr := by have h1 := DS hs (t.take k); have h2 := hs.at (t.getD k 0); simp only [FD, LK] at h1 h2; omega)) (sp 1 [(5, vI ((lenOf Y.cars (t.take k)) + ((Y.cars.getD ((t.getD (k) 0 : Int).toNat) AM).len)))] (ee (NB (NX (rr (sp 1 [(11, vI (↑k))] (sd (da 12 (↑k) (1)) (sp 1 [(6, vI (↑k + 1))] (ee ?_))))))))));refine AG (t.length - (k+1)) (by omega) ?_;intro a w hS hD hW;exact ⟨k+1, by omega, hS.sub (.consE 5 rfl (congrArg (Value.int .i64) (NP (by omega)).symm) (.consE 6 rfl rfl (.cons 1 rfl (.cons 2 rfl (.cons 4 rfl (.nil _)))))), hD, hW, rfl⟩
 have a9 := h1;have h1 := BZ h1;refine CD 0 ((EP (EP (EB (NX (rqr (sp 2 [(4, vI (lenOf Y.cars (t.take k)))] (se (BM (AF (t := 4) [] (by kernel_rfl) rfl (TC _ (TR _)) (IR _) ?_))))))))));exact ⟨by rw [CZ (by omega)], rfl⟩
noncomputable def c_checkCoaches (p : List Nat) : Code := sub (AV Tryz.f98) p
theorem checkCoaches_ct (I : Imm) (y : Value) (Y : Yard) (y_f : IsYard I y Y) : CtV Tryz.prog 98 #[y] I (vI (CM Y)) := by
 obtain ⟨y1, y2, y3, f8, d7, d9, e1⟩ := id y_f;subst f8;obtain ⟨a4, a5, e4, e7, d6, e5, e6, c6⟩ := id d7;subst d6;obtain ⟨a2, a3, e8, f1, d8, e9, f0, c7⟩ := id d9;subst d8;obtain ⟨b2, b4, f2, f5, e3, e0, f3, f4, f6, f7⟩ := id e1;subst e0;refine fr (args := [_]) (N := 68) Tryz.func98 (fun F => ?_);show Run _ _ (c_checkCoaches []) _ _ [(0, .agg #[vS a4 Y.cars.length a5, vS a2 Y.room.length a3, vS b2 Y.tracks.length b4])] _ _;refine rnm (rqr ?_);refine sS (sb 1 26 #[vS a4 Y.cars.length a5, vS a2 Y.room.length a3, vS b2 Y.tracks.length b4] (fun b1 => (sp 1 [(2, vI (0))] (se (rq (rqr (sp 1 [(6, vP b1 0)] (sd (dlb 7 0 0 b1 (vS a4 Y.cars.length a5)) (sp 2 [(9, .bool (cmp .gtr (↑(Y.cars.length)) (5)))] (se (rc 9 rfl (fun h1 => ?_) (fun h1 => ?_))))))))))))
 ·
  have c8 := h1;have h1 := GF h1;refine rqr (sp 1 [(2, vI (6))] (se (BM ((RP (AF (t := 2) [] (by kernel_rfl) rfl (TC _ (TR _)) (IR _) ?_))))));exact ⟨congrArg (Value.int .i64) ((coachErr_many (by omega)).symm), rfl⟩
 have c8 := h1;have h1 := GE h1;refine AL (NX (rq (rqr (sp 1 [(3, vI (0))] (se (rb 0 ?_))))));refine rl (fun mz a w => ∃ k : Nat, (k ≤ Y.cars.length) ∧ (∀ c ∈ Y.cars.take k, CW c = 0) ∧ Slots 68 [(3, vI ↑k), (1, vP b1 0)] a ∧ a.defers = [] ∧ St I ((bX b1 #[vS a4 Y.cars.length a5, vS a2 Y.room.length a3, vS b2 Y.tracks.length b4] 26) :: F) w ∧ mz = Y.cars.length - k) ?_ ?_
 ·intro a w hS hD hW;exact ⟨_, 0, Nat.zero_le _, (fun c h => by simp at h), hS.sub (.cons 3 rfl (.cons 1 rfl (.nil _))), hD, hW, rfl⟩
 rintro mz a w ⟨k, hk, hc, hS, hD, hW, rfl⟩
 refine AX hS hD hW ?_;clear hS hD hW a w;refine rq (rqr (sp 2 [(11, vP b1 0), (10, vI (↑k))] (sd (dlb 12 0 0 b1 (vS a4 Y.cars.length a5)) (sp 2 [(14, .bool (cmp .lss (↑k) (↑(Y.cars.length))))] (se (rc 14 rfl (fun h2 => ?_) (fun h2 => ?_)))))))
 ·
  have c9 := h2;have h2 := BV h2;refine AL (NX (rq (rb 1 (rqr (sp 1 [(17, vP b1 0)] (sd (dlb 18 0 0 b1 (vS a4 Y.cars.length a5)) (sp 1 [(19, vI (↑k))] (sd (di 20 6 (k) c6.addr) (sd (CK (x := (.tmp 20)) (T := 56) (n := 6) (vs := [vI ((Y.cars.getD (k) AM).len), vI ((Y.cars.getD (k) AM).wt), vI ((Y.cars.getD (k) AM).brk), vI ((Y.cars.getD (k) AM).grp), .bool ((Y.cars.getD (k) AM).pipe), .bool ((Y.cars.getD (k) AM).heat)]) (d := 21) (ty := 56) (gd := none) (by kernel_rfl) rfl (by kernel_rfl) (by kernel_rfl) rfl rfl (MB c6 (k) (by omega))) (sS (sal 4 56 #[vI (0), vI (0), vI (0), vI (0), .bool (false), .bool (false)] (fun b3 => (sS (ss 0 0 b3 [vI ((Y.cars.getD (k) AM).len), vI ((Y.cars.getD (k) AM).wt), vI ((Y.cars.getD (k) AM).brk), vI ((Y.cars.getD (k) AM).grp), .bool ((Y.cars.getD (k) AM).pipe), .bool ((Y.cars.getD (k) AM).heat)] [vI ((Y.cars.getD (k) AM).len), vI ((Y.cars.getD (k) AM).wt), vI ((Y.cars.getD (k) AM).brk), vI ((Y.cars.getD (k) AM).grp), .bool ((Y.cars.getD (k) AM).pipe), .bool ((Y.cars.getD (k) AM).heat)] (_ :: _ :: _) (cs := [_, _, _, _, _, _]) rfl rfl (se (rq ?_))))))))))))))));refine FO (fun a w => Slots 68 [(1, vP b1 0), (3, vI (↑k)), (45, .bool ((!(inB ((Y.cars.getD (k) AM).len) 1 4)) || ((!(inB ((Y.cars.getD (k) AM).wt) 1 60)) || ((!(inB ((Y.cars.getD (k) AM).brk) 0 ((Y.cars.getD (k) AM).wt))) || (!(inB ((Y.cars.getD (k) AM).grp) 0 3))))))] a ∧ a.defers = [] ∧ St I ((bX b3 #[vI ((Y.cars.getD (k) AM).len), vI ((Y.cars.getD (k) AM).wt), vI ((Y.cars.getD (k) AM).brk), vI ((Y.cars.getD (k) AM).grp), .bool ((Y.cars.getD (k) AM).pipe), .bool ((Y.cars.getD (k) AM).heat)] 56) :: (bX b1 #[vS a4 Y.cars.length a5, vS a2 Y.room.length a3, vS b2 Y.tracks.length b4] 26) :: F) w) ?_ ?_
  ·
   refine rr (sp 1 [(22, vP b3 0)] (sd (dlb 23 0 0 b3 (vI ((Y.cars.getD (k) AM).len))) (sd (dc 24 (fun I' hI => (EW I' ((Y.cars.getD (k) AM).len) (1) (4) :))) (sp 2 [(26, .bool (!(inB ((Y.cars.getD (k) AM).len) 1 4)))] ?_))));refine CC 26 rfl (fun h3 => ?_) (fun h3 => ?_)
   ·
    have a6 := h3;have a6 := CR a6;have b5 := IV a6;refine sp 19 [(45, .bool (true))] (ee ?_);refine BG (fun a w hS hD hW => ⟨hS.sub (.cons 1 rfl (.cons 3 rfl (.consE 45 rfl (congrArg Value.bool (by simp only [h3, kA, kB, kC, kD, kE, kF, kG, kH, kI, kJ])) (.nil _)))), hD, hW⟩)
   have a6 := h3;have a6 := CF a6;have b5 := DR a6;refine sp 1 [(27, vP b3 1)] (sd (dlb 28 0 1 b3 (vI ((Y.cars.getD (k) AM).wt))) (sd (dc 29 (fun I' hI => (EW I' ((Y.cars.getD (k) AM).wt) (1) (60) :))) (sp 3 [(32, .bool (!(inB ((Y.cars.getD (k) AM).wt) 1 60)))] ?_)));refine CC 32 rfl (fun h4 => ?_) (fun h4 => ?_)
   ·
    have a7 := h4;have a7 := CR a7;have b6 := IV a7;refine sp 13 [(45, .bool (true))] (ee ?_);refine BG (fun a w hS hD hW => ⟨hS.sub (.cons 1 rfl (.cons 3 rfl (.consE 45 rfl (congrArg Value.bool (by simp only [h3, h4, kA, kB, kC, kD, kE, kF, kG, kH, kI, kJ])) (.nil _)))), hD, hW⟩)
   have a7 := h4;have a7 := CF a7;have b6 := DR a7;refine sp 1 [(33, vP b3 2)] (sd (dlb 34 0 2 b3 (vI ((Y.cars.getD (k) AM).brk))) (sp 1 [(35, vP b3 1)] (sd (dlb 36 0 1 b3 (vI ((Y.cars.getD (k) AM).wt))) (sd (dc 37 (fun I' hI => (EW I' ((Y.cars.getD (k) AM).brk) (0) ((Y.cars.getD (k) AM).wt) :))) (sp 3 [(40, .bool (!(inB ((Y.cars.getD (k) AM).brk) 0 ((Y.cars.getD (k) AM).wt))))] ?_)))));refine CC 40 rfl (fun h5 => ?_) (fun h5 => ?_)
   ·
    have a8 := h5;have a8 := CR a8;have b7 := IV a8;refine sp 5 [(45, .bool (true))] (ee ?_);refine BG (fun a w hS hD hW => ⟨hS.sub (.cons 1 rfl (.cons 3 rfl (.consE 45 rfl (congrArg Value.bool (by simp only [h3, h4, h5, kA, kB, kC, kD, kE, kF, kG, kH, kI, kJ])) (.nil _)))), hD, hW⟩)
   have a8 := h5;have a8 := CF a8;have b7 := DR a8;refine sp 1 [(41, vP b3 3)] (sd (dlb 42 0 3 b3 (vI ((Y.cars.getD (k) AM).grp))) (sd (dc 43 (fun I' hI => (EW I' ((Y.cars.getD (k) AM).grp) (0) (3) :))) (sp 2 [(45, .bool (!(inB ((Y.cars.getD (k) AM).grp) 0 3)))] (ee ?_))));refine BG (fun a w hS hD hW => ⟨hS.sub (.cons 1 rfl (.cons 3 rfl (.consE 45 rfl (congrArg Value.bool (by simp only [h3, h4, h5, kA, kB, kC, kD, kE, kF, kG, kH, kI, kJ])) (.nil _)))), hD, hW⟩)
  rintro a w ⟨hS, hD, hW⟩
  refine AX hS hD hW ?_;clear hS hD hW a w;refine rc 45 rfl (fun h6 => ?_) (fun h6 => ?_)
  ·
   have c2 := h6;have d5 : CW (Y.cars.getD (k) AM) ≠ 0 := by rw [CW, nand4, c2]; decide
   refine rqr (sp 1 [(2, vI (1))] (se (BM ((RB (RP (RP (RB (RP (AF (t := 2) [] (by kernel_rfl) rfl (TC _ (TC _ (TR _))) (IR _) ?_))))))))));exact ⟨congrArg (Value.int .i64) ((coachErr_car (by omega) (by omega) d5).symm), rfl⟩
  have c2 := h6;obtain ⟨b8, d1⟩ := or_f h6;have b8 := CF b8;have d0 := DR b8;obtain ⟨a9, b9⟩ := or_f d1;have a9 := CF a9;have c5 := DR a9;obtain ⟨a0, a1⟩ := or_f b9;have a0 := CF a0;have c0 := DR a0;have a1 := CF a1;have c1 := DR a1;have d5 : CW (Y.cars.getD (k) AM) = 0 := by rw [CW, nand4, c2]; rfl
  refine AL (NB (NX (rr (sp 1 [(15, vI (↑k))] (sd (da 16 (↑k) (1)) (sp 1 [(3, vI (↑k + 1))] (ee ?_)))))));refine AG (Y.cars.length - (k+1)) (by omega) ?_;intro a w hS hD hW;exact ⟨k+1, by omega, LZ hc (by omega) d5, hS.sub (.consE 3 rfl rfl (.cons 1 rfl (.nil _))), hD, (hW.perm (PR _)).sub (TC _ (TR _)), rfl⟩
 have c9 := h2;have h2 := BZ h2;refine CD 0 ((EP (EP (EB (NX (rq (rqr (sp 1 [(46, vP b1 1)] (sd (dlb 47 0 1 b1 (vS a2 Y.room.length a3)) (sp 2 [(49, .bool (cmp .eql (↑(Y.room.length)) (0)))] (se (rc 49 rfl (fun h7 => ?_) (fun h7 => ?_)))))))))))))
 ·
  have d2 := h7;have h7 := CY h7;refine rqr (sp 1 [(2, vI (7))] (se (BM ((RP (AF (t := 2) [] (by kernel_rfl) rfl (TC _ (TR _)) (IR _) ?_))))));exact ⟨congrArg (Value.int .i64) ((coachErr_few (by omega) (GG hc (by omega)) (by omega)).symm), rfl⟩
 have d2 := h7;have h7 := CX h7;refine AL (NX (rq (rqr (sp 1 [(50, vP b1 1)] (sd (dlb 51 0 1 b1 (vS a2 Y.room.length a3)) (sp 2 [(53, .bool (cmp .gtr (↑(Y.room.length)) (3)))] (se (rc 53 rfl (fun h8 => ?_) (fun h8 => ?_)))))))))
 ·
  have d3 := h8;have h8 := GF h8;refine rqr (sp 1 [(2, vI (6))] (se (BM ((RP (AF (t := 2) [] (by kernel_rfl) rfl (TC _ (TR _)) (IR _) ?_))))));exact ⟨congrArg (Value.int .i64) ((coachErr_many2 (by omega) (GG hc (by omega)) (by omega)).symm), rfl⟩
 have d3 := h8;have h8 := GE h8;refine AL (NX (rq (rqr (sp 1 [(5, vI (0))] (se (rb 2 ?_))))));refine rl (fun mz a w => ∃ m : Nat, (m ≤ Y.room.length) ∧ (∀ c ∈ Y.room.take m, inB c 0 20 = true) ∧ Slots 68 [(5, vI ↑m), (1, vP b1 0)] a ∧ a.defers = [] ∧ St I ((bX b1 #[vS a4 Y.cars.length a5, vS a2 Y.room.length a3, vS b2 Y.tracks.length b4] 26) :: F) w ∧ mz = Y.room.length - m) ?_ ?_
 ·intro a w hS hD hW;exact ⟨_, 0, Nat.zero_le _, (fun x h => by simp at h), hS.sub (.cons 5 rfl (.cons 1 rfl (.nil _))), hD, hW, rfl⟩
 rintro mz a w ⟨m, hm, e2, hS, hD, hW, rfl⟩
 refine AX hS hD hW ?_;clear hS hD hW a w;refine rq (rqr (sp 2 [(55, vP b1 1), (54, vI (↑m))] (sd (dlb 56 0 1 b1 (vS a2 Y.room.length a3)) (sp 2 [(58, .bool (cmp .lss (↑m) (↑(Y.room.length))))] (se (rc 58 rfl (fun h9 => ?_) (fun h9 => ?_)))))))
 ·
  have d4 := h9;have h9 := BV h9;refine AL (NX (rq (rb 3 (rqr (sp 1 [(61, vP b1 1)] (sd (dlb 62 0 1 b1 (vS a2 Y.room.length a3)) (sp 1 [(63, vI (↑m))] (sd (di 64 1 (m) c7.addr) (sd (dl 65 (BL c7 (m) (by omega))) (sd (dc 66 (fun I' hI => (EW I' (Y.room.getD (m) 0) (0) (20) :))) (sp 1 [(67, .bool (!(inB (Y.room.getD (m) 0) 0 20)))] (se (rc 67 rfl (fun b0 => ?_) (fun b0 => ?_))))))))))))))
  ·
   have c4 := b0;have b0 := CR b0;have c3 := IV b0;refine rqr (sp 1 [(2, vI (1))] (se (BM ((RB (RP (RP (RB (RP (AF (t := 2) [] (by kernel_rfl) rfl (TC _ (TR _)) (IR _) ?_))))))))));exact ⟨congrArg (Value.int .i64) ((coachErr_room (by omega) (GG hc (by omega)) (by omega) (by omega) (by omega) b0).symm), rfl⟩
  have c4 := b0;have b0 := CF b0;have c3 := DR b0;refine AL (NB (NX (rr (sp 1 [(59, vI (↑m))] (sd (da 60 (↑m) (1)) (sp 1 [(5, vI (↑m + 1))] (ee ?_)))))));refine AG (Y.room.length - (m+1)) (by omega) ?_;intro a w hS hD hW;exact ⟨m+1, by omega, LZ (d := 0) e2 (by omega) b0, hS.sub (.consE 5 rfl rfl (.cons 1 rfl (.nil _))), hD, hW, rfl⟩
 have d4 := h9;have h9 := BZ h9;refine CD 2 ((EP (EP (EB (NX (rqr (sp 1 [(2, vI (0))] (se (BM (AF (t := 2) [] (by kernel_rfl) rfl (TC _ (TR _)) (IR _) ?_))))))))));exact ⟨congrArg (Value.int .i64) ((coachErr_ok (by omega) (GG hc (by omega)) (by omega) (by omega) (GG e2 (by omega))).symm), rfl⟩
noncomputable def c_together (p : List Nat) : Code := sub (AV Tryz.f139) p
theorem together_ct (I : Imm) (y : Value) (Y : Yard) (g : Int) (y_f : IsYard I y Y) (ho : OkAll Y.cars Y.tracks) : CtV Tryz.prog 139 #[y, vI g] I (.bool (FH Y g)) := by
 obtain ⟨y1, y2, y3, f7, c4, c6, c8⟩ := id y_f;subst f7;obtain ⟨a0, a1, b5, b6, c3, e6, e7, a7⟩ := id c4;subst c3;obtain ⟨a4, a5, e8, f1, c5, e9, f0, f2⟩ := id c6;subst c5;obtain ⟨a2, a3, f3, f6, d0, c7, f4, f5, a8, b7⟩ := id c8;subst c7;refine fr (args := [_, _]) (N := 68) Tryz.func139 (fun F => ?_);show Run _ _ (c_together []) _ _ [(0, .agg #[vS a0 Y.cars.length a1, vS a4 Y.room.length a5, vS a2 Y.tracks.length a3]), (1, vI (g))] _ _;refine rnm (rqr ?_);refine sS (sb 2 26 #[vS a0 Y.cars.length a1, vS a4 Y.room.length a5, vS a2 Y.tracks.length a3] (fun b1 => (sp 1 [(4, .bool (false))] (sn (sp 2 [(6, vI (0)), (5, vI (0))] (se (rq (rqr (sp 1 [(7, vI (0))] (se (rb 0 ?_)))))))))));refine rl (fun mz a w => ∃ k : Nat, ∃ al : Nat, (k ≤ Y.cars.length) ∧ (al = cntG (Y.cars.take k) g) ∧ (al ≤ k) ∧ Slots 68 [(5, vI ↑al), (7, vI ↑k), (1, vI (g)), (2, vP b1 0), (4, .bool (false)), (6, vI (0))] a ∧ a.defers = [] ∧ St I ((bX b1 #[vS a0 Y.cars.length a1, vS a4 Y.room.length a5, vS a2 Y.tracks.length a3] 26) :: F) w ∧ mz = Y.cars.length - k) ?_ ?_
 ·intro a w hS hD hW;exact ⟨_, 0, 0, Nat.zero_le _, rfl, Nat.le_refl _, hS.sub (.cons 5 rfl (.cons 7 rfl (.cons 1 rfl (.cons 2 rfl (.cons 4 rfl (.cons 6 rfl (.nil _))))))), hD, hW, rfl⟩
 rintro mz a w ⟨k, al, hk, ha, f8, hS, hD, hW, rfl⟩
 refine AX hS hD hW ?_;clear hS hD hW a w;refine rq (rqr (sp 2 [(12, vP b1 0), (11, vI (↑k))] (sd (dlb 13 0 0 b1 (vS a0 Y.cars.length a1)) (sp 2 [(15, .bool (cmp .lss (↑k) (↑(Y.cars.length))))] (se (rc 15 rfl (fun h1 => ?_) (fun h1 => ?_)))))))
 ·
  have b8 := h1;have h1 := BV h1;refine AL (NX (rq (rb 1 (rqr (sp 1 [(18, vP b1 0)] (sd (dlb 19 0 0 b1 (vS a0 Y.cars.length a1)) (sp 1 [(20, vI (↑k))] (sd (di 21 6 (k) a7.addr) (sp 1 [(22, .pointer (some ⟨b5, b6 + k * 6 + 3, none⟩))] (sd (dl 23 (FA a7 (k) (by omega) 3 (by decide) (v := vI ((Y.cars.getD (k) AM).grp)) rfl)) (sp 2 [(25, .bool (cmp .eql ((Y.cars.getD (k) AM).grp) (g)))] (se (rc 25 rfl (fun h2 => ?_) (fun h2 => ?_))))))))))))))
  ·
   have b9 := h2;have h2 := CY h2;refine rr (sp 1 [(26, vI (↑al))] (sd (da 27 (↑al) (1)) (sp 1 [(5, vI (↑al + 1))] (ee (NB (NX (rr (sp 1 [(16, vI (↑k))] (sd (da 17 (↑k) (1)) (sp 1 [(7, vI (↑k + 1))] (ee ?_)))))))))));refine AG (Y.cars.length - (k+1)) (by omega) ?_;intro a w hS hD hW;exact ⟨k+1, al+1, by omega, (by rw [cntG_succ (by omega), if_pos h2, ← ha]), by omega, hS.sub (.consE 5 rfl rfl (.consE 7 rfl rfl (.cons 1 rfl (.cons 2 rfl (.cons 4 rfl (.cons 6 rfl (.nil _))))))), hD, hW, rfl⟩
  have b9 := h2;have h2 := CX h2;refine AL (NB (NX (rr (sp 1 [(16, vI (↑k))] (sd (da 17 (↑k) (1)) (sp 1 [(7, vI (↑k + 1))] (ee ?_)))))));refine AG (Y.cars.length - (k+1)) (by omega) ?_;intro a w hS hD hW;exact ⟨k+1, al, by omega, (by rw [cntG_succ (by omega), if_neg h2, ← ha]; rfl), by omega, hS.sub (.consE 5 rfl rfl (.consE 7 rfl rfl (.cons 1 rfl (.cons 2 rfl (.cons 4 rfl (.cons 6 rfl (.nil _))))))), hD, hW, rfl⟩
 have b8 := h1;have h1 := BZ h1;refine CD 0 ((EP (EP (EB (NX (rq (rqr (sp 1 [(8, vI (0))] (se (rb 2 ?_))))))))));refine rl (fun mz a w => ∃ i : Nat, ∃ m : Nat, (i ≤ Y.tracks.length) ∧ (m = mostTo Y.cars g (Y.tracks.take i)) ∧ (m ≤ 140737488355328) ∧ Slots 68 [(6, vI ↑m), (8, vI ↑i), (1, vI (g)), (2, vP b1 0), (4, .bool (false)), (5, vI (↑al))] a ∧ a.defers = [] ∧ St I ((bX b1 #[vS a0 Y.cars.length a1, vS a4 Y.room.length a5, vS a2 Y.tracks.length a3] 26) :: F) w ∧ mz = Y.tracks.length - i) ?_ ?_
 ·intro a w hS hD hW;exact ⟨_, 0, 0, Nat.zero_le _, rfl, Nat.zero_le _, hS.sub (.cons 6 rfl (.cons 8 rfl (.cons 1 rfl (.cons 2 rfl (.cons 4 rfl (.cons 5 rfl (.nil _))))))), hD, hW, rfl⟩
 rintro mz a w ⟨i, m, hi, c9, d1, hS, hD, hW, rfl⟩
 refine AX hS hD hW ?_;clear hS hD hW a w;refine rq (rqr (sp 2 [(29, vP b1 2), (28, vI (↑i))] (sd (dlb 30 0 2 b1 (vS a2 Y.tracks.length a3)) (sp 2 [(32, .bool (cmp .lss (↑i) (↑(Y.tracks.length))))] (se (rc 32 rfl (fun h3 => ?_) (fun h3 => ?_)))))))
 ·
  have c0 := h3;have h3 := BV h3;refine AL (NX (rq (rb 3 (rqr (sp 1 [(9, vI (0))] (sn (sp 1 [(10, vI (0))] (se (rb 4 ?_)))))))));refine rl (fun mz a w => ∃ j : Nat, ∃ r : Nat, ∃ m2 : Nat, (j ≤ (Y.tracks.getD (i) []).length) ∧ (rowT Y.cars g m ((Y.tracks.getD (i) []).take j) = (r, m2)) ∧ (r ≤ j) ∧ (m2 ≤ 140737488355328) ∧ Slots 68 [(6, vI ↑m2), (9, vI ↑r), (10, vI ↑j), (1, vI (g)), (2, vP b1 0), (4, .bool (false)), (5, vI (↑al)), (8, vI (↑i))] a ∧ a.defers = [] ∧ St I ((bX b1 #[vS a0 Y.cars.length a1, vS a4 Y.room.length a5, vS a2 Y.tracks.length a3] 26) :: F) w ∧ mz = (Y.tracks.getD (i) []).length - j) ?_ ?_
  ·intro a w hS hD hW;exact ⟨_, 0, 0, m, Nat.zero_le _, rfl, Nat.le_refl _, d1, hS.sub (.cons 6 rfl (.cons 9 rfl (.cons 10 rfl (.cons 1 rfl (.cons 2 rfl (.cons 4 rfl (.cons 5 rfl (.cons 8 rfl (.nil _))))))))), hD, hW, rfl⟩
  rintro mz a w ⟨j, r, m2, hj, a6, f9, d2, hS, hD, hW, rfl⟩
  refine AX hS hD hW ?_;clear hS hD hW a w;refine rq (rqr (sp 2 [(36, vP b1 2), (35, vI (↑j))] (sd (dlb 37 0 2 b1 (vS a2 Y.tracks.length a3)) (sp 1 [(38, vI (↑i))] (sd (di 39 1 (i) a8.addr) ?_)))));have b0 := b7 (i) (by omega);obtain ⟨d3, d5, d4, d8, a9, d6, d7, d9⟩ := id b0;rw [a9] at b0;refine sd (BD (dl 40 (BO a8 (i) (by omega))) a9) (sp 2 [(42, .bool (cmp .lss (↑j) (↑((Y.tracks.getD (i) []).length))))] (se (rc 42 rfl (fun h4 => ?_) (fun h4 => ?_))))
  ·
   have c1 := h4;have h4 := BV h4;refine AL (NX (rq (rb 5 (rq (rq ?_)))));refine rd0 14 (ox 1 [(45, vP b1 0)] ?_);refine AB (dlb 46 0 0 b1 (vS a0 Y.cars.length a1)) (ox 1 [(47, vP b1 2)] ?_);refine AB (dlb 48 0 2 b1 (vS a2 Y.tracks.length a3)) (ox 1 [(49, vI (↑i))] ?_);refine AB (di 50 1 (i) a8.addr) ?_;have b3 := b7 (i) (by omega);obtain ⟨e0, e2, e1, e5, b2, e3, e4, b4⟩ := id b3;rw [b2] at b3;refine AB (BD (dl 51 (BO a8 (i) (by omega))) b2) (ox 1 [(52, vI (↑j))] ?_);refine AB (di 53 1 (j) b4.addr) ?_;refine AB (dl 54 (BL b4 (j) (by omega))) ?_;have hc := (ho.at i (by omega)).at j (by omega);refine AB (diI 55 6 ((Y.tracks.getD (i) []).getD (j) 0) a7.addr) (ox 1 [(56, .pointer (some ⟨b5, b6 + (((Y.tracks.getD (i) []).getD (j) 0 : Int).toNat) * 6 + 3, none⟩))] ?_);refine AB (dl 57 (FA a7 (((Y.tracks.getD (i) []).getD (j) 0 : Int).toNat) (by omega) 3 (by decide) (v := vI ((Y.cars.getD (((Y.tracks.getD (i) []).getD (j) 0 : Int).toNat) AM).grp)) rfl)) (ox 1 [(58, vI (g))] ?_);refine BF (sp 1 [(59, .bool (cmp .eql ((Y.cars.getD (((Y.tracks.getD (i) []).getD (j) 0 : Int).toNat) AM).grp) (g)))] (se (rc 59 rfl (fun h5 => ?_) (fun h5 => ?_))))
   ·
    have c2 := h5;have h5 := CY h5;refine rr (sp 1 [(60, vI (↑r))] (sd (da 61 (↑r) (1)) (sp 1 [(9, vI (↑r + 1))] (se (rr (sp 3 [(64, vI ((if (↑m2 : Int) < (↑r + 1 : Int) then ↑r + 1 else ↑m2)))] (DN 64 rfl (show (vI ((if (↑m2 : Int) < (↑r + 1 : Int) then ↑r + 1 else ↑m2)) : Value) = vI (↑(max m2 (r + 1))) from congrArg (Value.int .i64) (by split <;> omega)) (sp 1 [(6, vI (↑(max m2 (r + 1))))] (ee (NB (NX (rr (sp 1 [(43, vI (↑j))] (sd (da 44 (↑j) (1)) (sp 1 [(10, vI (↑j + 1))] (ee ?_))))))))))))))));refine AG ((Y.tracks.getD (i) []).length - (j+1)) (by omega) ?_;intro a w hS hD hW;exact ⟨j+1, r + 1, max m2 (r + 1), by omega, (by rw [rowT_succ (by omega), a6]; exact rowS_yes h5), by omega, by omega, hS.sub (.consE 6 rfl rfl (.consE 9 rfl rfl (.consE 10 rfl rfl (.cons 1 rfl (.cons 2 rfl (.cons 4 rfl (.cons 5 rfl (.cons 8 rfl (.nil _))))))))), hD, hW, rfl⟩
   have c2 := h5;have h5 := CX h5;refine rr (sp 1 [(9, vI (0))] (se (rr (sp 3 [(64, vI ((if (↑m2 : Int) < (0 : Int) then 0 else ↑m2)))] (DN 64 rfl (show (vI ((if (↑m2 : Int) < (0 : Int) then 0 else ↑m2)) : Value) = vI (↑(max m2 0)) from congrArg (Value.int .i64) (by split <;> omega)) (sp 1 [(6, vI (↑(max m2 0)))] (ee (NB (NX (rr (sp 1 [(43, vI (↑j))] (sd (da 44 (↑j) (1)) (sp 1 [(10, vI (↑j + 1))] (ee ?_))))))))))))));refine AG ((Y.tracks.getD (i) []).length - (j+1)) (by omega) ?_;intro a w hS hD hW;exact ⟨j+1, 0, max m2 0, by omega, (by rw [rowT_succ (by omega), a6]; exact rowS_no h5), by omega, by omega, hS.sub (.consE 6 rfl rfl (.consE 9 rfl rfl (.consE 10 rfl rfl (.cons 1 rfl (.cons 2 rfl (.cons 4 rfl (.cons 5 rfl (.cons 8 rfl (.nil _))))))))), hD, hW, rfl⟩
  have c1 := h4;have h4 := BZ h4;refine CD 4 ((EP (EP (EB (NB (NX (rr (sp 1 [(33, vI (↑i))] (sd (da 34 (↑i) (1)) (sp 1 [(8, vI (↑i + 1))] (ee ?_)))))))))));refine AG (Y.tracks.length - (i+1)) (by omega) ?_;intro a w hS hD hW;exact ⟨i+1, m2, by omega, (by rw [mostTo_succ (by omega), ← c9]; rw [CZ (by omega)] at a6; rw [a6]), by omega, hS.sub (.consE 6 rfl rfl (.consE 8 rfl rfl (.cons 1 rfl (.cons 2 rfl (.cons 4 rfl (.cons 5 rfl (.nil _))))))), hD, hW, rfl⟩
 have c0 := h3;have h3 := BZ h3;refine CD 2 ((EP (EP (EB (NX (rqr (sp 4 [(4, .bool (cmp .eql (↑m) (↑al)))] (se (BM (AF (t := 4) [] (by kernel_rfl) rfl (TC _ (TR _)) (IR _) ?_))))))))));exact ⟨congrArg Value.bool (by unfold FH cmp; rw [c9, CZ (xs := Y.tracks) (k := i) (by omega), ha, CZ (xs := Y.cars) (k := k) (by omega)]), rfl⟩
end Go.Proofs.YtcaocbhbofejnaaGreatDoor
namespace Go.Sl
open Go
theorem ct_own {α : Type} {E : TypeId} {sz : Nat} {cell : α → Nat → Value} {v : Value} {xs : List α} {Ms : Seg} {I : Imm} {P : Program} {f : FuncId} {args : Array Value} {u : Value} (dflt : α) (h : Own E sz cell v xs Ms) (hl : xs.length ≤ 140737488355328)
    (ct : ∀ J, I.le J → IsSl sz cell dflt J v xs → CtV P f args J u) : Ct P f args I Ms (fun r _ M' => r = u ∧ M' = Ms) := by
  intro F w st;obtain ⟨J, h1, h2, h3, h4⟩ := h.lend dflt hl st;refine (ct J h1 h2 F w h4).mono fun e w' ⟨r, I', M', he, hle, ⟨hr, hm⟩, st'⟩ => ?_
  subst hm;obtain ⟨K, k1, k2⟩ := St.thaw (h3.mono hle) (h1.trans hle) (by simpa using st');exact ⟨r, K, Ms, he, k1, ⟨hr, rfl⟩, k2⟩
end Go.Sl
namespace Go.Proofs.YtcaocbhbofejnaaGreatDoor
open Go Go.Sl Go.Sh
set_option maxRecDepth 100000
noncomputable def c_checkTracksR (p : List Nat) : Code := sub (AV Tryz.f99) p
theorem checkTracksR_ct (I : Imm) (y : Value) (Y : Yard) (y_f : IsYard I y Y) (hs : Small Y.cars) (h5 : Y.cars.length ≤ 5) : CtV Tryz.prog 99 #[y] I (vI (FG Y)) := by
 obtain ⟨y1, y2, y3, l5, a8, a9, b0⟩ := id y_f;subst l5;obtain ⟨a3, a4, k2, k5, f9, k3, k4, k6⟩ := id a8;subst f9;obtain ⟨a5, a6, k7, l0, g0, k8, k9, b9⟩ := id a9;subst g0;obtain ⟨a0, a1, l1, l4, i2, g1, l2, l3, a7, b5⟩ := id b0;subst g1;refine fr (args := [_]) (N := 81) Tryz.func99 (fun F => ?_);show Run _ _ (c_checkTracksR []) _ _ [(0, .agg #[vS a3 Y.cars.length a4, vS a5 Y.room.length a6, vS a0 Y.tracks.length a1])] _ _;refine rnm (rqr ?_);refine sS (sb 1 26 #[vS a3 Y.cars.length a4, vS a5 Y.room.length a6, vS a0 Y.tracks.length a1] (fun b1 => (sp 1 [(2, vI (0))] (se (rq (rqr (sp 1 [(8, vP b1 2)] (sd (dlb 9 0 2 b1 (vS a0 Y.tracks.length a1)) (sp 2 [(11, vP b1 1), (10, vI (↑(Y.tracks.length)))] (sd (dlb 12 0 1 b1 (vS a5 Y.room.length a6)) (sp 2 [(14, .bool (!(cmp .eql (↑(Y.tracks.length)) (↑(Y.room.length)))))] (se (rc 14 rfl (fun h1 => ?_) (fun h1 => ?_))))))))))))))
 ·
  have e8 := h1;have h1 := CX (CR h1);refine rqr (sp 1 [(2, vI (2))] (se (BM ((RP (AF (t := 2) [] (by kernel_rfl) rfl (TC _ (TR _)) (IR _) ?_))))));exact ⟨congrArg (Value.int .i64) (by rw [FG, if_neg (by omega)]), rfl⟩
 have e8 := h1;have h1 := CY (CF h1);refine AL (NX (rqr (sp 1 [(3, vN)] (se (rq (rqr (sp 1 [(4, vI (0))] (se (rb 0 ?_)))))))));refine rl (fun mz a w => ∃ J0 : Imm, ∃ k : Nat, ∃ b7 : List Int, ∃ c1 : Value, ∃ b8 : Seg, (I.le J0) ∧ (k ≤ Y.tracks.length) ∧ (CJ Y.cars (fun b7 => if b7.length < Y.cars.length then 7 else refG Y) Y.tracks Y.room [] = CJ Y.cars (fun b7 => if b7.length < Y.cars.length then 7 else refG Y) (Y.tracks.drop k) (Y.room.drop k) b7) ∧ (OkAll Y.cars (Y.tracks.take k)) ∧ (b7.Nodup) ∧ (∀ x ∈ b7, 0 ≤ x ∧ x < (Y.cars.length : Int)) ∧ (Own 3 1 AP c1 (b7) b8) ∧ Slots 81 [(3, c1), (4, vI ↑k), (1, vP b1 0)] a ∧ a.defers = [] ∧ St J0 ((bX b1 #[vS a3 Y.cars.length a4, vS a5 Y.room.length a6, vS a0 Y.tracks.length a1] 26) :: (b8 ++ F)) w ∧ mz = Y.tracks.length - k) ?_ ?_
 ·intro a w hS hD hW;exact ⟨_, I, 0, [], (vN), [], IR _, Nat.zero_le _, rfl, OkAll.nil, List.nodup_nil, (fun x hx => by simp at hx), (Own.nil _ _ _), hS.sub (.cons 3 rfl (.cons 4 rfl (.cons 1 rfl (.nil _)))), hD, hW, rfl⟩
 rintro mz a w ⟨J0, k, b7, c1, b8, hJ0, hk, hr, g4, i5, i3, d1, hS, hD, hW, rfl⟩
 refine AX hS hD hW ?_;clear hS hD hW a w;replace a8 := a8.mono hJ0;replace a9 := a9.mono hJ0;replace b9 := b9.mono hJ0;replace b0 := b0.mono hJ0;replace a7 := a7.mono hJ0;replace b5 := fun i hi => (b5 i hi).mono hJ0
 obtain ⟨c7, c8, c9, e6⟩ := d1.shape; subst c9;refine rq (rqr (sp 2 [(16, vP b1 2), (15, vI (↑k))] (sd (dlb 17 0 2 b1 (vS a0 Y.tracks.length a1)) (sp 2 [(19, .bool (cmp .lss (↑k) (↑(Y.tracks.length))))] (se (rc 19 rfl (fun h2 => ?_) (fun h2 => ?_)))))))
 ·
  have e9 := h2;have h2 := BV h2;refine AL (NX (rq (rb 1 (rq (rqr (sp 1 [(5, vI (0))] (se (rb 2 ?_))))))));refine rl (fun mz a w => ∃ J1 : Imm, ∃ j : Nat, ∃ a2 : List Int, ∃ c2 : Value, ∃ b2 : Seg, (J0.le J1) ∧ (j ≤ (Y.tracks.getD (k) []).length) ∧ (CJ Y.cars (fun b7 => if b7.length < Y.cars.length then 7 else refG Y) Y.tracks Y.room [] = DH Y.cars.length (fun met' => if lenOf Y.cars (Y.tracks.getD (k) []) > Y.room.getD k 0 then 9 else CJ Y.cars (fun b7 => if b7.length < Y.cars.length then 7 else refG Y) (Y.tracks.drop (k + 1)) (Y.room.drop (k + 1)) met') ((Y.tracks.getD (k) []).drop j) a2) ∧ (Ok Y.cars ((Y.tracks.getD (k) []).take j)) ∧ (a2.Nodup) ∧ (∀ x ∈ a2, 0 ≤ x ∧ x < (Y.cars.length : Int)) ∧ (Own 3 1 AP c2 (a2) b2) ∧ Slots 81 [(3, c2), (5, vI ↑j), (1, vP b1 0), (4, vI (↑k))] a ∧ a.defers = [] ∧ St J1 ((bX b1 #[vS a3 Y.cars.length a4, vS a5 Y.room.length a6, vS a0 Y.tracks.length a1] 26) :: (b2 ++ F)) w ∧ mz = (Y.tracks.getD (k) []).length - j) ?_ ?_
  ·intro a w hS hD hW;exact ⟨_, J0, 0, b7, vS c7 b7.length c8, b8, IR _, Nat.zero_le _, hr.trans (MG (by omega)), Ok.nil, i5, i3, d1, hS.sub (.cons 3 rfl (.cons 5 rfl (.cons 1 rfl (.cons 4 rfl (.nil _))))), hD, hW, rfl⟩
  rintro mz a w ⟨J1, j, a2, c2, b2, hJ1, hj, d7, c6, c5, c4, c0, hS, hD, hW, rfl⟩
  refine AX hS hD hW ?_;clear hS hD hW a w;replace a8 := a8.mono hJ1;replace a9 := a9.mono hJ1;replace b9 := b9.mono hJ1;replace b0 := b0.mono hJ1;replace a7 := a7.mono hJ1;replace b5 := fun i hi => (b5 i hi).mono hJ1
  obtain ⟨b3, b4, d0, e7⟩ := c0.shape; subst d0;refine rq (rqr (sp 2 [(23, vP b1 2), (22, vI (↑j))] (sd (dlb 24 0 2 b1 (vS a0 Y.tracks.length a1)) (sp 1 [(25, vI (↑k))] (sd (di 26 1 (k) a7.addr) ?_)))));have e2 := b5 (k) (by omega);obtain ⟨i9, j1, j0, j4, e1, j2, j3, j5⟩ := id e2;rw [e1] at e2;refine sd (BD (dl 27 (BO a7 (k) (by omega))) e1) (sp 2 [(29, .bool (cmp .lss (↑j) (↑((Y.tracks.getD (k) []).length))))] (se (rc 29 rfl (fun h3 => ?_) (fun h3 => ?_))))
  ·
   have f0 := h3;have h3 := BV h3;refine AL (NX (rq (rb 3 (rqr (sp 1 [(32, vP b1 2)] (sd (dlb 33 0 2 b1 (vS a0 Y.tracks.length a1)) (sp 1 [(34, vI (↑k))] (sd (di 35 1 (k) a7.addr) ?_))))))));have e4 := b5 (k) (by omega);obtain ⟨j6, j8, j7, k1, e3, j9, k0, e5⟩ := id e4;rw [e3] at e4;refine sd (BD (dl 36 (BO a7 (k) (by omega))) e3) (sp 1 [(37, vI (↑j))] (sd (di 38 1 (j) e5.addr) (sd (dl 39 (BL e5 (j) (by omega))) (sp 1 [(6, vI ((Y.tracks.getD (k) []).getD (j) 0))] (se (rq (rqr (sp 2 [(41, vP b1 0), (40, vI ((Y.tracks.getD (k) []).getD (j) 0))] (sd (dlb 42 0 0 b1 (vS a3 Y.cars.length a4)) (sp 1 [(43, vI (↑(Y.cars.length)))] (sd (dsb 44 (↑(Y.cars.length)) (1)) (sd (dc 45 (fun I' hI => (EW I' ((Y.tracks.getD (k) []).getD (j) 0) (0) ((↑(Y.cars.length)) - 1) :))) (sp 1 [(46, .bool (!(inB ((Y.tracks.getD (k) []).getD (j) 0) 0 ((↑(Y.cars.length)) - 1))))] (se (rc 46 rfl (fun h4 => ?_) (fun h4 => ?_))))))))))))))))
   ·
    have f2 := h4;have h4 := CR h4;have f1 := IV h4;refine rqr (sp 1 [(2, vI (3))] (se (BM ((RP (RB (RP (RP (RB (RP (RB (RP (RP (RB (RP (AF (t := 2) [] (by kernel_rfl) rfl (TC _ (TT (TR _) (TB _ _))) (IT hJ0 hJ1) ?_))))))))))))))));exact ⟨congrArg (Value.int .i64) (by rw [FG, if_pos (by omega)]; exact (d7.trans (goTrack_bad (by omega) h4)).symm), rfl⟩
   have f2 := h4;have h4 := CF h4;have f1 := DR h4;have g3 := h4;refine AL (NX (rq (rqr ?_)));have i4 := JI c5 c4;refine sp 2 [(48, vI ((Y.tracks.getD (k) []).getD (j) 0)), (47, vS b3 a2.length b4)] ?_;have d4 := ct_own (I := J1) 0 c0 (by omega) (fun I' hI hs_l => (has_ct I' _ _ ((Y.tracks.getD (k) []).getD (j) 0) hs_l :));refine sS (sc (some 49) (F := ((bX b1 #[vS a3 Y.cars.length a4, vS a5 Y.room.length a6, vS a0 Y.tracks.length a1] 26) :: F)) (d4 :) (PM.symm) (fun l8 I5 l7 b6 i7 => ?_));obtain ⟨d8, d5⟩ := i7;rw [d8, d5]; clear d8 d5;replace a8 := a8.mono b6;replace a9 := a9.mono b6;replace b9 := b9.mono b6;replace b0 := b0.mono b6;replace a7 := a7.mono b6;replace b5 := fun i hi => (b5 i hi).mono b6
   refine pm (M' := ((bX b1 #[vS a3 Y.cars.length a4, vS a5 Y.room.length a6, vS a0 Y.tracks.length a1] 26) :: (b2 ++ F))) PM ?_;show Seq _ _ _ _ _ _ ((49, .bool (decide (((Y.tracks.getD (k) []).getD (j) 0) ∈ a2))) :: _) _ _;refine se (rc 49 rfl (fun h5 => ?_) (fun h5 => ?_))
   ·
    have f3 := h5;have h5 := JO h5;refine rqr (sp 1 [(2, vI (4))] (se (BM ((RP (RB (RP (RP (RB (RP (RB (RP (RP (RB (RP (AF (t := 2) [] (by kernel_rfl) rfl (TC _ (TT (TR _) (TB _ _))) (IT (IT hJ0 hJ1) b6) ?_))))))))))))))));exact ⟨congrArg (Value.int .i64) (by rw [FG, if_pos (by omega)]; exact (d7.trans (MF (by omega) g3 h5)).symm), rfl⟩
   have f3 := h5;have h5 := LI h5;have g2 := h5;refine AL (NX (rr (sp 2 [(51, vI ((Y.tracks.getD (k) []).getD (j) 0)), (50, vS b3 a2.length b4)] (sS (sbs 52 3 1 #[vI ((Y.tracks.getD (k) []).getD (j) 0)] (fun l6 => (sS (AN (d := 53) (x := (.tmp 50)) (y := (.tmp 52)) (T := 23) (T' := 23) (E := 3) (E' := 3) (sz := 1) (bs := 8) (z := vI (0)) (cell := AP) (xs := a2) (ys := [((Y.tracks.getD (k) []).getD (j) 0 : Int)]) (Ms := b2) (ty := 23) (gd := none) (by kernel_rfl) rfl (by kernel_rfl) (by kernel_rfl) (by kernel_rfl) (by kernel_rfl) (by kernel_rfl) (by decide) (by kernel_rfl) rfl rfl (c0) (PU (PM.symm)) (BP _) (CV 0 rfl rfl) (by first | omega | (have i4 := JI c5 c4; simp only [LC, LN]; omega)) (fun l9 d3 d6 => (AW (M' := ((bX b1 #[vS a3 Y.cars.length a4, vS a5 Y.room.length a6, vS a0 Y.tracks.length a1] 26) :: (d3 ++ F))) (fun w h => (h.perm (PW PM)).sub (TC _ (TR _))) ?_))))))))));obtain ⟨d9, e0, f8, i8⟩ := d6.shape;subst f8;refine sp 1 [(3, vS d9 (a2 ++ ([((Y.tracks.getD (k) []).getD (j) 0 : Int)])).length e0)] (ee (NB (NX (rr (sp 1 [(30, vI (↑j))] (sd (da 31 (↑j) (1)) (sp 1 [(5, vI (↑j + 1))] (ee ?_))))))));refine AG ((Y.tracks.getD (k) []).length - (j+1)) (by omega) ?_;intro a w hS hD hW;exact ⟨I5, j+1, a2 ++ ([((Y.tracks.getD (k) []).getD (j) 0 : Int)]), vS d9 (a2 ++ ([((Y.tracks.getD (k) []).getD (j) 0 : Int)])).length e0, d3, (IT hJ1 b6), by omega, d7.trans (OG (by omega) g3 g2), c6.snoc (c := 0) (by omega) (by omega), met_snoc c5 g2, met_in c4 (by omega), d6, hS.sub (.consE 3 rfl rfl (.consE 5 rfl rfl (.cons 1 rfl (.cons 4 rfl (.nil _))))), hD, hW, rfl⟩
  have f0 := h3;have h3 := BZ h3;refine CD 2 ((EP (EP (EB (NX (rq ?_))))));refine rd0 12 ?_;refine AB (dnb 54 0 0 b1 [vS a3 Y.cars.length a4, vS a5 Y.room.length a6, vS a0 Y.tracks.length a1]) (ox 1 [(55, vP b1 2)] ?_);refine AB (dlb 56 0 2 b1 (vS a0 Y.tracks.length a1)) (ox 1 [(57, vI (↑k))] ?_);refine AB (di 58 1 (k) a7.addr) ?_;have c3 := b5 (k) (by omega);obtain ⟨g6, g8, g7, i0, d2, g9, h0, i1⟩ := id c3;rw [d2] at c3;refine AB (BD (dl 59 (BO a7 (k) (by omega))) d2) ?_;have i6 := c6.all (by omega);refine AB (dc 60 (fun I' hI => (KB I' _ (Y) _ _ ((AY a8 a9 b0).mono hI) (c3.mono hI) (by exact c6.all (by omega)) (by assumption) :))) (ox 1 [(61, vP b1 1)] ?_);refine AB (dlb 62 0 1 b1 (vS a5 Y.room.length a6)) (ox 1 [(63, vI (↑k))] ?_);refine AB (di 64 1 (k) b9.addr) ?_;refine AB (dl 65 (BL b9 (k) (by omega))) ?_;refine BF (sp 1 [(66, .bool (cmp .gtr ((lenOf Y.cars (Y.tracks.getD (k) []))) (Y.room.getD (k) 0)))] (se (rc 66 rfl (fun h6 => ?_) (fun h6 => ?_))))
  ·
   have f4 := h6;have h6 := GF h6;refine rqr (sp 1 [(2, vI (9))] (se (BM ((RB (RP (RP (RB (RP (AF (t := 2) [] (by kernel_rfl) rfl (TC _ (TT (TR _) (TB _ _))) (IT hJ0 hJ1) ?_))))))))));exact ⟨congrArg (Value.int .i64) (by rw [FG, if_pos (by omega)]; exact (d7.trans ((IC (by omega)).trans (if_pos (by omega)))).symm), rfl⟩
  have f4 := h6;have h6 := GE h6;refine AL (NB (NX (rr (sp 1 [(20, vI (↑k))] (sd (da 21 (↑k) (1)) (sp 1 [(4, vI (↑k + 1))] (ee ?_)))))));refine AG (Y.tracks.length - (k+1)) (by omega) ?_;intro a w hS hD hW;exact ⟨J1, k+1, a2, vS b3 a2.length b4, b2, (IT hJ0 hJ1), by omega, d7.trans ((IC (by omega)).trans (if_neg (by omega))), g4.snoc (by omega) (c6.all (by omega)), c5, c4, c0, hS.sub (.consE 3 rfl rfl (.consE 4 rfl rfl (.cons 1 rfl (.nil _)))), hD, hW, rfl⟩
 have e9 := h2;have h2 := BZ h2;refine CD 0 ((EP (EP (EB (NX (rq (rqr (sp 3 [(69, vP b1 0), (68, vI (↑(b7.length)))] (sd (dlb 70 0 0 b1 (vS a3 Y.cars.length a4)) (sp 2 [(72, .bool (cmp .lss (↑(b7.length)) (↑(Y.cars.length))))] (se (rc 72 rfl (fun h7 => ?_) (fun h7 => ?_)))))))))))))
 ·
  have f5 := h7;have h7 := BV h7;refine rqr (sp 1 [(2, vI (7))] (se (BM ((RP (AF (t := 2) [] (by kernel_rfl) rfl (TC _ (TT (TR _) (TB _ _))) hJ0 ?_))))));exact ⟨congrArg (Value.int .i64) (by rw [FG, if_pos (by omega)]; exact (hr.trans ((GI (by omega)).trans (if_pos (by omega)))).symm), rfl⟩
 have f5 := h7;have h7 := BZ h7;refine AL (NX (rq (rqr (sp 1 [(7, vI (1))] (se (rb 4 ?_))))));refine rl (fun mz a w => ∃ J2 : Imm, ∃ q : Nat, (J0.le J2) ∧ (1 ≤ q ∧ q ≤ 4) ∧ (∀ g : Nat, 1 ≤ g → g < q → FH Y ↑g = true) ∧ Slots 81 [(7, vI ↑q), (1, vP b1 0)] a ∧ a.defers = [] ∧ St J2 ((bX b1 #[vS a3 Y.cars.length a4, vS a5 Y.room.length a6, vS a0 Y.tracks.length a1] 26) :: (b8 ++ F)) w ∧ mz = 4 - q) ?_ ?_
 ·intro a w hS hD hW;exact ⟨_, J0, 1, IR _, by omega, (fun g h1 h2 => by omega), hS.sub (.cons 7 rfl (.cons 1 rfl (.nil _))), hD, hW, rfl⟩
 rintro mz a w ⟨J2, q, hJ2, hq, g5, hS, hD, hW, rfl⟩
 refine AX hS hD hW ?_;clear hS hD hW a w;replace a8 := a8.mono hJ2;replace a9 := a9.mono hJ2;replace b0 := b0.mono hJ2;refine rq (rqr (sp 2 [(74, .bool (cmp .leq (↑q) (3)))] (se (rc 74 rfl (fun h8 => ?_) (fun h8 => ?_)))))
 ·
  have f6 := h8;have h8 := leq_t h8;refine AL (NX (rq (rb 5 (rqr ?_))));have ho := g4.all (by omega);refine sd (dnb 77 0 0 b1 [vS a3 Y.cars.length a4, vS a5 Y.room.length a6, vS a0 Y.tracks.length a1]) (sp 1 [(78, vI (↑q))] (sd (dc 79 (fun I' hI => (together_ct I' _ (Y) (↑q) ((AY a8 a9 b0).mono hI) (by assumption) :))) (sp 1 [(80, .bool (!(FH Y ↑q)))] (se (rc 80 rfl (fun h9 => ?_) (fun h9 => ?_))))))
  ·
   have f7 := h9;have h9 := CR h9;refine rqr (sp 1 [(2, vI (12))] (se (BM ((RB (RP (RP (RB (RP (AF (t := 2) [] (by kernel_rfl) rfl (TC _ (TT (TR _) (TB _ _))) (IT hJ0 hJ2) ?_))))))))));exact ⟨congrArg (Value.int .i64) (by rw [FG, if_pos (by omega)]; exact (hr.trans ((GI (by omega)).trans ((if_neg (by omega)).trans (refG_hit (by omega) (by omega) h9)))).symm), rfl⟩
  have f7 := h9;have h9 := CF h9;refine AL (NB (NX (rr (sp 1 [(75, vI (↑q))] (sd (da 76 (↑q) (1)) (sp 1 [(7, vI (↑q + 1))] (ee ?_)))))));refine AG (4 - (q+1)) (by omega) ?_;intro a w hS hD hW;exact ⟨J2, q+1, hJ2, by omega, (fun g h1 h2 => if h : g < q then g5 g h1 h else (show q = g by omega) ▸ h9), hS.sub (.consE 7 rfl rfl (.cons 1 rfl (.nil _))), hD, hW, rfl⟩
 have f6 := h8;have h8 := leq_f h8;refine CD 4 ((EP (EP (EB (NX (rqr (sp 1 [(2, vI (0))] (se (BM (AF (t := 2) [] (by kernel_rfl) rfl (TC _ (TT (TR _) (TB _ _))) (IT hJ0 hJ2) ?_))))))))));exact ⟨congrArg (Value.int .i64) (by rw [FG, if_pos (by omega)]; exact (hr.trans ((GI (by omega)).trans ((if_neg (by omega)).trans (refG_ok (fun g h1 h2 => g5 g h1 (by omega)))))).symm), rfl⟩
end Go.Proofs.YtcaocbhbofejnaaGreatDoor
namespace Go.Sh
open Go Go.Sl
def stG (cs : List Car) (g : Int) : Bool → List Int → Nat
  | _, [] => 0
  | p, c :: r => (if grp cs c = g ∧ p = false then 1 else 0) + stG cs g (decide (grp cs c = g)) r
def sumG (cs : List Car) (g : Int) : List (List Int) → Nat
  | [] => 0
  | t :: ts => stG cs g false t + sumG cs g ts
def inN (g : Int) (met : List Int) : Nat := if g ∈ met then 1 else 0
def KY (cs : List Car) (g : Int) (t : List Int) (k : Nat) : Bool := decide (0 < k) && decide (grp cs (t.getD (k - 1) 0) = g)
theorem goG_st {cs : List Car} {ts : List (List Int)} {t : List Int} (ih : ∀ met, goGs cs ts met = 0 ↔ ∀ g, 0 < g → inN g met + sumG cs g ts ≤ 1) : ∀ (m k : Nat) (met : List Int), k + m = t.length →
    (∀ g, 0 < g → KY cs g t k = true → g ∈ met) →
    (goG cs t (goGs cs ts) k (t.drop k) met = 0 ↔ ∀ g, 0 < g → inN g met + stG cs g (KY cs g t k) (t.drop k) + sumG cs g ts ≤ 1) := by
  intro m
  induction m with
  | zero =>
    intro k met hk _;rw [goG_done (by omega), ih, CL (by omega)];simp only [stG, Nat.add_zero]
  | succ m ihm =>
    intro k met hk hp;have hlt : k < t.length := by omega
    have hcons : t.drop k = t.getD k 0 :: t.drop (k + 1) := BI hlt;have hpk : ∀ g, KY cs g t (k + 1) = decide (grp cs (t.getD k 0) = g) := fun g => by simp [KY]
    by_cases hb : (decide (0 < grp cs (t.getD k 0)) && (decide (grp cs (t.getD k 0) ∈ met) && !(BR cs t ↑k))) = true
    · rw [goG_hit hlt hb]
      simp only [Bool.and_eq_true, decide_eq_true_eq, Bool.not_eq_true'] at hb;refine ⟨(fun h => by cases h), fun h => ?_⟩
      exfalso
      have h1 := h _ hb.1;have hnp : KY cs (grp cs (t.getD k 0)) t k = false := by
        cases hq : KY cs (grp cs (t.getD k 0)) t k with
        | false => rfl
        | true =>
          simp only [KY, Bool.and_eq_true, decide_eq_true_eq] at hq;rw [NE hlt hb.1 hq.1 hq.2] at hb;cases hb.2.2
      rw [hcons, hnp] at h1;have e1 : inN (grp cs (t.getD k 0)) met = 1 := if_pos hb.2.1;have e2 : ∀ r, stG cs (grp cs (t.getD k 0)) false (t.getD k 0 :: r) = 1 + stG cs (grp cs (t.getD k 0)) (decide (grp cs (t.getD k 0) = grp cs (t.getD k 0))) r := fun r => by
        show (if _ then 1 else 0) + _ = _;rw [if_pos ⟨rfl, rfl⟩]
      rw [e1, e2] at h1;omega
    · have hb' := Bool.eq_false_iff.2 hb
      rw [goG_miss hlt hb', ihm (k + 1) _ (by omega) ?_]
      · refine forall_congr' fun g => forall_congr' fun hg => ?_
        rw [hpk, hcons];have hst : stG cs g (KY cs g t k) (t.getD k 0 :: t.drop (k + 1)) = (if grp cs (t.getD k 0) = g ∧ KY cs g t k = false then 1 else 0) + stG cs g (decide (grp cs (t.getD k 0) = g)) (t.drop (k + 1)) := rfl;rw [hst];have hin : inN g (if grp cs (t.getD k 0) ∈ met then met else met ++ [grp cs (t.getD k 0)]) = inN g met + (if grp cs (t.getD k 0) = g ∧ KY cs g t k = false then 1 else 0) := by
          by_cases e : grp cs (t.getD k 0) = g
          · cases hq : KY cs g t k with
            | true =>
              have hm := hp g hg hq;rw [e, if_pos hm, if_neg (by simp)]; rfl
            | false =>
              have hnm : g ∉ met := fun hm => by
                have hc : BR cs t ↑k = false := by
                  cases hc : BR cs t ↑k with
                  | false => rfl
                  | true =>
                    obtain ⟨c1, c2, c3⟩ := coupled_to hlt hc;have : KY cs g t k = true := by
                      simp only [KY, Bool.and_eq_true, decide_eq_true_eq];exact ⟨c1, c3.symm.trans e⟩
                    rw [hq] at this; cases this
                rw [e, hc] at hb;simp [hg, hm] at hb
              rw [e, if_neg hnm];simp [inN, hnm]
          · have e' : ¬ g = grp cs (t.getD k 0) := fun h => e h.symm
            by_cases hG : grp cs (t.getD k 0) ∈ met
            · rw [if_pos hG, if_neg (fun hh => e hh.1)]; rfl
            · rw [if_neg hG, if_neg (fun hh => e hh.1), Nat.add_zero]
              unfold inN;simp only [List.mem_append, List.mem_singleton, e', or_false]
        rw [hin]
        generalize stG cs g (decide (grp cs (t.getD k 0) = g)) (t.drop (k + 1)) = S
        constructor <;> intro h <;> omega
      · intro g hg hq
        rw [hpk] at hq;have e := of_decide_eq_true hq;subst e
        split
        · assumption
        · simp
theorem goGs_st {cs : List Car} : ∀ (ts : List (List Int)) (met : List Int), goGs cs ts met = 0 ↔ ∀ g, 0 < g → inN g met + sumG cs g ts ≤ 1 := by
  intro ts
  induction ts with
  | nil =>
    intro met;refine ⟨fun _ g _ => ?_, fun _ => rfl⟩;unfold inN sumG; split <;> omega
  | cons t ts ih =>
    intro met;have h := goG_st (cs := cs) (ts := ts) (t := t) ih t.length 0 met (by omega) (fun g _ h => by simp [KY] at h);rw [List.drop_zero] at h;show goG cs t (goGs cs ts) 0 t met = 0 ↔ _;rw [h];refine forall_congr' fun g => forall_congr' fun hg => ?_
    have e : KY cs g t 0 = false := by simp [KY]
    rw [e];show _ ↔ inN g met + (stG cs g false t + sumG cs g ts) ≤ 1
    constructor <;> intro h <;> omega
theorem groups_sum {Y : Yard} : DE Y = 0 ↔ ∀ g, 0 < g → sumG Y.cars g Y.tracks ≤ 1 := by
  unfold DE;rw [goGs_st];refine forall_congr' fun g => forall_congr' fun _ => ?_
  have e : inN g [] = 0 := by simp [inN]
  rw [e, Nat.zero_add]
def JG (prev : Bool) (row most c n : Nat) : Prop :=
  (n = 0 → row = 0 ∧ most = 0 ∧ c = 0 ∧ prev = false) ∧ (n = 1 → most = c ∧ 0 < c ∧ row = if prev = true then c else 0) ∧ (2 ≤ n → most < c ∧ row < c)
theorem JG_reset {prev : Bool} {row most c n : Nat} (h : JG prev row most c n) : JG false 0 most c n := by
  obtain ⟨h0, h1, h2⟩ := h;refine ⟨fun h => ?_, fun h => ?_, fun h => ?_⟩
  · have := h0 h; exact ⟨rfl, this.2.1, this.2.2.1, rfl⟩
  · have := h1 h; exact ⟨this.1, this.2.1, by simp⟩
  · have := h2 h; omega
theorem JG_step {prev : Bool} {row most c n : Nat} (x : Bool) (h : JG prev row most c n) :
    JG x (if x = true then row + 1 else 0) (max most (if x = true then row + 1 else 0)) (c + if x = true then 1 else 0) (n + if x = true ∧ prev = false then 1 else 0) := by
  cases x with
  | false =>
    show JG false 0 (max most 0) (c + 0) (n + 0);rw [Nat.max_zero]; exact JG_reset h
  | true =>
    obtain ⟨h0, h1, h2⟩ := h;cases prev with
    | false =>
      show JG true (row + 1) (max most (row + 1)) (c + 1) (n + 1);refine ⟨fun hn => by omega, fun hn => ?_, fun hn => ?_⟩
      · have := h0 (by omega); rw [if_pos rfl]; omega
      · rcases Nat.lt_or_ge n 2 with h | h
        · have := h1 (by omega); rw [if_neg (by decide)] at this; omega
        · have := h2 h; omega
    | true =>
      show JG true (row + 1) (max most (row + 1)) (c + 1) (n + 0);refine ⟨fun hn => ?_, fun hn => ?_, fun hn => ?_⟩
      · have := (h0 (by omega)).2.2.2; cases this
      · have := h1 (by omega); rw [if_pos rfl] at this ⊢; omega
      · have := h2 (by omega); omega
def cntT (cs : List Car) (g : Int) : List Int → Nat
  | [] => 0
  | c :: r => (if grp cs c = g then 1 else 0) + cntT cs g r
theorem cntT_append (cs : List Car) (g : Int) (a b : List Int) : cntT cs g (a ++ b) = cntT cs g a + cntT cs g b := by
  induction a with
  | nil => simp [cntT]
  | cons c a ih => simp only [List.cons_append, cntT, ih]; omega
theorem JG_fold {cs : List Car} {g : Int} : ∀ (t : List Int) (prev : Bool) (s : Nat × Nat) (c n : Nat), JG prev s.1 s.2 c n →
    ∃ prev', JG prev' (t.foldl (rowS cs g) s).1 (t.foldl (rowS cs g) s).2 (c + cntT cs g t) (n + stG cs g prev t) := by
  intro t
  induction t with
  | nil => intro prev s c n h; exact ⟨prev, h⟩
  | cons x t ih =>
    intro prev s c n h;have h1 := JG_step (decide (grp cs x = g)) h;have e1 : rowS cs g s x = ((if decide (grp cs x = g) = true then s.1 + 1 else 0), max s.2 (if decide (grp cs x = g) = true then s.1 + 1 else 0)) := by simp [rowS]
    have h2 := ih (decide (grp cs x = g)) (rowS cs g s x) (c + if decide (grp cs x = g) = true then 1 else 0) (n + if decide (grp cs x = g) = true ∧ prev = false then 1 else 0) (by rw [e1]; exact h1);obtain ⟨p, hp⟩ := h2;refine ⟨p, ?_⟩;have e2 : c + cntT cs g (x :: t) = c + (if decide (grp cs x = g) = true then 1 else 0) + cntT cs g t := by
      simp only [cntT, decide_eq_true_eq]; omega
    have e3 : n + stG cs g prev (x :: t) = n + (if decide (grp cs x = g) = true ∧ prev = false then 1 else 0) + stG cs g (decide (grp cs x = g)) t := by
      simp only [stG, decide_eq_true_eq]; omega
    rw [e2, e3];exact hp
theorem JG_all {cs : List Car} {g : Int} : ∀ (ts : List (List Int)) (most c n : Nat), JG false 0 most c n →
    JG false 0 (ts.foldl (fun most t => (rowT cs g most t).2) most) (c + cntT cs g ts.flatten) (n + sumG cs g ts) := by
  intro ts
  induction ts with
  | nil => intro most c n h; exact h
  | cons t ts ih =>
    intro most c n h;obtain ⟨p, hp⟩ := JG_fold t false (0, most) c n h;have := ih (rowT cs g most t).2 _ _ (JG_reset hp);have e2 : c + cntT cs g (t :: ts).flatten = c + cntT cs g t + cntT cs g ts.flatten := by rw [List.flatten_cons, cntT_append]; omega
    have e3 : n + sumG cs g (t :: ts) = n + stG cs g false t + sumG cs g ts := by show n + (_ + _) = _; omega
    rw [e2, e3];exact this
theorem cntT_filter (cs : List Car) (g : Int) (t : List Int) : cntT cs g t = (t.filter fun c => decide (grp cs c = g)).length := by
  induction t with
  | nil => rfl
  | cons c t ih =>
    simp only [cntT, ih]
    by_cases h : grp cs c = g
    · rw [if_pos h, List.filter_cons, if_pos (decide_eq_true h), List.length_cons]; omega
    · rw [if_neg h, List.filter_cons, if_neg (by simpa using h)]; omega
theorem cntT_perm {cs : List Car} {g : Int} {a b : List Int} (h : a.Perm b) : cntT cs g a = cntT cs g b := by
  rw [cntT_filter, cntT_filter]; exact (h.filter _).length_eq
theorem cntT_whole {cs : List Car} {g : Int} : ∀ k, k ≤ cs.length → cntT cs g (DB k) = cntG (cs.take k) g := by
  intro k
  induction k with
  | zero => intro _; simp [DB, cntT, cntG]
  | succ k ih =>
    intro hk;rw [JK, cntT_append, ih (by omega), cntG_succ (by omega)];simp only [cntT, grp, FD, Int.toNat_natCast, Nat.add_zero]; rfl
theorem GB {Y : Yard} (hp : Y.tracks.flatten.Perm (DB Y.cars.length)) (g : Int) : FH Y g = true ↔ sumG Y.cars g Y.tracks ≤ 1 := by
  have h := JG_all (cs := Y.cars) (g := g) Y.tracks 0 0 0 ⟨fun _ => ⟨rfl, rfl, rfl, rfl⟩, fun h => by omega, fun h => by omega⟩;rw [Nat.zero_add, Nat.zero_add, cntT_perm hp, cntT_whole _ (Nat.le_refl _), List.take_length] at h;unfold FH;rw [decide_eq_true_eq];have e : mostTo Y.cars g Y.tracks = Y.tracks.foldl (fun most t => (rowT Y.cars g most t).2) 0 := rfl;rw [e];obtain ⟨h0, h1, h2⟩ := h;omega
theorem goG_012 {cs : List Car} {t : List Int} {fin : List Int → Int} (hf : ∀ m, fin m = 0 ∨ fin m = 12) : ∀ (l : List Int) (k : Nat) (met : List Int), goG cs t fin k l met = 0 ∨ goG cs t fin k l met = 12 := by
  intro l
  induction l with
  | nil => intro k met; exact hf met
  | cons c r ih =>
    intro k met;simp only [goG]
    split
    · exact .inr rfl
    · exact ih _ _
theorem goGs_012 {cs : List Car} : ∀ (ts : List (List Int)) (met : List Int), goGs cs ts met = 0 ∨ goGs cs ts met = 12 := by
  intro ts
  induction ts with
  | nil => intro met; exact .inl rfl
  | cons t r ih => intro met; exact goG_012 ih _ _ _
theorem sumG_none {cs : List Car} {g : Int} (h : ∀ c, grp cs c ≠ g) : ∀ ts, sumG cs g ts = 0 := by
  have h1 : ∀ (t : List Int) (p : Bool), stG cs g p t = 0 := by
    intro t
    induction t with
    | nil => intro p; rfl
    | cons c t ih => intro p; simp only [stG, ih, h c, false_and, if_false]
  intro ts
  induction ts with
  | nil => rfl
  | cons t ts ih => simp only [sumG, ih, h1]
theorem refG_eq {Y : Yard} (hp : Y.tracks.flatten.Perm (DB Y.cars.length)) (hg : ∀ c ∈ Y.cars, 0 ≤ c.grp ∧ c.grp ≤ 3) : refG Y = DE Y := by
  have h3 : ∀ c, grp Y.cars c ≤ 3 := fun c => by
    unfold grp FD
    by_cases hc : c.toNat < Y.cars.length
    · exact (hg _ (AH (d := AM) hc)).2
    · simp [List.getD, List.getElem?_eq_none (Nat.le_of_not_lt hc), AM]
  have hr : refG Y = 0 ∨ refG Y = 12 := by unfold refG; split <;> simp
  have hs : DE Y = 0 ∨ DE Y = 12 := goGs_012 _ _;have hi : refG Y = 0 ↔ DE Y = 0 := by
    rw [groups_sum]
    constructor
    · intro h g hg0
      unfold refG at h
      split at h
      · rename_i hh
        simp only [Bool.and_eq_true] at hh
        by_cases hg3 : g ≤ 3
        · have : g = 1 ∨ g = 2 ∨ g = 3 := by omega
          rcases this with rfl | rfl | rfl
          · exact (GB hp 1).1 hh.1
          · exact (GB hp 2).1 hh.2.1
          · exact (GB hp 3).1 hh.2.2
        · rw [sumG_none (fun c => by have := h3 c; omega)]; omega
      · cases h
    · intro h
      unfold refG;rw [if_pos];simp only [Bool.and_eq_true];exact ⟨(GB hp 1).2 (h 1 (by omega)), (GB hp 2).2 (h 2 (by omega)), (GB hp 3).2 (h 3 (by omega))⟩
  rcases hr with a | a <;> rcases hs with b | b
  · rw [a, b]
  · rw [hi.1 a] at b; cases b
  · rw [hi.2 b] at a; cases a
  · rw [a, b]
theorem goTrack_congr {n : Nat} {f1 f2 : List Int → Int} : ∀ (t met : List Int), met.Nodup → ((∀ c ∈ t, 0 ≤ c ∧ c < n) → (met ++ t).Nodup → f1 (met ++ t) = f2 (met ++ t)) → DH n f1 t met = DH n f2 t met := by
  intro t
  induction t with
  | nil => intro met hn h; have := h (fun c hc => by simp at hc) (by simpa using hn); simpa [DH] using this
  | cons c r ih =>
    intro met hn h;simp only [DH]
    split
    · rename_i h1
      split
      · rfl
      · rename_i h2
        refine ih (met ++ [c]) (met_snoc hn h2) fun g1 g2 => ?_
        rw [List.append_assoc] at g2 ⊢;refine h (fun x hx => ?_) g2;have := DR h1;rcases List.mem_cons.1 hx with rfl | hx
        · omega
        · exact g1 x hx
    · rfl
theorem goTracks_congr {cs : List Car} {f1 f2 : List Int → Int} : ∀ (ts : List (List Int)) (rm met : List Int), met.Nodup → (OkAll cs ts → (met ++ ts.flatten).Nodup → f1 (met ++ ts.flatten) = f2 (met ++ ts.flatten)) → CJ cs f1 ts rm met = CJ cs f2 ts rm met := by
  intro ts
  induction ts with
  | nil => intro rm met hn h; have := h OkAll.nil (by simpa using hn); simpa [CJ] using this
  | cons t r ih =>
    intro rm met hn h;simp only [CJ];refine goTrack_congr t met hn fun g1 g2 => ?_
    split
    · rfl
    · refine ih rm.tail (met ++ t) g2 fun k1 k2 => ?_
      rw [List.append_assoc] at k2 ⊢
      have := h (fun x hx => by
        rcases List.mem_cons.1 hx with rfl | hx
        · exact g1
        · exact k1 x hx) (by simpa using k2)
      simpa using this
theorem refCheck_eq (Y : Yard) : PJ Y = AJ Y := by
  rw [checkErr_split];unfold PJ
  by_cases h : CM Y = 0
  · rw [if_pos h, if_pos h]
    unfold FG DW
    split
    · refine goTracks_congr _ _ _ (by simp) fun g1 g2 => ?_
      simp only [List.nil_append] at g2 ⊢
      split
      · rfl
      · rename_i hl
        refine refG_eq (MX g2 (fun x hx => IU g1 x hx) (by omega)) fun c hc => ?_
        unfold CM at h
        split at h
        · cases h
        · split at h
          · rename_i h2
            exact (carOk_range (of_decide_eq_true (List.all_eq_true.1 h2 c hc))).2.2.2
          · cases h
    · rfl
  · rw [if_neg h, if_neg h]
def lastB (cs : List Car) (g : Int) : Bool → List Int → Bool
  | p, [] => p
  | _, c :: r => lastB cs g (decide (grp cs c = g)) r
theorem stG_append {cs : List Car} {g : Int} : ∀ (a b : List Int) (p : Bool), stG cs g p (a ++ b) = stG cs g p a + stG cs g (lastB cs g p a) b := by
  intro a
  induction a with
  | nil => intro b p; simp [stG, lastB]
  | cons c a ih => intro b p; simp only [List.cons_append, stG, lastB, ih]; omega
theorem lastB_at {cs : List Car} {g : Int} : ∀ (a : List Int) (p : Bool), 0 < a.length → lastB cs g p a = decide (grp cs (a.getD (a.length - 1) 0) = g) := by
  intro a
  induction a with
  | nil => intro p h; simp at h
  | cons c a ih =>
    intro p _;cases a with
    | nil => simp [lastB]
    | cons d r =>
      show lastB cs g (decide (grp cs c = g)) (d :: r) = _;rw [ih _ (by simp)];simp
theorem stG_tf {cs : List Car} {g : Int} (b : List Int) : stG cs g false b = stG cs g true b + if 0 < b.length ∧ grp cs (b.getD 0 0) = g then 1 else 0 := by
  cases b with
  | nil => simp [stG]
  | cons c r =>
    simp only [stG, List.length_cons, List.getD_cons_zero]
    by_cases h : grp cs c = g <;> simp [h] <;> omega
theorem stG_le {cs : List Car} {g : Int} (p : Bool) (b : List Int) : stG cs g p b ≤ stG cs g false b := by
  cases p with
  | false => exact Nat.le_refl _
  | true => rw [stG_tf b]; omega
theorem stG_app_le {cs : List Car} {g : Int} (a b : List Int) : stG cs g false (a ++ b) ≤ stG cs g false a + stG cs g false b := by
  rw [stG_append]; have := stG_le (cs := cs) (g := g) (lastB cs g false a) b; omega
theorem stG_cut {cs : List Car} {g : Int} {A : List Int} {n : Nat} (h : 0 < n → n < A.length → ¬ (grp cs (A.getD (n - 1) 0) = g ∧ grp cs (A.getD n 0) = g)) :
    stG cs g false A = stG cs g false (A.take n) + stG cs g false (A.drop n) := by
  have e : stG cs g false A = stG cs g false (A.take n ++ A.drop n) := by rw [List.take_append_drop]
  rw [e, stG_append]
  congr 1
  by_cases hn : 0 < n ∧ n < A.length
  · have hl : (A.take n).length = n := by rw [List.length_take]; omega
    rw [lastB_at _ _ (by omega), hl];have e1 : (A.take n).getD (n - 1) 0 = A.getD (n - 1) 0 := by simp only [List.getD, List.getElem?_take]; rw [if_pos (by omega)]
    rw [e1]
    by_cases hq : grp cs (A.getD (n - 1) 0) = g
    · have h2 : ¬ grp cs (A.getD n 0) = g := fun hh => h hn.1 hn.2 ⟨hq, hh⟩
      rw [decide_eq_true hq, stG_tf (A.drop n)];have e2 : (A.drop n).getD 0 0 = A.getD n 0 := by simp [List.getD]
      rw [e2, if_neg (fun hh => h2 hh.2)]; omega
    · rw [decide_eq_false hq]
  · by_cases h0 : n = 0
    · subst h0; simp [lastB]
    · rw [CL (by omega)]; simp [stG]
theorem sumG_set {cs : List Car} {g : Int} (X : List Int) : ∀ (ts : List (List Int)) (i : Nat), i < ts.length → sumG cs g (ts.set i X) + stG cs g false (ts.getD i []) = sumG cs g ts + stG cs g false X := by
  intro ts
  induction ts with
  | nil => intro i h; simp at h
  | cons t ts ih =>
    intro i h;cases i with
    | zero => simp only [List.set_cons_zero, sumG, List.getD_cons_zero]; omega
    | succ i => simp only [List.set_cons_succ, sumG, List.getD_cons_succ]; have := ih i (by simpa using h); omega
theorem free_cut {Y : Yard} {s : Shift} (m : MayOk Y s) (g : Int) (hg : 0 < g) : 0 < (EZ Y s).toNat → (EZ Y s).toNat < (trk Y s.frm).length → ¬ (grp Y.cars ((trk Y s.frm).getD ((EZ Y s).toNat - 1) 0) = g ∧ grp Y.cars ((trk Y s.frm).getD (EZ Y s).toNat 0) = g) := fun h1 h2 hh => by
  have hf := m.free;have e : EZ Y s = ↑(EZ Y s).toNat := by omega
  rw [e, NE h2 (by rw [hh.2]; exact hg) h1 (hh.1.trans hh.2.symm)] at hf;cases hf
theorem moved_trk {Y : Yard} {s : Shift} (m : MayOk Y s) : trk (moved Y s) s.frm = (trk Y s.frm).take (EZ Y s).toNat ∧ trk (moved Y s) s.to = trk Y s.to ++ (trk Y s.frm).drop (EZ Y s).toNat := by
  have hf := m.frm; have ht := m.to; have hne := m.ne;have hne' : s.frm.toNat ≠ s.to.toNat := by omega
  constructor
  · simp only [trk, moved, List.getD]
    rw [List.getElem?_set_self (by rw [List.length_set]; omega)]; rfl
  · simp only [trk, moved, List.getD]
    rw [List.getElem?_set_ne hne', List.getElem?_set_self (by omega)]; rfl
theorem moved_other {Y : Yard} {s : Shift} {k : Nat} (h1 : k ≠ s.frm.toNat) (h2 : k ≠ s.to.toNat) : (moved Y s).tracks.getD k [] = Y.tracks.getD k [] := by
  simp only [moved, List.getD];rw [List.getElem?_set_ne (Ne.symm h1), List.getElem?_set_ne (Ne.symm h2)]
theorem lenOf_cut (cs : List Car) (A : List Int) (n : Nat) : lenOf cs A = lenOf cs (A.take n) + lenOf cs (A.drop n) := by
  rw [← KA, List.take_append_drop]
theorem moved_sum {Y : Yard} {s : Shift} (m : MayOk Y s) (g : Int) (hg : 0 < g) : sumG Y.cars g (moved Y s).tracks ≤ sumG Y.cars g Y.tracks := by
  have hf := m.frm; have ht := m.to; have hne := m.ne;have hne' : s.to.toNat ≠ s.frm.toNat := by omega
  have hc := stG_cut (cs := Y.cars) (g := g) (A := trk Y s.frm) (n := (EZ Y s).toNat) (free_cut m g hg);have ha := stG_app_le (cs := Y.cars) (g := g) (trk Y s.to) ((trk Y s.frm).drop (EZ Y s).toNat);have s1 := sumG_set (cs := Y.cars) (g := g) (trk Y s.to ++ (trk Y s.frm).drop (EZ Y s).toNat) Y.tracks s.to.toNat (by omega);have s2 := sumG_set (cs := Y.cars) (g := g) ((trk Y s.frm).take (EZ Y s).toNat) (Y.tracks.set s.to.toNat (trk Y s.to ++ (trk Y s.frm).drop (EZ Y s).toNat)) s.frm.toNat (by rw [List.length_set]; omega);have e2 : (Y.tracks.set s.to.toNat (trk Y s.to ++ (trk Y s.frm).drop (EZ Y s).toNat)).getD s.frm.toNat [] = trk Y s.frm := by
    simp only [trk, List.getD];rw [List.getElem?_set_ne hne']
  rw [e2] at s2;have e1 : Y.tracks.getD s.to.toNat [] = trk Y s.to := rfl;rw [e1] at s1;show sumG Y.cars g ((Y.tracks.set s.to.toNat _).set s.frm.toNat _) ≤ _;omega
theorem Fine.mv {Y : Yard} {s : Shift} (f : Fine Y) (h : BE Y s = 0) : Fine (moved Y s) := by
  have m := mayOk h;have k := MI h;have gd := f.good.moved h;have hf := m.frm; have ht := m.to; have hne := m.ne;have sm := f.good.small;refine ⟨f.cars, f.carOk, f.room1, f.room3, f.roomOk, by rw [k.len]; exact f.len, gd.ok, k.perm.nodup_iff.2 f.nodup, fun i hi => ?_, by rw [k.perm.length_eq]; exact f.all, ?_⟩
  · rw [k.len] at hi
    have t1 := moved_trk m;have e0 : (moved Y s).cars = Y.cars := rfl;have e9 : (moved Y s).room = Y.room := rfl;rw [e0, e9]
    by_cases h1 : i = s.frm.toNat
    · subst h1
      have e : (moved Y s).tracks.getD s.frm.toNat [] = _ := t1.1;rw [e];have h2 := f.fits s.frm.toNat hi;have h3 := lenOf_cut Y.cars (trk Y s.frm) (EZ Y s).toNat;have h4 := DS sm ((trk Y s.frm).drop (EZ Y s).toNat);have e5 : Y.tracks.getD s.frm.toNat [] = trk Y s.frm := rfl;rw [e5] at h2;omega
    · by_cases h2 : i = s.to.toNat
      · subst h2
        have e : (moved Y s).tracks.getD s.to.toNat [] = _ := t1.2;rw [e, KA];have := m.fits;omega
      · rw [moved_other h1 h2]; exact f.fits i hi
  · rw [groups_sum]
    intro g hg;have h1 := groups_sum.1 f.groups g hg;have h2 := moved_sum m g hg;exact Nat.le_trans h2 h1
theorem playFrom_app : ∀ (a : List Shift) (b : List Shift) {Y Z : Yard}, BS Y a = (Z, 0) → BS Y (a ++ b) = BS Z b := by
  intro a
  induction a with
  | nil => intro b Y Z h; simp only [BS, Prod.mk.injEq, and_true] at h; subst h; rfl
  | cons s a ih =>
    intro b Y Z h;simp only [List.cons_append, BS] at h ⊢
    by_cases hm : BE Y s = 0
    · rw [if_pos hm] at h ⊢; exact ih b h
    · rw [if_neg hm] at h
      simp only [Prod.mk.injEq] at h;exact absurd h.2 hm
theorem OM {Y : Yard} {s : Shift} (h : BE Y s = 0) : BS Y [s] = (moved Y s, 0) := by simp only [BS]; rw [if_pos h]
theorem playFrom_fine : ∀ (l : List Shift) {Y X : Yard}, Fine Y → BS Y l = (X, 0) → Fine X := by
  intro l
  induction l with
  | nil => intro Y X f h; simp only [BS, Prod.mk.injEq, and_true] at h; subst h; exact f
  | cons s l ih =>
    intro Y X f h;simp only [BS] at h
    by_cases hm : BE Y s = 0
    · rw [if_pos hm] at h; exact ih (f.mv hm) h
    · rw [if_neg hm] at h; simp only [Prod.mk.injEq] at h; exact absurd h.2 hm
theorem KV {Y X : Yard} {l : List Shift} (h : Valid Y) (hp : BS Y l = (X, 0)) : BH Y l = (X, 0) ∧ Valid X ∧ Kin Y X := by
  exact ⟨(FF h).trans hp, (playFrom_fine l h.fine hp).valid, playFrom_kin l hp⟩
end Go.Sh
namespace Go.Proofs.YtcaocbhbofejnaaGreatDoor
open Go Go.Sl Go.Sh
set_option maxRecDepth 100000
noncomputable def c_CheckR (p : List Nat) : Code := sub (AV Tryz.f44) p
theorem JS (I : Imm) (y : Value) (Y : Yard) (y_f : IsYard I y Y) : CtV Tryz.prog 44 #[y] I (vI (AJ Y)) := by
 obtain ⟨y1, y2, y3, d1, a6, a7, a8⟩ := id y_f;subst d1;obtain ⟨a0, a1, b5, b8, b0, b6, b7, b9⟩ := id a6;subst b0;obtain ⟨a2, a3, c0, c3, b2, c1, c2, c4⟩ := id a7;subst b2;obtain ⟨a4, a5, c5, c8, b4, b3, c6, c7, c9, d0⟩ := id a8;subst b3;refine fr (args := [_]) (N := 11) Tryz.func44 (fun F => ?_);show Run _ _ (c_CheckR []) _ _ [(0, .agg #[vS a0 Y.cars.length a1, vS a2 Y.room.length a3, vS a4 Y.tracks.length a5])] _ _;refine rnm (rqr ?_);refine sS (sb 1 26 #[vS a0 Y.cars.length a1, vS a2 Y.room.length a3, vS a4 Y.tracks.length a5] (fun b1 => (sp 1 [(2, vI (0))] (se (rq (rqr (sd (dnb 4 0 0 b1 [vS a0 Y.cars.length a1, vS a2 Y.room.length a3, vS a4 Y.tracks.length a5]) (sd (dc 5 (fun I' hI => (checkCoaches_ct I' _ (Y) ((AY a6 a7 a8).mono hI) :))) (sp 1 [(3, vI ((CM Y)))] (sn (sp 2 [(7, .bool (!(cmp .eql ((CM Y)) (0))))] (se (rc 7 rfl (fun h1 => ?_) (fun h1 => ?_))))))))))))))
 ·
  have a9 := h1;have h1 := CX (CR h1);refine rqr (sp 2 [(2, vI ((CM Y)))] (se (BM ((RP (AF (t := 2) [] (by kernel_rfl) rfl (TC _ (TR _)) (IR _) ?_))))));exact ⟨congrArg (Value.int .i64) (Eq.trans (b := PJ Y) (if_neg (by omega)).symm (refCheck_eq Y)), rfl⟩
 have a9 := h1;have h1 := CY (CF h1);refine AL (NX (rqr (sd (dnb 9 0 0 b1 [vS a0 Y.cars.length a1, vS a2 Y.room.length a3, vS a4 Y.tracks.length a5]) ?_)));have hz := coachErr_zero (show CM Y = 0 by omega);refine sd (dc 10 (fun I' hI => (checkTracksR_ct I' _ (Y) ((AY a6 a7 a8).mono hI) (by exact hz.1) (by exact hz.2) :))) (sp 1 [(2, vI ((FG Y)))] (se (BM (AF (t := 2) [] (by kernel_rfl) rfl (TC _ (TR _)) (IR _) ?_))));exact ⟨congrArg (Value.int .i64) (Eq.trans (b := PJ Y) (if_pos (by omega)).symm (refCheck_eq Y)), rfl⟩
noncomputable def c_checkDraw (p : List Nat) : Code := sub (AV Tryz.f97) p
set_option maxHeartbeats 2000000 in
theorem JV (I : Imm) (y : Value) (Y : Yard) (s : Shift) (y_f : IsYard I y Y) (ho : OkAll Y.cars Y.tracks) (hs : Small Y.cars) (hl : Y.room.length = Y.tracks.length) (hq : ∀ t ∈ Y.tracks, t.length ≤ 1000000) : CtV Tryz.prog 97 #[y, .agg #[vI s.frm, vI s.to, vI s.many]] I (vI (BE Y s)) := by
 obtain ⟨y1, y2, y3, k8, b4, b5, b6⟩ := id y_f;subst k8;obtain ⟨a2, a3, e0, e1, e8, j8, j9, c1⟩ := id b4;subst e8;obtain ⟨a4, a5, k0, k3, e9, k1, k2, c2⟩ := id b5;subst e9;obtain ⟨a0, a1, k4, k7, f1, f0, k5, k6, a9, d1⟩ := id b6;subst f0;refine fr (args := [_, _]) (N := 102) Tryz.func97 (fun F => ?_);show Run _ _ (c_checkDraw []) _ _ [(0, .agg #[vS a2 Y.cars.length a3, vS a4 Y.room.length a5, vS a0 Y.tracks.length a1]), (1, .agg #[vI (s.frm), vI (s.to), vI (s.many)])] _ _;refine rnm (rqr ?_);refine sS (sb 2 26 #[vS a2 Y.cars.length a3, vS a4 Y.room.length a5, vS a0 Y.tracks.length a1] (fun b1 => (sS (sb 3 52 #[vI (s.frm), vI (s.to), vI (s.many)] (fun b3 => (sp 1 [(4, vI (0))] (se (rq (rq ?_)))))))));refine FO (fun a w => Slots 102 [(2, vP b1 0), (3, vP b3 0), (4, vI (0)), (25, .bool ((!(inB s.frm 0 ((↑(Y.tracks.length)) - 1))) || (!(inB s.to 0 ((↑(Y.tracks.length)) - 1)))))] a ∧ a.defers = [] ∧ St I ((bX b3 #[vI (s.frm), vI (s.to), vI (s.many)] 52) :: (bX b1 #[vS a2 Y.cars.length a3, vS a4 Y.room.length a5, vS a0 Y.tracks.length a1] 26) :: F) w) ?_ ?_
 ·
  refine rr (sp 1 [(8, vP b3 0)] (sd (dlb 9 0 0 b3 (vI (s.frm))) (sp 1 [(10, vP b1 2)] (sd (dlb 11 1 2 b1 (vS a0 Y.tracks.length a1)) (sp 1 [(12, vI (↑(Y.tracks.length)))] (sd (dsb 13 (↑(Y.tracks.length)) (1)) (sd (dc 14 (fun I' hI => (EW I' (s.frm) (0) ((↑(Y.tracks.length)) - 1) :))) (sp 2 [(16, .bool (!(inB s.frm 0 ((↑(Y.tracks.length)) - 1))))] ?_))))))));refine CC 16 rfl (fun h1 => ?_) (fun h1 => ?_)
  ·
   have a6 := h1;have a6 := CR a6;have c4 := IV a6;refine sp 9 [(25, .bool (true))] (ee ?_);refine BG (fun a w hS hD hW => ⟨hS.sub (.cons 2 rfl (.cons 3 rfl (.cons 4 rfl (.consE 25 rfl (congrArg Value.bool (by simp only [h1, kA, kB, kC, kD, kE, kF, kG, kH, kI, kJ])) (.nil _))))), hD, hW⟩)
  have a6 := h1;have a6 := CF a6;have c4 := DR a6;refine sp 1 [(17, vP b3 1)] (sd (dlb 18 0 1 b3 (vI (s.to))) (sp 1 [(19, vP b1 2)] (sd (dlb 20 1 2 b1 (vS a0 Y.tracks.length a1)) (sp 1 [(21, vI (↑(Y.tracks.length)))] (sd (dsb 22 (↑(Y.tracks.length)) (1)) (sd (dc 23 (fun I' hI => (EW I' (s.to) (0) ((↑(Y.tracks.length)) - 1) :))) (sp 2 [(25, .bool (!(inB s.to 0 ((↑(Y.tracks.length)) - 1))))] (ee ?_))))))));refine BG (fun a w hS hD hW => ⟨hS.sub (.cons 2 rfl (.cons 3 rfl (.cons 4 rfl (.consE 25 rfl (congrArg Value.bool (by simp only [h1, kA, kB, kC, kD, kE, kF, kG, kH, kI, kJ])) (.nil _))))), hD, hW⟩)
 rintro a w ⟨hS, hD, hW⟩
 refine AX hS hD hW ?_;clear hS hD hW a w;refine rc 25 rfl (fun h2 => ?_) (fun h2 => ?_)
 ·
  have d2 := h2;refine rqr (sp 1 [(4, vI (3))] (se (BM ((RP (AF (t := 4) [] (by kernel_rfl) rfl (TC _ (TC _ (TR _))) (IR _) ?_))))));exact ⟨congrArg (Value.int .i64) (mayErr_12 rfl d2).symm, rfl⟩
 have d2 := h2;obtain ⟨b7, b8⟩ := or_f h2;have b7 := CF b7;have e2 := DR b7;have b8 := CF b8;have e3 := DR b8;have g1 := b7;have g2 := b8;refine AL (NX (rq (rqr (sp 1 [(26, vP b3 0)] (sd (dlb 27 0 0 b3 (vI (s.frm))) (sp 1 [(28, vP b3 1)] (sd (dlb 29 0 1 b3 (vI (s.to))) (sp 1 [(30, .bool (cmp .eql (s.frm) (s.to)))] (se (rc 30 rfl (fun h3 => ?_) (fun h3 => ?_)))))))))))
 ·
  have e4 := h3;have h3 := CY h3;refine rqr (sp 1 [(4, vI (4))] (se (BM ((RP (AF (t := 4) [] (by kernel_rfl) rfl (TC _ (TC _ (TR _))) (IR _) ?_))))));exact ⟨congrArg (Value.int .i64) (mayErr_3 rfl g1 g2 h3).symm, rfl⟩
 have e4 := h3;have h3 := CX h3;have g3 := h3;refine AL (NX (rq (rqr (sp 1 [(31, vP b3 2)] (sd (dlb 32 0 2 b3 (vI (s.many))) (sp 1 [(33, .bool (cmp .lss (s.many) (1)))] (se (rc 33 rfl (fun h4 => ?_) (fun h4 => ?_)))))))))
 ·
  have e5 := h4;have h4 := BV h4;refine rqr (sp 1 [(4, vI (7))] (se (BM ((RP (AF (t := 4) [] (by kernel_rfl) rfl (TC _ (TC _ (TR _))) (IR _) ?_))))));exact ⟨congrArg (Value.int .i64) (mayErr_4 rfl g1 g2 g3 (by omega)).symm, rfl⟩
 have e5 := h4;have h4 := BZ h4;refine AL (NX (rqr (sp 1 [(34, vP b1 2)] (sd (dlb 35 1 2 b1 (vS a0 Y.tracks.length a1)) (sp 1 [(36, vP b3 0)] (sd (dlb 37 0 0 b3 (vI (s.frm))) ?_))))));have k9 := DR g1; have l0 := DR g2;refine sd (diI 38 1 (s.frm) a9.addr) ?_;have b9 := d1 ((s.frm : Int).toNat) (by omega);obtain ⟨a7, a8, f3, f6, d5, f4, f5, c0⟩ := id b9;rw [d5] at b9;refine sd (BD (dl 39 (BO a9 ((s.frm : Int).toNat) (by omega))) d5) (sp 1 [(5, vS a7 (Y.tracks.getD ((s.frm : Int).toNat) []).length a8)] (se (rq (rqr (sp 1 [(40, vP b3 2)] (sd (dlb 41 0 2 b3 (vI (s.many))) (sp 3 [(44, .bool (cmp .gtr (s.many) (↑((Y.tracks.getD ((s.frm : Int).toNat) []).length))))] (se (rc 44 rfl (fun h5 => ?_) (fun h5 => ?_))))))))))
 ·
  have e6 := h5;have h5 := GF h5;refine rqr (sp 1 [(4, vI (6))] (se (BM ((RP (AF (t := 4) [] (by kernel_rfl) rfl (TC _ (TC _ (TR _))) (IR _) ?_))))));exact ⟨congrArg (Value.int .i64) (mayErr_5 rfl g1 g2 g3 (by omega) h5).symm, rfl⟩
 have e6 := h5;have h5 := GE h5;have g5 := h5;refine AL (NX (rq (rqr (sp 3 [(47, vP b3 2), (46, vI (↑((Y.tracks.getD ((s.frm : Int).toNat) []).length)))] (sd (dlb 48 0 2 b3 (vI (s.many))) (sd (dsb 49 (↑((Y.tracks.getD ((s.frm : Int).toNat) []).length)) (s.many)) (sp 1 [(6, vI ((↑((Y.tracks.getD ((s.frm : Int).toNat) []).length)) - s.many))] (sn (sp 2 [(51, .bool (cmp .gtr ((↑((Y.tracks.getD ((s.frm : Int).toNat) []).length)) - s.many) (0)))] (se (rc 51 rfl (fun h6 => ?_) (fun h6 => ?_))))))))))))
 ·
  have e7 := h6;have h6 := GF h6;refine rq ?_;refine rd0 6 (ox 1 [(52, vP b1 0)] ?_);refine AB (dlb 53 1 0 b1 (vS a2 Y.cars.length a3)) (ox 2 [(55, vI ((↑((Y.tracks.getD ((s.frm : Int).toNat) []).length)) - s.many)), (54, vS a7 (Y.tracks.getD ((s.frm : Int).toNat) []).length a8)] ?_);refine AB (diI 56 1 ((↑((Y.tracks.getD ((s.frm : Int).toNat) []).length)) - s.many) c0.addr) ?_;refine AB (dl 57 (BL c0 (((↑((Y.tracks.getD ((s.frm : Int).toNat) []).length)) - s.many : Int).toNat) (by omega))) ?_;refine BF ?_;have l1 := (ho.at s.frm.toNat (by omega)).at ((↑((Y.tracks.getD ((s.frm).toNat) []).length) : Int) - s.many).toNat (by omega);refine sd (diI 58 6 ((Y.tracks.getD ((s.frm : Int).toNat) []).getD (((↑((Y.tracks.getD ((s.frm : Int).toNat) []).length)) - s.many : Int).toNat) 0) c1.addr) (sp 1 [(59, .pointer (some ⟨e0, e1 + (((Y.tracks.getD ((s.frm : Int).toNat) []).getD (((↑((Y.tracks.getD ((s.frm : Int).toNat) []).length)) - s.many : Int).toNat) 0 : Int).toNat) * 6 + 3, none⟩))] (sd (dl 60 (FA c1 (((Y.tracks.getD ((s.frm : Int).toNat) []).getD (((↑((Y.tracks.getD ((s.frm : Int).toNat) []).length)) - s.many : Int).toNat) 0 : Int).toNat) (by omega) 3 (by decide) (v := vI ((Y.cars.getD (((Y.tracks.getD ((s.frm : Int).toNat) []).getD (((↑((Y.tracks.getD ((s.frm : Int).toNat) []).length)) - s.many : Int).toNat) 0 : Int).toNat) AM).grp)) rfl)) (sp 1 [(7, vI ((Y.cars.getD (((Y.tracks.getD ((s.frm : Int).toNat) []).getD (((↑((Y.tracks.getD ((s.frm : Int).toNat) []).length)) - s.many : Int).toNat) 0 : Int).toNat) AM).grp))] (se (rq ?_)))));refine FO (fun a w => Slots 102 [(2, vP b1 0), (3, vP b3 0), (4, vI (0)), (5, vS a7 (Y.tracks.getD ((s.frm : Int).toNat) []).length a8), (76, .bool ((cmp .gtr ((Y.cars.getD (((Y.tracks.getD ((s.frm : Int).toNat) []).getD (((↑((Y.tracks.getD ((s.frm : Int).toNat) []).length)) - s.many : Int).toNat) 0 : Int).toNat) AM).grp) (0)) && (cmp .eql ((Y.cars.getD (((Y.tracks.getD ((s.frm : Int).toNat) []).getD (((↑((Y.tracks.getD ((s.frm : Int).toNat) []).length)) - s.many : Int).toNat) 0 : Int).toNat) AM).grp) ((Y.cars.getD (((Y.tracks.getD ((s.frm : Int).toNat) []).getD ((((↑((Y.tracks.getD ((s.frm : Int).toNat) []).length)) - s.many) - 1 : Int).toNat) 0 : Int).toNat) AM).grp))))] a ∧ a.defers = [] ∧ St I ((bX b3 #[vI (s.frm), vI (s.to), vI (s.many)] 52) :: (bX b1 #[vS a2 Y.cars.length a3, vS a4 Y.room.length a5, vS a0 Y.tracks.length a1] 26) :: F) w) ?_ ?_
  ·
   refine rd0 14 (ox 3 [(63, .bool (cmp .gtr ((Y.cars.getD (((Y.tracks.getD ((s.frm : Int).toNat) []).getD (((↑((Y.tracks.getD ((s.frm : Int).toNat) []).length)) - s.many : Int).toNat) 0 : Int).toNat) AM).grp) (0)))] ?_);refine GZ 63 (fun h7 => ?_) (fun h7 => ?_)
   ·
    have b2 := h7;have b2 := GF b2;refine ox 2 [(65, vP b1 0), (64, vI ((Y.cars.getD (((Y.tracks.getD ((s.frm : Int).toNat) []).getD (((↑((Y.tracks.getD ((s.frm : Int).toNat) []).length)) - s.many : Int).toNat) 0 : Int).toNat) AM).grp))] ?_;refine AB (dlb 66 1 0 b1 (vS a2 Y.cars.length a3)) (ox 2 [(68, vI ((↑((Y.tracks.getD ((s.frm : Int).toNat) []).length)) - s.many)), (67, vS a7 (Y.tracks.getD ((s.frm : Int).toNat) []).length a8)] ?_);refine AB (dsb 69 ((↑((Y.tracks.getD ((s.frm : Int).toNat) []).length)) - s.many) (1)) ?_;refine AB (diI 70 1 (((↑((Y.tracks.getD ((s.frm : Int).toNat) []).length)) - s.many) - 1) c0.addr) ?_;refine AB (dl 71 (BL c0 ((((↑((Y.tracks.getD ((s.frm : Int).toNat) []).length)) - s.many) - 1 : Int).toNat) (by omega))) ?_;have f2 := (ho.at s.frm.toNat (by omega)).at ((↑(Y.tracks.getD ((s.frm).toNat) []).length : Int) - s.many - 1).toNat (by omega);refine AB (diI 72 6 ((Y.tracks.getD ((s.frm : Int).toNat) []).getD ((((↑((Y.tracks.getD ((s.frm : Int).toNat) []).length)) - s.many) - 1 : Int).toNat) 0) c1.addr) (ox 1 [(73, .pointer (some ⟨e0, e1 + (((Y.tracks.getD ((s.frm : Int).toNat) []).getD ((((↑((Y.tracks.getD ((s.frm : Int).toNat) []).length)) - s.many) - 1 : Int).toNat) 0 : Int).toNat) * 6 + 3, none⟩))] ?_);refine AB (dl 74 (FA c1 (((Y.tracks.getD ((s.frm : Int).toNat) []).getD ((((↑((Y.tracks.getD ((s.frm : Int).toNat) []).length)) - s.many) - 1 : Int).toNat) 0 : Int).toNat) (by omega) 3 (by decide) (v := vI ((Y.cars.getD (((Y.tracks.getD ((s.frm : Int).toNat) []).getD ((((↑((Y.tracks.getD ((s.frm : Int).toNat) []).length)) - s.many) - 1 : Int).toNat) 0 : Int).toNat) AM).grp)) rfl)) ?_;refine BF (sp 2 [(76, .bool (cmp .eql ((Y.cars.getD (((Y.tracks.getD ((s.frm : Int).toNat) []).getD (((↑((Y.tracks.getD ((s.frm : Int).toNat) []).length)) - s.many : Int).toNat) 0 : Int).toNat) AM).grp) ((Y.cars.getD (((Y.tracks.getD ((s.frm : Int).toNat) []).getD ((((↑((Y.tracks.getD ((s.frm : Int).toNat) []).length)) - s.many) - 1 : Int).toNat) 0 : Int).toNat) AM).grp)))] (ee ?_));refine BG (fun a w hS hD hW => ⟨hS.sub (.cons 2 rfl (.cons 3 rfl (.cons 4 rfl (.cons 5 rfl (.consE 76 rfl (congrArg Value.bool (by simp only [h7, kA, kB, kC, kD, kE, kF, kG, kH, kI, kJ])) (.nil _)))))), hD, hW⟩)
   have b2 := h7;have b2 := GE b2;refine ox 11 [(74, undef), (64, undef)] ?_;refine BF (sp 2 [(76, .bool (false))] (ee ?_));refine BG (fun a w hS hD hW => ⟨hS.sub (.cons 2 rfl (.cons 3 rfl (.cons 4 rfl (.cons 5 rfl (.consE 76 rfl (congrArg Value.bool (by simp only [h7, kA, kB, kC, kD, kE, kF, kG, kH, kI, kJ])) (.nil _)))))), hD, hW⟩)
  rintro a w ⟨hS, hD, hW⟩
  refine AX hS hD hW ?_;clear hS hD hW a w;refine rc 76 rfl (fun h8 => ?_) (fun h8 => ?_)
  ·
   have c5 := h8;obtain ⟨d3, d4⟩ := and_t h8;have d3 := GF d3;have d4 := CY d4;have gc : BR Y.cars (trk Y s.frm) (EZ Y s) = true := (coupled_at (by show 0 < (↑(Y.tracks.getD ((s.frm).toNat) []).length : Int) - s.many; omega) (by show (↑(Y.tracks.getD ((s.frm).toNat) []).length : Int) - s.many ≤ ↑(Y.tracks.getD ((s.frm).toNat) []).length - 1; omega)).trans c5;refine rqr (sp 1 [(4, vI (9))] (se (BM ((RP (AF (t := 4) [] (by kernel_rfl) rfl (TC _ (TC _ (TR _))) (IR _) ?_))))));exact ⟨congrArg (Value.int .i64) (MJ rfl g1 g2 g3 (by omega) (Int.not_lt.2 g5) (by rw [gc, Bool.true_or])).symm, rfl⟩
  have c5 := h8;have gc : BR Y.cars (trk Y s.frm) (EZ Y s) = false := (coupled_at (by show 0 < (↑(Y.tracks.getD ((s.frm).toNat) []).length : Int) - s.many; omega) (by show (↑(Y.tracks.getD ((s.frm).toNat) []).length : Int) - s.many ≤ ↑(Y.tracks.getD ((s.frm).toNat) []).length - 1; omega)).trans c5;refine AL (NX (rq (rq ?_)));refine rd0 24 ?_;refine AB (dnb 77 1 0 b1 [vS a2 Y.cars.length a3, vS a4 Y.room.length a5, vS a0 Y.tracks.length a1]) (ox 1 [(78, vP b1 2)] ?_);refine AB (dlb 79 1 2 b1 (vS a0 Y.tracks.length a1)) (ox 1 [(80, vP b3 1)] ?_);refine AB (dlb 81 0 1 b3 (vI (s.to))) ?_;refine AB (diI 82 1 (s.to) a9.addr) ?_;have c7 := d1 ((s.to : Int).toNat) (by omega);obtain ⟨f7, f9, f8, g6, d6, g0, g4, g7⟩ := id c7;rw [d6] at c7;refine AB (BD (dl 83 (BO a9 ((s.to : Int).toNat) (by omega))) d6) ?_;refine AB (dc 84 (fun I' hI => (KB I' _ (Y) _ _ ((AY b4 b5 b6).mono hI) (c7.mono hI) (by exact ho.at s.to.toNat (by omega)) (by assumption) :))) ?_;refine AB (dnb 85 1 0 b1 [vS a2 Y.cars.length a3, vS a4 Y.room.length a5, vS a0 Y.tracks.length a1]) (ox 4 [(89, vP b3 2), (88, vI (↑((Y.tracks.getD ((s.frm : Int).toNat) []).length))), (86, vS a7 (Y.tracks.getD ((s.frm : Int).toNat) []).length a8)] ?_);refine AB (dlb 90 0 2 b3 (vI (s.many))) ?_;refine AB (dsb 91 (↑((Y.tracks.getD ((s.frm : Int).toNat) []).length)) (s.many)) ?_;have c9 := b9.cutLo (((↑((Y.tracks.getD ((s.frm).toNat) []).length) : Int) - s.many).toNat) (by omega);obtain ⟨i4, i6, i5, i9, d8, i7, i8, j0⟩ := id c9;rw [d8] at c9;refine AB (BD (DG (x := (.tmp 86)) (lo := (some (.tmp 91))) (hi := none) (T := 23) (e := 3) (sz := 1) (((↑((Y.tracks.getD ((s.frm).toNat) []).length) : Int) - s.many).toNat) ((Y.tracks.getD ((s.frm : Int).toNat) []).length) (d := 92) (ty := 23) (gd := none) (by kernel_rfl) rfl (by kernel_rfl) (by kernel_rfl) rfl (.inr ⟨_, .i64, rfl, (GU rfl (by omega))⟩) (.inl ⟨rfl, rfl⟩) (by omega) (by omega)) d8) ?_;refine AB (dc 93 (fun I' hI => (KB I' _ (Y) _ _ ((AY b4 b5 b6).mono hI) (c9.mono hI) (by exact (ho.at s.frm.toNat (by omega)).drop _) (by assumption) :))) ?_;refine AB (da 94 ((lenOf Y.cars (Y.tracks.getD ((s.to : Int).toNat) []))) ((lenOf Y.cars ((Y.tracks.getD ((s.frm : Int).toNat) []).drop (((↑((Y.tracks.getD ((s.frm).toNat) []).length) : Int) - s.many).toNat)))) (hr := by have q1 := DS hs ((Y.tracks.getD ((s.frm).toNat) []).drop ((↑((Y.tracks.getD ((s.frm).toNat) []).length) : Int) - s.many).toNat); have q2 := DS hs (Y.tracks.getD s.to.toNat []); have q3 := hq _ (AH (d := []) (xs := Y.tracks) (k := s.frm.toNat) (by omega)); have q4 := hq _ (AH (d := []) (xs := Y.tracks) (k := s.to.toNat) (by omega)); simp only [LD] at q1; omega)) (ox 1 [(95, vP b1 1)] ?_);refine AB (dlb 96 1 1 b1 (vS a4 Y.room.length a5)) (ox 1 [(97, vP b3 1)] ?_);refine AB (dlb 98 0 1 b3 (vI (s.to))) ?_;refine AB (diI 99 1 (s.to) c2.addr) ?_;refine AB (dl 100 (BL c2 ((s.to : Int).toNat) (by omega))) ?_;refine BF (sp 1 [(101, .bool (cmp .gtr (((lenOf Y.cars (Y.tracks.getD ((s.to : Int).toNat) []))) + ((lenOf Y.cars ((Y.tracks.getD ((s.frm : Int).toNat) []).drop (((↑((Y.tracks.getD ((s.frm).toNat) []).length) : Int) - s.many).toNat))))) (Y.room.getD ((s.to : Int).toNat) 0)))] (se (rc 101 rfl (fun h9 => ?_) (fun h9 => ?_))))
  ·
   have c6 := h9;have h9 := GF h9;refine rqr (sp 1 [(4, vI (9))] (se (BM ((RP (AF (t := 4) [] (by kernel_rfl) rfl (TC _ (TC _ (TR _))) (IR _) ?_))))));exact ⟨congrArg (Value.int .i64) (MJ rfl g1 g2 g3 (by omega) (Int.not_lt.2 g5) (by rw [gc, Bool.false_or, Int.add_comm]; exact c6)).symm, rfl⟩
  have c6 := h9;have h9 := GE h9;refine AL (NX (rqr (sp 1 [(4, vI (0))] (se (BM (AF (t := 4) [] (by kernel_rfl) rfl (TC _ (TC _ (TR _))) (IR _) ?_))))));exact ⟨congrArg (Value.int .i64) (PH rfl g1 g2 g3 (by omega) (Int.not_lt.2 g5) (by rw [gc, Bool.false_or, Int.add_comm]; exact c6)).symm, rfl⟩
 have e7 := h6;have h6 := GE h6;have gc : BR Y.cars (trk Y s.frm) (EZ Y s) = false := coupled_zero (by show (↑(Y.tracks.getD ((s.frm).toNat) []).length : Int) - s.many ≤ 0; omega);refine AL (NX (rq (rq ?_)));refine rd0 24 ?_;refine AB (dnb 77 1 0 b1 [vS a2 Y.cars.length a3, vS a4 Y.room.length a5, vS a0 Y.tracks.length a1]) (ox 1 [(78, vP b1 2)] ?_);refine AB (dlb 79 1 2 b1 (vS a0 Y.tracks.length a1)) (ox 1 [(80, vP b3 1)] ?_);refine AB (dlb 81 0 1 b3 (vI (s.to))) ?_;refine AB (diI 82 1 (s.to) a9.addr) ?_;have c8 := d1 ((s.to : Int).toNat) (by omega);obtain ⟨g8, h0, g9, i2, d7, i0, i1, i3⟩ := id c8;rw [d7] at c8;refine AB (BD (dl 83 (BO a9 ((s.to : Int).toNat) (by omega))) d7) ?_;refine AB (dc 84 (fun I' hI => (KB I' _ (Y) _ _ ((AY b4 b5 b6).mono hI) (c8.mono hI) (by exact ho.at s.to.toNat (by omega)) (by assumption) :))) ?_;refine AB (dnb 85 1 0 b1 [vS a2 Y.cars.length a3, vS a4 Y.room.length a5, vS a0 Y.tracks.length a1]) (ox 4 [(89, vP b3 2), (88, vI (↑((Y.tracks.getD ((s.frm : Int).toNat) []).length))), (86, vS a7 (Y.tracks.getD ((s.frm : Int).toNat) []).length a8)] ?_);refine AB (dlb 90 0 2 b3 (vI (s.many))) ?_;refine AB (dsb 91 (↑((Y.tracks.getD ((s.frm : Int).toNat) []).length)) (s.many)) ?_;have d0 := b9.cutLo (((↑((Y.tracks.getD ((s.frm).toNat) []).length) : Int) - s.many).toNat) (by omega);obtain ⟨j1, j3, j2, j6, d9, j4, j5, j7⟩ := id d0;rw [d9] at d0;refine AB (BD (DG (x := (.tmp 86)) (lo := (some (.tmp 91))) (hi := none) (T := 23) (e := 3) (sz := 1) (((↑((Y.tracks.getD ((s.frm).toNat) []).length) : Int) - s.many).toNat) ((Y.tracks.getD ((s.frm : Int).toNat) []).length) (d := 92) (ty := 23) (gd := none) (by kernel_rfl) rfl (by kernel_rfl) (by kernel_rfl) rfl (.inr ⟨_, .i64, rfl, (GU rfl (by omega))⟩) (.inl ⟨rfl, rfl⟩) (by omega) (by omega)) d9) ?_;refine AB (dc 93 (fun I' hI => (KB I' _ (Y) _ _ ((AY b4 b5 b6).mono hI) (d0.mono hI) (by exact (ho.at s.frm.toNat (by omega)).drop _) (by assumption) :))) ?_;refine AB (da 94 ((lenOf Y.cars (Y.tracks.getD ((s.to : Int).toNat) []))) ((lenOf Y.cars ((Y.tracks.getD ((s.frm : Int).toNat) []).drop (((↑((Y.tracks.getD ((s.frm).toNat) []).length) : Int) - s.many).toNat)))) (hr := by have q1 := DS hs ((Y.tracks.getD ((s.frm).toNat) []).drop ((↑((Y.tracks.getD ((s.frm).toNat) []).length) : Int) - s.many).toNat); have q2 := DS hs (Y.tracks.getD s.to.toNat []); have q3 := hq _ (AH (d := []) (xs := Y.tracks) (k := s.frm.toNat) (by omega)); have q4 := hq _ (AH (d := []) (xs := Y.tracks) (k := s.to.toNat) (by omega)); simp only [LD] at q1; omega)) (ox 1 [(95, vP b1 1)] ?_);refine AB (dlb 96 1 1 b1 (vS a4 Y.room.length a5)) (ox 1 [(97, vP b3 1)] ?_);refine AB (dlb 98 0 1 b3 (vI (s.to))) ?_;refine AB (diI 99 1 (s.to) c2.addr) ?_;refine AB (dl 100 (BL c2 ((s.to : Int).toNat) (by omega))) ?_;refine BF (sp 1 [(101, .bool (cmp .gtr (((lenOf Y.cars (Y.tracks.getD ((s.to : Int).toNat) []))) + ((lenOf Y.cars ((Y.tracks.getD ((s.frm : Int).toNat) []).drop (((↑((Y.tracks.getD ((s.frm).toNat) []).length) : Int) - s.many).toNat))))) (Y.room.getD ((s.to : Int).toNat) 0)))] (se (rc 101 rfl (fun c3 => ?_) (fun c3 => ?_))))
 ·
  have b0 := c3;have c3 := GF c3;refine rqr (sp 1 [(4, vI (9))] (se (BM ((RP (AF (t := 4) [] (by kernel_rfl) rfl (TC _ (TC _ (TR _))) (IR _) ?_))))));exact ⟨congrArg (Value.int .i64) (MJ rfl g1 g2 g3 (by omega) (Int.not_lt.2 g5) (by rw [gc, Bool.false_or, Int.add_comm]; exact b0)).symm, rfl⟩
 have b0 := c3;have c3 := GE c3;refine AL (NX (rqr (sp 1 [(4, vI (0))] (se (BM (AF (t := 4) [] (by kernel_rfl) rfl (TC _ (TC _ (TR _))) (IR _) ?_))))));exact ⟨congrArg (Value.int .i64) (PH rfl g1 g2 g3 (by omega) (Int.not_lt.2 g5) (by rw [gc, Bool.false_or, Int.add_comm]; exact b0)).symm, rfl⟩
end Go.Proofs.YtcaocbhbofejnaaGreatDoor
namespace Go.Sl
open Go
section
variable {ρ : Option Nat} {P : Program} {N : Nat} {ops : Array Oper} {i : Nat} {l : Sl} {I : Imm} {M : Seg} {ty : TypeId} {gd : Option (Nat × Bool)} {K : Sl → Imm → Seg → Prop}
end
inductive FpOk (ops : Array Oper) (i : Nat) (M : Seg) : List (Nat × Seg) → Prop
  | nil : FpOk ops i M []
  | wait {k : Nat} {R : Seg} {fp : List (Nat × Seg)} : wt ops i k = true → FpOk ops i M fp → FpOk ops i M ((k, R) :: fp)
  | none {k : Nat} {fp : List (Nat × Seg)} : FpOk ops i M fp → FpOk ops i M ((k, []) :: fp)
  | part {k : Nat} {R Sx : Seg} {fp : List (Nat × Seg)} : M.Perm (R ++ Sx) → FpOk ops i M fp → FpOk ops i M ((k, R) :: fp)
theorem FpOk.all {ops : Array Oper} {i : Nat} {M : Seg} {fp : List (Nat × Seg)} (h : FpOk ops i M fp) : ∀ p ∈ fp, wt ops i p.1 = true ∨ ∃ Sx, M.Perm (p.2 ++ Sx) := by
  induction h with
  | nil => intro p hp; simp at hp
  | wait h _ ih =>
    intro p hp;rcases List.mem_cons.1 hp with rfl | hp
    · exact .inl h
    · exact ih p hp
  | none _ ih =>
    intro p hp;rcases List.mem_cons.1 hp with rfl | hp
    · exact .inr ⟨M, List.Perm.refl _⟩
    · exact ih p hp
  | part h _ ih =>
    intro p hp;rcases List.mem_cons.1 hp with rfl | hp
    · exact .inr ⟨_, h⟩
    · exact ih p hp
section
variable {P : Program} {N : Nat} {ops : Array Oper} {als : List Nat} {al : List (Nat × Nat × Fresh)} {L0 : Sl} {F0 : Seg} {Kf : Sl → Imm → Seg → Prop} {fp : List (Nat × Seg)} {rest : List (Nat × Bool)} {i d : Nat} {v : Value} {l : Sl} {I : Imm} {M M' : Seg}
def lkB (d : Nat) (v : Value) (L0 : Sl) : Prop := match EE d L0 with | some u => v = u | none => True
theorem lkOk {L0 : Sl} {d : Nat} {v : Value} (h : lkB d v L0) : ∀ u, EE d L0 = some u → v = u := fun u hu => by
  unfold lkB at h; rw [hu] at h; exact h
theorem CS (h : Det P N ops i l I M d v) (next : OFPX P N ops als F0 Kf al L0 ((i, M) :: fp) rest ((d, v) :: l) I M) (hL : lkB d v L0 := by first | exact trivial | exact rfl) : OFPX P N ops als F0 Kf al L0 fp ((i, true) :: rest) l I M := ⟨d, v, M, [], h, by simp, lkOk hL, next⟩
theorem ER (h : Det P N ops i l I [] d v) (next : OFPX P N ops als F0 Kf al L0 ((i, []) :: fp) rest ((d, v) :: l) I M) (hL : lkB d v L0 := by first | exact trivial | exact rfl) : OFPX P N ops als F0 Kf al L0 fp ((i, true) :: rest) l I M := ⟨d, v, [], M, h, by simp, lkOk hL, next⟩
theorem KT {Rx Sx : Seg} (hp : M.Perm (Rx ++ Sx)) (h : Det P N ops i l I Rx d v) (next : OFPX P N ops als F0 Kf al L0 ((i, Rx) :: fp) rest ((d, v) :: l) I M) (hL : lkB d v L0 := by first | exact trivial | exact rfl) : OFPX P N ops als F0 Kf al L0 fp ((i, true) :: rest) l I M := ⟨d, v, Rx, Sx, h, hp, lkOk hL, next⟩
theorem ofx_al {E : TypeId} (ha : CG al i = some (d, .sl E)) (next : ∀ b, OFPX P N ops als F0 Kf al L0 fp rest ((d, .slice (some ⟨b, 0, none⟩) 0 0) :: l) I ((b, Obj.cells #[] E (0, 0)) :: M)) : OFPX P N ops als F0 Kf al L0 fp ((i, false) :: rest) l I M := by
  unfold OFPX; rw [ha]; exact next
theorem ofx_ac {T : TypeId} {cs : Array Value} (ha : CG al i = some (d, .cl T cs)) (next : ∀ b, OFPX P N ops als F0 Kf al L0 fp rest ((d, .pointer (some ⟨b, 0, none⟩)) :: l) I ((b, Obj.cells cs T (0, 0)) :: M)) : OFPX P N ops als F0 Kf al L0 fp ((i, false) :: rest) l I M := by
  unfold OFPX; rw [ha]; exact next
theorem ofx_bs {T : TypeId} {n : Nat} {cs : Array Value} (ha : CG al i = some (d, .bs T n cs)) (next : ∀ b, OFPX P N ops als F0 Kf al L0 fp rest ((d, .slice (some ⟨b, 0, none⟩) n n) :: l) I ((b, Obj.cells cs T (0, 0)) :: M)) : OFPX P N ops als F0 Kf al L0 fp ((i, false) :: rest) l I M := by
  unfold OFPX; rw [ha]; exact next
def dsB (ops : Array Oper) (i : Nat) (L0 : Sl) : Bool := match DP ops i with | some d => (EE d L0).isNone | none => true
theorem dsB_nil (ops : Array Oper) (i : Nat) : dsB ops i [] = true := by unfold dsB; split <;> rfl
theorem dsB_spec {L0 : Sl} (h : dsB ops i L0 = true) : ∀ d, DP ops i = some d → EE d L0 = none := fun d hd => by
  unfold dsB at h; rw [hd] at h; simpa using h
def knB (ops : Array Oper) (als : List Nat) (al : List (Nat × Nat × Fresh)) (rest : List (Nat × Bool)) : Bool := als.all fun j => (CG al j).isSome || rest.any fun x => !x.2 && (wt ops j x.1 && !(isAl als x.1))
theorem knB_spec (h : knB ops als al rest = true) : Known ops als al rest := fun j hj => by
  obtain ⟨k, hk, e⟩ := List.any_eq_true.1 (show (als.any fun k => Nat.beq k j) = true from hj);obtain rfl := Nat.eq_of_beq_eq_true e;have := List.all_eq_true.1 h k hk;simp only [Bool.or_eq_true, List.any_eq_true, Bool.and_eq_true, Bool.not_eq_true'] at this;rcases this with h1 | ⟨⟨a, b⟩, h2, h3, h4, h5⟩
  · exact .inl (Option.isSome_iff_exists.1 h1)
  · simp only at h3 h4 h5
    subst h3;exact .inr ⟨a, h2, h4, h5⟩
theorem HB {Mx : Seg → Seg} (ha : CG al i = none) (hp : ∀ F, (Mx F).Perm (M ++ F))
    (h : ∀ F, Stp P N ops i l I (Mx F) fun l' I' M' => ∃ M1 al' L0', M'.Perm (M1 ++ F) ∧ FpOk ops i M1 fp ∧ Ext P N ops als al L0 al' L0' l' ∧ knB ops als al' rest = true ∧ OFPX P N ops als F0 Kf al' L0' fp rest l' I' M1) (hS : dsB ops i L0 = true := by first | exact dsB_nil _ _ | kernel_rfl) : OFPX P N ops als F0 Kf al L0 fp ((i, false) :: rest) l I M := by
  unfold OFPX; rw [ha];refine ⟨dsB_spec hS, ?_⟩;exact fun F _ => Stp.perm (hp F).symm (Stp.mono (h F) fun l' I' M' ⟨M1, al', L0', a, b, e, k, c⟩ => ⟨M1, al', L0', a, b.all, e, knB_spec k, c⟩)
theorem LF {F M1 : Seg} (hp : M'.Perm (M1 ++ F)) (hf : FpOk ops i M1 fp) (next : OFPX P N ops als F0 Kf al L0 fp rest l I M1) (hk : knB ops als al rest = true := by kernel_rfl) : ∃ M1 al' L0', M'.Perm (M1 ++ F) ∧ FpOk ops i M1 fp ∧ Ext P N ops als al L0 al' L0' l ∧ knB ops als al' rest = true ∧ OFPX P N ops als F0 Kf al' L0' fp rest l I M1 := ⟨M1, al, L0, hp, hf, .inl ⟨rfl, rfl⟩, hk, next⟩
def asB (als : List Nat) (al : List (Nat × Nat × Fresh)) : Bool := al.all fun x => isAl als x.1
theorem alFind_in : ∀ (al : List (Nat × Nat × Fresh)) {i d : Nat} {E : Fresh}, CG al i = some (d, E) → (i, d, E) ∈ al := by
  intro al
  induction al with
  | nil => intro i d E h; cases h
  | cons x r ih =>
    intro i d E h;unfold CG at h;cases hb : Nat.beq x.1 i with
    | true =>
      rw [hb] at h;simp only [cond_true, Option.some.injEq] at h;have e := Nat.eq_of_beq_eq_true hb;rcases x with ⟨x1, x2⟩
      simp only at h e;subst h e;exact List.mem_cons_self
    | false =>
      rw [hb] at h;exact List.mem_cons_of_mem _ (ih h)
theorem asB_spec (h : asB als al = true) : ∀ i d E, CG al i = some (d, E) → isAl als i = true := fun i d E hi => List.all_eq_true.1 h _ (alFind_in al hi)
theorem ofx_nxE {F M1 : Seg} (t : Nat) (v : Value) (j d : Nat) (E : Fresh) (hp : M'.Perm (M1 ++ F)) (hf : FpOk ops i M1 fp) (hA : ∀ i' d' E', CG ((j, d, E) :: al) i' = some (d', E') → AlOk P N ops ((t, v) :: L0) i' d' E') (hv : EE t l = some v)
    (next : OFPX P N ops als F0 Kf ((j, d, E) :: al) ((t, v) :: L0) fp rest l I M1) (hj : (CG al j).isNone = true := by kernel_rfl) (hs : asB als ((j, d, E) :: al) = true := by kernel_rfl) (hk : knB ops als ((j, d, E) :: al) rest = true := by kernel_rfl) :
    ∃ M1 al' L0', M'.Perm (M1 ++ F) ∧ FpOk ops i M1 fp ∧ Ext P N ops als al L0 al' L0' l ∧ knB ops als al' rest = true ∧ OFPX P N ops als F0 Kf al' L0' fp rest l I M1 := by
  refine ⟨M1, (j, d, E) :: al, (t, v) :: L0, hp, hf, .inr ⟨fun i' d' E' h => ?_, fun i' d' E' h => ⟨hA i' d' E' h, asB_spec hs i' d' E' h⟩, fun u w h => ?_⟩, hk, next⟩
  · unfold CG
    cases hb : Nat.beq j i' with
    | true =>
      have e := Nat.eq_of_beq_eq_true hb;rw [e, h] at hj; cases hj
    | false => exact h
  · unfold EE at h
    cases hb : Nat.beq t u with
    | true =>
      have e := Nat.eq_of_beq_eq_true hb;rw [hb] at h;simp only [cond_true, Option.some.injEq] at h;rw [← e, ← h]; exact .inl hv
    | false =>
      rw [hb] at h;exact .inr h
theorem NR (h : Kf l I M) : OFPX P N ops als F0 Kf al L0 fp [] l I M := h
def noLooks (ops : Array Oper) (i : Nat) : Bool := match ops[i]? with | some o => (o.looksAt ops).isEmpty | none => false
theorem OJ (h2 : noLooks ops i = true) (t : Nat) : DT ops i t = false := by
  unfold noLooks at h2;unfold DT;cases ho : ops[i]? with
  | none => rfl
  | some o =>
    rw [ho] at h2;simp only [List.isEmpty_iff] at h2;simp [h2]
def supB (ops : Array Oper) (i : Nat) (L0 : Sl) : Bool := match ops[i]? with
  | some o => (o.looksAt ops).all fun t => (EE t L0).isSome && (List.range ops.size).all fun k => !(dstB ops k t) || wt ops i k
  | none => false
theorem supB_spec {L0 : Sl} (h : supB ops i L0 = true) : ∀ t, DT ops i t = true → ∃ u, EE t L0 = some u ∧ ∀ k, DP ops k = some t → wt ops i k = true := fun t ht => by
  unfold supB at h;unfold DT at ht;cases ho : ops[i]? with
  | none => rw [ho] at h; cases h
  | some o =>
    rw [ho] at h ht;simp only [List.all_eq_true, Bool.and_eq_true, List.any_eq_true, Bool.or_eq_true, Bool.not_eq_true'] at h ht;obtain ⟨u, hu, e⟩ := ht;obtain rfl := Nat.eq_of_beq_eq_true e;obtain ⟨h1, h2⟩ := h u hu;obtain ⟨v, hv⟩ := Option.isSome_iff_exists.1 h1;refine ⟨v, hv, fun k hk => ?_⟩;rcases h2 k (List.mem_range.2 (OE hk)) with h3 | h3
    · rw [NG hk] at h3; cases h3
    · exact h3
theorem alOk_of {E : TypeId} (h1 : DP ops i = some d) (h2 : noLooks ops i = true) (h3 : bsAt P N ops [] i = some (d, E, 0, #[])) : AlOk P N ops [] i d (.sl E) :=
  ⟨h1, rfl, (fun t ht => by rw [OJ h2] at ht; cases ht), fun I M => sbs d E 0 #[] (fun b => ⟨b, rfl, rfl, rfl⟩) h3⟩
theorem alOk_cl {T : TypeId} {cs : Array Value} (h1 : DP ops i = some d) (h2 : noLooks ops i = true) (h3 : alAt P N ops [] i = some (d, T, cs)) : AlOk P N ops [] i d (.cl T cs) :=
  ⟨h1, rfl, (fun t ht => by rw [OJ h2] at ht; cases ht), fun I M => sal d T cs (fun b => ⟨b, rfl, rfl, rfl⟩) h3⟩
theorem KN {L0 : Sl} {T : TypeId} {n : Nat} {cs : Array Value} (h1 : DP ops i = some d) (h0 : EE d L0 = none) (h2 : supB ops i L0 = true) (h3 : bsAt P N ops L0 i = some (d, T, n, cs)) : AlOk P N ops L0 i d (.bs T n cs) :=
  ⟨h1, h0, supB_spec h2, fun I M => sbs d T n cs (fun b => ⟨b, rfl, rfl, rfl⟩) h3⟩
theorem OH : ∀ i d E, CG [] i = some (d, E) → AlOk P N ops L0 i d E := fun _ _ _ h => by cases h
theorem IH {E : Fresh} (h : AlOk P N ops L0 i d E) (r : ∀ i d E, CG al i = some (d, E) → AlOk P N ops L0 i d E) : ∀ i' d' E', CG ((i, d, E) :: al) i' = some (d', E') → AlOk P N ops L0 i' d' E' := fun i' d' E' h' => by
  unfold CG at h';cases hb : Nat.beq i i' with
  | true =>
    have e := Nat.eq_of_beq_eq_true hb;rw [hb] at h';simp only [cond_true, Option.some.injEq, Prod.mk.injEq] at h';obtain ⟨rfl, rfl⟩ := h';exact e ▸ h
  | false =>
    rw [hb] at h';exact r i' d' E' h'
end
def alInjS (ops : Array Oper) (als : List Nat) : Bool := als.all fun i => als.all fun j => Nat.beq i j || !(match DP ops i, DP ops j with | some a, some b => Nat.beq a b | _, _ => false)
theorem alInjS_spec {ops : Array Oper} {als : List Nat} (h : alInjS ops als = true) : ∀ i j d, isAl als i = true → isAl als j = true → DP ops i = some d → DP ops j = some d → i = j := fun i j d hi hj h1 h2 => by
  obtain ⟨k, hk, e⟩ := List.any_eq_true.1 (show (als.any fun k => Nat.beq k i) = true from hi);obtain rfl := Nat.eq_of_beq_eq_true e;obtain ⟨k', hk', e'⟩ := List.any_eq_true.1 (show (als.any fun k => Nat.beq k j) = true from hj);obtain rfl := Nat.eq_of_beq_eq_true e';have := List.all_eq_true.1 (List.all_eq_true.1 h _ hk) _ hk';rw [h1, h2] at this;simp only [Nat.beq_refl, Bool.not_true, Bool.or_false] at this;exact Nat.eq_of_beq_eq_true this
section
variable {ρ : Option Nat} {P : Program} {N : Nat} {Q : Exit → Act → World → Prop} {ds : List Deferred} {C : List Nat → Code} {p : List Nat} {l : Sl} {I : Imm} {M0 M F0 : Seg}
theorem rdX (al : List (Nat × Nat × Fresh)) (n0 : Nat) (order : List (Nat × Bool)) (hM : M0.Perm (M ++ F0)) (hA : ∀ i d E, CG al i = some (d, E) → AlOk P N (FJ (C p)) [] i d E) (h : OFPX P N (FJ (C p)) (al.map Prod.fst) F0 (fun l I M => Seq (ρ := ρ) P N (FJ (C p)) Q ds n0 l I (M ++ F0)) al [] [] order l I M) (hI : (alInjS (FJ (C p)) (al.map Prod.fst) && (asB (al.map Prod.fst) al && knB (FJ (C p)) (al.map Prod.fst) al order)) = true := by kernel_rfl)
    (hm : P.follows .mixedOrders = true := by kernel_rfl) (hc : NN (C p) = true := by kernel_rfl) (hok : okAllX (al.map Prod.fst) (FJ (C p)) n0 order = true := by kernel_rfl) : Run (ρ := ρ) P N (C p) Q ds l I M0 := by
  obtain ⟨id, hid⟩ := ID hc;simp only [Bool.and_eq_true] at hI;exact fun a w hS hD hW => run_drawX _ al n0 order hm hid hok hA (asB_spec hI.2.1) (knB_spec hI.2.2) (alInjS_spec hI.1) (fun _ _ h => by cases h) h a w hS hD (hW.perm hM)
def regB (ops : Array Oper) (L0 : Sl) : Bool := L0.all fun x => (List.range ops.size).any fun k => dstB ops k x.1
theorem look_mem : ∀ (L : Sl) {t : Nat} {u : Value}, EE t L = some u → ∃ x ∈ L, x.1 = t := by
  intro L
  induction L with
  | nil => intro t u h; cases h
  | cons x r ih =>
    intro t u h;rcases x with ⟨k, v⟩
    unfold EE at h;cases hb : Nat.beq k t with
    | true => exact ⟨_, List.mem_cons_self, Nat.eq_of_beq_eq_true hb⟩
    | false =>
      rw [hb] at h;obtain ⟨y, hy, e⟩ := ih h;exact ⟨y, List.mem_cons_of_mem _ hy, e⟩
theorem regB_spec {ops : Array Oper} {L0 : Sl} (h : regB ops L0 = true) : ∀ t u, EE t L0 = some u → ∃ k, DP ops k = some t := fun t u ht => by
  obtain ⟨x, hx, rfl⟩ := look_mem L0 ht;obtain ⟨k, _, hk⟩ := List.any_eq_true.1 (List.all_eq_true.1 h x hx);refine ⟨k, ?_⟩;unfold dstB at hk;unfold DP;cases ho : ops[k]? with
  | none => rw [ho] at hk; cases hk
  | some o =>
    rw [ho] at hk;simp only at hk;cases hd : o.dst with
    | none => rw [hd] at hk; cases hk
    | some d =>
      rw [hd] at hk;simp only at hk;rw [Nat.eq_of_beq_eq_true hk] at hd
      simpa using hd
theorem rdY (L0 : Sl) (als : List Nat) (al : List (Nat × Nat × Fresh)) (n0 : Nat) (order : List (Nat × Bool)) (hM : M0.Perm (M ++ F0)) (hA : ∀ i d E, CG al i = some (d, E) → AlOk P N (FJ (C p)) L0 i d E) (h : OFPX P N (FJ (C p)) als F0 (fun l I M => Seq (ρ := ρ) P N (FJ (C p)) Q ds n0 l I (M ++ F0)) al L0 [] order l I M) (hI : (alInjS (FJ (C p)) als && (asB als al && knB (FJ (C p)) als al order)) = true := by kernel_rfl)
    (hm : P.follows .mixedOrders = true := by kernel_rfl) (hc : NN (C p) = true := by kernel_rfl) (hok : okAllX als (FJ (C p)) n0 order = true := by kernel_rfl) (hr : regB (FJ (C p)) L0 = true := by kernel_rfl) : Run (ρ := ρ) P N (C p) Q ds l I M0 := by
  obtain ⟨id, hid⟩ := ID hc;simp only [Bool.and_eq_true] at hI;exact fun a w hS hD hW => run_drawX _ al n0 order hm hid hok hA (asB_spec hI.2.1) (knB_spec hI.2.2) (alInjS_spec hI.1) (fun t u ht => .inl (regB_spec hr t u ht)) h a w hS hD (hW.perm hM)
end
end Go.Sl
namespace Go.Sh
open Go Go.Sl
def Rev {α : Type} (d : α) (xs zs : List α) (k : Nat) : Prop := zs.length = xs.length ∧ ∀ p, p < xs.length → zs.getD p d = if p < k ∨ xs.length - k ≤ p then xs.getD (xs.length - 1 - p) d else xs.getD p d
theorem Rev.start {α : Type} (d : α) (xs : List α) : Rev d xs xs 0 := ⟨rfl, fun p hp => by rw [if_neg (by omega)]⟩
theorem getD_set {α : Type} {d z : α} {xs : List α} {j p : Nat} (hj : j < xs.length) : (xs.set j z).getD p d = if p = j then z else xs.getD p d := by
  simp only [List.getD]
  by_cases e : j = p
  · subst e; rw [List.getElem?_set_self hj, if_pos rfl]; rfl
  · rw [List.getElem?_set_ne e, if_neg (Ne.symm e)]
theorem Rev.step {α : Type} {d : α} {xs zs : List α} {k j : Nat} (h : Rev d xs zs k) (hj : j = xs.length - 1 - k) (hk : k < j) : Rev d xs ((zs.set k (zs.getD j d)).set j (zs.getD k d)) (k + 1) := by
  obtain ⟨h1, h2⟩ := h;refine ⟨by simp [h1], fun p hp => ?_⟩;rw [getD_set (by rw [List.length_set]; omega), getD_set (by omega)]
  by_cases e1 : p = j
  · subst e1
    rw [if_pos rfl, if_pos (by omega), h2 k (by omega), if_neg (by omega)]
    congr 1; omega
  · rw [if_neg e1]
    by_cases e2 : p = k
    · subst e2
      rw [if_pos rfl, if_pos (by omega), h2 j (by omega), if_neg (by omega), hj]
    · rw [if_neg e2, h2 p hp]
      by_cases e3 : p < k ∨ xs.length - k ≤ p
      · rw [if_pos e3, if_pos (by omega)]
      · rw [if_neg e3, if_neg (by omega)]
theorem Rev.done {α : Type} {d : α} {xs zs : List α} {k : Nat} (h : Rev d xs zs k) (hk : xs.length - 1 - k ≤ k) : zs = xs.reverse := by
  obtain ⟨h1, h2⟩ := h;refine list_eq (d := d) (by simp [h1]) fun p hp => ?_
  rw [h1] at hp;have e : xs.reverse.getD p d = xs.getD (xs.length - 1 - p) d := by
    simp only [List.getD];rw [List.getElem?_reverse hp]
  rw [e, h2 p hp]
  by_cases e3 : p < k ∨ xs.length - k ≤ p
  · rw [if_pos e3]
  · rw [if_neg e3]
    congr 1; omega
end Go.Sh
namespace Go.Sl
open Go
end Go.Sl
namespace Go.Sh
open Go Go.Sl
section
variable {Y : Yard} {s : Shift} {k : Nat}
theorem moved_len : (moved Y s).tracks.length = Y.tracks.length := by simp [moved]
theorem moved_row_f (hf : 0 ≤ s.frm ∧ s.frm < Y.tracks.length) (hk : (k : Int) = s.frm) : (moved Y s).tracks.getD k [] = (Y.tracks.getD s.frm.toNat []).take (EZ Y s).toNat := by
  have e : k = s.frm.toNat := by omega
  subst e;simp only [moved, trk, List.getD];rw [List.getElem?_set_self (by rw [List.length_set]; omega)]; rfl
theorem moved_row_t (ht : 0 ≤ s.to ∧ s.to < Y.tracks.length) (h1 : ¬ (k : Int) = s.frm) (hf : 0 ≤ s.frm) (hk : (k : Int) = s.to) : (moved Y s).tracks.getD k [] = Y.tracks.getD k [] ++ (Y.tracks.getD s.frm.toNat []).drop (EZ Y s).toNat := by
  have e : k = s.to.toNat := by omega
  subst e;simp only [moved, trk, List.getD];rw [List.getElem?_set_ne (by omega), List.getElem?_set_self (by omega)]; rfl
theorem moved_row_o (hf : 0 ≤ s.frm) (ht : 0 ≤ s.to) (h1 : ¬ (k : Int) = s.frm) (h2 : ¬ (k : Int) = s.to) : (moved Y s).tracks.getD k [] = Y.tracks.getD k [] := moved_other (by omega) (by omega)
end
theorem draws_go_yes {Y : Yard} {l1 r : List Shift} {f t k : Nat} (h : l1 ++ (EI Y f t k ++ r) = draws Y) (hk : k < (Y.tracks.getD f []).length) (hm : BE Y (mk3 f t (k + 1)) = 0) : (l1 ++ [mk3 f t (k + 1)]) ++ (EI Y f t (k + 1) ++ r) = draws Y := by
  rw [← h, HL hk hm]; simp
theorem draws_go_no {Y : Yard} {l1 r : List Shift} {f t k : Nat} (h : l1 ++ (EI Y f t k ++ r) = draws Y) (hk : k < (Y.tracks.getD f []).length) (hm : BE Y (mk3 f t (k + 1)) ≠ 0) : l1 ++ (EI Y f t (k + 1) ++ r) = draws Y := by
  rw [← h, NF hk hm]
theorem ON {Y : Yard} {s : Shift} (h : Valid Y) (hm : BE Y s ≠ 0) : BH Y [s] = (AC, BE Y s) := by
  rw [FF h]; simp only [BS]; rw [if_neg hm]
theorem FW {Y : Yard} {s : Shift} (h : Valid Y) (hm : BE Y s = 0) : BH Y [s] = (moved Y s, 0) := (FF h).trans (OM hm)
theorem play_snoc {Y Z : Yard} {l : List Shift} {s : Shift} (h : BS Y l = (Z, 0)) (hv : Valid Z) (hm : BE Z s = 0) : BS Y (l ++ [s]) = ((BH Z [s]).1, 0) := by
  rw [playFrom_app l [s] h, OM hm, FW hv hm]
theorem ridden_next {Y Z : Yard} {l : List Shift} {s : Shift} (hY : Valid Y) (h : BS Y l = (Z, 0)) (hs : s ∈ (DK Z).1) : BE Z s = 0 ∧ BS Y (l ++ [s]) = ((BH Z [s]).1, 0) ∧ Valid (BH Z [s]).1 := by
  obtain ⟨_, hv, _⟩ := KV hY h;rw [GH hv] at hs;have hm := DF hs;have h2 := play_snoc h hv hm;exact ⟨hm, h2, (KV hY h2).2.1⟩
theorem yard_ext {A B : Yard} (h1 : A.cars = B.cars) (h2 : A.room = B.room) (h3 : A.tracks = B.tracks) : A = B := by
  rcases A with ⟨a, b, c⟩; rcases B with ⟨a', b', c'⟩
  simp only at h1 h2 h3;rw [h1, h2, h3]
end Go.Sh

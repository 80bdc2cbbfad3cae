/- A part of the proof of the laws of this seat. -/
import Derived.Test.YtcaocbhbofejnaaGreatDoorP4
import Derived.Test.YtcaocbhbofejnaaGreatDoorP1
import Derived.Test.YtcaocbhbofejnaaGreatDoorP2
import Derived.Test.YtcaocbhbofejnaaGreatDoorP0
import Derived.Test.YtcaocbhbofejnaaGreatDoorTie
import Derived.Test.YtcaocbhbofejnaaGreatDoorCards
import Derived.Test.YtcaocbhbofejnaaGreatDoorProg
import Derived.ChangeVars
import Derived.JoinedOf
import Derived.RowKit
import Derived.RowKitTokens
import Derived.LaidLaws
import Derived.LaidHandle
import Derived.Stop.Joined
import Derived.SevenTiedAt
import Derived.WideKeyArgs
import Derived.ProofKit
import Derived.SizedLaws
set_option linter.unusedVariables false
set_option linter.unusedSimpArgs false
namespace Go.Proofs.YtcaocbhbofejnaaGreatDoor
open Go Go.Sl Go.Sh
set_option maxRecDepth 100000
noncomputable def c_YardOf (p : List Nat) : Code := sub (AW Tryz.f21) p
set_option maxHeartbeats 1000000 in
theorem YardOf_ct (I : Imm) (p : Nat) (p_s : Int) (c : Nat) (s : Nat) (hc : c ≤ 1000) (hs : s ≤ 1000) : Ct Tryz.prog 21 #[vP p 0, vI ↑c, vI ↑s] I ([(bX p #[.int .u64 (p_s)] 95)]) (fun v I' M' => ∃ p_t : Int, ∃ Y : Yard, ∃ u_0 : Value, ∃ Ms_0 : Seg, ∃ u_1 : Value, ∃ Ms_1 : Seg, ∃ u_2 : Value, ∃ ws_2 : List Value, ∃ Ms_2 : Seg, v = .agg #[u_0, u_1, u_2] ∧ M' = [(bX p #[.int .u64 (p_t)] 95)] ++ (Ms_0 ++ (Ms_1 ++ (Ms_2))) ∧ (Valid Y) ∧ (Y.cars.length ≤ c) ∧ Own 56 6 CF u_0 ((Y).cars) Ms_0 ∧ Own 3 1 BA u_1 ((Y).room) Ms_1 ∧ Own 23 1 AP u_2 ws_2 Ms_2 ∧ RowsV I' ws_2 ((Y).tracks)) := by
 refine fr (args := [_, _, _]) (N := 179) Tryz.func21 (fun F => ?_);show Run _ _ (c_YardOf []) _ _ [(0, vP p 0), (1, vI (↑c)), (2, vI (↑s))] _ _;refine rnm (rqr ?_);refine sS (sal 6 26 #[vN, vN, vN] (fun b1 => (sn (sS (sal 7 26 #[vN, vN, vN] (fun b3 => (sn (sp 3 [(20, vI ((if (5 : Int) < (↑c : Int) then 5 else ↑c))), (18, vP p 0)] ?_))))))));have v9 := Up_ct I (p) (p_s) ((if (5 : Int) < (↑c : Int) then 5 else ↑c)) (by omega);refine sS (sc (some 21) (F := ((bX b3 #[vN, vN, vN] 26) :: (bX b1 #[vN, vN, vN] 26) :: F)) (v9 :) ((PC _ (PS _ _ _)).trans (PS _ _ _)) (fun X1 I5 W3 K4 V7 => ?_));obtain ⟨B9, e0, P3, P1, M3⟩ := V7;rw [P3, P1]; clear P3 P1;refine nm ?_;refine sp 1 [(8, vI (↑e0))] ?_;have hn5 : e0 ≤ 5 ∧ e0 ≤ c := by
  have hq := M3
  split at hq <;> omega
 refine sn (sp 2 [(10, vI (0)), (9, vI (0))] (se (rq (rqr (sp 1 [(11, vI (0))] (se (rb 0 ?_)))))));refine rl (fun mz a w => ∃ J0 : Imm, ∃ k : Nat, ∃ cs : List Car, ∃ g : Int, ∃ l : Int, ∃ bs : Int, ∃ d7 : Value, ∃ a4 : Seg, (I5.le J0) ∧ (k ≤ e0) ∧ (cs.length = k) ∧ (CarsInv cs g l) ∧ (Own 56 6 CF d7 (cs) a4) ∧ Slots 179 [(9, vI g), (10, vI l), (11, vI ↑k), (0, vP p 0), (2, vI (↑s)), (6, vP b1 0), (7, vP b3 0), (8, vI (↑e0))] a ∧ a.defers = [] ∧ St J0 ((bX p #[.int .u64 (bs)] 95) :: (bX b3 #[d7, vN, vN] 26) :: (bX b1 #[vN, vN, vN] 26) :: (a4 ++ F)) w ∧ mz = e0 - k) ?_ ?_
 ·intro a w hS hD hW;exact ⟨_, I5, 0, [], 0, 0, B9, (vN), [], IR _, Nat.zero_le _, rfl, CarsInv.nil, (Own.nil _ _ _), hS.sub (.cons 9 rfl (.cons 10 rfl (.cons 11 rfl (.cons 0 rfl (.cons 2 rfl (.cons 6 rfl (.cons 7 rfl (.cons 8 rfl (.nil _))))))))), hD, hW, rfl⟩
 rintro mz a w ⟨J0, k, cs, g, l, bs, d7, a4, hJ0, hk, Z6, d9, a9, hS, hD, hW, rfl⟩
 refine BJ hS hD hW ?_;clear hS hD hW a w;obtain ⟨a1, a3, f5, u0⟩ := a9.shape; subst f5;have Z7 := d9.g0; have Z8 := d9.l0;refine rq (rqr (sp 3 [(24, .bool (cmp .lss (↑k) (↑e0)))] (se (rc 24 rfl (fun h1 => ?_) (fun h1 => ?_)))))
 ·
  have J6 := h1;have h1 := CQ h1;refine AM (NX (rq (rb 1 (rqr (sp 2 [(28, vP p 0), (27, vP p 0)] ?_)))));have x0 := From_ct J0 (p) (bs) (1) (3) (by omega) (by omega);refine sS (sc (some 29) (F := ((bX b3 #[vS a1 cs.length a3, vN, vN] 26) :: (bX b1 #[vN, vN, vN] 26) :: (a4 ++ F))) (x0 :) (.refl _) (fun X2 Z2 W4 d0 K6 => ?_));obtain ⟨m6, G0, z5, x7, V9⟩ := K6;rw [z5, x7]; clear z5 x7;refine nm ?_;refine sS (sbs 30 3 3 #[vI (1), vI (1), vI ((G0))] (fun G5 => (pm (M' := ((bX p #[.int .u64 (m6)] 95) :: (bX b3 #[vS a1 cs.length a3, vN, vN] 26) :: (bX b1 #[vN, vN, vN] 26) :: ([(bX G5 #[vI (1), vI (1), vI ((G0))] 3)] ++ (a4 ++ F)))) ((PS _ _ _).trans (PC _ ((PS _ _ _).trans (PC _ (PS _ _ _))))) ?_)));have K5 : Own 3 1 BA (vS (some ⟨G5, 0, none⟩) 3 3) ([(1 : Int), (1 : Int), ((G0) : Int)] : List Int) [(bX G5 #[vI (1), vI (1), vI ((G0))] 3)] := Own.lit rfl rfl;refine sfz (A := ((bX p #[.int .u64 (m6)] 95) :: (bX b3 #[vS a1 cs.length a3, vN, vN] 26) :: (bX b1 #[vN, vN, vN] 26) :: (a4 ++ F))) 0 K5 (PU (PU (PM.symm))) (fun T8 d1 i5 => ?_);obtain ⟨G6, G8, G7, J4, r9, G9, J3, J5⟩ := id i5;cases r9;have x1 := One_ct T8 (p) (m6) _ _ i5 (by simp);refine sS (sc (some 31) (F := ((bX b3 #[vS a1 cs.length a3, vN, vN] 26) :: (bX b1 #[vN, vN, vN] 26) :: (a4 ++ F))) (x1 :) (.refl _) (fun X3 T9 W5 d2 K7 => ?_));obtain ⟨C0, b0, z6, x8, M4⟩ := K7;rw [z6, x8]; clear z6 x8;refine nm ?_;have hl3 : 1 ≤ (b0) ∧ (b0) ≤ 3 := by
   have hq := M4;simp only [List.mem_cons, List.not_mem_nil, or_false] at hq;omega
  refine sp 1 [(32, vP p 0)] ?_;have x2 := From_ct T9 (p) (C0) (5) (60) (by omega) (by omega);refine sS (sc (some 33) (F := ((bX b3 #[vS a1 cs.length a3, vN, vN] 26) :: (bX b1 #[vN, vN, vN] 26) :: (a4 ++ F))) (x2 :) (.refl _) (fun X4 U0 W6 d3 K8 => ?_));obtain ⟨C1, b2, z7, x9, W0⟩ := K8;rw [z7, x9]; clear z7 x9;refine nm ?_;refine sp 1 [(34, vP p 0)] ?_;have x3 := Chance_ct U0 (p) (C1) (2) (3) (by omega);refine sS (sc (some 35) (F := ((bX b3 #[vS a1 cs.length a3, vN, vN] 26) :: (bX b1 #[vN, vN, vN] 26) :: (a4 ++ F))) (x3 :) (.refl _) (fun X5 U1 W7 d4 K9 => ?_));obtain ⟨C2, b4, z8, y0⟩ := K9;rw [z8, y0]; clear z8 y0;refine nm ?_;refine sp 1 [(36, vP p 0)] ?_;have x4 := Chance_ct U1 (p) (C2) (2) (3) (by omega);refine sS (sc (some 37) (F := ((bX b3 #[vS a1 cs.length a3, vN, vN] 26) :: (bX b1 #[vN, vN, vN] 26) :: (a4 ++ F))) (x4 :) (.refl _) (fun X6 U2 W8 d5 M0 => ?_));obtain ⟨C3, b5, z9, y1⟩ := M0;rw [z9, y1]; clear z9 y1;refine nm ?_;refine sp 1 [(38, .agg #[vI ((b0)), vI ((b2)), vI (0), vI (0), .bool (b4), .bool (b5)])] (sS (sal 12 56 #[vI (0), vI (0), vI (0), vI (0), .bool (false), .bool (false)] (fun c6 => (sS (ss 0 0 c6 [vI ((b0)), vI ((b2)), vI (0), vI (0), .bool (b4), .bool (b5)] [vI ((b0)), vI ((b2)), vI (0), vI (0), .bool (b4), .bool (b5)] (_ :: _ :: _ :: _ :: _) (cs := [_, _, _, _, _, _]) rfl rfl (sn (sp 2 [(40, vP c6 1), (39, vP p 0)] (sd (dlb 41 0 1 c6 (vI ((b2)))) ?_))))))));have x5 := Up_ct U2 (p) (C3) ((b2)) (by omega);refine sS (sc (some 42) (F := ((bX c6 #[vI ((b0)), vI ((b2)), vI (0), vI (0), .bool (b4), .bool (b5)] 56) :: (bX b3 #[vS a1 cs.length a3, vN, vN] 26) :: (bX b1 #[vN, vN, vN] 26) :: (a4 ++ F))) (x5 :) (PS _ _ _) (fun X7 u6 W9 d6 M1 => ?_));obtain ⟨c8, b6, A0, y2, W1⟩ := M1;rw [A0, y2]; clear A0 y2;refine nm ?_;refine sp 1 [(43, vP c6 2)] (sS (ss 1 2 c6 [vI (↑b6)] [vI ((b0)), vI ((b2)), vI (↑b6), vI (0), .bool (b4), .bool (b5)] (_ :: _ :: _ :: _ :: _) (cs := [_, _, _, _, _, _]) rfl rfl (se (rq (rqr (sp 3 [(46, .bool (cmp .eql (l) (0)))] ?_))))));refine BP 46 rfl (fun h2 => ?_) (fun h2 => ?_)
  ·
   have i6 := h2;have i6 := EH i6;refine sp 4 [(50, .bool (cmp .lss (g) (3)))] ?_;refine BP 50 rfl (fun h3 => ?_) (fun h3 => ?_)
   ·
    have i7 := h3;have i7 := CQ i7;refine sp 1 [(51, vP p 0)] ?_;have x6 := Chance_ct u6 (p) (c8) (1) (4) (by omega);refine sS (sc (some 52) (F := ((bX c6 #[vI ((b0)), vI ((b2)), vI (↑b6), vI (0), .bool (b4), .bool (b5)] 56) :: (bX b3 #[vS a1 cs.length a3, vN, vN] 26) :: (bX b1 #[vN, vN, vN] 26) :: (a4 ++ F))) (x6 :) (.refl _) (fun X8 G4 X0 i1 M2 => ?_));obtain ⟨f1, W2, A1, y3⟩ := M2;rw [A1, y3]; clear A1 y3;refine nm ?_;refine sp 1 [(53, .bool (W2))] (se (rc 53 rfl (fun h4 => ?_) (fun h4 => ?_)))
    ·
     have J7 := h4;refine rr (sp 1 [(54, vI (g))] (sd (da 55 (g) (1)) (sp 1 [(56, vP p 0)] ?_)));have s3 := From_ct G4 (p) (f1) (1) (2) (by omega) (by omega);refine sS (sc (some 57) (F := ((bX c6 #[vI ((b0)), vI ((b2)), vI (↑b6), vI (0), .bool (b4), .bool (b5)] 56) :: (bX b3 #[vS a1 cs.length a3, vN, vN] 26) :: (bX b1 #[vN, vN, vN] 26) :: (a4 ++ F))) (s3 :) (.refl _) (fun T1 O9 R5 p0 y8 => ?_));obtain ⟨e5, f2, r0, p1, R2⟩ := y8;rw [r0, p1]; clear r0 p1;refine nm ?_;refine sp 2 [(10, vI ((f2))), (9, vI (g + 1))] (se (rq (rqr (sp 2 [(59, .bool (cmp .gtr ((f2)) (0)))] (se (rc 59 rfl (fun h5 => ?_) (fun h5 => ?_)))))))
     ·
      have J8 := h5;have h5 := KR h5;refine rr (sp 2 [(61, vI ((f2))), (60, vI (g + 1))] (sd (dsb 62 ((f2)) (1)) (sp 1 [(63, vP c6 3)] (sS (ss 1 3 c6 [vI (g + 1)] [vI ((b0)), vI ((b2)), vI (↑b6), vI (g + 1), .bool (b4), .bool (b5)] (_ :: _ :: _ :: _ :: _) (cs := [_, _, _, _, _, _]) rfl rfl (sp 1 [(10, vI (((f2)) - 1))] (se (rr (sp 1 [(64, vP b3 0)] (sd (dlb 65 2 0 b3 (vS a1 cs.length a3)) (sd (dnb 66 1 0 c6 [vI ((b0)), vI ((b2)), vI (↑b6), vI (g + 1), .bool (b4), .bool (b5)]) (sS (sbs 67 56 1 #[vI ((b0)), vI ((b2)), vI (↑b6), vI (g + 1), .bool (b4), .bool (b5)] (fun U3 => (sS (AO (d := 68) (x := (.tmp 65)) (y := (.tmp 67)) (T := 22) (T' := 22) (E := 56) (E' := 56) (sz := 6) (bs := 40) (z := .agg #[vI (0), vI (0), vI (0), vI (0), .bool (false), .bool (false)]) (cell := CF) (xs := cs) (ys := [(⟨(b0), (b2), ↑b6, g + 1, b4, b5⟩ : Car)]) (Ms := a4) (ty := 22) (gd := none) (by kernel_rfl) rfl (by kernel_rfl) (by kernel_rfl) (by kernel_rfl) (by kernel_rfl) (by kernel_rfl) (by decide) (by kernel_rfl) rfl rfl (a9) (PU (PU (PU (PU (PM.symm))))) (CS _) (CB 0 rfl rfl) (by first | omega | (simp only [LC, LN, LA, LK, LD]; omega)) (fun Y0 n8 p7 => (AN (M' := ((bX p #[.int .u64 (e5)] 95) :: (bX c6 #[vI ((b0)), vI ((b2)), vI (↑b6), vI (g + 1), .bool (b4), .bool (b5)] 56) :: (bX b3 #[vS a1 cs.length a3, vN, vN] 26) :: (bX b1 #[vN, vN, vN] 26) :: (n8 ++ F))) (fun w h => (h.perm (PW (PW (PW (PW PM))))).sub (TC _ (TR _))) ?_))))))))))))))))));obtain ⟨j0, k2, A7, Q0⟩ := p7.shape;subst A7;refine sp 1 [(69, vP b3 0)] (sS (ss 2 0 b3 [vS j0 (cs ++ ([(⟨(b0), (b2), ↑b6, g + 1, b4, b5⟩ : Car)])).length k2] [vS j0 (cs ++ ([(⟨(b0), (b2), ↑b6, g + 1, b4, b5⟩ : Car)])).length k2, vN, vN] (_ :: _ :: _ :: _ :: _) (cs := [_, _, _]) rfl rfl (ee (NB (NX (rr (sp 1 [(25, vI (↑k))] (sd (da 26 (↑k) (1)) (sp 1 [(11, vI (↑k + 1))] (ee ?_))))))))));refine AH (e0 - (k+1)) (by omega) ?_;intro a w hS hD hW;exact ⟨O9, k+1, cs ++ [(⟨(b0), (b2), ↑b6, g + 1, b4, b5⟩ : Car)], g + 1, ((f2)) - 1, e5, vS j0 (cs ++ ([(⟨(b0), (b2), ↑b6, g + 1, b4, b5⟩ : Car)])).length k2, n8, (IT (IT (IT (IT (IT (IT (IT (IT (IT hJ0 d0) d1) d2) d3) d4) d5) d6) i1) p0), by omega, by simp only [LA, LC, LN]; omega, (by have hh := CarsInv.snoc (d9.group (by omega) (by omega)) (c := (⟨(b0), (b2), ↑b6, g + 1, b4, b5⟩ : Car)) (GL (by omega) (by omega) (by omega) (by have t2 := d9.g0; omega)) ⟨fun _ => rfl, fun hh => absurd h5 hh⟩; rw [if_pos h5] at hh; exact hh), p7, hS.sub (.consE 9 rfl rfl (.consE 10 rfl rfl (.consE 11 rfl rfl (.cons 0 rfl (.cons 2 rfl (.cons 6 rfl (.cons 7 rfl (.cons 8 rfl (.nil _))))))))), hD, (hW.perm (PS _ _ _)).sub (TC _ (TR _)), rfl⟩
     have J8 := h5;have h5 := JP h5;refine AM (NX (rr (sp 1 [(64, vP b3 0)] (sd (dlb 65 2 0 b3 (vS a1 cs.length a3)) (sd (dnb 66 1 0 c6 [vI ((b0)), vI ((b2)), vI (↑b6), vI (0), .bool (b4), .bool (b5)]) (sS (sbs 67 56 1 #[vI ((b0)), vI ((b2)), vI (↑b6), vI (0), .bool (b4), .bool (b5)] (fun U4 => (sS (AO (d := 68) (x := (.tmp 65)) (y := (.tmp 67)) (T := 22) (T' := 22) (E := 56) (E' := 56) (sz := 6) (bs := 40) (z := .agg #[vI (0), vI (0), vI (0), vI (0), .bool (false), .bool (false)]) (cell := CF) (xs := cs) (ys := [(⟨(b0), (b2), ↑b6, 0, b4, b5⟩ : Car)]) (Ms := a4) (ty := 22) (gd := none) (by kernel_rfl) rfl (by kernel_rfl) (by kernel_rfl) (by kernel_rfl) (by kernel_rfl) (by kernel_rfl) (by decide) (by kernel_rfl) rfl rfl (a9) (PU (PU (PU (PU (PM.symm))))) (CS _) (CB 0 rfl rfl) (by first | omega | (simp only [LC, LN, LA, LK, LD]; omega)) (fun Y1 n9 p8 => (AN (M' := ((bX p #[.int .u64 (e5)] 95) :: (bX c6 #[vI ((b0)), vI ((b2)), vI (↑b6), vI (0), .bool (b4), .bool (b5)] 56) :: (bX b3 #[vS a1 cs.length a3, vN, vN] 26) :: (bX b1 #[vN, vN, vN] 26) :: (n9 ++ F))) (fun w h => (h.perm (PW (PW (PW (PW PM))))).sub (TC _ (TR _))) ?_))))))))))));obtain ⟨j1, k3, A8, Q1⟩ := p8.shape;subst A8;refine sp 1 [(69, vP b3 0)] (sS (ss 2 0 b3 [vS j1 (cs ++ ([(⟨(b0), (b2), ↑b6, 0, b4, b5⟩ : Car)])).length k3] [vS j1 (cs ++ ([(⟨(b0), (b2), ↑b6, 0, b4, b5⟩ : Car)])).length k3, vN, vN] (_ :: _ :: _ :: _ :: _) (cs := [_, _, _]) rfl rfl (ee (NB (NX (rr (sp 1 [(25, vI (↑k))] (sd (da 26 (↑k) (1)) (sp 1 [(11, vI (↑k + 1))] (ee ?_))))))))));refine AH (e0 - (k+1)) (by omega) ?_;intro a w hS hD hW;exact ⟨O9, k+1, cs ++ [(⟨(b0), (b2), ↑b6, 0, b4, b5⟩ : Car)], g + 1, (f2), e5, vS j1 (cs ++ ([(⟨(b0), (b2), ↑b6, 0, b4, b5⟩ : Car)])).length k3, n9, (IT (IT (IT (IT (IT (IT (IT (IT (IT hJ0 d0) d1) d2) d3) d4) d5) d6) i1) p0), by omega, by simp only [LA, LC, LN]; omega, (by have hh := CarsInv.snoc (d9.group (by omega) (by omega)) (c := (⟨(b0), (b2), ↑b6, 0, b4, b5⟩ : Car)) (GL (by omega) (by omega) (by omega) (by have t2 := d9.g0; omega)) ⟨fun hh => absurd hh (by omega), fun _ => rfl⟩; rw [if_neg (show ¬ (0 < (f2)) by omega)] at hh; exact hh), p8, hS.sub (.consE 9 rfl rfl (.consE 10 rfl rfl (.consE 11 rfl rfl (.cons 0 rfl (.cons 2 rfl (.cons 6 rfl (.cons 7 rfl (.cons 8 rfl (.nil _))))))))), hD, (hW.perm (PS _ _ _)).sub (TC _ (TR _)), rfl⟩
    have J7 := h4;refine AM (NX (rq (rqr (sp 2 [(59, .bool (cmp .gtr (l) (0)))] (se (rc 59 rfl (fun h6 => ?_) (fun h6 => ?_)))))))
    ·
     have J9 := h6;have h6 := KR h6;refine rr (sp 2 [(61, vI (l)), (60, vI (g))] (sd (dsb 62 (l) (1)) (sp 1 [(63, vP c6 3)] (sS (ss 1 3 c6 [vI (g)] [vI ((b0)), vI ((b2)), vI (↑b6), vI (g), .bool (b4), .bool (b5)] (_ :: _ :: _ :: _ :: _) (cs := [_, _, _, _, _, _]) rfl rfl (sp 1 [(10, vI (l - 1))] (se (rr (sp 1 [(64, vP b3 0)] (sd (dlb 65 2 0 b3 (vS a1 cs.length a3)) (sd (dnb 66 1 0 c6 [vI ((b0)), vI ((b2)), vI (↑b6), vI (g), .bool (b4), .bool (b5)]) (sS (sbs 67 56 1 #[vI ((b0)), vI ((b2)), vI (↑b6), vI (g), .bool (b4), .bool (b5)] (fun U5 => (sS (AO (d := 68) (x := (.tmp 65)) (y := (.tmp 67)) (T := 22) (T' := 22) (E := 56) (E' := 56) (sz := 6) (bs := 40) (z := .agg #[vI (0), vI (0), vI (0), vI (0), .bool (false), .bool (false)]) (cell := CF) (xs := cs) (ys := [(⟨(b0), (b2), ↑b6, g, b4, b5⟩ : Car)]) (Ms := a4) (ty := 22) (gd := none) (by kernel_rfl) rfl (by kernel_rfl) (by kernel_rfl) (by kernel_rfl) (by kernel_rfl) (by kernel_rfl) (by decide) (by kernel_rfl) rfl rfl (a9) (PU (PU (PU (PU (PM.symm))))) (CS _) (CB 0 rfl rfl) (by first | omega | (simp only [LC, LN, LA, LK, LD]; omega)) (fun Y2 o0 p9 => (AN (M' := ((bX p #[.int .u64 (f1)] 95) :: (bX c6 #[vI ((b0)), vI ((b2)), vI (↑b6), vI (g), .bool (b4), .bool (b5)] 56) :: (bX b3 #[vS a1 cs.length a3, vN, vN] 26) :: (bX b1 #[vN, vN, vN] 26) :: (o0 ++ F))) (fun w h => (h.perm (PW (PW (PW (PW PM))))).sub (TC _ (TR _))) ?_))))))))))))))))));obtain ⟨j2, k4, A9, Q2⟩ := p9.shape;subst A9;refine sp 1 [(69, vP b3 0)] (sS (ss 2 0 b3 [vS j2 (cs ++ ([(⟨(b0), (b2), ↑b6, g, b4, b5⟩ : Car)])).length k4] [vS j2 (cs ++ ([(⟨(b0), (b2), ↑b6, g, b4, b5⟩ : Car)])).length k4, vN, vN] (_ :: _ :: _ :: _ :: _) (cs := [_, _, _]) rfl rfl (ee (NB (NX (rr (sp 1 [(25, vI (↑k))] (sd (da 26 (↑k) (1)) (sp 1 [(11, vI (↑k + 1))] (ee ?_))))))))));refine AH (e0 - (k+1)) (by omega) ?_;intro a w hS hD hW;exact ⟨G4, k+1, cs ++ [(⟨(b0), (b2), ↑b6, g, b4, b5⟩ : Car)], g, l - 1, f1, vS j2 (cs ++ ([(⟨(b0), (b2), ↑b6, g, b4, b5⟩ : Car)])).length k4, o0, (IT (IT (IT (IT (IT (IT (IT (IT hJ0 d0) d1) d2) d3) d4) d5) d6) i1), by omega, by simp only [LA, LC, LN]; omega, (by have hh := CarsInv.snoc (d9) (c := (⟨(b0), (b2), ↑b6, g, b4, b5⟩ : Car)) (GL (by omega) (by omega) (by omega) (by have t2 := d9.g0; omega)) ⟨fun _ => rfl, fun hh => absurd h6 hh⟩; rw [if_pos h6] at hh; exact hh), p9, hS.sub (.consE 9 rfl rfl (.consE 10 rfl rfl (.consE 11 rfl rfl (.cons 0 rfl (.cons 2 rfl (.cons 6 rfl (.cons 7 rfl (.cons 8 rfl (.nil _))))))))), hD, (hW.perm (PS _ _ _)).sub (TC _ (TR _)), rfl⟩
    have J9 := h6;have h6 := JP h6;refine AM (NX (rr (sp 1 [(64, vP b3 0)] (sd (dlb 65 2 0 b3 (vS a1 cs.length a3)) (sd (dnb 66 1 0 c6 [vI ((b0)), vI ((b2)), vI (↑b6), vI (0), .bool (b4), .bool (b5)]) (sS (sbs 67 56 1 #[vI ((b0)), vI ((b2)), vI (↑b6), vI (0), .bool (b4), .bool (b5)] (fun U6 => (sS (AO (d := 68) (x := (.tmp 65)) (y := (.tmp 67)) (T := 22) (T' := 22) (E := 56) (E' := 56) (sz := 6) (bs := 40) (z := .agg #[vI (0), vI (0), vI (0), vI (0), .bool (false), .bool (false)]) (cell := CF) (xs := cs) (ys := [(⟨(b0), (b2), ↑b6, 0, b4, b5⟩ : Car)]) (Ms := a4) (ty := 22) (gd := none) (by kernel_rfl) rfl (by kernel_rfl) (by kernel_rfl) (by kernel_rfl) (by kernel_rfl) (by kernel_rfl) (by decide) (by kernel_rfl) rfl rfl (a9) (PU (PU (PU (PU (PM.symm))))) (CS _) (CB 0 rfl rfl) (by first | omega | (simp only [LC, LN, LA, LK, LD]; omega)) (fun Y3 o1 q0 => (AN (M' := ((bX p #[.int .u64 (f1)] 95) :: (bX c6 #[vI ((b0)), vI ((b2)), vI (↑b6), vI (0), .bool (b4), .bool (b5)] 56) :: (bX b3 #[vS a1 cs.length a3, vN, vN] 26) :: (bX b1 #[vN, vN, vN] 26) :: (o1 ++ F))) (fun w h => (h.perm (PW (PW (PW (PW PM))))).sub (TC _ (TR _))) ?_))))))))))));obtain ⟨j3, k5, B0, Q3⟩ := q0.shape;subst B0;refine sp 1 [(69, vP b3 0)] (sS (ss 2 0 b3 [vS j3 (cs ++ ([(⟨(b0), (b2), ↑b6, 0, b4, b5⟩ : Car)])).length k5] [vS j3 (cs ++ ([(⟨(b0), (b2), ↑b6, 0, b4, b5⟩ : Car)])).length k5, vN, vN] (_ :: _ :: _ :: _ :: _) (cs := [_, _, _]) rfl rfl (ee (NB (NX (rr (sp 1 [(25, vI (↑k))] (sd (da 26 (↑k) (1)) (sp 1 [(11, vI (↑k + 1))] (ee ?_))))))))));refine AH (e0 - (k+1)) (by omega) ?_;intro a w hS hD hW;exact ⟨G4, k+1, cs ++ [(⟨(b0), (b2), ↑b6, 0, b4, b5⟩ : Car)], g, l, f1, vS j3 (cs ++ ([(⟨(b0), (b2), ↑b6, 0, b4, b5⟩ : Car)])).length k5, o1, (IT (IT (IT (IT (IT (IT (IT (IT hJ0 d0) d1) d2) d3) d4) d5) d6) i1), by omega, by simp only [LA, LC, LN]; omega, (by have hh := CarsInv.snoc (d9) (c := (⟨(b0), (b2), ↑b6, 0, b4, b5⟩ : Car)) (GL (by omega) (by omega) (by omega) (by have t2 := d9.g0; omega)) ⟨fun hh => absurd hh (by omega), fun _ => rfl⟩; rw [if_neg (show ¬ (0 < l) by omega)] at hh; exact hh), q0, hS.sub (.consE 9 rfl rfl (.consE 10 rfl rfl (.consE 11 rfl rfl (.cons 0 rfl (.cons 2 rfl (.cons 6 rfl (.cons 7 rfl (.cons 8 rfl (.nil _))))))))), hD, (hW.perm (PS _ _ _)).sub (TC _ (TR _)), rfl⟩
   have i7 := h3;have i7 := CP i7;refine sp 3 [(53, .bool (false))] (se (rcf 53 rfl (AM (NX (rq (rqr (sp 2 [(59, .bool (cmp .gtr (l) (0)))] (se (rc 59 rfl (fun h7 => ?_) (fun h7 => ?_))))))))))
   ·
    have K0 := h7;have h7 := KR h7;refine rr (sp 2 [(61, vI (l)), (60, vI (g))] (sd (dsb 62 (l) (1)) (sp 1 [(63, vP c6 3)] (sS (ss 1 3 c6 [vI (g)] [vI ((b0)), vI ((b2)), vI (↑b6), vI (g), .bool (b4), .bool (b5)] (_ :: _ :: _ :: _ :: _) (cs := [_, _, _, _, _, _]) rfl rfl (sp 1 [(10, vI (l - 1))] (se (rr (sp 1 [(64, vP b3 0)] (sd (dlb 65 2 0 b3 (vS a1 cs.length a3)) (sd (dnb 66 1 0 c6 [vI ((b0)), vI ((b2)), vI (↑b6), vI (g), .bool (b4), .bool (b5)]) (sS (sbs 67 56 1 #[vI ((b0)), vI ((b2)), vI (↑b6), vI (g), .bool (b4), .bool (b5)] (fun U7 => (sS (AO (d := 68) (x := (.tmp 65)) (y := (.tmp 67)) (T := 22) (T' := 22) (E := 56) (E' := 56) (sz := 6) (bs := 40) (z := .agg #[vI (0), vI (0), vI (0), vI (0), .bool (false), .bool (false)]) (cell := CF) (xs := cs) (ys := [(⟨(b0), (b2), ↑b6, g, b4, b5⟩ : Car)]) (Ms := a4) (ty := 22) (gd := none) (by kernel_rfl) rfl (by kernel_rfl) (by kernel_rfl) (by kernel_rfl) (by kernel_rfl) (by kernel_rfl) (by decide) (by kernel_rfl) rfl rfl (a9) (PU (PU (PU (PU (PM.symm))))) (CS _) (CB 0 rfl rfl) (by first | omega | (simp only [LC, LN, LA, LK, LD]; omega)) (fun Y4 o2 q1 => (AN (M' := ((bX p #[.int .u64 (c8)] 95) :: (bX c6 #[vI ((b0)), vI ((b2)), vI (↑b6), vI (g), .bool (b4), .bool (b5)] 56) :: (bX b3 #[vS a1 cs.length a3, vN, vN] 26) :: (bX b1 #[vN, vN, vN] 26) :: (o2 ++ F))) (fun w h => (h.perm (PW (PW (PW (PW PM))))).sub (TC _ (TR _))) ?_))))))))))))))))));obtain ⟨j4, k6, B1, Q4⟩ := q1.shape;subst B1;refine sp 1 [(69, vP b3 0)] (sS (ss 2 0 b3 [vS j4 (cs ++ ([(⟨(b0), (b2), ↑b6, g, b4, b5⟩ : Car)])).length k6] [vS j4 (cs ++ ([(⟨(b0), (b2), ↑b6, g, b4, b5⟩ : Car)])).length k6, vN, vN] (_ :: _ :: _ :: _ :: _) (cs := [_, _, _]) rfl rfl (ee (NB (NX (rr (sp 1 [(25, vI (↑k))] (sd (da 26 (↑k) (1)) (sp 1 [(11, vI (↑k + 1))] (ee ?_))))))))));refine AH (e0 - (k+1)) (by omega) ?_;intro a w hS hD hW;exact ⟨u6, k+1, cs ++ [(⟨(b0), (b2), ↑b6, g, b4, b5⟩ : Car)], g, l - 1, c8, vS j4 (cs ++ ([(⟨(b0), (b2), ↑b6, g, b4, b5⟩ : Car)])).length k6, o2, (IT (IT (IT (IT (IT (IT (IT hJ0 d0) d1) d2) d3) d4) d5) d6), by omega, by simp only [LA, LC, LN]; omega, (by have hh := CarsInv.snoc (d9) (c := (⟨(b0), (b2), ↑b6, g, b4, b5⟩ : Car)) (GL (by omega) (by omega) (by omega) (by have t2 := d9.g0; omega)) ⟨fun _ => rfl, fun hh => absurd h7 hh⟩; rw [if_pos h7] at hh; exact hh), q1, hS.sub (.consE 9 rfl rfl (.consE 10 rfl rfl (.consE 11 rfl rfl (.cons 0 rfl (.cons 2 rfl (.cons 6 rfl (.cons 7 rfl (.cons 8 rfl (.nil _))))))))), hD, (hW.perm (PS _ _ _)).sub (TC _ (TR _)), rfl⟩
   have K0 := h7;have h7 := JP h7;refine AM (NX (rr (sp 1 [(64, vP b3 0)] (sd (dlb 65 2 0 b3 (vS a1 cs.length a3)) (sd (dnb 66 1 0 c6 [vI ((b0)), vI ((b2)), vI (↑b6), vI (0), .bool (b4), .bool (b5)]) (sS (sbs 67 56 1 #[vI ((b0)), vI ((b2)), vI (↑b6), vI (0), .bool (b4), .bool (b5)] (fun U8 => (sS (AO (d := 68) (x := (.tmp 65)) (y := (.tmp 67)) (T := 22) (T' := 22) (E := 56) (E' := 56) (sz := 6) (bs := 40) (z := .agg #[vI (0), vI (0), vI (0), vI (0), .bool (false), .bool (false)]) (cell := CF) (xs := cs) (ys := [(⟨(b0), (b2), ↑b6, 0, b4, b5⟩ : Car)]) (Ms := a4) (ty := 22) (gd := none) (by kernel_rfl) rfl (by kernel_rfl) (by kernel_rfl) (by kernel_rfl) (by kernel_rfl) (by kernel_rfl) (by decide) (by kernel_rfl) rfl rfl (a9) (PU (PU (PU (PU (PM.symm))))) (CS _) (CB 0 rfl rfl) (by first | omega | (simp only [LC, LN, LA, LK, LD]; omega)) (fun Y5 o3 q2 => (AN (M' := ((bX p #[.int .u64 (c8)] 95) :: (bX c6 #[vI ((b0)), vI ((b2)), vI (↑b6), vI (0), .bool (b4), .bool (b5)] 56) :: (bX b3 #[vS a1 cs.length a3, vN, vN] 26) :: (bX b1 #[vN, vN, vN] 26) :: (o3 ++ F))) (fun w h => (h.perm (PW (PW (PW (PW PM))))).sub (TC _ (TR _))) ?_))))))))))));obtain ⟨j5, k7, B2, Q5⟩ := q2.shape;subst B2;refine sp 1 [(69, vP b3 0)] (sS (ss 2 0 b3 [vS j5 (cs ++ ([(⟨(b0), (b2), ↑b6, 0, b4, b5⟩ : Car)])).length k7] [vS j5 (cs ++ ([(⟨(b0), (b2), ↑b6, 0, b4, b5⟩ : Car)])).length k7, vN, vN] (_ :: _ :: _ :: _ :: _) (cs := [_, _, _]) rfl rfl (ee (NB (NX (rr (sp 1 [(25, vI (↑k))] (sd (da 26 (↑k) (1)) (sp 1 [(11, vI (↑k + 1))] (ee ?_))))))))));refine AH (e0 - (k+1)) (by omega) ?_;intro a w hS hD hW;exact ⟨u6, k+1, cs ++ [(⟨(b0), (b2), ↑b6, 0, b4, b5⟩ : Car)], g, l, c8, vS j5 (cs ++ ([(⟨(b0), (b2), ↑b6, 0, b4, b5⟩ : Car)])).length k7, o3, (IT (IT (IT (IT (IT (IT (IT hJ0 d0) d1) d2) d3) d4) d5) d6), by omega, by simp only [LA, LC, LN]; omega, (by have hh := CarsInv.snoc (d9) (c := (⟨(b0), (b2), ↑b6, 0, b4, b5⟩ : Car)) (GL (by omega) (by omega) (by omega) (by have t2 := d9.g0; omega)) ⟨fun hh => absurd hh (by omega), fun _ => rfl⟩; rw [if_neg (show ¬ (0 < l) by omega)] at hh; exact hh), q2, hS.sub (.consE 9 rfl rfl (.consE 10 rfl rfl (.consE 11 rfl rfl (.cons 0 rfl (.cons 2 rfl (.cons 6 rfl (.cons 7 rfl (.cons 8 rfl (.nil _))))))))), hD, (hW.perm (PS _ _ _)).sub (TC _ (TR _)), rfl⟩
  have i6 := h2;have i6 := EA i6;refine sp 7 [(53, .bool (false))] (se (rcf 53 rfl (AM (NX (rq (rqr (sp 2 [(59, .bool (cmp .gtr (l) (0)))] (se (rc 59 rfl (fun h8 => ?_) (fun h8 => ?_))))))))))
  ·
   have K1 := h8;have h8 := KR h8;refine rr (sp 2 [(61, vI (l)), (60, vI (g))] (sd (dsb 62 (l) (1)) (sp 1 [(63, vP c6 3)] (sS (ss 1 3 c6 [vI (g)] [vI ((b0)), vI ((b2)), vI (↑b6), vI (g), .bool (b4), .bool (b5)] (_ :: _ :: _ :: _ :: _) (cs := [_, _, _, _, _, _]) rfl rfl (sp 1 [(10, vI (l - 1))] (se (rr (sp 1 [(64, vP b3 0)] (sd (dlb 65 2 0 b3 (vS a1 cs.length a3)) (sd (dnb 66 1 0 c6 [vI ((b0)), vI ((b2)), vI (↑b6), vI (g), .bool (b4), .bool (b5)]) (sS (sbs 67 56 1 #[vI ((b0)), vI ((b2)), vI (↑b6), vI (g), .bool (b4), .bool (b5)] (fun U9 => (sS (AO (d := 68) (x := (.tmp 65)) (y := (.tmp 67)) (T := 22) (T' := 22) (E := 56) (E' := 56) (sz := 6) (bs := 40) (z := .agg #[vI (0), vI (0), vI (0), vI (0), .bool (false), .bool (false)]) (cell := CF) (xs := cs) (ys := [(⟨(b0), (b2), ↑b6, g, b4, b5⟩ : Car)]) (Ms := a4) (ty := 22) (gd := none) (by kernel_rfl) rfl (by kernel_rfl) (by kernel_rfl) (by kernel_rfl) (by kernel_rfl) (by kernel_rfl) (by decide) (by kernel_rfl) rfl rfl (a9) (PU (PU (PU (PU (PM.symm))))) (CS _) (CB 0 rfl rfl) (by first | omega | (simp only [LC, LN, LA, LK, LD]; omega)) (fun Y6 o4 q3 => (AN (M' := ((bX p #[.int .u64 (c8)] 95) :: (bX c6 #[vI ((b0)), vI ((b2)), vI (↑b6), vI (g), .bool (b4), .bool (b5)] 56) :: (bX b3 #[vS a1 cs.length a3, vN, vN] 26) :: (bX b1 #[vN, vN, vN] 26) :: (o4 ++ F))) (fun w h => (h.perm (PW (PW (PW (PW PM))))).sub (TC _ (TR _))) ?_))))))))))))))))));obtain ⟨j6, k8, B3, Q6⟩ := q3.shape;subst B3;refine sp 1 [(69, vP b3 0)] (sS (ss 2 0 b3 [vS j6 (cs ++ ([(⟨(b0), (b2), ↑b6, g, b4, b5⟩ : Car)])).length k8] [vS j6 (cs ++ ([(⟨(b0), (b2), ↑b6, g, b4, b5⟩ : Car)])).length k8, vN, vN] (_ :: _ :: _ :: _ :: _) (cs := [_, _, _]) rfl rfl (ee (NB (NX (rr (sp 1 [(25, vI (↑k))] (sd (da 26 (↑k) (1)) (sp 1 [(11, vI (↑k + 1))] (ee ?_))))))))));refine AH (e0 - (k+1)) (by omega) ?_;intro a w hS hD hW;exact ⟨u6, k+1, cs ++ [(⟨(b0), (b2), ↑b6, g, b4, b5⟩ : Car)], g, l - 1, c8, vS j6 (cs ++ ([(⟨(b0), (b2), ↑b6, g, b4, b5⟩ : Car)])).length k8, o4, (IT (IT (IT (IT (IT (IT (IT hJ0 d0) d1) d2) d3) d4) d5) d6), by omega, by simp only [LA, LC, LN]; omega, (by have hh := CarsInv.snoc (d9) (c := (⟨(b0), (b2), ↑b6, g, b4, b5⟩ : Car)) (GL (by omega) (by omega) (by omega) (by have t2 := d9.g0; omega)) ⟨fun _ => rfl, fun hh => absurd h8 hh⟩; rw [if_pos h8] at hh; exact hh), q3, hS.sub (.consE 9 rfl rfl (.consE 10 rfl rfl (.consE 11 rfl rfl (.cons 0 rfl (.cons 2 rfl (.cons 6 rfl (.cons 7 rfl (.cons 8 rfl (.nil _))))))))), hD, (hW.perm (PS _ _ _)).sub (TC _ (TR _)), rfl⟩
  have K1 := h8;have h8 := JP h8;refine AM (NX (rr (sp 1 [(64, vP b3 0)] (sd (dlb 65 2 0 b3 (vS a1 cs.length a3)) (sd (dnb 66 1 0 c6 [vI ((b0)), vI ((b2)), vI (↑b6), vI (0), .bool (b4), .bool (b5)]) (sS (sbs 67 56 1 #[vI ((b0)), vI ((b2)), vI (↑b6), vI (0), .bool (b4), .bool (b5)] (fun V0 => (sS (AO (d := 68) (x := (.tmp 65)) (y := (.tmp 67)) (T := 22) (T' := 22) (E := 56) (E' := 56) (sz := 6) (bs := 40) (z := .agg #[vI (0), vI (0), vI (0), vI (0), .bool (false), .bool (false)]) (cell := CF) (xs := cs) (ys := [(⟨(b0), (b2), ↑b6, 0, b4, b5⟩ : Car)]) (Ms := a4) (ty := 22) (gd := none) (by kernel_rfl) rfl (by kernel_rfl) (by kernel_rfl) (by kernel_rfl) (by kernel_rfl) (by kernel_rfl) (by decide) (by kernel_rfl) rfl rfl (a9) (PU (PU (PU (PU (PM.symm))))) (CS _) (CB 0 rfl rfl) (by first | omega | (simp only [LC, LN, LA, LK, LD]; omega)) (fun Y7 o5 q4 => (AN (M' := ((bX p #[.int .u64 (c8)] 95) :: (bX c6 #[vI ((b0)), vI ((b2)), vI (↑b6), vI (0), .bool (b4), .bool (b5)] 56) :: (bX b3 #[vS a1 cs.length a3, vN, vN] 26) :: (bX b1 #[vN, vN, vN] 26) :: (o5 ++ F))) (fun w h => (h.perm (PW (PW (PW (PW PM))))).sub (TC _ (TR _))) ?_))))))))))));obtain ⟨j7, k9, B4, Q7⟩ := q4.shape;subst B4;refine sp 1 [(69, vP b3 0)] (sS (ss 2 0 b3 [vS j7 (cs ++ ([(⟨(b0), (b2), ↑b6, 0, b4, b5⟩ : Car)])).length k9] [vS j7 (cs ++ ([(⟨(b0), (b2), ↑b6, 0, b4, b5⟩ : Car)])).length k9, vN, vN] (_ :: _ :: _ :: _ :: _) (cs := [_, _, _]) rfl rfl (ee (NB (NX (rr (sp 1 [(25, vI (↑k))] (sd (da 26 (↑k) (1)) (sp 1 [(11, vI (↑k + 1))] (ee ?_))))))))));refine AH (e0 - (k+1)) (by omega) ?_;intro a w hS hD hW;exact ⟨u6, k+1, cs ++ [(⟨(b0), (b2), ↑b6, 0, b4, b5⟩ : Car)], g, l, c8, vS j7 (cs ++ ([(⟨(b0), (b2), ↑b6, 0, b4, b5⟩ : Car)])).length k9, o5, (IT (IT (IT (IT (IT (IT (IT hJ0 d0) d1) d2) d3) d4) d5) d6), by omega, by simp only [LA, LC, LN]; omega, (by have hh := CarsInv.snoc (d9) (c := (⟨(b0), (b2), ↑b6, 0, b4, b5⟩ : Car)) (GL (by omega) (by omega) (by omega) (by have t2 := d9.g0; omega)) ⟨fun hh => absurd hh (by omega), fun _ => rfl⟩; rw [if_neg (show ¬ (0 < l) by omega)] at hh; exact hh), q4, hS.sub (.consE 9 rfl rfl (.consE 10 rfl rfl (.consE 11 rfl rfl (.cons 0 rfl (.cons 2 rfl (.cons 6 rfl (.cons 7 rfl (.cons 8 rfl (.nil _))))))))), hD, (hW.perm (PS _ _ _)).sub (TC _ (TR _)), rfl⟩
 have J6 := h1;have h1 := CP h1;refine CK 0 ((EP (EP (EB (NX (rqr (sp 3 [(72, vI ((if (2 : Int) < (↑s : Int) then 2 else ↑s))), (70, vP p 0)] ?_)))))));have s4 := Up_ct J0 (p) (bs) ((if (2 : Int) < (↑s : Int) then 2 else ↑s)) (by omega);refine sS (sc (some 73) (F := ((bX b3 #[vS a1 cs.length a3, vN, vN] 26) :: (bX b1 #[vN, vN, vN] 26) :: (a4 ++ F))) (s4 :) (.refl _) (fun T2 r6 R6 t3 y9 => ?_));obtain ⟨f7, b8, r1, p2, C4⟩ := y9;rw [r1, p2]; clear r1 p2;refine nm ?_;have hT3 : 1 + b8 ≤ 3 := by
  have hq := C4
  split at hq <;> omega
 refine sd (da 74 (1) (↑b8)) (EE 74 rfl (show (vI (1 + ↑b8) : Value) = vI (↑(1 + b8)) from congrArg (Value.int .i64) (by omega)) (sS (stp_makeSlice (d := 75) (x := (.tmp 74)) (T := 24) (E := 23) (bs := 24) (n := 1 + b8) (z := vN) (zv := vN) (ty := 24) (gd := none) (by kernel_rfl) rfl (by kernel_rfl) (by kernel_rfl) (by kernel_rfl) rfl (by kernel_rfl) (by decide) rfl (by omega) (fun i2 => ?_))));have q5 : Own 23 1 AP (vS (some ⟨i2, 0, none⟩) (1 + b8) (1 + b8)) (List.replicate (1 + b8) (vN)) [(i2, Obj.cells (List.replicate (1 + b8) (vN)).toArray 23 (0, 0))] := Own.made _;obtain ⟨mS147, hmS147⟩ : ∃ X : Seg, X = [(i2, Obj.cells (List.replicate (1 + b8) (vN)).toArray 23 (0, 0))] := ⟨_, rfl⟩;rw [← hmS147] at q5;refine AN (I' := r6) (M' := ((mS147 ++ (bX p #[.int .u64 (f7)] 95) :: (bX b3 #[vS a1 cs.length a3, vN, vN] 26) :: (bX b1 #[vN, vN, vN] 26) :: (a4 ++ F)))) (fun w h => by rw [hmS147]; exact h) (pm (M' := ((bX p #[.int .u64 (f7)] 95) :: (bX b3 #[vS a1 cs.length a3, vN, vN] 26) :: (bX b1 #[vN, vN, vN] 26) :: (mS147 ++ (a4 ++ F)))) (PW (PW PM)) ?_);have s9 := OwnEach.nils 3 (1 + b8);refine sp 1 [(76, vP b3 2)] (sS (ss 1 2 b3 [vS (some ⟨i2, 0, none⟩) (1 + b8) (1 + b8)] [vS a1 cs.length a3, vN, vS (some ⟨i2, 0, none⟩) (1 + b8) (1 + b8)] (_ :: _ :: _ :: _) (cs := [_, _, _]) rfl rfl (sn (sp 1 [(13, vI (0))] (se (rq (rqr (sp 1 [(14, vI (0))] (se (rb 2 ?_))))))))));refine rl (fun mz a w => ∃ J1 : Imm, ∃ j : Nat, ∃ aa : Nat, ∃ ts : List (List Int), ∃ tv : Value, ∃ vs : List Value, ∃ tM : Seg, ∃ eM : Seg, ∃ e8 : Int, (r6.le J1) ∧ (j ≤ e0) ∧ (Placed cs (1 + b8) j aa ts) ∧ (Own 23 1 AP tv vs tM) ∧ (OwnEach 3 vs ts eM) ∧ Slots 179 [(13, vI ↑aa), (14, vI ↑j), (0, vP p 0), (6, vP b1 0), (7, vP b3 0), (8, vI (↑e0))] a ∧ a.defers = [] ∧ St J1 ((bX p #[.int .u64 (e8)] 95) :: (bX b3 #[vS a1 cs.length a3, vN, tv] 26) :: (bX b1 #[vN, vN, vN] 26) :: (tM ++ (a4 ++ (eM ++ F)))) w ∧ mz = e0 - j) ?_ ?_
 ·intro a w hS hD hW;exact ⟨_, r6, 0, 0, (List.replicate (1 + b8) []), (vS (some ⟨i2, 0, none⟩) (1 + b8) (1 + b8)), (List.replicate (1 + b8) (vN)), mS147, [], f7, IR _, Nat.zero_le _, Placed.start (by omega), q5, s9, hS.sub (.cons 13 rfl (.cons 14 rfl (.cons 0 rfl (.cons 6 rfl (.cons 7 rfl (.cons 8 rfl (.nil _))))))), hD, hW, rfl⟩
 rintro mz a w ⟨J1, j, aa, ts, tv, vs, tM, eM, e8, hJ1, hj, t8, n3, E8, hS, hD, hW, rfl⟩
 refine BJ hS hD hW ?_;clear hS hD hW a w;obtain ⟨a7, a8, O8, X9⟩ := n3.shape; subst O8;have hvl := E8.length; have hpt := t8.len; have hpa := t8.a0;refine rq (rqr (sp 3 [(79, .bool (cmp .lss (↑j) (↑e0)))] (se (rc 79 rfl (fun h9 => ?_) (fun h9 => ?_)))))
 ·
  have K2 := h9;have h9 := CQ h9;refine AM (NX (rq (rb 3 (rq (rq ?_)))));refine GR (fun a w => Slots 179 [(0, vP p 0), (6, vP b1 0), (7, vP b3 0), (8, vI (↑e0)), (13, vI (↑aa)), (14, vI (↑j)), (108, .bool ((cmp .eql (↑j) (0)) || ((cmp .eql ((cs.getD (j) AB).grp) (0)) || (!(cmp .eql ((cs.getD (j) AB).grp) ((cs.getD ((↑j - 1 : Int).toNat) AB).grp))))))] a ∧ a.defers = [] ∧ St J1 ((bX p #[.int .u64 (e8)] 95) :: (bX b3 #[vS a1 cs.length a3, vN, vS a7 vs.length a8] 26) :: (bX b1 #[vN, vN, vN] 26) :: (tM ++ (a4 ++ (eM ++ F)))) w) ?_ ?_
  ·
   refine rd0 25 (ox 3 [(84, .bool (cmp .eql (↑j) (0)))] ?_);refine IK 84 (fun u2 => ?_) (fun u2 => ?_)
   ·
    have e9 := u2;have e9 := EH e9;refine ox 22 [(106, undef), (99, undef), (93, .bool (true))] ?_;refine BX (sp 2 [(108, .bool (true))] (ee ?_));refine BI (fun a w hS hD hW => ⟨hS.sub (.cons 0 rfl (.cons 6 rfl (.cons 7 rfl (.cons 8 rfl (.cons 13 rfl (.cons 14 rfl (.consE 108 rfl (congrArg Value.bool (by simp only [u2, kA, kB, kC, kD, kE, kF, kG, kH, kI, kJ])) (.nil _)))))))), hD, hW⟩)
   have e9 := u2;have e9 := EA e9;refine ox 1 [(85, vP b3 0)] ?_;refine AC (dlb 86 1 0 b3 (vS a1 cs.length a3)) (ox 1 [(87, vI (↑j))] ?_);obtain ⟨A3, l6⟩ := a9.row AB;refine AC (di 88 6 (j) l6.addr) (ox 1 [(89, .pointer (some ⟨A3, 0 + j * 6 + 3, none⟩))] ?_);refine AC (dl 90 (l6.get (j) (by omega) 3 (by decide) _ _ (fun x hx => by simp [hx]))) (ox 3 [(93, .bool (cmp .eql ((cs.getD (j) AB).grp) (0)))] ?_);refine IK 93 (fun v4 => ?_) (fun v4 => ?_)
   ·
    have f0 := v4;have f0 := EH f0;refine ox 13 [(106, undef), (99, undef)] ?_;refine BX (sp 2 [(108, .bool (true))] (ee ?_));refine BI (fun a w hS hD hW => ⟨hS.sub (.cons 0 rfl (.cons 6 rfl (.cons 7 rfl (.cons 8 rfl (.cons 13 rfl (.cons 14 rfl (.consE 108 rfl (congrArg Value.bool (by simp only [u2, v4, kA, kB, kC, kD, kE, kF, kG, kH, kI, kJ])) (.nil _)))))))), hD, hW⟩)
   have f0 := v4;have f0 := EA f0;refine ox 1 [(94, vP b3 0)] ?_;refine AC (dlb 95 1 0 b3 (vS a1 cs.length a3)) (ox 1 [(96, vI (↑j))] ?_);obtain ⟨A4, l7⟩ := a9.row AB;refine AC (di 97 6 (j) l7.addr) (ox 1 [(98, .pointer (some ⟨A4, 0 + j * 6 + 3, none⟩))] ?_);refine AC (dl 99 (l7.get (j) (by omega) 3 (by decide) _ _ (fun x hx => by simp [hx]))) (ox 1 [(100, vP b3 0)] ?_);refine AC (dlb 101 1 0 b3 (vS a1 cs.length a3)) (ox 1 [(102, vI (↑j))] ?_);refine AC (dsb 103 (↑j) (1)) ?_;obtain ⟨A5, l8⟩ := a9.row AB;refine AC (diI 104 6 (↑j - 1) l8.addr) (ox 1 [(105, .pointer (some ⟨A5, 0 + ((↑j - 1 : Int).toNat) * 6 + 3, none⟩))] ?_);refine AC (dl 106 (l8.get ((↑j - 1 : Int).toNat) (by omega) 3 (by decide) _ _ (fun x hx => by simp [hx]))) ?_;refine BX (sp 2 [(108, .bool (!(cmp .eql ((cs.getD (j) AB).grp) ((cs.getD ((↑j - 1 : Int).toNat) AB).grp))))] (ee ?_));refine BI (fun a w hS hD hW => ⟨hS.sub (.cons 0 rfl (.cons 6 rfl (.cons 7 rfl (.cons 8 rfl (.cons 13 rfl (.cons 14 rfl (.consE 108 rfl (congrArg Value.bool (by simp only [u2, v4, kA, kB, kC, kD, kE, kF, kG, kH, kI, kJ])) (.nil _)))))))), hD, hW⟩)
  rintro a w ⟨hS, hD, hW⟩
  refine BJ hS hD hW ?_;clear hS hD hW a w;refine rc 108 rfl (fun E7 => ?_) (fun E7 => ?_)
  ·
   have o9 := E7;refine rr (sp 3 [(111, vP b3 2), (110, vP p 0), (109, vP p 0)] (sd (dlb 112 1 2 b3 (vS a7 vs.length a8)) (sp 1 [(113, vI (↑(vs.length)))] (sd (dsb 114 (↑(vs.length)) (1)) ?_))));have s5 := Up_ct J1 (p) (e8) ((↑(vs.length)) - 1) (by omega);refine sS (sc (some 115) (F := ((bX b3 #[vS a1 cs.length a3, vN, vS a7 vs.length a8] 26) :: (bX b1 #[vN, vN, vN] 26) :: (tM ++ (a4 ++ (eM ++ F))))) (s5 :) (.refl _) (fun T3 T7 R7 t4 z0 => ?_));obtain ⟨f8, n6, r2, p3, R3⟩ := z0;rw [r2, p3]; clear r2 p3;refine nm ?_;refine sS (sbs 116 3 4 #[vI (0), vI (0), vI (0), vI (↑n6)] (fun r7 => (pm (M' := ((bX p #[.int .u64 (f8)] 95) :: (bX b3 #[vS a1 cs.length a3, vN, vS a7 vs.length a8] 26) :: (bX b1 #[vN, vN, vN] 26) :: ([(bX r7 #[vI (0), vI (0), vI (0), vI (↑n6)] 3)] ++ (tM ++ (a4 ++ (eM ++ F)))))) ((PS _ _ _).trans (PC _ ((PS _ _ _).trans (PC _ (PS _ _ _))))) ?_)));have y4 : Own 3 1 BA (vS (some ⟨r7, 0, none⟩) 4 4) ([(0 : Int), (0 : Int), (0 : Int), (↑n6 : Int)] : List Int) [(bX r7 #[vI (0), vI (0), vI (0), vI (↑n6)] 3)] := Own.lit rfl rfl;refine sfz (A := ((bX p #[.int .u64 (f8)] 95) :: (bX b3 #[vS a1 cs.length a3, vN, vS a7 vs.length a8] 26) :: (bX b1 #[vN, vN, vN] 26) :: (tM ++ (a4 ++ (eM ++ F))))) 0 y4 (PU (PU (PM.symm))) (fun G1 t5 g8 => ?_);obtain ⟨D3, D5, D4, D8, n4, D6, D7, D9⟩ := id g8;cases n4;have s6 := One_ct G1 (p) (f8) _ _ g8 (by simp);refine sS (sc (some 117) (F := ((bX b3 #[vS a1 cs.length a3, vN, vS a7 vs.length a8] 26) :: (bX b1 #[vN, vN, vN] 26) :: (tM ++ (a4 ++ (eM ++ F))))) (s6 :) (.refl _) (fun T4 u3 R8 t6 z1 => ?_));obtain ⟨c0, n7, r3, p4, C5⟩ := z1;rw [r3, p4]; clear r3 p4;refine nm ?_;refine sp 1 [(13, vI ((n7)))] ?_;obtain ⟨a2, ha2, ha3⟩ : ∃ a2 : Nat, (n7) = ↑a2 ∧ a2 < 1 + b8 := by
    have hq := C5;simp only [List.mem_cons, List.not_mem_nil, or_false] at hq;exact ⟨((n7)).toNat, by omega, by omega⟩
   refine EE 13 rfl (show (vI ((n7)) : Value) = vI (↑a2) from congrArg (Value.int .i64) ha2) (se ?_);have z4 : j ≠ 0 → gAt cs j ≠ 0 → gAt cs j = gAt cs (j - 1) → a2 = aa := fun e1 e2 e3 => by
    exfalso
    have hh := o9;have e4 : ((↑j : Int) - 1).toNat = j - 1 := by omega
    unfold gAt at e2 e3;rw [e4] at hh;simp only [cmp_eql, cmp_neq, Bool.or_eq_true, decide_eq_true_eq, Bool.not_eq_true', decide_eq_false_iff_not] at hh;omega
   obtain ⟨c1, c3, i3, v0, u8⟩ := OwnEach.pull E8 (a2) (by omega);obtain ⟨C7, C8, g6, C9⟩ := i3.shape;rw [g6] at i3;refine rn_mem (M' := ((c1 ++ (c3 ++ (bX p #[.int .u64 (c0)] 95) :: (bX b3 #[vS a1 cs.length a3, vN, vS a7 vs.length a8] 26) :: (bX b1 #[vN, vN, vN] 26) :: (tM ++ (a4 ++ F)))))) (fun w h => ?_) ?_
   ·have h2 := h.perm (PU (PU (PU (PV (PO _ _ _)))));have h3 := St.permL (A' := c1 ++ c3) (A := eM) (by simpa only [AA, List.append_nil] using v0) (by simpa only [AA] using h2)
    simpa only [AA] using h3
   refine rn_mem (M' := ((bX p #[.int .u64 (c0)] 95) :: (bX b3 #[vS a1 cs.length a3, vN, vS a7 vs.length a8] 26) :: (bX b1 #[vN, vN, vN] 26) :: (c1 ++ (c3 ++ (tM ++ (a4 ++ F)))))) (fun w h => h.perm (((PA _ PM).trans PM).trans (PC _ (((PA _ PM).trans PM).trans (PC _ ((PA _ PM).trans PM)))))) ?_;have V3 := t8.tlen a2;refine rpm (M' := ((bX p #[.int .u64 (c0)] 95) :: (bX b3 #[vS a1 cs.length a3, vN, vS a7 vs.length a8] 26) :: (bX b1 #[vN, vN, vN] 26) :: (tM ++ (c1 ++ (c3 ++ (a4 ++ F)))))) (PC _ (PC _ (PC _ (PV (PO _ _ _))))) ?_;refine rd 11 [(0, true), (1, true), (2, true), (3, true), (4, true), (5, true), (6, true), (7, true), (8, true), (9, false), (10, false)] ((bX p #[.int .u64 (c0)] 95) :: (bX b3 #[vS a1 cs.length a3, vN, vS a7 vs.length a8] 26) :: (bX b1 #[vN, vN, vN] 26) :: tM) ((c1 ++ (c3 ++ (a4 ++ F)))) (ox 1 [(118, vP b3 2)] ?_);refine AC (dlb 119 1 2 b3 (vS a7 vs.length a8)) (ox 2 [(121, vP b3 2), (120, vI (↑a2))] ?_);refine AC (dlb 122 1 2 b3 (vS a7 vs.length a8)) (ox 1 [(123, vI (↑a2))] ?_);obtain ⟨P4, l9⟩ := n3.row undef;refine AC (di 124 1 (a2) l9.addr) ?_;refine AC (BN (dl 125 (l9.get (a2) (by omega) 0 (by decide) _ _ (fun x hx => by simp [hx]))) g6) (ox 1 [(126, vI (↑j))] ?_);refine BL (sbs 127 3 1 #[vI (↑j)] (fun e6 => ?_));refine AL (S' := ((bX e6 #[vI (↑j)] 3) :: (c1 ++ (c3 ++ (a4 ++ F))))) ((PS _ _ _).trans (PC _ ((PS _ _ _).trans (PC _ ((PS _ _ _).trans (PC _ (PM.symm))))))) ?_;refine BL (AO (d := 128) (x := (.tmp 125)) (y := (.tmp 127)) (T := 23) (T' := 23) (E := 3) (E' := 3) (sz := 1) (bs := 8) (z := vI (0)) (cell := BA) (xs := ts.getD (a2) []) (ys := [(↑j : Int)]) (Ms := c1) (ty := 23) (gd := none) (by kernel_rfl) rfl (by kernel_rfl) (by kernel_rfl) (by kernel_rfl) (by kernel_rfl) (by kernel_rfl) (by decide) (by kernel_rfl) rfl rfl (i3) (show List.Perm ((bX p #[.int .u64 (c0)] 95) :: (bX b3 #[vS a1 cs.length a3, vN, vS a7 vs.length a8] 26) :: (bX b1 #[vN, vN, vN] 26) :: (tM ++ (bX e6 #[vI (↑j)] 3) :: (c1 ++ (c3 ++ (a4 ++ F))))) ((c1 ++ (bX p #[.int .u64 (c0)] 95) :: (bX b3 #[vS a1 cs.length a3, vN, vS a7 vs.length a8] 26) :: (bX b1 #[vN, vN, vN] 26) :: (bX e6 #[vI (↑j)] 3) :: (tM ++ (c3 ++ (a4 ++ F))))) from ((PU (PU (PU (PV (PM.symm))))).trans (PA _ (PC _ (PC _ (PC _ PM)))))) (CI _) (CB 3 rfl rfl) (by first | omega | (simp only [LC, LN, LA, LK, LD]; omega)) (fun Y8 f9 q6 => ?_));refine AL (S' := ((bX e6 #[vI (↑j)] 3) :: (f9 ++ (c3 ++ (a4 ++ F))))) (PW (PW (PW ((PV (PM.symm)).trans (PA _ PM))))) ?_;obtain ⟨j8, l1, B5, Q8⟩ := q6.shape;subst B5;show OFP _ _ _ _ _ _ ((128, vS j8 ((ts.getD (a2) []) ++ ([(↑j : Int)])).length l1) :: _) _ _;refine DW (nm ?_);refine pm (M' := ((bX p #[.int .u64 (c0)] 95) :: (bX b3 #[vS a1 cs.length a3, vN, vS a7 vs.length a8] 26) :: (bX b1 #[vN, vN, vN] 26) :: (bX e6 #[vI (↑j)] 3) :: (tM ++ (f9 ++ (c3 ++ (a4 ++ F)))))) (PC _ (PC _ (PC _ PM))) ?_;obtain ⟨P5, m0⟩ := n3.row undef;refine sd (di 129 1 (a2) m0.addr) (sS (EK (T := 23) (x := (.tmp 129)) (y := (.tmp 128)) (rc := fun i f => AP ((vs).getD i undef) f) undef (a2) 0 ((vS j8 ((ts.getD (a2) []) ++ ([(↑j : Int)])).length l1 : Value)) (ty := 0) (gd := none) (by kernel_rfl) rfl n3 m0 (by omega) (by decide) rfl rfl (by kernel_rfl) rfl rfl (by intro f hf; match f, hf with | 0, _ => rfl) (PU (PU (PU (PM.symm)))) (fun g1 y5 => (pm (M' := ((bX p #[.int .u64 (c0)] 95) :: (bX b3 #[vS a1 cs.length a3, vN, vS a7 vs.length a8] 26) :: (bX b1 #[vN, vN, vN] 26) :: (bX e6 #[vI (↑j)] 3) :: (g1 ++ (f9 ++ (c3 ++ (a4 ++ F)))))) (PW (PW (PW PM))) ?_))));obtain ⟨g4, t0, v1⟩ := u8 _ _ _ q6;refine AN (I' := u3) (M' := ((g4 ++ (bX p #[.int .u64 (c0)] 95) :: (bX b3 #[vS a1 cs.length a3, vN, vS a7 vs.length a8] 26) :: (bX b1 #[vN, vN, vN] 26) :: (bX e6 #[vI (↑j)] 3) :: (g1 ++ (a4 ++ F))))) (fun w h => ?_) ?_
   ·have h2 := h.perm ((PU (PU (PU (PU (PO _ _ _))))).trans (PA _ (PU (PU (PU (PU (PO _ _ _)))))));simp only [← AA] at h2;have h3 := St.permL (A' := g4) (A := f9 ++ c3) (by simpa only [AA, List.append_nil] using v1.symm) (by simpa only [AA] using h2)
    simpa only [AA] using h3
   refine pm (M' := ((bX p #[.int .u64 (c0)] 95) :: (bX b3 #[vS a1 cs.length a3, vN, vS a7 vs.length a8] 26) :: (bX b1 #[vN, vN, vN] 26) :: (bX e6 #[vI (↑j)] 3) :: (g4 ++ (g1 ++ (a4 ++ F))))) (PW (PW (PW PM))) (ee (NB (NX (rr (sp 1 [(80, vI (↑j))] (sd (da 81 (↑j) (1)) (sp 1 [(14, vI (↑j + 1))] (ee ?_))))))));refine AH (e0 - (j+1)) (by omega) ?_;intro a w hS hD hW;exact ⟨u3, j+1, a2, ts.set (a2) ((ts.getD (a2) []) ++ ([(↑j : Int)])), (vS a7 vs.length a8), vs.set (a2) ((vS j8 ((ts.getD (a2) []) ++ ([(↑j : Int)])).length l1 : Value)), g1, g4, c0, (IT (IT (IT hJ1 t4) t5) t6), by omega, (t8.put (by omega) (fun e1 e2 e3 => z4 e1 e2 e3)), y5, t0, hS.sub (.consE 13 rfl rfl (.consE 14 rfl rfl (.cons 0 rfl (.cons 6 rfl (.cons 7 rfl (.cons 8 rfl (.nil _))))))), hD, (hW.perm (((PC _ ((PC _ (PS _ _ _)).trans (PS _ _ _))).trans (PS _ _ _)).trans (PC _ (PC _ (PC _ (PC _ ((PO _ _ _).trans (PA _ (PO _ _ _))))))))).sub (TC _ (TR _)), rfl⟩
  have o9 := E7;obtain ⟨o8, v5⟩ := or_f E7;have o8 := EA o8;obtain ⟨h0, i0⟩ := or_f v5;have h0 := EA h0;have i0 := EH (CM i0);refine AM (NX ?_);obtain ⟨c2, c4, i4, v2, u9⟩ := OwnEach.pull E8 (aa) (by omega);obtain ⟨D0, D1, g7, D2⟩ := i4.shape;rw [g7] at i4;refine rn_mem (M' := ((c2 ++ (c4 ++ (bX p #[.int .u64 (e8)] 95) :: (bX b3 #[vS a1 cs.length a3, vN, vS a7 vs.length a8] 26) :: (bX b1 #[vN, vN, vN] 26) :: (tM ++ (a4 ++ F)))))) (fun w h => ?_) ?_
  ·have h2 := h.perm (PU (PU (PU (PV (PO _ _ _)))));have h3 := St.permL (A' := c2 ++ c4) (A := eM) (by simpa only [AA, List.append_nil] using v2) (by simpa only [AA] using h2)
   simpa only [AA] using h3
  refine rn_mem (M' := ((bX p #[.int .u64 (e8)] 95) :: (bX b3 #[vS a1 cs.length a3, vN, vS a7 vs.length a8] 26) :: (bX b1 #[vN, vN, vN] 26) :: (c2 ++ (c4 ++ (tM ++ (a4 ++ F)))))) (fun w h => h.perm (((PA _ PM).trans PM).trans (PC _ (((PA _ PM).trans PM).trans (PC _ ((PA _ PM).trans PM)))))) ?_;have V3 := t8.tlen aa;refine rpm (M' := ((bX p #[.int .u64 (e8)] 95) :: (bX b3 #[vS a1 cs.length a3, vN, vS a7 vs.length a8] 26) :: (bX b1 #[vN, vN, vN] 26) :: (tM ++ (c2 ++ (c4 ++ (a4 ++ F)))))) (PC _ (PC _ (PC _ (PV (PO _ _ _))))) ?_;refine rd 11 [(0, true), (1, true), (2, true), (3, true), (4, true), (5, true), (6, true), (7, true), (8, true), (9, false), (10, false)] ((bX p #[.int .u64 (e8)] 95) :: (bX b3 #[vS a1 cs.length a3, vN, vS a7 vs.length a8] 26) :: (bX b1 #[vN, vN, vN] 26) :: tM) ((c2 ++ (c4 ++ (a4 ++ F)))) (ox 1 [(118, vP b3 2)] ?_);refine AC (dlb 119 1 2 b3 (vS a7 vs.length a8)) (ox 2 [(121, vP b3 2), (120, vI (↑aa))] ?_);refine AC (dlb 122 1 2 b3 (vS a7 vs.length a8)) (ox 1 [(123, vI (↑aa))] ?_);obtain ⟨P6, m1⟩ := n3.row undef;refine AC (di 124 1 (aa) m1.addr) ?_;refine AC (BN (dl 125 (m1.get (aa) (by omega) 0 (by decide) _ _ (fun x hx => by simp [hx]))) g7) (ox 1 [(126, vI (↑j))] ?_);refine BL (sbs 127 3 1 #[vI (↑j)] (fun e7 => ?_));refine AL (S' := ((bX e7 #[vI (↑j)] 3) :: (c2 ++ (c4 ++ (a4 ++ F))))) ((PS _ _ _).trans (PC _ ((PS _ _ _).trans (PC _ ((PS _ _ _).trans (PC _ (PM.symm))))))) ?_;refine BL (AO (d := 128) (x := (.tmp 125)) (y := (.tmp 127)) (T := 23) (T' := 23) (E := 3) (E' := 3) (sz := 1) (bs := 8) (z := vI (0)) (cell := BA) (xs := ts.getD (aa) []) (ys := [(↑j : Int)]) (Ms := c2) (ty := 23) (gd := none) (by kernel_rfl) rfl (by kernel_rfl) (by kernel_rfl) (by kernel_rfl) (by kernel_rfl) (by kernel_rfl) (by decide) (by kernel_rfl) rfl rfl (i4) (show List.Perm ((bX p #[.int .u64 (e8)] 95) :: (bX b3 #[vS a1 cs.length a3, vN, vS a7 vs.length a8] 26) :: (bX b1 #[vN, vN, vN] 26) :: (tM ++ (bX e7 #[vI (↑j)] 3) :: (c2 ++ (c4 ++ (a4 ++ F))))) ((c2 ++ (bX p #[.int .u64 (e8)] 95) :: (bX b3 #[vS a1 cs.length a3, vN, vS a7 vs.length a8] 26) :: (bX b1 #[vN, vN, vN] 26) :: (bX e7 #[vI (↑j)] 3) :: (tM ++ (c4 ++ (a4 ++ F))))) from ((PU (PU (PU (PV (PM.symm))))).trans (PA _ (PC _ (PC _ (PC _ PM)))))) (CI _) (CB 3 rfl rfl) (by first | omega | (simp only [LC, LN, LA, LK, LD]; omega)) (fun Y9 g2 q7 => ?_));refine AL (S' := ((bX e7 #[vI (↑j)] 3) :: (g2 ++ (c4 ++ (a4 ++ F))))) (PW (PW (PW ((PV (PM.symm)).trans (PA _ PM))))) ?_;obtain ⟨j9, l3, B6, Q9⟩ := q7.shape;subst B6;show OFP _ _ _ _ _ _ ((128, vS j9 ((ts.getD (aa) []) ++ ([(↑j : Int)])).length l3) :: _) _ _;refine DW (nm ?_);refine pm (M' := ((bX p #[.int .u64 (e8)] 95) :: (bX b3 #[vS a1 cs.length a3, vN, vS a7 vs.length a8] 26) :: (bX b1 #[vN, vN, vN] 26) :: (bX e7 #[vI (↑j)] 3) :: (tM ++ (g2 ++ (c4 ++ (a4 ++ F)))))) (PC _ (PC _ (PC _ PM))) ?_;obtain ⟨P7, m2⟩ := n3.row undef;refine sd (di 129 1 (aa) m2.addr) (sS (EK (T := 23) (x := (.tmp 129)) (y := (.tmp 128)) (rc := fun i f => AP ((vs).getD i undef) f) undef (aa) 0 ((vS j9 ((ts.getD (aa) []) ++ ([(↑j : Int)])).length l3 : Value)) (ty := 0) (gd := none) (by kernel_rfl) rfl n3 m2 (by omega) (by decide) rfl rfl (by kernel_rfl) rfl rfl (by intro f hf; match f, hf with | 0, _ => rfl) (PU (PU (PU (PM.symm)))) (fun g3 y6 => (pm (M' := ((bX p #[.int .u64 (e8)] 95) :: (bX b3 #[vS a1 cs.length a3, vN, vS a7 vs.length a8] 26) :: (bX b1 #[vN, vN, vN] 26) :: (bX e7 #[vI (↑j)] 3) :: (g3 ++ (g2 ++ (c4 ++ (a4 ++ F)))))) (PW (PW (PW PM))) ?_))));obtain ⟨g5, t1, v3⟩ := u9 _ _ _ q7;refine AN (I' := J1) (M' := ((g5 ++ (bX p #[.int .u64 (e8)] 95) :: (bX b3 #[vS a1 cs.length a3, vN, vS a7 vs.length a8] 26) :: (bX b1 #[vN, vN, vN] 26) :: (bX e7 #[vI (↑j)] 3) :: (g3 ++ (a4 ++ F))))) (fun w h => ?_) ?_
  ·have h2 := h.perm ((PU (PU (PU (PU (PO _ _ _))))).trans (PA _ (PU (PU (PU (PU (PO _ _ _)))))));simp only [← AA] at h2;have h3 := St.permL (A' := g5) (A := g2 ++ c4) (by simpa only [AA, List.append_nil] using v3.symm) (by simpa only [AA] using h2)
   simpa only [AA] using h3
  refine pm (M' := ((bX p #[.int .u64 (e8)] 95) :: (bX b3 #[vS a1 cs.length a3, vN, vS a7 vs.length a8] 26) :: (bX b1 #[vN, vN, vN] 26) :: (bX e7 #[vI (↑j)] 3) :: (g5 ++ (g3 ++ (a4 ++ F))))) (PW (PW (PW PM))) (ee (NB (NX (rr (sp 1 [(80, vI (↑j))] (sd (da 81 (↑j) (1)) (sp 1 [(14, vI (↑j + 1))] (ee ?_))))))));refine AH (e0 - (j+1)) (by omega) ?_;intro a w hS hD hW;exact ⟨J1, j+1, aa, ts.set (aa) ((ts.getD (aa) []) ++ ([(↑j : Int)])), (vS a7 vs.length a8), vs.set (aa) ((vS j9 ((ts.getD (aa) []) ++ ([(↑j : Int)])).length l3 : Value)), g3, g5, e8, hJ1, by omega, (t8.put (by omega) (fun _ _ _ => rfl)), y6, t1, hS.sub (.consE 13 rfl rfl (.consE 14 rfl rfl (.cons 0 rfl (.cons 6 rfl (.cons 7 rfl (.cons 8 rfl (.nil _))))))), hD, (hW.perm (((PC _ ((PC _ (PS _ _ _)).trans (PS _ _ _))).trans (PS _ _ _)).trans (PC _ (PC _ (PC _ (PC _ ((PO _ _ _).trans (PA _ (PO _ _ _))))))))).sub (TC _ (TR _)), rfl⟩
 have K2 := h9;have h9 := CP h9;refine CK 2 ((EP (EP (EB (NX (rq (rq ?_)))))));have V4 : j = cs.length := by omega
 have t9 : Placed cs (1 + b8) cs.length aa ts := V4 ▸ t8;have V6 := t9.okAll;have P2 := t9.tl;refine MI (B := ((bX p #[.int .u64 (e8)] 95) :: (bX b3 #[vS a1 cs.length a3, vN, vS a7 vs.length a8] 26) :: (bX b1 #[vN, vN, vN] 26) :: (tM ++ (a4 ++ F)))) E8 (by intro xs hx; have := P2 xs hx; omega) (PU (PU (PU (PV (PO _ _ _))))) (PR _) (fun u4 t7 b9 => ?_);have f4 := b9.1
 try simp only [LS, LA, LC, LN, LK] at f4
 refine rr (sp 1 [(15, vI (0))] (se (rb 4 ?_)));refine rl (fun mz a w => ∃ J2 : Imm, ∃ t : Nat, ∃ rm : List Int, ∃ u7 : Int, ∃ d8 : Value, ∃ b7 : Seg, (u4.le J2) ∧ (t ≤ 1 + b8) ∧ (Sh.Roomy cs ts t rm) ∧ (Own 3 1 BA d8 (rm) b7) ∧ Slots 179 [(15, vI ↑t), (0, vP p 0), (6, vP b1 0), (7, vP b3 0)] a ∧ a.defers = [] ∧ St J2 ((bX p #[.int .u64 (u7)] 95) :: (bX b3 #[vS a1 cs.length a3, d8, vS a7 vs.length a8] 26) :: (bX b1 #[vN, vN, vN] 26) :: (tM ++ (a4 ++ (b7 ++ F)))) w ∧ mz = 1 + b8 - t) ?_ ?_
 ·intro a w hS hD hW;exact ⟨_, u4, 0, [], e8, (vN), [], IR _, Nat.zero_le _, Sh.Roomy.nil _ _, (Own.nil _ _ _), hS.sub (.cons 15 rfl (.cons 0 rfl (.cons 6 rfl (.cons 7 rfl (.nil _))))), hD, hW, rfl⟩
 rintro mz a w ⟨J2, t, rm, u7, d8, b7, hJ2, ht, E9, c7, hS, hD, hW, rfl⟩
 refine BJ hS hD hW ?_;clear hS hD hW a w;replace b9 := b9.mono hJ2;obtain ⟨a5, a6, f6, u1⟩ := c7.shape; subst f6;have hrl := E9.len;refine rq (rqr (sp 2 [(131, vP b3 2), (130, vI (↑t))] (sd (dlb 132 1 2 b3 (vS a7 vs.length a8)) (sp 2 [(134, .bool (cmp .lss (↑t) (↑(vs.length))))] (se (rc 134 rfl (fun s0 => ?_) (fun s0 => ?_)))))))
 ·
  have v6 := s0;have s0 := CQ s0;refine AM (NX (rq (rb 5 (rqr (sp 1 [(137, vP p 0)] ?_)))));have s7 := Up_ct J2 (p) (u7) (5) (by omega);refine sS (sc (some 138) (F := ((bX b3 #[vS a1 cs.length a3, vS a5 rm.length a6, vS a7 vs.length a8] 26) :: (bX b1 #[vN, vN, vN] 26) :: (tM ++ (a4 ++ (b7 ++ F))))) (s7 :) (.refl _) (fun T5 u5 R9 f3 z2 => ?_));obtain ⟨c9, A2, r4, p5, R4⟩ := z2;rw [r4, p5]; clear r4 p5;replace b9 := b9.mono f3;refine nm ?_;refine sp 1 [(16, vI (↑A2))] (se (rq (rq ?_)));have htk := P2 _ (AJ (d := []) (xs := ts) (k := t) (by omega));have V8 := V6.at t (by omega);refine rr (sp 1 [(17, vI (0))] (se (rb 6 ?_)));refine rl (fun mz a w => ∃ i : Nat, ∃ l2 : Int, (i ≤ (ts.getD (t) []).length) ∧ (lenOf cs ((ts.getD (t) []).take i) ≤ l2) ∧ (0 ≤ l2 ∧ l2 ≤ 5 + 3 * i) ∧ Slots 179 [(16, vI l2), (17, vI ↑i), (0, vP p 0), (6, vP b1 0), (7, vP b3 0), (15, vI (↑t))] a ∧ a.defers = [] ∧ St u5 ((bX p #[.int .u64 (c9)] 95) :: (bX b3 #[vS a1 cs.length a3, vS a5 rm.length a6, vS a7 vs.length a8] 26) :: (bX b1 #[vN, vN, vN] 26) :: (tM ++ (a4 ++ (b7 ++ F)))) w ∧ mz = (ts.getD (t) []).length - i) ?_ ?_
  ·intro a w hS hD hW;exact ⟨_, 0, ↑A2, Nat.zero_le _, (by rw [List.take_zero, lenOf_nil]; omega), (by omega), hS.sub (.cons 16 rfl (.cons 17 rfl (.cons 0 rfl (.cons 6 rfl (.cons 7 rfl (.cons 15 rfl (.nil _))))))), hD, hW, rfl⟩
  rintro mz a w ⟨i, l2, hi, P0, Z9, hS, hD, hW, rfl⟩
  refine BJ hS hD hW ?_;clear hS hD hW a w;refine rq (rqr (sp 2 [(140, vP b3 2), (139, vI (↑i))] (sd (dlb 141 1 2 b3 (vS a7 vs.length a8)) (sp 1 [(142, vI (↑t))] ?_))));obtain ⟨P8, m3⟩ := n3.row undef;refine sd (di 143 1 (t) m3.addr) ?_;have m9 := b9.2 (t) (by omega);obtain ⟨M5, M7, M6, O0, m8, M8, M9, O1⟩ := id m9;rw [m8] at m9;refine sd (BN (dl 144 (m3.get (t) (by omega) 0 (by decide) _ _ (fun x hx => by simp [hx]))) m8) (sp 2 [(146, .bool (cmp .lss (↑i) (↑((ts.getD (t) []).length))))] (se (rc 146 rfl (fun s1 => ?_) (fun s1 => ?_))))
  ·
   have v7 := s1;have s1 := CQ s1;refine AM (NX (rq (rb 7 ?_)));have Z3 := V8.at i (by omega);have Z4 := carAt_len d9 ((ts.getD (t) []).getD i 0);have Z5 : (FE cs ((ts.getD (t) []).getD i 0)).len = (cs.getD ((ts.getD (t) []).getD (i) 0).toNat AB).len := rfl;refine rd0 14 (ox 2 [(150, vP b3 0), (149, vI (l2))] ?_);refine AC (dlb 151 1 0 b3 (vS a1 cs.length a3)) (ox 1 [(152, vP b3 2)] ?_);refine AC (dlb 153 1 2 b3 (vS a7 vs.length a8)) (ox 1 [(154, vI (↑t))] ?_);obtain ⟨P9, m4⟩ := n3.row undef;refine AC (di 155 1 (t) m4.addr) ?_;have n1 := b9.2 (t) (by omega);obtain ⟨O2, O4, O3, O7, n0, O5, O6, n2⟩ := id n1;rw [n0] at n1;refine AC (BN (dl 156 (m4.get (t) (by omega) 0 (by decide) _ _ (fun x hx => by simp [hx]))) n0) (ox 1 [(157, vI (↑i))] ?_);refine AC (di 158 1 (i) n2.addr) ?_;refine AC (dl 159 (BS n2 (i) (by omega))) ?_;obtain ⟨A6, m5⟩ := a9.row AB;refine AC (diI 160 6 ((ts.getD (t) []).getD (i) 0) m5.addr) (ox 1 [(161, .pointer (some ⟨A6, 0 + (((ts.getD (t) []).getD (i) 0 : Int).toNat) * 6, none⟩))] ?_);refine AC (dl 162 (m5.get (((ts.getD (t) []).getD (i) 0 : Int).toNat) (by omega) 0 (by decide) _ _ (fun x hx => by simp [hx]))) ?_;refine BX (sd (da 163 (l2) ((cs.getD (((ts.getD (t) []).getD (i) 0 : Int).toNat) AB).len)) (sp 1 [(16, vI (l2 + ((cs.getD (((ts.getD (t) []).getD (i) 0 : Int).toNat) AB).len)))] (ee (NB (NX (rr (sp 1 [(147, vI (↑i))] (sd (da 148 (↑i) (1)) (sp 1 [(17, vI (↑i + 1))] (ee ?_))))))))));refine AH ((ts.getD (t) []).length - (i+1)) (by omega) ?_;intro a w hS hD hW;exact ⟨i+1, l2 + ((cs.getD (((ts.getD (t) []).getD (i) 0 : Int).toNat) AB).len), by omega, (by rw [lenOf_succ (by omega)]; omega), (by omega), hS.sub (.consE 16 rfl rfl (.consE 17 rfl rfl (.cons 0 rfl (.cons 6 rfl (.cons 7 rfl (.cons 15 rfl (.nil _))))))), hD, hW, rfl⟩
  have v7 := s1;have s1 := CP s1;refine CK 6 ((EP (EP (EB (NX (rq (rqr (sp 2 [(165, .bool (cmp .eql (↑t) (0)))] (se (rc 165 rfl (fun s2 => ?_) (fun s2 => ?_)))))))))))
  ·
   have v8 := s2;have s2 := EH s2;refine rr (sp 2 [(167, vP p 0), (166, vI (l2))] (sS (sbs 168 3 2 #[vI (0), vI (9)] (fun r8 => (pm (M' := ((bX p #[.int .u64 (c9)] 95) :: (bX b3 #[vS a1 cs.length a3, vS a5 rm.length a6, vS a7 vs.length a8] 26) :: (bX b1 #[vN, vN, vN] 26) :: ([(bX r8 #[vI (0), vI (9)] 3)] ++ (tM ++ (a4 ++ (b7 ++ F)))))) ((PS _ _ _).trans (PC _ ((PS _ _ _).trans (PC _ (PS _ _ _))))) ?_)))));have y7 : Own 3 1 BA (vS (some ⟨r8, 0, none⟩) 2 2) ([(0 : Int), (9 : Int)] : List Int) [(bX r8 #[vI (0), vI (9)] 3)] := Own.lit rfl rfl;refine sfz (A := ((bX p #[.int .u64 (c9)] 95) :: (bX b3 #[vS a1 cs.length a3, vS a5 rm.length a6, vS a7 vs.length a8] 26) :: (bX b1 #[vN, vN, vN] 26) :: (tM ++ (a4 ++ (b7 ++ F))))) 0 y7 (PU (PU (PM.symm))) (fun G2 i8 g9 => ?_);replace b9 := b9.mono i8;obtain ⟨E0, E2, E1, E5, n5, E3, E4, E6⟩ := id g9;cases n5;have s8 := One_ct G2 (p) (c9) _ _ g9 (by simp);refine sS (sc (some 169) (F := ((bX b3 #[vS a1 cs.length a3, vS a5 rm.length a6, vS a7 vs.length a8] 26) :: (bX b1 #[vN, vN, vN] 26) :: (tM ++ (a4 ++ (b7 ++ F))))) (s8 :) (.refl _) (fun T6 G3 T0 i9 z3 => ?_));obtain ⟨m7, c5, r5, p6, C6⟩ := z3;rw [r5, p6]; clear r5 p6;replace b9 := b9.mono i9;refine nm ?_;have hl9 : 0 ≤ (c5) ∧ (c5) ≤ 9 := by
    have hq := C6;simp only [List.mem_cons, List.not_mem_nil, or_false] at hq;omega
   refine sd (da 170 (l2) ((c5))) (sp 1 [(16, vI (l2 + ((c5))))] (se ?_));have V5 : lenOf cs (ts.getD (t) []) ≤ l2 := by have hq := P0; rw [EZ (by omega)] at hq; exact hq
   have K3 := lenOf_3 d9 (ts.getD (t) []);refine rr (sp 1 [(171, vP b3 1)] (sd (dlb 172 1 1 b3 (vS a5 rm.length a6)) (sp 2 [(174, vI ((if (l2 + ((c5)) : Int) < (20 : Int) then l2 + ((c5)) else 20)))] (sS (sbs 175 3 1 #[vI ((if (l2 + ((c5)) : Int) < (20 : Int) then l2 + ((c5)) else 20))] (fun V1 => (sS (AO (d := 176) (x := (.tmp 172)) (y := (.tmp 175)) (T := 23) (T' := 23) (E := 3) (E' := 3) (sz := 1) (bs := 8) (z := vI (0)) (cell := BA) (xs := rm) (ys := [((if (l2 + ((c5)) : Int) < (20 : Int) then l2 + ((c5)) else 20) : Int)]) (Ms := b7) (ty := 23) (gd := none) (by kernel_rfl) rfl (by kernel_rfl) (by kernel_rfl) (by kernel_rfl) (by kernel_rfl) (by kernel_rfl) (by decide) (by kernel_rfl) rfl rfl (c7) (PU (PU (PU (PU (PV (PO _ _ _)))))) (CI _) (CB 0 rfl rfl) (by first | omega | (simp only [LC, LN, LA, LK, LD]; omega)) (fun Z0 o6 q8 => (AN (M' := ((bX p #[.int .u64 (m7)] 95) :: (bX b3 #[vS a1 cs.length a3, vS a5 rm.length a6, vS a7 vs.length a8] 26) :: (bX b1 #[vN, vN, vN] 26) :: (o6 ++ (tM ++ (a4 ++ F))))) (fun w h => (h.perm (PW (PW (PW PM)))).sub (TC _ (TR _))) ?_))))))))));obtain ⟨k0, l4, B7, R0⟩ := q8.shape;subst B7;refine sp 1 [(177, vP b3 1)] (sS (ss 1 1 b3 [vS k0 (rm ++ ([((if (l2 + ((c5)) : Int) < (20 : Int) then l2 + ((c5)) else 20) : Int)])).length l4] [vS a1 cs.length a3, vS k0 (rm ++ ([((if (l2 + ((c5)) : Int) < (20 : Int) then l2 + ((c5)) else 20) : Int)])).length l4, vS a7 vs.length a8] (_ :: _ :: _ :: _) (cs := [_, _, _]) rfl rfl (ee (NB (NX (rr (sp 1 [(135, vI (↑t))] (sd (da 136 (↑t) (1)) (sp 1 [(15, vI (↑t + 1))] (ee ?_))))))))));refine AH (1 + b8 - (t+1)) (by omega) ?_;intro a w hS hD hW;exact ⟨G3, t+1, rm ++ ([((if (l2 + ((c5)) : Int) < (20 : Int) then l2 + ((c5)) else 20) : Int)]), m7, vS k0 (rm ++ ([((if (l2 + ((c5)) : Int) < (20 : Int) then l2 + ((c5)) else 20) : Int)])).length l4, o6, (IT (IT (IT hJ2 f3) i8) i9), by omega, E9.snoc (by split <;> omega) (by split <;> omega), q8, hS.sub (.consE 15 rfl rfl (.cons 0 rfl (.cons 6 rfl (.cons 7 rfl (.nil _))))), hD, hW.perm (PC _ (PC _ (PC _ ((PO _ _ _).trans (PA _ (PO _ _ _)))))), rfl⟩
  have v8 := s2;have s2 := EA s2;refine AM (NX ?_);have V5 : lenOf cs (ts.getD (t) []) ≤ l2 := by have hq := P0; rw [EZ (by omega)] at hq; exact hq
  have K3 := lenOf_3 d9 (ts.getD (t) []);refine rr (sp 1 [(171, vP b3 1)] (sd (dlb 172 1 1 b3 (vS a5 rm.length a6)) (sp 2 [(174, vI ((if (l2 : Int) < (20 : Int) then l2 else 20)))] (sS (sbs 175 3 1 #[vI ((if (l2 : Int) < (20 : Int) then l2 else 20))] (fun V2 => (sS (AO (d := 176) (x := (.tmp 172)) (y := (.tmp 175)) (T := 23) (T' := 23) (E := 3) (E' := 3) (sz := 1) (bs := 8) (z := vI (0)) (cell := BA) (xs := rm) (ys := [((if (l2 : Int) < (20 : Int) then l2 else 20) : Int)]) (Ms := b7) (ty := 23) (gd := none) (by kernel_rfl) rfl (by kernel_rfl) (by kernel_rfl) (by kernel_rfl) (by kernel_rfl) (by kernel_rfl) (by decide) (by kernel_rfl) rfl rfl (c7) (PU (PU (PU (PU (PV (PO _ _ _)))))) (CI _) (CB 0 rfl rfl) (by first | omega | (simp only [LC, LN, LA, LK, LD]; omega)) (fun Z1 o7 q9 => (AN (M' := ((bX p #[.int .u64 (c9)] 95) :: (bX b3 #[vS a1 cs.length a3, vS a5 rm.length a6, vS a7 vs.length a8] 26) :: (bX b1 #[vN, vN, vN] 26) :: (o7 ++ (tM ++ (a4 ++ F))))) (fun w h => (h.perm (PW (PW (PW PM)))).sub (TC _ (TR _))) ?_))))))))));obtain ⟨k1, l5, B8, R1⟩ := q9.shape;subst B8;refine sp 1 [(177, vP b3 1)] (sS (ss 1 1 b3 [vS k1 (rm ++ ([((if (l2 : Int) < (20 : Int) then l2 else 20) : Int)])).length l5] [vS a1 cs.length a3, vS k1 (rm ++ ([((if (l2 : Int) < (20 : Int) then l2 else 20) : Int)])).length l5, vS a7 vs.length a8] (_ :: _ :: _ :: _) (cs := [_, _, _]) rfl rfl (ee (NB (NX (rr (sp 1 [(135, vI (↑t))] (sd (da 136 (↑t) (1)) (sp 1 [(15, vI (↑t + 1))] (ee ?_))))))))));refine AH (1 + b8 - (t+1)) (by omega) ?_;intro a w hS hD hW;exact ⟨u5, t+1, rm ++ ([((if (l2 : Int) < (20 : Int) then l2 else 20) : Int)]), c9, vS k1 (rm ++ ([((if (l2 : Int) < (20 : Int) then l2 else 20) : Int)])).length l5, o7, (IT hJ2 f3), by omega, E9.snoc (by split <;> omega) (by split <;> omega), q9, hS.sub (.consE 15 rfl rfl (.cons 0 rfl (.cons 6 rfl (.cons 7 rfl (.nil _))))), hD, hW.perm (PC _ (PC _ (PC _ ((PO _ _ _).trans (PA _ (PO _ _ _)))))), rfl⟩
 have v6 := s0;have s0 := CP s0;refine CK 4 ((EP (EP (EB (NX (rqr (sd (dnb 178 1 0 b3 [vS a1 cs.length a3, vS a5 rm.length a6, vS a7 vs.length a8]) (sS (ss 2 0 b1 [vS a1 cs.length a3, vS a5 rm.length a6, vS a7 vs.length a8] [vS a1 cs.length a3, vS a5 rm.length a6, vS a7 vs.length a8] (_ :: _ :: _ :: _) (cs := [_, _, _]) rfl rfl (se (BT (ppm (M' := ((bX p #[.int .u64 (u7)] 95) :: (a4 ++ (b7 ++ (tM ++ (bX b3 #[vS a1 cs.length a3, vS a5 rm.length a6, vS a7 vs.length a8] 26) :: (bX b1 #[vS a1 cs.length a3, vS a5 rm.length a6, vS a7 vs.length a8] 26) :: F))))) (PC _ ((PU (PU (PO _ _ _))).trans (PA _ ((PU (PU (PO _ _ _))).trans (PA _ (PU (PM.symm))))))) (IL (t := 6) (T := 26) (n := 3) ([(bX p #[.int .u64 (u7)] 95)] ++ (a4 ++ (b7 ++ (tM)))) (by kernel_rfl) rfl (by kernel_rfl) rfl (BM (n := 3) (cs := #[vS a1 cs.length a3, vS a5 rm.length a6, vS a7 vs.length a8]) (b := b1) (off := 0) (T := 26) (fz := (0, 0)) (vs := [vS a1 cs.length a3, vS a5 rm.length a6, vS a7 vs.length a8]) (by simp) rfl) (.inl ⟨by kernel_rfl, rfl⟩) (by simp only [AA, NA, CA]; exact (TK _ (TA (TA (TA (TC _ (TC _ (TR _))) _) _) _))) (IT (IT (IT (IT (IT K4 hJ0) t3) hJ1) t7) hJ2) ?_)))))))))))));exact ⟨_, ⟨cs, rm, ts⟩, _, _, _, _, _, _, _, rfl, rfl, drawn_valid d9 t9 ((show t = 1 + b8 by omega) ▸ E9) (by omega) (by omega), (by show cs.length ≤ c; omega), a9, c7, n3, b9⟩
end Go.Proofs.YtcaocbhbofejnaaGreatDoor
namespace Go.Sh
open Go Go.Sl
theorem perm_sum {l m : List Int} (h : l.Perm m) : l.sum = m.sum := by
  induction h with
  | nil => rfl
  | cons x _ ih => simp [ih]
  | swap x y l => simp only [List.sum_cons]; omega
  | trans _ _ h1 h2 => exact h1.trans h2
theorem erase_perm {α : Type} {d : α} {l : List α} {i : Nat} (h : i < l.length) : (l.getD i d :: l.eraseIdx i).Perm l := by
  have e : l = l.take i ++ l.getD i d :: l.drop (i + 1) := by rw [← BK h, List.take_append_drop]
  rw [← erase_take];exact (List.perm_middle.symm).trans (List.Perm.of_eq e.symm)
structure Blk (cs : List Car) (bl : List (List Int)) : Prop where
  one : ∀ b ∈ bl, ∀ x ∈ b, ∀ y ∈ b, grp cs x = grp cs y
  apart : bl.Pairwise fun b c => ∀ x ∈ b, ∀ y ∈ c, 0 < grp cs x → grp cs x ≠ grp cs y
theorem Blk.perm {cs : List Car} {bl bl' : List (List Int)} (h : Blk cs bl) (p : bl.Perm bl') : Blk cs bl' :=
  ⟨fun b hb => h.one b (p.mem_iff.2 hb), (p.pairwise_iff (fun {b c} hbc x hx y hy h0 e => hbc y hy x hx (by omega) e.symm)).1 h.apart⟩
def RowOk (cs : List Car) (t : List Int) : Prop := ∀ k, k < t.length → 0 < grp cs (t.getD k 0) → (∃ c ∈ t.take k, grp cs c = grp cs (t.getD k 0)) → 0 < k ∧ grp cs (t.getD (k - 1) 0) = grp cs (t.getD k 0)
theorem OW {a b : List Int} {k : Nat} : (a ++ b).getD k 0 = if k < a.length then a.getD k 0 else b.getD (k - a.length) 0 := by
  simp only [List.getD]
  split
  · rename_i h; rw [List.getElem?_append_left h]
  · rename_i h; rw [List.getElem?_append_right (by omega)]
theorem Blk.row {cs : List Car} : ∀ {bl : List (List Int)}, Blk cs bl → RowOk cs bl.flatten := by
  intro bl
  induction bl with
  | nil => intro _ k hk; simp at hk
  | cons b r ih =>
    intro h k hk h0 hc;have ih := ih ⟨fun b hb => h.one b (List.mem_cons_of_mem _ hb), (List.pairwise_cons.1 h.apart).2⟩;rw [List.flatten_cons] at hk h0 hc ⊢;obtain ⟨c, hc, e⟩ := hc
    by_cases hkb : k < b.length
    · have e0 : (b ++ r.flatten).getD k 0 = b.getD k 0 := by rw [OW, if_pos hkb]
      rw [List.take_append_of_le_length (by omega)] at hc;have hk0 : 0 < k := by
        rcases Nat.eq_zero_or_pos k with hz | hz
        · subst hz; simp at hc
        · exact hz
      refine ⟨hk0, ?_⟩;rw [e0, OW, if_pos (by omega)];exact h.one b List.mem_cons_self _ (AJ (by omega)) _ (AJ hkb)
    · have e0 : (b ++ r.flatten).getD k 0 = r.flatten.getD (k - b.length) 0 := by rw [OW, if_neg hkb]
      rw [e0] at h0 e ⊢;have hk2 : k - b.length < r.flatten.length := by rw [List.length_append] at hk; omega
      have hmem : r.flatten.getD (k - b.length) 0 ∈ r.flatten := AJ hk2;rw [List.take_append, List.take_of_length_le (by omega)] at hc;rcases List.mem_append.1 hc with hc | hc
      · exfalso
        obtain ⟨b2, hb2, hm2⟩ := List.mem_flatten.1 hmem;exact (List.pairwise_cons.1 h.apart).1 b2 hb2 c hc _ hm2 (by omega) e
      · obtain ⟨i1, i2⟩ := ih (k - b.length) hk2 h0 ⟨c, hc, e⟩
        refine ⟨by omega, ?_⟩;rw [OW, if_neg (by omega), show k - 1 - b.length = k - b.length - 1 by omega];exact i2
theorem MS {cs : List Car} {t : List Int} {k : Nat} (hk : k < t.length) (h0 : 0 < grp cs (t.getD k 0)) (h1 : 0 < k) (e : grp cs (t.getD (k - 1) 0) = grp cs (t.getD k 0)) : BR cs t ↑k = true := by
  rw [coupled_raw hk, show ((k : Int) - 1).toNat = k - 1 by omega, decide_eq_true (show 0 < (k : Int) by omega), decide_eq_true (show 0 < (FE cs (t.getD k 0)).grp from h0), decide_eq_true (show (FE cs (t.getD k 0)).grp = (FE cs (t.getD (k - 1) 0)).grp from e.symm)];rfl
theorem coupled_to {cs : List Car} {t : List Int} {k : Nat} (hk : k < t.length) (h : BR cs t ↑k = true) : 0 < k ∧ 0 < grp cs (t.getD k 0) ∧ grp cs (t.getD k 0) = grp cs (t.getD (k - 1) 0) := by
  rw [coupled_raw hk, show ((k : Int) - 1).toNat = k - 1 by omega] at h;simp only [Bool.and_eq_true, decide_eq_true_eq] at h;exact ⟨by omega, h.2.1, h.2.2⟩
theorem blocks_blk {cs : List Car} {t : List Int} (h : ∀ k, k < t.length → 0 < grp cs (t.getD k 0) → (∃ c ∈ t.take k, grp cs c = grp cs (t.getD k 0)) → BR cs t ↑k = true) :
    ∀ k, k ≤ t.length → Blk cs (AZ cs t k) ∧ (0 < k → ∃ ys y, AZ cs t k = ys ++ [y] ∧ t.getD (k - 1) 0 ∈ y) := by
  intro k
  induction k with
  | zero => intro _; exact ⟨⟨fun b hb => by simp [AZ] at hb, by simp [AZ]⟩, fun h => by omega⟩
  | succ k ih =>
    intro hk;obtain ⟨hb, hl⟩ := ih (by omega)
    by_cases hc : BR cs t ↑k = true
    · obtain ⟨c1, c2, c3⟩ := coupled_to (by omega) hc
      obtain ⟨ys, y, e, hy⟩ := hl c1;have e2 : AZ cs t (k + 1) = ys ++ [y ++ [t.getD k 0]] := by
        rw [NU hc, e];simp [List.getD]
      rw [e2];rw [e] at hb;have ho := hb.one;have ha := List.pairwise_append.1 hb.apart;refine ⟨⟨fun b hb2 => ?_, List.pairwise_append.2 ⟨ha.1, by simp, fun b hb2 c hc2 => ?_⟩⟩, fun _ => ⟨ys, _, rfl, by simp⟩⟩
      · rcases List.mem_append.1 hb2 with hb2 | hb2
        · exact ho b (List.mem_append_left _ hb2)
        · have hb2 := List.mem_singleton.1 hb2
          subst hb2;have key : ∀ x ∈ y ++ [t.getD k 0], grp cs x = grp cs (t.getD (k - 1) 0) := fun x hx => by
            rcases List.mem_append.1 hx with hx | hx
            · exact ho y (by simp) x hx _ hy
            · have hx := List.mem_singleton.1 hx; subst hx; exact c3
          intro x hx z hz;rw [key x hx, key z hz]
      · have hc2 := List.mem_singleton.1 hc2
        subst hc2;intro x hx z hz h0;rcases List.mem_append.1 hz with hz | hz
        · exact ha.2.2 b hb2 y (by simp) x hx z hz h0
        · have hz := List.mem_singleton.1 hz; subst hz
          rw [c3];exact ha.2.2 b hb2 y (by simp) x hx _ hy h0
    · have hc' : BR cs t ↑k = false := by simpa using hc
      rw [blocksTo_no hc'];refine ⟨⟨fun b hb2 => ?_, List.pairwise_append.2 ⟨hb.apart, by simp, fun b hb2 c hc2 => ?_⟩⟩, fun _ => ⟨_, _, rfl, by simp⟩⟩
      · rcases List.mem_append.1 hb2 with hb2 | hb2
        · exact hb.one b hb2
        · have hb2 := List.mem_singleton.1 hb2
          subst hb2;intro x hx z hz;rw [List.mem_singleton.1 hx, List.mem_singleton.1 hz]
      · have hc2 := List.mem_singleton.1 hc2
        subst hc2;intro x hx z hz h0 e;have hz := List.mem_singleton.1 hz; subst hz;refine hc (h k (by omega) (by omega) ⟨x, ?_, e⟩);rw [← LO k (by omega)];exact List.mem_flatten.2 ⟨b, hb2, hx⟩
theorem rowsN_perm : ∀ (n : Nat) (bl : List (List Int)), bl.length = n → ∀ x ∈ rowsN n bl, ∃ bl' : List (List Int), bl'.Perm bl ∧ x = bl'.flatten := by
  intro n
  induction n with
  | zero => intro bl h x hx; simp [rowsN, ordN] at hx; subst hx; exact ⟨[], by rw [List.length_eq_zero_iff.1 h], rfl⟩
  | succ n ih =>
    intro bl h x hx;simp only [rowsN, ordN, ordFrom, List.mem_flatMap, List.mem_map] at hx;obtain ⟨i, hi, y, hy, rfl⟩ := hx;have hi := List.mem_range'_1.1 hi;obtain ⟨bl', hp, rfl⟩ := ih _ (erase_len (k := i) (by omega) h) y hy;refine ⟨bl.getD i [] :: bl', ?_, rfl⟩;refine (List.Perm.cons _ hp).trans ?_;have hb : i < bl.length := by omega
    exact erase_perm hb
theorem Fine.row {Y : Yard} (f : Fine Y) {r : List Int} (hr : r ∈ rowsN (blocksOf Y.cars (trk Y 0)).length (blocksOf Y.cars (trk Y 0))) : Valid { Y with tracks := Y.tracks.set 0 r } ∧ r.Perm (trk Y 0) := by
  have hlen := f.len; have hr1 := f.room1;obtain ⟨t, ts, ht⟩ : ∃ t ts, Y.tracks = t :: ts := by
    cases hh : Y.tracks with
    | nil => rw [hh] at hlen; simp at hlen; omega
    | cons t ts => exact ⟨t, ts, rfl⟩
  have ht0 : trk Y 0 = t := by show Y.tracks.getD 0 [] = t; rw [ht]; rfl
  rw [ht0] at hr ⊢;have hg := groups_iff.1 f.groups;have hrow : ∀ k, k < t.length → 0 < grp Y.cars (t.getD k 0) → (∃ c ∈ t.take k, grp Y.cars c = grp Y.cars (t.getD k 0)) → BR Y.cars t ↑k = true := fun k hk h0 hc => by
    have := hg 0 k (by rw [ht]; simp) (by rw [ht]; simpa using hk) (by rw [ht]; simpa using h0) (.inr (by rw [ht]; simpa using hc));rw [ht] at this; simpa using this
  obtain ⟨hb, _⟩ := blocks_blk hrow t.length (Nat.le_refl _);obtain ⟨bl', hp, rfl⟩ := rowsN_perm _ _ rfl r hr;have hflat : (blocksOf Y.cars t).flatten = t := by
    have := LO (cs := Y.cars) (t := t) t.length (Nat.le_refl _);rw [List.take_length] at this; exact this
  have hperm : bl'.flatten.Perm t := by
    have := hp.flatten;rw [hflat] at this; exact this
  have hrok := (Blk.perm hb hp.symm).row;refine ⟨Fine.valid ⟨f.cars, f.carOk, f.room1, f.room3, f.roomOk, by rw [List.length_set]; exact f.len, ?_, ?_, ?_, ?_, ?_⟩, hperm⟩
  all_goals simp only [ht, List.set_cons_zero]
  · intro x hx c hc
    have hok := f.ok;rw [ht] at hok;rcases List.mem_cons.1 hx with e | hx
    · subst e; exact hok t List.mem_cons_self c (hperm.mem_iff.1 hc)
    · exact hok x (List.mem_cons_of_mem _ hx) c hc
  · have hn := f.nodup
    rw [ht] at hn;rw [List.flatten_cons] at hn ⊢;exact (List.Perm.append_right _ hperm).nodup_iff.2 hn
  · intro k hk
    have hf := f.fits;rw [ht] at hf;cases k with
    | zero =>
      have := hf 0 (by simp);rw [List.getD_cons_zero] at this ⊢;have e : lenOf Y.cars bl'.flatten = lenOf Y.cars t := by
        unfold lenOf; exact perm_sum (hperm.map _)
      rw [e]; exact this
    | succ k => simpa using hf (k + 1) (by simpa using hk)
  · have ha := f.all
    rw [ht] at ha;rw [List.flatten_cons, List.length_append] at ha ⊢;rw [hperm.length_eq]; exact ha
  · refine groups_iff.2 ?_
    show GrpFrom Y.cars (bl'.flatten :: ts) [];intro i k hi hk h0 hm;rcases hm with hm | ⟨c, hc, e⟩
    · simp at hm
    · cases i with
      | zero =>
        simp only [List.getD_cons_zero, List.take_zero, List.flatten_nil, List.nil_append] at hk h0 hc e ⊢;obtain ⟨h1, h2⟩ := hrok k hk h0 ⟨c, hc, e⟩;exact MS hk h0 h1 h2
      | succ i =>
        have := hg (i + 1) k (by rw [ht]; simpa using hi) (by rw [ht]; simpa using hk) (by rw [ht]; simpa using h0) (.inr ⟨c, by
          rw [ht]
          simp only [List.take_succ_cons, List.flatten_cons, List.getD_cons_succ, List.mem_append] at hc ⊢
          rcases hc with (hc | hc) | hc
          · exact .inl (.inl (hperm.mem_iff.1 hc))
          · exact .inl (.inr hc)
          · exact .inr hc, by rw [ht]; simpa using e⟩)
        rw [ht] at this; simpa using this
section
variable {Y : Yard} {k : Nat}
end
end Go.Sh
namespace Go.Proofs.YtcaocbhbofejnaaGreatDoor
open Go Go.Sl Go.Sh
set_option maxRecDepth 100000
end Go.Proofs.YtcaocbhbofejnaaGreatDoor
namespace Go.Sl
open Go
theorem ct_own {α : Type} {E : TypeId} {sz : Nat} {cell : α → Nat → Value} {v : Value} {xs : List α} {Ms : Seg} {I : Imm} {P : Program} {f : FuncId} {args : Array Value} {u : Value} (dflt : α) (h : Own E sz cell v xs Ms) (hl : xs.length ≤ 140737488355328)
    (ct : ∀ J, I.le J → IsSl sz cell dflt J v xs → CtV P f args J u) : Ct P f args I Ms (fun r _ M' => r = u ∧ M' = Ms) := by
  intro F w st;obtain ⟨J, h1, h2, h3, h4⟩ := h.lend dflt hl st;refine (ct J h1 h2 F w h4).mono fun e w' ⟨r, I', M', he, hle, ⟨hr, hm⟩, st'⟩ => ?_
  subst hm;obtain ⟨K, k1, k2⟩ := St.thaw (h3.mono hle) (h1.trans hle) (by simpa using st');exact ⟨r, K, Ms, he, k1, ⟨hr, rfl⟩, k2⟩
end Go.Sl
namespace Go.Proofs.YtcaocbhbofejnaaGreatDoor
open Go Go.Sl Go.Sh
set_option maxRecDepth 100000
end Go.Proofs.YtcaocbhbofejnaaGreatDoor
namespace Go.Sh
open Go Go.Sl
def stG (cs : List Car) (g : Int) : Bool → List Int → Nat
  | _, [] => 0
  | p, c :: r => (if grp cs c = g ∧ p = false then 1 else 0) + stG cs g (decide (grp cs c = g)) r
def sumG (cs : List Car) (g : Int) : List (List Int) → Nat
  | [] => 0
  | t :: ts => stG cs g false t + sumG cs g ts
def inN (g : Int) (met : List Int) : Nat := if g ∈ met then 1 else 0
def KS (cs : List Car) (g : Int) (t : List Int) (k : Nat) : Bool := decide (0 < k) && decide (grp cs (t.getD (k - 1) 0) = g)
theorem goG_st {cs : List Car} {ts : List (List Int)} {t : List Int} (ih : ∀ met, goGs cs ts met = 0 ↔ ∀ g, 0 < g → inN g met + sumG cs g ts ≤ 1) : ∀ (m k : Nat) (met : List Int), k + m = t.length →
    (∀ g, 0 < g → KS cs g t k = true → g ∈ met) →
    (goG cs t (goGs cs ts) k (t.drop k) met = 0 ↔ ∀ g, 0 < g → inN g met + stG cs g (KS cs g t k) (t.drop k) + sumG cs g ts ≤ 1) := by
  intro m
  induction m with
  | zero =>
    intro k met hk _;rw [goG_done (by omega), ih, CN (by omega)];simp only [stG, Nat.add_zero]
  | succ m ihm =>
    intro k met hk hp;have hlt : k < t.length := by omega
    have hcons : t.drop k = t.getD k 0 :: t.drop (k + 1) := BK hlt;have hpk : ∀ g, KS cs g t (k + 1) = decide (grp cs (t.getD k 0) = g) := fun g => by simp [KS]
    by_cases hb : (decide (0 < grp cs (t.getD k 0)) && (decide (grp cs (t.getD k 0) ∈ met) && !(BR cs t ↑k))) = true
    · rw [goG_hit hlt hb]
      simp only [Bool.and_eq_true, decide_eq_true_eq, Bool.not_eq_true'] at hb;refine ⟨(fun h => by cases h), fun h => ?_⟩
      exfalso
      have h1 := h _ hb.1;have hnp : KS cs (grp cs (t.getD k 0)) t k = false := by
        cases hq : KS cs (grp cs (t.getD k 0)) t k with
        | false => rfl
        | true =>
          simp only [KS, Bool.and_eq_true, decide_eq_true_eq] at hq;rw [MS hlt hb.1 hq.1 hq.2] at hb;cases hb.2.2
      rw [hcons, hnp] at h1;have e1 : inN (grp cs (t.getD k 0)) met = 1 := if_pos hb.2.1;have e2 : ∀ r, stG cs (grp cs (t.getD k 0)) false (t.getD k 0 :: r) = 1 + stG cs (grp cs (t.getD k 0)) (decide (grp cs (t.getD k 0) = grp cs (t.getD k 0))) r := fun r => by
        show (if _ then 1 else 0) + _ = _;rw [if_pos ⟨rfl, rfl⟩]
      rw [e1, e2] at h1;omega
    · have hb' := Bool.eq_false_iff.2 hb
      rw [goG_miss hlt hb', ihm (k + 1) _ (by omega) ?_]
      · refine forall_congr' fun g => forall_congr' fun hg => ?_
        rw [hpk, hcons];have hst : stG cs g (KS cs g t k) (t.getD k 0 :: t.drop (k + 1)) = (if grp cs (t.getD k 0) = g ∧ KS cs g t k = false then 1 else 0) + stG cs g (decide (grp cs (t.getD k 0) = g)) (t.drop (k + 1)) := rfl;rw [hst];have hin : inN g (if grp cs (t.getD k 0) ∈ met then met else met ++ [grp cs (t.getD k 0)]) = inN g met + (if grp cs (t.getD k 0) = g ∧ KS cs g t k = false then 1 else 0) := by
          by_cases e : grp cs (t.getD k 0) = g
          · cases hq : KS cs g t k with
            | true =>
              have hm := hp g hg hq;rw [e, if_pos hm, if_neg (by simp)]; rfl
            | false =>
              have hnm : g ∉ met := fun hm => by
                have hc : BR cs t ↑k = false := by
                  cases hc : BR cs t ↑k with
                  | false => rfl
                  | true =>
                    obtain ⟨c1, c2, c3⟩ := coupled_to hlt hc;have : KS cs g t k = true := by
                      simp only [KS, Bool.and_eq_true, decide_eq_true_eq];exact ⟨c1, c3.symm.trans e⟩
                    rw [hq] at this; cases this
                rw [e, hc] at hb;simp [hg, hm] at hb
              rw [e, if_neg hnm];simp [inN, hnm]
          · have e' : ¬ g = grp cs (t.getD k 0) := fun h => e h.symm
            by_cases hG : grp cs (t.getD k 0) ∈ met
            · rw [if_pos hG, if_neg (fun hh => e hh.1)]; rfl
            · rw [if_neg hG, if_neg (fun hh => e hh.1), Nat.add_zero]
              unfold inN;simp only [List.mem_append, List.mem_singleton, e', or_false]
        rw [hin]
        generalize stG cs g (decide (grp cs (t.getD k 0) = g)) (t.drop (k + 1)) = S
        constructor <;> intro h <;> omega
      · intro g hg hq
        rw [hpk] at hq;have e := of_decide_eq_true hq;subst e
        split
        · assumption
        · simp
theorem goGs_st {cs : List Car} : ∀ (ts : List (List Int)) (met : List Int), goGs cs ts met = 0 ↔ ∀ g, 0 < g → inN g met + sumG cs g ts ≤ 1 := by
  intro ts
  induction ts with
  | nil =>
    intro met;refine ⟨fun _ g _ => ?_, fun _ => rfl⟩;unfold inN sumG; split <;> omega
  | cons t ts ih =>
    intro met;have h := goG_st (cs := cs) (ts := ts) (t := t) ih t.length 0 met (by omega) (fun g _ h => by simp [KS] at h);rw [List.drop_zero] at h;show goG cs t (goGs cs ts) 0 t met = 0 ↔ _;rw [h];refine forall_congr' fun g => forall_congr' fun hg => ?_
    have e : KS cs g t 0 = false := by simp [KS]
    rw [e];show _ ↔ inN g met + (stG cs g false t + sumG cs g ts) ≤ 1
    constructor <;> intro h <;> omega
theorem groups_sum {Y : Yard} : DR Y = 0 ↔ ∀ g, 0 < g → sumG Y.cars g Y.tracks ≤ 1 := by
  unfold DR;rw [goGs_st];refine forall_congr' fun g => forall_congr' fun _ => ?_
  have e : inN g [] = 0 := by simp [inN]
  rw [e, Nat.zero_add]
def lastB (cs : List Car) (g : Int) : Bool → List Int → Bool
  | p, [] => p
  | _, c :: r => lastB cs g (decide (grp cs c = g)) r
theorem stG_append {cs : List Car} {g : Int} : ∀ (a b : List Int) (p : Bool), stG cs g p (a ++ b) = stG cs g p a + stG cs g (lastB cs g p a) b := by
  intro a
  induction a with
  | nil => intro b p; simp [stG, lastB]
  | cons c a ih => intro b p; simp only [List.cons_append, stG, lastB, ih]; omega
theorem lastB_at {cs : List Car} {g : Int} : ∀ (a : List Int) (p : Bool), 0 < a.length → lastB cs g p a = decide (grp cs (a.getD (a.length - 1) 0) = g) := by
  intro a
  induction a with
  | nil => intro p h; simp at h
  | cons c a ih =>
    intro p _;cases a with
    | nil => simp [lastB]
    | cons d r =>
      show lastB cs g (decide (grp cs c = g)) (d :: r) = _;rw [ih _ (by simp)];simp
theorem stG_tf {cs : List Car} {g : Int} (b : List Int) : stG cs g false b = stG cs g true b + if 0 < b.length ∧ grp cs (b.getD 0 0) = g then 1 else 0 := by
  cases b with
  | nil => simp [stG]
  | cons c r =>
    simp only [stG, List.length_cons, List.getD_cons_zero]
    by_cases h : grp cs c = g <;> simp [h] <;> omega
theorem stG_le {cs : List Car} {g : Int} (p : Bool) (b : List Int) : stG cs g p b ≤ stG cs g false b := by
  cases p with
  | false => exact Nat.le_refl _
  | true => rw [stG_tf b]; omega
theorem stG_app_le {cs : List Car} {g : Int} (a b : List Int) : stG cs g false (a ++ b) ≤ stG cs g false a + stG cs g false b := by
  rw [stG_append]; have := stG_le (cs := cs) (g := g) (lastB cs g false a) b; omega
theorem stG_cut {cs : List Car} {g : Int} {A : List Int} {n : Nat} (h : 0 < n → n < A.length → ¬ (grp cs (A.getD (n - 1) 0) = g ∧ grp cs (A.getD n 0) = g)) :
    stG cs g false A = stG cs g false (A.take n) + stG cs g false (A.drop n) := by
  have e : stG cs g false A = stG cs g false (A.take n ++ A.drop n) := by rw [List.take_append_drop]
  rw [e, stG_append]
  congr 1
  by_cases hn : 0 < n ∧ n < A.length
  · have hl : (A.take n).length = n := by rw [List.length_take]; omega
    rw [lastB_at _ _ (by omega), hl];have e1 : (A.take n).getD (n - 1) 0 = A.getD (n - 1) 0 := by simp only [List.getD, List.getElem?_take]; rw [if_pos (by omega)]
    rw [e1]
    by_cases hq : grp cs (A.getD (n - 1) 0) = g
    · have h2 : ¬ grp cs (A.getD n 0) = g := fun hh => h hn.1 hn.2 ⟨hq, hh⟩
      rw [decide_eq_true hq, stG_tf (A.drop n)];have e2 : (A.drop n).getD 0 0 = A.getD n 0 := by simp [List.getD]
      rw [e2, if_neg (fun hh => h2 hh.2)]; omega
    · rw [decide_eq_false hq]
  · by_cases h0 : n = 0
    · subst h0; simp [lastB]
    · rw [CN (by omega)]; simp [stG]
theorem sumG_set {cs : List Car} {g : Int} (X : List Int) : ∀ (ts : List (List Int)) (i : Nat), i < ts.length → sumG cs g (ts.set i X) + stG cs g false (ts.getD i []) = sumG cs g ts + stG cs g false X := by
  intro ts
  induction ts with
  | nil => intro i h; simp at h
  | cons t ts ih =>
    intro i h;cases i with
    | zero => simp only [List.set_cons_zero, sumG, List.getD_cons_zero]; omega
    | succ i => simp only [List.set_cons_succ, sumG, List.getD_cons_succ]; have := ih i (by simpa using h); omega
theorem free_cut {Y : Yard} {s : Shift} (m : MayOk Y s) (g : Int) (hg : 0 < g) : 0 < (FG Y s).toNat → (FG Y s).toNat < (trk Y s.frm).length → ¬ (grp Y.cars ((trk Y s.frm).getD ((FG Y s).toNat - 1) 0) = g ∧ grp Y.cars ((trk Y s.frm).getD (FG Y s).toNat 0) = g) := fun h1 h2 hh => by
  have hf := m.free;have e : FG Y s = ↑(FG Y s).toNat := by omega
  rw [e, MS h2 (by rw [hh.2]; exact hg) h1 (hh.1.trans hh.2.symm)] at hf;cases hf
theorem moved_trk {Y : Yard} {s : Shift} (m : MayOk Y s) : trk (moved Y s) s.frm = (trk Y s.frm).take (FG Y s).toNat ∧ trk (moved Y s) s.to = trk Y s.to ++ (trk Y s.frm).drop (FG Y s).toNat := by
  have hf := m.frm; have ht := m.to; have hne := m.ne;have hne' : s.frm.toNat ≠ s.to.toNat := by omega
  constructor
  · simp only [trk, moved, List.getD]
    rw [List.getElem?_set_self (by rw [List.length_set]; omega)]; rfl
  · simp only [trk, moved, List.getD]
    rw [List.getElem?_set_ne hne', List.getElem?_set_self (by omega)]; rfl
theorem moved_other {Y : Yard} {s : Shift} {k : Nat} (h1 : k ≠ s.frm.toNat) (h2 : k ≠ s.to.toNat) : (moved Y s).tracks.getD k [] = Y.tracks.getD k [] := by
  simp only [moved, List.getD];rw [List.getElem?_set_ne (Ne.symm h1), List.getElem?_set_ne (Ne.symm h2)]
theorem lenOf_cut (cs : List Car) (A : List Int) (n : Nat) : lenOf cs A = lenOf cs (A.take n) + lenOf cs (A.drop n) := by
  rw [← JS, List.take_append_drop]
theorem moved_sum {Y : Yard} {s : Shift} (m : MayOk Y s) (g : Int) (hg : 0 < g) : sumG Y.cars g (moved Y s).tracks ≤ sumG Y.cars g Y.tracks := by
  have hf := m.frm; have ht := m.to; have hne := m.ne;have hne' : s.to.toNat ≠ s.frm.toNat := by omega
  have hc := stG_cut (cs := Y.cars) (g := g) (A := trk Y s.frm) (n := (FG Y s).toNat) (free_cut m g hg);have ha := stG_app_le (cs := Y.cars) (g := g) (trk Y s.to) ((trk Y s.frm).drop (FG Y s).toNat);have s1 := sumG_set (cs := Y.cars) (g := g) (trk Y s.to ++ (trk Y s.frm).drop (FG Y s).toNat) Y.tracks s.to.toNat (by omega);have s2 := sumG_set (cs := Y.cars) (g := g) ((trk Y s.frm).take (FG Y s).toNat) (Y.tracks.set s.to.toNat (trk Y s.to ++ (trk Y s.frm).drop (FG Y s).toNat)) s.frm.toNat (by rw [List.length_set]; omega);have e2 : (Y.tracks.set s.to.toNat (trk Y s.to ++ (trk Y s.frm).drop (FG Y s).toNat)).getD s.frm.toNat [] = trk Y s.frm := by
    simp only [trk, List.getD];rw [List.getElem?_set_ne hne']
  rw [e2] at s2;have e1 : Y.tracks.getD s.to.toNat [] = trk Y s.to := rfl;rw [e1] at s1;show sumG Y.cars g ((Y.tracks.set s.to.toNat _).set s.frm.toNat _) ≤ _;omega
theorem Fine.mv {Y : Yard} {s : Shift} (f : Fine Y) (h : BU Y s = 0) : Fine (moved Y s) := by
  have m := mayOk h;have k := kin_moved h;have gd := f.good.moved h;have hf := m.frm; have ht := m.to; have hne := m.ne;have sm := f.good.small;refine ⟨f.cars, f.carOk, f.room1, f.room3, f.roomOk, by rw [k.len]; exact f.len, gd.ok, k.perm.nodup_iff.2 f.nodup, fun i hi => ?_, by rw [k.perm.length_eq]; exact f.all, ?_⟩
  · rw [k.len] at hi
    have t1 := moved_trk m;have e0 : (moved Y s).cars = Y.cars := rfl;have e9 : (moved Y s).room = Y.room := rfl;rw [e0, e9]
    by_cases h1 : i = s.frm.toNat
    · subst h1
      have e : (moved Y s).tracks.getD s.frm.toNat [] = _ := t1.1;rw [e];have h2 := f.fits s.frm.toNat hi;have h3 := lenOf_cut Y.cars (trk Y s.frm) (FG Y s).toNat;have h4 := GF sm ((trk Y s.frm).drop (FG Y s).toNat);have e5 : Y.tracks.getD s.frm.toNat [] = trk Y s.frm := rfl;rw [e5] at h2;omega
    · by_cases h2 : i = s.to.toNat
      · subst h2
        have e : (moved Y s).tracks.getD s.to.toNat [] = _ := t1.2;rw [e, JS];have := m.fits;omega
      · rw [moved_other h1 h2]; exact f.fits i hi
  · rw [groups_sum]
    intro g hg;have h1 := groups_sum.1 f.groups g hg;have h2 := moved_sum m g hg;exact Nat.le_trans h2 h1
end Go.Sh
namespace Go.Proofs.YtcaocbhbofejnaaGreatDoor
open Go Go.Sl Go.Sh
set_option maxRecDepth 100000
end Go.Proofs.YtcaocbhbofejnaaGreatDoor
namespace Go.Sl
open Go
section
variable {ρ : Option Nat} {P : Program} {N : Nat} {ops : Array Oper} {i : Nat} {l : Sl} {I : Imm} {M : Seg} {ty : TypeId} {gd : Option (Nat × Bool)} {K : Sl → Imm → Seg → Prop}
end
inductive FpOk (ops : Array Oper) (i : Nat) (M : Seg) : List (Nat × Seg) → Prop
  | nil : FpOk ops i M []
  | wait {k : Nat} {R : Seg} {fp : List (Nat × Seg)} : wt ops i k = true → FpOk ops i M fp → FpOk ops i M ((k, R) :: fp)
  | none {k : Nat} {fp : List (Nat × Seg)} : FpOk ops i M fp → FpOk ops i M ((k, []) :: fp)
  | part {k : Nat} {R Sx : Seg} {fp : List (Nat × Seg)} : M.Perm (R ++ Sx) → FpOk ops i M fp → FpOk ops i M ((k, R) :: fp)
theorem FpOk.all {ops : Array Oper} {i : Nat} {M : Seg} {fp : List (Nat × Seg)} (h : FpOk ops i M fp) : ∀ p ∈ fp, wt ops i p.1 = true ∨ ∃ Sx, M.Perm (p.2 ++ Sx) := by
  induction h with
  | nil => intro p hp; simp at hp
  | wait h _ ih =>
    intro p hp;rcases List.mem_cons.1 hp with rfl | hp
    · exact .inl h
    · exact ih p hp
  | none _ ih =>
    intro p hp;rcases List.mem_cons.1 hp with rfl | hp
    · exact .inr ⟨M, List.Perm.refl _⟩
    · exact ih p hp
  | part h _ ih =>
    intro p hp;rcases List.mem_cons.1 hp with rfl | hp
    · exact .inr ⟨_, h⟩
    · exact ih p hp
section
variable {P : Program} {N : Nat} {ops : Array Oper} {als : List Nat} {al : List (Nat × Nat × Fresh)} {L0 : Sl} {F0 : Seg} {Kf : Sl → Imm → Seg → Prop} {fp : List (Nat × Seg)} {rest : List (Nat × Bool)} {i d : Nat} {v : Value} {l : Sl} {I : Imm} {M M' : Seg}
def lkB (d : Nat) (v : Value) (L0 : Sl) : Prop := match DP d L0 with | some u => v = u | none => True
theorem lkOk {L0 : Sl} {d : Nat} {v : Value} (h : lkB d v L0) : ∀ u, DP d L0 = some u → v = u := fun u hu => by
  unfold lkB at h; rw [hu] at h; exact h
theorem FW (h : Det P N ops i l I M d v) (next : OFPX P N ops als F0 Kf al L0 ((i, M) :: fp) rest ((d, v) :: l) I M) (hL : lkB d v L0 := by first | exact trivial | exact rfl) : OFPX P N ops als F0 Kf al L0 fp ((i, true) :: rest) l I M := ⟨d, v, M, [], h, by simp, lkOk hL, next⟩
theorem FN (h : Det P N ops i l I [] d v) (next : OFPX P N ops als F0 Kf al L0 ((i, []) :: fp) rest ((d, v) :: l) I M) (hL : lkB d v L0 := by first | exact trivial | exact rfl) : OFPX P N ops als F0 Kf al L0 fp ((i, true) :: rest) l I M := ⟨d, v, [], M, h, by simp, lkOk hL, next⟩
theorem ofx_part {Rx Sx : Seg} (hp : M.Perm (Rx ++ Sx)) (h : Det P N ops i l I Rx d v) (next : OFPX P N ops als F0 Kf al L0 ((i, Rx) :: fp) rest ((d, v) :: l) I M) (hL : lkB d v L0 := by first | exact trivial | exact rfl) : OFPX P N ops als F0 Kf al L0 fp ((i, true) :: rest) l I M := ⟨d, v, Rx, Sx, h, hp, lkOk hL, next⟩
theorem ofx_bs {T : TypeId} {n : Nat} {cs : Array Value} (ha : CD al i = some (d, .bs T n cs)) (next : ∀ b, OFPX P N ops als F0 Kf al L0 fp rest ((d, .slice (some ⟨b, 0, none⟩) n n) :: l) I ((b, Obj.cells cs T (0, 0)) :: M)) : OFPX P N ops als F0 Kf al L0 fp ((i, false) :: rest) l I M := by
  unfold OFPX; rw [ha]; exact next
def dsB (ops : Array Oper) (i : Nat) (L0 : Sl) : Bool := match DM ops i with | some d => (DP d L0).isNone | none => true
theorem dsB_nil (ops : Array Oper) (i : Nat) : dsB ops i [] = true := by unfold dsB; split <;> rfl
theorem dsB_spec {L0 : Sl} (h : dsB ops i L0 = true) : ∀ d, DM ops i = some d → DP d L0 = none := fun d hd => by
  unfold dsB at h; rw [hd] at h; simpa using h
def knB (ops : Array Oper) (als : List Nat) (al : List (Nat × Nat × Fresh)) (rest : List (Nat × Bool)) : Bool := als.all fun j => (CD al j).isSome || rest.any fun x => !x.2 && (wt ops j x.1 && !(isAl als x.1))
theorem knB_spec (h : knB ops als al rest = true) : Known ops als al rest := fun j hj => by
  obtain ⟨k, hk, e⟩ := List.any_eq_true.1 (show (als.any fun k => Nat.beq k j) = true from hj);obtain rfl := Nat.eq_of_beq_eq_true e;have := List.all_eq_true.1 h k hk;simp only [Bool.or_eq_true, List.any_eq_true, Bool.and_eq_true, Bool.not_eq_true'] at this;rcases this with h1 | ⟨⟨a, b⟩, h2, h3, h4, h5⟩
  · exact .inl (Option.isSome_iff_exists.1 h1)
  · simp only at h3 h4 h5
    subst h3;exact .inr ⟨a, h2, h4, h5⟩
theorem NF {Mx : Seg → Seg} (ha : CD al i = none) (hp : ∀ F, (Mx F).Perm (M ++ F))
    (h : ∀ F, Stp P N ops i l I (Mx F) fun l' I' M' => ∃ M1 al' L0', M'.Perm (M1 ++ F) ∧ FpOk ops i M1 fp ∧ Ext P N ops als al L0 al' L0' l' ∧ knB ops als al' rest = true ∧ OFPX P N ops als F0 Kf al' L0' fp rest l' I' M1) (hS : dsB ops i L0 = true := by first | exact dsB_nil _ _ | kernel_rfl) : OFPX P N ops als F0 Kf al L0 fp ((i, false) :: rest) l I M := by
  unfold OFPX; rw [ha];refine ⟨dsB_spec hS, ?_⟩;exact fun F _ => Stp.perm (hp F).symm (Stp.mono (h F) fun l' I' M' ⟨M1, al', L0', a, b, e, k, c⟩ => ⟨M1, al', L0', a, b.all, e, knB_spec k, c⟩)
theorem ofx_nx {F M1 : Seg} (hp : M'.Perm (M1 ++ F)) (hf : FpOk ops i M1 fp) (next : OFPX P N ops als F0 Kf al L0 fp rest l I M1) (hk : knB ops als al rest = true := by kernel_rfl) : ∃ M1 al' L0', M'.Perm (M1 ++ F) ∧ FpOk ops i M1 fp ∧ Ext P N ops als al L0 al' L0' l ∧ knB ops als al' rest = true ∧ OFPX P N ops als F0 Kf al' L0' fp rest l I M1 := ⟨M1, al, L0, hp, hf, .inl ⟨rfl, rfl⟩, hk, next⟩
def asB (als : List Nat) (al : List (Nat × Nat × Fresh)) : Bool := al.all fun x => isAl als x.1
theorem alFind_in : ∀ (al : List (Nat × Nat × Fresh)) {i d : Nat} {E : Fresh}, CD al i = some (d, E) → (i, d, E) ∈ al := by
  intro al
  induction al with
  | nil => intro i d E h; cases h
  | cons x r ih =>
    intro i d E h;unfold CD at h;cases hb : Nat.beq x.1 i with
    | true =>
      rw [hb] at h;simp only [cond_true, Option.some.injEq] at h;have e := Nat.eq_of_beq_eq_true hb;rcases x with ⟨x1, x2⟩
      simp only at h e;subst h e;exact List.mem_cons_self
    | false =>
      rw [hb] at h;exact List.mem_cons_of_mem _ (ih h)
theorem asB_spec (h : asB als al = true) : ∀ i d E, CD al i = some (d, E) → isAl als i = true := fun i d E hi => List.all_eq_true.1 h _ (alFind_in al hi)
theorem ofx_end (h : Kf l I M) : OFPX P N ops als F0 Kf al L0 fp [] l I M := h
def supB (ops : Array Oper) (i : Nat) (L0 : Sl) : Bool := match ops[i]? with
  | some o => (o.looksAt ops).all fun t => (DP t L0).isSome && (List.range ops.size).all fun k => !(dstB ops k t) || wt ops i k
  | none => false
theorem supB_spec {L0 : Sl} (h : supB ops i L0 = true) : ∀ t, DS ops i t = true → ∃ u, DP t L0 = some u ∧ ∀ k, DM ops k = some t → wt ops i k = true := fun t ht => by
  unfold supB at h;unfold DS at ht;cases ho : ops[i]? with
  | none => rw [ho] at h; cases h
  | some o =>
    rw [ho] at h ht;simp only [List.all_eq_true, Bool.and_eq_true, List.any_eq_true, Bool.or_eq_true, Bool.not_eq_true'] at h ht;obtain ⟨u, hu, e⟩ := ht;obtain rfl := Nat.eq_of_beq_eq_true e;obtain ⟨h1, h2⟩ := h u hu;obtain ⟨v, hv⟩ := Option.isSome_iff_exists.1 h1;refine ⟨v, hv, fun k hk => ?_⟩;rcases h2 k (List.mem_range.2 (NY hk)) with h3 | h3
    · rw [MU hk] at h3; cases h3
    · exact h3
theorem OS {L0 : Sl} {T : TypeId} {n : Nat} {cs : Array Value} (h1 : DM ops i = some d) (h0 : DP d L0 = none) (h2 : supB ops i L0 = true) (h3 : bsAt P N ops L0 i = some (d, T, n, cs)) : AlOk P N ops L0 i d (.bs T n cs) :=
  ⟨h1, h0, supB_spec h2, fun I M => sbs d T n cs (fun b => ⟨b, rfl, rfl, rfl⟩) h3⟩
theorem hA_nil : ∀ i d E, CD [] i = some (d, E) → AlOk P N ops L0 i d E := fun _ _ _ h => by cases h
theorem hA_cons {E : Fresh} (h : AlOk P N ops L0 i d E) (r : ∀ i d E, CD al i = some (d, E) → AlOk P N ops L0 i d E) : ∀ i' d' E', CD ((i, d, E) :: al) i' = some (d', E') → AlOk P N ops L0 i' d' E' := fun i' d' E' h' => by
  unfold CD at h';cases hb : Nat.beq i i' with
  | true =>
    have e := Nat.eq_of_beq_eq_true hb;rw [hb] at h';simp only [cond_true, Option.some.injEq, Prod.mk.injEq] at h';obtain ⟨rfl, rfl⟩ := h';exact e ▸ h
  | false =>
    rw [hb] at h';exact r i' d' E' h'
end
def alInjS (ops : Array Oper) (als : List Nat) : Bool := als.all fun i => als.all fun j => Nat.beq i j || !(match DM ops i, DM ops j with | some a, some b => Nat.beq a b | _, _ => false)
theorem alInjS_spec {ops : Array Oper} {als : List Nat} (h : alInjS ops als = true) : ∀ i j d, isAl als i = true → isAl als j = true → DM ops i = some d → DM ops j = some d → i = j := fun i j d hi hj h1 h2 => by
  obtain ⟨k, hk, e⟩ := List.any_eq_true.1 (show (als.any fun k => Nat.beq k i) = true from hi);obtain rfl := Nat.eq_of_beq_eq_true e;obtain ⟨k', hk', e'⟩ := List.any_eq_true.1 (show (als.any fun k => Nat.beq k j) = true from hj);obtain rfl := Nat.eq_of_beq_eq_true e';have := List.all_eq_true.1 (List.all_eq_true.1 h _ hk) _ hk';rw [h1, h2] at this;simp only [Nat.beq_refl, Bool.not_true, Bool.or_false] at this;exact Nat.eq_of_beq_eq_true this
section
variable {ρ : Option Nat} {P : Program} {N : Nat} {Q : Exit → Act → World → Prop} {ds : List Deferred} {C : List Nat → Code} {p : List Nat} {l : Sl} {I : Imm} {M0 M F0 : Seg}
def regB (ops : Array Oper) (L0 : Sl) : Bool := L0.all fun x => (List.range ops.size).any fun k => dstB ops k x.1
theorem look_mem : ∀ (L : Sl) {t : Nat} {u : Value}, DP t L = some u → ∃ x ∈ L, x.1 = t := by
  intro L
  induction L with
  | nil => intro t u h; cases h
  | cons x r ih =>
    intro t u h;rcases x with ⟨k, v⟩
    unfold DP at h;cases hb : Nat.beq k t with
    | true => exact ⟨_, List.mem_cons_self, Nat.eq_of_beq_eq_true hb⟩
    | false =>
      rw [hb] at h;obtain ⟨y, hy, e⟩ := ih h;exact ⟨y, List.mem_cons_of_mem _ hy, e⟩
theorem regB_spec {ops : Array Oper} {L0 : Sl} (h : regB ops L0 = true) : ∀ t u, DP t L0 = some u → ∃ k, DM ops k = some t := fun t u ht => by
  obtain ⟨x, hx, rfl⟩ := look_mem L0 ht;obtain ⟨k, _, hk⟩ := List.any_eq_true.1 (List.all_eq_true.1 h x hx);refine ⟨k, ?_⟩;unfold dstB at hk;unfold DM;cases ho : ops[k]? with
  | none => rw [ho] at hk; cases hk
  | some o =>
    rw [ho] at hk;simp only at hk;cases hd : o.dst with
    | none => rw [hd] at hk; cases hk
    | some d =>
      rw [hd] at hk;simp only at hk;rw [Nat.eq_of_beq_eq_true hk] at hd
      simpa using hd
theorem rdY (L0 : Sl) (als : List Nat) (al : List (Nat × Nat × Fresh)) (n0 : Nat) (order : List (Nat × Bool)) (hM : M0.Perm (M ++ F0)) (hA : ∀ i d E, CD al i = some (d, E) → AlOk P N (HQ (C p)) L0 i d E) (h : OFPX P N (HQ (C p)) als F0 (fun l I M => Seq (ρ := ρ) P N (HQ (C p)) Q ds n0 l I (M ++ F0)) al L0 [] order l I M) (hI : (alInjS (HQ (C p)) als && (asB als al && knB (HQ (C p)) als al order)) = true := by kernel_rfl)
    (hm : P.follows .mixedOrders = true := by kernel_rfl) (hc : isDrawn (C p) = true := by kernel_rfl) (hok : okAllX als (HQ (C p)) n0 order = true := by kernel_rfl) (hr : regB (HQ (C p)) L0 = true := by kernel_rfl) : Run (ρ := ρ) P N (C p) Q ds l I M0 := by
  obtain ⟨id, hid⟩ := JR hc;simp only [Bool.and_eq_true] at hI;exact fun a w hS hD hW => run_drawX _ al n0 order hm hid hok hA (asB_spec hI.2.1) (knB_spec hI.2.2) (alInjS_spec hI.1) (fun t u ht => .inl (regB_spec hr t u ht)) h a w hS hD (hW.perm hM)
end
end Go.Sl
namespace Go.Sh
open Go Go.Sl
def Rev {α : Type} (d : α) (xs zs : List α) (k : Nat) : Prop := zs.length = xs.length ∧ ∀ p, p < xs.length → zs.getD p d = if p < k ∨ xs.length - k ≤ p then xs.getD (xs.length - 1 - p) d else xs.getD p d
theorem Rev.start {α : Type} (d : α) (xs : List α) : Rev d xs xs 0 := ⟨rfl, fun p hp => by rw [if_neg (by omega)]⟩
theorem getD_set {α : Type} {d z : α} {xs : List α} {j p : Nat} (hj : j < xs.length) : (xs.set j z).getD p d = if p = j then z else xs.getD p d := by
  simp only [List.getD]
  by_cases e : j = p
  · subst e; rw [List.getElem?_set_self hj, if_pos rfl]; rfl
  · rw [List.getElem?_set_ne e, if_neg (Ne.symm e)]
theorem Rev.step {α : Type} {d : α} {xs zs : List α} {k j : Nat} (h : Rev d xs zs k) (hj : j = xs.length - 1 - k) (hk : k < j) : Rev d xs ((zs.set k (zs.getD j d)).set j (zs.getD k d)) (k + 1) := by
  obtain ⟨h1, h2⟩ := h;refine ⟨by simp [h1], fun p hp => ?_⟩;rw [getD_set (by rw [List.length_set]; omega), getD_set (by omega)]
  by_cases e1 : p = j
  · subst e1
    rw [if_pos rfl, if_pos (by omega), h2 k (by omega), if_neg (by omega)]
    congr 1; omega
  · rw [if_neg e1]
    by_cases e2 : p = k
    · subst e2
      rw [if_pos rfl, if_pos (by omega), h2 j (by omega), if_neg (by omega), hj]
    · rw [if_neg e2, h2 p hp]
      by_cases e3 : p < k ∨ xs.length - k ≤ p
      · rw [if_pos e3, if_pos (by omega)]
      · rw [if_neg e3, if_neg (by omega)]
theorem Rev.done {α : Type} {d : α} {xs zs : List α} {k : Nat} (h : Rev d xs zs k) (hk : xs.length - 1 - k ≤ k) : zs = xs.reverse := by
  obtain ⟨h1, h2⟩ := h;refine list_eq (d := d) (by simp [h1]) fun p hp => ?_
  rw [h1] at hp;have e : xs.reverse.getD p d = xs.getD (xs.length - 1 - p) d := by
    simp only [List.getD];rw [List.getElem?_reverse hp]
  rw [e, h2 p hp]
  by_cases e3 : p < k ∨ xs.length - k ≤ p
  · rw [if_pos e3]
  · rw [if_neg e3]
    congr 1; omega
end Go.Sh
namespace Go.Sl
open Go
end Go.Sl
namespace Go.Sh
open Go Go.Sl
section
variable {Y : Yard} {s : Shift} {k : Nat}
end
theorem yard_ext {A B : Yard} (h1 : A.cars = B.cars) (h2 : A.room = B.room) (h3 : A.tracks = B.tracks) : A = B := by
  rcases A with ⟨a, b, c⟩; rcases B with ⟨a', b', c'⟩
  simp only at h1 h2 h3;rw [h1, h2, h3]
end Go.Sh
namespace Go.Proofs.YtcaocbhbofejnaaGreatDoor
open Go Go.Sl Go.Sh
set_option maxRecDepth 100000
noncomputable def c_EqualYards (p : List Nat) : Code := sub (AW Tryz.f31) p
theorem EqualYards_ct (I : Imm) (a : Value) (A : Yard) (b : Value) (B : Yard) (a_f : IsYard I a A) (b_f : IsYard I b B) : CtV Tryz.prog 31 #[a, b] I (.bool (decide (A = B))) := by
 obtain ⟨a1, a2, a3, g0, d0, c3, c4⟩ := id a_f;subst g0;obtain ⟨a0, a4, e5, e8, c9, e6, e7, c2⟩ := id d0;subst c9;obtain ⟨a7, a8, e9, f2, d1, f0, f1, f3⟩ := id c3;subst d1;obtain ⟨a9, b0, f4, f7, e1, d2, f5, f6, f8, f9⟩ := id c4;subst d2;obtain ⟨b1, b2, b3, i1, d4, c6, c7⟩ := id b_f;subst i1;obtain ⟨a5, a6, g1, g4, d3, g2, g3, c5⟩ := id d4;subst d3;obtain ⟨b4, b5, g5, g8, d5, g6, g7, g9⟩ := id c6;subst d5;obtain ⟨b6, b7, h0, h8, e2, d6, h6, h7, h9, i0⟩ := id c7;subst d6;refine fr (args := [_, _]) (N := 47) Tryz.func31 (fun F => ?_);show Run _ _ (c_EqualYards []) _ _ [(0, .agg #[vS a0 A.cars.length a4, vS a7 A.room.length a8, vS a9 A.tracks.length b0]), (1, .agg #[vS a5 B.cars.length a6, vS b4 B.room.length b5, vS b6 B.tracks.length b7])] _ _;refine rnm (rqr ?_);refine sS (sb 2 26 #[vS a0 A.cars.length a4, vS a7 A.room.length a8, vS a9 A.tracks.length b0] (fun b1 => (sS (sb 3 26 #[vS a5 B.cars.length a6, vS b4 B.room.length b5, vS b6 B.tracks.length b7] (fun b3 => (sp 1 [(4, .bool (false))] (se (rq (rq ?_)))))))));refine GR (fun a w => Slots 47 [(2, vP b1 0), (3, vP b3 0), (4, .bool (false)), (28, .bool ((!(cmp .eql (↑(A.cars.length)) (↑(B.cars.length)))) || ((!(decide (A.room = B.room))) || (!(decide (A.tracks = B.tracks))))))] a ∧ a.defers = [] ∧ St I ((bX b3 #[vS a5 B.cars.length a6, vS b4 B.room.length b5, vS b6 B.tracks.length b7] 26) :: (bX b1 #[vS a0 A.cars.length a4, vS a7 A.room.length a8, vS a9 A.tracks.length b0] 26) :: F) w) ?_ ?_
 ·
  refine rr (sp 1 [(6, vP b1 0)] (sd (dlb 7 1 0 b1 (vS a0 A.cars.length a4)) (sp 2 [(9, vP b3 0), (8, vI (↑(A.cars.length)))] (sd (dlb 10 0 0 b3 (vS a5 B.cars.length a6)) (sp 3 [(13, .bool (!(cmp .eql (↑(A.cars.length)) (↑(B.cars.length)))))] ?_)))));refine BP 13 rfl (fun h1 => ?_) (fun h1 => ?_)
  ·
   have b8 := h1;have b8 := EA (CW b8);refine sp 15 [(28, .bool (true))] (ee ?_);refine BI (fun a w hS hD hW => ⟨hS.sub (.cons 2 rfl (.cons 3 rfl (.cons 4 rfl (.consE 28 rfl (congrArg Value.bool (by simp only [h1, kA, kB, kC, kD, kE, kF, kG, kH, kI, kJ])) (.nil _))))), hD, hW⟩)
  have b8 := h1;have b8 := EH (CM b8);refine sp 1 [(14, vP b1 1)] (sd (dlb 15 1 1 b1 (vS a7 A.room.length a8)) (sp 1 [(16, vP b3 1)] (sd (dlb 17 0 1 b3 (vS b4 B.room.length b5)) (sd (dc 18 (fun I' hI => (HR I' _ _ _ _ (c3.mono hI) (c6.mono hI) :))) (sp 3 [(21, .bool (!(decide (A.room = B.room))))] ?_)))));refine BP 21 rfl (fun h2 => ?_) (fun h2 => ?_)
  ·
   have b9 := h2;have b9 := IH (CW b9);refine sp 7 [(28, .bool (true))] (ee ?_);refine BI (fun a w hS hD hW => ⟨hS.sub (.cons 2 rfl (.cons 3 rfl (.cons 4 rfl (.consE 28 rfl (congrArg Value.bool (by simp only [h1, h2, kA, kB, kC, kD, kE, kF, kG, kH, kI, kJ])) (.nil _))))), hD, hW⟩)
  have b9 := h2;have b9 := HD (CM b9);refine sp 1 [(22, vP b1 2)] (sd (dlb 23 1 2 b1 (vS a9 A.tracks.length b0)) (sp 1 [(24, vP b3 2)] (sd (dlb 25 0 2 b3 (vS b6 B.tracks.length b7)) (sd (dc 26 (fun I' hI => (NS I' _ _ _ _ (c4.mono hI) (c7.mono hI) :))) (sp 2 [(28, .bool (!(decide (A.tracks = B.tracks))))] (ee ?_))))));refine BI (fun a w hS hD hW => ⟨hS.sub (.cons 2 rfl (.cons 3 rfl (.cons 4 rfl (.consE 28 rfl (congrArg Value.bool (by simp only [h1, h2, kA, kB, kC, kD, kE, kF, kG, kH, kI, kJ])) (.nil _))))), hD, hW⟩)
 rintro a w ⟨hS, hD, hW⟩
 refine BJ hS hD hW ?_;clear hS hD hW a w;refine rc 28 rfl (fun h3 => ?_) (fun h3 => ?_)
 ·
  have d8 := h3;refine rqr (sp 1 [(4, .bool (false))] (se (BT ((RP (AF (t := 4) [] (by kernel_rfl) rfl (TC _ (TC _ (TR _))) (IR _) ?_))))));exact ⟨congrArg Value.bool (decide_eq_false (fun e => by subst e; simp [cmp] at h3)).symm, rfl⟩
 have d8 := h3;obtain ⟨c8, d7⟩ := or_f h3;have c8 := EH (CM c8);obtain ⟨c0, c1⟩ := or_f d7;have c0 := HD (CM c0);have c1 := HD (CM c1);refine AM (NX (rq (rqr (sp 1 [(5, vI (0))] (se (rb 0 ?_))))));refine rl (fun mz a w => ∃ k : Nat, (k ≤ A.cars.length) ∧ (A.cars.length = B.cars.length) ∧ (A.cars.take k = B.cars.take k) ∧ (A.room = B.room) ∧ (A.tracks = B.tracks) ∧ Slots 47 [(5, vI ↑k), (2, vP b1 0), (3, vP b3 0)] a ∧ a.defers = [] ∧ St I ((bX b3 #[vS a5 B.cars.length a6, vS b4 B.room.length b5, vS b6 B.tracks.length b7] 26) :: (bX b1 #[vS a0 A.cars.length a4, vS a7 A.room.length a8, vS a9 A.tracks.length b0] 26) :: F) w ∧ mz = A.cars.length - k) ?_ ?_
 ·intro a w hS hD hW;exact ⟨_, 0, Nat.zero_le _, (by omega), rfl, (by assumption), (by assumption), hS.sub (.cons 5 rfl (.cons 2 rfl (.cons 3 rfl (.nil _)))), hD, hW, rfl⟩
 rintro mz a w ⟨k, hk, hl, ht, e3, e4, hS, hD, hW, rfl⟩
 refine BJ hS hD hW ?_;clear hS hD hW a w;refine rq (rqr (sp 2 [(30, vP b1 0), (29, vI (↑k))] (sd (dlb 31 1 0 b1 (vS a0 A.cars.length a4)) (sp 2 [(33, .bool (cmp .lss (↑k) (↑(A.cars.length))))] (se (rc 33 rfl (fun h4 => ?_) (fun h4 => ?_)))))))
 ·
  have d9 := h4;have h4 := CQ h4;refine AM (NX (rq (rb 1 (rq ?_))));refine rd0 10 (ox 1 [(36, vP b1 0)] ?_);refine AC (dlb 37 1 0 b1 (vS a0 A.cars.length a4)) (ox 1 [(38, vI (↑k))] ?_);refine AC (di 39 6 (k) c2.addr) ?_;refine AC (EQ (x := (.tmp 39)) (T := 56) (n := 6) (vs := [vI ((A.cars.getD (k) AB).len), vI ((A.cars.getD (k) AB).wt), vI ((A.cars.getD (k) AB).brk), vI ((A.cars.getD (k) AB).grp), .bool ((A.cars.getD (k) AB).pipe), .bool ((A.cars.getD (k) AB).heat)]) (d := 40) (ty := 56) (gd := none) (by kernel_rfl) rfl (by kernel_rfl) (by kernel_rfl) rfl rfl (LP c2 (k) (by omega))) (ox 1 [(41, vP b3 0)] ?_);refine AC (dlb 42 0 0 b3 (vS a5 B.cars.length a6)) (ox 1 [(43, vI (↑k))] ?_);refine AC (di 44 6 (k) c5.addr) ?_;refine AC (EQ (x := (.tmp 44)) (T := 56) (n := 6) (vs := [vI ((B.cars.getD (k) AB).len), vI ((B.cars.getD (k) AB).wt), vI ((B.cars.getD (k) AB).brk), vI ((B.cars.getD (k) AB).grp), .bool ((B.cars.getD (k) AB).pipe), .bool ((B.cars.getD (k) AB).heat)]) (d := 45) (ty := 56) (gd := none) (by kernel_rfl) rfl (by kernel_rfl) (by kernel_rfl) rfl rfl (LP c5 (k) (by omega))) ?_;refine BX (sd (det_neqAgg (L := [(0, .i .i64), (1, .i .i64), (2, .i .i64), (3, .i .i64), (4, .b), (5, .b)]) (x := (.tmp 40)) (y := (.tmp 45)) (T := 56) (T' := 56) (d := 46) (ty := 4) (gd := none) (by kernel_rfl) rfl (by kernel_rfl) rfl rfl rfl (eqCar (A.cars.getD (k) AB) (B.cars.getD (k) AB))) (se (rc 46 rfl (fun h5 => ?_) (fun h5 => ?_))))
  ·
   have e0 := h5;have h5 := IH (CW h5);refine rqr (sp 1 [(4, .bool (false))] (se (BT ((RB (RP (RP (RB (RP (AF (t := 4) [] (by kernel_rfl) rfl (TC _ (TC _ (TR _))) (IR _) ?_))))))))));exact ⟨congrArg Value.bool (decide_eq_false (fun e => h5 (by rw [e]))).symm, rfl⟩
  have e0 := h5;have h5 := HD (CM h5);refine AM (NB (NX (rr (sp 1 [(34, vI (↑k))] (sd (da 35 (↑k) (1)) (sp 1 [(5, vI (↑k + 1))] (ee ?_)))))));refine AH (A.cars.length - (k+1)) (by omega) ?_;intro a w hS hD hW;exact ⟨k+1, by omega, hl, JZ (d := AB) hl ht (by omega) h5, e3, e4, hS.sub (.consE 5 rfl rfl (.cons 2 rfl (.cons 3 rfl (.nil _)))), hD, hW, rfl⟩
 have d9 := h4;have h4 := CP h4;refine CK 0 ((EP (EP (EB (NX (rqr (sp 1 [(4, .bool (true))] (se (BT (AF (t := 4) [] (by kernel_rfl) rfl (TC _ (TC _ (TR _))) (IR _) ?_))))))))));exact ⟨congrArg Value.bool (decide_eq_true (yard_ext (ML hl ht (by omega)) e3 e4)).symm, rfl⟩
open Go Go.ChangeShapes Go.WideShapes Go.RowKit Go.Sl
theorem Row.own : ownKnob Tryz.prog.godebug = none := by kernel_rfl
theorem Row.laidOut : laidOutB Tryz.prog = true := by kernel_rfl
theorem Row.et : Tryz.prog.globalNamed "errors.errorType" = some 0 := by kernel_rfl
theorem Row.oneRow : ((List.range 291).filter fun t => Tryz.prog.rowNamed t [101, 114, 114, 111, 114]) = [126] := by kernel_rfl
theorem Row.size : Tryz.prog.types.size = 291 := by kernel_rfl
theorem Row.cells : Tryz.prog.cellsOf 3 = 1 := by kernel_rfl
theorem Row.bytes : Tryz.prog.bytesOf 3 = 8 := by kernel_rfl
theorem handle_of_laid {W : World} (h : laidMetH Tryz.prog [("errors.errorType", Rows.laid_errors_errorType)] W) : Glob (NC W) := by
  have h' : laidMet Tryz.prog [] W ∧ handlesMet Tryz.prog [("errors.errorType", Rows.laid_errors_errorType)] W := h
  obtain ⟨name, u, ty, e1, e2, e3, e4, e5⟩ := h'.2 _ (List.mem_singleton.2 rfl)
  have en : name = [101, 114, 114, 111, 114] := (Option.some.inj e1).symm
  subst en
  obtain rfl : u = 208 := Option.some.inj (e2.symm.trans (by kernel_rfl))
  have hm : ty ∈ (List.range 291).filter fun t => Tryz.prog.rowNamed t [101, 114, 114, 111, 114] := List.mem_filter.2 ⟨List.mem_range.2 (by rw [← Row.size]; exact e3), e4⟩
  rw [Row.oneRow] at hm
  obtain rfl := List.mem_singleton.1 hm
  have hh : typeHandle Tryz.prog 126 = .pointer (some ⟨9, 126, none⟩) := by kernel_rfl
  rw [hh] at e5
  have hc : W.cell? ⟨0, 0, none⟩ = some (.iface 208 (.agg #[.pointer (some ⟨9, 126, none⟩)])) := by simpa using World.var?_cell Row.et e5 0
  obtain ⟨_, cs, T, fz, hb, hv⟩ := HY hc
  exact ⟨cs, T, fz, hb, hv⟩
noncomputable def laidWorld (os : Os) : World :=
  let w0 := World.holding Tryz.prog os ⟨#[], #[], []⟩
  { w0 with heap := w0.heap.modify 0 fun
      | .cells _ t frozen => .cells #[.iface 208 (.agg #[.pointer (some ⟨9, 126, none⟩)])] t frozen
      | o => o }
theorem Row.lifts : (false == Tryz.pinned.checked.prog.liftsFinal) = true := by kernel_rfl
theorem Row.make : (Tryz.pinned.checked.prog.make == some Make.cut) = true := by kernel_rfl
theorem Row.looks : true = Tryz.pinned.checked.prog.looks [] := by kernel_rfl
end Go.Proofs.YtcaocbhbofejnaaGreatDoor

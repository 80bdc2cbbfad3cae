/- If coaches have other numbers, as many draws are needed, as many yards are reached, and as many coaches are cold. -/
import Derived.Test.YtcaocbhbofejnaaGreatDoorP6
import Derived.Test.YtcaocbhbofejnaaGreatDoorP2
import Derived.Test.YtcaocbhbofejnaaGreatDoorP4
import Derived.Test.YtcaocbhbofejnaaGreatDoorP1
import Derived.Test.YtcaocbhbofejnaaGreatDoorP5
import Derived.ChangeVars
import Derived.JoinedOf
import Derived.RowKit
import Derived.RowKitTokens
import Derived.LaidLaws
import Derived.LaidHandle
import Derived.Stop.Joined
import Derived.SevenTiedAt
import Derived.WideKeyArgs
import Derived.ProofKit
import Derived.SizedLaws
set_option linter.unusedVariables false
set_option linter.unusedSimpArgs false
namespace Go.Proofs.YtcaocbhbofejnaaGreatDoor
open Go Go.Sl Go.Sh
set_option maxRecDepth 100000
noncomputable def c_PlayR (p : List Nat) : Code := sub (AW Tryz.f41) p
theorem PlayR_ct (I : Imm) (y : Value) (Y : Yard) (a : Value) (l : List Shift) (y_f : IsYard I y Y) (a_f : HU I a l) : Ct Tryz.prog 41 #[y, a] I ([]) (fun v I' M' => ∃ u0 : Value, v = .tuple #[u0, .int .i64 ((BD Y l).2)] ∧ M' = [] ∧ IsYard I' u0 ((BD Y l).1)) := by
 obtain ⟨y1, y2, y3, q0, e5, e6, e7⟩ := id y_f;subst q0;obtain ⟨d1, d2, o4, o7, k3, o5, o6, o8⟩ := id e5;subst k3;obtain ⟨d3, d4, o9, p2, k4, p0, p1, p3⟩ := id e6;subst k4;obtain ⟨d5, d6, p4, p7, l3, k5, p5, p6, p8, p9⟩ := id e7;subst k5;obtain ⟨f7, f8, q1, q4, n1, q2, q3, d7⟩ := id a_f;subst n1;refine fr (args := [_, _]) (N := 40) Tryz.func41 (fun F => ?_);show Run _ _ (c_PlayR []) _ _ [(0, .agg #[.slice d1 Y.cars.length d2, .slice d3 Y.room.length d4, .slice d5 Y.tracks.length d6]), (1, .slice f7 l.length f8)] _ _;refine rnm (rqr ?_);refine sS (sb 2 26 #[.slice d1 Y.cars.length d2, .slice d3 Y.room.length d4, .slice d5 Y.tracks.length d6] (fun b1 => (sS (sal 4 26 #[.slice none 0 0, .slice none 0 0, .slice none 0 0] (fun b3 => (sp 1 [(5, .int .i64 (0))] (se (rq (rqr (sd (dnb 9 1 0 b1 [.slice d1 Y.cars.length d2, .slice d3 Y.room.length d4, .slice d5 Y.tracks.length d6]) (sd (dc 10 (fun I' hI => (CheckR_ct I' _ (Y) ((BL e5 e6 e7).mono hI) :))) (sp 1 [(6, .int .i64 ((AG Y)))] (sn (sp 2 [(12, .bool (!(cmp .eql ((AG Y)) (0))))] (se (rc 12 rfl (fun h1 => ?_) (fun h1 => ?_)))))))))))))))))
 ·
  have g1 := h1;have h1 := DE (DH h1);refine rqr (sp 2 [(14, .int .i64 ((AG Y))), (13, .agg #[.slice none 0 0, .slice none 0 0, .slice none 0 0])] (sS (ss 0 0 b3 [.slice none 0 0, .slice none 0 0, .slice none 0 0] [.slice none 0 0, .slice none 0 0, .slice none 0 0] (_ :: _ :: _) (cs := [_, _, _]) rfl rfl (sp 1 [(5, .int .i64 ((AG Y)))] (se (BS ((RP (ES (t := 4) (u := 5) (T := 26) (n := 3) [] (by kernel_rfl) rfl (by kernel_rfl) rfl (BV (n := 3) (cs := #[.slice none 0 0, .slice none 0 0, .slice none 0 0]) (b := b3) (off := 0) (T := 26) (fz := (0, 0)) (vs := [.slice none 0 0, .slice none 0 0, .slice none 0 0]) (by simp) rfl) (.inl ⟨by kernel_rfl, rfl⟩) rfl (TC _ (TC _ (TR _))) (IR _) ?_)))))))));exact ⟨_, (congrArg (fun n => Value.tuple #[_, .int .i64 n]) (show AG Y = _ from (congrArg Prod.snd (KP h1)).symm)), rfl, ((show BI = _ from (congrArg Prod.fst (KP h1)).symm) ▸ (BL (IsSl.nil _) (IsSl.nil _) (IsRows.nil _)))⟩
 have g1 := h1;have h1 := DF (CT h1);refine AM (NX (rqr ?_));have hv : Valid Y := by (show AG Y = 0; omega)
 have l0 := hv.fine; have c4 := hv.good; have q6 := hv.lens; have q7 := l0.len; have q8 := l0.room3; have q9 := c4.le;refine sd (dnb 15 1 0 b1 [.slice d1 Y.cars.length d2, .slice d3 Y.room.length d4, .slice d5 Y.tracks.length d6]) (sS (sc (some 16) (copiedR_ct _ _ (Y) (BL e5 e6 e7) (by first | assumption | omega) (by first | assumption | omega) (by first | assumption | omega) (by exact c4.le) :) (.refl _) (fun n6 I5 n4 d8 n2 => ?_)));obtain ⟨r0, l2, l1, g6⟩ := n2;rw [l2, l1]; clear l2 l1;replace d7 := d7.mono d8;have f1 := g6;obtain ⟨n8, n9, o0, f0, c5, c6, c7⟩ := id f1;subst f0;obtain ⟨a9, b0, g8, h4, d9, g9, h0, h5⟩ := id c5;subst d9;obtain ⟨b2, b4, h6, h9, e0, h7, h8, i0⟩ := id c6;subst e0;obtain ⟨b5, b6, i1, i4, f9, e1, i2, i3, i5, i6⟩ := id c7;subst e1;refine nm ?_;refine sS (ss 1 0 b1 [.slice a9 Y.cars.length b0, .slice b2 Y.room.length b4, .slice b5 Y.tracks.length b6] [.slice a9 Y.cars.length b0, .slice b2 Y.room.length b4, .slice b5 Y.tracks.length b6] (_ :: _ :: _) (cs := [_, _, _]) rfl rfl (se (rq (rqr (sp 1 [(7, .int .i64 (0))] (se (rb 0 ?_)))))));refine rl (fun mz a w => ∃ J0 : Imm, ∃ k : Nat, ∃ Z : Yard, ∃ k6 : Value, ∃ k7 : Value, ∃ k8 : Value, (I5.le J0) ∧ (k ≤ l.length) ∧ (AO Y l = AO Z (l.drop k)) ∧ (GoodY Z) ∧ (Z.tracks.length = Y.tracks.length) ∧ (EK J0 k6 Z.cars) ∧ (BC J0 k7 Z.room) ∧ (IsRows J0 k8 Z.tracks) ∧ Slots 40 [(7, .int .i64 ↑k), (1, .slice f7 l.length f8), (2, .pointer (some ⟨b1, 0, none⟩)), (4, .pointer (some ⟨b3, 0, none⟩))] a ∧ a.defers = [] ∧ St J0 ((b3, Obj.cells #[.slice none 0 0, .slice none 0 0, .slice none 0 0] 26 (0, 0)) :: (b1, Obj.cells #[k6, k7, k8] 26 (0, 0)) :: F) w ∧ mz = l.length - k) ?_ ?_
 ·intro a w hS hD hW;exact ⟨_, I5, 0, Y, (.slice a9 Y.cars.length b0), (.slice b2 Y.room.length b4), (.slice b5 Y.tracks.length b6), IR _, Nat.zero_le _, rfl, c4, rfl, c5, c6, c7, hS.sub (.cons 7 rfl (.cons 1 rfl (.cons 2 rfl (.cons 4 rfl (.nil _))))), hD, hW, rfl⟩
 rintro mz a w ⟨J0, k, Z, k6, k7, k8, hJ0, hk, hr, hg, n3, a6, a7, a8, hS, hD, hW, rfl⟩
 refine BB hS hD hW ?_;clear hS hD hW a w;replace d7 := d7.mono hJ0;obtain ⟨a0, a1, l4, l7, f4, l5, l6, l8⟩ := id a6;subst f4;obtain ⟨a2, a3, l9, m2, f5, m0, m1, m3⟩ := id a7;subst f5;obtain ⟨a4, a5, m4, m7, k9, f6, m5, m6, m8, m9⟩ := id a8;subst f6;have q5 := hg.len;refine rq (rqr (sp 4 [(20, .bool (cmp .lss (↑k) (↑(l.length))))] (se (rc 20 rfl (fun h2 => ?_) (fun h2 => ?_)))))
 ·
  have g2 := h2;have h2 := CE h2;refine AM (NX (rq (rb 1 (rq (rq ?_)))));refine rd0 5 ?_;refine AB (dnb 23 1 0 b1 [.slice a0 Z.cars.length a1, .slice a2 Z.room.length a3, .slice a4 Z.tracks.length a5]) (ox 2 [(25, .int .i64 (↑k)), (24, .slice f7 l.length f8)] ?_);refine AB (di 26 3 (k) d7.addr) ?_;refine AB (DV (x := (.tmp 26)) (T := 52) (n := 3) (vs := [.int .i64 ((l.getD (k) AK).frm), .int .i64 ((l.getD (k) AK).to), .int .i64 ((l.getD (k) AK).many)]) (d := 27) (ty := 52) (gd := none) (by kernel_rfl) rfl (by kernel_rfl) (by kernel_rfl) rfl rfl (GM d7 (k) (by omega))) ?_;refine BN (sd (dc 28 (fun I' hI => (JN I' _ (Z) (l.getD (k) AK) ((BL a6 a7 a8).mono hI) (by exact hg.ok) (by exact hg.small) (by exact hg.len) (by exact hg.le) :))) (sp 1 [(8, .int .i64 ((BA Z (l.getD (k) AK))))] (sn (sp 2 [(30, .bool (!(cmp .eql ((BA Z (l.getD (k) AK))) (0))))] (se (rc 30 rfl (fun h3 => ?_) (fun h3 => ?_)))))))
  ·
   have g3 := h3;have h3 := DE (DH h3);refine rqr (sp 2 [(32, .int .i64 ((BA Z (l.getD (k) AK)))), (31, .agg #[.slice none 0 0, .slice none 0 0, .slice none 0 0])] (sS (ss 0 0 b3 [.slice none 0 0, .slice none 0 0, .slice none 0 0] [.slice none 0 0, .slice none 0 0, .slice none 0 0] (_ :: _ :: _) (cs := [_, _, _]) rfl rfl (sp 1 [(5, .int .i64 ((BA Z (l.getD (k) AK))))] (se (BS ((RP (RB (RP (RP (RB (RP (ES (t := 4) (u := 5) (T := 26) (n := 3) [] (by kernel_rfl) rfl (by kernel_rfl) rfl (BV (n := 3) (cs := #[.slice none 0 0, .slice none 0 0, .slice none 0 0]) (b := b3) (off := 0) (T := 26) (fz := (0, 0)) (vs := [.slice none 0 0, .slice none 0 0, .slice none 0 0]) (by simp) rfl) (.inl ⟨by kernel_rfl, rfl⟩) rfl (TC _ (TC _ (TR _))) (IT d8 hJ0) ?_))))))))))))));exact ⟨_, (congrArg (fun n => Value.tuple #[_, .int .i64 n]) (show BA _ _ = _ from (congrArg Prod.snd ((EZ hv).trans (hr.trans (HZ (by omega) h3)))).symm)), rfl, ((show BI = _ from (congrArg Prod.fst ((EZ hv).trans (hr.trans (HZ (by omega) h3)))).symm) ▸ (BL (IsSl.nil _) (IsSl.nil _) (IsRows.nil _)))⟩
  have g3 := h3;have h3 := DF (CT h3);refine AM (NX ?_);refine rd0 5 ?_;refine AB (dnb 33 1 0 b1 [.slice a0 Z.cars.length a1, .slice a2 Z.room.length a3, .slice a4 Z.tracks.length a5]) (ox 2 [(35, .int .i64 (↑k)), (34, .slice f7 l.length f8)] ?_);refine AB (di 36 3 (k) d7.addr) ?_;refine AB (DV (x := (.tmp 36)) (T := 52) (n := 3) (vs := [.int .i64 ((l.getD (k) AK).frm), .int .i64 ((l.getD (k) AK).to), .int .i64 ((l.getD (k) AK).many)]) (d := 37) (ty := 52) (gd := none) (by kernel_rfl) rfl (by kernel_rfl) (by kernel_rfl) rfl rfl (GM d7 (k) (by omega))) ?_;refine BN ?_;have g4 := JV h3;refine sS (sc (some 38) (drawn_ct _ _ (Z) (l.getD (k) AK) (BL a6 a7 a8) (by exact g4.1) (by exact g4.2.1) (by exact g4.2.2) (by exact hg.le) (by omega) :) (.refl _) (fun n7 n0 n5 c3 g5 => ?_));obtain ⟨r1, e9, e8, g7⟩ := g5;rw [e9, e8]; clear e9 e8;replace a6 := a6.mono c3;replace a7 := a7.mono c3;replace a8 := a8.mono c3;have f3 := g7;obtain ⟨o1, o2, o3, f2, c8, c9, d0⟩ := id f3;subst f2;obtain ⟨b7, b8, i7, j0, e2, i8, i9, j1⟩ := id c8;subst e2;obtain ⟨b9, c0, j2, j5, e3, j3, j4, j6⟩ := id c9;subst e3;obtain ⟨c1, c2, j7, k0, g0, e4, j8, j9, k1, k2⟩ := id d0;subst e4;refine nm ?_;refine sS (ss 1 0 b1 [.slice b7 ((moved Z (l.getD (k) AK)).cars).length b8, .slice b9 ((moved Z (l.getD (k) AK)).room).length c0, .slice c1 ((moved Z (l.getD (k) AK)).tracks).length c2] [.slice b7 ((moved Z (l.getD (k) AK)).cars).length b8, .slice b9 ((moved Z (l.getD (k) AK)).room).length c0, .slice c1 ((moved Z (l.getD (k) AK)).tracks).length c2] (_ :: _ :: _) (cs := [_, _, _]) rfl rfl (ee (NB (NX (rr (sp 1 [(21, .int .i64 (↑k))] (sd (da 22 (↑k) (1)) (sp 1 [(7, .int .i64 (↑k + 1))] (ee ?_)))))))));refine AE (l.length - (k+1)) (by omega) ?_;intro a w hS hD hW;exact ⟨n0, k+1, moved Z (l.getD k AK), (.slice b7 ((moved Z (l.getD (k) AK)).cars).length b8), (.slice b9 ((moved Z (l.getD (k) AK)).room).length c0), (.slice c1 ((moved Z (l.getD (k) AK)).tracks).length c2), (IT hJ0 c3), by omega, hr.trans (MJ (by omega) h3), hg.moved h3, moved_len.trans n3, c8, c9, d0, hS.sub (.consE 7 rfl rfl (.cons 1 rfl (.cons 2 rfl (.cons 4 rfl (.nil _))))), hD, hW, rfl⟩
 have g2 := h2;have h2 := CD h2;refine CJ 0 ((EP (EP (EB (NX (rqr (sd (dnb 39 1 0 b1 [.slice a0 Z.cars.length a1, .slice a2 Z.room.length a3, .slice a4 Z.tracks.length a5]) (sS (ss 0 0 b3 [.slice a0 Z.cars.length a1, .slice a2 Z.room.length a3, .slice a4 Z.tracks.length a5] [.slice a0 Z.cars.length a1, .slice a2 Z.room.length a3, .slice a4 Z.tracks.length a5] (_ :: _ :: _) (cs := [_, _, _]) rfl rfl (sp 1 [(5, .int .i64 (0))] (se (BS (ES (t := 4) (u := 5) (T := 26) (n := 3) [] (by kernel_rfl) rfl (by kernel_rfl) rfl (BV (n := 3) (cs := #[.slice a0 Z.cars.length a1, .slice a2 Z.room.length a3, .slice a4 Z.tracks.length a5]) (b := b3) (off := 0) (T := 26) (fz := (0, 0)) (vs := [.slice a0 Z.cars.length a1, .slice a2 Z.room.length a3, .slice a4 Z.tracks.length a5]) (by simp) rfl) (.inl ⟨by kernel_rfl, rfl⟩) rfl (TC _ (TC _ (TR _))) (IT d8 hJ0) ?_)))))))))))));exact ⟨_, (congrArg (fun n => Value.tuple #[_, .int .i64 n]) (show 0 = _ from (congrArg Prod.snd ((EZ hv).trans (hr.trans (HD (by omega))))).symm)), rfl, ((show Z = _ from (congrArg Prod.fst ((EZ hv).trans (hr.trans (HD (by omega))))).symm) ▸ (BL a6 a7 a8))⟩
end Go.Proofs.YtcaocbhbofejnaaGreatDoor
namespace Go.Sh
open Go Go.Sl
theorem KV {α β : Type} {f g : α → Option β} : ∀ (l : List α), (∀ x ∈ l, f x = g x) → l.findSome? f = l.findSome? g := by
  intro l
  induction l with
  | nil => intro _; rfl
  | cons x l ih =>
    intro h;rw [List.findSome?_cons, List.findSome?_cons, h x (by simp), ih fun y hy => h y (by simp [hy])]
theorem allP_one (p : Yard → Bool) : DR [p] = p := by funext Y; simp [DR]
section
variable {Y : Yard} {goal : Yard → Bool} {d k : Nat} {ds : List Shift}
end
theorem deal_put {n k : Nat} (hk : k < n) : (CM k ++ List.replicate (n - k) (0 : Int)).set k (k : Int) = CM (k + 1) ++ List.replicate (n - (k + 1)) 0 := by
  rw [List.set_append_right _ _ (by rw [DB]; omega), DB, Nat.sub_self, show n - k = (n - (k + 1)) + 1 by omega, List.replicate_succ, List.set_cons_zero, JB];simp
theorem swap_perm {l : List Int} {i j : Nat} (hi : i < l.length) (hj : j < l.length) : ((l.set i (l.getD j 0)).set j (l.getD i 0)).Perm l := by
  have e1 : l.getD i 0 = l[i] := by simp [List.getD, hi]
  have e2 : l.getD j 0 = l[j] := by simp [List.getD, hj]
  rw [e1, e2];exact List.set_set_perm hi hj
theorem orderErr_of {Y : Yard} (hv : Valid Y) {o : List Int} (hn : o.Nodup) (hr : ∀ c ∈ o, 0 ≤ c ∧ c < (Y.cars.length : Int)) : BU Y o = 0 := by
  unfold BU;rw [if_pos (show AG Y = 0 from hv)];exact goO_fine o [] (by simpa using hn) hr
theorem order_train {Y X : Yard} (hv : Valid Y) (k : Kin Y X) : BU Y (X.tracks.getD 0 []) = 0 ∧ (X.tracks.getD 0 []).length ≤ 5 := by
  have hp : X.tracks.flatten.Perm (CM Y.cars.length) := k.perm.trans hv.fine.whole_perm;have h0 : 0 < X.tracks.length := by rw [k.len, hv.fine.len]; exact hv.fine.room1
  have hm : X.tracks.getD 0 [] ∈ X.tracks := AH h0;have hsub : (X.tracks.getD 0 []).Sublist X.tracks.flatten := List.sublist_flatten_of_mem hm;have hnd : X.tracks.flatten.Nodup := hp.nodup_iff.2 ((FG _).imp fun hab => by omega);have hl := ED hm;have hl2 := hp.length_eq;rw [DB] at hl2;have := hv.fine.cars;exact ⟨orderErr_of hv (hsub.nodup hnd) fun c hc => mem_wholeL.1 (hp.mem_iff.1 (hsub.subset hc)), by omega⟩
theorem order_deal {Y : Yard} (hv : Valid Y) {l : List Int} (hp : l.Perm (CM Y.cars.length)) (m : Nat) : BU Y (l.take m) = 0 ∧ (l.take m).length ≤ 5 := by
  have hnd : l.Nodup := hp.nodup_iff.2 ((FG _).imp fun hab => by omega);have hl := hp.length_eq;rw [DB] at hl;have := hv.fine.cars;exact ⟨orderErr_of hv ((List.take_sublist m l).nodup hnd) fun c hc => mem_wholeL.1 (hp.mem_iff.1 (List.mem_of_mem_take hc)), by rw [List.length_take]; omega⟩
end Go.Sh
namespace Go.Sl
open Go
theorem own_val_int {E : TypeId} {v : Value} {M : Seg} {vs : List Value} {ys : List Int} (h : Own E 1 AN v vs M) (he : vs = ys.map fun n => Value.int .i64 n) : Own E 1 AQ v ys M := by
  have e1 : DU 1 AN vs = DU 1 AQ ys := by
    rw [he, encL_vals];simp only [DU, AQ, List.range_one, List.map_cons, List.map_nil];exact List.map_eq_flatMap
  have e2 : vs.length = ys.length := by rw [he, List.length_map]
  rcases h with ⟨hv, hx, hM⟩ | ⟨b, c, sp, hv, hc, hM, hl⟩
  · refine .inl ⟨hv, ?_, hM⟩
    rw [hx] at e2;exact List.length_eq_zero_iff.1 e2.symm
  · exact .inr ⟨b, c, sp, by rw [hv, e2], by rw [← e2]; exact hc, by rw [← e1]; exact hM, by rw [← e1]; exact hl⟩
end Go.Sl
namespace Go.Sh
open Go Go.Sl
end Go.Sh
namespace Go.Proofs.YtcaocbhbofejnaaGreatDoor
open Go Go.Sl Go.Sh
set_option maxRecDepth 100000
noncomputable def c_Deal (p : List Nat) : Code := sub (AW Tryz.f42) p
theorem Deal_ct (I : Imm) (p : Nat) (p_s : Int) (n : Nat) (hn : n ≤ 1000) : Ct Tryz.prog 42 #[.pointer (some ⟨p, 0, none⟩), .int .i64 ↑n] I ([(p, Obj.cells #[.int .u64 (p_s)] 95 (0, 0))]) (fun v I' M' => ∃ p_t : Int, ∃ l : List Int, ∃ u : Value, ∃ Ms : Seg, v = u ∧ M' = [(p, Obj.cells #[.int .u64 (p_t)] 95 (0, 0))] ++ (Ms) ∧ (l.Perm (CM n)) ∧ Own 3 1 AQ u (l) Ms) := by
 refine fr (args := [_, _]) (N := 45) Tryz.func42 (fun F => ?_);show Run _ _ (c_Deal []) _ _ [(0, .pointer (some ⟨p, 0, none⟩)), (1, .int .i64 (↑n))] _ _;refine rnm (rqr ?_);refine sp 1 [(4, .slice none 0 0)] (sn (sp 2 [(10, .int .i64 ((if (↑n : Int) < (0 : Int) then 0 else ↑n)))] (EN 10 rfl (show (.int .i64 ((if (↑n : Int) < (0 : Int) then 0 else ↑n)) : Value) = .int .i64 (↑n) from congrArg (Value.int .i64) (by split <;> omega)) (sS (MP (d := 11) (x := (.tmp 10)) (T := 23) (E := 3) (bs := 8) (n := n) (z := .int .i64 (0)) (zv := .int .i64 (0)) (ty := 23) (gd := none) (by kernel_rfl) rfl (by kernel_rfl) (by kernel_rfl) (by kernel_rfl) rfl (by kernel_rfl) (by decide) rfl (by omega) (fun b1 => ?_))))));have d5 : Own 3 1 AN (.slice (some ⟨b1, 0, none⟩) n n) (List.replicate n (.int .i64 (0))) [(b1, Obj.cells (List.replicate n (.int .i64 (0))).toArray 3 (0, 0))] := Own.made _;obtain ⟨mS4, hmS4⟩ : ∃ X : Seg, X = [(b1, Obj.cells (List.replicate n (.int .i64 (0))).toArray 3 (0, 0))] := ⟨_, rfl⟩;rw [← hmS4] at d5;refine AV (I' := I) (M' := ((mS4 ++ (p, Obj.cells #[.int .u64 (p_s)] 95 (0, 0)) :: F))) (fun w h => by rw [hmS4]; exact h) (pm (M' := ((p, Obj.cells #[.int .u64 (p_s)] 95 (0, 0)) :: (mS4 ++ F))) PM ?_);have d1 := own_val_int (ys := List.replicate n (0 : Int)) d5 (by rw [List.map_replicate]);refine sp 1 [(5, .slice (some ⟨b1, 0, none⟩) n n)] (se (rq (rqr (sp 1 [(6, .int .i64 (0))] (se (rb 0 ?_))))));refine rl (fun mz a w => ∃ k : Nat, ∃ b2 : Value, ∃ a7 : Seg, (k ≤ n) ∧ (Own 3 1 AQ b2 ((CM k ++ List.replicate (n - k) (0 : Int))) a7) ∧ Slots 45 [(5, b2), (6, .int .i64 ↑k), (0, .pointer (some ⟨p, 0, none⟩)), (1, .int .i64 (↑n)), (4, .slice none 0 0)] a ∧ a.defers = [] ∧ St I ((p, Obj.cells #[.int .u64 (p_s)] 95 (0, 0)) :: (a7 ++ F)) w ∧ mz = n - k) ?_ ?_
 ·intro a w hS hD hW;exact ⟨_, 0, .slice (some ⟨b1, 0, none⟩) n n, mS4, Nat.zero_le _, (show Own _ _ _ _ (CM 0 ++ List.replicate (n - 0) (0 : Int)) _ from d1), hS.sub (.cons 5 rfl (.cons 6 rfl (.cons 0 rfl (.cons 1 rfl (.cons 4 rfl (.nil _)))))), hD, hW, rfl⟩
 rintro mz a w ⟨k, b2, a7, hk, a8, hS, hD, hW, rfl⟩
 refine BB hS hD hW ?_;clear hS hD hW a w;obtain ⟨a5, a6, b4, c6⟩ := a8.shape; subst b4;have d7 := DB k;have e6 : (CM k ++ List.replicate (n - k) (0 : Int)).length = n := by rw [LA, d7, List.length_replicate]; omega
 refine rq (rqr (sp 3 [(14, .bool (cmp .lss (↑k) (↑n)))] (se (rc 14 rfl (fun h1 => ?_) (fun h1 => ?_)))))
 ·
  have c8 := h1;have h1 := CE h1;refine AM (NX (rq (rb 1 (rr (sp 3 [(19, .int .i64 (↑k)), (18, .int .i64 (↑k)), (17, .slice a5 ((CM k ++ List.replicate (n - k) (0 : Int))).length a6)] ?_)))));obtain ⟨e7, c5⟩ := a8.row 0;refine sd (di 20 1 (k) c5.addr) (sS (CV (T := 3) (x := (.tmp 20)) (y := (.tmp 19)) (rc := fun i f => AQ (((CM k ++ List.replicate (n - k) (0 : Int))).getD i 0) f) 0 (k) 0 (↑k) (ty := 0) (gd := none) (by kernel_rfl) rfl a8 c5 (by omega) (by decide) rfl rfl (by kernel_rfl) rfl rfl (by intro f hf; match f, hf with | 0, _ => rfl) (PM.symm) (fun d4 d6 => (pm (M' := ((p, Obj.cells #[.int .u64 (p_s)] 95 (0, 0)) :: (d4 ++ F))) PM (ee (NB (NX (rr (sp 1 [(15, .int .i64 (↑k))] (sd (da 16 (↑k) (1)) (sp 1 [(6, .int .i64 (↑k + 1))] (ee ?_))))))))))));refine AE (n - (k+1)) (by omega) ?_;intro a w hS hD hW;exact ⟨k+1, .slice a5 ((CM k ++ List.replicate (n - k) (0 : Int))).length a6, d4, by omega, (by rw [← deal_put (by omega)]; exact d6), hS.sub (.consE 5 rfl rfl (.consE 6 rfl rfl (.cons 0 rfl (.cons 1 rfl (.cons 4 rfl (.nil _)))))), hD, hW, rfl⟩
 have c8 := h1;have h1 := CD h1;refine CJ 0 ((EP (EP (EB (NX (rq (rqr (sp 1 [(21, .int .i64 (↑n))] (sd (dsb 22 (↑n) (1)) (sp 1 [(7, .int .i64 (↑n - 1))] (se (rb 2 ?_))))))))))));refine rl (fun mz a w => ∃ J1 : Imm, ∃ k : Nat, ∃ zs : List Int, ∃ s : Int, ∃ b3 : Value, ∃ a2 : Seg, (I.le J1) ∧ (k ≤ n) ∧ (zs.Perm (CM n)) ∧ (Own 3 1 AQ b3 (zs) a2) ∧ Slots 45 [(5, b3), (7, .int .i64 (↑k - 1)), (0, .pointer (some ⟨p, 0, none⟩)), (4, .slice none 0 0)] a ∧ a.defers = [] ∧ St J1 ((p, Obj.cells #[.int .u64 (s)] 95 (0, 0)) :: (a2 ++ F)) w ∧ mz = k + 1) ?_ ?_
 ·intro a w hS hD hW;exact ⟨_, I, n, (CM n), p_s, .slice a5 ((CM k ++ List.replicate (n - k) (0 : Int))).length a6, a7, IR _, Nat.le_refl _, PR _, ((show (CM k ++ List.replicate (n - k) (0 : Int)) = CM n from by rw [show k = n by omega, Nat.sub_self, List.replicate_zero, List.append_nil]) ▸ a8), hS.sub (.cons 5 rfl (.cons 7 rfl (.cons 0 rfl (.cons 4 rfl (.nil _))))), hD, hW, rfl⟩
 rintro mz a w ⟨J1, k, zs, s, b3, a2, hJ1, hk, d3, a3, hS, hD, hW, rfl⟩
 refine BB hS hD hW ?_;clear hS hD hW a w;obtain ⟨a0, a1, b5, c7⟩ := a3.shape; subst b5;have d8 := d3.length_eq;rw [DB] at d8;refine rq (rqr (sp 2 [(24, .bool (cmp .gtr (↑k - 1) (0)))] (se (rc 24 rfl (fun h2 => ?_) (fun h2 => ?_)))))
 ·
  have c9 := h2;have h2 := GY h2;refine AM (NX (rq (rb 3 (rqr (sp 2 [(28, .int .i64 (↑k - 1)), (27, .pointer (some ⟨p, 0, none⟩))] (sS (sc (some 29) (F := ((a2 ++ F))) (OA _ (p) (s) (↑k - 1) (by omega) :) (.refl _) (fun e5 I9 e4 c1 d2 => ?_))))))));obtain ⟨a4, a9, c4, c2, e3⟩ := d2;rw [c4, c2]; clear c4 c2;refine nm ?_;refine sp 1 [(8, .int .i64 (↑a9))] (se ?_);refine rdX (M := ((p, Obj.cells #[.int .u64 (a4)] 95 (0, 0)) :: (a2 ++ []))) (F0 := F) [] 14 [(0, true), (1, true), (2, true), (3, true), (4, true), (5, true), (6, true), (7, true), (8, true), (9, true), (10, true), (11, true), (12, true), (13, false)] (by simp only [AA, CA, NA, List.append_nil]; exact PR _) hA_nil ?_;refine EF (EW (d := 30) (v := .slice a0 zs.length a1) (by kernel_rfl)) ?_;refine EF (EW (d := 31) (v := .int .i64 (↑k - 1)) (by kernel_rfl)) ?_;refine KO (EW (d := 32) (v := .slice a0 zs.length a1) (by kernel_rfl)) ?_;refine KO (EW (d := 33) (v := .int .i64 (↑a9)) (by kernel_rfl)) ?_;refine EF (EW (d := 34) (v := .slice a0 zs.length a1) (by kernel_rfl)) ?_;refine EF (EW (d := 35) (v := .int .i64 (↑a9)) (by kernel_rfl)) ?_;obtain ⟨d9, b6⟩ := a3.row 0;refine EF (di 36 1 (a9) b6.addr) ?_;refine EF (dl 37 (b6.get (a9) (by omega) 0 (by decide) _ _ (fun x hx => by simp [hx]))) ?_;refine EF (EW (d := 38) (v := .slice a0 zs.length a1) (by kernel_rfl)) ?_;refine EF (EW (d := 39) (v := .int .i64 (↑k - 1)) (by kernel_rfl)) ?_;obtain ⟨e0, b7⟩ := a3.row 0;refine EF (diI 40 1 (↑k - 1) b7.addr) ?_;refine EF (dl 41 (b7.get ((↑k - 1 : Int).toNat) (by omega) 0 (by decide) _ _ (fun x hx => by simp [hx]))) ?_;obtain ⟨e1, b8⟩ := a3.row 0;refine EF (diI 42 1 (↑k - 1) b8.addr) ?_;refine IU (Mx := fun FX => ((p, Obj.cells #[.int .u64 (a4)] 95 (0, 0)) :: (a2 ++ FX))) rfl (fun FX => by simp only [AA, CA, NA, List.append_nil]; exact PR _) (fun FX => ?_);refine id (CV (T := 3) (x := (.tmp 42)) (y := (.tmp 37)) (rc := fun i f => AQ ((zs).getD i 0) f) 0 ((↑k - 1 : Int).toNat) 0 (zs.getD (a9) 0) (ty := 0) (gd := none) (by kernel_rfl) rfl a3 b8 (by omega) (by decide) rfl rfl (by kernel_rfl) rfl rfl (by intro f hf; match f, hf with | 0, _ => rfl) (PM.symm) (fun b9 c3 => ?_));refine MI (M1 := ((p, Obj.cells #[.int .u64 (a4)] 95 (0, 0)) :: (b9 ++ []))) (by simp only [AA, CA, NA, List.append_nil]; exact PM) (.wait (by kernel_rfl) (.wait (by kernel_rfl) (.wait (by kernel_rfl) (.wait (by kernel_rfl) (.wait (by kernel_rfl) (.wait (by kernel_rfl) (.wait (by kernel_rfl) (.wait (by kernel_rfl) (.wait (by kernel_rfl) (.none (.none (.wait (by kernel_rfl) (.wait (by kernel_rfl) .nil))))))))))))) ?_;refine ofx_end (AV (M' := ((p, Obj.cells #[.int .u64 (a4)] 95 (0, 0)) :: (b9 ++ F))) (fun w h => by simpa only [AA, CA, NA, List.append_nil] using h) (nm ?_));obtain ⟨e2, b0⟩ := c3.row 0;simp only [LS] at b0;refine sd (di 43 1 (a9) (fun _ => b0.addr (by omega)) (n := zs.length)) (sS (CV (T := 3) (x := (.tmp 43)) (y := (.tmp 41)) (rc := fun i f => AQ ((zs.set ((↑k - 1 : Int).toNat) (zs.getD (a9) 0)).getD i 0) f) 0 (a9) 0 (zs.getD ((↑k - 1 : Int).toNat) 0) (ty := 0) (gd := none) (by kernel_rfl) rfl c3 (by simpa only [LS] using b0) (by simp only [LS]; omega) (by decide) rfl rfl (by kernel_rfl) rfl rfl (by intro f hf; match f, hf with | 0, _ => rfl) (PM.symm) (fun c0 d0 => (pm (M' := ((p, Obj.cells #[.int .u64 (a4)] 95 (0, 0)) :: (c0 ++ F))) PM (ee (NB (NX (rr (sp 1 [(25, .int .i64 (↑k - 1))] (sd (dsb 26 (↑k - 1) (1)) (sp 1 [(7, .int .i64 ((↑k - 1) - 1))] (ee ?_))))))))))));refine AE (k - 1 + 1) (by omega) ?_;intro a w hS hD hW;exact ⟨I9, k - 1, (zs.set ((↑k - 1 : Int).toNat) (zs.getD (a9) 0)).set (a9) (zs.getD ((↑k - 1 : Int).toNat) 0), a4, .slice a0 zs.length a1, c0, (IT hJ1 c1), by omega, (swap_perm (by omega) (by omega)).trans d3, d0, hS.sub (.consE 5 rfl rfl (.consE 7 rfl (congrArg (Value.int .i64) (by omega)) (.cons 0 rfl (.cons 4 rfl (.nil _))))), hD, hW, rfl⟩
 have c9 := h2;have h2 := GX h2;refine CJ 2 ((EP (EP (EB (NX (rqr (sp 2 [(4, .slice a0 zs.length a1)] (se (BS (AD (t := 4) ([(p, Obj.cells #[.int .u64 (s)] 95 (0, 0))] ++ (a2)) (by kernel_rfl) rfl (by simp only [AA, NA, CA]; exact (TK _ (TA (TR _) _))) hJ1 ?_))))))))));exact ⟨_, _, _, _, rfl, rfl, d3, a3⟩
noncomputable def c_orderOf (p : List Nat) : Code := sub (AW Tryz.f22) p
theorem orderOf_ct (I : Imm) (p : Nat) (p_s : Int) (y : Value) (Y : Yard) (y_f : IsYard I y Y) (hv : Valid Y) : Ct Tryz.prog 22 #[.pointer (some ⟨p, 0, none⟩), y] I ([(p, Obj.cells #[.int .u64 (p_s)] 95 (0, 0))]) (fun v I' M' => ∃ p_t : Int, ∃ o : List Int, ∃ u : Value, v = u ∧ M' = [(p, Obj.cells #[.int .u64 (p_t)] 95 (0, 0))] ∧ (BU Y o = 0 ∧ o.length ≤ 5) ∧ BC I' u (o)) := by
 obtain ⟨y1, y2, y3, q7, b6, b7, b8⟩ := id y_f;subst q7;obtain ⟨a0, a1, p1, p4, k9, p2, p3, p5⟩ := id b6;subst k9;obtain ⟨a2, a3, p6, p9, l0, p7, p8, q0⟩ := id b7;subst l0;obtain ⟨a4, a5, q1, q4, n1, l1, q2, q3, q5, q6⟩ := id b8;subst l1;refine fr (args := [_, _]) (N := 33) Tryz.func22 (fun F => ?_);show Run _ _ (c_orderOf []) _ _ [(0, .pointer (some ⟨p, 0, none⟩)), (1, .agg #[.slice a0 Y.cars.length a1, .slice a2 Y.room.length a3, .slice a4 Y.tracks.length a5])] _ _;refine rnm ?_;have n4 := hv.fine; have r4 := n4.cars;refine rqr (sS (sb 3 26 #[.slice a0 Y.cars.length a1, .slice a2 Y.room.length a3, .slice a4 Y.tracks.length a5] (fun b1 => (sp 1 [(4, .slice none 0 0)] (se (rq (rqr (sp 1 [(8, .pointer (some ⟨p, 0, none⟩))] (sS (sc (some 9) (F := ((b1, Obj.cells #[.slice a0 Y.cars.length a1, .slice a2 Y.room.length a3, .slice a4 Y.tracks.length a5] 26 (0, 0)) :: F)) (LT _ (p) (p_s) (3) (4) (by omega) :) (PS _ _ _) (fun o5 I3 o0 c4 n6 => ?_)))))))))));obtain ⟨c7, r9, l5, l3⟩ := n6;rw [l5, l3]; clear l5 l3;replace b6 := b6.mono c4;replace b7 := b7.mono c4;replace b8 := b8.mono c4;refine nm (se ?_);refine rc 9 rfl (fun h1 => ?_) (fun h1 => ?_)
 ·
  have k1 := h1;refine rq ?_;refine rdX (M := ((p, Obj.cells #[.int .u64 (c7)] 95 (0, 0)) :: (b1, Obj.cells #[.slice a0 Y.cars.length a1, .slice a2 Y.room.length a3, .slice a4 Y.tracks.length a5] 26 (0, 0)) :: [])) (F0 := F) [(8, 5, .cl 26 #[.slice none 0 0, .slice none 0 0, .slice none 0 0])] 10 [(0, true), (1, true), (2, true), (3, false), (4, false), (5, true), (6, true), (7, true), (8, false), (9, false)] (by simp only [AA, CA, NA, List.append_nil]; exact PR _) (hA_cons (alOk_cl (ops := JZ (c_orderOf [1, 0, 1, 0, 0])) (i := 8) (d := 5) (by kernel_rfl) (by kernel_rfl) (by kernel_rfl)) hA_nil) ?_;refine OS (Rx := ((b1, Obj.cells #[.slice a0 Y.cars.length a1, .slice a2 Y.room.length a3, .slice a4 Y.tracks.length a5] 26 (0, 0)) :: [])) (PS _ _ _) (dnb 11 0 0 b1 [.slice a0 Y.cars.length a1, .slice a2 Y.room.length a3, .slice a4 Y.tracks.length a5]) ?_;refine EF (EW (d := 12) (v := .pointer (some ⟨p, 0, none⟩)) (by kernel_rfl)) ?_;refine EF (dnb 13 1 0 b1 [.slice a0 Y.cars.length a1, .slice a2 Y.room.length a3, .slice a4 Y.tracks.length a5]) ?_;refine IU (Mx := fun FX => ((p, Obj.cells #[.int .u64 (c7)] 95 (0, 0)) :: (b1, Obj.cells #[.slice a0 Y.cars.length a1, .slice a2 Y.room.length a3, .slice a4 Y.tracks.length a5] 26 (0, 0)) :: FX)) rfl (fun FX => by simp only [AA, CA, NA, List.append_nil]; exact PR _) (fun FX => ?_);refine stp_hk (sc (some 14) (F := ((b1, Obj.cells #[.slice a0 Y.cars.length a1, .slice a2 Y.room.length a3, .slice a4 Y.tracks.length a5] 26 (0, 0)) :: FX)) (ridden_ct _ (p) (c7) _ (Y) (4) (BL b6 b7 b8) (by assumption) (by omega) :) (PR _) (fun o6 q8 o1 b9 k2 => ?_));obtain ⟨b3, b4, n2, r5, i6, f4, f0, k7, n8, f9⟩ := k2;rw [f4, f0]; clear f4 f0;replace b6 := b6.mono b9;replace b7 := b7.mono b9;replace b8 := b8.mono b9;obtain ⟨g6, g7, g8, m9⟩ := f9.shape;subst g8;refine hk_mem (M' := ((p, Obj.cells #[.int .u64 (b3)] 95 (0, 0)) :: (i6 ++ (b1, Obj.cells #[.slice a0 Y.cars.length a1, .slice a2 Y.room.length a3, .slice a4 Y.tracks.length a5] 26 (0, 0)) :: FX))) (fun w h => by simpa only [AA, CA, NA] using h) ?_;have n7 : AO Y b4 = (n2, 0) := k7;have l4 := KQ hv n7;refine HM (B := ((p, Obj.cells #[.int .u64 (b3)] 95 (0, 0)) :: (b1, Obj.cells #[.slice a0 Y.cars.length a1, .slice a2 Y.room.length a3, .slice a4 Y.tracks.length a5] 26 (0, 0)) :: FX)) AK f9 (by first | omega | (simp only [LS, LC, LN, LA, LK, LD] <;> omega) | decide) (PM.symm) (PR _) (fun q9 c0 c3 => ?_);replace b6 := b6.mono c0;replace b7 := b7.mono c0;replace b8 := b8.mono c0;obtain ⟨i7, i9, i8, j2, e0, j0, j1, j3⟩ := id c3;cases e0;refine LJ ?_;refine MI (M1 := ((p, Obj.cells #[.int .u64 (b3)] 95 (0, 0)) :: (b1, Obj.cells #[.slice a0 Y.cars.length a1, .slice a2 Y.room.length a3, .slice a4 Y.tracks.length a5] 26 (0, 0)) :: [])) (by exact (PR _)) (.wait (by kernel_rfl) (.wait (by kernel_rfl) (.part (PS _ _ _) .nil))) ?_;show OFPX _ _ _ _ _ _ _ _ ((14, .slice g6 b4.length g7) :: _) _ _;refine IU (Mx := fun FX => ((p, Obj.cells #[.int .u64 (b3)] 95 (0, 0)) :: (b1, Obj.cells #[.slice a0 Y.cars.length a1, .slice a2 Y.room.length a3, .slice a4 Y.tracks.length a5] 26 (0, 0)) :: FX)) rfl (fun FX => by simp only [AA, CA, NA, List.append_nil]; exact PR _) (fun FX => ?_);refine id (sc (some 15) (F := ((p, Obj.cells #[.int .u64 (b3)] 95 (0, 0)) :: (b1, Obj.cells #[.slice a0 Y.cars.length a1, .slice a2 Y.room.length a3, .slice a4 Y.tracks.length a5] 26 (0, 0)) :: FX)) (PlayR_ct _ _ (Y) _ _ (BL b6 b7 b8) c3 :) (PR _) (fun o7 r0 o2 e7 k3 => ?_));obtain ⟨p0, f5, f1, k6⟩ := k3;rw [f5, f1]; clear f5 f1;have e3 := k6;obtain ⟨m6, m7, m8, e2, c9, d1, d3⟩ := id e3;subst e2;obtain ⟨a8, a9, h2, h5, c8, h3, h4, h6⟩ := id c9;subst c8;obtain ⟨b0, b2, h7, i0, d0, h8, h9, i1⟩ := id d1;subst d0;obtain ⟨a6, a7, i2, i5, g5, d2, i3, i4, c2, d4⟩ := id d3;subst d2;refine MI (M1 := ((p, Obj.cells #[.int .u64 (b3)] 95 (0, 0)) :: (b1, Obj.cells #[.slice a0 Y.cars.length a1, .slice a2 Y.room.length a3, .slice a4 Y.tracks.length a5] 26 (0, 0)) :: [])) (by exact (PR _)) (.wait (by kernel_rfl) (.wait (by kernel_rfl) (.wait (by kernel_rfl) .nil))) ?_;show OFPX _ _ _ _ _ _ _ _ ((15, .tuple #[.agg #[.slice a8 (((BD Y b4).1).cars).length a9, .slice b0 (((BD Y b4).1).room).length b2, .slice a6 (((BD Y b4).1).tracks).length a7], .int .i64 (((BD Y b4).2))]) :: _) _ _;refine EF (EW (d := 10) (v := .tuple #[.agg #[.slice a8 (((BD Y b4).1).cars).length a9, .slice b0 (((BD Y b4).1).room).length b2, .slice a6 (((BD Y b4).1).tracks).length a7], .int .i64 (((BD Y b4).2))]) (by kernel_rfl)) ?_;refine EF (EW (d := 16) (v := .agg #[.slice a8 (((BD Y b4).1).cars).length a9, .slice b0 (((BD Y b4).1).room).length b2, .slice a6 (((BD Y b4).1).tracks).length a7]) (by kernel_rfl)) ?_;refine KO (EW (d := 17) (v := .int .i64 (((BD Y b4).2))) (by kernel_rfl)) ?_;refine ofx_ac rfl (fun e4 => ?_);refine IU (Mx := fun FX => ((e4, Obj.cells #[.slice none 0 0, .slice none 0 0, .slice none 0 0] 26 (0, 0)) :: (p, Obj.cells #[.int .u64 (b3)] 95 (0, 0)) :: (b1, Obj.cells #[.slice a0 Y.cars.length a1, .slice a2 Y.room.length a3, .slice a4 Y.tracks.length a5] 26 (0, 0)) :: FX)) rfl (fun FX => by simp only [AA, CA, NA, List.append_nil]; exact PR _) (fun FX => ?_);refine id (ss 0 0 e4 [.slice a8 (((BD Y b4).1).cars).length a9, .slice b0 (((BD Y b4).1).room).length b2, .slice a6 (((BD Y b4).1).tracks).length a7] [.slice a8 (((BD Y b4).1).cars).length a9, .slice b0 (((BD Y b4).1).room).length b2, .slice a6 (((BD Y b4).1).tracks).length a7] (_ :: _ :: _ :: _) (cs := [_, _, _]) rfl rfl ?_);refine MI (M1 := ((e4, Obj.cells #[.slice a8 (((BD Y b4).1).cars).length a9, .slice b0 (((BD Y b4).1).room).length b2, .slice a6 (((BD Y b4).1).tracks).length a7] 26 (0, 0)) :: (p, Obj.cells #[.int .u64 (b3)] 95 (0, 0)) :: (b1, Obj.cells #[.slice a0 Y.cars.length a1, .slice a2 Y.room.length a3, .slice a4 Y.tracks.length a5] 26 (0, 0)) :: [])) (by exact (PR _)) (.none (.wait (by kernel_rfl) (.wait (by kernel_rfl) (.wait (by kernel_rfl) (.wait (by kernel_rfl) (.wait (by kernel_rfl) .nil)))))) ?_;refine ofx_end (AV (M' := ((e4, Obj.cells #[.slice a8 (((BD Y b4).1).cars).length a9, .slice b0 (((BD Y b4).1).room).length b2, .slice a6 (((BD Y b4).1).tracks).length a7] 26 (0, 0)) :: (p, Obj.cells #[.int .u64 (b3)] 95 (0, 0)) :: (b1, Obj.cells #[.slice a0 Y.cars.length a1, .slice a2 Y.room.length a3, .slice a4 Y.tracks.length a5] 26 (0, 0)) :: F)) (fun w h => by simpa only [AA, CA, NA, List.append_nil] using h) (nm ?_));refine sp 1 [] (se (rq ?_));have hXk : Kin Y (BD Y b4).1 := by (rw [l4.1]; exact l4.2.2)
  have hXl := hXk.pos hv.fine;have hXo := order_train hv hXk;refine rr (sp 1 [(18, .pointer (some ⟨e4, 2, none⟩))] (sd (dlb 19 0 2 e4 (.slice a6 (((BD Y b4).1).tracks).length a7)) (sd (di 20 1 (0) c2.addr) ?_)));have c5 := d4 (0) (by omega);obtain ⟨g1, g2, l6, l9, d6, l7, l8, m0⟩ := id c5;rw [d6] at c5;refine sd (BK (dl 21 (BW c2 (0) (by omega))) d6) (sp 1 [(4, .slice g1 ((((BD Y b4).1).tracks).getD (0) []).length g2)] (se (BS ((RP (ppm (PS _ _ _) (AD (t := 4) ([(p, Obj.cells #[.int .u64 (b3)] 95 (0, 0))]) (by kernel_rfl) rfl (TK _ (TC _ (TC _ (TR _)))) (IT (IT (IT c4 b9) c0) e7) ?_)))))));exact ⟨_, _, _, rfl, rfl, hXo, c5⟩
 have k1 := h1;refine AM (NX (rqr (sp 2 [(23, .pointer (some ⟨b1, 0, none⟩)), (22, .pointer (some ⟨p, 0, none⟩))] (sd (dlb 24 1 0 b1 (.slice a0 Y.cars.length a1)) (sp 1 [(25, .int .i64 (↑(Y.cars.length)))] (sS (sc (some 26) (F := ((b1, Obj.cells #[.slice a0 Y.cars.length a1, .slice a2 Y.room.length a3, .slice a4 Y.tracks.length a5] 26 (0, 0)) :: F)) (Deal_ct _ (p) (c7) (Y.cars.length) (by omega) :) (.refl _) (fun o8 r1 o3 e8 k4 => ?_))))))));obtain ⟨c1, e5, r6, e6, f6, f2, k8, g0⟩ := k4;rw [f6, f2]; clear f6 f2;obtain ⟨d8, d9, g9, n0⟩ := g0.shape;subst g9;refine AV (M' := ((p, Obj.cells #[.int .u64 (c1)] 95 (0, 0)) :: (e6 ++ (b1, Obj.cells #[.slice a0 Y.cars.length a1, .slice a2 Y.room.length a3, .slice a4 Y.tracks.length a5] 26 (0, 0)) :: F))) (fun w h => by simpa only [AA, CA, NA] using h) (pm (M' := ((p, Obj.cells #[.int .u64 (c1)] 95 (0, 0)) :: (b1, Obj.cells #[.slice a0 Y.cars.length a1, .slice a2 Y.room.length a3, .slice a4 Y.tracks.length a5] 26 (0, 0)) :: (e6 ++ F))) (PC _ PM) (sp 1 [(7, .slice d8 e5.length d9)] (se (rq ?_))));have l2 : e5.Perm (CM Y.cars.length) := k8;have n3 := l2.length_eq;rw [DB] at n3;refine FL (B := ((p, Obj.cells #[.int .u64 (c1)] 95 (0, 0)) :: (b1, Obj.cells #[.slice a0 Y.cars.length a1, .slice a2 Y.room.length a3, .slice a4 Y.tracks.length a5] 26 (0, 0)) :: F)) 0 g0 (by first | omega | (simp only [LS, LC, LN, LA, LK, LD] <;> omega) | decide) (PU (PM.symm)) (PR _) (fun r2 e9 b5 => ?_);obtain ⟨j4, j6, j5, j9, e1, j7, j8, k0⟩ := id b5;cases e1;refine rr (sp 4 [(30, .int .i64 (↑(e5.length))), (28, .pointer (some ⟨p, 0, none⟩)), (27, .slice d8 e5.length d9)] (sS (sc (some 31) (F := ((b1, Obj.cells #[.slice a0 Y.cars.length a1, .slice a2 Y.room.length a3, .slice a4 Y.tracks.length a5] 26 (0, 0)) :: F)) (OA _ (p) (c1) (↑(e5.length)) (by omega) :) (.refl _) (fun o9 r3 o4 d5 k5 => ?_))));obtain ⟨f8, h0, f7, f3, n9⟩ := k5;rw [f7, f3]; clear f7 f3;replace b5 := b5.mono d5;refine nm ?_;have n5 := order_deal hv l2 h0;have c6 := b5.cutHi (h0) (by omega);obtain ⟨g3, g4, m1, m4, d7, m2, m3, m5⟩ := id c6;rw [d7] at c6;refine sd (BK (DW (x := (.tmp 27)) (lo := none) (hi := (some (.tmp 31))) (T := 23) (e := 3) (sz := 1) (0) (h0) (d := 32) (ty := 23) (gd := none) (by kernel_rfl) rfl (by kernel_rfl) (by kernel_rfl) rfl (.inl ⟨rfl, rfl⟩) (.inr ⟨_, .i64, rfl, rfl⟩) (by omega) (by omega)) d7) (sp 1 [(4, .slice g3 (e5.take (h0)).length g4)] (se (BS (AD (t := 4) ([(p, Obj.cells #[.int .u64 (f8)] 95 (0, 0))]) (by kernel_rfl) rfl (TK _ (TC _ (TR _))) (IT (IT (IT c4 e8) e9) d5) ?_))));exact ⟨_, _, _, rfl, rfl, n5, c6⟩
end Go.Proofs.YtcaocbhbofejnaaGreatDoor
namespace Go.Sh
open Go Go.Sl
def Wd (R : List Int) (Y : Yard) : Prop := ∀ k, k < Y.tracks.length → Y.room.getD k 0 ≤ R.getD k 0
theorem Wd.mv {R : List Int} {Y : Yard} {s : Shift} (hw : Wd R Y) (h : BA Y s = 0) : Wd R (moved Y s) := fun k hk => hw k (by have := (JS h).len; omega)
theorem JA : ∀ (zs : List Yard) (s : List Yard × List Yard), (∀ y ∈ s.1, y ∈ (DP zs s).1) ∧ (∀ y ∈ (DP zs s).1, y ∈ s.1 ∨ (y ∈ zs ∧ y ∈ (DP zs s).2)) ∧ (∀ y ∈ s.2, y ∈ (DP zs s).2) ∧ (∀ y ∈ (DP zs s).2, y ∈ s.2 ∨ y ∈ zs) ∧
    (∀ z ∈ zs, z.tracks ∈ (DP zs s).1.map Yard.tracks) ∧ ((s.1.map Yard.tracks).Nodup → ((DP zs s).1.map Yard.tracks).Nodup) := by
  intro zs
  induction zs with
  | nil => intro s; exact ⟨fun _ h => h, fun _ h => .inl h, fun _ h => h, fun _ h => .inl h, fun _ h => by simp at h, fun h => h⟩
  | cons z r ih =>
    intro s;obtain ⟨i1, i2, i3, i4, i5, i6⟩ := ih (HT s z);have e : DP (z :: r) s = DP r (HT s z) := rfl;rw [e];have hnd := visitY_nodup (s := s) (z := z)
    by_cases h : z.tracks ∈ s.1.map Yard.tracks
    · have ev : HT s z = s := if_pos h
      rw [ev] at i1 i2 i3 i4 i5 i6 ⊢;refine ⟨i1, fun y hy => (i2 y hy).imp id fun q => ⟨List.mem_cons_of_mem _ q.1, q.2⟩, i3, fun y hy => (i4 y hy).imp id (List.mem_cons_of_mem _), fun y hy => ?_, i6⟩;rcases List.mem_cons.1 hy with e | hy
      · subst e; obtain ⟨q, hq, e⟩ := List.mem_map.1 h; exact List.mem_map.2 ⟨q, i1 q hq, e⟩
      · exact i5 y hy
    · have ev : HT s z = (s.1 ++ [z], s.2 ++ [z]) := if_neg h
      rw [ev] at i1 i2 i3 i4 i5 i6 hnd ⊢;refine ⟨fun y hy => i1 y (List.mem_append_left _ hy), fun y hy => ?_, fun y hy => i3 y (List.mem_append_left _ hy), fun y hy => ?_, fun y hy => ?_, fun q => i6 (hnd q)⟩
      · rcases i2 y hy with q | q
        · rcases List.mem_append.1 q with q | q
          · exact .inl q
          · simp only [List.mem_singleton] at q; subst q
            exact .inr ⟨List.mem_cons_self, i3 y (List.mem_append_right _ (by simp))⟩
        · exact .inr ⟨List.mem_cons_of_mem _ q.1, q.2⟩
      · rcases i4 y hy with q | q
        · rcases List.mem_append.1 q with q | q
          · exact .inl q
          · simp only [List.mem_singleton] at q; subst q; exact .inr List.mem_cons_self
        · exact .inr (List.mem_cons_of_mem _ q)
      · rcases List.mem_cons.1 hy with e | hy
        · subst e; exact List.mem_map_of_mem (i1 y (List.mem_append_right _ (by simp)))
        · exact i5 y hy
theorem iterY_nodup : ∀ (d : Nat) (s : List Yard × List Yard), (s.1.map Yard.tracks).Nodup → ((NG d s).1.map Yard.tracks).Nodup := by
  intro d
  induction d with
  | zero => intro s h; exact h
  | succ d ih => intro s h; exact ih _ ((JA _ _).2.2.2.2.2 h)
theorem iterY_play {A : Yard} : ∀ (d m : Nat) (s : List Yard × List Yard), (∀ y ∈ s.1, ∃ l, AO A l = (y, 0) ∧ l.length ≤ m) → (∀ y ∈ s.2, ∃ l, AO A l = (y, 0) ∧ l.length ≤ m) → ∀ y ∈ (NG d s).1, ∃ l, AO A l = (y, 0) ∧ l.length ≤ m + d := by
  intro d
  induction d with
  | zero => intro m s h1 _ y hy; exact h1 y hy
  | succ d ih =>
    intro m s h1 h2 y hy;have v := JA (s.2.flatMap LM) (s.1, []);have hn : ∀ z ∈ s.2.flatMap LM, ∃ l, AO A l = (z, 0) ∧ l.length ≤ m + 1 := fun z hz => by
      obtain ⟨x, hx, hz⟩ := List.mem_flatMap.1 hz;obtain ⟨t, ht, rfl⟩ := List.mem_map.1 hz;obtain ⟨l, hl, hm⟩ := h2 x hx;refine ⟨l ++ [t], ?_, by rw [List.length_append]; simp only [List.length_cons, List.length_nil]; omega⟩;rw [NV l [t] hl, KA (DG ht)]
    have := ih (m + 1) (MO s) (fun y hy => ?_) (fun y hy => ?_) y hy
    · obtain ⟨l, hl, hm⟩ := this; exact ⟨l, hl, by omega⟩
    · rcases v.2.1 y hy with q | q
      · obtain ⟨l, hl, hm⟩ := h1 y q; exact ⟨l, hl, by omega⟩
      · exact hn y q.1
    · rcases v.2.2.2.1 y hy with q | q
      · simp at q
      · exact hn y q
theorem iterY_full {A : Yard} (f : Fine A) : ∀ (d : Nat) (s : List Yard × List Yard), (∀ y ∈ s.1, Kin A y) → (∀ y ∈ s.2, Kin A y) → (∀ y ∈ s.1, y ∈ s.2 ∨ ∀ z ∈ LM y, z ∈ s.1) →
    ∀ x ∈ s.1, ∀ (l : List Shift) (z : Yard), AO x l = (z, 0) → l.length ≤ d → z ∈ (NG d s).1 := by
  intro d
  induction d with
  | zero =>
    intro s _ _ _ x hx l z hp hl;have : l = [] := List.length_eq_zero_iff.1 (by omega);subst this;simp only [AO, Prod.mk.injEq] at hp;rw [← hp.1]; exact hx
  | succ d ih =>
    intro s k1 k2 hi x hx l z hp hl;have v := JA (s.2.flatMap LM) (s.1, []);have kk := stepY_kin f k1 k2;have hnew : ∀ y ∈ s.2, ∀ z ∈ LM y, z ∈ (MO s).1 := fun y hy z hz => by
      obtain ⟨q, hq, e⟩ := List.mem_map.1 (v.2.2.2.2.1 z (List.mem_flatMap.2 ⟨y, hy, hz⟩));have := KN (kk.1 q hq) (nexts_kin (k2 y hy) z hz) e;rw [← this]; exact hq
    have hold : ∀ y ∈ s.1, ∀ z ∈ LM y, z ∈ (MO s).1 := fun y hy z hz => by
      rcases hi y hy with q | q
      · exact hnew y q z hz
      · exact v.1 z (q z hz)
    have hinv : ∀ y ∈ (MO s).1, y ∈ (MO s).2 ∨ ∀ z ∈ LM y, z ∈ (MO s).1 := fun y hy => by
      rcases v.2.1 y hy with q | q
      · exact .inr (hold y q)
      · exact .inl q.2
    show z ∈ (NG d (MO s)).1;cases l with
    | nil => exact ih (MO s) kk.1 kk.2 hinv x (v.1 x hx) [] z hp (Nat.zero_le _)
    | cons t r =>
      simp only [AO] at hp
      split at hp
      · rename_i hm
        refine ih (MO s) kk.1 kk.2 hinv (moved x t) (hold x hx _ (List.mem_map_of_mem (mem_draws.2 hm))) r z hp ?_;simp only [List.length_cons] at hl; omega
      · rename_i hm
        simp only [Prod.mk.injEq] at hp;exact absurd hp.2 hm
end Go.Sh
namespace Go.Sl
open Go
section
variable {ρ : Option Nat} {P : Program} {N : Nat} {ops : Array Oper} {i : Nat} {l : Sl} {I : Imm} {R M : Seg} {d : Nat} {ty : TypeId} {gd : Option (Nat × Bool)}
end
end Go.Sl
namespace Go.Proofs.YtcaocbhbofejnaaGreatDoor
open Go Go.Sl Go.Sh
set_option maxRecDepth 100000
end Go.Proofs.YtcaocbhbofejnaaGreatDoor
namespace Go.Sh
open Go Go.Sl
structure Ren (cs cs' : List Car) (s : Int → Int) : Prop where
  len : cs'.length = cs.length
  rng : ∀ c, 0 ≤ c → c < (cs.length : Int) → 0 ≤ s c ∧ s c < (cs.length : Int)
  inj : ∀ c d, 0 ≤ c → c < (cs.length : Int) → 0 ≤ d → d < (cs.length : Int) → s c = s d → c = d
  car : ∀ c, 0 ≤ c → c < (cs.length : Int) → EA cs' (s c) = EA cs c
  old : ∀ x ∈ cs', x ∈ cs
def ren (cs' : List Car) (s : Int → Int) (Y : Yard) : Yard := ⟨cs', Y.room, Y.tracks.map (List.map s)⟩
section
variable {cs cs' : List Car} {s : Int → Int}
theorem ren_len (r : Ren cs cs' s) : ∀ {t : List Int}, Ok cs t → lenOf cs' (t.map s) = lenOf cs t := by
  intro t
  induction t with
  | nil => intro _; rfl
  | cons c t ih =>
    intro h;have h1 := h c List.mem_cons_self;have h2 := ih fun x hx => h x (List.mem_cons_of_mem _ hx)
    simp only [lenOf, List.map_cons, List.sum_cons] at h2 ⊢;rw [h2, r.car c h1.1 h1.2]
theorem getD_map {α : Type} {t : List Int} {f : Int → α} {k : Nat} {d : α} (hk : k < t.length) : (t.map f).getD k d = f (t.getD k 0) := by
  simp [List.getD, hk]
theorem ren_coupled (r : Ren cs cs' s) {t : List Int} (h : Ok cs t) (i : Int) : BJ cs' (t.map s) i = BJ cs t i := by
  unfold BJ;rw [List.length_map];cases hi : inB i 1 (↑t.length - 1) with
  | false => simp
  | true =>
    have hb := DT hi;have k1 : i.toNat < t.length := by omega
    have k2 : (i - 1).toNat < t.length := by omega
    have o1 := h.at _ k1; have o2 := h.at _ k2;rw [getD_map k1, getD_map k2, r.car _ o1.1 o1.2, r.car _ o2.1 o2.2]
theorem IF (Y : Yard) (i : Int) : trk (ren cs' s Y) i = (trk Y i).map s := by
  show (Y.tracks.map (List.map s)).getD i.toNat [] = (Y.tracks.getD i.toNat []).map s
  by_cases h : i.toNat < Y.tracks.length
  · simp [List.getD, h]
  · simp [List.getD, List.getElem?_eq_none (Nat.le_of_not_lt h)]
theorem trk_ok {Y : Yard} (h : OkAll Y.cars Y.tracks) (i : Int) : Ok Y.cars (trk Y i) := by
  unfold trk
  by_cases hi : i.toNat < Y.tracks.length
  · exact h.at _ hi
  · rw [show Y.tracks.getD i.toNat [] = [] by simp [List.getD, List.getElem?_eq_none (Nat.le_of_not_lt hi)]]; intro c hc; simp at hc
theorem ren_may {Y : Yard} (r : Ren Y.cars cs' s) (h : OkAll Y.cars Y.tracks) (z : Shift) : BA (ren cs' s Y) z = BA Y z := by
  have e3 : DS (ren cs' s Y) z = DS Y z := by unfold DS; rw [IF, List.length_map]
  unfold BA;rw [e3, IF, IF, List.length_map, ← List.map_drop];show (if inB z.frm 0 (↑(Y.tracks.map (List.map s)).length - 1) = true then _ else _) = _;rw [show (ren cs' s Y).tracks.length = Y.tracks.length from List.length_map _, List.length_map]
  show (if inB z.frm 0 (↑Y.tracks.length - 1) = true then if inB z.to 0 (↑Y.tracks.length - 1) = true then if z.frm = z.to then 4 else if z.many < 1 then 7 else if ↑(trk Y z.frm).length < z.many then 6 else
    if (BJ cs' ((trk Y z.frm).map s) (DS Y z) || decide (Y.room.getD z.to.toNat 0 < lenOf cs' (((trk Y z.frm).drop (DS Y z).toNat).map s) + lenOf cs' ((trk Y z.to).map s))) = true then 9 else 0 else 3 else 3 : Int) = _
  rw [ren_coupled r (trk_ok h _), ren_len r ((trk_ok h _).drop _), ren_len r (trk_ok h _)]
theorem ren_moved (Y : Yard) (z : Shift) : moved (ren cs' s Y) z = ren cs' s (moved Y z) := by
  have e3 : DS (ren cs' s Y) z = DS Y z := by unfold DS; rw [IF, List.length_map]
  unfold moved;rw [e3, IF, IF, ← List.map_drop, ← List.map_take, ← List.map_append];show (⟨cs', Y.room, ((Y.tracks.map (List.map s)).set _ _).set _ _⟩ : Yard) = ⟨cs', Y.room, List.map (List.map s) _⟩;rw [List.map_set, List.map_set]
theorem ren_draws {Y : Yard} (r : Ren Y.cars cs' s) (h : OkAll Y.cars Y.tracks) : draws (ren cs' s Y) = draws Y := by
  have e1 : (ren cs' s Y).tracks.length = Y.tracks.length := List.length_map _;have e2 : ∀ f : Nat, ((ren cs' s Y).tracks.getD f []).length = (Y.tracks.getD f []).length := fun f => by
    have := IF (cs' := cs') (s := s) Y (f : Int);unfold trk at this;rw [Int.toNat_natCast] at this;rw [this, List.length_map]
  unfold draws GB GA DK;simp only [e1, e2, ren_may r h]
theorem ren_plain : ∀ (d : Nat) {g g' : Yard → Bool} {Y : Yard}, Ren Y.cars cs' s → GoodY Y → (∀ X, Kin Y X → g' (ren cs' s X) = g X) → plain g' d (ren cs' s Y) = plain g d Y := by
  intro d
  induction d with
  | zero => intro g g' Y _ _ hg; simp only [plain]; rw [hg Y (Kin.refl _)]
  | succ d ih =>
    intro g g' Y r hy hg;simp only [plain];rw [hg Y (Kin.refl _), ren_draws r hy.ok]
    congr 1
    refine KV _ fun z hz => ?_
    have hm := DG hz;rw [ren_moved, ih (Y := moved Y z) r (hy.moved hm) fun X k => hg X ((JS hm).trans k)]
theorem map_inj (r : Ren cs cs' s) : ∀ {a b : List Int}, Ok cs a → Ok cs b → a.map s = b.map s → a = b := by
  intro a
  induction a with
  | nil => intro b _ _ h; cases b with
    | nil => rfl
    | cons => simp at h
  | cons x a ih =>
    intro b ha hb h;cases b with
    | nil => simp at h
    | cons y b =>
      simp only [List.map_cons, List.cons.injEq] at h;have h1 := ha x List.mem_cons_self; have h2 := hb y List.mem_cons_self;rw [r.inj x y h1.1 h1.2 h2.1 h2.2 h.1, ih (fun c hc => ha c (List.mem_cons_of_mem _ hc)) (fun c hc => hb c (List.mem_cons_of_mem _ hc)) h.2]
theorem Kin.okAll {A X : Yard} (f : Fine A) (k : Kin A X) : OkAll X.cars X.tracks := (k.good f).ok
theorem trk0_ok {A X : Yard} (f : Fine A) (k : Kin A X) : Ok A.cars (X.tracks.getD 0 []) := by
  have := trk_ok (k.okAll f) 0;rw [k.cars] at this;exact this
theorem ren_ordered {A X : Yard} (r : Ren A.cars cs' s) (f : Fine A) (k : Kin A X) {o : List Int} (ho : Ok A.cars o) : CB (o.map s) (ren cs' s X) = CB o X := by
  unfold CB;have e : (ren cs' s X).tracks.getD 0 [] = (X.tracks.getD 0 []).map s := IF X 0;rw [e]
  by_cases h : X.tracks.getD 0 [] = o
  · rw [h, decide_eq_true rfl, decide_eq_true rfl]
  · rw [decide_eq_false h, decide_eq_false fun hh => h (map_inj r (trk0_ok f k) ho hh)]
theorem goO_ok {n : Nat} : ∀ (o pre : List Int), goO n pre o = 0 → (∀ c ∈ o, 0 ≤ c ∧ c < (n : Int)) ∧ (∀ c ∈ o, c ∉ pre) ∧ o.Nodup := by
  intro o
  induction o with
  | nil => intro pre _; exact ⟨fun _ h => by simp at h, fun _ h => by simp at h, List.nodup_nil⟩
  | cons c r ih =>
    intro pre h;simp only [goO] at h
    split at h
    · rename_i h1
      split at h
      · cases h
      · rename_i h2
        obtain ⟨i1, i2, i3⟩ := ih _ h;have hb := DT h1;refine ⟨fun x hx => ?_, fun x hx => ?_, List.nodup_cons.2 ⟨fun hc => i2 c hc (by simp), i3⟩⟩
        · rcases List.mem_cons.1 hx with e | hx
          · subst e; omega
          · exact i1 x hx
        · rcases List.mem_cons.1 hx with e | hx
          · subst e; exact h2
          · exact fun hp => i2 x hx (List.mem_append_left _ hp)
    · cases h
theorem order_ok {Y : Yard} {o : List Int} (h : BU Y o = 0) : Ok Y.cars o ∧ o.Nodup := by
  have hv := FJ h;unfold BU at h;rw [if_pos (show AG Y = 0 from hv)] at h;have := goO_ok _ _ h;exact ⟨this.1, this.2.2⟩
theorem nodup_ren (r : Ren cs cs' s) {t : List Int} (ho : Ok cs t) (hn : t.Nodup) : (t.map s).Nodup := by
  refine List.pairwise_map.2 (hn.imp_of_mem fun {a b} ha hb hne e => ?_);have h1 := ho a ha; have h2 := ho b hb;exact hne (r.inj a b h1.1 h1.2 h2.1 h2.2 e)
theorem ren_stG (r : Ren cs cs' s) (g : Int) : ∀ (t : List Int) (p : Bool), Ok cs t → stG cs' g p (t.map s) = stG cs g p t := by
  intro t
  induction t with
  | nil => intro p _; rfl
  | cons c t ih =>
    intro p h;have h1 := h c List.mem_cons_self;have e : grp cs' (s c) = grp cs c := by unfold grp; rw [r.car c h1.1 h1.2]
    simp only [List.map_cons, stG, e];rw [ih _ fun x hx => h x (List.mem_cons_of_mem _ hx)]
theorem ren_sumG (r : Ren cs cs' s) (g : Int) : ∀ (ts : List (List Int)), OkAll cs ts → OV cs' g (ts.map (List.map s)) = OV cs g ts := by
  intro ts
  induction ts with
  | nil => intro _; rfl
  | cons t ts ih =>
    intro h;simp only [List.map_cons, OV];rw [ren_stG r g t _ (h t List.mem_cons_self), ih fun x hx => h x (List.mem_cons_of_mem _ hx)]
theorem OU {Y : Yard} (r : Ren Y.cars cs' s) (f : Fine Y) : Fine (ren cs' s Y) := by
  have ef : (Y.tracks.map (List.map s)).flatten = Y.tracks.flatten.map s := (List.map_flatten).symm;refine ⟨by show cs'.length ≤ 5; rw [r.len]; exact f.cars, fun c hc => f.carOk c (r.old c hc), f.room1, f.room3, f.roomOk, by show (Y.tracks.map _).length = _; rw [List.length_map]; exact f.len, fun t ht => ?_, ?_, fun k hk => ?_, ?_, ?_⟩
  · obtain ⟨t', ht', rfl⟩ := List.mem_map.1 ht
    intro c hc;obtain ⟨c', hc', rfl⟩ := List.mem_map.1 hc;have := f.ok t' ht' c' hc';show 0 ≤ s c' ∧ s c' < (cs'.length : Int);rw [r.len];exact r.rng c' this.1 this.2
  · show (Y.tracks.map (List.map s)).flatten.Nodup
    rw [ef]; exact nodup_ren r (HH f.ok) f.nodup
  · have hk : k < Y.tracks.length := by have : k < (Y.tracks.map (List.map s)).length := hk; rwa [List.length_map] at this
    have e : (ren cs' s Y).tracks.getD k [] = (Y.tracks.getD k []).map s := by have := IF (cs' := cs') (s := s) Y (k : Int); unfold trk at this; rwa [Int.toNat_natCast] at this
    rw [e];show lenOf cs' _ ≤ _;rw [ren_len r (f.ok.at k hk)]; exact f.fits k hk
  · show cs'.length ≤ (Y.tracks.map (List.map s)).flatten.length
    rw [ef, List.length_map, r.len]; exact f.all
  · rw [groups_sum]
    intro g hg;show OV cs' g (Y.tracks.map (List.map s)) ≤ 1;rw [ren_sumG r g _ f.ok]; exact groups_sum.1 f.groups g hg
theorem goO_of {n : Nat} : ∀ (o pre : List Int), (∀ c ∈ o, 0 ≤ c ∧ c < (n : Int)) → (∀ c ∈ o, c ∉ pre) → o.Nodup → goO n pre o = 0 := by
  intro o
  induction o with
  | nil => intro pre _ _ _; rfl
  | cons c r ih =>
    intro pre h1 h2 h3;have hc := h1 c List.mem_cons_self;have hn := List.nodup_cons.1 h3;simp only [goO];rw [if_pos (show inB c 0 (↑n - 1) = true by unfold inB; rw [decide_eq_true hc.1, decide_eq_true (by omega)]; rfl), if_neg (h2 c List.mem_cons_self)];refine ih _ (fun x hx => h1 x (List.mem_cons_of_mem _ hx)) (fun x hx hp => ?_) hn.2;rcases List.mem_append.1 hp with hp | hp
    · exact h2 x (List.mem_cons_of_mem _ hx) hp
    · simp only [List.mem_singleton] at hp; subst hp; exact hn.1 hx
theorem ren_fewest {Y : Yard} (r : Ren Y.cars cs' s) {o : List Int} (h : BU Y o = 0) : BH (ren cs' s Y) (o.map s) = BH Y o ∧ BU (ren cs' s Y) (o.map s) = 0 := by
  have f := (FJ h).fine;have fr := OU r f;have ho := order_ok h;have he : BU (ren cs' s Y) (o.map s) = 0 := by
    unfold BU;rw [if_pos (show AG (ren cs' s Y) = 0 from fr.valid)];refine goO_of _ _ (fun c hc => ?_) (fun c _ => by simp) (nodup_ren r ho.1 ho.2);obtain ⟨c', hc', rfl⟩ := List.mem_map.1 hc;have := ho.1 c' hc';show 0 ≤ s c' ∧ s c' < (cs'.length : Int);rw [r.len];exact r.rng c' this.1 this.2
  refine ⟨?_, he⟩;have e : CG (CB (o.map s)) (ren cs' s Y) = CG (CB o) Y := by
    unfold CG;exact KV _ fun d _ => ren_plain d r f.good fun X k => ren_ordered r f k ho.1
  rw [KK he, KK h, allP_one, allP_one, e]
theorem reach_map {A B : Yard} (fa : Fine A) (fb : Fine B) (m : Yard → Yard) (hp : ∀ l X, AO A l = (X, 0) → AO B l = (m X, 0))
    (hi : ∀ l l' X Z, AO A l = (X, 0) → AO A l' = (Z, 0) → (m X).tracks = (m Z).tracks → X.tracks = Z.tracks) (d : Nat) : reach A d ≤ reach B d := by
  rw [reach_iter fa, reach_iter fb];have hpl : ∀ y ∈ (NG d ([A], [A])).1, ∃ l, AO A l = (y, 0) ∧ l.length ≤ d := fun y hy => by
    have hb : ∀ q ∈ [A], ∃ l, AO A l = (q, 0) ∧ l.length ≤ 0 := fun q hq => by simp at hq; subst hq; exact ⟨[], rfl, Nat.le_refl _⟩
    obtain ⟨l, hl, hm⟩ := iterY_play d 0 ([A], [A]) hb hb y hy;exact ⟨l, hl, by omega⟩
  have h1 : ∀ y ∈ (NG d ([A], [A])).1, m y ∈ (NG d ([B], [B])).1 := fun y hy => by
    obtain ⟨l, hl, hm⟩ := hpl y hy;have hk : ∀ q ∈ [B], Kin B q := fun q hq => by simp at hq; subst hq; exact Kin.refl _
    exact iterY_full fb d _ hk hk (fun q hq => .inl hq) _ List.mem_cons_self l _ (hp l y hl) hm
  have hn := iterY_nodup d ([A], [A]) (by simp);have hn2 : ((NG d ([A], [A])).1.map fun y => (m y).tracks).Nodup := by
    refine List.pairwise_map.2 ((List.pairwise_map.1 hn).imp_of_mem fun {a b} ha hb hne e => ?_);obtain ⟨l, hl, _⟩ := hpl a ha;obtain ⟨l', hl', _⟩ := hpl b hb;exact hne (hi l l' a b hl hl' e)
  have hs : ((NG d ([A], [A])).1.map fun y => (m y).tracks) ⊆ (NG d ([B], [B])).1.map Yard.tracks := fun t ht => by
    obtain ⟨y, hy, rfl⟩ := List.mem_map.1 ht;exact List.mem_map.2 ⟨_, h1 y hy, rfl⟩
  have := hn2.length_le_of_subset hs;simp only [List.length_map] at this;omega
theorem maps_inj (r : Ren cs cs' s) : ∀ {a b : List (List Int)}, OkAll cs a → OkAll cs b → a.map (List.map s) = b.map (List.map s) → a = b := by
  intro a
  induction a with
  | nil => intro b _ _ h; cases b with
    | nil => rfl
    | cons => simp at h
  | cons x a ih =>
    intro b ha hb h;cases b with
    | nil => simp at h
    | cons y b =>
      simp only [List.map_cons, List.cons.injEq] at h;rw [map_inj r (ha x List.mem_cons_self) (hb y List.mem_cons_self) h.1, ih (fun c hc => ha c (List.mem_cons_of_mem _ hc)) (fun c hc => hb c (List.mem_cons_of_mem _ hc)) h.2]
theorem ren_play : ∀ (l : List Shift) {Y X : Yard}, Ren Y.cars cs' s → GoodY Y → AO Y l = (X, 0) → AO (ren cs' s Y) l = (ren cs' s X, 0) := by
  intro l
  induction l with
  | nil => intro Y X _ _ h; simp only [AO, Prod.mk.injEq] at h; rw [h.1]; rfl
  | cons z l ih =>
    intro Y X r g h;simp only [AO] at h ⊢;rw [ren_may r g.ok]
    split at h
    · rename_i hm
      rw [if_pos hm, ren_moved];exact ih (Y := moved Y z) r (g.moved hm) h
    · rename_i hm
      simp only [Prod.mk.injEq] at h;exact absurd h.2 hm
theorem ren_back : ∀ (l : List Shift) {Y Z : Yard}, Ren Y.cars cs' s → GoodY Y → AO (ren cs' s Y) l = (Z, 0) → ∃ X, AO Y l = (X, 0) ∧ Z = ren cs' s X := by
  intro l
  induction l with
  | nil => intro Y Z _ _ h; simp only [AO, Prod.mk.injEq] at h; exact ⟨Y, rfl, h.1.symm⟩
  | cons z l ih =>
    intro Y Z r g h;simp only [AO] at h ⊢;rw [ren_may r g.ok] at h
    split at h
    · rename_i hm
      rw [if_pos hm];rw [ren_moved] at h;exact ih (Y := moved Y z) r (g.moved hm) h
    · rename_i hm
      simp only [Prod.mk.injEq] at h;exact absurd h.2 hm
open Classical in
theorem ren_reach {Y : Yard} (r : Ren Y.cars cs' s) (f : Fine Y) (d : Nat) : reach (ren cs' s Y) d = reach Y d := by
  have fr := OU r f;have hok : ∀ {l : List Shift} {X : Yard}, AO Y l = (X, 0) → OkAll Y.cars X.tracks := fun {l X} h => by
    have k := IA l h;have := k.okAll f
    rwa [k.cars] at this
  have hinj : ∀ {l l' : List Shift} {X Z : Yard}, AO Y l = (X, 0) → AO Y l' = (Z, 0) → (ren cs' s X).tracks = (ren cs' s Z).tracks → X.tracks = Z.tracks := fun hx hz e => maps_inj r (hok hx) (hok hz) e
  have a1 : reach Y d ≤ reach (ren cs' s Y) d := reach_map f fr (ren cs' s) (fun l X h => ren_play l r f.good h) (fun l l' X Z hx hz e => hinj hx hz e) d
  let back : Yard → Yard := fun Z => if h : ∃ X, (∃ l, AO Y l = (X, 0)) ∧ Z = ren cs' s X then Classical.choose h else Z
  have hb : ∀ l Z, AO (ren cs' s Y) l = (Z, 0) → AO Y l = (back Z, 0) ∧ Z = ren cs' s (back Z) := fun l Z h => by
    obtain ⟨X, hx, e⟩ := ren_back l r f.good h;have hex : ∃ X, (∃ l, AO Y l = (X, 0)) ∧ Z = ren cs' s X := ⟨X, ⟨l, hx⟩, e⟩;have eb : back Z = Classical.choose hex := dif_pos hex;obtain ⟨⟨l', hl'⟩, e'⟩ := Classical.choose_spec hex;rw [← eb] at hl' e';have ht : X.tracks = (back Z).tracks := hinj hx hl' (by rw [← e, ← e']);have := KN (IA l hx) (IA l' hl') ht;exact ⟨by rw [← this]; exact hx, e'⟩
  have a2 : reach (ren cs' s Y) d ≤ reach Y d := reach_map fr f back (fun l X h => (hb l X h).1) (fun l l' X Z hx hz e => by
    rw [(hb l X hx).2, (hb l' Z hz).2]
    show (back X).tracks.map _ = (back Z).tracks.map _
    rw [e]) d
  omega
theorem ren_goCold (r : Ren cs cs' s) : ∀ (t : List Int) (p : Bool), Ok cs t → (GV cs' p (t.map s)).length = (GV cs p t).length := by
  intro t
  induction t with
  | nil => intro p _; rfl
  | cons c t ih =>
    intro p h;have h1 := h c List.mem_cons_self;have h2 := fun q => ih q fun x hx => h x (List.mem_cons_of_mem _ hx)
    simp only [List.map_cons, GV, r.car c h1.1 h1.2]
    split <;> simp only [List.length_cons, h2]
theorem ren_cold (r : Ren cs cs' s) {t : List Int} (h : Ok cs t) : (EU cs' (t.map s)).length = (EU cs t).length := ren_goCold r t true h
theorem ren_blocksTo (r : Ren cs cs' s) {t : List Int} (h : Ok cs t) : ∀ k, k ≤ t.length → AU cs' (t.map s) k = (AU cs t k).map (List.map s) := by
  intro k
  induction k with
  | zero => intro _; rfl
  | succ k ih =>
    intro hk;have e := ih (by omega);simp only [AU, stepB];rw [ren_coupled r h, e, List.length_map, getD_map (by omega)]
    split
    · rw [List.map_set]
      congr 1
      rw [List.map_append]
      congr 1
      by_cases hb : (AU cs t k).length - 1 < (AU cs t k).length
      · simp [List.getD, hb]
      · simp [List.getD, List.getElem?_eq_none (Nat.le_of_not_lt hb)]
    · simp
theorem ren_blocks (r : Ren cs cs' s) {t : List Int} (h : Ok cs t) : blocksOf cs' (t.map s) = (blocksOf cs t).map (List.map s) := by
  unfold blocksOf;rw [List.length_map];exact ren_blocksTo r h _ (Nat.le_refl _)
theorem ren_grow (bl : List (List Int)) : ∀ (n : Nat) (b us : List Int), DC (bl.map (List.map s)) n (b.map s) us = (DC bl n b us).map (List.map s) := by
  intro n
  induction n with
  | zero => intro b us; rfl
  | succ n ih =>
    intro b us;simp only [DC, EJ, List.length_map, List.map_flatMap]
    congr 1
    funext i
    split
    · rfl
    · rw [← ih, List.map_append]
      congr 2
      by_cases hb : i < bl.length
      · simp [List.getD, hb]
      · simp [List.getD, List.getElem?_eq_none (Nat.le_of_not_lt hb)]
def LW (cs : List Car) (t : List Int) : Nat := (EU cs t).length
theorem warm_lt {cs : List Car} {a b : List Int} (h : CQ cs a b < 0) : LW cs a ≤ LW cs b := by
  unfold CQ at h; unfold LW
  split at h <;> omega
theorem warm_ge {cs : List Car} {a b : List Int} (h : ¬ CQ cs a b < 0) : LW cs b ≤ LW cs a := by
  unfold CQ at h; unfold LW
  split at h <;> omega
theorem minF_cold (cs : List Car) : ∀ (l : List (List Int)) (m : List Int), LW cs (KW (CQ cs) l m) ≤ LW cs m ∧ ∀ x ∈ l, LW cs (KW (CQ cs) l m) ≤ LW cs x := by
  intro l
  induction l with
  | nil => intro m; exact ⟨Nat.le_refl _, fun _ h => by simp at h⟩
  | cons x r ih =>
    intro m;simp only [KW]
    split
    · rename_i h
      have h2 := ih x;have := warm_lt h;refine ⟨by omega, fun y hy => ?_⟩;rcases List.mem_cons.1 hy with e | hy
      · subst e; exact h2.1
      · exact h2.2 y hy
    · rename_i h
      have h2 := ih m;have := warm_ge h;refine ⟨h2.1, fun y hy => ?_⟩;rcases List.mem_cons.1 hy with e | hy
      · subst e; omega
      · exact h2.2 y hy
theorem ren_min (r : Ren cs cs' s) {os : List (List Int)} (ho : ∀ t ∈ os, Ok cs t) :
    LW cs' (KW (CQ cs') ((os.map (List.map s)).drop 1) ((os.map (List.map s)).getD 0 [])) = LW cs (KW (CQ cs) (os.drop 1) (os.getD 0 [])) := by
  cases os with
  | nil => rfl
  | cons x l =>
    simp only [List.map_cons, List.drop_succ_cons, List.drop_zero, List.getD_cons_zero];have hc : ∀ t ∈ x :: l, LW cs' (t.map s) = LW cs t := fun t ht => ren_cold r (ho t ht)
    have h1 := minF_cold cs l x;have h2 := minF_cold cs' (l.map (List.map s)) (x.map s);have m1 := minF_mem (f := CQ cs) l x;have m2 := minF_mem (f := CQ cs') (l.map (List.map s)) (x.map s);refine Nat.le_antisymm ?_ ?_
    · rcases m1 with m1 | m1
      · have := h2.1; rw [hc x List.mem_cons_self] at this; rw [m1]; exact this
      · have := h2.2 _ (List.mem_map_of_mem m1); rw [hc _ (List.mem_cons_of_mem _ m1)] at this; exact this
    · rcases m2 with m2 | m2
      · rw [m2, hc x List.mem_cons_self]; exact h1.1
      · obtain ⟨y, hy, e⟩ := List.mem_map.1 m2
        rw [← e, hc y (List.mem_cons_of_mem _ hy)]; exact h1.2 y hy
theorem grow_ok {bl : List (List Int)} (hb : ∀ t ∈ bl, Ok cs t) : ∀ (n : Nat) (b us : List Int), Ok cs b → ∀ t ∈ DC bl n b us, Ok cs t := by
  intro n
  induction n with
  | zero => intro b us h t ht; simp only [DC, List.mem_singleton] at ht; subst ht; exact h
  | succ n ih =>
    intro b us h t ht;simp only [DC, EJ] at ht;obtain ⟨i, hi, ht⟩ := List.mem_flatMap.1 ht
    split at ht
    · simp at ht
    · refine ih _ _ (h.append ?_) t ht
      by_cases hk : i < bl.length
      · exact hb _ (AH hk)
      · rw [show bl.getD i [] = [] by simp [List.getD, List.getElem?_eq_none (Nat.le_of_not_lt hk)]]; intro c hc; simp at hc
theorem blocksTo_ok {t : List Int} (h : Ok cs t) : ∀ k, k ≤ t.length → ∀ b ∈ AU cs t k, Ok cs b := by
  intro k
  induction k with
  | zero => intro _ b hb; simp [AU] at hb
  | succ k ih =>
    intro hk b hb;have e := ih (by omega);have hc : Ok cs [t.getD k 0] := fun c hc => by simp only [List.mem_singleton] at hc; subst hc; exact h.at k (by omega)
    simp only [AU, stepB] at hb
    split at hb
    · rcases List.mem_or_eq_of_mem_set hb with hb | hb
      · exact e b hb
      · subst hb
        refine Ok.append ?_ hc
        by_cases hk : (AU cs t k).length - 1 < (AU cs t k).length
        · exact e _ (AH hk)
        · rw [show (AU cs t k).getD ((AU cs t k).length - 1) [] = [] by simp [List.getD, List.getElem?_eq_none (Nat.le_of_not_lt hk)]]; intro c hc; simp at hc
    · rcases List.mem_append.1 hb with hb | hb
      · exact e b hb
      · simp only [List.mem_singleton] at hb; subst hb; exact hc
theorem ren_warm {Y : Yard} (r : Ren Y.cars cs' s) (f : Fine Y) : (FC (ren cs' s Y)).2.1 = (FC Y).2.1 ∧ (FC (ren cs' s Y)).2.2 = 0 ∧ (FC Y).2.2 = 0 := by
  have fr := OU r f;rw [OX f.valid, OX fr.valid];refine ⟨?_, rfl, rfl⟩;have h0 := trk_ok f.ok 0;have hb : ∀ b ∈ blocksOf Y.cars (trk Y 0), Ok Y.cars b := blocksTo_ok h0 _ (Nat.le_refl _);have hg := grow_ok hb (blocksOf Y.cars (trk Y 0)).length [] [] (fun c hc => by simp at hc);have e1 : blocksOf (ren cs' s Y).cars (trk (ren cs' s Y) 0) = (blocksOf Y.cars (trk Y 0)).map (List.map s) := by rw [IF]; exact ren_blocks r h0
  have e2 := ren_grow (s := s) (blocksOf Y.cars (trk Y 0)) (blocksOf Y.cars (trk Y 0)).length [] [];simp only [List.map_nil] at e2;simp only [e1, List.length_map, e2];have := ren_min r hg;exact congrArg (fun n : Nat => (n : Int)) this
structure RenOut (Y Z : Yard) (o o' : List Int) : Prop where
  few : BH Z o' = BH Y o
  r0 : (EI Y 3).2 = 0
  r1 : (EI Z 3).2 = 0
  rr : (EI Y 3).1 = (EI Z 3).1
  w0 : (FC Y).2.2 = 0
  w1 : (FC Z).2.2 = 0
  ww : (FC Y).2.1 = (FC Z).2.1
theorem ren_law {Y : Yard} (r : Ren Y.cars cs' s) {o : List Int} (h : BU Y o = 0) : RenOut Y (ren cs' s Y) o (o.map s) := by
  have hv := FJ h;have f := hv.fine;have fr := OU r f;have w := ren_warm r f;have e1 : EI Y 3 = (reach Y 3, 0) := reachE_ok hv rfl;have e2 : EI (ren cs' s Y) 3 = (reach (ren cs' s Y) 3, 0) := reachE_ok fr.valid rfl;exact ⟨(ren_fewest r h).1, by rw [e1], by rw [e2], by rw [e1, e2, ren_reach r f], w.2.2, w.2.1, w.1.symm⟩
end
theorem getD_inj {d : List Int} (hn : d.Nodup) {i j : Nat} (hi : i < d.length) (hj : j < d.length) (e : d.getD i 0 = d.getD j 0) : i = j := by
  simp only [List.getD, List.getElem?_eq_getElem hi, List.getElem?_eq_getElem hj, Option.getD_some] at e;rcases Nat.lt_trichotomy i j with h | h | h
  · exact absurd e (List.pairwise_iff_getElem.1 hn i j hi hj h)
  · exact h
  · exact absurd e.symm (List.pairwise_iff_getElem.1 hn j i hj hi h)
def BM (d : List Int) (c : Int) : Int := d.getD c.toNat 0
def BF (cs : List Car) (d : List Int) : Nat → List Car
  | 0 => cs
  | k + 1 => (BF cs d k).set (d.getD k 0).toNat (cs.getD k AJ)
theorem MX (cs : List Car) (d : List Int) (k : Nat) : (BF cs d k).length = cs.length := by
  induction k with
  | zero => rfl
  | succ k ih => simp only [BF, List.length_set]; exact ih
theorem carsTo_old (cs : List Car) (d : List Int) : ∀ k, k ≤ cs.length → ∀ x ∈ BF cs d k, x ∈ cs := by
  intro k
  induction k with
  | zero => intro _ x h; exact h
  | succ k ih =>
    intro hk x h;rcases List.mem_or_eq_of_mem_set h with h | h
    · exact ih (by omega) x h
    · subst h; exact AH (by omega)
theorem carsTo_at {cs : List Car} {d : List Int} (hn : d.Nodup) (hr : ∀ c ∈ d, 0 ≤ c ∧ c < (cs.length : Int)) (hl : d.length = cs.length) : ∀ k, k ≤ cs.length → ∀ i, i < k → (BF cs d k).getD (d.getD i 0).toNat AJ = cs.getD i AJ := by
  intro k
  induction k with
  | zero => intro _ i h; omega
  | succ k ih =>
    intro hk i hi;have h1 := hr _ (GU (xs := d) (k := i) (by omega));have h2 := hr _ (GU (xs := d) (k := k) (by omega));simp only [BF]
    by_cases e : i = k
    · subst e
      have : (d.getD i 0).toNat < (BF cs d i).length := by rw [MX]; omega
      generalize (d.getD i 0).toNat = q at this
      generalize cs.getD i AJ = v
      simp [List.getD, this]
    · have hne : (d.getD k 0).toNat ≠ (d.getD i 0).toNat := fun hh => e (getD_inj hn (by omega) (by omega) (by omega : d.getD k 0 = d.getD i 0)).symm
      have h := ih (by omega) i (by omega);rw [← h]
      generalize (d.getD k 0).toNat = q at hne
      generalize (d.getD i 0).toNat = q2 at hne
      simp only [List.getD, List.getElem?_set_ne hne]
theorem names_ren {cs : List Car} {d : List Int} (hp : d.Perm (CM cs.length)) : Ren cs (BF cs d cs.length) (BM d) := by
  have hn : d.Nodup := hp.nodup_iff.2 ((FG _).imp fun h => Int.ne_of_lt h);have hl : d.length = cs.length := by have := hp.length_eq; rwa [DB] at this
  have hr : ∀ c ∈ d, 0 ≤ c ∧ c < (cs.length : Int) := fun c hc => mem_wholeL.1 (hp.mem_iff.1 hc)
  refine ⟨MX _ _ _, fun c h1 h2 => hr _ (GU (by omega)), fun a b a1 a2 b1 b2 e => ?_, fun c h1 h2 => ?_, carsTo_old _ _ _ (Nat.le_refl _)⟩
  · have := getD_inj hn (i := a.toNat) (j := b.toNat) (by omega) (by omega) e
    omega
  · exact carsTo_at hn hr hl _ (Nat.le_refl _) c.toNat (by omega)
def DM {α : Type} (f : α → α) (ts : List α) (k : Nat) : List α := (ts.take k).map f ++ ts.drop k
section
variable {α : Type} {f : α → α} {ts : List α} {k : Nat} {d : α}
theorem mapTo_zero (f : α → α) (ts : List α) : DM f ts 0 = ts := by simp [DM]
theorem mapTo_len (f : α → α) (ts : List α) (k : Nat) : (DM f ts k).length = ts.length := by simp [DM]; omega
theorem mapTo_done (hk : ts.length ≤ k) : DM f ts k = ts.map f := by simp [DM, List.take_of_length_le hk, List.drop_of_length_le hk]
theorem OQ (hk : k < ts.length) : (DM f ts k).getD k d = ts.getD k d := by
  have hl : ((ts.take k).map f).length = k := by simp; omega
  unfold DM;rw [List.getD, List.getElem?_append_right (by omega), hl, Nat.sub_self];simp [List.getD]
theorem mapTo_step (hk : k < ts.length) : (DM f ts k).set k (f ((DM f ts k).getD k d)) = DM f ts (k + 1) := by
  have hl : ((ts.take k).map f).length = k := by simp; omega
  rw [OQ hk];unfold DM;rw [List.set_append_right _ _ (by omega), hl, Nat.sub_self, BQ (d := d) hk, List.set_cons_zero, CP (d := d) hk, List.map_append, List.append_assoc];rfl
end
theorem names_len {n : Nat} {d : List Int} (hp : d.Perm (CM n)) : d.length = n := by rw [hp.length_eq, DB]
theorem names_rng {n : Nat} {d : List Int} (hp : d.Perm (CM n)) {k : Nat} (hk : k < d.length) : 0 ≤ d.getD k 0 ∧ d.getD k 0 < (n : Int) := mem_wholeL.1 (hp.mem_iff.1 (GU hk))
theorem named_ok {Y : Yard} (f : Fine Y) {d : List Int} (hp : d.Perm (CM Y.cars.length)) {k : Nat} (hk : k < Y.tracks.length) {g : List Int → List Int} : ∀ c ∈ (DM g Y.tracks k).getD k [], 0 ≤ c ∧ c < (d.length : Int) := by
  rw [OQ hk, names_len hp];exact f.ok _ (AH hk)
theorem ren_made {Y : Yard} {d : List Int} {k j : Nat} (hk : k = Y.cars.length) (hj : Y.tracks.length ≤ j) : (⟨BF Y.cars d k, Y.room, DM (List.map (BM d)) Y.tracks j⟩ : Yard) = ren (BF Y.cars d Y.cars.length) (BM d) Y := by
  rw [hk, mapTo_done hj]; rfl
end Go.Sh
namespace Go.Proofs.YtcaocbhbofejnaaGreatDoor
open Go Go.Sl Go.Sh
set_option maxRecDepth 100000
noncomputable def c_named (p : List Nat) : Code := sub (AW Tryz.f47) p
theorem named_ct (I : Imm) (a : Value) (xs : List Int) (b : Value) (d : List Int) (a_f : BC I a xs) (b_f : BC I b d) (hr : ∀ c ∈ xs, 0 ≤ c ∧ c < (d.length : Int)) (hl : xs.length ≤ 1000000) : Ct Tryz.prog 47 #[a, b] I ([]) (fun v I' M' => ∃ u : Value, ∃ Ms : Seg, v = u ∧ M' = Ms ∧ Own 3 1 AQ u (xs.map (BM d)) Ms) := by
 obtain ⟨a7, a8, c2, c5, b9, c3, c4, b4⟩ := id a_f;subst b9;obtain ⟨a9, b0, c6, c9, c0, c7, c8, b5⟩ := id b_f;subst c0;refine fr (args := [_, _]) (N := 24) Tryz.func47 (fun F => ?_);show Run _ _ (c_named []) _ _ [(0, .slice a7 xs.length a8), (1, .slice a9 d.length b0)] _ _;refine rnm (rqr ?_);refine sp 1 [(4, .slice none 0 0)] (sn (sp 1 [(5, .slice none 0 0)] (se (rq (rqr (sp 1 [(6, .int .i64 (0))] (se (rb 0 ?_))))))));refine rl (fun mz a w => ∃ k : Nat, ∃ a4 : Value, ∃ a0 : Seg, (k ≤ xs.length) ∧ (Own 3 1 AQ a4 ((xs.take k).map (BM d)) a0) ∧ Slots 24 [(5, a4), (6, .int .i64 ↑k), (0, .slice a7 xs.length a8), (1, .slice a9 d.length b0), (4, .slice none 0 0)] a ∧ a.defers = [] ∧ St I ((a0 ++ F)) w ∧ mz = xs.length - k) ?_ ?_
 ·intro a w hS hD hW;exact ⟨_, 0, (.slice none 0 0), [], Nat.zero_le _, (Own.nil _ _ _), hS.sub (.cons 5 rfl (.cons 6 rfl (.cons 0 rfl (.cons 1 rfl (.cons 4 rfl (.nil _)))))), hD, hW, rfl⟩
 rintro mz a w ⟨k, a4, a0, hk, a3, hS, hD, hW, rfl⟩
 refine BB hS hD hW ?_;clear hS hD hW a w;obtain ⟨a1, a2, a5, a6⟩ := a3.shape; subst a5;refine rq (rqr (sp 4 [(10, .bool (cmp .lss (↑k) (↑(xs.length))))] (se (rc 10 rfl (fun h1 => ?_) (fun h1 => ?_)))))
 ·
  have b2 := h1;have h1 := CE h1;refine AM (NX (rq (rb 1 ?_)));have hx := hr _ (GU (xs := xs) (k := k) (by omega));refine rr (sp 4 [(16, .int .i64 (↑k)), (15, .slice a7 xs.length a8), (14, .slice a9 d.length b0), (13, .slice a1 ((xs.take k).map (BM d)).length a2)] (sd (di 17 1 (k) b4.addr) (sd (dl 18 (BO b4 (k) (by omega))) (sd (diI 19 1 (xs.getD (k) 0) b5.addr (hj := ⟨by omega, by omega⟩)) (sd (dl 20 (BO b5 ((xs.getD (k) 0 : Int).toNat) (by omega))) (sS (sbs 21 3 1 #[.int .i64 (d.getD ((xs.getD (k) 0 : Int).toNat) 0)] (fun b1 => (sS (AR (d := 22) (x := (.tmp 13)) (y := (.tmp 21)) (T := 23) (T' := 23) (E := 3) (E' := 3) (sz := 1) (bs := 8) (z := .int .i64 (0)) (cell := AQ) (xs := (xs.take k).map (BM d)) (ys := [(d.getD ((xs.getD (k) 0 : Int).toNat) 0 : Int)]) (Ms := a0) (ty := 23) (gd := none) (by kernel_rfl) rfl (by kernel_rfl) (by kernel_rfl) (by kernel_rfl) (by kernel_rfl) (by kernel_rfl) (by decide) (by kernel_rfl) rfl rfl (a3) (PM.symm) (BT _) (CW 0 rfl rfl) (by first | omega | (simp only [List.length_map, LK, LC, LN]; omega)) (fun v3 b3 b6 => (AV (M' := ((b3 ++ F))) (fun w h => (h.perm PM).sub (TC _ (TR _))) ?_))))))))))));obtain ⟨b7, b8, c1, d0⟩ := b6.shape;subst c1;refine sp 1 [(5, .slice b7 (((xs.take k).map (BM d)) ++ ([(d.getD ((xs.getD (k) 0 : Int).toNat) 0 : Int)])).length b8)] (ee (NB (NX (rr (sp 1 [(11, .int .i64 (↑k))] (sd (da 12 (↑k) (1)) (sp 1 [(6, .int .i64 (↑k + 1))] (ee ?_))))))));refine AE (xs.length - (k+1)) (by omega) ?_;intro a w hS hD hW;exact ⟨k+1, .slice b7 (((xs.take k).map (BM d)) ++ ([(d.getD ((xs.getD (k) 0 : Int).toNat) 0 : Int)])).length b8, b3, by omega, (by rw [CP (d := 0) (by omega), List.map_append]; exact b6), hS.sub (.consE 5 rfl rfl (.consE 6 rfl rfl (.cons 0 rfl (.cons 1 rfl (.cons 4 rfl (.nil _)))))), hD, hW, rfl⟩
 have b2 := h1;have h1 := CD h1;refine CJ 0 ((EP (EP (EB (NX (rqr (sp 2 [(4, .slice a1 ((xs.take k).map (BM d)).length a2)] (se (BS (AD (t := 4) (a0) (by kernel_rfl) rfl (TA (TR _) _) (IR _) ?_))))))))));exact ⟨_, _, rfl, rfl, ((show (xs.take k).map (BM d) = xs.map (BM d) from by rw [CO (by omega)]) ▸ a3)⟩
end Go.Proofs.YtcaocbhbofejnaaGreatDoor
namespace Go.Sh
open Go Go.Sl
def yvD : Value × Value × Value := (undef, undef, undef)
def YardsV (I : Imm) (xs : List (Value × Value × Value)) (Ys : List Yard) : Prop := xs.length = Ys.length ∧ ∀ i, i < xs.length → IsYard I (.agg #[(xs.getD i yvD).1, (xs.getD i yvD).2.1, (xs.getD i yvD).2.2]) (Ys.getD i BI)
theorem YardsV.mono {I J : Imm} {xs : List (Value × Value × Value)} {Ys : List Yard} (h : YardsV I xs Ys) (le : I.le J) : YardsV J xs Ys := ⟨h.1, fun i hi => (h.2 i hi).mono le⟩
theorem YardsV.nil (I : Imm) : YardsV I [] [] := ⟨rfl, fun i hi => by simp at hi⟩
theorem YardsV.snoc {I : Imm} {xs : List (Value × Value × Value)} {Ys : List Yard} {a b c : Value} {Y : Yard} (h : YardsV I xs Ys) (hY : IsYard I (.agg #[a, b, c]) Y) : YardsV I (xs ++ [(a, b, c)]) (Ys ++ [Y]) := by
  refine ⟨by simp [h.1], fun i hi => ?_⟩;rw [List.length_append, List.length_singleton] at hi;have hl := h.1
  by_cases hb : i < xs.length
  · have e1 : (xs ++ [(a, b, c)]).getD i yvD = xs.getD i yvD := by simp [List.getD, List.getElem?_append_left hb]
    have e2 : (Ys ++ [Y]).getD i BI = Ys.getD i BI := by simp [List.getD, List.getElem?_append_left (show i < Ys.length by omega)]
    rw [e1, e2]; exact h.2 i hb
  · obtain rfl : i = xs.length := by omega
    have e1 : (xs ++ [(a, b, c)]).getD xs.length yvD = (a, b, c) := by simp [List.getD]
    have e2 : (Ys ++ [Y]).getD xs.length BI = Y := by simp [List.getD, hl]
    rw [e1, e2]; exact hY
theorem YardsV.at {I : Imm} {xs : List (Value × Value × Value)} {Ys : List Yard} (h : YardsV I xs Ys) {i : Nat} (hi : i < xs.length) :
    ∃ a b c, xs.getD i yvD = (a, b, c) ∧ EK I a (Ys.getD i BI).cars ∧ BC I b (Ys.getD i BI).room ∧ IsRows I c (Ys.getD i BI).tracks := by
  obtain ⟨v1, v2, v3, h1, h2, h3, h4⟩ := h.2 i hi;simp only [Value.agg.injEq] at h1;have e := congrArg Array.toList h1;simp only [List.cons.injEq, and_true] at e;refine ⟨v1, v2, v3, ?_, h2, h3, h4⟩;rw [← e.1, ← e.2.1, ← e.2.2]
def RowsS (I : Imm) (vs : List Value) (Ls : List (List Shift)) : Prop := vs.length = Ls.length ∧ ∀ i, i < Ls.length → HU I (vs.getD i undef) (Ls.getD i [])
theorem RowsS.mono {I J : Imm} {vs : List Value} {Ls : List (List Shift)} (h : RowsS I vs Ls) (le : I.le J) : RowsS J vs Ls := ⟨h.1, fun i hi => (h.2 i hi).mono le⟩
theorem RowsS.nil (I : Imm) : RowsS I [] [] := ⟨rfl, fun i hi => by simp at hi⟩
theorem RowsS.snoc {I : Imm} {vs : List Value} {Ls : List (List Shift)} {v : Value} {l : List Shift} (h : RowsS I vs Ls) (hv : HU I v l) : RowsS I (vs ++ [v]) (Ls ++ [l]) := by
  have hl := h.1;refine ⟨by simp [hl], fun i hi => ?_⟩;rw [List.length_append, List.length_singleton] at hi
  by_cases hb : i < Ls.length
  · have e1 : (vs ++ [v]).getD i undef = vs.getD i undef := by simp [List.getD, List.getElem?_append_left (show i < vs.length by omega)]
    have e2 : (Ls ++ [l]).getD i [] = Ls.getD i [] := by simp [List.getD, List.getElem?_append_left hb]
    rw [e1, e2]; exact h.2 i hb
  · obtain rfl : i = Ls.length := by omega
    have e1 : (vs ++ [v]).getD Ls.length undef = v := by simp [List.getD, ← hl]
    have e2 : (Ls ++ [l]).getD Ls.length [] = l := by simp [List.getD]
    rw [e1, e2]; exact hv
structure Few (n : Nat) (Y : Yard) : Prop where
  cars : Y.cars.length ≤ n
  room : Y.room.length ≤ n
  tracks : Y.tracks.length ≤ n
  each : ∀ t ∈ Y.tracks, t.length ≤ n
theorem Fine.few {Y : Yard} (f : Fine Y) : Few 20 Y := by
  have h1 := f.cars; have h2 := f.room3; have h3 := f.len;refine ⟨by omega, by omega, by omega, fun t ht => ?_⟩;have := ED ht; have := f.sum;omega
end Go.Sh
namespace Go.Sl
open Go
theorem one1_car (z : Sh.Car) : ∀ w ∈ (List.range 6).map (Sh.carCell z), EL w = true := by
  intro w hw;obtain ⟨f, hf, rfl⟩ := List.mem_map.1 hw;have := List.mem_range.1 hf
  match f, this with
  | 0, _ => rfl
  | 1, _ => rfl
  | 2, _ => rfl
  | 3, _ => rfl
  | 4, _ => rfl
  | 5, _ => rfl
end Go.Sl
namespace Go.Proofs.YtcaocbhbofejnaaGreatDoor
open Go Go.Sl Go.Sh
set_option maxRecDepth 100000
noncomputable def c_ShuntRenamed (p : List Nat) : Code := sub (AW Tryz.f8) p
set_option maxHeartbeats 1000000 in
theorem ShuntRenamed_ct (I : Imm) (x : Value) (nums : List Int) (x_f : BC I x nums) (hG : Glob I) : Ct Tryz.prog 8 #[x] I ([]) (fun v I' M' => v = .bool (true) ∧ M' = []) := by
 obtain ⟨T7, T8, Y1, Y4, W4, Y2, Y3, Y5⟩ := id x_f;subst W4;refine fr (args := [_]) (N := 149) Tryz.func8 (fun F => ?_);show Run _ _ (c_ShuntRenamed []) _ _ [(0, .slice T7 nums.length T8)] _ _;refine rnm (rqr ?_);refine sp 1 [(2, .bool (false))] (sn (sp 1 [(24, .slice T7 nums.length T8)] ?_));have r4 := NewBag_ct I _ _ x_f;refine sS (sc (some 25) (r4 :) (.refl _) (fun X8 I1 X7 s0 V0 => ?_));obtain ⟨u6, W3, P0, O8⟩ := V0;rw [P0, O8]; clear P0 O8;replace hG := hG.mono s0;refine nm ?_;refine sp 1 [(3, .pointer (some ⟨u6, 0, none⟩))] (sn (sp 1 [(26, .pointer (some ⟨u6, 0, none⟩))] ?_));have r5 := YardOf_ct I1 (u6) (W3) (4) (2) (by omega) (by omega);refine sS (sc (some 27) (F := (F)) (r5 :) (.refl _) (fun V7 U0 V3 m0 K9 => ?_));obtain ⟨o1, a0, T1, g0, T3, f2, T5, b2, e6, t5, s1, M6, V2, u3, u4, u5, f3⟩ := K9;rw [t5, s1]; clear t5 s1;replace hG := hG.mono m0;obtain ⟨a5, a6, l3, C5⟩ := u3.shape;subst l3;obtain ⟨a8, a9, l5, C7⟩ := u4.shape;subst l5;obtain ⟨b0, b1, l7, C9⟩ := u5.shape;subst l7;have j6 := f3.1
 try simp only [LS, LA, LC, LN, LK] at j6
 refine AV (M' := ((u6, Obj.cells #[.int .u64 (o1)] 95 (0, 0)) :: (g0 ++ (f2 ++ (e6 ++ F))))) (fun w h => by simpa only [AA, CA, NA] using h) (nm ?_);have M4 : Valid a0 := M6;have r9 := M4.fine; have i9 := M4.good; have K7 := M4.lens;have X1 := r9.room1; have X2 := r9.len; have X3 := r9.room3; have X4 := r9.cars;refine sS (sal 4 26 #[.slice none 0 0, .slice none 0 0, .slice none 0 0] (fun d1 => (sS (ss 0 0 d1 [.slice a5 a0.cars.length a6, .slice a8 a0.room.length a9, .slice b0 b2.length b1] [.slice a5 a0.cars.length a6, .slice a8 a0.room.length a9, .slice b0 b2.length b1] (_ :: _ :: _) (cs := [_, _, _]) rfl rfl (sn (sp 2 [(29, .pointer (some ⟨d1, 0, none⟩)), (28, .pointer (some ⟨u6, 0, none⟩))] (sd (dlb 30 0 0 d1 (.slice a5 a0.cars.length a6)) (sp 1 [(31, .int .i64 (↑(a0.cars.length)))] ?_))))))));have r6 := Deal_ct U0 (u6) (o1) (a0.cars.length) (by omega);refine sS (sc (some 32) (F := ((d1, Obj.cells #[.slice a5 a0.cars.length a6, .slice a8 a0.room.length a9, .slice b0 b2.length b1] 26 (0, 0)) :: (g0 ++ (f2 ++ (e6 ++ F))))) (r6 :) (PS _ _ _) (fun V8 W5 V4 j1 M0 => ?_));obtain ⟨g6, b8, X9, q8, t6, s2, M7, u7⟩ := M0;rw [t6, s2]; clear t6 s2;replace hG := hG.mono j1;replace f3 := f3.mono j1;obtain ⟨g7, g8, v2, R5⟩ := u7.shape;subst v2;refine AV (M' := ((u6, Obj.cells #[.int .u64 (g6)] 95 (0, 0)) :: (q8 ++ (d1, Obj.cells #[.slice a5 a0.cars.length a6, .slice a8 a0.room.length a9, .slice b0 b2.length b1] 26 (0, 0)) :: (g0 ++ (f2 ++ (e6 ++ F)))))) (fun w h => by simpa only [AA, CA, NA] using h) (pm (M' := ((u6, Obj.cells #[.int .u64 (g6)] 95 (0, 0)) :: (d1, Obj.cells #[.slice a5 a0.cars.length a6, .slice a8 a0.room.length a9, .slice b0 b2.length b1] 26 (0, 0)) :: (q8 ++ (g0 ++ (f2 ++ (e6 ++ F)))))) (PC _ PM) ?_);have A8 : b8.Perm (CM a0.cars.length) := M7;have U8 := names_len A8;refine sfz (A := ((u6, Obj.cells #[.int .u64 (g6)] 95 (0, 0)) :: (d1, Obj.cells #[.slice a5 a0.cars.length a6, .slice a8 a0.room.length a9, .slice b0 b2.length b1] 26 (0, 0)) :: (g0 ++ (f2 ++ (e6 ++ F))))) 0 u7 (PU (PM.symm)) (fun W6 j2 b9 => ?_);replace hG := hG.mono j2;replace f3 := f3.mono j2;obtain ⟨E8, G0, E9, G3, o5, G1, G2, d0⟩ := id b9;cases o5;refine sp 1 [(5, .slice g7 b8.length g8)] (sn (sp 1 [(33, .pointer (some ⟨u6, 0, none⟩))] (sd (dnb 34 1 0 d1 [.slice a5 a0.cars.length a6, .slice a8 a0.room.length a9, .slice b0 b2.length b1]) (sfz (A := ((u6, Obj.cells #[.int .u64 (g6)] 95 (0, 0)) :: (d1, Obj.cells #[.slice a5 a0.cars.length a6, .slice a8 a0.room.length a9, .slice b0 b2.length b1] 26 (0, 0)) :: (f2 ++ (e6 ++ F)))) AJ u3 (PU (PM.symm)) (fun W7 h4 b3 => ?_)))));replace hG := hG.mono h4;replace f3 := f3.mono h4;replace b9 := b9.mono h4;replace d0 := d0.mono h4;obtain ⟨G4, G6, G5, G9, o6, G7, G8, d2⟩ := id b3;cases o6;refine sfz (A := ((u6, Obj.cells #[.int .u64 (g6)] 95 (0, 0)) :: (d1, Obj.cells #[.slice a5 a0.cars.length a6, .slice a8 a0.room.length a9, .slice b0 b2.length b1] 26 (0, 0)) :: (e6 ++ F))) 0 u4 (PU (PM.symm)) (fun W8 g3 b6 => ?_);replace hG := hG.mono g3;replace f3 := f3.mono g3;replace b9 := b9.mono g3;replace d0 := d0.mono g3;replace b3 := b3.mono g3;replace d2 := d2.mono g3;obtain ⟨J0, J3, J2, J6, o7, J4, J5, J7⟩ := id b6;cases o7;refine sfz (A := ((u6, Obj.cells #[.int .u64 (g6)] 95 (0, 0)) :: (d1, Obj.cells #[.slice a5 a0.cars.length a6, .slice a8 a0.room.length a9, .slice b0 b2.length b1] 26 (0, 0)) :: F)) undef u5 (PU (PM.symm)) (fun U6 f5 i8 => ?_);replace hG := hG.mono f5;replace f3 := f3.mono f5;replace b9 := b9.mono f5;replace d0 := d0.mono f5;replace b3 := b3.mono f5;replace d2 := d2.mono f5;replace b6 := b6.mono f5;obtain ⟨J8, K0, J9, K3, o8, K1, K2, K4⟩ := id i8;cases o8;have b7 := f3.isRows i8;have r3 := f3.1;obtain ⟨E0, E2, E1, E5, x2, o4, E3, E4, E6, E7⟩ := id b7
 injection o4 with fr62_e1 fr62_e2 fr62_e3; subst fr62_e1; subst fr62_e3
 have r7 := orderOf_ct U6 (u6) (g6) _ (a0) (BL b3 b6 b7) (by assumption);refine sS (sc (some 35) (F := ((d1, Obj.cells #[.slice a5 a0.cars.length a6, .slice a8 a0.room.length a9, .slice b0 b2.length b1] 26 (0, 0)) :: F)) (r7 :) (.refl _) (fun V9 U7 V5 f6 M2 => ?_));obtain ⟨c5, f1, Y0, t7, s3, M8, M5⟩ := M2;rw [t7, s3]; clear t7 s3;replace hG := hG.mono f6;replace b9 := b9.mono f6;replace d0 := d0.mono f6;replace b3 := b3.mono f6;replace d2 := d2.mono f6;replace b6 := b6.mono f6;replace b7 := b7.mono f6;have c9 := M5;obtain ⟨h5, h6, R6, R9, v3, R7, R8, T0⟩ := id c9;subst v3;refine nm ?_;have O9 : BU a0 f1 = 0 ∧ f1.length ≤ 5 := M8;have U9 := (order_ok O9.1).1;refine sp 1 [(6, .slice h5 f1.length h6)] (sn (sd (dnb 36 1 0 d1 [.slice a5 a0.cars.length a6, .slice a8 a0.room.length a9, .slice b0 b2.length b1]) ?_));have r8 := CopyYard_ct U7 _ (a0) (BL b3 b6 b7) (by exact K7.1) (by exact K7.2.1) (by exact K7.2.2) (by exact i9.le);refine sS (sc (some 37) (r8 :) (.refl _) (fun W0 D9 V6 e7 M3 => ?_));obtain ⟨T2, h7, T4, c8, T6, f4, g1, t8, s4, u8, u9, v0, v1⟩ := M3;rw [t8, s4]; clear t8 s4;replace hG := hG.mono e7;replace b9 := b9.mono e7;replace d0 := d0.mono e7;replace b3 := b3.mono e7;replace d2 := d2.mono e7;replace b6 := b6.mono e7;replace b7 := b7.mono e7;replace c9 := c9.mono e7;obtain ⟨h0, h3, l4, C6⟩ := u8.shape;subst l4;obtain ⟨b4, b5, l6, C8⟩ := u9.shape;subst l6;obtain ⟨e9, f0, l8, D0⟩ := v0.shape;subst l8;have j7 := v1.1
 try simp only [LS, LA, LC, LN, LK] at j7
 refine AV (M' := ((h7 ++ (c8 ++ (g1 ++ (u6, Obj.cells #[.int .u64 (c5)] 95 (0, 0)) :: (d1, Obj.cells #[.slice a5 a0.cars.length a6, .slice a8 a0.room.length a9, .slice b0 b2.length b1] 26 (0, 0)) :: F))))) (fun w h => by simpa only [AA, CA, NA] using h) (pm (M' := ((u6, Obj.cells #[.int .u64 (c5)] 95 (0, 0)) :: (d1, Obj.cells #[.slice a5 a0.cars.length a6, .slice a8 a0.room.length a9, .slice b0 b2.length b1] 26 (0, 0)) :: (h7 ++ (c8 ++ (g1 ++ F))))) (((PA _ ((PA _ PM).trans PM)).trans PM).trans (PC _ ((PA _ ((PA _ PM).trans PM)).trans PM))) (sS (sal 7 26 #[.slice none 0 0, .slice none 0 0, .slice none 0 0] (fun d5 => (sS (ss 0 0 d5 [.slice h0 a0.cars.length h3, .slice b4 a0.room.length b5, .slice e9 f4.length f0] [.slice h0 a0.cars.length h3, .slice b4 a0.room.length b5, .slice e9 f4.length f0] (_ :: _ :: _ :: _) (cs := [_, _, _]) rfl rfl (se (rq (rqr (sp 1 [(8, .int .i64 (0))] (se (rb 0 ?_))))))))))));refine rl (fun mz a w => ∃ k : Nat, ∃ g4 : Value, ∃ c4 : Seg, (k ≤ a0.cars.length) ∧ (Own 56 6 carCell g4 (BF a0.cars b8 k) c4) ∧ Slots 149 [(8, .int .i64 ↑k), (2, .bool (false)), (4, .pointer (some ⟨d1, 0, none⟩)), (5, .slice g7 b8.length g8), (6, .slice h5 f1.length h6), (7, .pointer (some ⟨d5, 0, none⟩))] a ∧ a.defers = [] ∧ St D9 ((d5, Obj.cells #[g4, .slice b4 a0.room.length b5, .slice e9 f4.length f0] 26 (0, 0)) :: (u6, Obj.cells #[.int .u64 (c5)] 95 (0, 0)) :: (d1, Obj.cells #[.slice a5 a0.cars.length a6, .slice a8 a0.room.length a9, .slice b0 b2.length b1] 26 (0, 0)) :: (c4 ++ (c8 ++ (g1 ++ F)))) w ∧ mz = a0.cars.length - k) ?_ ?_
 ·intro a w hS hD hW;exact ⟨_, 0, .slice h0 a0.cars.length h3, h7, Nat.zero_le _, u8, hS.sub (.cons 8 rfl (.cons 2 rfl (.cons 4 rfl (.cons 5 rfl (.cons 6 rfl (.cons 7 rfl (.nil _))))))), hD, hW, rfl⟩
 rintro mz a w ⟨k, g4, c4, hk, e8, hS, hD, hW, rfl⟩
 refine BB hS hD hW ?_;clear hS hD hW a w;obtain ⟨a1, a2, h9, p9⟩ := e8.shape; subst h9;have W9 := MX a0.cars b8 k;refine rq (rqr (sp 4 [(41, .bool (cmp .lss (↑k) (↑(b8.length))))] (se (rc 41 rfl (fun h1 => ?_) (fun h1 => ?_)))))
 ·
  have K5 := h1;have h1 := CE h1;refine AM (NX (rq (rb 1 ?_)));have X0 := names_rng A8 (k := k) (by omega);refine rd0 11 (ox 1 [(44, .pointer (some ⟨d5, 0, none⟩))] ?_);refine AB (dlb 45 0 0 d5 (.slice a1 (BF a0.cars b8 k).length a2)) (ox 2 [(47, .int .i64 (↑k)), (46, .slice g7 b8.length g8)] ?_);refine AB (di 48 1 (k) d0.addr) ?_;refine AB (dl 49 (BO d0 (k) (by omega))) (ox 1 [(50, .pointer (some ⟨d1, 0, none⟩))] ?_);refine AB (dlb 51 2 0 d1 (.slice a5 a0.cars.length a6)) (ox 1 [(52, .int .i64 (↑k))] ?_);refine AB (di 53 6 (k) d2.addr) ?_;refine AB (DV (x := (.tmp 53)) (T := 56) (n := 6) (vs := [.int .i64 ((a0.cars.getD (k) AJ).len), .int .i64 ((a0.cars.getD (k) AJ).wt), .int .i64 ((a0.cars.getD (k) AJ).brk), .int .i64 ((a0.cars.getD (k) AJ).grp), .bool ((a0.cars.getD (k) AJ).pipe), .bool ((a0.cars.getD (k) AJ).heat)]) (d := 54) (ty := 56) (gd := none) (by kernel_rfl) rfl (by kernel_rfl) (by kernel_rfl) rfl rfl (cars_getN d2 (k) (by omega))) ?_;refine BN ?_;obtain ⟨V1, o0⟩ := e8.row AJ;refine sd (diI 55 6 (b8.getD (k) 0) o0.addr) (sS (stp_storeOwnN (T := 56) (x := (.tmp 55)) (y := (.tmp 54)) (rc := fun i f => carCell ((BF a0.cars b8 k).getD i AJ) f) AJ ((b8.getD (k) 0 : Int).toNat) (a0.cars.getD (k) AJ) (ty := 0) (gd := none) (by kernel_rfl) rfl e8 o0 (by omega) rfl rfl (by kernel_rfl) rfl (one1_car _) (PU (PU (PM.symm))) (fun q9 K8 => (pm (M' := ((d5, Obj.cells #[.slice a1 (BF a0.cars b8 k).length a2, .slice b4 a0.room.length b5, .slice e9 f4.length f0] 26 (0, 0)) :: (u6, Obj.cells #[.int .u64 (c5)] 95 (0, 0)) :: (d1, Obj.cells #[.slice a5 a0.cars.length a6, .slice a8 a0.room.length a9, .slice b0 b2.length b1] 26 (0, 0)) :: (q9 ++ (c8 ++ (g1 ++ F))))) (PW (PW PM)) (ee (NB (NX (rr (sp 1 [(42, .int .i64 (↑k))] (sd (da 43 (↑k) (1)) (sp 1 [(8, .int .i64 (↑k + 1))] (ee ?_))))))))))));refine AE (a0.cars.length - (k+1)) (by omega) ?_;intro a w hS hD hW;exact ⟨k+1, .slice a1 (BF a0.cars b8 k).length a2, q9, by omega, (show Own _ _ _ _ (BF a0.cars b8 (k+1)) _ from K8), hS.sub (.consE 8 rfl rfl (.cons 2 rfl (.cons 4 rfl (.cons 5 rfl (.cons 6 rfl (.cons 7 rfl (.nil _))))))), hD, hW, rfl⟩
 have K5 := h1;have h1 := CD h1;refine CJ 0 ((EP (EP (EB (NX (rq (rqr (sp 1 [(9, .int .i64 (0))] (se (rb 2 ?_))))))))));refine rl (fun mz a w => ∃ J1 : Imm, ∃ j : Nat, ∃ g5 : Value, ∃ c6 : Seg, ∃ a7 : List Value, (D9.le J1) ∧ (j ≤ a0.tracks.length) ∧ (RowsV J1 a7 (DM (List.map (BM b8)) a0.tracks j)) ∧ (Own 23 1 AN g5 (a7) c6) ∧ Slots 149 [(9, .int .i64 ↑j), (2, .bool (false)), (4, .pointer (some ⟨d1, 0, none⟩)), (5, .slice g7 b8.length g8), (6, .slice h5 f1.length h6), (7, .pointer (some ⟨d5, 0, none⟩))] a ∧ a.defers = [] ∧ St J1 ((d5, Obj.cells #[.slice a1 (BF a0.cars b8 k).length a2, .slice b4 a0.room.length b5, g5] 26 (0, 0)) :: (u6, Obj.cells #[.int .u64 (c5)] 95 (0, 0)) :: (d1, Obj.cells #[.slice a5 a0.cars.length a6, .slice a8 a0.room.length a9, .slice b0 b2.length b1] 26 (0, 0)) :: (c4 ++ (c8 ++ (c6 ++ F)))) w ∧ mz = a0.tracks.length - j) ?_ ?_
 ·intro a w hS hD hW;exact ⟨_, D9, 0, .slice e9 f4.length f0, g1, f4, IR _, Nat.zero_le _, ((mapTo_zero (List.map (BM b8)) _).symm ▸ v1), v0, hS.sub (.cons 9 rfl (.cons 2 rfl (.cons 4 rfl (.cons 5 rfl (.cons 6 rfl (.cons 7 rfl (.nil _))))))), hD, hW, rfl⟩
 rintro mz a w ⟨J1, j, g5, c6, a7, hJ1, hj, c0, e5, hS, hD, hW, rfl⟩
 refine BB hS hD hW ?_;clear hS hD hW a w;replace hG := hG.mono hJ1;replace b9 := b9.mono hJ1;replace b3 := b3.mono hJ1;replace b6 := b6.mono hJ1;replace b7 := b7.mono hJ1;replace c9 := c9.mono hJ1;obtain ⟨a3, a4, i0, q0⟩ := e5.shape; subst i0;have g9 := c0.1
 try simp only [LS, LA, LC, LN, LK] at g9
 have X6 := mapTo_len (List.map (BM b8)) a0.tracks j;refine rq (rqr (sp 2 [(57, .pointer (some ⟨d5, 2, none⟩)), (56, .int .i64 (↑j))] (sd (dlb 58 0 2 d5 (.slice a3 a7.length a4)) (sp 2 [(60, .bool (cmp .lss (↑j) (↑(a7.length))))] (se (rc 60 rfl (fun h2 => ?_) (fun h2 => ?_)))))))
 ·
  have K6 := h2;have h2 := CE h2;refine AM (NX (rq (rb 3 ?_)));have X5 : ((DM (List.map (BM b8)) a0.tracks j).getD (j) []).length ≤ 1000000 := by (rw [OQ (by omega)]; exact i9.le _ (AH (by omega)))
  refine rpm (M' := ((d5, Obj.cells #[.slice a1 (BF a0.cars b8 k).length a2, .slice b4 a0.room.length b5, .slice a3 a7.length a4] 26 (0, 0)) :: (u6, Obj.cells #[.int .u64 (c5)] 95 (0, 0)) :: (d1, Obj.cells #[.slice a5 a0.cars.length a6, .slice a8 a0.room.length a9, .slice b0 b2.length b1] 26 (0, 0)) :: (c6 ++ (c4 ++ (c8 ++ F))))) (PC _ (PC _ (PC _ (PV (PO _ _ _))))) ?_;refine rd 10 [(0, true), (1, true), (2, true), (3, true), (4, true), (5, true), (6, true), (7, true), (8, true), (9, false)] ((d5, Obj.cells #[.slice a1 (BF a0.cars b8 k).length a2, .slice b4 a0.room.length b5, .slice a3 a7.length a4] 26 (0, 0)) :: (u6, Obj.cells #[.int .u64 (c5)] 95 (0, 0)) :: (d1, Obj.cells #[.slice a5 a0.cars.length a6, .slice a8 a0.room.length a9, .slice b0 b2.length b1] 26 (0, 0)) :: c6) ((c4 ++ (c8 ++ F))) (ox 1 [(63, .pointer (some ⟨d5, 2, none⟩))] ?_);refine AB (dlb 64 0 2 d5 (.slice a3 a7.length a4)) (ox 2 [(66, .pointer (some ⟨d5, 2, none⟩)), (65, .int .i64 (↑j))] ?_);refine AB (dlb 67 0 2 d5 (.slice a3 a7.length a4)) (ox 1 [(68, .int .i64 (↑j))] ?_);obtain ⟨P1, j3⟩ := e5.row undef;refine AB (di 69 1 (j) j3.addr) ?_;have i1 := c0.2 (j) (by omega);obtain ⟨M9, O1, O0, O4, j8, O2, O3, O5⟩ := id i1;rw [j8] at i1;refine AB (BK (dl 70 (j3.get (j) (by omega) 0 (by decide) _ _ (fun x hx => by simp [hx]))) j8) (ox 1 [(71, .slice g7 b8.length g8)] ?_);have o9 := named_ct J1 _ _ _ _ i1 b9 (by exact named_ok r9 A8 (by omega)) (by rw [OQ (by omega)]; exact i9.le _ (AH (by omega)));refine MH (sc (some 72) (F := ((d5, Obj.cells #[.slice a1 (BF a0.cars b8 k).length a2, .slice b4 a0.room.length b5, .slice a3 a7.length a4] 26 (0, 0)) :: (u6, Obj.cells #[.int .u64 (c5)] 95 (0, 0)) :: (d1, Obj.cells #[.slice a5 a0.cars.length a6, .slice a8 a0.room.length a9, .slice b0 b2.length b1] 26 (0, 0)) :: (c6 ++ (c4 ++ (c8 ++ F))))) (o9 :) (PR _) (fun Q2 T9 P3 d6 s6 => ?_));obtain ⟨W1, q6, n1, m1, o2⟩ := s6;rw [n1, m1]; clear n1 m1;replace hG := hG.mono d6;replace b9 := b9.mono d6;replace b3 := b3.mono d6;replace b6 := b6.mono d6;replace b7 := b7.mono d6;replace c9 := c9.mono d6;replace c0 := c0.mono d6;obtain ⟨i2, i3, q1, O6⟩ := o2.shape;subst q1;refine hk_mem (M' := ((q6 ++ (d5, Obj.cells #[.slice a1 (BF a0.cars b8 k).length a2, .slice b4 a0.room.length b5, .slice a3 a7.length a4] 26 (0, 0)) :: (u6, Obj.cells #[.int .u64 (c5)] 95 (0, 0)) :: (d1, Obj.cells #[.slice a5 a0.cars.length a6, .slice a8 a0.room.length a9, .slice b0 b2.length b1] 26 (0, 0)) :: (c6 ++ (c4 ++ (c8 ++ F)))))) (fun w h => by simpa only [AA, CA, NA] using h) ?_;refine HM (B := ((d5, Obj.cells #[.slice a1 (BF a0.cars b8 k).length a2, .slice b4 a0.room.length b5, .slice a3 a7.length a4] 26 (0, 0)) :: (u6, Obj.cells #[.int .u64 (c5)] 95 (0, 0)) :: (d1, Obj.cells #[.slice a5 a0.cars.length a6, .slice a8 a0.room.length a9, .slice b0 b2.length b1] 26 (0, 0)) :: (c6 ++ (c4 ++ (c8 ++ F))))) 0 o2 (by first | omega | (simp only [List.length_map, LS, LC, LN, LA, LK, LD] <;> omega) | decide) (PR _) (PR _) (fun D1 d7 i4 => ?_);replace hG := hG.mono d7;replace b9 := b9.mono d7;replace b3 := b3.mono d7;replace b6 := b6.mono d7;replace b7 := b7.mono d7;replace c9 := c9.mono d7;replace c0 := c0.mono d7;obtain ⟨x3, x5, x4, x8, k0, x6, x7, x9⟩ := id i4;cases k0;refine LJ ?_;refine AX (S' := ((c4 ++ (c8 ++ F)))) (PR _) ?_;show OFP _ _ _ _ _ _ ((72, .slice i2 (((DM (List.map (BM b8)) a0.tracks j).getD (j) []).map (BM b8)).length i3) :: _) _ _;refine EX (nm (nm ?_));obtain ⟨P2, j4⟩ := e5.row undef;refine sd (di 73 1 (j) j4.addr) (sS (CV (T := 23) (x := (.tmp 73)) (y := (.tmp 72)) (rc := fun i f => AN ((a7).getD i undef) f) undef (j) 0 ((.slice i2 (((DM (List.map (BM b8)) a0.tracks j).getD (j) []).map (BM b8)).length i3 : Value)) (ty := 0) (gd := none) (by kernel_rfl) rfl e5 j4 (by omega) (by decide) rfl rfl (by kernel_rfl) rfl rfl (by intro f hf; match f, hf with | 0, _ => rfl) (PU (PU (PM.symm))) (fun l9 s5 => (pm (M' := ((d5, Obj.cells #[.slice a1 (BF a0.cars b8 k).length a2, .slice b4 a0.room.length b5, .slice a3 a7.length a4] 26 (0, 0)) :: (u6, Obj.cells #[.int .u64 (c5)] 95 (0, 0)) :: (d1, Obj.cells #[.slice a5 a0.cars.length a6, .slice a8 a0.room.length a9, .slice b0 b2.length b1] 26 (0, 0)) :: (l9 ++ (c4 ++ (c8 ++ F))))) (PW (PW PM)) ?_))));have j5 := c0.set i4 (j);have h8 := j5.1
  try simp only [LS, LA, LC, LN, LK] at h8
  refine ee (NB (NX (rr (sp 1 [(61, .int .i64 (↑j))] (sd (da 62 (↑j) (1)) (sp 1 [(9, .int .i64 (↑j + 1))] (ee ?_)))))));refine AE (a0.tracks.length - (j+1)) (by omega) ?_;intro a w hS hD hW;exact ⟨D1, j+1, .slice a3 a7.length a4, l9, a7.set (j) ((.slice i2 (((DM (List.map (BM b8)) a0.tracks j).getD (j) []).map (BM b8)).length i3 : Value)), (IT (IT hJ1 d6) d7), by omega, (by rw [← mapTo_step (d := []) (by omega)]; exact j5), s5, hS.sub (.consE 9 rfl rfl (.cons 2 rfl (.cons 4 rfl (.cons 5 rfl (.cons 6 rfl (.cons 7 rfl (.nil _))))))), hD, hW.perm (PC _ (PC _ (PC _ ((PO _ _ _).trans (PA _ (PO _ _ _)))))), rfl⟩
 have K6 := h2;have h2 := CD h2;refine CJ 2 ((EP (EP (EB (NX (rqr (sd (dnb 75 2 0 d1 [.slice a5 a0.cars.length a6, .slice a8 a0.room.length a9, .slice b0 b2.length b1]) (sp 1 [(76, .slice h5 f1.length h6)] ?_))))))));have p0 := LU J1 _ (a0) _ _ (BL b3 b6 b7) c9 (by first | exact hG | exact hG.mono hI);refine sS (sc (some 77) (p0 :) (.refl _) (fun Q3 U1 P4 d8 s7 => ?_));obtain ⟨R1, c7, n2, m2, u1⟩ := s7;rw [n2, m2]; clear n2 m2;replace hG := hG.mono d8;replace b9 := b9.mono d8;replace b3 := b3.mono d8;replace b6 := b6.mono d8;replace b7 := b7.mono d8;replace c9 := c9.mono d8;replace c0 := c0.mono d8;obtain ⟨k5, k6, k7, A9⟩ := u1.shape;subst k7;refine pm (M' := ((d5, Obj.cells #[.slice a1 (BF a0.cars b8 k).length a2, .slice b4 a0.room.length b5, .slice a3 a7.length a4] 26 (0, 0)) :: (u6, Obj.cells #[.int .u64 (c5)] 95 (0, 0)) :: (d1, Obj.cells #[.slice a5 a0.cars.length a6, .slice a8 a0.room.length a9, .slice b0 b2.length b1] 26 (0, 0)) :: (c7 ++ (c4 ++ (c8 ++ (c6 ++ F)))))) (PW (PW PM)) (sp 5 [(11, .int .i64 (((BH a0 f1).2))), (10, .slice k5 ((BH a0 f1).1).length k6)] (se (rq ?_)));refine FL (B := ((d5, Obj.cells #[.slice a1 (BF a0.cars b8 k).length a2, .slice b4 a0.room.length b5, .slice a3 a7.length a4] 26 (0, 0)) :: (u6, Obj.cells #[.int .u64 (c5)] 95 (0, 0)) :: (d1, Obj.cells #[.slice a5 a0.cars.length a6, .slice a8 a0.room.length a9, .slice b0 b2.length b1] 26 (0, 0)) :: (c7 ++ (c8 ++ (c6 ++ F))))) AJ e8 (by first | omega | (simp only [LS, LC, LN, LA, LK, LD] <;> omega) | decide) (PU (PU (PU (PO _ _ _)))) (PR _) (fun U2 d9 c1 => ?_);replace hG := hG.mono d9;replace b9 := b9.mono d9;replace b3 := b3.mono d9;replace b6 := b6.mono d9;replace b7 := b7.mono d9;replace c9 := c9.mono d9;replace c0 := c0.mono d9;obtain ⟨y0, y2, y1, y5, k1, y3, y4, y6⟩ := id c1;cases k1;refine FL (B := ((d5, Obj.cells #[.slice a1 (BF a0.cars b8 k).length a2, .slice b4 a0.room.length b5, .slice a3 a7.length a4] 26 (0, 0)) :: (u6, Obj.cells #[.int .u64 (c5)] 95 (0, 0)) :: (d1, Obj.cells #[.slice a5 a0.cars.length a6, .slice a8 a0.room.length a9, .slice b0 b2.length b1] 26 (0, 0)) :: (c7 ++ (c6 ++ F)))) 0 u9 (by first | omega | (simp only [LS, LC, LN, LA, LK, LD] <;> omega) | decide) (PU (PU (PU (PO _ _ _)))) (PR _) (fun U3 d4 c2 => ?_);replace hG := hG.mono d4;replace b9 := b9.mono d4;replace b3 := b3.mono d4;replace b6 := b6.mono d4;replace b7 := b7.mono d4;replace c9 := c9.mono d4;replace c0 := c0.mono d4;replace c1 := c1.mono d4;obtain ⟨y7, y9, y8, z2, k2, z0, z1, z3⟩ := id c2;cases k2;refine FL (B := ((d5, Obj.cells #[.slice a1 (BF a0.cars b8 k).length a2, .slice b4 a0.room.length b5, .slice a3 a7.length a4] 26 (0, 0)) :: (u6, Obj.cells #[.int .u64 (c5)] 95 (0, 0)) :: (d1, Obj.cells #[.slice a5 a0.cars.length a6, .slice a8 a0.room.length a9, .slice b0 b2.length b1] 26 (0, 0)) :: (c7 ++ F))) undef e5 (by first | omega | (simp only [LS, LC, LN, LA, LK, LD] <;> omega) | decide) (PU (PU (PU (PO _ _ _)))) (PR _) (fun D2 d3 i5 => ?_);replace hG := hG.mono d3;replace b9 := b9.mono d3;replace b3 := b3.mono d3;replace b6 := b6.mono d3;replace b7 := b7.mono d3;replace c9 := c9.mono d3;replace c0 := c0.mono d3;replace c1 := c1.mono d3;replace c2 := c2.mono d3;obtain ⟨z4, z6, z5, z9, k3, z7, z8, A0⟩ := id i5;cases k3;have c3 := c0.isRows i5;have q5 := c0.1;obtain ⟨v4, v6, v5, v9, r2, j9, v7, v8, x0, x1⟩ := id c3
 injection j9 with fr141_e1 fr141_e2 fr141_e3; subst fr141_e1; subst fr141_e3
 refine rdX (M := ((d5, Obj.cells #[.slice a1 (BF a0.cars b8 k).length a2, .slice b4 a0.room.length b5, .slice a3 a7.length a4] 26 (0, 0)) :: (u6, Obj.cells #[.int .u64 (c5)] 95 (0, 0)) :: (d1, Obj.cells #[.slice a5 a0.cars.length a6, .slice a8 a0.room.length a9, .slice b0 b2.length b1] 26 (0, 0)) :: (c7 ++ []))) (F0 := F) [] 9 [(0, true), (1, true), (2, true), (3, false), (4, false), (5, true), (6, true), (7, true), (8, true)] (by simp only [AA, CA, NA, List.append_nil]; exact PR _) hA_nil ?_;refine OS (Rx := ((d5, Obj.cells #[.slice a1 (BF a0.cars b8 k).length a2, .slice b4 a0.room.length b5, .slice a3 a7.length a4] 26 (0, 0)) :: [])) (PR _) (dnb 81 0 0 d5 [.slice a1 (BF a0.cars b8 k).length a2, .slice b4 a0.room.length b5, .slice a3 a7.length a4]) ?_;refine EF (EW (d := 82) (v := .slice h5 f1.length h6) (by kernel_rfl)) ?_;refine EF (EW (d := 83) (v := .slice g7 b8.length g8) (by kernel_rfl)) ?_;refine IU (Mx := fun FX => ((d5, Obj.cells #[.slice a1 (BF a0.cars b8 k).length a2, .slice b4 a0.room.length b5, .slice a3 a7.length a4] 26 (0, 0)) :: (u6, Obj.cells #[.int .u64 (c5)] 95 (0, 0)) :: (d1, Obj.cells #[.slice a5 a0.cars.length a6, .slice a8 a0.room.length a9, .slice b0 b2.length b1] 26 (0, 0)) :: (c7 ++ FX))) rfl (fun FX => by simp only [AA, CA, NA, List.append_nil]; exact PR _) (fun FX => ?_);have p1 := named_ct D2 _ _ _ _ c9 b9 (by rw [U8]; exact U9) (by omega);refine stp_hk (sc (some 84) (F := ((d5, Obj.cells #[.slice a1 (BF a0.cars b8 k).length a2, .slice b4 a0.room.length b5, .slice a3 a7.length a4] 26 (0, 0)) :: (u6, Obj.cells #[.int .u64 (c5)] 95 (0, 0)) :: (d1, Obj.cells #[.slice a5 a0.cars.length a6, .slice a8 a0.room.length a9, .slice b0 b2.length b1] 26 (0, 0)) :: (c7 ++ FX))) (p1 :) (PR _) (fun Q4 U4 P5 e0 s8 => ?_));obtain ⟨W2, q7, n3, m3, o3⟩ := s8;rw [n3, m3]; clear n3 m3;replace hG := hG.mono e0;replace b3 := b3.mono e0;replace b6 := b6.mono e0;replace b7 := b7.mono e0;replace c1 := c1.mono e0;replace c2 := c2.mono e0;replace c3 := c3.mono e0;obtain ⟨q2, q3, q4, O7⟩ := o3.shape;subst q4;refine hk_mem (M' := ((q7 ++ (d5, Obj.cells #[.slice a1 (BF a0.cars b8 k).length a2, .slice b4 a0.room.length b5, .slice a3 a7.length a4] 26 (0, 0)) :: (u6, Obj.cells #[.int .u64 (c5)] 95 (0, 0)) :: (d1, Obj.cells #[.slice a5 a0.cars.length a6, .slice a8 a0.room.length a9, .slice b0 b2.length b1] 26 (0, 0)) :: (c7 ++ FX)))) (fun w h => by simpa only [AA, CA, NA] using h) ?_;refine HM (B := ((d5, Obj.cells #[.slice a1 (BF a0.cars b8 k).length a2, .slice b4 a0.room.length b5, .slice a3 a7.length a4] 26 (0, 0)) :: (u6, Obj.cells #[.int .u64 (c5)] 95 (0, 0)) :: (d1, Obj.cells #[.slice a5 a0.cars.length a6, .slice a8 a0.room.length a9, .slice b0 b2.length b1] 26 (0, 0)) :: (c7 ++ FX))) 0 o3 (by first | omega | (simp only [List.length_map, LS, LC, LN, LA, LK, LD] <;> omega) | decide) (PR _) (PR _) (fun D3 e1 i6 => ?_);replace hG := hG.mono e1;replace b3 := b3.mono e1;replace b6 := b6.mono e1;replace b7 := b7.mono e1;replace c1 := c1.mono e1;replace c2 := c2.mono e1;replace c3 := c3.mono e1;obtain ⟨A1, A3, A2, A6, k4, A4, A5, A7⟩ := id i6;cases k4;refine LJ ?_;refine MI (M1 := ((d5, Obj.cells #[.slice a1 (BF a0.cars b8 k).length a2, .slice b4 a0.room.length b5, .slice a3 a7.length a4] 26 (0, 0)) :: (u6, Obj.cells #[.int .u64 (c5)] 95 (0, 0)) :: (d1, Obj.cells #[.slice a5 a0.cars.length a6, .slice a8 a0.room.length a9, .slice b0 b2.length b1] 26 (0, 0)) :: (c7 ++ []))) (by simp only [AA, CA, NA, List.append_nil]; exact (PR _)) (.wait (by kernel_rfl) (.wait (by kernel_rfl) (.part (PR _) .nil))) ?_;show OFPX _ _ _ _ _ _ _ _ ((84, .slice q2 (f1.map (BM b8)).length q3) :: _) _ _;refine IU (Mx := fun FX => ((d5, Obj.cells #[.slice a1 (BF a0.cars b8 k).length a2, .slice b4 a0.room.length b5, .slice a3 a7.length a4] 26 (0, 0)) :: (u6, Obj.cells #[.int .u64 (c5)] 95 (0, 0)) :: (d1, Obj.cells #[.slice a5 a0.cars.length a6, .slice a8 a0.room.length a9, .slice b0 b2.length b1] 26 (0, 0)) :: (c7 ++ FX))) rfl (fun FX => by simp only [AA, CA, NA, List.append_nil]; exact PR _) (fun FX => ?_);have p2 := LU D3 _ ((⟨BF a0.cars b8 k, a0.room, DM (List.map (BM b8)) a0.tracks j⟩ : Yard)) _ _ (BL c1 c2 c3) i6 (by first | exact hG | exact hG.mono hI);refine id (sc (some 85) (F := ((d5, Obj.cells #[.slice a1 (BF a0.cars b8 k).length a2, .slice b4 a0.room.length b5, .slice a3 a7.length a4] 26 (0, 0)) :: (u6, Obj.cells #[.int .u64 (c5)] 95 (0, 0)) :: (d1, Obj.cells #[.slice a5 a0.cars.length a6, .slice a8 a0.room.length a9, .slice b0 b2.length b1] 26 (0, 0)) :: (c7 ++ FX))) (p2 :) (PR _) (fun Q5 D4 P6 e2 s9 => ?_));obtain ⟨R2, i7, n4, m4, u2⟩ := s9;rw [n4, m4]; clear n4 m4;replace hG := hG.mono e2;replace b3 := b3.mono e2;replace b6 := b6.mono e2;replace b7 := b7.mono e2;replace c1 := c1.mono e2;replace c2 := c2.mono e2;replace c3 := c3.mono e2;obtain ⟨f7, f9, k8, B0⟩ := u2.shape;subst k8;refine MI (M1 := ((d5, Obj.cells #[.slice a1 (BF a0.cars b8 k).length a2, .slice b4 a0.room.length b5, .slice a3 a7.length a4] 26 (0, 0)) :: (u6, Obj.cells #[.int .u64 (c5)] 95 (0, 0)) :: (d1, Obj.cells #[.slice a5 a0.cars.length a6, .slice a8 a0.room.length a9, .slice b0 b2.length b1] 26 (0, 0)) :: (i7 ++ (c7 ++ [])))) (by simp only [AA, CA, NA, List.append_nil]; exact (PW (PW PM))) (.wait (by kernel_rfl) (.wait (by kernel_rfl) (.wait (by kernel_rfl) .nil))) ?_;show OFPX _ _ _ _ _ _ _ _ ((85, .tuple #[.slice f7 ((BH ((⟨BF a0.cars b8 k, a0.room, DM (List.map (BM b8)) a0.tracks j⟩ : Yard)) (f1.map (BM b8))).1).length f9, .int .i64 (((BH ((⟨BF a0.cars b8 k, a0.room, DM (List.map (BM b8)) a0.tracks j⟩ : Yard)) (f1.map (BM b8))).2))]) :: _) _ _;refine EF (EW (d := 80) (v := .tuple #[.slice f7 ((BH ((⟨BF a0.cars b8 k, a0.room, DM (List.map (BM b8)) a0.tracks j⟩ : Yard)) (f1.map (BM b8))).1).length f9, .int .i64 (((BH ((⟨BF a0.cars b8 k, a0.room, DM (List.map (BM b8)) a0.tracks j⟩ : Yard)) (f1.map (BM b8))).2))]) (by kernel_rfl)) ?_;refine EF (EW (d := 86) (v := .slice f7 ((BH ((⟨BF a0.cars b8 k, a0.room, DM (List.map (BM b8)) a0.tracks j⟩ : Yard)) (f1.map (BM b8))).1).length f9) (by kernel_rfl)) ?_;refine EF (EW (d := 87) (v := .int .i64 (((BH ((⟨BF a0.cars b8 k, a0.room, DM (List.map (BM b8)) a0.tracks j⟩ : Yard)) (f1.map (BM b8))).2))) (by kernel_rfl)) ?_;refine EF (EW (d := 12) (v := .slice f7 ((BH ((⟨BF a0.cars b8 k, a0.room, DM (List.map (BM b8)) a0.tracks j⟩ : Yard)) (f1.map (BM b8))).1).length f9) (by kernel_rfl)) ?_;refine ofx_end (AV (M' := ((d5, Obj.cells #[.slice a1 (BF a0.cars b8 k).length a2, .slice b4 a0.room.length b5, .slice a3 a7.length a4] 26 (0, 0)) :: (u6, Obj.cells #[.int .u64 (c5)] 95 (0, 0)) :: (d1, Obj.cells #[.slice a5 a0.cars.length a6, .slice a8 a0.room.length a9, .slice b0 b2.length b1] 26 (0, 0)) :: (i7 ++ (c7 ++ F)))) (fun w h => by simpa only [AA, CA, NA, List.append_nil] using h) (nm ?_));refine sp 1 [(13, .int .i64 (((BH ((⟨BF a0.cars b8 k, a0.room, DM (List.map (BM b8)) a0.tracks j⟩ : Yard)) (f1.map (BM b8))).2)))] (sn (sd (dnb 89 2 0 d1 [.slice a5 a0.cars.length a6, .slice a8 a0.room.length a9, .slice b0 b2.length b1]) ?_));have p3 := Reach_ct D4 _ (a0) (3) (BL b3 b6 b7) (by first | exact hG | exact hG.mono hI);refine sS (sc (some 90) (p3 :) (.refl _) (fun Q6 D5 P7 e3 t0 => ?_));obtain ⟨n5, m5⟩ := t0;rw [n5, m5]; clear n5 m5;replace hG := hG.mono e3;replace b3 := b3.mono e3;replace b6 := b6.mono e3;replace b7 := b7.mono e3;replace c1 := c1.mono e3;replace c2 := c2.mono e3;replace c3 := c3.mono e3;refine nm ?_;refine sp 5 [(15, .int .i64 (((EI a0 3).2))), (14, .int .i64 (((EI a0 3).1)))] (sn (sd (dnb 94 0 0 d5 [.slice a1 (BF a0.cars b8 k).length a2, .slice b4 a0.room.length b5, .slice a3 a7.length a4]) ?_));have p4 := Reach_ct D5 _ ((⟨BF a0.cars b8 k, a0.room, DM (List.map (BM b8)) a0.tracks j⟩ : Yard)) (3) (BL c1 c2 c3) (by first | exact hG | exact hG.mono hI);refine sS (sc (some 95) (p4 :) (.refl _) (fun Q7 D6 P8 e4 t1 => ?_));obtain ⟨n6, m6⟩ := t1;rw [n6, m6]; clear n6 m6;replace hG := hG.mono e4;replace b3 := b3.mono e4;replace b6 := b6.mono e4;replace b7 := b7.mono e4;replace c1 := c1.mono e4;replace c2 := c2.mono e4;replace c3 := c3.mono e4;refine nm ?_;refine sp 5 [(17, .int .i64 (((EI ((⟨BF a0.cars b8 k, a0.room, DM (List.map (BM b8)) a0.tracks j⟩ : Yard)) 3).2))), (16, .int .i64 (((EI ((⟨BF a0.cars b8 k, a0.room, DM (List.map (BM b8)) a0.tracks j⟩ : Yard)) 3).1)))] (sn (sd (dnb 99 2 0 d1 [.slice a5 a0.cars.length a6, .slice a8 a0.room.length a9, .slice b0 b2.length b1]) ?_));have p5 := Warm_ct D6 _ (a0) (BL b3 b6 b7);refine sS (sc (some 100) (p5 :) (.refl _) (fun Q8 D7 P9 g2 t2 => ?_));obtain ⟨R3, n7, m7, t9⟩ := t2;rw [n7, m7]; clear n7 m7;replace hG := hG.mono g2;replace c1 := c1.mono g2;replace c2 := c2.mono g2;replace c3 := c3.mono g2;have l0 := t9;obtain ⟨B1, B3, B2, B6, k9, B4, B5, B7⟩ := id l0;subst k9;refine nm ?_;refine sp 7 [(20, .int .i64 (((FC a0).2.2))), (19, .int .i64 (((FC a0).2.1)))] (sn (sd (dnb 105 0 0 d5 [.slice a1 (BF a0.cars b8 k).length a2, .slice b4 a0.room.length b5, .slice a3 a7.length a4]) ?_));have p6 := Warm_ct D7 _ ((⟨BF a0.cars b8 k, a0.room, DM (List.map (BM b8)) a0.tracks j⟩ : Yard)) (BL c1 c2 c3);refine sS (sc (some 106) (p6 :) (.refl _) (fun Q9 D8 Q0 j0 t3 => ?_));obtain ⟨R4, n8, m8, u0⟩ := t3;rw [n8, m8]; clear n8 m8;replace hG := hG.mono j0;have l2 := u0;obtain ⟨B8, C0, B9, C3, l1, C1, C2, C4⟩ := id l2;subst l1;refine nm ?_;refine sp 7 [(23, .int .i64 (((FC ((⟨BF a0.cars b8 k, a0.room, DM (List.map (BM b8)) a0.tracks j⟩ : Yard))).2.2))), (22, .int .i64 (((FC ((⟨BF a0.cars b8 k, a0.room, DM (List.map (BM b8)) a0.tracks j⟩ : Yard))).2.1)))] (se (rq ?_));have n0 : RenOut a0 (⟨BF a0.cars b8 k, a0.room, DM (List.map (BM b8)) a0.tracks j⟩ : Yard) f1 (f1.map (BM b8)) := by (rw [ren_made (by omega) (by omega)]; exact ren_law (names_ren A8) O9.1)
 refine rr (sp 2 [(111, .int .i64 (((BH ((⟨BF a0.cars b8 k, a0.room, DM (List.map (BM b8)) a0.tracks j⟩ : Yard)) (f1.map (BM b8))).2))), (110, .int .i64 (((BH a0 f1).2)))] (sd (dcm 112 .eql (((BH a0 f1).2)) (((BH ((⟨BF a0.cars b8 k, a0.room, DM (List.map (BM b8)) a0.tracks j⟩ : Yard)) (f1.map (BM b8))).2)) true (by exact decide_eq_true (by rw [n0.few]))) (sp 5 [(117, .int .i64 (↑(((BH ((⟨BF a0.cars b8 k, a0.room, DM (List.map (BM b8)) a0.tracks j⟩ : Yard)) (f1.map (BM b8))).1).length))), (115, .int .i64 (↑(((BH a0 f1).1).length))), (113, .bool (true))] (sd (dcm 118 .eql (↑(((BH a0 f1).1).length)) (↑(((BH ((⟨BF a0.cars b8 k, a0.room, DM (List.map (BM b8)) a0.tracks j⟩ : Yard)) (f1.map (BM b8))).1).length)) true (by exact decide_eq_true (by rw [n0.few]))) (sp 3 [(121, .int .i64 (((EI a0 3).2))), (120, .bool (true))] (sd (dcm 122 .eql (((EI a0 3).2)) (0) true (by exact decide_eq_true (n0.r0))) (sp 3 [(125, .int .i64 (((EI ((⟨BF a0.cars b8 k, a0.room, DM (List.map (BM b8)) a0.tracks j⟩ : Yard)) 3).2))), (124, .bool (true))] (sd (dcm 126 .eql (((EI ((⟨BF a0.cars b8 k, a0.room, DM (List.map (BM b8)) a0.tracks j⟩ : Yard)) 3).2)) (0) true (by exact decide_eq_true (n0.r1))) (sp 4 [(130, .int .i64 (((EI ((⟨BF a0.cars b8 k, a0.room, DM (List.map (BM b8)) a0.tracks j⟩ : Yard)) 3).1))), (129, .int .i64 (((EI a0 3).1))), (128, .bool (true))] (sd (dcm 131 .eql (((EI a0 3).1)) (((EI ((⟨BF a0.cars b8 k, a0.room, DM (List.map (BM b8)) a0.tracks j⟩ : Yard)) 3).1)) true (by exact decide_eq_true (n0.rr))) (sp 3 [(134, .int .i64 (((FC a0).2.2))), (133, .bool (true))] (sd (dcm 135 .eql (((FC a0).2.2)) (0) true (by exact decide_eq_true (n0.w0))) (sp 3 [(138, .int .i64 (((FC ((⟨BF a0.cars b8 k, a0.room, DM (List.map (BM b8)) a0.tracks j⟩ : Yard))).2.2))), (137, .bool (true))] (sd (dcm 139 .eql (((FC ((⟨BF a0.cars b8 k, a0.room, DM (List.map (BM b8)) a0.tracks j⟩ : Yard))).2.2)) (0) true (by exact decide_eq_true (n0.w1))) (sp 4 [(143, .int .i64 (((FC ((⟨BF a0.cars b8 k, a0.room, DM (List.map (BM b8)) a0.tracks j⟩ : Yard))).2.1))), (142, .int .i64 (((FC a0).2.1))), (141, .bool (true))] (sd (dcm 144 .eql (((FC a0).2.1)) (((FC ((⟨BF a0.cars b8 k, a0.room, DM (List.map (BM b8)) a0.tracks j⟩ : Yard))).2.1)) true (by exact decide_eq_true (n0.ww))) (sp 2 [(146, .bool (true))] ?_)))))))))))))))));have p7 := shunting_ct D8 (by first | exact hG | exact hG.mono hI);refine sS (sc (some 147) (p7 :) (.refl _) (fun R0 U5 Q1 p8 t4 => ?_));obtain ⟨n9, m9⟩ := t4;rw [n9, m9]; clear n9 m9;refine nm ?_;refine sp 2 [(2, .bool (true))] (se (BS (AD (t := 2) [] (by kernel_rfl) rfl (TC _ (TC _ (TC _ (TT (TT (TR _) (TB _ _)) (TB _ _))))) (IT (IT (IT (IT (IT (IT (IT (IT (IT (IT (IT (IT (IT (IT (IT (IT (IT (IT (IT (IT (IT s0 m0) j1) j2) h4) g3) f5) f6) e7) hJ1) d8) d9) d4) d3) e0) e1) e2) e3) e4) g2) j0) p8) ?_)));exact ⟨rfl, rfl⟩
open Go Go.ChangeShapes Go.WideShapes Go.RowKit Go.Sl
theorem law_lifted (os : Os) (started : os.Started) (H : Type) (enc : TypeId × Value → H) :
    ReturnsInHanded {} Tryz.checked os 8 .any (fun w args => (Rows.shuntRenamedSpec.pre enc Tryz.prog Tryz.f8 [] false w args ∧ laidMetH Tryz.prog [("errors.errorType", Rows.laid_errors_errorType)] w) ∧ sizedMet enc Tryz.prog Tryz.f8 (OpenSpec.ofChange Rows.shuntRenamedSpec) false w args)
      (Rows.shuntRenamedSpec.post enc Tryz.prog Tryz.f8 false true false false) := by
  refine returnsInHanded_of_change_and (C := Tryz.checked) (X := fun w _ => laidMetH Tryz.prog [("errors.errorType", Rows.laid_errors_errorType)] w) (fun _ _ _ hh h => h.of_heap hh) Row.own started (by kernel_rfl) Tryz.func8
    (ChangeSpec.witness_at (enc := enc) (C := Tryz.checked) (os := os) (X := fun w _ => laidMetH Tryz.prog [("errors.errorType", Rows.laid_errors_errorType)] w) false (laidWorld os) #[.slice none 0 0] 8 rfl (by kernel_rfl) (by kernel_rfl) (by kernel_rfl) (by kernel_rfl) (by kernel_rfl) (laidWorld_met os _)) ?_
  intro W base args ds gs before hval0 hW _ hsz0 hL _
  have hsz : (DataW.weightsEach Tryz.prog (Tryz.f8.params.toList ++ Rows.shuntRenamedSpec.plain.varTypes Tryz.prog) (ds ++ gs)).all (· ≤ reachBytes) = true := hsz0
  have hval : ∀ (j : Nat) t v, Tryz.f8.params[j]? = some t → args[j]? = some v → Value.okWide Tryz.prog W .any base t v := hval0
  clear hsz0 hval0
  have hW' := hW
  obtain ⟨p, q, hA0, hV, rfl, hfz, hnd⟩ := hW
  have hA : DataW.TrodAll enc Tryz.prog W 0 (fun _ => true) true Tryz.f8.params.toList args.toList ds p := hA0
  rw [Tryz.params8] at hA hval
  obtain ⟨v0, d0, rfl, rfl, h0⟩ := trodAll_one hA
  obtain ⟨a0, len, cap, rfl⟩ := okWide_slice Tryz.underlying23 (hval 0 23 v0 rfl rfl)
  obtain ⟨rfl, rfl⟩ := trodVars_none hV
  have hg := handle_of_laid hL
  have h0k := h0
  obtain ⟨fu0, hf0⟩ := h0
  have hlt : ∀ x ∈ p, x.block < W.heap.size := fun x hx => by simpa using hW'.lt x (List.mem_append_left _ hx)
  obtain ⟨nums, hin⟩ : ∃ nums : List Int, BC (immOf W) (.slice a0 len cap) nums := by
    rcases open_ints Tryz.underlying23 Tryz.underlying3 Row.cells hf0 with ⟨hcs, hx⟩ | ⟨a, len', cap', zs, hcs, _, hl, hm, hz, hx, hcell, hwz⟩
    · simp [Value.cells] at hcs
      obtain ⟨rfl, rfl, rfl⟩ := hcs
      exact ⟨[], IsSl.nil _⟩
    · simp [Value.cells] at hcs
      obtain ⟨rfl, rfl, rfl⟩ := hcs
      simp only [Prod.mk.injEq] at hx
      obtain ⟨rfl, rfl⟩ := hx
      simp only [if_true] at hz
      have hreach : len * 8 ≤ 140737488351232 := by
        have := sized_slice hsz (j := 0) (t := 23) (e := 3) rfl rfl Tryz.underlying23
        rw [Row.bytes] at this
        simp only [lits, List.length_map, List.length_take, List.length_drop, reachBytes] at this
        omega
      refine ⟨zs.take len, isInts_of hl hm (by simp; omega) (by omega) fun i hi => ?_⟩
      have hi2 : i < len := by simp at hi; omega
      rw [hcell i (by omega)]
      congr 2
      simp [List.getD, List.getElem?_take, hi2]
  refine (ShuntRenamed_ct (immOf W) _ nums hin hg [] W (by simpa using st_immOf W)).mono fun e W' ⟨v, I', M', he, hle, ⟨hv, hM⟩, st'⟩ => ?_
  subst he
  subst hv
  obtain ⟨hsame, hos, hout⟩ := same_of_le hle st'
  have hk : ∀ may : MemPlace → Prop, W.keptBut W' may := fun may => keptBut_same hsame hos hout
  refine ⟨_, rfl, ?_⟩
  refine ⟨_, _, _, [], p, [], hW', ?_, ?_, ?_, hk _, fun h => by cases h⟩
  · exact trodAll_mk1 (shut_bool Tryz.underlying4 true)
  · refine trodAll_mk1 (WideElems.Trod_stays Row.laidOut (by kernel_rfl) (of_decide_eq_true (by kernel_rfl)) h0k (fun x hx => ?_) (fun x hx => by simpa using hlt x hx))
    exact sameAt_heap (hsame _ (hlt x hx))
  · rfl
theorem Row.f2 : (Rows.shuntRenamedRow.inPlace == Tryz.pinned.checked.prog.inPlace 8) = true := by kernel_rfl
theorem Row.f3 : (Rows.shuntRenamedRow.unfollowed == Tryz.pinned.checked.prog.unfollowed 8) = true := by kernel_rfl
theorem Row.f4 : (Rows.shuntRenamedRow.recurses == Tryz.pinned.checked.prog.recurses 8) = true := by kernel_rfl
theorem Row.f5 : (Rows.shuntRenamedRow.named == Tryz.pinned.checked.prog.varsNamed 8) = true := by kernel_rfl
theorem Row.goes : false = Rows.shuntRenamedRow.goesBy Tryz.pinned.checked.prog := by kernel_rfl
theorem Row.joined : joinedFacts Tryz.pinned.checked.prog 8 Tryz.f8 Rows.shuntRenamedSpec Rows.shuntRenamedRow = true :=
  joined_of (by kernel_rfl) Row.laidOut Row.f2 Row.f3 Row.f4 Row.f5 (by kernel_rfl) (by kernel_rfl) Row.lifts Row.make (by kernel_rfl)
theorem f_holds : Rows.ShuntRenamedSaid :=
  OpenClaim.holds_of_wide 8 Tryz.f8 rfl rfl rfl rfl rfl rfl rfl ⟨rfl, rfl, rfl, rfl, rfl⟩ rfl rfl rfl rfl rfl (by kernel_rfl) Tryz.func8 Row.joined
    (of_decide_eq_true (by kernel_rfl)) (by unfold Func.isWrapper; rw [if_neg (of_decide_eq_false (by kernel_rfl))]; exact ⟨rfl, rfl⟩)
    (fun os started H enc _ => law_lifted os started H enc)
theorem card_holds : Rows.ShuntRenamedCardSaid :=
  Claim7.holds_tied_plain_at .later [] [.handle] true (true, "15b79f9888323760d9f05ab32c03ca1db0faea4ca720a3d6f842981fea83c54b") true
    f_holds (fun _ h => by cases h) (by kernel_rfl) (fun _ h => by cases h) shuntRenamed_row_tie rfl ⟨rfl, rfl⟩ (by kernel_rfl) rfl
    (fun f fn hf hfn => by
      obtain rfl : f = 8 := Option.some.inj (hf.symm.trans (by kernel_rfl))
      obtain rfl : fn = Tryz.f8 := (Option.some.inj (Tryz.func8.symm.trans hfn)).symm
      exact ⟨Row.looks, fun j t ht => by
        rw [Tryz.params8] at ht
        have h3 : t = 23 := by
          rcases j with _ | j
          · simpa using ht.symm
          · simp at ht
        subst h3
        exact (show Tryz.prog.wantsStandIn 23 = false by kernel_rfl)⟩)
    Row.goes
#print axioms card_holds
end Go.Proofs.YtcaocbhbofejnaaGreatDoor

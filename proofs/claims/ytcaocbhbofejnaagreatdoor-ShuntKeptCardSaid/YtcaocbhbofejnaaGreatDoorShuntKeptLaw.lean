/- A valid move list keeps the coaches that the yard holds, and what is drawn ahead holds them in the order that the reference says. -/
import Derived.Test.YtcaocbhbofejnaaGreatDoorP6
import Derived.Test.YtcaocbhbofejnaaGreatDoorP7
import Derived.ChangeVars
import Derived.JoinedOf
import Derived.RowKit
import Derived.RowKitTokens
import Derived.LaidLaws
import Derived.LaidHandle
import Derived.Stop.Joined
import Derived.SevenTiedAt
import Derived.WideKeyArgs
import Derived.ProofKit
import Derived.SizedLaws
set_option linter.unusedVariables false
set_option linter.unusedSimpArgs false
namespace Go.Sh
open Go Go.Sl

def Adj (ts : List (List Int)) (a b : Int) : Prop := ∃ t ∈ ts, ∃ u w, t = u ++ a :: b :: w
def cutOf (Y : Yard) (s : Shift) : List Int := if 0 < cutAt Y s then [(trk Y s.frm).getD (cutAt Y s).toNat 0] else []
def cutsOf (Y : Yard) : List Shift → List Int
  | [] => []
  | s :: r => cutOf Y s ++ cutsOf (moved Y s) r
theorem mem_set_other {α : Type} {ts : List α} {x t : α} {i : Nat} (d : α) (h : t ∈ ts) (hne : t ≠ ts.getD i d) : t ∈ ts.set i x := by
  obtain ⟨j, hj, e⟩ := List.mem_iff_getElem.1 h
  have hij : i ≠ j := fun hh => by
    subst hh
    exact hne (by simp [List.getD, hj, e])
  rw [List.mem_iff_getElem]
  exact ⟨j, by simpa using hj, by rw [List.getElem_set_ne hij]; exact e⟩
theorem mem_at {α : Type} {ts : List α} {i : Nat} (d : α) (h : i < ts.length) : ts.getD i d ∈ ts := getD_mem h
theorem moved_mem {Y : Yard} {s : Shift} (m : MayOk Y s) : (trk Y s.frm).take (cutAt Y s).toNat ∈ (moved Y s).tracks ∧ trk Y s.to ++ (trk Y s.frm).drop (cutAt Y s).toNat ∈ (moved Y s).tracks ∧ ∀ t ∈ Y.tracks, t ≠ trk Y s.frm → t ≠ trk Y s.to → t ∈ (moved Y s).tracks := by
  have hf := m.frm; have ht := m.to; have hne := m.ne
  have hl : (moved Y s).tracks.length = Y.tracks.length := by simp [moved]
  obtain ⟨t1, t2⟩ := moved_trk m
  refine ⟨?_, ?_, fun t h h1 h2 => ?_⟩
  · rw [← t1]; exact mem_at (ts := (moved Y s).tracks) [] (i := s.frm.toNat) (by omega)
  · rw [← t2]; exact mem_at (ts := (moved Y s).tracks) [] (i := s.to.toNat) (by omega)
  · show t ∈ (Y.tracks.set s.to.toNat _).set s.frm.toNat _
    refine mem_set_other [] (mem_set_other [] h h2) ?_
    have e : (Y.tracks.set s.to.toNat (trk Y s.to ++ (trk Y s.frm).drop (cutAt Y s).toNat)).getD s.frm.toNat [] = trk Y s.frm := by
      simp only [trk, List.getD]
      rw [List.getElem?_set_ne (by omega)]
    rw [e]; exact h1
theorem adj_moved {Y : Yard} {s : Shift} (h : mayErr Y s = 0) {a b : Int} (ha : Adj Y.tracks a b) (hb : b ∉ cutOf Y s) : Adj (moved Y s).tracks a b := by
  have m := mayOk h
  obtain ⟨m1, m2, m3⟩ := moved_mem m
  obtain ⟨t, ht, u, w, e⟩ := ha
  by_cases h1 : t = trk Y s.frm
  · subst h1
    generalize hn : (cutAt Y s).toNat = n at m1 m2
    by_cases c1 : n ≤ u.length
    · refine ⟨_, m2, trk Y s.to ++ u.drop n, w, ?_⟩
      rw [e, List.drop_append_of_le_length c1, List.append_assoc]
    · by_cases c2 : n = u.length + 1
      · exfalso
        refine hb ?_
        unfold cutOf
        rw [if_pos (by omega), hn, e, c2]
        simp [List.getD]
      · refine ⟨_, m1, u, w.take (n - u.length - 2), ?_⟩
        rw [e, List.take_append, List.take_of_length_le (by omega)]
        congr 1
        rw [show n - u.length = (n - u.length - 2) + 1 + 1 by omega, List.take_succ_cons, List.take_succ_cons]
        simp
  · by_cases h2 : t = trk Y s.to
    · subst h2
      refine ⟨_, m2, u, w ++ (trk Y s.frm).drop (cutAt Y s).toNat, ?_⟩
      rw [e]; simp
    · exact ⟨t, m3 t ht h1 h2, u, w, e⟩
theorem adj_play : ∀ (l : List Shift) {Y X : Yard} {a b : Int}, playFrom Y l = (X, 0) → Adj Y.tracks a b → b ∉ cutsOf Y l → Adj X.tracks a b := by
  intro l
  induction l with
  | nil => intro Y X a b h ha _; simp only [playFrom, Prod.mk.injEq, and_true] at h; subst h; exact ha
  | cons s l ih =>
    intro Y X a b h ha hb
    simp only [playFrom] at h
    simp only [cutsOf, List.mem_append, not_or] at hb
    by_cases hm : mayErr Y s = 0
    · rw [if_pos hm] at h; exact ih h (adj_moved hm ha hb.1) hb.2
    · rw [if_neg hm] at h; simp only [Prod.mk.injEq] at h; exact absurd h.2 hm
def aheadM : List (List Int) → Int → Int
  | [], _ => -1
  | t :: r, b => if 0 < seat t b then t.getD (seat t b - 1).toNat 0 else aheadM r b
theorem seat_mid {u w : List Int} {b : Int} (h : b ∉ u) : seat (u ++ b :: w) b = (u.length : Int) := by
  unfold seat
  rw [if_pos (by simp), List.idxOf_append, if_neg h]
  simp
theorem aheadM_adj : ∀ (ts : List (List Int)) {a b : Int}, Adj ts a b → ts.flatten.Nodup → aheadM ts b = a := by
  intro ts
  induction ts with
  | nil => intro a b h; obtain ⟨t, ht, _⟩ := h; simp at ht
  | cons t ts ih =>
    intro a b h hn
    obtain ⟨t', ht', u, w, e⟩ := h
    rw [List.flatten_cons, List.nodup_append] at hn
    simp only [aheadM]
    rcases List.mem_cons.1 ht' with rfl | hm
    · have hnd := hn.1
      rw [e] at hnd
      have hb : b ∉ u ++ [a] := fun hb => by
        have e2 : u ++ a :: b :: w = (u ++ [a]) ++ b :: w := by simp
        rw [e2, List.nodup_append] at hnd
        exact hnd.2.2 b hb b (by simp) rfl
      have hs : seat t' b = ((u ++ [a]).length : Int) := by
        have e2 : t' = (u ++ [a]) ++ b :: w := by rw [e]; simp
        rw [e2]; exact seat_mid hb
      rw [hs, if_pos (by rw [List.length_append, List.length_singleton]; omega), e]
      have e3 : ((((u ++ [a]).length : Nat) : Int) - 1).toNat = u.length := by simp
      rw [e3]
      simp [List.getD]
    · have hb : b ∉ t := fun hb => hn.2.2 b hb b (List.mem_flatten.2 ⟨t', hm, by rw [e]; simp⟩) rfl
      have hs : seat t b = -1 := if_neg hb
      rw [hs, if_neg (by omega)]
      exact ih ⟨t', hm, u, w, e⟩ hn.2.1
theorem adj_at {ts : List (List Int)} {i k : Nat} (hi : i < ts.length) (hk : k + 1 < (ts.getD i []).length) : Adj ts ((ts.getD i []).getD k 0) ((ts.getD i []).getD (k + 1) 0) := by
  refine ⟨ts.getD i [], getD_mem hi, (ts.getD i []).take k, (ts.getD i []).drop (k + 2), ?_⟩
  have h1 : ts.getD i [] = (ts.getD i []).take k ++ (ts.getD i []).drop k := (List.take_append_drop ..).symm
  have h2 := drop_cons (d := (0 : Int)) (xs := ts.getD i []) (k := k) (by omega)
  have h3 := drop_cons (d := (0 : Int)) (xs := ts.getD i []) (k := k + 1) hk
  rw [h3] at h2
  rw [h2] at h1
  exact h1
theorem kept_pair {Y X : Yard} {l : List Shift} (h : Valid Y) (hp : playFrom Y l = (X, 0)) {i k : Nat} (hi : i < Y.tracks.length) (hk0 : 0 < k) (hk : k < (Y.tracks.getD i []).length) (hc : (Y.tracks.getD i []).getD k 0 ∉ cutsOf Y l) :
    aheadM X.tracks ((Y.tracks.getD i []).getD k 0) = (Y.tracks.getD i []).getD (k - 1) 0 := by
  obtain ⟨_, h2, h3⟩ := play_valid h hp
  obtain ⟨j, rfl⟩ : ∃ j, k = j + 1 := ⟨k - 1, by omega⟩
  exact aheadM_adj _ (adj_play l hp (adj_at hi hk) hc) h2.fine.nodup
end Go.Sh
namespace Go.Sh
open Go Go.Sl
theorem cutsOf_snoc : ∀ (a : List Shift) {Y Z : Yard} {s : Shift}, playFrom Y a = (Z, 0) → cutsOf Y (a ++ [s]) = cutsOf Y a ++ cutOf Z s := by
  intro a
  induction a with
  | nil => intro Y Z s h; simp only [playFrom, Prod.mk.injEq, and_true] at h; subst h; simp [cutsOf]
  | cons x a ih =>
    intro Y Z s h
    simp only [playFrom] at h
    simp only [List.cons_append, cutsOf]
    by_cases hm : mayErr Y x = 0
    · rw [if_pos hm] at h; rw [ih h, List.append_assoc]
    · rw [if_neg hm] at h; simp only [Prod.mk.injEq] at h; exact absurd h.2 hm
theorem cuts_step {Y Z : Yard} {l : List Shift} {k : Nat} (h : playFrom Y (l.take k) = (Z, 0)) (hk : k < l.length) : cutsOf Y (l.take (k + 1)) = cutsOf Y (l.take k) ++ cutOf Z (l.getD k noShift) := by
  rw [take_snoc (d := noShift) hk]; exact cutsOf_snoc _ h
theorem cutOf_yes {Z : Yard} {s : Shift} (h : (↑(Z.tracks.getD s.frm.toNat []).length : Int) - s.many > 0) : cutOf Z s = [(Z.tracks.getD s.frm.toNat []).getD ((↑(Z.tracks.getD s.frm.toNat []).length : Int) - s.many).toNat 0] := if_pos h
theorem cutOf_no {Z : Yard} {s : Shift} (h : ¬ (↑(Z.tracks.getD s.frm.toNat []).length : Int) - s.many > 0) : cutOf Z s = [] := if_neg h
theorem cutOf_len (Z : Yard) (s : Shift) : (cutOf Z s).length ≤ 1 := by unfold cutOf; split <;> simp
theorem cutsOf_len : ∀ (l : List Shift) (Y : Yard), (cutsOf Y l).length ≤ l.length := by
  intro l
  induction l with
  | nil => intro Y; simp [cutsOf]
  | cons s l ih => intro Y; simp only [cutsOf, List.length_append, List.length_cons]; have := ih (moved Y s); have := cutOf_len Y s; omega
theorem aheadM_hit {ts : List (List Int)} {b : Int} {k : Nat} (hk : k < ts.length) (h : 0 < seat (ts.getD k []) b) : aheadM (ts.drop k) b = (ts.getD k []).getD (seat (ts.getD k []) b - 1).toNat 0 := by
  rw [drop_cons (d := ([] : List Int)) hk]; simp only [aheadM]; rw [if_pos h]
theorem aheadM_miss {ts : List (List Int)} {b : Int} {k : Nat} (hk : k < ts.length) (h : ¬ 0 < seat (ts.getD k []) b) : aheadM (ts.drop k) b = aheadM (ts.drop (k + 1)) b := by
  rw [drop_cons (d := ([] : List Int)) hk]; simp only [aheadM]; rw [if_neg h]
theorem aheadM_done {ts : List (List Int)} {b : Int} {k : Nat} (hk : ts.length ≤ k) : aheadM (ts.drop k) b = -1 := by rw [drop_done hk]; rfl
theorem seat_range (xs : List Int) (n : Int) : -1 ≤ seat xs n ∧ seat xs n < ↑xs.length ∨ seat xs n = -1 := by
  unfold seat
  split
  · rename_i h
    have := List.idxOf_lt_length_of_mem h
    left; omega
  · right; rfl
end Go.Sh
namespace Go.Proofs.YtcaocbhbofejnaaGreatDoor
open Go Go.Sl Go.Sh
set_option maxRecDepth 100000
noncomputable def c_ahead (p : List Nat) : Code := sub (bodyOf Tryz.f37) p
theorem ahead_ct (I : Imm) (y : Value) (Y : Yard) (n : Int) (y_f : IsYard I y Y) : CtV Tryz.prog 37 #[y, .int .i64 n] I (.int .i64 (aheadM Y.tracks n)) := by
 obtain ⟨y1, y2, y3, f0, b7, b9, c1⟩ := id y_f
 subst f0
 obtain ⟨a4, a5, d6, d9, b6, d7, d8, e0⟩ := id b7
 subst b6
 obtain ⟨a6, a7, e1, e4, b8, e2, e3, e5⟩ := id b9
 subst b8
 obtain ⟨a0, a1, e6, e9, c2, c0, e7, e8, a2, b3⟩ := id c1
 subst c0
 refine fr (args := [_, _]) (N := 32) Tryz.func37 (fun F => ?_)
 show Run _ _ (c_ahead []) _ _ [(0, .agg #[.slice a4 Y.cars.length a5, .slice a6 Y.room.length a7, .slice a0 Y.tracks.length a1]), (1, .int .i64 (n))] _ _
 refine rnm (rqr ?_)
 refine sS (sb 2 26 #[.slice a4 Y.cars.length a5, .slice a6 Y.room.length a7, .slice a0 Y.tracks.length a1] (fun b1 => ?_))
 refine sp 1 [(4, .int .i64 (0))] ?_
 refine se (rq (rqr ?_))
 refine sp 1 [(5, .int .i64 (0))] ?_
 refine se (rb 0 ?_)
 refine rl (fun mz a w => ∃ k : Nat, (k ≤ Y.tracks.length) ∧ (aheadM Y.tracks n = aheadM (Y.tracks.drop k) n) ∧ Slots 32 [(5, .int .i64 ↑k), (1, .int .i64 (n)), (2, .pointer (some ⟨b1, 0, none⟩))] a ∧ a.defers = [] ∧ St I ((b1, Obj.cells #[.slice a4 Y.cars.length a5, .slice a6 Y.room.length a7, .slice a0 Y.tracks.length a1] 26 (0, 0)) :: F) w ∧ mz = Y.tracks.length - k) ?_ ?_
 ·intro a w hS hD hW
  exact ⟨_, 0, Nat.zero_le _, rfl, hS.sub (.cons 5 rfl (.cons 1 rfl (.cons 2 rfl (.nil _)))), hD, hW, rfl⟩
 rintro mz a w ⟨k, hk, hr, hS, hD, hW, rfl⟩
 refine run_at hS hD hW ?_
 clear hS hD hW a w
 refine rq (rqr ?_)
 refine sp 2 [(8, .pointer (some ⟨b1, 2, none⟩)), (7, .int .i64 (↑k))] ?_
 refine sd (dlb 9 0 2 b1 (.slice a0 Y.tracks.length a1)) ?_
 refine sp 2 [(11, .bool (cmp .lss (↑k) (↑(Y.tracks.length))))] ?_
 refine se ?_
 refine rc 11 rfl (fun h1 => ?_) (fun h1 => ?_)
 ·
  have b4 := h1
  have h1 := lss_t h1
  refine rskip (pst_next (rq (rb 1 (rqr ?_))))
  refine sp 1 [(14, .pointer (some ⟨b1, 2, none⟩))] ?_
  refine sd (dlb 15 0 2 b1 (.slice a0 Y.tracks.length a1)) ?_
  refine sp 1 [(16, .int .i64 (↑k))] ?_
  refine sd (di 17 1 (k) a2.addr) ?_
  have a3 := b3 (k) (by omega)
  obtain ⟨c3, c5, c4, c8, a8, c6, c7, c9⟩ := id a3
  rw [a8] at a3
  refine sd (det_eq (dl 18 (rows_get a2 (k) (by omega))) a8) ?_
  refine sp 1 [(19, .int .i64 (n))] ?_
  refine sd (dc 20 (fun I' hI => (Seat_ct I' _ _ (n) (a3.mono hI) :))) ?_
  have f1 := seat_range (Y.tracks.getD (k) []) n
  refine sp 1 [(6, .int .i64 ((seat (Y.tracks.getD (k) []) n)))] ?_
  refine sn ?_
  refine sp 2 [(22, .bool (cmp .gtr ((seat (Y.tracks.getD (k) []) n)) (0)))] ?_
  refine se ?_
  refine rc 22 rfl (fun h2 => ?_) (fun h2 => ?_)
  ·
   have b5 := h2
   have h2 := gtr_t h2
   refine rqr ?_
   refine sp 1 [(23, .pointer (some ⟨b1, 2, none⟩))] ?_
   refine sd (dlb 24 0 2 b1 (.slice a0 Y.tracks.length a1)) ?_
   refine sp 1 [(25, .int .i64 (↑k))] ?_
   refine sd (di 26 1 (k) a2.addr) ?_
   have b0 := b3 (k) (by omega)
   obtain ⟨d0, d2, d1, d5, a9, d3, d4, b2⟩ := id b0
   rw [a9] at b0
   refine sd (det_eq (dl 27 (rows_get a2 (k) (by omega))) a9) ?_
   refine sp 1 [(28, .int .i64 ((seat (Y.tracks.getD (k) []) n)))] ?_
   refine sd (dsb 29 ((seat (Y.tracks.getD (k) []) n)) (1)) ?_
   refine sd (diI 30 1 (((seat (Y.tracks.getD (k) []) n)) - 1) b2.addr) ?_
   refine sd (dl 31 (ints_get b2 ((((seat (Y.tracks.getD (k) []) n)) - 1 : Int).toNat) (by omega))) ?_
   refine sp 1 [(4, .int .i64 ((Y.tracks.getD (k) []).getD ((((seat (Y.tracks.getD (k) []) n)) - 1 : Int).toNat) 0))] ?_
   refine se (rret ?_)
   refine (pst_ret_block (pst_ret_pass (pst_ret_pass (pst_ret_block (pst_ret_pass ?_)))))
   refine pst_ret1 (t := 4) [] (by kernel_rfl) rfl (TC _ (TR _)) (Imm.le.refl _) ?_
   exact ⟨congrArg (Value.int .i64) (hr.trans (aheadM_hit (by omega) (by omega))).symm, rfl⟩
  have b5 := h2
  have h2 := gtr_f h2
  refine rskip (pst_normal_block (pst_next (rr ?_)))
  refine sp 1 [(12, .int .i64 (↑k))] ?_
  refine sd (da 13 (↑k) (1)) ?_
  refine sp 1 [(5, .int .i64 (↑k + 1))] ?_
  refine ee ?_
  refine pst_back (Y.tracks.length - (k+1)) (by omega) ?_
  intro a w hS hD hW
  exact ⟨k+1, by omega, hr.trans (aheadM_miss (by omega) (by omega)), hS.sub (.consE 5 rfl rfl (.cons 1 rfl (.cons 2 rfl (.nil _)))), hD, hW, rfl⟩
 have b4 := h1
 have h1 := lss_f h1
 refine rexit 0 ?_
 refine (pst_exit_pass (pst_exit_pass (pst_exit_block ?_)))
 refine pst_next (rqr ?_)
 refine sp 1 [(4, .int .i64 ((-1)))] ?_
 refine se (rret ?_)
 refine pst_ret1 (t := 4) [] (by kernel_rfl) rfl (TC _ (TR _)) (Imm.le.refl _) ?_
 exact ⟨congrArg (Value.int .i64) (hr.trans (aheadM_done (by omega))).symm, rfl⟩

end Go.Proofs.YtcaocbhbofejnaaGreatDoor
namespace Go.Proofs.YtcaocbhbofejnaaGreatDoor
open Go Go.Sl Go.Sh
set_option maxRecDepth 100000
noncomputable def c_ShuntKept (p : List Nat) : Code := sub (bodyOf Tryz.f4) p
set_option maxHeartbeats 2000000 in
theorem ShuntKept_ct (I : Imm) (x : Value) (nums : List Int) (x_f : IsInts I x nums) (hG : Glob I) : Ct Tryz.prog 4 #[x] I ([]) (fun v I' M' => v = .bool (true) ∧ M' = []) := by
 obtain ⟨J2, J3, R5, R8, P8, R6, R7, R9⟩ := id x_f
 subst P8
 refine fr (args := [_]) (N := 196) Tryz.func4 (fun F => ?_)
 show Run _ _ (c_ShuntKept []) _ _ [(0, .slice J2 nums.length J3)] _ _
 refine rnm (rqr ?_)
 refine sp 1 [(2, .bool (false))] ?_
 refine sn ?_
 refine sp 1 [(18, .slice J2 nums.length J3)] ?_
 have n0 := NewBag_ct I _ _ x_f
 refine sS (sc (some 19) (n0 :) (.refl _) (fun R2 I1 R1 n6 O3 => ?_))
 obtain ⟨u6, P7, C8, C5⟩ := O3
 rw [C8, C5]; clear C8 C5
 replace hG := hG.mono n6
 refine nm ?_
 refine sp 1 [(3, .pointer (some ⟨u6, 0, none⟩))] ?_
 refine sn ?_
 refine sp 1 [(20, .pointer (some ⟨u6, 0, none⟩))] ?_
 have n1 := YardOf_ct I1 (u6) (P7) (5) (2) (by omega) (by omega)
 refine sS (sc (some 21) (F := (F)) (n1 :) (.refl _) (fun P1 P9 O7 k2 z4 => ?_))
 obtain ⟨g3, a1, G8, l2, G9, h0, J1, a4, g4, o3, n7, A1, O5, o9, p0, p1, g1⟩ := z4
 rw [o3, n7]; clear o3 n7
 replace hG := hG.mono k2
 obtain ⟨a5, a6, j9, t6⟩ := o9.shape
 subst j9
 obtain ⟨a7, a8, k0, t7⟩ := p0.shape
 subst k0
 obtain ⟨a2, a3, k1, t8⟩ := p1.shape
 subst k1
 have i3 := g1.1
 try simp only [LS, LA, LC, LN, LK] at i3
 refine seq_mem (M' := ((u6, Obj.cells #[.int .u64 (g3)] 95 (0, 0)) :: (l2 ++ (h0 ++ (g4 ++ F))))) (fun w h => by simpa only [AA, CA, NA] using h) ?_
 refine nm ?_
 have m2 : Valid a1 := A1
 have q1 := m2.fine; have C3 := m2.good; have Q9 := m2.lens
 have Q5 := q1.room1; have Q6 := q1.len; have Q7 := q1.room3; have Q8 := q1.cars
 refine sS (sal 4 26 #[.slice none 0 0, .slice none 0 0, .slice none 0 0] (fun d4 => ?_))
 refine sS (ss 0 0 d4 [.slice a5 a1.cars.length a6, .slice a7 a1.room.length a8, .slice a2 a4.length a3] [.slice a5 a1.cars.length a6, .slice a7 a1.room.length a8, .slice a2 a4.length a3] (_ :: _ :: _) (cs := [_, _, _]) rfl rfl ?_)
 refine sn ?_
 refine sp 1 [(22, .pointer (some ⟨u6, 0, none⟩))] ?_
 refine sd (dnb 23 0 0 d4 [.slice a5 a1.cars.length a6, .slice a7 a1.room.length a8, .slice a2 a4.length a3]) ?_
 refine sfz (A := ((d4, Obj.cells #[.slice a5 a1.cars.length a6, .slice a7 a1.room.length a8, .slice a2 a4.length a3] 26 (0, 0)) :: (u6, Obj.cells #[.int .u64 (g3)] 95 (0, 0)) :: (h0 ++ (g4 ++ F)))) noCar o9 ((PC _ (PM.symm)).trans (PM.symm)) (fun Q0 i1 c4 => ?_)
 replace hG := hG.mono i1
 replace g1 := g1.mono i1
 obtain ⟨u5, u8, u7, v1, l4, u9, v0, c2⟩ := id c4
 cases l4
 refine sfz (A := ((d4, Obj.cells #[.slice a5 a1.cars.length a6, .slice a7 a1.room.length a8, .slice a2 a4.length a3] 26 (0, 0)) :: (u6, Obj.cells #[.int .u64 (g3)] 95 (0, 0)) :: (g4 ++ F))) 0 p0 ((PC _ (PM.symm)).trans (PM.symm)) (fun Q1 g2 c7 => ?_)
 replace hG := hG.mono g2
 replace g1 := g1.mono g2
 replace c4 := c4.mono g2
 replace c2 := c2.mono g2
 obtain ⟨v2, v4, v3, v7, l5, v5, v6, v8⟩ := id c7
 cases l5
 refine sfz (A := ((d4, Obj.cells #[.slice a5 a1.cars.length a6, .slice a7 a1.room.length a8, .slice a2 a4.length a3] 26 (0, 0)) :: (u6, Obj.cells #[.int .u64 (g3)] 95 (0, 0)) :: F)) undef p1 ((PC _ (PM.symm)).trans (PM.symm)) (fun K9 f9 h8 => ?_)
 replace hG := hG.mono f9
 replace g1 := g1.mono f9
 replace c4 := c4.mono f9
 replace c2 := c2.mono f9
 replace c7 := c7.mono f9
 obtain ⟨v9, x1, x0, x4, l6, x2, x3, x5⟩ := id h8
 cases l6
 have e1 := g1.isRows h8
 have m9 := g1.1
 obtain ⟨t9, u1, u0, u4, q0, l3, u2, u3, c1, c3⟩ := id e1
 injection l3 with fr45_e1 fr45_e2 fr45_e3; subst fr45_e1; subst fr45_e3
 have n2 := ridden_ct K9 (u6) (g3) _ (a1) (6) (mkYard c4 c7 e1) (by assumption) (by omega)
 refine sS (sc (some 24) (F := ((d4, Obj.cells #[.slice a5 a1.cars.length a6, .slice a7 a1.room.length a8, .slice a2 a4.length a3] 26 (0, 0)) :: F)) (n2 :) (PS _ _ _) (fun P2 Q2 O8 f1 z5 => ?_))
 obtain ⟨d0, a0, C1, R3, m7, o4, n8, A2, O6, p2⟩ := z5
 rw [o4, n8]; clear o4 n8
 replace hG := hG.mono f1
 replace c4 := c4.mono f1
 replace c2 := c2.mono f1
 replace c7 := c7.mono f1
 replace e1 := e1.mono f1
 replace c1 := c1.mono f1
 replace c3 := fun i hi => (c3 i hi).mono f1
 obtain ⟨f3, f5, p5, G7⟩ := p2.shape
 subst p5
 refine seq_mem (M' := ((u6, Obj.cells #[.int .u64 (d0)] 95 (0, 0)) :: (m7 ++ (d4, Obj.cells #[.slice a5 a1.cars.length a6, .slice a7 a1.room.length a8, .slice a2 a4.length a3] 26 (0, 0)) :: F))) (fun w h => by simpa only [AA, CA, NA] using h) ?_
 refine pm (M' := ((u6, Obj.cells #[.int .u64 (d0)] 95 (0, 0)) :: (d4, Obj.cells #[.slice a5 a1.cars.length a6, .slice a7 a1.room.length a8, .slice a2 a4.length a3] 26 (0, 0)) :: (m7 ++ F))) (PC _ PM) ?_
 have C7 : playFrom a1 a0 = (C1, 0) := A2
 have q3 := play_valid m2 C7
 refine sp 1 [(5, .slice f3 a0.length f5)] ?_
 refine sn ?_
 refine sd (dnb 26 1 0 d4 [.slice a5 a1.cars.length a6, .slice a7 a1.room.length a8, .slice a2 a4.length a3]) ?_
 refine sp 1 [(27, .slice f3 a0.length f5)] ?_
 refine sfz (A := ((u6, Obj.cells #[.int .u64 (d0)] 95 (0, 0)) :: (d4, Obj.cells #[.slice a5 a1.cars.length a6, .slice a7 a1.room.length a8, .slice a2 a4.length a3] 26 (0, 0)) :: F)) noShift p2 ((PC _ (PM.symm)).trans (PM.symm)) (fun M0 f2 h9 => ?_)
 replace hG := hG.mono f2
 replace c4 := c4.mono f2
 replace c2 := c2.mono f2
 replace c7 := c7.mono f2
 replace e1 := e1.mono f2
 replace c1 := c1.mono f2
 replace c3 := fun i hi => (c3 i hi).mono f2
 obtain ⟨x6, x7, g5, g6, l7, x8, x9, c5⟩ := id h9
 cases l7
 have n3 := Play_ct M0 _ (a1) _ _ (mkYard c4 c7 e1) h9 (by first | exact hG | exact hG.mono hI)
 refine sS (sc (some 28) (n3 :) (.refl _) (fun P3 B9 O9 e5 z6 => ?_))
 obtain ⟨P5, o5, n9, z9⟩ := z6
 rw [o5, n9]; clear o5 n9
 replace hG := hG.mono e5
 replace c4 := c4.mono e5
 replace c2 := c2.mono e5
 replace c7 := c7.mono e5
 replace e1 := e1.mono e5
 replace c1 := c1.mono e5
 replace c3 := fun i hi => (c3 i hi).mono e5
 replace c5 := c5.mono e5
 have m4 := z9
 obtain ⟨G1, G2, G3, m3, c8, c6, c9⟩ := id m4
 subst m3
 obtain ⟨a9, b0, q5, q8, j3, q6, q7, e0⟩ := id c8
 subst j3
 obtain ⟨b1, b2, q9, r2, j4, r0, r1, r3⟩ := id c6
 subst j4
 obtain ⟨b3, b4, r4, r7, p3, j5, r5, r6, r8, r9⟩ := id c9
 subst j5
 refine nm ?_
 refine sp 3 [(30, .int .i64 (((play a1 a0).2))), (29, .agg #[.slice a9 (((play a1 a0).1).cars).length b0, .slice b1 (((play a1 a0).1).room).length b2, .slice b3 (((play a1 a0).1).tracks).length b4])] ?_
 refine sS (sal 6 26 #[.slice none 0 0, .slice none 0 0, .slice none 0 0] (fun e3 => ?_))
 refine sS (ss 0 0 e3 [.slice a9 (((play a1 a0).1).cars).length b0, .slice b1 (((play a1 a0).1).room).length b2, .slice b3 (((play a1 a0).1).tracks).length b4] [.slice a9 (((play a1 a0).1).cars).length b0, .slice b1 (((play a1 a0).1).room).length b2, .slice b3 (((play a1 a0).1).tracks).length b4] (_ :: _ :: _ :: _) (cs := [_, _, _]) rfl rfl ?_)
 refine sp 1 [(7, .int .i64 (((play a1 a0).2)))] ?_
 refine se (rq (rq ?_))
 have M5 : (play a1 a0).2 = 0 := by rw [q3.1]
 have hXe : (play a1 a0).1 = C1 := by rw [q3.1]
 have hXv : Valid (play a1 a0).1 := by rw [hXe]; exact q3.2.1
 have hXk : Kin a1 (play a1 a0).1 := by rw [hXe]; exact q3.2.2
 have Q3 := hXk.len; have M6 := hXk.room; have C2 := hXk.cars
 have Q4 : (play a1 a0).1.cars.length = a1.cars.length := by rw [C2]
 have C6 : playFrom a1 a0 = ((play a1 a0).1, 0) := by rw [hXe]; exact C7
 refine rr ?_
 refine sp 1 [(31, .int .i64 (((play a1 a0).2)))] ?_
 refine sd (dcm 32 .neq (((play a1 a0).2)) (0) false (by rw [M5]; rfl)) ?_
 refine sp 1 [(33, .bool (false))] ?_
 refine sd (dnb 34 0 0 e3 [.slice a9 (((play a1 a0).1).cars).length b0, .slice b1 (((play a1 a0).1).room).length b2, .slice b3 (((play a1 a0).1).tracks).length b4]) ?_
 refine sd (dc 35 (fun I' hI => (Check_ct I' _ ((play a1 a0).1) ((mkYard c8 c6 c9).mono hI) :))) ?_
 refine sd (dcm 36 .neq ((checkErr ((play a1 a0).1))) (0) false (by rw [show checkErr (play a1 a0).1 = 0 from hXv]; rfl)) ?_
 refine sp 3 [(39, .pointer (some ⟨e3, 2, none⟩)), (38, .bool (false))] ?_
 refine sd (dlb 40 0 2 e3 (.slice b3 (((play a1 a0).1).tracks).length b4)) ?_
 refine sp 2 [(42, .pointer (some ⟨d4, 2, none⟩)), (41, .int .i64 (↑((((play a1 a0).1).tracks).length)))] ?_
 refine sd (dlb 43 2 2 d4 (.slice a2 a4.length a3)) ?_
 refine sp 1 [(44, .int .i64 (↑(a4.length)))] ?_
 refine sd (dcm 45 .neq (↑((((play a1 a0).1).tracks).length)) (↑(a4.length)) false (by exact decide_eq_false (fun hh => hh (by omega)))) ?_
 refine sp 3 [(48, .pointer (some ⟨e3, 1, none⟩)), (47, .bool (false))] ?_
 refine sd (dlb 49 0 1 e3 (.slice b1 (((play a1 a0).1).room).length b2)) ?_
 refine sp 1 [(50, .pointer (some ⟨d4, 1, none⟩))] ?_
 refine sd (dlb 51 2 1 d4 (.slice a7 a1.room.length a8)) ?_
 refine sd (dc 52 (fun I' hI => (EqualInts_ct I' _ _ _ _ (c6.mono hI) (c7.mono hI) :))) ?_
 refine seq_re 52 rfl (show (.bool (decide ((((play a1 a0).1).room) = a1.room)) : Value) = .bool (true) from congrArg Value.bool (decide_eq_true (M6))) ?_
 refine sp 4 [(56, .pointer (some ⟨e3, 0, none⟩)), (55, .bool (!(true)))] ?_
 refine sd (dlb 57 0 0 e3 (.slice a9 (((play a1 a0).1).cars).length b0)) ?_
 refine sp 2 [(59, .pointer (some ⟨d4, 0, none⟩)), (58, .int .i64 (↑((((play a1 a0).1).cars).length)))] ?_
 refine sd (dlb 60 2 0 d4 (.slice a5 a1.cars.length a6)) ?_
 refine sp 1 [(61, .int .i64 (↑(a1.cars.length)))] ?_
 refine sd (dcm 62 .neq (↑((((play a1 a0).1).cars).length)) (↑(a1.cars.length)) false (by exact decide_eq_false (fun hh => hh (by omega)))) ?_
 refine sp 1 [(63, .bool (false))] ?_
 refine se ?_
 refine rcf 63 rfl ?_
 refine rskip (pst_next (rqr ?_))
 refine sd (dnb 64 2 0 d4 [.slice a5 a1.cars.length a6, .slice a7 a1.room.length a8, .slice a2 a4.length a3]) ?_
 refine sS (sal 8 26 #[.slice none 0 0, .slice none 0 0, .slice none 0 0] (fun e4 => ?_))
 refine sS (ss 0 0 e4 [.slice a5 a1.cars.length a6, .slice a7 a1.room.length a8, .slice a2 a4.length a3] [.slice a5 a1.cars.length a6, .slice a7 a1.room.length a8, .slice a2 a4.length a3] (_ :: _ :: _ :: _ :: _) (cs := [_, _, _]) rfl rfl ?_)
 refine sn ?_
 refine sp 1 [(9, .slice none 0 0)] ?_
 refine se (rq (rqr ?_))
 refine sp 1 [(10, .int .i64 (0))] ?_
 refine se (rb 0 ?_)
 refine rl (fun mz a w => ∃ J0 : Imm, ∃ k : Nat, ∃ Z : Yard, ∃ B5 : Value, ∃ B6 : Value, ∃ B7 : Value, ∃ i2 : Value, ∃ d9 : Seg, (B9.le J0) ∧ (k ≤ a0.length) ∧ (playFrom a1 (a0.take k) = (Z, 0)) ∧ (playFrom Z (a0.drop k) = ((play a1 a0).1, 0)) ∧ (IsCars J0 B5 Z.cars) ∧ (IsInts J0 B6 Z.room) ∧ (IsRows J0 B7 Z.tracks) ∧ (Own 3 1 intCell i2 (cutsOf a1 (a0.take k)) d9) ∧ Slots 196 [(9, i2), (10, .int .i64 ↑k), (4, .pointer (some ⟨d4, 0, none⟩)), (5, .slice f3 a0.length f5), (6, .pointer (some ⟨e3, 0, none⟩)), (8, .pointer (some ⟨e4, 0, none⟩))] a ∧ a.defers = [] ∧ St J0 ((e4, Obj.cells #[B5, B6, B7] 26 (0, 0)) :: (e3, Obj.cells #[.slice a9 (((play a1 a0).1).cars).length b0, .slice b1 (((play a1 a0).1).room).length b2, .slice b3 (((play a1 a0).1).tracks).length b4] 26 (0, 0)) :: (u6, Obj.cells #[.int .u64 (d0)] 95 (0, 0)) :: (d4, Obj.cells #[.slice a5 a1.cars.length a6, .slice a7 a1.room.length a8, .slice a2 a4.length a3] 26 (0, 0)) :: (d9 ++ F)) w ∧ mz = a0.length - k) ?_ ?_
 ·intro a w hS hD hW
  exact ⟨_, B9, 0, a1, (.slice a5 a1.cars.length a6), (.slice a7 a1.room.length a8), (.slice a2 a4.length a3), (.slice none 0 0), [], Imm.le.refl _, Nat.zero_le _, rfl, C6, c4, c7, e1, (Own.nil _ _ _), hS.sub (.cons 9 rfl (.cons 10 rfl (.cons 4 rfl (.cons 5 rfl (.cons 6 rfl (.cons 8 rfl (.nil _))))))), hD, hW, rfl⟩
 rintro mz a w ⟨J0, k, Z, B5, B6, B7, i2, d9, hJ0, hk, q2, C4, f6, f7, f8, g7, hS, hD, hW, rfl⟩
 refine run_at hS hD hW ?_
 clear hS hD hW a w
 replace hG := hG.mono hJ0
 replace c2 := c2.mono hJ0
 replace c1 := c1.mono hJ0
 replace c3 := fun i hi => (c3 i hi).mono hJ0
 replace c5 := c5.mono hJ0
 replace c8 := c8.mono hJ0
 replace e0 := e0.mono hJ0
 replace c6 := c6.mono hJ0
 replace c9 := c9.mono hJ0
 obtain ⟨e6, e7, j2, q4⟩ := g7.shape; subst j2
 obtain ⟨d5, d6, J4, J7, p6, J5, J6, J8⟩ := id f6
 subst p6
 obtain ⟨d7, d8, J9, K2, p7, K0, K1, K3⟩ := id f7
 subst p7
 obtain ⟨d1, d2, K4, K7, B8, p8, K5, K6, g0, g8⟩ := id f8
 subst p8
 obtain ⟨_, hZv, hZk⟩ := play_valid m2 q2
 have M3 := cutsOf_len (a0.take k) a1
 have M4 : (cutsOf a1 (a0.take k)).length ≤ k := by (rw [LK] at M3; omega)
 refine rq (rqr ?_)
 refine sp 4 [(68, .bool (cmp .lss (↑k) (↑(a0.length))))] ?_
 refine se ?_
 refine rc 68 rfl (fun h1 => ?_) (fun h1 => ?_)
 ·
  have y7 := h1
  have h1 := lss_t h1
  refine rskip (pst_next (rq (rb 1 (rq ?_))))
  have j1 := kept_step m2 q2 C4 (by omega)
  have z3 := j1.2.2.2.1; have n5 := j1.2.2.2.2.1; have O0 := j1.2.2.2.2.2.len
  have R0 := mayErr_ok j1.1; have O2 := (mayOk j1.1).many
  refine rdX (M := ((e4, Obj.cells #[.slice d5 Z.cars.length d6, .slice d7 Z.room.length d8, .slice d1 Z.tracks.length d2] 26 (0, 0)) :: (e3, Obj.cells #[.slice a9 (((play a1 a0).1).cars).length b0, .slice b1 (((play a1 a0).1).room).length b2, .slice b3 (((play a1 a0).1).tracks).length b4] 26 (0, 0)) :: (u6, Obj.cells #[.int .u64 (d0)] 95 (0, 0)) :: (d4, Obj.cells #[.slice a5 a1.cars.length a6, .slice a7 a1.room.length a8, .slice a2 a4.length a3] 26 (0, 0)) :: (d9 ++ []))) (F0 := F) [(9, 11, .cl 26 #[.slice none 0 0, .slice none 0 0, .slice none 0 0])] 11 [(0, true), (1, true), (2, true), (3, true), (4, true), (5, false), (6, true), (7, true), (8, true), (9, false), (10, false)] (by simp only [AA, CA, NA, List.append_nil]; exact PR _) (hA_cons (alOk_cl (ops := opsOf (c_ShuntKept [1, 1, 1, 1, 1, 1, 1, 1, 0, 1, 0, 0, 1, 0, 0, 0])) (i := 9) (d := 11) (by kernel_rfl) (by kernel_rfl) (by kernel_rfl)) hA_nil) ?_
  refine ofx_all (dnb 72 0 0 e4 [.slice d5 Z.cars.length d6, .slice d7 Z.room.length d8, .slice d1 Z.tracks.length d2]) ?_
  refine ofx_all (det_pv (d := 73) (v := .slice f3 a0.length f5) (by kernel_rfl)) ?_
  refine ofx_all (det_pv (d := 74) (v := .int .i64 (↑k)) (by kernel_rfl)) ?_
  refine ofx_all (di 75 3 (k) c5.addr) ?_
  refine ofx_all (det_loadN (x := (.tmp 75)) (T := 52) (n := 3) (vs := [.int .i64 ((a0.getD (k) noShift).frm), .int .i64 ((a0.getD (k) noShift).to), .int .i64 ((a0.getD (k) noShift).many)]) (d := 76) (ty := 52) (gd := none) (by kernel_rfl) rfl (by kernel_rfl) (by kernel_rfl) rfl rfl (shifts_getN c5 (k) (by omega))) ?_
  refine ofx_act (Mx := fun FX => ((e4, Obj.cells #[.slice d5 Z.cars.length d6, .slice d7 Z.room.length d8, .slice d1 Z.tracks.length d2] 26 (0, 0)) :: (e3, Obj.cells #[.slice a9 (((play a1 a0).1).cars).length b0, .slice b1 (((play a1 a0).1).room).length b2, .slice b3 (((play a1 a0).1).tracks).length b4] 26 (0, 0)) :: (u6, Obj.cells #[.int .u64 (d0)] 95 (0, 0)) :: (d4, Obj.cells #[.slice a5 a1.cars.length a6, .slice a7 a1.room.length a8, .slice a2 a4.length a3] 26 (0, 0)) :: (d9 ++ FX))) rfl (fun FX => by simp only [AA, CA, NA, List.append_nil]; exact PR _) (fun FX => ?_)
  have n4 := Draw_ct J0 _ (Z) (a0.getD (k) noShift) (mkYard f6 f7 f8) (by first | exact hG | exact hG.mono hI)
  refine id (sc (some 77) (F := ((e4, Obj.cells #[.slice d5 Z.cars.length d6, .slice d7 Z.room.length d8, .slice d1 Z.tracks.length d2] 26 (0, 0)) :: (e3, Obj.cells #[.slice a9 (((play a1 a0).1).cars).length b0, .slice b1 (((play a1 a0).1).room).length b2, .slice b3 (((play a1 a0).1).tracks).length b4] 26 (0, 0)) :: (u6, Obj.cells #[.int .u64 (d0)] 95 (0, 0)) :: (d4, Obj.cells #[.slice a5 a1.cars.length a6, .slice a7 a1.room.length a8, .slice a2 a4.length a3] 26 (0, 0)) :: (d9 ++ FX))) (n4 :) (PR _) (fun P4 C0 P0 d3 z7 => ?_))
  obtain ⟨P6, o6, o0, A0⟩ := z7
  rw [o6, o0]; clear o6 o0
  replace hG := hG.mono d3
  replace c2 := c2.mono d3
  replace c1 := c1.mono d3
  replace c3 := fun i hi => (c3 i hi).mono d3
  replace c5 := c5.mono d3
  replace c8 := c8.mono d3
  replace e0 := e0.mono d3
  replace c6 := c6.mono d3
  replace c9 := c9.mono d3
  replace f6 := f6.mono d3
  replace f7 := f7.mono d3
  replace f8 := f8.mono d3
  replace g0 := g0.mono d3
  replace g8 := fun i hi => (g8 i hi).mono d3
  have m6 := A0
  obtain ⟨G4, G5, G6, m5, e8, e9, f0⟩ := id m6
  subst m5
  obtain ⟨b7, b8, s0, s3, j6, s1, s2, s4⟩ := id e8
  subst j6
  obtain ⟨b9, c0, s5, s8, j7, s6, s7, s9⟩ := id e9
  subst j7
  obtain ⟨b5, b6, t0, t3, p4, j8, t1, t2, t4, t5⟩ := id f0
  subst j8
  refine ofx_nx (M1 := ((e4, Obj.cells #[.slice d5 Z.cars.length d6, .slice d7 Z.room.length d8, .slice d1 Z.tracks.length d2] 26 (0, 0)) :: (e3, Obj.cells #[.slice a9 (((play a1 a0).1).cars).length b0, .slice b1 (((play a1 a0).1).room).length b2, .slice b3 (((play a1 a0).1).tracks).length b4] 26 (0, 0)) :: (u6, Obj.cells #[.int .u64 (d0)] 95 (0, 0)) :: (d4, Obj.cells #[.slice a5 a1.cars.length a6, .slice a7 a1.room.length a8, .slice a2 a4.length a3] 26 (0, 0)) :: (d9 ++ []))) (by simp only [AA, CA, NA, List.append_nil]; exact (PR _)) (.wait (by kernel_rfl) (.wait (by kernel_rfl) (.wait (by kernel_rfl) (.wait (by kernel_rfl) (.wait (by kernel_rfl) .nil))))) ?_
  show OFPX _ _ _ _ _ _ _ _ ((77, .tuple #[.agg #[.slice b7 (((play Z [(a0.getD (k) noShift)]).1).cars).length b8, .slice b9 (((play Z [(a0.getD (k) noShift)]).1).room).length c0, .slice b5 (((play Z [(a0.getD (k) noShift)]).1).tracks).length b6], .int .i64 (((play Z [(a0.getD (k) noShift)]).2))]) :: _) _ _
  refine ofx_all (det_pv (d := 71) (v := .tuple #[.agg #[.slice b7 (((play Z [(a0.getD (k) noShift)]).1).cars).length b8, .slice b9 (((play Z [(a0.getD (k) noShift)]).1).room).length c0, .slice b5 (((play Z [(a0.getD (k) noShift)]).1).tracks).length b6], .int .i64 (((play Z [(a0.getD (k) noShift)]).2))]) (by kernel_rfl)) ?_
  refine ofx_all (det_pv (d := 78) (v := .agg #[.slice b7 (((play Z [(a0.getD (k) noShift)]).1).cars).length b8, .slice b9 (((play Z [(a0.getD (k) noShift)]).1).room).length c0, .slice b5 (((play Z [(a0.getD (k) noShift)]).1).tracks).length b6]) (by kernel_rfl)) ?_
  refine ofx_none (det_pv (d := 79) (v := .int .i64 (((play Z [(a0.getD (k) noShift)]).2))) (by kernel_rfl)) ?_
  refine ofx_ac rfl (fun j0 => ?_)
  refine ofx_act (Mx := fun FX => ((j0, Obj.cells #[.slice none 0 0, .slice none 0 0, .slice none 0 0] 26 (0, 0)) :: (e4, Obj.cells #[.slice d5 Z.cars.length d6, .slice d7 Z.room.length d8, .slice d1 Z.tracks.length d2] 26 (0, 0)) :: (e3, Obj.cells #[.slice a9 (((play a1 a0).1).cars).length b0, .slice b1 (((play a1 a0).1).room).length b2, .slice b3 (((play a1 a0).1).tracks).length b4] 26 (0, 0)) :: (u6, Obj.cells #[.int .u64 (d0)] 95 (0, 0)) :: (d4, Obj.cells #[.slice a5 a1.cars.length a6, .slice a7 a1.room.length a8, .slice a2 a4.length a3] 26 (0, 0)) :: (d9 ++ FX))) rfl (fun FX => by simp only [AA, CA, NA, List.append_nil]; exact PR _) (fun FX => ?_)
  refine id (ss 0 0 j0 [.slice b7 (((play Z [(a0.getD (k) noShift)]).1).cars).length b8, .slice b9 (((play Z [(a0.getD (k) noShift)]).1).room).length c0, .slice b5 (((play Z [(a0.getD (k) noShift)]).1).tracks).length b6] [.slice b7 (((play Z [(a0.getD (k) noShift)]).1).cars).length b8, .slice b9 (((play Z [(a0.getD (k) noShift)]).1).room).length c0, .slice b5 (((play Z [(a0.getD (k) noShift)]).1).tracks).length b6] (_ :: _ :: _ :: _ :: _ :: _) (cs := [_, _, _]) rfl rfl ?_)
  refine ofx_nx (M1 := ((j0, Obj.cells #[.slice b7 (((play Z [(a0.getD (k) noShift)]).1).cars).length b8, .slice b9 (((play Z [(a0.getD (k) noShift)]).1).room).length c0, .slice b5 (((play Z [(a0.getD (k) noShift)]).1).tracks).length b6] 26 (0, 0)) :: (e4, Obj.cells #[.slice d5 Z.cars.length d6, .slice d7 Z.room.length d8, .slice d1 Z.tracks.length d2] 26 (0, 0)) :: (e3, Obj.cells #[.slice a9 (((play a1 a0).1).cars).length b0, .slice b1 (((play a1 a0).1).room).length b2, .slice b3 (((play a1 a0).1).tracks).length b4] 26 (0, 0)) :: (u6, Obj.cells #[.int .u64 (d0)] 95 (0, 0)) :: (d4, Obj.cells #[.slice a5 a1.cars.length a6, .slice a7 a1.room.length a8, .slice a2 a4.length a3] 26 (0, 0)) :: (d9 ++ []))) (by simp only [AA, CA, NA, List.append_nil]; exact (PR _)) (.none (.wait (by kernel_rfl) (.wait (by kernel_rfl) (.wait (by kernel_rfl) (.wait (by kernel_rfl) (.wait (by kernel_rfl) (.wait (by kernel_rfl) (.wait (by kernel_rfl) .nil)))))))) ?_
  refine ofx_end ?_
  refine seq_mem (M' := ((j0, Obj.cells #[.slice b7 (((play Z [(a0.getD (k) noShift)]).1).cars).length b8, .slice b9 (((play Z [(a0.getD (k) noShift)]).1).room).length c0, .slice b5 (((play Z [(a0.getD (k) noShift)]).1).tracks).length b6] 26 (0, 0)) :: (e4, Obj.cells #[.slice d5 Z.cars.length d6, .slice d7 Z.room.length d8, .slice d1 Z.tracks.length d2] 26 (0, 0)) :: (e3, Obj.cells #[.slice a9 (((play a1 a0).1).cars).length b0, .slice b1 (((play a1 a0).1).room).length b2, .slice b3 (((play a1 a0).1).tracks).length b4] 26 (0, 0)) :: (u6, Obj.cells #[.int .u64 (d0)] 95 (0, 0)) :: (d4, Obj.cells #[.slice a5 a1.cars.length a6, .slice a7 a1.room.length a8, .slice a2 a4.length a3] 26 (0, 0)) :: (d9 ++ F))) (fun w h => by simpa only [AA, CA, NA, List.append_nil] using h) ?_
  refine nm ?_
  refine sp 1 [(12, .int .i64 (((play Z [(a0.getD (k) noShift)]).2)))] ?_
  refine se (rq (rqr ?_))
  refine sp 1 [(80, .int .i64 (((play Z [(a0.getD (k) noShift)]).2)))] ?_
  refine sd (dcm 81 .neq (((play Z [(a0.getD (k) noShift)]).2)) (0) false (by rw [z3]; rfl)) ?_
  refine sp 2 [(83, .pointer (some ⟨j0, 2, none⟩)), (82, .bool (false))] ?_
  refine sd (dlb 84 0 2 j0 (.slice b5 (((play Z [(a0.getD (k) noShift)]).1).tracks).length b6)) ?_
  refine sp 2 [(86, .pointer (some ⟨d4, 2, none⟩)), (85, .int .i64 (↑((((play Z [(a0.getD (k) noShift)]).1).tracks).length)))] ?_
  refine sd (dlb 87 4 2 d4 (.slice a2 a4.length a3)) ?_
  refine sp 1 [(88, .int .i64 (↑(a4.length)))] ?_
  refine sd (dcm 89 .neq (↑((((play Z [(a0.getD (k) noShift)]).1).tracks).length)) (↑(a4.length)) false (by exact decide_eq_false (fun hh => hh (by omega)))) ?_
  refine sp 1 [(90, .bool (false))] ?_
  refine se ?_
  refine rcf 90 rfl ?_
  refine rskip (pst_next (rq (rq ?_)))
  refine rd0 15 ?_
  refine ox 1 [(91, .pointer (some ⟨e4, 2, none⟩))] ?_
  refine ofp_det (dlb 92 1 2 e4 (.slice d1 Z.tracks.length d2)) ?_
  refine ox 2 [(94, .int .i64 (↑k)), (93, .slice f3 a0.length f5)] ?_
  refine ofp_det (di 95 3 (k) c5.addr) ?_
  refine ox 1 [(96, .pointer (some ⟨g5, g6 + k * 3, none⟩))] ?_
  refine ofp_det (dl 97 (shifts_get c5 (k) (by omega) 0 (by decide) (v := .int .i64 ((a0.getD (k) noShift).frm)) rfl)) ?_
  refine ofp_det (diI 98 1 ((a0.getD (k) noShift).frm) g0.addr) ?_
  have k6 := g8 (((a0.getD (k) noShift).frm : Int).toNat) (by omega)
  obtain ⟨C9, D1, D0, D4, k5, D2, D3, D5⟩ := id k6
  rw [k5] at k6
  refine ofp_det (det_eq (dl 99 (rows_get g0 (((a0.getD (k) noShift).frm : Int).toNat) (by omega))) k5) ?_
  refine ox 3 [(102, .int .i64 (↑k)), (101, .slice f3 a0.length f5), (100, .int .i64 (↑((Z.tracks.getD (((a0.getD (k) noShift).frm : Int).toNat) []).length)))] ?_
  refine ofp_det (di 103 3 (k) c5.addr) ?_
  refine ox 1 [(104, .pointer (some ⟨g5, g6 + k * 3 + 2, none⟩))] ?_
  refine ofp_det (dl 105 (shifts_get c5 (k) (by omega) 2 (by decide) (v := .int .i64 ((a0.getD (k) noShift).many)) rfl)) ?_
  refine ofp_end0 ?_
  refine sd (dsb 106 (↑((Z.tracks.getD (((a0.getD (k) noShift).frm : Int).toNat) []).length)) ((a0.getD (k) noShift).many)) ?_
  refine sp 1 [(13, .int .i64 ((↑((Z.tracks.getD (((a0.getD (k) noShift).frm : Int).toNat) []).length)) - ((a0.getD (k) noShift).many)))] ?_
  refine sn ?_
  refine sp 2 [(108, .bool (cmp .gtr ((↑((Z.tracks.getD (((a0.getD (k) noShift).frm : Int).toNat) []).length)) - ((a0.getD (k) noShift).many)) (0)))] ?_
  refine se ?_
  refine rc 108 rfl (fun h2 => ?_) (fun h2 => ?_)
  ·
   have y8 := h2
   have h2 := gtr_t h2
   have m0 := cutOf_yes (show _ from h2)
   refine rd 14 [(0, true), (1, true), (2, true), (3, true), (4, true), (5, true), (6, true), (7, true), (8, true), (9, true), (10, true), (11, true), (12, true), (13, false)] ((j0, Obj.cells #[.slice b7 (((play Z [(a0.getD (k) noShift)]).1).cars).length b8, .slice b9 (((play Z [(a0.getD (k) noShift)]).1).room).length c0, .slice b5 (((play Z [(a0.getD (k) noShift)]).1).tracks).length b6] 26 (0, 0)) :: (e4, Obj.cells #[.slice d5 Z.cars.length d6, .slice d7 Z.room.length d8, .slice d1 Z.tracks.length d2] 26 (0, 0)) :: (e3, Obj.cells #[.slice a9 (((play a1 a0).1).cars).length b0, .slice b1 (((play a1 a0).1).room).length b2, .slice b3 (((play a1 a0).1).tracks).length b4] 26 (0, 0)) :: (u6, Obj.cells #[.int .u64 (d0)] 95 (0, 0)) :: (d4, Obj.cells #[.slice a5 a1.cars.length a6, .slice a7 a1.room.length a8, .slice a2 a4.length a3] 26 (0, 0)) :: []) ((d9 ++ F)) ?_
   refine ox 2 [(110, .pointer (some ⟨e4, 2, none⟩)), (109, .slice e6 (cutsOf a1 (a0.take k)).length e7)] ?_
   refine ofp_det (dlb 111 1 2 e4 (.slice d1 Z.tracks.length d2)) ?_
   refine ox 2 [(113, .int .i64 (↑k)), (112, .slice f3 a0.length f5)] ?_
   refine ofp_det (di 114 3 (k) c5.addr) ?_
   refine ox 1 [(115, .pointer (some ⟨g5, g6 + k * 3, none⟩))] ?_
   refine ofp_det (dl 116 (shifts_get c5 (k) (by omega) 0 (by decide) (v := .int .i64 ((a0.getD (k) noShift).frm)) rfl)) ?_
   refine ofp_det (diI 117 1 ((a0.getD (k) noShift).frm) g0.addr) ?_
   have k8 := g8 (((a0.getD (k) noShift).frm : Int).toNat) (by omega)
   obtain ⟨D6, D8, D7, E1, k7, D9, E0, k9⟩ := id k8
   rw [k7] at k8
   refine ofp_det (det_eq (dl 118 (rows_get g0 (((a0.getD (k) noShift).frm : Int).toNat) (by omega))) k7) ?_
   refine ox 1 [(119, .int .i64 ((↑((Z.tracks.getD (((a0.getD (k) noShift).frm : Int).toNat) []).length)) - ((a0.getD (k) noShift).many)))] ?_
   refine ofp_det (diI 120 1 ((↑((Z.tracks.getD (((a0.getD (k) noShift).frm : Int).toNat) []).length)) - ((a0.getD (k) noShift).many)) k9.addr) ?_
   refine ofp_det (dl 121 (ints_get k9 (((↑((Z.tracks.getD (((a0.getD (k) noShift).frm : Int).toNat) []).length)) - ((a0.getD (k) noShift).many) : Int).toNat) (by omega))) ?_
   refine ofp_stp (sbs 122 3 1 #[.int .i64 ((Z.tracks.getD (((a0.getD (k) noShift).frm : Int).toNat) []).getD (((↑((Z.tracks.getD (((a0.getD (k) noShift).frm : Int).toNat) []).length)) - ((a0.getD (k) noShift).many) : Int).toNat) 0)] (fun M2 => ?_))
   refine ofp_settle (S' := ((M2, Obj.cells #[.int .i64 ((Z.tracks.getD (((a0.getD (k) noShift).frm : Int).toNat) []).getD (((↑((Z.tracks.getD (((a0.getD (k) noShift).frm : Int).toNat) []).length)) - ((a0.getD (k) noShift).many) : Int).toNat) 0)] 3 (0, 0)) :: (d9 ++ F))) ((PS _ _ _).trans (PC _ ((PS _ _ _).trans (PC _ ((PS _ _ _).trans (PC _ ((PS _ _ _).trans (PC _ (PS _ _ _))))))))) ?_
   refine ofp_end ?_
   refine nm (nm ?_)
   refine sS (stp_append (d := 123) (x := (.tmp 109)) (y := (.tmp 122)) (T := 23) (T' := 23) (E := 3) (E' := 3) (sz := 1) (bs := 8) (z := .int .i64 (0)) (cell := intCell) (xs := cutsOf a1 (a0.take k)) (ys := [((Z.tracks.getD (((a0.getD (k) noShift).frm : Int).toNat) []).getD (((↑((Z.tracks.getD (((a0.getD (k) noShift).frm : Int).toNat) []).length)) - ((a0.getD (k) noShift).many) : Int).toNat) 0 : Int)]) (Ms := d9) (ty := 23) (gd := none) (by kernel_rfl) rfl (by kernel_rfl) (by kernel_rfl) (by kernel_rfl) (by kernel_rfl) (by kernel_rfl) (by decide) (by kernel_rfl) rfl rfl (g7) ((PC _ ((PC _ ((PC _ ((PC _ ((PC _ (PM.symm)).trans (PM.symm))).trans (PM.symm))).trans (PM.symm))).trans (PM.symm))).trans (PM.symm)) (one_intCell _) (src_atS 5 rfl rfl) (by first | omega | (simp only [LC, LN]; omega)) (fun R4 m8 o1 => ?_))
   refine seq_mem (M' := ((j0, Obj.cells #[.slice b7 (((play Z [(a0.getD (k) noShift)]).1).cars).length b8, .slice b9 (((play Z [(a0.getD (k) noShift)]).1).room).length c0, .slice b5 (((play Z [(a0.getD (k) noShift)]).1).tracks).length b6] 26 (0, 0)) :: (e4, Obj.cells #[.slice d5 Z.cars.length d6, .slice d7 Z.room.length d8, .slice d1 Z.tracks.length d2] 26 (0, 0)) :: (e3, Obj.cells #[.slice a9 (((play a1 a0).1).cars).length b0, .slice b1 (((play a1 a0).1).room).length b2, .slice b3 (((play a1 a0).1).tracks).length b4] 26 (0, 0)) :: (u6, Obj.cells #[.int .u64 (d0)] 95 (0, 0)) :: (d4, Obj.cells #[.slice a5 a1.cars.length a6, .slice a7 a1.room.length a8, .slice a2 a4.length a3] 26 (0, 0)) :: (m8 ++ F))) (fun w h => (h.perm (((PA _ ((PC _ ((PC _ ((PC _ ((PC _ (PS _ _ _)).trans (PS _ _ _))).trans (PS _ _ _))).trans (PS _ _ _))).trans (PS _ _ _))).trans PM).trans (PC _ (List.perm_middle.trans (PC _ (List.perm_middle.trans (PC _ (List.perm_middle.trans (PC _ (List.perm_middle.trans (PC _ PM))))))))))).sub (TC _ (TR _))) ?_
   obtain ⟨o7, o8, z8, O4⟩ := o1.shape
   subst z8
   refine sp 1 [(9, .slice o7 ((cutsOf a1 (a0.take k)) ++ ([((Z.tracks.getD (((a0.getD (k) noShift).frm : Int).toNat) []).getD (((↑((Z.tracks.getD (((a0.getD (k) noShift).frm : Int).toNat) []).length)) - ((a0.getD (k) noShift).many) : Int).toNat) 0 : Int)])).length o8)] ?_
   refine sn ?_
   refine sd (dnb 124 0 0 j0 [.slice b7 (((play Z [(a0.getD (k) noShift)]).1).cars).length b8, .slice b9 (((play Z [(a0.getD (k) noShift)]).1).room).length c0, .slice b5 (((play Z [(a0.getD (k) noShift)]).1).tracks).length b6]) ?_
   refine sS (ss 1 0 e4 [.slice b7 (((play Z [(a0.getD (k) noShift)]).1).cars).length b8, .slice b9 (((play Z [(a0.getD (k) noShift)]).1).room).length c0, .slice b5 (((play Z [(a0.getD (k) noShift)]).1).tracks).length b6] [.slice b7 (((play Z [(a0.getD (k) noShift)]).1).cars).length b8, .slice b9 (((play Z [(a0.getD (k) noShift)]).1).room).length c0, .slice b5 (((play Z [(a0.getD (k) noShift)]).1).tracks).length b6] (_ :: _ :: _ :: _ :: _ :: _) (cs := [_, _, _]) rfl rfl ?_)
   refine sn ?_
   refine sd (dnb 125 1 0 e4 [.slice b7 (((play Z [(a0.getD (k) noShift)]).1).cars).length b8, .slice b9 (((play Z [(a0.getD (k) noShift)]).1).room).length c0, .slice b5 (((play Z [(a0.getD (k) noShift)]).1).tracks).length b6]) ?_
   refine sd (dc 126 (fun I' hI => (Check_ct I' _ ((play Z [(a0.getD (k) noShift)]).1) ((mkYard e8 e9 f0).mono hI) :))) ?_
   refine sd (dcm 127 .neq ((checkErr ((play Z [(a0.getD (k) noShift)]).1))) (0) false (by exact decide_eq_false (fun hh => hh n5))) ?_
   refine se ?_
   refine rcf 127 rfl ?_
   refine rskip (pst_normal_block (pst_next (rr ?_)))
   refine sp 1 [(69, .int .i64 (↑k))] ?_
   refine sd (da 70 (↑k) (1)) ?_
   refine sp 1 [(10, .int .i64 (↑k + 1))] ?_
   refine ee ?_
   refine pst_back (a0.length - (k+1)) (by omega) ?_
   intro a w hS hD hW
   exact ⟨C0, k+1, (play Z [(a0.getD (k) noShift)]).1, (.slice b7 (((play Z [(a0.getD (k) noShift)]).1).cars).length b8), (.slice b9 (((play Z [(a0.getD (k) noShift)]).1).room).length c0), (.slice b5 (((play Z [(a0.getD (k) noShift)]).1).tracks).length b6), .slice o7 ((cutsOf a1 (a0.take k)) ++ ([((Z.tracks.getD (((a0.getD (k) noShift).frm : Int).toNat) []).getD (((↑((Z.tracks.getD (((a0.getD (k) noShift).frm : Int).toNat) []).length)) - ((a0.getD (k) noShift).many) : Int).toNat) 0 : Int)])).length o8, m8, (Imm.le.trans hJ0 d3), by omega, j1.2.1, j1.2.2.1, e8, e9, f0, (by rw [cuts_step q2 (by omega), m0]; exact o1), hS.sub (.consE 9 rfl rfl (.consE 10 rfl rfl (.cons 4 rfl (.cons 5 rfl (.cons 6 rfl (.cons 8 rfl (.nil _))))))), hD, (hW.perm (PR _)).sub (TC _ (TR _)), rfl⟩
  have y8 := h2
  have h2 := gtr_f h2
  have m0 := cutOf_no (Int.not_lt.2 h2)
  refine rskip (pst_next (rqr ?_))
  refine sd (dnb 124 0 0 j0 [.slice b7 (((play Z [(a0.getD (k) noShift)]).1).cars).length b8, .slice b9 (((play Z [(a0.getD (k) noShift)]).1).room).length c0, .slice b5 (((play Z [(a0.getD (k) noShift)]).1).tracks).length b6]) ?_
  refine sS (ss 1 0 e4 [.slice b7 (((play Z [(a0.getD (k) noShift)]).1).cars).length b8, .slice b9 (((play Z [(a0.getD (k) noShift)]).1).room).length c0, .slice b5 (((play Z [(a0.getD (k) noShift)]).1).tracks).length b6] [.slice b7 (((play Z [(a0.getD (k) noShift)]).1).cars).length b8, .slice b9 (((play Z [(a0.getD (k) noShift)]).1).room).length c0, .slice b5 (((play Z [(a0.getD (k) noShift)]).1).tracks).length b6] (_ :: _ :: _ :: _ :: _ :: _) (cs := [_, _, _]) rfl rfl ?_)
  refine sn ?_
  refine sd (dnb 125 1 0 e4 [.slice b7 (((play Z [(a0.getD (k) noShift)]).1).cars).length b8, .slice b9 (((play Z [(a0.getD (k) noShift)]).1).room).length c0, .slice b5 (((play Z [(a0.getD (k) noShift)]).1).tracks).length b6]) ?_
  refine sd (dc 126 (fun I' hI => (Check_ct I' _ ((play Z [(a0.getD (k) noShift)]).1) ((mkYard e8 e9 f0).mono hI) :))) ?_
  refine sd (dcm 127 .neq ((checkErr ((play Z [(a0.getD (k) noShift)]).1))) (0) false (by exact decide_eq_false (fun hh => hh n5))) ?_
  refine se ?_
  refine rcf 127 rfl ?_
  refine rskip (pst_normal_block (pst_next (rr ?_)))
  refine sp 1 [(69, .int .i64 (↑k))] ?_
  refine sd (da 70 (↑k) (1)) ?_
  refine sp 1 [(10, .int .i64 (↑k + 1))] ?_
  refine ee ?_
  refine pst_back (a0.length - (k+1)) (by omega) ?_
  intro a w hS hD hW
  exact ⟨C0, k+1, (play Z [(a0.getD (k) noShift)]).1, (.slice b7 (((play Z [(a0.getD (k) noShift)]).1).cars).length b8), (.slice b9 (((play Z [(a0.getD (k) noShift)]).1).room).length c0), (.slice b5 (((play Z [(a0.getD (k) noShift)]).1).tracks).length b6), .slice e6 (cutsOf a1 (a0.take k)).length e7, d9, (Imm.le.trans hJ0 d3), by omega, j1.2.1, j1.2.2.1, e8, e9, f0, (by rw [cuts_step q2 (by omega), m0, List.append_nil]; exact g7), hS.sub (.consE 9 rfl rfl (.consE 10 rfl rfl (.cons 4 rfl (.cons 5 rfl (.cons 6 rfl (.cons 8 rfl (.nil _))))))), hD, (hW.perm (PR _)).sub (TC _ (TR _)), rfl⟩
 have y7 := h1
 have h1 := lss_f h1
 refine rexit 0 ?_
 refine (pst_exit_pass (pst_exit_pass (pst_exit_block ?_)))
 refine pst_next (rq (rqr ?_))
 refine sfz (A := ((e4, Obj.cells #[.slice d5 Z.cars.length d6, .slice d7 Z.room.length d8, .slice d1 Z.tracks.length d2] 26 (0, 0)) :: (e3, Obj.cells #[.slice a9 (((play a1 a0).1).cars).length b0, .slice b1 (((play a1 a0).1).room).length b2, .slice b3 (((play a1 a0).1).tracks).length b4] 26 (0, 0)) :: (u6, Obj.cells #[.int .u64 (d0)] 95 (0, 0)) :: (d4, Obj.cells #[.slice a5 a1.cars.length a6, .slice a7 a1.room.length a8, .slice a2 a4.length a3] 26 (0, 0)) :: F)) 0 g7 ((PC _ ((PC _ ((PC _ (PM.symm)).trans (PM.symm))).trans (PM.symm))).trans (PM.symm)) (fun p9 e2 i0 => ?_)
 replace hG := hG.mono e2
 replace c2 := c2.mono e2
 replace c1 := c1.mono e2
 replace c3 := fun i hi => (c3 i hi).mono e2
 replace c8 := c8.mono e2
 replace e0 := e0.mono e2
 replace c6 := c6.mono e2
 replace c9 := c9.mono e2
 replace f6 := f6.mono e2
 replace f7 := f7.mono e2
 replace f8 := f8.mono e2
 obtain ⟨y0, y2, y1, y5, l8, y3, y4, y6⟩ := id i0
 cases l8
 refine sp 1 [(14, .int .i64 (0))] ?_
 refine se (rb 2 ?_)
 refine rl (fun mz a w => ∃ i : Nat, (i ≤ a1.tracks.length) ∧ Slots 196 [(14, .int .i64 ↑i), (4, .pointer (some ⟨d4, 0, none⟩)), (6, .pointer (some ⟨e3, 0, none⟩)), (8, .pointer (some ⟨e4, 0, none⟩)), (9, .slice e6 (cutsOf a1 (a0.take k)).length e7)] a ∧ a.defers = [] ∧ St p9 ((e4, Obj.cells #[.slice d5 Z.cars.length d6, .slice d7 Z.room.length d8, .slice d1 Z.tracks.length d2] 26 (0, 0)) :: (e3, Obj.cells #[.slice a9 (((play a1 a0).1).cars).length b0, .slice b1 (((play a1 a0).1).room).length b2, .slice b3 (((play a1 a0).1).tracks).length b4] 26 (0, 0)) :: (u6, Obj.cells #[.int .u64 (d0)] 95 (0, 0)) :: (d4, Obj.cells #[.slice a5 a1.cars.length a6, .slice a7 a1.room.length a8, .slice a2 a4.length a3] 26 (0, 0)) :: F) w ∧ mz = a1.tracks.length - i) ?_ ?_
 ·intro a w hS hD hW
  exact ⟨_, 0, Nat.zero_le _, hS.sub (.cons 14 rfl (.cons 4 rfl (.cons 6 rfl (.cons 8 rfl (.cons 9 rfl (.nil _)))))), hD, hW, rfl⟩
 rintro mz a w ⟨i, hi, hS, hD, hW, rfl⟩
 refine run_at hS hD hW ?_
 clear hS hD hW a w
 refine rq (rqr ?_)
 refine sp 2 [(129, .pointer (some ⟨d4, 2, none⟩)), (128, .int .i64 (↑i))] ?_
 refine sd (dlb 130 3 2 d4 (.slice a2 a4.length a3)) ?_
 refine sp 2 [(132, .bool (cmp .lss (↑i) (↑(a4.length))))] ?_
 refine se ?_
 refine rc 132 rfl (fun h3 => ?_) (fun h3 => ?_)
 ·
  have y9 := h3
  have h3 := lss_t h3
  refine rskip (pst_next (rq (rb 3 (rqr ?_))))
  refine sp 1 [(15, .int .i64 (1))] ?_
  refine se (rb 4 ?_)
  refine rl (fun mz a w => ∃ j : Nat, (j ≤ (a1.tracks.getD (i) []).length) ∧ Slots 196 [(15, .int .i64 (↑j + 1)), (4, .pointer (some ⟨d4, 0, none⟩)), (6, .pointer (some ⟨e3, 0, none⟩)), (8, .pointer (some ⟨e4, 0, none⟩)), (9, .slice e6 (cutsOf a1 (a0.take k)).length e7), (14, .int .i64 (↑i))] a ∧ a.defers = [] ∧ St p9 ((e4, Obj.cells #[.slice d5 Z.cars.length d6, .slice d7 Z.room.length d8, .slice d1 Z.tracks.length d2] 26 (0, 0)) :: (e3, Obj.cells #[.slice a9 (((play a1 a0).1).cars).length b0, .slice b1 (((play a1 a0).1).room).length b2, .slice b3 (((play a1 a0).1).tracks).length b4] 26 (0, 0)) :: (u6, Obj.cells #[.int .u64 (d0)] 95 (0, 0)) :: (d4, Obj.cells #[.slice a5 a1.cars.length a6, .slice a7 a1.room.length a8, .slice a2 a4.length a3] 26 (0, 0)) :: F) w ∧ mz = (a1.tracks.getD (i) []).length - j) ?_ ?_
  ·intro a w hS hD hW
   exact ⟨_, 0, Nat.zero_le _, hS.sub (.cons 15 rfl (.cons 4 rfl (.cons 6 rfl (.cons 8 rfl (.cons 9 rfl (.cons 14 rfl (.nil _))))))), hD, hW, rfl⟩
  rintro mz a w ⟨j, hj, hS, hD, hW, rfl⟩
  refine run_at hS hD hW ?_
  clear hS hD hW a w
  refine rq (rqr ?_)
  refine sp 2 [(136, .pointer (some ⟨d4, 2, none⟩)), (135, .int .i64 (↑j + 1))] ?_
  refine sd (dlb 137 3 2 d4 (.slice a2 a4.length a3)) ?_
  refine sp 1 [(138, .int .i64 (↑i))] ?_
  refine sd (di 139 1 (i) (fun _ => c1.addr (by omega)) (n := a4.length)) ?_
  have l1 := c3 (i) (by omega)
  obtain ⟨E2, E4, E3, E7, l0, E5, E6, E8⟩ := id l1
  rw [l0] at l1
  refine sd (det_eq (dl 140 (rows_get c1 (i) (by omega))) l0) ?_
  refine sp 2 [(142, .bool (cmp .lss (↑j + 1) (↑((a1.tracks.getD (i) []).length))))] ?_
  refine se ?_
  refine rc 142 rfl (fun h4 => ?_) (fun h4 => ?_)
  ·
   have z0 := h4
   have h4 := lss_t h4
   refine rskip (pst_next (rq (rb 5 (rqr ?_))))
   refine sp 1 [(145, .pointer (some ⟨d4, 2, none⟩))] ?_
   refine sd (dlb 146 3 2 d4 (.slice a2 a4.length a3)) ?_
   refine sp 1 [(147, .int .i64 (↑i))] ?_
   refine sd (di 148 1 (i) (fun _ => c1.addr (by omega)) (n := a4.length)) ?_
   have i5 := c3 (i) (by omega)
   obtain ⟨A3, A5, A4, A8, i4, A6, A7, i6⟩ := id i5
   rw [i4] at i5
   refine sd (det_eq (dl 149 (rows_get c1 (i) (by omega))) i4) ?_
   refine sp 1 [(150, .int .i64 (↑j + 1))] ?_
   refine sd (di 151 1 (j + 1) i6.addr) ?_
   refine sd (dl 152 (ints_get i6 (j + 1) (by omega))) ?_
   refine sp 1 [(16, .int .i64 ((a1.tracks.getD (i) []).getD (j + 1) 0))] ?_
   refine se (rq ?_)
   refine rd0 17 ?_
   refine ox 2 [(154, .int .i64 ((a1.tracks.getD (i) []).getD (j + 1) 0)), (153, .slice e6 (cutsOf a1 (a0.take k)).length e7)] ?_
   refine ofp_det (dc 155 (fun I' hI => (Seat_ct I' _ _ ((a1.tracks.getD (i) []).getD (j + 1) 0) (i0.mono hI) :))) ?_
   refine ox 2 [(157, .bool (cmp .lss ((seat (cutsOf a1 (a0.take k)) ((a1.tracks.getD (i) []).getD (j + 1) 0))) (0)))] ?_
   refine ofp_split 157 (fun h5 => ?_) (fun h5 => ?_)
   ·
    have g9 := h5
    have g9 := lss_t g9
    refine ofp_det (dnb 158 1 0 e3 [.slice a9 (((play a1 a0).1).cars).length b0, .slice b1 (((play a1 a0).1).room).length b2, .slice b3 (((play a1 a0).1).tracks).length b4]) ?_
    refine ox 1 [(159, .int .i64 ((a1.tracks.getD (i) []).getD (j + 1) 0))] ?_
    refine ofp_det (dc 160 (fun I' hI => (ahead_ct I' _ ((play a1 a0).1) ((a1.tracks.getD (i) []).getD (j + 1) 0) ((mkYard c8 c6 c9).mono hI) :))) ?_
    refine ox 1 [(161, .pointer (some ⟨d4, 2, none⟩))] ?_
    refine ofp_det (dlb 162 3 2 d4 (.slice a2 a4.length a3)) ?_
    refine ox 1 [(163, .int .i64 (↑i))] ?_
    refine ofp_det (di 164 1 (i) (fun _ => c1.addr (by omega)) (n := a4.length)) ?_
    have i8 := c3 (i) (by omega)
    obtain ⟨A9, B1, B0, B4, i7, B2, B3, i9⟩ := id i8
    rw [i7] at i8
    refine ofp_det (det_eq (dl 165 (rows_get c1 (i) (by omega))) i7) ?_
    refine ox 1 [(166, .int .i64 (↑j + 1))] ?_
    refine ofp_det (dsb 167 (↑j + 1) (1)) ?_
    refine ofp_det (diI 168 1 ((↑j + 1) - 1) i9.addr) ?_
    refine ofp_det (dl 169 (ints_get i9 (((↑j + 1) - 1 : Int).toNat) (by omega))) ?_
    refine ofp_end0 ?_
    have M8 : a0.take k = a0 := take_done (by omega)
    have M9 := kept_pair m2 C6 (i := i) (k := j + 1) (by omega) (by omega) (by omega) (by rw [← M8]; exact seat_lt g9)
    have M7 : ((↑j + 1 : Int) - 1).toNat = j + 1 - 1 := by omega
    refine sd (dcm 170 .neq ((aheadM ((play a1 a0).1).tracks ((a1.tracks.getD (i) []).getD (j + 1) 0))) ((a1.tracks.getD (i) []).getD (((↑j + 1) - 1 : Int).toNat) 0) false (by exact decide_eq_false (fun hh => hh (by rw [M7]; exact M9)))) ?_
    refine sp 1 [(171, .bool (false))] ?_
    refine se ?_
    refine rcf 171 rfl ?_
    refine rskip (pst_normal_block (pst_next (rr ?_)))
    refine sp 1 [(143, .int .i64 (↑j + 1))] ?_
    refine sd (da 144 (↑j + 1) (1)) ?_
    refine sp 1 [(15, .int .i64 ((↑j + 1) + 1))] ?_
    refine ee ?_
    refine pst_back ((a1.tracks.getD (i) []).length - (j+1)) (by omega) ?_
    intro a w hS hD hW
    exact ⟨j+1, by omega, hS.sub (.consE 15 rfl rfl (.cons 4 rfl (.cons 6 rfl (.cons 8 rfl (.cons 9 rfl (.cons 14 rfl (.nil _))))))), hD, hW, rfl⟩
   have g9 := h5
   have g9 := lss_f g9
   refine ox 12 [(169, undef), (160, undef)] ?_
   refine ofp_end0 ?_
   refine sp 2 [(171, .bool (false))] ?_
   refine se ?_
   refine rcf 171 rfl ?_
   refine rskip (pst_normal_block (pst_next (rr ?_)))
   refine sp 1 [(143, .int .i64 (↑j + 1))] ?_
   refine sd (da 144 (↑j + 1) (1)) ?_
   refine sp 1 [(15, .int .i64 ((↑j + 1) + 1))] ?_
   refine ee ?_
   refine pst_back ((a1.tracks.getD (i) []).length - (j+1)) (by omega) ?_
   intro a w hS hD hW
   exact ⟨j+1, by omega, hS.sub (.consE 15 rfl rfl (.cons 4 rfl (.cons 6 rfl (.cons 8 rfl (.cons 9 rfl (.cons 14 rfl (.nil _))))))), hD, hW, rfl⟩
  have z0 := h4
  have h4 := lss_f h4
  refine rexit 4 ?_
  refine (pst_exit_pass (pst_exit_pass (pst_exit_block ?_)))
  refine pst_normal_block (pst_next (rr ?_))
  refine sp 1 [(133, .int .i64 (↑i))] ?_
  refine sd (da 134 (↑i) (1)) ?_
  refine sp 1 [(14, .int .i64 (↑i + 1))] ?_
  refine ee ?_
  refine pst_back (a1.tracks.length - (i+1)) (by omega) ?_
  intro a w hS hD hW
  exact ⟨i+1, by omega, hS.sub (.consE 14 rfl rfl (.cons 4 rfl (.cons 6 rfl (.cons 8 rfl (.cons 9 rfl (.nil _)))))), hD, hW, rfl⟩
 have y9 := h3
 have h3 := lss_f h3
 refine rexit 2 ?_
 refine (pst_exit_pass (pst_exit_pass (pst_exit_block ?_)))
 refine pst_next (rq (rqr ?_))
 refine sp 1 [(17, .int .i64 (0))] ?_
 refine se (rb 6 ?_)
 refine rl (fun mz a w => ∃ m : Nat, (m ≤ a1.cars.length) ∧ Slots 196 [(17, .int .i64 ↑m), (4, .pointer (some ⟨d4, 0, none⟩)), (6, .pointer (some ⟨e3, 0, none⟩)), (8, .pointer (some ⟨e4, 0, none⟩))] a ∧ a.defers = [] ∧ St p9 ((e4, Obj.cells #[.slice d5 Z.cars.length d6, .slice d7 Z.room.length d8, .slice d1 Z.tracks.length d2] 26 (0, 0)) :: (e3, Obj.cells #[.slice a9 (((play a1 a0).1).cars).length b0, .slice b1 (((play a1 a0).1).room).length b2, .slice b3 (((play a1 a0).1).tracks).length b4] 26 (0, 0)) :: (u6, Obj.cells #[.int .u64 (d0)] 95 (0, 0)) :: (d4, Obj.cells #[.slice a5 a1.cars.length a6, .slice a7 a1.room.length a8, .slice a2 a4.length a3] 26 (0, 0)) :: F) w ∧ mz = a1.cars.length - m) ?_ ?_
 ·intro a w hS hD hW
  exact ⟨_, 0, Nat.zero_le _, hS.sub (.cons 17 rfl (.cons 4 rfl (.cons 6 rfl (.cons 8 rfl (.nil _))))), hD, hW, rfl⟩
 rintro mz a w ⟨m, hm, hS, hD, hW, rfl⟩
 refine run_at hS hD hW ?_
 clear hS hD hW a w
 refine rq (rqr ?_)
 refine sp 2 [(173, .pointer (some ⟨d4, 0, none⟩)), (172, .int .i64 (↑m))] ?_
 refine sd (dlb 174 3 0 d4 (.slice a5 a1.cars.length a6)) ?_
 refine sp 2 [(176, .bool (cmp .lss (↑m) (↑(a1.cars.length))))] ?_
 refine se ?_
 refine rc 176 rfl (fun h6 => ?_) (fun h6 => ?_)
 ·
  have z1 := h6
  have h6 := lss_t h6
  refine rskip (pst_next (rq (rb 7 (rq ?_))))
  refine rd0 10 ?_
  refine ox 1 [(179, .pointer (some ⟨e3, 0, none⟩))] ?_
  refine ofp_det (dlb 180 1 0 e3 (.slice a9 (((play a1 a0).1).cars).length b0)) ?_
  refine ox 1 [(181, .int .i64 (↑m))] ?_
  refine ofp_det (di 182 6 (m) e0.addr) ?_
  refine ofp_det (det_loadN (x := (.tmp 182)) (T := 56) (n := 6) (vs := [.int .i64 (((((play a1 a0).1).cars).getD (m) noCar).len), .int .i64 (((((play a1 a0).1).cars).getD (m) noCar).wt), .int .i64 (((((play a1 a0).1).cars).getD (m) noCar).brk), .int .i64 (((((play a1 a0).1).cars).getD (m) noCar).grp), .bool (((((play a1 a0).1).cars).getD (m) noCar).pipe), .bool (((((play a1 a0).1).cars).getD (m) noCar).heat)]) (d := 183) (ty := 56) (gd := none) (by kernel_rfl) rfl (by kernel_rfl) (by kernel_rfl) rfl rfl (cars_getN e0 (m) (by omega))) ?_
  refine ox 1 [(184, .pointer (some ⟨d4, 0, none⟩))] ?_
  refine ofp_det (dlb 185 3 0 d4 (.slice a5 a1.cars.length a6)) ?_
  refine ox 1 [(186, .int .i64 (↑m))] ?_
  refine ofp_det (di 187 6 (m) c2.addr) ?_
  refine ofp_det (det_loadN (x := (.tmp 187)) (T := 56) (n := 6) (vs := [.int .i64 ((a1.cars.getD (m) noCar).len), .int .i64 ((a1.cars.getD (m) noCar).wt), .int .i64 ((a1.cars.getD (m) noCar).brk), .int .i64 ((a1.cars.getD (m) noCar).grp), .bool ((a1.cars.getD (m) noCar).pipe), .bool ((a1.cars.getD (m) noCar).heat)]) (d := 188) (ty := 56) (gd := none) (by kernel_rfl) rfl (by kernel_rfl) (by kernel_rfl) rfl rfl (cars_getN c2 (m) (by omega))) ?_
  refine ofp_end0 ?_
  refine sd (det_neqAgg (L := [(0, .i .i64), (1, .i .i64), (2, .i .i64), (3, .i .i64), (4, .b), (5, .b)]) (x := (.tmp 183)) (y := (.tmp 188)) (T := 56) (T' := 56) (d := 189) (ty := 4) (gd := none) (by kernel_rfl) rfl (by kernel_rfl) rfl rfl rfl (eqCar ((((play a1 a0).1).cars).getD (m) noCar) (a1.cars.getD (m) noCar))) ?_
  refine se ?_
  refine rc 189 rfl (fun h7 => ?_) (fun h7 => ?_)
  ·
   have z2 := h7
   have h7 := not_t h7
   have h7 := dec_f h7
   exact absurd (by rw [C2]) h7
  have z2 := h7
  have h7 := not_f h7
  have h7 := dec_t h7
  refine rskip (pst_normal_block (pst_next (rr ?_)))
  refine sp 1 [(177, .int .i64 (↑m))] ?_
  refine sd (da 178 (↑m) (1)) ?_
  refine sp 1 [(17, .int .i64 (↑m + 1))] ?_
  refine ee ?_
  refine pst_back (a1.cars.length - (m+1)) (by omega) ?_
  intro a w hS hD hW
  exact ⟨m+1, by omega, hS.sub (.consE 17 rfl rfl (.cons 4 rfl (.cons 6 rfl (.cons 8 rfl (.nil _))))), hD, hW, rfl⟩
 have z1 := h6
 have h6 := lss_f h6
 refine rexit 6 ?_
 refine (pst_exit_pass (pst_exit_pass (pst_exit_block ?_)))
 refine pst_next (rq ?_)
 have O1 : Z = (play a1 a0).1 := by (have := C4; rw [playFrom_done (by omega)] at this; exact congrArg Prod.fst this)
 refine rr ?_
 refine sd (dnb 190 0 0 e4 [.slice d5 Z.cars.length d6, .slice d7 Z.room.length d8, .slice d1 Z.tracks.length d2]) ?_
 refine sd (dnb 191 1 0 e3 [.slice a9 (((play a1 a0).1).cars).length b0, .slice b1 (((play a1 a0).1).room).length b2, .slice b3 (((play a1 a0).1).tracks).length b4]) ?_
 refine sd (dc 192 (fun I' hI => (EqualYards_ct I' _ (Z) _ ((play a1 a0).1) ((mkYard f6 f7 f8).mono hI) ((mkYard c8 c6 c9).mono hI) :))) ?_
 refine seq_re 192 rfl (show (.bool (decide (Z = ((play a1 a0).1))) : Value) = .bool (true) from congrArg Value.bool (decide_eq_true (O1))) ?_
 refine sp 1 [(193, .bool (true))] ?_
 have l9 := shunting_ct p9 (by first | exact hG | exact hG.mono hI)
 refine sS (sc (some 194) (l9 :) (.refl _) (fun G0 K8 E9 m1 o2 => ?_))
 obtain ⟨k4, k3⟩ := o2
 rw [k4, k3]; clear k4 k3
 refine nm ?_
 refine sp 2 [(2, .bool (true))] ?_
 refine se (rret ?_)
 refine pst_ret1 (t := 2) [] (by kernel_rfl) rfl (TC _ (TC _ (TC _ (TC _ (TR _))))) (Imm.le.trans (Imm.le.trans (Imm.le.trans (Imm.le.trans (Imm.le.trans (Imm.le.trans (Imm.le.trans (Imm.le.trans (Imm.le.trans (Imm.le.trans n6 k2) i1) g2) f9) f1) f2) e5) hJ0) e2) m1) ?_
 exact ⟨rfl, rfl⟩

end Go.Proofs.YtcaocbhbofejnaaGreatDoor
namespace Go.Proofs.YtcaocbhbofejnaaGreatDoor
open Go Go.ChangeShapes Go.WideShapes Go.RowKit Go.Sl
set_option maxRecDepth 100000

theorem law_lifted (os : Os) (started : os.Started) (H : Type) (enc : TypeId × Value → H) :
    ReturnsInHanded {} Tryz.checked os 4 .any (fun w args => (Rows.shuntKeptSpec.pre enc Tryz.prog Tryz.f4 [] false w args ∧ laidMetH Tryz.prog [("errors.errorType", Rows.laid_errors_errorType)] w) ∧ sizedMet enc Tryz.prog Tryz.f4 (OpenSpec.ofChange Rows.shuntKeptSpec) false w args)
      (Rows.shuntKeptSpec.post enc Tryz.prog Tryz.f4 false true false false) := by
  refine returnsInHanded_of_change_and (C := Tryz.checked) (X := fun w _ => laidMetH Tryz.prog [("errors.errorType", Rows.laid_errors_errorType)] w) (fun _ _ _ hh h => h.of_heap hh) Row.own started (by kernel_rfl) Tryz.func4
    (ChangeSpec.witness_at (enc := enc) (C := Tryz.checked) (os := os) (X := fun w _ => laidMetH Tryz.prog [("errors.errorType", Rows.laid_errors_errorType)] w) false (laidWorld os) #[.slice none 0 0] 8 rfl (by kernel_rfl) (by kernel_rfl) (by kernel_rfl) (by kernel_rfl) (by kernel_rfl) (laidWorld_met os _)) ?_
  intro W base args ds gs before hval0 hW _ hsz0 hL _
  have hsz : (DataW.weightsEach Tryz.prog (Tryz.f4.params.toList ++ Rows.shuntKeptSpec.plain.varTypes Tryz.prog) (ds ++ gs)).all (· ≤ reachBytes) = true := hsz0
  have hval : ∀ (j : Nat) t v, Tryz.f4.params[j]? = some t → args[j]? = some v → Value.okWide Tryz.prog W .any base t v := hval0
  clear hsz0 hval0
  have hW' := hW
  obtain ⟨p, q, hA0, hV, rfl, hfz, hnd⟩ := hW
  have hA : DataW.TrodAll enc Tryz.prog W 0 (fun _ => true) true Tryz.f4.params.toList args.toList ds p := hA0
  rw [Tryz.params4] at hA hval
  obtain ⟨v0, d0, rfl, rfl, h0⟩ := trodAll_one hA
  obtain ⟨a0, len, cap, rfl⟩ := okWide_slice Tryz.underlying23 (hval 0 23 v0 rfl rfl)
  obtain ⟨rfl, rfl⟩ := trodVars_none hV
  have hg := handle_of_laid hL
  have h0k := h0
  obtain ⟨fu0, hf0⟩ := h0
  have hlt : ∀ x ∈ p, x.block < W.heap.size := fun x hx => by simpa using hW'.lt x (List.mem_append_left _ hx)
  obtain ⟨nums, hin⟩ : ∃ nums : List Int, IsInts (immOf W) (.slice a0 len cap) nums := by
    rcases open_ints Tryz.underlying23 Tryz.underlying3 Row.cells hf0 with ⟨hcs, hx⟩ | ⟨a, len', cap', zs, hcs, _, hl, hm, hz, hx, hcell, hwz⟩
    · simp [Value.cells] at hcs
      obtain ⟨rfl, rfl, rfl⟩ := hcs
      exact ⟨[], IsSl.nil _⟩
    · simp [Value.cells] at hcs
      obtain ⟨rfl, rfl, rfl⟩ := hcs
      simp only [Prod.mk.injEq] at hx
      obtain ⟨rfl, rfl⟩ := hx
      simp only [if_true] at hz
      have hreach : len * 8 ≤ 140737488351232 := by
        have := sized_slice hsz (j := 0) (t := 23) (e := 3) rfl rfl Tryz.underlying23
        rw [Row.bytes] at this
        simp only [lits, List.length_map, List.length_take, List.length_drop, reachBytes] at this
        omega
      refine ⟨zs.take len, isInts_of hl hm (by simp; omega) (by omega) fun i hi => ?_⟩
      have hi2 : i < len := by simp at hi; omega
      rw [hcell i (by omega)]
      congr 2
      simp [List.getD, List.getElem?_take, hi2]
  refine (ShuntKept_ct (immOf W) _ nums hin hg [] W (by simpa using st_immOf W)).mono fun e W' ⟨v, I', M', he, hle, ⟨hv, hM⟩, st'⟩ => ?_
  subst he
  subst hv
  obtain ⟨hsame, hos, hout⟩ := same_of_le hle st'
  have hk : ∀ may : MemPlace → Prop, W.keptBut W' may := fun may => keptBut_same hsame hos hout
  refine ⟨_, rfl, ?_⟩
  refine ⟨_, _, _, [], p, [], hW', ?_, ?_, ?_, hk _, fun h => by cases h⟩
  · exact trodAll_mk1 (shut_bool Tryz.underlying4 true)
  · refine trodAll_mk1 (WideElems.Trod_stays Row.laidOut (by kernel_rfl) (of_decide_eq_true (by kernel_rfl)) h0k (fun x hx => ?_) (fun x hx => by simpa using hlt x hx))
    exact sameAt_heap (hsame _ (hlt x hx))
  · rfl


theorem Row.f2 : (Rows.shuntKeptRow.inPlace == Tryz.pinned.checked.prog.inPlace 4) = true := by kernel_rfl
theorem Row.f3 : (Rows.shuntKeptRow.unfollowed == Tryz.pinned.checked.prog.unfollowed 4) = true := by kernel_rfl
theorem Row.f4 : (Rows.shuntKeptRow.recurses == Tryz.pinned.checked.prog.recurses 4) = true := by kernel_rfl
theorem Row.f5 : (Rows.shuntKeptRow.named == Tryz.pinned.checked.prog.varsNamed 4) = true := by kernel_rfl
theorem Row.goes : false = Rows.shuntKeptRow.goesBy Tryz.pinned.checked.prog := by kernel_rfl
theorem Row.joined : joinedFacts Tryz.pinned.checked.prog 4 Tryz.f4 Rows.shuntKeptSpec Rows.shuntKeptRow = true :=
  joined_of (by kernel_rfl) Row.laidOut Row.f2 Row.f3 Row.f4 Row.f5 (by kernel_rfl) (by kernel_rfl) Row.lifts Row.make (by kernel_rfl)

theorem f_holds : Rows.ShuntKeptSaid :=
  OpenClaim.holds_of_wide 4 Tryz.f4 rfl rfl rfl rfl rfl rfl rfl ⟨rfl, rfl, rfl, rfl, rfl⟩ rfl rfl rfl rfl rfl (by kernel_rfl) Tryz.func4 Row.joined
    (of_decide_eq_true (by kernel_rfl)) (by unfold Func.isWrapper; rw [if_neg (of_decide_eq_false (by kernel_rfl))]; exact ⟨rfl, rfl⟩)
    (fun os started H enc _ => law_lifted os started H enc)

theorem card_holds : Rows.ShuntKeptCardSaid :=
  Claim7.holds_tied_plain_at .later [] [.handle] true (true, "15b79f9888323760d9f05ab32c03ca1db0faea4ca720a3d6f842981fea83c54b") true
    f_holds (fun _ h => by cases h) (by kernel_rfl) (fun _ h => by cases h) shuntKept_row_tie rfl ⟨rfl, rfl⟩ (by kernel_rfl) rfl
    (fun f fn hf hfn => by
      obtain rfl : f = 4 := Option.some.inj (hf.symm.trans (by kernel_rfl))
      obtain rfl : fn = Tryz.f4 := (Option.some.inj (Tryz.func4.symm.trans hfn)).symm
      exact ⟨Row.looks, fun j t ht => by
        rw [Tryz.params4] at ht
        have h3 : t = 23 := by
          rcases j with _ | j
          · simpa using ht.symm
          · simp at ht
        subst h3
        exact (show Tryz.prog.wantsStandIn 23 = false by kernel_rfl)⟩)
    Row.goes
#print axioms card_holds
end Go.Proofs.YtcaocbhbofejnaaGreatDoor

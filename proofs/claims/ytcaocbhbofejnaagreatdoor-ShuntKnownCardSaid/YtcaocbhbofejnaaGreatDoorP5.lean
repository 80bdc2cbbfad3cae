/- A part of the proof of the laws of this seat. -/
import Derived.Test.YtcaocbhbofejnaaGreatDoorP4
import Derived.Test.YtcaocbhbofejnaaGreatDoorP1
import Derived.Test.YtcaocbhbofejnaaGreatDoorP2
import Derived.Test.YtcaocbhbofejnaaGreatDoorP0
import Derived.Test.YtcaocbhbofejnaaGreatDoorTie
import Derived.Test.YtcaocbhbofejnaaGreatDoorCards
import Derived.Test.YtcaocbhbofejnaaGreatDoorProg
import Derived.ChangeVars
import Derived.JoinedOf
import Derived.RowKit
import Derived.RowKitTokens
import Derived.LaidLaws
import Derived.LaidHandle
import Derived.Stop.Joined
import Derived.SevenTiedAt
import Derived.WideKeyArgs
import Derived.ProofKit
import Derived.SizedLaws
set_option linter.unusedVariables false
set_option linter.unusedSimpArgs false
namespace Go.Sh
open Go Go.Sl
def gAt (cs : List Car) (i : Nat) : Int := (cs.getD i AB).grp
structure CarsInv (cs : List Car) (g l : Int) : Prop where
  ok : ∀ c ∈ cs, DP c = 0 ∧ c.len ≤ 3
  le : ∀ i, i < cs.length → gAt cs i ≤ g
  run : ∀ i j, i ≤ j → j < cs.length → gAt cs i = gAt cs j → gAt cs i ≠ 0 → ∀ m, i ≤ m → m ≤ j → gAt cs m = gAt cs i
  g0 : 0 ≤ g ∧ g ≤ 3
  l0 : 0 ≤ l ∧ l ≤ 2
  last : 0 < l → 1 ≤ g ∧ (0 < cs.length → gAt cs (cs.length - 1) = g ∨ ∀ i, i < cs.length → gAt cs i < g)
theorem CarsInv.nil : CarsInv [] 0 0 := ⟨fun c h => by simp at h, fun i h => by simp at h, fun i j _ h => by simp at h, by omega, by omega, fun h => by omega⟩
theorem JL {cs : List Car} {c : Car} {i : Nat} : gAt (cs ++ [c]) i = if i < cs.length then gAt cs i else if i = cs.length then c.grp else 0 := by
  unfold gAt;simp only [List.getD]
  split
  · rename_i h; rw [List.getElem?_append_left h]
  · rename_i h
    rw [List.getElem?_append_right (by omega)]
    split
    · rename_i h2; simp [h2]
    · rename_i h2
      have : 1 ≤ i - cs.length := by omega
      cases hh : i - cs.length with
      | zero => omega
      | succ n => simp [AB]
theorem CarsInv.snoc {cs : List Car} {g l : Int} (h : CarsInv cs g l) {c : Car} (hc : DP c = 0 ∧ c.len ≤ 3) (hg : (0 < l → c.grp = g) ∧ (¬ 0 < l → c.grp = 0)) : CarsInv (cs ++ [c]) g (if 0 < l then l - 1 else l) := by
  have hg0 := h.g0; have hl0 := h.l0;have hle : c.grp ≤ g := by by_cases hl : 0 < l; exact Int.le_of_eq (hg.1 hl); rw [hg.2 hl]; omega
  refine ⟨fun x hx => ?_, fun i hi => ?_, ?_, hg0, by split <;> omega, fun hl => ?_⟩
  · rcases List.mem_append.1 hx with hx | hx
    · exact h.ok x hx
    · simp at hx; subst hx; exact hc
  · rw [JL]
    split
    · rename_i h1; exact h.le i h1
    · split
      · exact hle
      · omega
  · intro i j hij hj e h0 m him hmj
    simp only [List.length_append, List.length_cons, List.length_nil] at hj;have A : ∀ x, x < cs.length → gAt (cs ++ [c]) x = gAt cs x := fun x hx => by rw [JL, if_pos hx]
    have B : gAt (cs ++ [c]) cs.length = c.grp := by rw [JL, if_neg (by omega), if_pos rfl]
    by_cases hj1 : j < cs.length
    · rw [A i (by omega)] at e h0 ⊢
      rw [A j hj1] at e;rw [A m (by omega)];exact h.run i j hij hj1 e h0 m him hmj
    · have hj2 : j = cs.length := by omega
      subst hj2;rw [B] at e
      by_cases hi1 : i < cs.length
      · rw [A i hi1] at e h0 ⊢
        by_cases hm1 : m < cs.length
        · rw [A m hm1]
          by_cases hl : 0 < l
          · have hcg := hg.1 hl
            rcases (h.last hl).2 (by omega) with hla | hla
            · exact h.run i (cs.length - 1) (by omega) (by omega) (by rw [hla]; omega) h0 m him (by omega)
            · have := hla i hi1; omega
          · have := hg.2 hl; omega
        · have hm2 : m = cs.length := by omega
          subst hm2;rw [B]; exact e.symm
      · have hi2 : i = cs.length := by omega
        have hm2 : m = i := by omega
        rw [hm2]
  · have hl1 : 0 < l := by
      by_cases h1 : 0 < l
      · exact h1
      · rw [if_neg h1] at hl; exact hl
    have := h.last hl1;refine ⟨this.1, fun _ => .inl ?_⟩;have e : (cs ++ [c]).length - 1 = cs.length := by simp
    rw [e, JL, if_neg (by omega), if_pos rfl];exact hg.1 hl1
structure Placed (cs : List Car) (T k a : Nat) (ts : List (List Int)) : Prop where
  len : ts.length = T
  a0 : a < T
  perm : ts.flatten.Perm (HL k)
  ex : ∃ tr : Nat → Nat, (∀ i, i < T → ts.getD i [] = (HL k).filter fun c => decide (tr c.toNat = i)) ∧ (∀ c, c < k → tr c < T) ∧ (∀ c, c + 1 < k → gAt cs (c + 1) ≠ 0 → gAt cs (c + 1) = gAt cs c → tr (c + 1) = tr c) ∧ (0 < k → tr (k - 1) = a)
theorem mem_wholeL {n : Nat} {c : Int} : c ∈ HL n ↔ 0 ≤ c ∧ c < n := by
  unfold HL;simp only [List.mem_map, List.mem_range]
  constructor
  · rintro ⟨i, hi, rfl⟩; omega
  · intro h; exact ⟨c.toNat, by omega, by omega⟩
theorem Placed.start {cs : List Car} {T : Nat} (hT : 0 < T) : Placed cs T 0 0 (List.replicate T []) := by
  refine ⟨by simp, hT, by simp [HL], fun _ => 0, fun i hi => ?_, fun c h => by omega, fun c h => by omega, fun h => by omega⟩;simp [HL, List.getD, hi]
theorem MV : ∀ (ts : List (List Int)) (a : Nat) (x : Int), a < ts.length → (ts.set a (ts.getD a [] ++ [x])).flatten.Perm (ts.flatten ++ [x]) := by
  intro ts
  induction ts with
  | nil => intro a x h; simp at h
  | cons t r ih =>
    intro a x h;cases a with
    | zero =>
      simp only [List.set_cons_zero, List.getD_cons_zero, List.flatten_cons, List.append_assoc];exact List.Perm.append_left t List.perm_append_comm
    | succ a =>
      simp only [List.set_cons_succ, List.getD_cons_succ, List.flatten_cons, List.append_assoc];exact List.Perm.append_left t (ih a x (by simpa using h))
theorem Placed.put {cs : List Car} {T k a a2 : Nat} {ts : List (List Int)} (h : Placed cs T k a ts) (h2 : a2 < T) (hs : k ≠ 0 → gAt cs k ≠ 0 → gAt cs k = gAt cs (k - 1) → a2 = a) :
    Placed cs T (k + 1) a2 (ts.set a2 (ts.getD a2 [] ++ [(k : Int)])) := by
  obtain ⟨tr, t1, t2, t3, t4⟩ := h.ex;have hl := h.len;refine ⟨by rw [List.length_set]; exact hl, h2, ?_, fun c => if c = k then a2 else tr c, fun i hi => ?_, fun c hc => ?_, fun c hc h0 he => ?_, fun _ => ?_⟩
  · rw [wholeL_succ]
    exact (MV ts a2 k (by omega)).trans (List.Perm.append_right _ h.perm)
  · have hf : (HL k).filter (fun c => decide ((if c.toNat = k then a2 else tr c.toNat) = i)) = ts.getD i [] := by
      rw [t1 i hi];refine List.filter_congr fun c hc => ?_
      have := mem_wholeL.1 hc;rw [if_neg (by omega)]
    rw [wholeL_succ, List.filter_append, hf]
    by_cases e : a2 = i
    · subst e
      simp [List.getD, List.getElem?_set, hl, hi]
    · simp [List.getD, List.getElem?_set, e]
  · show (if c = k then a2 else tr c) < T
    split
    · exact h2
    · exact t2 c (by omega)
  · show (if c + 1 = k then a2 else tr (c + 1)) = (if c = k then a2 else tr c)
    by_cases e1 : c + 1 = k
    · have e3 : ¬ c = k := by omega
      rw [if_pos e1, if_neg e3];have := hs (by omega) (by rw [← e1]; exact h0) (by rw [← e1]; exact he);rw [this, ← t4 (by omega), ← e1]; rfl
    · have e3 : ¬ c = k := by omega
      rw [if_neg e1, if_neg e3];exact t3 c (by omega) h0 he
  · simp
theorem sorted_prev {l : List Int} (hs : l.Pairwise (· < ·)) {j : Nat} (hj : j < l.length) (hm : l.getD j 0 - 1 ∈ l) : 0 < j ∧ l.getD (j - 1) 0 = l.getD j 0 - 1 := by
  obtain ⟨m, hm1, hm2⟩ := List.mem_iff_getElem.1 hm;have hlt : ∀ (x y : Nat) (hx : x < l.length) (hy : y < l.length), x < y → l.getD x 0 < l.getD y 0 := fun x y hx hy h => by
    have := List.pairwise_iff_getElem.1 hs x y hx hy h
    simpa [List.getD, hx, hy] using this
  have e : l.getD m 0 = l.getD j 0 - 1 := by simpa [List.getD, hm1] using hm2
  have h1 : m < j := by
    rcases Nat.lt_trichotomy m j with h | h | h
    · exact h
    · subst h; omega
    · have := hlt j m hj hm1 h; omega
  rcases Nat.lt_or_ge m (j - 1) with h2 | h2
  · have a := hlt m (j - 1) hm1 (by omega) h2
    have b := hlt (j - 1) j (by omega) hj (by omega);omega
  · have : m = j - 1 := by omega
    subst this;exact ⟨by omega, e⟩
theorem wholeL_sorted (n : Nat) : (HL n).Pairwise (· < ·) := by
  unfold HL;rw [List.pairwise_map];exact List.pairwise_lt_range.imp fun h => by omega
theorem Placed.groups {cs : List Car} {T a : Nat} {ts : List (List Int)} {g l : Int} (h : Placed cs T cs.length a ts) (hc : CarsInv cs g l) : GrpFrom cs ts [] := by
  obtain ⟨tr, t1, t2, t3, t4⟩ := h.ex;have hmem : ∀ i, i < T → ∀ c, c ∈ ts.getD i [] ↔ (0 ≤ c ∧ c < cs.length) ∧ tr c.toNat = i := fun i hi c => by
    rw [t1 i hi, List.mem_filter, mem_wholeL, decide_eq_true_eq]
  have hgrp : ∀ c : Int, grp cs c = gAt cs c.toNat := fun c => rfl
  have hrun : ∀ n x : Nat, x + n < cs.length → gAt cs x ≠ 0 → gAt cs x = gAt cs (x + n) → tr (x + n) = tr x := by
    intro n
    induction n with
    | zero => intro x _ _ _; rfl
    | succ n ih =>
      intro x hx h0 e;have e1 : gAt cs (x + n) = gAt cs x := hc.run x (x + (n + 1)) (by omega) hx e h0 (x + n) (by omega) (by omega);have := ih x (by omega) h0 e1.symm;rw [← this];exact t3 (x + n) (by omega) (by rw [show x + n + 1 = x + (n + 1) by omega, ← e]; exact h0) (by rw [show x + n + 1 = x + (n + 1) by omega, ← e, e1])
  have hrun2 : ∀ x y : Nat, x < cs.length → y < cs.length → gAt cs x ≠ 0 → gAt cs x = gAt cs y → tr x = tr y := fun x y hx hy h0 e => by
    rcases Nat.le_total x y with hxy | hxy
    · have := hrun (y - x) x (by omega) h0 (by rw [show x + (y - x) = y by omega]; exact e)
      rw [show x + (y - x) = y by omega] at this;exact this.symm
    · have := hrun (x - y) y (by omega) (by rw [← e]; exact h0) (by rw [show y + (x - y) = x by omega]; exact e.symm)
      rw [show y + (x - y) = x by omega] at this;exact this
  intro i j hi hj h0 hm;rw [h.len] at hi;have hcm : (ts.getD i []).getD j 0 ∈ ts.getD i [] := AK hj;obtain ⟨⟨c0, c1⟩, c2⟩ := (hmem i hi _).1 hcm
  generalize hcc : (ts.getD i []).getD j 0 = c at hcm c0 c1 c2 h0 hm
  rcases hm with hm | ⟨c', hc', e⟩
  · simp at hm
  · rw [hgrp, hgrp] at e
    rw [hgrp] at h0;have hs : (ts.getD i []).Pairwise (· < ·) := by rw [t1 i hi]; exact (wholeL_sorted _).sublist List.filter_sublist
    have hc2 : (0 ≤ c' ∧ c' < cs.length) ∧ (tr c'.toNat < i ∨ c' ∈ (ts.getD i []).take j) := by
      rcases List.mem_append.1 hc' with hx | hx
      · obtain ⟨t, ht, hx⟩ := List.mem_flatten.1 hx
        obtain ⟨m, hm1, hm2⟩ := List.mem_iff_getElem.1 ht;have hm3 : m < i ∧ m < ts.length := by rw [List.length_take] at hm1; omega
        have e3 : ts.getD m [] = t := by rw [← hm2]; simp [List.getD, hm3.2]
        rw [← e3] at hx;obtain ⟨hb, ht2⟩ := (hmem m (by rw [← h.len]; exact hm3.2) _).1 hx;exact ⟨hb, .inl (by omega)⟩
      · exact ⟨((hmem i hi _).1 (List.mem_of_mem_take hx)).1, .inr hx⟩
    obtain ⟨⟨d0, d1⟩, hd⟩ := hc2;have htr := hrun2 c.toNat c'.toNat (by omega) (by omega) (by omega) e.symm;rcases hd with hd | hd
    · omega
    · obtain ⟨m, hm1, hm2⟩ := List.mem_iff_getElem.1 hd
      have hm3 : m < j ∧ m < (ts.getD i []).length := by rw [List.length_take] at hm1; omega
      have hlt : c' < c := by
        have h1 := List.pairwise_iff_getElem.1 hs m j hm3.2 hj hm3.1;have e1 : c' = (ts.getD i [])[m] := by rw [← hm2]; simp
        have e2 : c = (ts.getD i [])[j] := by rw [← hcc, List.getD, List.getElem?_eq_getElem hj]; rfl
        rw [e1, e2]; exact h1
      have e4 : gAt cs (c.toNat - 1) = gAt cs c'.toNat := hc.run c'.toNat c.toNat (by omega) (by omega) e (by omega) (c.toNat - 1) (by omega) (by omega);have e5 : tr (c.toNat - 1) = i := by
        have := hrun2 (c.toNat - 1) c.toNat (by omega) (by omega) (by omega) (by omega);omega
      have hin : c - 1 ∈ ts.getD i [] := (hmem i hi _).2 ⟨by omega, by rw [show (c - 1).toNat = c.toNat - 1 by omega]; exact e5⟩;have hp := sorted_prev hs hj (by rw [hcc]; exact hin);rw [hcc] at hp;unfold BL;have e6 : ((j : Int) - 1).toNat = j - 1 := by omega
      rw [show (↑j : Int).toNat = j by omega, e6, hp.2, hcc];have e7 : inB ↑j 1 (↑(ts.getD i []).length - 1) = true := by simp only [inB, Bool.and_eq_true, decide_eq_true_eq]; omega
      rw [e7];have e8 : (DR cs c).grp = (DR cs (c - 1)).grp := by
        show gAt cs c.toNat = gAt cs (c - 1).toNat;rw [show (c - 1).toNat = c.toNat - 1 by omega]; omega
      rw [decide_eq_true (show 0 < (DR cs c).grp from h0), decide_eq_true e8]; rfl
structure Roomy (cs : List Car) (ts : List (List Int)) (k : Nat) (rm : List Int) : Prop where
  len : rm.length = k
  ok : ∀ n ∈ rm, 0 ≤ n ∧ n ≤ 20
  fits : ∀ i, i < k → lenOf cs (ts.getD i []) ≤ rm.getD i 0
theorem Roomy.nil (cs : List Car) (ts : List (List Int)) : Roomy cs ts 0 [] := ⟨rfl, fun n h => by simp at h, fun i h => by omega⟩
theorem Roomy.snoc {cs : List Car} {ts : List (List Int)} {k : Nat} {rm : List Int} (h : Roomy cs ts k rm) {n : Int} (hn : 0 ≤ n ∧ n ≤ 20) (hf : lenOf cs (ts.getD k []) ≤ n) : Roomy cs ts (k + 1) (rm ++ [n]) := by
  have hl := h.len;refine ⟨by simp [hl], fun x hx => ?_, fun i hi => ?_⟩
  · rcases List.mem_append.1 hx with hx | hx
    · exact h.ok x hx
    · simp at hx; subst hx; exact hn
  · by_cases e : i < k
    · have := h.fits i e
      have e2 : (rm ++ [n]).getD i 0 = rm.getD i 0 := by simp only [List.getD]; rw [List.getElem?_append_left (by omega)]
      rw [e2]; exact this
    · have : i = k := by omega
      subst this;have e2 : (rm ++ [n]).getD i 0 = n := by simp only [List.getD]; rw [List.getElem?_append_right (by omega), hl]; simp
      rw [e2]; exact hf
theorem Placed.tracks {cs : List Car} {T k a : Nat} {ts : List (List Int)} (h : Placed cs T k a ts) : ts.flatten.length = k := by rw [h.perm.length_eq, wholeL_length]
theorem Placed.tl {cs : List Car} {T k a : Nat} {ts : List (List Int)} (h : Placed cs T k a ts) : ∀ t ∈ ts, t.length ≤ k := fun t ht => by
  have := EA ht;rw [h.tracks] at this; exact this
theorem Placed.okAll {cs : List Car} {T a : Nat} {ts : List (List Int)} (h : Placed cs T cs.length a ts) : OkAll cs ts := fun t ht c hc =>
  mem_wholeL.1 (h.perm.mem_iff.1 (List.mem_flatten.2 ⟨t, ht, hc⟩))
end Go.Sh
namespace Go.Proofs.YtcaocbhbofejnaaGreatDoor
open Go Go.Sl Go.Sh
set_option maxRecDepth 100000
end Go.Proofs.YtcaocbhbofejnaaGreatDoor
namespace Go.Sh
open Go Go.Sl
theorem perm_sum {l m : List Int} (h : l.Perm m) : l.sum = m.sum := by
  induction h with
  | nil => rfl
  | cons x _ ih => simp [ih]
  | swap x y l => simp only [List.sum_cons]; omega
  | trans _ _ h1 h2 => exact h1.trans h2
theorem erase_perm {α : Type} {d : α} {l : List α} {i : Nat} (h : i < l.length) : (l.getD i d :: l.eraseIdx i).Perm l := by
  have e : l = l.take i ++ l.getD i d :: l.drop (i + 1) := by rw [← BE h, List.take_append_drop]
  rw [← erase_take];exact (List.perm_middle.symm).trans (List.Perm.of_eq e.symm)
structure Blk (cs : List Car) (bl : List (List Int)) : Prop where
  one : ∀ b ∈ bl, ∀ x ∈ b, ∀ y ∈ b, grp cs x = grp cs y
  apart : bl.Pairwise fun b c => ∀ x ∈ b, ∀ y ∈ c, 0 < grp cs x → grp cs x ≠ grp cs y
theorem Blk.perm {cs : List Car} {bl bl' : List (List Int)} (h : Blk cs bl) (p : bl.Perm bl') : Blk cs bl' :=
  ⟨fun b hb => h.one b (p.mem_iff.2 hb), (p.pairwise_iff (fun {b c} hbc x hx y hy h0 e => hbc y hy x hx (by omega) e.symm)).1 h.apart⟩
def RowOk (cs : List Car) (t : List Int) : Prop := ∀ k, k < t.length → 0 < grp cs (t.getD k 0) → (∃ c ∈ t.take k, grp cs c = grp cs (t.getD k 0)) → 0 < k ∧ grp cs (t.getD (k - 1) 0) = grp cs (t.getD k 0)
theorem NG {a b : List Int} {k : Nat} : (a ++ b).getD k 0 = if k < a.length then a.getD k 0 else b.getD (k - a.length) 0 := by
  simp only [List.getD]
  split
  · rename_i h; rw [List.getElem?_append_left h]
  · rename_i h; rw [List.getElem?_append_right (by omega)]
theorem Blk.row {cs : List Car} : ∀ {bl : List (List Int)}, Blk cs bl → RowOk cs bl.flatten := by
  intro bl
  induction bl with
  | nil => intro _ k hk; simp at hk
  | cons b r ih =>
    intro h k hk h0 hc;have ih := ih ⟨fun b hb => h.one b (List.mem_cons_of_mem _ hb), (List.pairwise_cons.1 h.apart).2⟩;rw [List.flatten_cons] at hk h0 hc ⊢;obtain ⟨c, hc, e⟩ := hc
    by_cases hkb : k < b.length
    · have e0 : (b ++ r.flatten).getD k 0 = b.getD k 0 := by rw [NG, if_pos hkb]
      rw [List.take_append_of_le_length (by omega)] at hc;have hk0 : 0 < k := by
        rcases Nat.eq_zero_or_pos k with hz | hz
        · subst hz; simp at hc
        · exact hz
      refine ⟨hk0, ?_⟩;rw [e0, NG, if_pos (by omega)];exact h.one b List.mem_cons_self _ (AK (by omega)) _ (AK hkb)
    · have e0 : (b ++ r.flatten).getD k 0 = r.flatten.getD (k - b.length) 0 := by rw [NG, if_neg hkb]
      rw [e0] at h0 e ⊢;have hk2 : k - b.length < r.flatten.length := by rw [List.length_append] at hk; omega
      have hmem : r.flatten.getD (k - b.length) 0 ∈ r.flatten := AK hk2;rw [List.take_append, List.take_of_length_le (by omega)] at hc;rcases List.mem_append.1 hc with hc | hc
      · exfalso
        obtain ⟨b2, hb2, hm2⟩ := List.mem_flatten.1 hmem;exact (List.pairwise_cons.1 h.apart).1 b2 hb2 c hc _ hm2 (by omega) e
      · obtain ⟨i1, i2⟩ := ih (k - b.length) hk2 h0 ⟨c, hc, e⟩
        refine ⟨by omega, ?_⟩;rw [NG, if_neg (by omega), show k - 1 - b.length = k - b.length - 1 by omega];exact i2
theorem LM {cs : List Car} {t : List Int} {k : Nat} (hk : k < t.length) (h0 : 0 < grp cs (t.getD k 0)) (h1 : 0 < k) (e : grp cs (t.getD (k - 1) 0) = grp cs (t.getD k 0)) : BL cs t ↑k = true := by
  rw [coupled_raw hk, show ((k : Int) - 1).toNat = k - 1 by omega, decide_eq_true (show 0 < (k : Int) by omega), decide_eq_true (show 0 < (DR cs (t.getD k 0)).grp from h0), decide_eq_true (show (DR cs (t.getD k 0)).grp = (DR cs (t.getD (k - 1) 0)).grp from e.symm)];rfl
theorem coupled_to {cs : List Car} {t : List Int} {k : Nat} (hk : k < t.length) (h : BL cs t ↑k = true) : 0 < k ∧ 0 < grp cs (t.getD k 0) ∧ grp cs (t.getD k 0) = grp cs (t.getD (k - 1) 0) := by
  rw [coupled_raw hk, show ((k : Int) - 1).toNat = k - 1 by omega] at h;simp only [Bool.and_eq_true, decide_eq_true_eq] at h;exact ⟨by omega, h.2.1, h.2.2⟩
theorem blocks_blk {cs : List Car} {t : List Int} (h : ∀ k, k < t.length → 0 < grp cs (t.getD k 0) → (∃ c ∈ t.take k, grp cs c = grp cs (t.getD k 0)) → BL cs t ↑k = true) :
    ∀ k, k ≤ t.length → Blk cs (AU cs t k) ∧ (0 < k → ∃ ys y, AU cs t k = ys ++ [y] ∧ t.getD (k - 1) 0 ∈ y) := by
  intro k
  induction k with
  | zero => intro _; exact ⟨⟨fun b hb => by simp [AU] at hb, by simp [AU]⟩, fun h => by omega⟩
  | succ k ih =>
    intro hk;obtain ⟨hb, hl⟩ := ih (by omega)
    by_cases hc : BL cs t ↑k = true
    · obtain ⟨c1, c2, c3⟩ := coupled_to (by omega) hc
      obtain ⟨ys, y, e, hy⟩ := hl c1;have e2 : AU cs t (k + 1) = ys ++ [y ++ [t.getD k 0]] := by
        rw [MF hc, e];simp [List.getD]
      rw [e2];rw [e] at hb;have ho := hb.one;have ha := List.pairwise_append.1 hb.apart;refine ⟨⟨fun b hb2 => ?_, List.pairwise_append.2 ⟨ha.1, by simp, fun b hb2 c hc2 => ?_⟩⟩, fun _ => ⟨ys, _, rfl, by simp⟩⟩
      · rcases List.mem_append.1 hb2 with hb2 | hb2
        · exact ho b (List.mem_append_left _ hb2)
        · have hb2 := List.mem_singleton.1 hb2
          subst hb2;have key : ∀ x ∈ y ++ [t.getD k 0], grp cs x = grp cs (t.getD (k - 1) 0) := fun x hx => by
            rcases List.mem_append.1 hx with hx | hx
            · exact ho y (by simp) x hx _ hy
            · have hx := List.mem_singleton.1 hx; subst hx; exact c3
          intro x hx z hz;rw [key x hx, key z hz]
      · have hc2 := List.mem_singleton.1 hc2
        subst hc2;intro x hx z hz h0;rcases List.mem_append.1 hz with hz | hz
        · exact ha.2.2 b hb2 y (by simp) x hx z hz h0
        · have hz := List.mem_singleton.1 hz; subst hz
          rw [c3];exact ha.2.2 b hb2 y (by simp) x hx _ hy h0
    · have hc' : BL cs t ↑k = false := by simpa using hc
      rw [blocksTo_no hc'];refine ⟨⟨fun b hb2 => ?_, List.pairwise_append.2 ⟨hb.apart, by simp, fun b hb2 c hc2 => ?_⟩⟩, fun _ => ⟨_, _, rfl, by simp⟩⟩
      · rcases List.mem_append.1 hb2 with hb2 | hb2
        · exact hb.one b hb2
        · have hb2 := List.mem_singleton.1 hb2
          subst hb2;intro x hx z hz;rw [List.mem_singleton.1 hx, List.mem_singleton.1 hz]
      · have hc2 := List.mem_singleton.1 hc2
        subst hc2;intro x hx z hz h0 e;have hz := List.mem_singleton.1 hz; subst hz;refine hc (h k (by omega) (by omega) ⟨x, ?_, e⟩);rw [← KJ k (by omega)];exact List.mem_flatten.2 ⟨b, hb2, hx⟩
theorem rowsN_perm : ∀ (n : Nat) (bl : List (List Int)), bl.length = n → ∀ x ∈ rowsN n bl, ∃ bl' : List (List Int), bl'.Perm bl ∧ x = bl'.flatten := by
  intro n
  induction n with
  | zero => intro bl h x hx; simp [rowsN, ordN] at hx; subst hx; exact ⟨[], by rw [List.length_eq_zero_iff.1 h], rfl⟩
  | succ n ih =>
    intro bl h x hx;simp only [rowsN, ordN, ordFrom, List.mem_flatMap, List.mem_map] at hx;obtain ⟨i, hi, y, hy, rfl⟩ := hx;have hi := List.mem_range'_1.1 hi;obtain ⟨bl', hp, rfl⟩ := ih _ (erase_len (k := i) (by omega) h) y hy;refine ⟨bl.getD i [] :: bl', ?_, rfl⟩;refine (List.Perm.cons _ hp).trans ?_;have hb : i < bl.length := by omega
    exact erase_perm hb
theorem Fine.row {Y : Yard} (f : Fine Y) {r : List Int} (hr : r ∈ rowsN (blocksOf Y.cars (trk Y 0)).length (blocksOf Y.cars (trk Y 0))) : Valid { Y with tracks := Y.tracks.set 0 r } ∧ r.Perm (trk Y 0) := by
  have hlen := f.len; have hr1 := f.room1;obtain ⟨t, ts, ht⟩ : ∃ t ts, Y.tracks = t :: ts := by
    cases hh : Y.tracks with
    | nil => rw [hh] at hlen; simp at hlen; omega
    | cons t ts => exact ⟨t, ts, rfl⟩
  have ht0 : trk Y 0 = t := by show Y.tracks.getD 0 [] = t; rw [ht]; rfl
  rw [ht0] at hr ⊢;have hg := groups_iff.1 f.groups;have hrow : ∀ k, k < t.length → 0 < grp Y.cars (t.getD k 0) → (∃ c ∈ t.take k, grp Y.cars c = grp Y.cars (t.getD k 0)) → BL Y.cars t ↑k = true := fun k hk h0 hc => by
    have := hg 0 k (by rw [ht]; simp) (by rw [ht]; simpa using hk) (by rw [ht]; simpa using h0) (.inr (by rw [ht]; simpa using hc));rw [ht] at this; simpa using this
  obtain ⟨hb, _⟩ := blocks_blk hrow t.length (Nat.le_refl _);obtain ⟨bl', hp, rfl⟩ := rowsN_perm _ _ rfl r hr;have hflat : (blocksOf Y.cars t).flatten = t := by
    have := KJ (cs := Y.cars) (t := t) t.length (Nat.le_refl _);rw [List.take_length] at this; exact this
  have hperm : bl'.flatten.Perm t := by
    have := hp.flatten;rw [hflat] at this; exact this
  have hrok := (Blk.perm hb hp.symm).row;refine ⟨Fine.valid ⟨f.cars, f.carOk, f.room1, f.room3, f.roomOk, by rw [List.length_set]; exact f.len, ?_, ?_, ?_, ?_, ?_⟩, hperm⟩
  all_goals simp only [ht, List.set_cons_zero]
  · intro x hx c hc
    have hok := f.ok;rw [ht] at hok;rcases List.mem_cons.1 hx with e | hx
    · subst e; exact hok t List.mem_cons_self c (hperm.mem_iff.1 hc)
    · exact hok x (List.mem_cons_of_mem _ hx) c hc
  · have hn := f.nodup
    rw [ht] at hn;rw [List.flatten_cons] at hn ⊢;exact (List.Perm.append_right _ hperm).nodup_iff.2 hn
  · intro k hk
    have hf := f.fits;rw [ht] at hf;cases k with
    | zero =>
      have := hf 0 (by simp);rw [List.getD_cons_zero] at this ⊢;have e : lenOf Y.cars bl'.flatten = lenOf Y.cars t := by
        unfold lenOf; exact perm_sum (hperm.map _)
      rw [e]; exact this
    | succ k => simpa using hf (k + 1) (by simpa using hk)
  · have ha := f.all
    rw [ht] at ha;rw [List.flatten_cons, List.length_append] at ha ⊢;rw [hperm.length_eq]; exact ha
  · refine groups_iff.2 ?_
    show GrpFrom Y.cars (bl'.flatten :: ts) [];intro i k hi hk h0 hm;rcases hm with hm | ⟨c, hc, e⟩
    · simp at hm
    · cases i with
      | zero =>
        simp only [List.getD_cons_zero, List.take_zero, List.flatten_nil, List.nil_append] at hk h0 hc e ⊢;obtain ⟨h1, h2⟩ := hrok k hk h0 ⟨c, hc, e⟩;exact LM hk h0 h1 h2
      | succ i =>
        have := hg (i + 1) k (by rw [ht]; simpa using hi) (by rw [ht]; simpa using hk) (by rw [ht]; simpa using h0) (.inr ⟨c, by
          rw [ht]
          simp only [List.take_succ_cons, List.flatten_cons, List.getD_cons_succ, List.mem_append] at hc ⊢
          rcases hc with (hc | hc) | hc
          · exact .inl (.inl (hperm.mem_iff.1 hc))
          · exact .inl (.inr hc)
          · exact .inr hc, by rw [ht]; simpa using e⟩)
        rw [ht] at this; simpa using this
section
variable {Y : Yard} {k : Nat}
end
end Go.Sh
namespace Go.Proofs.YtcaocbhbofejnaaGreatDoor
open Go Go.Sl Go.Sh
set_option maxRecDepth 100000
end Go.Proofs.YtcaocbhbofejnaaGreatDoor
namespace Go.Sl
open Go
theorem ct_own {α : Type} {E : TypeId} {sz : Nat} {cell : α → Nat → Value} {v : Value} {xs : List α} {Ms : Seg} {I : Imm} {P : Program} {f : FuncId} {args : Array Value} {u : Value} (dflt : α) (h : Own E sz cell v xs Ms) (hl : xs.length ≤ 140737488355328)
    (ct : ∀ J, I.le J → IsSl sz cell dflt J v xs → CtV P f args J u) : Ct P f args I Ms (fun r _ M' => r = u ∧ M' = Ms) := by
  intro F w st;obtain ⟨J, h1, h2, h3, h4⟩ := h.lend dflt hl st;refine (ct J h1 h2 F w h4).mono fun e w' ⟨r, I', M', he, hle, ⟨hr, hm⟩, st'⟩ => ?_
  subst hm;obtain ⟨K, k1, k2⟩ := St.thaw (h3.mono hle) (h1.trans hle) (by simpa using st');exact ⟨r, K, Ms, he, k1, ⟨hr, rfl⟩, k2⟩
end Go.Sl
namespace Go.Proofs.YtcaocbhbofejnaaGreatDoor
open Go Go.Sl Go.Sh
set_option maxRecDepth 100000
end Go.Proofs.YtcaocbhbofejnaaGreatDoor
namespace Go.Sh
open Go Go.Sl
def stG (cs : List Car) (g : Int) : Bool → List Int → Nat
  | _, [] => 0
  | p, c :: r => (if grp cs c = g ∧ p = false then 1 else 0) + stG cs g (decide (grp cs c = g)) r
def sumG (cs : List Car) (g : Int) : List (List Int) → Nat
  | [] => 0
  | t :: ts => stG cs g false t + sumG cs g ts
def inN (g : Int) (met : List Int) : Nat := if g ∈ met then 1 else 0
def JP (cs : List Car) (g : Int) (t : List Int) (k : Nat) : Bool := decide (0 < k) && decide (grp cs (t.getD (k - 1) 0) = g)
theorem goG_st {cs : List Car} {ts : List (List Int)} {t : List Int} (ih : ∀ met, goGs cs ts met = 0 ↔ ∀ g, 0 < g → inN g met + sumG cs g ts ≤ 1) : ∀ (m k : Nat) (met : List Int), k + m = t.length →
    (∀ g, 0 < g → JP cs g t k = true → g ∈ met) →
    (goG cs t (goGs cs ts) k (t.drop k) met = 0 ↔ ∀ g, 0 < g → inN g met + stG cs g (JP cs g t k) (t.drop k) + sumG cs g ts ≤ 1) := by
  intro m
  induction m with
  | zero =>
    intro k met hk _;rw [goG_done (by omega), ih, BX (by omega)];simp only [stG, Nat.add_zero]
  | succ m ihm =>
    intro k met hk hp;have hlt : k < t.length := by omega
    have hcons : t.drop k = t.getD k 0 :: t.drop (k + 1) := BE hlt;have hpk : ∀ g, JP cs g t (k + 1) = decide (grp cs (t.getD k 0) = g) := fun g => by simp [JP]
    by_cases hb : (decide (0 < grp cs (t.getD k 0)) && (decide (grp cs (t.getD k 0) ∈ met) && !(BL cs t ↑k))) = true
    · rw [goG_hit hlt hb]
      simp only [Bool.and_eq_true, decide_eq_true_eq, Bool.not_eq_true'] at hb;refine ⟨(fun h => by cases h), fun h => ?_⟩
      exfalso
      have h1 := h _ hb.1;have hnp : JP cs (grp cs (t.getD k 0)) t k = false := by
        cases hq : JP cs (grp cs (t.getD k 0)) t k with
        | false => rfl
        | true =>
          simp only [JP, Bool.and_eq_true, decide_eq_true_eq] at hq;rw [LM hlt hb.1 hq.1 hq.2] at hb;cases hb.2.2
      rw [hcons, hnp] at h1;have e1 : inN (grp cs (t.getD k 0)) met = 1 := if_pos hb.2.1;have e2 : ∀ r, stG cs (grp cs (t.getD k 0)) false (t.getD k 0 :: r) = 1 + stG cs (grp cs (t.getD k 0)) (decide (grp cs (t.getD k 0) = grp cs (t.getD k 0))) r := fun r => by
        show (if _ then 1 else 0) + _ = _;rw [if_pos ⟨rfl, rfl⟩]
      rw [e1, e2] at h1;omega
    · have hb' := Bool.eq_false_iff.2 hb
      rw [goG_miss hlt hb', ihm (k + 1) _ (by omega) ?_]
      · refine forall_congr' fun g => forall_congr' fun hg => ?_
        rw [hpk, hcons];have hst : stG cs g (JP cs g t k) (t.getD k 0 :: t.drop (k + 1)) = (if grp cs (t.getD k 0) = g ∧ JP cs g t k = false then 1 else 0) + stG cs g (decide (grp cs (t.getD k 0) = g)) (t.drop (k + 1)) := rfl;rw [hst];have hin : inN g (if grp cs (t.getD k 0) ∈ met then met else met ++ [grp cs (t.getD k 0)]) = inN g met + (if grp cs (t.getD k 0) = g ∧ JP cs g t k = false then 1 else 0) := by
          by_cases e : grp cs (t.getD k 0) = g
          · cases hq : JP cs g t k with
            | true =>
              have hm := hp g hg hq;rw [e, if_pos hm, if_neg (by simp)]; rfl
            | false =>
              have hnm : g ∉ met := fun hm => by
                have hc : BL cs t ↑k = false := by
                  cases hc : BL cs t ↑k with
                  | false => rfl
                  | true =>
                    obtain ⟨c1, c2, c3⟩ := coupled_to hlt hc;have : JP cs g t k = true := by
                      simp only [JP, Bool.and_eq_true, decide_eq_true_eq];exact ⟨c1, c3.symm.trans e⟩
                    rw [hq] at this; cases this
                rw [e, hc] at hb;simp [hg, hm] at hb
              rw [e, if_neg hnm];simp [inN, hnm]
          · have e' : ¬ g = grp cs (t.getD k 0) := fun h => e h.symm
            by_cases hG : grp cs (t.getD k 0) ∈ met
            · rw [if_pos hG, if_neg (fun hh => e hh.1)]; rfl
            · rw [if_neg hG, if_neg (fun hh => e hh.1), Nat.add_zero]
              unfold inN;simp only [List.mem_append, List.mem_singleton, e', or_false]
        rw [hin]
        generalize stG cs g (decide (grp cs (t.getD k 0) = g)) (t.drop (k + 1)) = S
        constructor <;> intro h <;> omega
      · intro g hg hq
        rw [hpk] at hq;have e := of_decide_eq_true hq;subst e
        split
        · assumption
        · simp
theorem goGs_st {cs : List Car} : ∀ (ts : List (List Int)) (met : List Int), goGs cs ts met = 0 ↔ ∀ g, 0 < g → inN g met + sumG cs g ts ≤ 1 := by
  intro ts
  induction ts with
  | nil =>
    intro met;refine ⟨fun _ g _ => ?_, fun _ => rfl⟩;unfold inN sumG; split <;> omega
  | cons t ts ih =>
    intro met;have h := goG_st (cs := cs) (ts := ts) (t := t) ih t.length 0 met (by omega) (fun g _ h => by simp [JP] at h);rw [List.drop_zero] at h;show goG cs t (goGs cs ts) 0 t met = 0 ↔ _;rw [h];refine forall_congr' fun g => forall_congr' fun hg => ?_
    have e : JP cs g t 0 = false := by simp [JP]
    rw [e];show _ ↔ inN g met + (stG cs g false t + sumG cs g ts) ≤ 1
    constructor <;> intro h <;> omega
theorem groups_sum {Y : Yard} : CY Y = 0 ↔ ∀ g, 0 < g → sumG Y.cars g Y.tracks ≤ 1 := by
  unfold CY;rw [goGs_st];refine forall_congr' fun g => forall_congr' fun _ => ?_
  have e : inN g [] = 0 := by simp [inN]
  rw [e, Nat.zero_add]
def lastB (cs : List Car) (g : Int) : Bool → List Int → Bool
  | p, [] => p
  | _, c :: r => lastB cs g (decide (grp cs c = g)) r
theorem stG_append {cs : List Car} {g : Int} : ∀ (a b : List Int) (p : Bool), stG cs g p (a ++ b) = stG cs g p a + stG cs g (lastB cs g p a) b := by
  intro a
  induction a with
  | nil => intro b p; simp [stG, lastB]
  | cons c a ih => intro b p; simp only [List.cons_append, stG, lastB, ih]; omega
theorem lastB_at {cs : List Car} {g : Int} : ∀ (a : List Int) (p : Bool), 0 < a.length → lastB cs g p a = decide (grp cs (a.getD (a.length - 1) 0) = g) := by
  intro a
  induction a with
  | nil => intro p h; simp at h
  | cons c a ih =>
    intro p _;cases a with
    | nil => simp [lastB]
    | cons d r =>
      show lastB cs g (decide (grp cs c = g)) (d :: r) = _;rw [ih _ (by simp)];simp
theorem stG_tf {cs : List Car} {g : Int} (b : List Int) : stG cs g false b = stG cs g true b + if 0 < b.length ∧ grp cs (b.getD 0 0) = g then 1 else 0 := by
  cases b with
  | nil => simp [stG]
  | cons c r =>
    simp only [stG, List.length_cons, List.getD_cons_zero]
    by_cases h : grp cs c = g <;> simp [h] <;> omega
theorem stG_le {cs : List Car} {g : Int} (p : Bool) (b : List Int) : stG cs g p b ≤ stG cs g false b := by
  cases p with
  | false => exact Nat.le_refl _
  | true => rw [stG_tf b]; omega
theorem stG_app_le {cs : List Car} {g : Int} (a b : List Int) : stG cs g false (a ++ b) ≤ stG cs g false a + stG cs g false b := by
  rw [stG_append]; have := stG_le (cs := cs) (g := g) (lastB cs g false a) b; omega
theorem stG_cut {cs : List Car} {g : Int} {A : List Int} {n : Nat} (h : 0 < n → n < A.length → ¬ (grp cs (A.getD (n - 1) 0) = g ∧ grp cs (A.getD n 0) = g)) :
    stG cs g false A = stG cs g false (A.take n) + stG cs g false (A.drop n) := by
  have e : stG cs g false A = stG cs g false (A.take n ++ A.drop n) := by rw [List.take_append_drop]
  rw [e, stG_append]
  congr 1
  by_cases hn : 0 < n ∧ n < A.length
  · have hl : (A.take n).length = n := by rw [List.length_take]; omega
    rw [lastB_at _ _ (by omega), hl];have e1 : (A.take n).getD (n - 1) 0 = A.getD (n - 1) 0 := by simp only [List.getD, List.getElem?_take]; rw [if_pos (by omega)]
    rw [e1]
    by_cases hq : grp cs (A.getD (n - 1) 0) = g
    · have h2 : ¬ grp cs (A.getD n 0) = g := fun hh => h hn.1 hn.2 ⟨hq, hh⟩
      rw [decide_eq_true hq, stG_tf (A.drop n)];have e2 : (A.drop n).getD 0 0 = A.getD n 0 := by simp [List.getD]
      rw [e2, if_neg (fun hh => h2 hh.2)]; omega
    · rw [decide_eq_false hq]
  · by_cases h0 : n = 0
    · subst h0; simp [lastB]
    · rw [BX (by omega)]; simp [stG]
theorem sumG_set {cs : List Car} {g : Int} (X : List Int) : ∀ (ts : List (List Int)) (i : Nat), i < ts.length → sumG cs g (ts.set i X) + stG cs g false (ts.getD i []) = sumG cs g ts + stG cs g false X := by
  intro ts
  induction ts with
  | nil => intro i h; simp at h
  | cons t ts ih =>
    intro i h;cases i with
    | zero => simp only [List.set_cons_zero, sumG, List.getD_cons_zero]; omega
    | succ i => simp only [List.set_cons_succ, sumG, List.getD_cons_succ]; have := ih i (by simpa using h); omega
theorem free_cut {Y : Yard} {s : Shift} (m : MayOk Y s) (g : Int) (hg : 0 < g) : 0 < (ET Y s).toNat → (ET Y s).toNat < (trk Y s.frm).length → ¬ (grp Y.cars ((trk Y s.frm).getD ((ET Y s).toNat - 1) 0) = g ∧ grp Y.cars ((trk Y s.frm).getD (ET Y s).toNat 0) = g) := fun h1 h2 hh => by
  have hf := m.free;have e : ET Y s = ↑(ET Y s).toNat := by omega
  rw [e, LM h2 (by rw [hh.2]; exact hg) h1 (hh.1.trans hh.2.symm)] at hf;cases hf
theorem moved_trk {Y : Yard} {s : Shift} (m : MayOk Y s) : trk (moved Y s) s.frm = (trk Y s.frm).take (ET Y s).toNat ∧ trk (moved Y s) s.to = trk Y s.to ++ (trk Y s.frm).drop (ET Y s).toNat := by
  have hf := m.frm; have ht := m.to; have hne := m.ne;have hne' : s.frm.toNat ≠ s.to.toNat := by omega
  constructor
  · simp only [trk, moved, List.getD]
    rw [List.getElem?_set_self (by rw [List.length_set]; omega)]; rfl
  · simp only [trk, moved, List.getD]
    rw [List.getElem?_set_ne hne', List.getElem?_set_self (by omega)]; rfl
theorem moved_other {Y : Yard} {s : Shift} {k : Nat} (h1 : k ≠ s.frm.toNat) (h2 : k ≠ s.to.toNat) : (moved Y s).tracks.getD k [] = Y.tracks.getD k [] := by
  simp only [moved, List.getD];rw [List.getElem?_set_ne (Ne.symm h1), List.getElem?_set_ne (Ne.symm h2)]
theorem lenOf_cut (cs : List Car) (A : List Int) (n : Nat) : lenOf cs A = lenOf cs (A.take n) + lenOf cs (A.drop n) := by
  rw [← IP, List.take_append_drop]
theorem moved_sum {Y : Yard} {s : Shift} (m : MayOk Y s) (g : Int) (hg : 0 < g) : sumG Y.cars g (moved Y s).tracks ≤ sumG Y.cars g Y.tracks := by
  have hf := m.frm; have ht := m.to; have hne := m.ne;have hne' : s.to.toNat ≠ s.frm.toNat := by omega
  have hc := stG_cut (cs := Y.cars) (g := g) (A := trk Y s.frm) (n := (ET Y s).toNat) (free_cut m g hg);have ha := stG_app_le (cs := Y.cars) (g := g) (trk Y s.to) ((trk Y s.frm).drop (ET Y s).toNat);have s1 := sumG_set (cs := Y.cars) (g := g) (trk Y s.to ++ (trk Y s.frm).drop (ET Y s).toNat) Y.tracks s.to.toNat (by omega);have s2 := sumG_set (cs := Y.cars) (g := g) ((trk Y s.frm).take (ET Y s).toNat) (Y.tracks.set s.to.toNat (trk Y s.to ++ (trk Y s.frm).drop (ET Y s).toNat)) s.frm.toNat (by rw [List.length_set]; omega);have e2 : (Y.tracks.set s.to.toNat (trk Y s.to ++ (trk Y s.frm).drop (ET Y s).toNat)).getD s.frm.toNat [] = trk Y s.frm := by
    simp only [trk, List.getD];rw [List.getElem?_set_ne hne']
  rw [e2] at s2;have e1 : Y.tracks.getD s.to.toNat [] = trk Y s.to := rfl;rw [e1] at s1;show sumG Y.cars g ((Y.tracks.set s.to.toNat _).set s.frm.toNat _) ≤ _;omega
theorem Fine.mv {Y : Yard} {s : Shift} (f : Fine Y) (h : BO Y s = 0) : Fine (moved Y s) := by
  have m := mayOk h;have k := kin_moved h;have gd := f.good.moved h;have hf := m.frm; have ht := m.to; have hne := m.ne;have sm := f.good.small;refine ⟨f.cars, f.carOk, f.room1, f.room3, f.roomOk, by rw [k.len]; exact f.len, gd.ok, k.perm.nodup_iff.2 f.nodup, fun i hi => ?_, by rw [k.perm.length_eq]; exact f.all, ?_⟩
  · rw [k.len] at hi
    have t1 := moved_trk m;have e0 : (moved Y s).cars = Y.cars := rfl;have e9 : (moved Y s).room = Y.room := rfl;rw [e0, e9]
    by_cases h1 : i = s.frm.toNat
    · subst h1
      have e : (moved Y s).tracks.getD s.frm.toNat [] = _ := t1.1;rw [e];have h2 := f.fits s.frm.toNat hi;have h3 := lenOf_cut Y.cars (trk Y s.frm) (ET Y s).toNat;have h4 := FV sm ((trk Y s.frm).drop (ET Y s).toNat);have e5 : Y.tracks.getD s.frm.toNat [] = trk Y s.frm := rfl;rw [e5] at h2;omega
    · by_cases h2 : i = s.to.toNat
      · subst h2
        have e : (moved Y s).tracks.getD s.to.toNat [] = _ := t1.2;rw [e, IP];have := m.fits;omega
      · rw [moved_other h1 h2]; exact f.fits i hi
  · rw [groups_sum]
    intro g hg;have h1 := groups_sum.1 f.groups g hg;have h2 := moved_sum m g hg;exact Nat.le_trans h2 h1
def MR (Y : Yard) (l : List Shift) : List Shift × Int := if (AE Y l).2 = 0 then ((l.map AQ).reverse, 0) else ([], (AE Y l).2)
end Go.Sh
namespace Go.Proofs.YtcaocbhbofejnaaGreatDoor
open Go Go.Sl Go.Sh
set_option maxRecDepth 100000
end Go.Proofs.YtcaocbhbofejnaaGreatDoor
namespace Go.Sl
open Go
theorem encL_split {α : Type} (sz : Nat) (cell : α → Nat → Value) (dflt : α) (xs : List α) (j : Nat) (h : j < xs.length) :
    DI sz cell xs = DI sz cell (xs.take j) ++ ((List.range sz).map (cell (xs.getD j dflt)) ++ DI sz cell (xs.drop (j + 1))) := by
  have e : xs = xs.take j ++ xs.getD j dflt :: xs.drop (j + 1) := by
    have : xs.drop j = xs.getD j dflt :: xs.drop (j + 1) := by
      rw [List.drop_eq_getElem_cons h]; simp [List.getD, h]
    rw [← this, List.take_append_drop]
  conv => lhs; rw [e]
  simp only [DI, List.flatMap_append, List.flatMap_cons]
theorem encL_setAll {α : Type} (sz : Nat) (cell : α → Nat → Value) (z : α) (xs : List α) (j : Nat) (h : j < xs.length) :
    DI sz cell (xs.set j z) = DI sz cell (xs.take j) ++ ((List.range sz).map (cell z) ++ DI sz cell (xs.drop (j + 1))) := by
  rw [List.set_eq_take_append_cons_drop, if_pos h];simp only [DI, List.flatMap_append, List.flatMap_cons]
section
variable {ρ : Option Nat} {P : Program} {N : Nat} {ops : Array Oper} {i : Nat} {l : Sl} {I : Imm} {M : Seg} {ty : TypeId} {gd : Option (Nat × Bool)} {K : Sl → Imm → Seg → Prop}
theorem LB {α : Type} {T : TypeId} {x y : Operand} {v : Value} {E sz : Nat} {cell : α → Nat → Value} {a : Option Addr} {n c b : Nat} {xs : List α} {Ms R : Seg} {rc : Nat → Nat → Value} (dflt : α) (j : Nat) (z : α)
    (hop : FS ops N i = some (none, .store T x y, ty, gd)) (hg : EU ops l gd = some true) (own : Own E sz cell (.slice a n c) xs Ms) (row : ORow sz Ms a b xs.length rc) (hj : j < xs.length)
    (hx : CD l x = some (.pointer (some ⟨b, 0 + j * sz, none⟩))) (hy : CD l y = some v) (hsz : CU P T = some sz) (hv : v.cells.toList = (List.range sz).map (cell z)) (hone : ∀ w ∈ (List.range sz).map (cell z), DF w = true)
    (hM : M.Perm (Ms ++ R)) (next : ∀ Ms', Own E sz cell (.slice a n c) (xs.set j z) Ms' → K l I (Ms' ++ R)) : Stp P N ops i l I M K := by
  have ha := row.addr (by omega);rcases own with ⟨hv', rfl, rfl⟩ | ⟨b', c', sp, hv', hcap, rfl, hlen⟩
  · simp at hj
  · simp only [Value.slice.injEq] at hv'
    obtain ⟨rfl, rfl, rfl⟩ := hv';simp only [Option.some.injEq, Addr.mk.injEq, and_true] at ha;subst ha;refine KG hop hg (GE hx hy) hM ?_;show wpL P (Instr.storeAt T (rho l x) (rho l y) >>= fun _ => pure Next.skip) _ I _;rw [BG hx, BG hy, AD];show wpL P (storeVar T ⟨b', 0 + j * sz, none⟩ v) _ I _;unfold storeVar;rw [AD, BV hsz];have hl : v.cells.size = sz := by rw [← Array.length_toList, hv]; simp
    rw [if_neg (by simp [hl])];show wpL P (storeCells ⟨b', 0 + j * sz, none⟩ v.cells.toList) _ I _;rw [hv];have hs := encL_split sz cell dflt xs j hj;have hA : (DI sz cell (xs.take j)).length = j * sz := by rw [BZ, List.length_take, Nat.min_eq_left (by omega)]
    refine GB (T := E) (k := 0) ((List.range sz).map (cell z)) 0 _ (DI sz cell xs ++ sp).toArray _ (by simp) ?_ hone ?_
    · rw [hs]
      simp only [List.size_toArray, List.length_append, List.length_map, List.length_range, hA]; omega
    · refine ⟨undef, _, .inr ⟨rfl, rfl⟩, List.Sublist.refl _, ?_⟩
      have e2 : GI (DI sz cell xs ++ sp).toArray (0 + j * sz + 0) ((List.range sz).map (cell z)) = (DI sz cell (xs.set j z) ++ sp).toArray := by
        apply Array.ext'
        have := IE ((List.range sz).map (cell z)) (DI sz cell (xs.take j)) ((List.range sz).map (cell (xs.getD j dflt)) ++ DI sz cell (xs.drop (j + 1)) ++ sp) (by simp);rw [hA] at this;rw [hs, encL_setAll sz cell z xs j hj, show 0 + j * sz + 0 = j * sz by omega, List.append_assoc, this];simp
      rw [e2];exact next _ (.inr ⟨b', c, sp, by simp, by simpa using hcap, rfl, by rw [← hlen, List.length_append, List.length_append, BZ, BZ, List.length_set]⟩)
end
theorem MM {Ms : Seg} {a : Option Addr} {b n : Nat} {cs : List Sh.Shift} (h : ORow 3 Ms a b n (fun i f => Sh.shiftCell (cs.getD i Sh.noShift) f)) {I : Imm} {M : Seg} (hM : ∀ x ∈ Ms, x ∈ M) (i : Nat) (hi : i < n) : SeesN I M b (0 + i * 3) (Sh.shiftVals (cs.getD i Sh.noShift)) := fun k v hv => by
  have hk : k < 3 := (List.getElem?_eq_some_iff.1 hv).1;have := h.get i hi k hk I M hM
  match k, hk with
  | 0, _ => exact (Option.some.inj hv) ▸ this
  | 1, _ => exact (Option.some.inj hv) ▸ this
  | 2, _ => exact (Option.some.inj hv) ▸ this
inductive FpOk (ops : Array Oper) (i : Nat) (M : Seg) : List (Nat × Seg) → Prop
  | nil : FpOk ops i M []
  | wait {k : Nat} {R : Seg} {fp : List (Nat × Seg)} : wt ops i k = true → FpOk ops i M fp → FpOk ops i M ((k, R) :: fp)
  | none {k : Nat} {fp : List (Nat × Seg)} : FpOk ops i M fp → FpOk ops i M ((k, []) :: fp)
  | part {k : Nat} {R Sx : Seg} {fp : List (Nat × Seg)} : M.Perm (R ++ Sx) → FpOk ops i M fp → FpOk ops i M ((k, R) :: fp)
theorem FpOk.all {ops : Array Oper} {i : Nat} {M : Seg} {fp : List (Nat × Seg)} (h : FpOk ops i M fp) : ∀ p ∈ fp, wt ops i p.1 = true ∨ ∃ Sx, M.Perm (p.2 ++ Sx) := by
  induction h with
  | nil => intro p hp; simp at hp
  | wait h _ ih =>
    intro p hp;rcases List.mem_cons.1 hp with rfl | hp
    · exact .inl h
    · exact ih p hp
  | none _ ih =>
    intro p hp;rcases List.mem_cons.1 hp with rfl | hp
    · exact .inr ⟨M, List.Perm.refl _⟩
    · exact ih p hp
  | part h _ ih =>
    intro p hp;rcases List.mem_cons.1 hp with rfl | hp
    · exact .inr ⟨_, h⟩
    · exact ih p hp
section
variable {P : Program} {N : Nat} {ops : Array Oper} {als : List Nat} {al : List (Nat × Nat × Fresh)} {L0 : Sl} {F0 : Seg} {Kf : Sl → Imm → Seg → Prop} {fp : List (Nat × Seg)} {rest : List (Nat × Bool)} {i d : Nat} {v : Value} {l : Sl} {I : Imm} {M M' : Seg}
def lkB (d : Nat) (v : Value) (L0 : Sl) : Prop := match DO d L0 with | some u => v = u | none => True
theorem lkOk {L0 : Sl} {d : Nat} {v : Value} (h : lkB d v L0) : ∀ u, DO d L0 = some u → v = u := fun u hu => by
  unfold lkB at h; rw [hu] at h; exact h
theorem CF (h : Det P N ops i l I M d v) (next : OFPX P N ops als F0 Kf al L0 ((i, M) :: fp) rest ((d, v) :: l) I M) (hL : lkB d v L0 := by first | exact trivial | exact rfl) : OFPX P N ops als F0 Kf al L0 fp ((i, true) :: rest) l I M := ⟨d, v, M, [], h, by simp, lkOk hL, next⟩
theorem GA (h : Det P N ops i l I [] d v) (next : OFPX P N ops als F0 Kf al L0 ((i, []) :: fp) rest ((d, v) :: l) I M) (hL : lkB d v L0 := by first | exact trivial | exact rfl) : OFPX P N ops als F0 Kf al L0 fp ((i, true) :: rest) l I M := ⟨d, v, [], M, h, by simp, lkOk hL, next⟩
theorem ofx_part {Rx Sx : Seg} (hp : M.Perm (Rx ++ Sx)) (h : Det P N ops i l I Rx d v) (next : OFPX P N ops als F0 Kf al L0 ((i, Rx) :: fp) rest ((d, v) :: l) I M) (hL : lkB d v L0 := by first | exact trivial | exact rfl) : OFPX P N ops als F0 Kf al L0 fp ((i, true) :: rest) l I M := ⟨d, v, Rx, Sx, h, hp, lkOk hL, next⟩
theorem ofx_ac {T : TypeId} {cs : Array Value} (ha : BU al i = some (d, .cl T cs)) (next : ∀ b, OFPX P N ops als F0 Kf al L0 fp rest ((d, .pointer (some ⟨b, 0, none⟩)) :: l) I ((b, Obj.cells cs T (0, 0)) :: M)) : OFPX P N ops als F0 Kf al L0 fp ((i, false) :: rest) l I M := by
  unfold OFPX; rw [ha]; exact next
theorem ofx_bs {T : TypeId} {n : Nat} {cs : Array Value} (ha : BU al i = some (d, .bs T n cs)) (next : ∀ b, OFPX P N ops als F0 Kf al L0 fp rest ((d, .slice (some ⟨b, 0, none⟩) n n) :: l) I ((b, Obj.cells cs T (0, 0)) :: M)) : OFPX P N ops als F0 Kf al L0 fp ((i, false) :: rest) l I M := by
  unfold OFPX; rw [ha]; exact next
def dsB (ops : Array Oper) (i : Nat) (L0 : Sl) : Bool := match DE ops i with | some d => (DO d L0).isNone | none => true
theorem dsB_nil (ops : Array Oper) (i : Nat) : dsB ops i [] = true := by unfold dsB; split <;> rfl
theorem dsB_spec {L0 : Sl} (h : dsB ops i L0 = true) : ∀ d, DE ops i = some d → DO d L0 = none := fun d hd => by
  unfold dsB at h; rw [hd] at h; simpa using h
def knB (ops : Array Oper) (als : List Nat) (al : List (Nat × Nat × Fresh)) (rest : List (Nat × Bool)) : Bool := als.all fun j => (BU al j).isSome || rest.any fun x => !x.2 && (wt ops j x.1 && !(isAl als x.1))
theorem knB_spec (h : knB ops als al rest = true) : Known ops als al rest := fun j hj => by
  obtain ⟨k, hk, e⟩ := List.any_eq_true.1 (show (als.any fun k => Nat.beq k j) = true from hj);obtain rfl := Nat.eq_of_beq_eq_true e;have := List.all_eq_true.1 h k hk;simp only [Bool.or_eq_true, List.any_eq_true, Bool.and_eq_true, Bool.not_eq_true'] at this;rcases this with h1 | ⟨⟨a, b⟩, h2, h3, h4, h5⟩
  · exact .inl (Option.isSome_iff_exists.1 h1)
  · simp only at h3 h4 h5
    subst h3;exact .inr ⟨a, h2, h4, h5⟩
theorem KE {Mx : Seg → Seg} (ha : BU al i = none) (hp : ∀ F, (Mx F).Perm (M ++ F))
    (h : ∀ F, Stp P N ops i l I (Mx F) fun l' I' M' => ∃ M1 al' L0', M'.Perm (M1 ++ F) ∧ FpOk ops i M1 fp ∧ Ext P N ops als al L0 al' L0' l' ∧ knB ops als al' rest = true ∧ OFPX P N ops als F0 Kf al' L0' fp rest l' I' M1) (hS : dsB ops i L0 = true := by first | exact dsB_nil _ _ | kernel_rfl) : OFPX P N ops als F0 Kf al L0 fp ((i, false) :: rest) l I M := by
  unfold OFPX; rw [ha];refine ⟨dsB_spec hS, ?_⟩;exact fun F _ => Stp.perm (hp F).symm (Stp.mono (h F) fun l' I' M' ⟨M1, al', L0', a, b, e, k, c⟩ => ⟨M1, al', L0', a, b.all, e, knB_spec k, c⟩)
theorem ofx_nx {F M1 : Seg} (hp : M'.Perm (M1 ++ F)) (hf : FpOk ops i M1 fp) (next : OFPX P N ops als F0 Kf al L0 fp rest l I M1) (hk : knB ops als al rest = true := by kernel_rfl) : ∃ M1 al' L0', M'.Perm (M1 ++ F) ∧ FpOk ops i M1 fp ∧ Ext P N ops als al L0 al' L0' l ∧ knB ops als al' rest = true ∧ OFPX P N ops als F0 Kf al' L0' fp rest l I M1 := ⟨M1, al, L0, hp, hf, .inl ⟨rfl, rfl⟩, hk, next⟩
def asB (als : List Nat) (al : List (Nat × Nat × Fresh)) : Bool := al.all fun x => isAl als x.1
theorem alFind_in : ∀ (al : List (Nat × Nat × Fresh)) {i d : Nat} {E : Fresh}, BU al i = some (d, E) → (i, d, E) ∈ al := by
  intro al
  induction al with
  | nil => intro i d E h; cases h
  | cons x r ih =>
    intro i d E h;unfold BU at h;cases hb : Nat.beq x.1 i with
    | true =>
      rw [hb] at h;simp only [cond_true, Option.some.injEq] at h;have e := Nat.eq_of_beq_eq_true hb;rcases x with ⟨x1, x2⟩
      simp only at h e;subst h e;exact List.mem_cons_self
    | false =>
      rw [hb] at h;exact List.mem_cons_of_mem _ (ih h)
theorem asB_spec (h : asB als al = true) : ∀ i d E, BU al i = some (d, E) → isAl als i = true := fun i d E hi => List.all_eq_true.1 h _ (alFind_in al hi)
theorem ofx_end (h : Kf l I M) : OFPX P N ops als F0 Kf al L0 fp [] l I M := h
def noLooks (ops : Array Oper) (i : Nat) : Bool := match ops[i]? with | some o => (o.looksAt ops).isEmpty | none => false
theorem ML (h2 : noLooks ops i = true) (t : Nat) : CZ ops i t = false := by
  unfold noLooks at h2;unfold CZ;cases ho : ops[i]? with
  | none => rfl
  | some o =>
    rw [ho] at h2;simp only [List.isEmpty_iff] at h2;simp [h2]
theorem alOk_cl {T : TypeId} {cs : Array Value} (h1 : DE ops i = some d) (h2 : noLooks ops i = true) (h3 : alAt P N ops [] i = some (d, T, cs)) : AlOk P N ops [] i d (.cl T cs) :=
  ⟨h1, rfl, (fun t ht => by rw [ML h2] at ht; cases ht), fun I M => sal d T cs (fun b => ⟨b, rfl, rfl, rfl⟩) h3⟩
theorem alOk_bs {T : TypeId} {n : Nat} {cs : Array Value} (h1 : DE ops i = some d) (h2 : noLooks ops i = true) (h3 : bsAt P N ops [] i = some (d, T, n, cs)) : AlOk P N ops [] i d (.bs T n cs) :=
  ⟨h1, rfl, (fun t ht => by rw [ML h2] at ht; cases ht), fun I M => sbs d T n cs (fun b => ⟨b, rfl, rfl, rfl⟩) h3⟩
theorem hA_nil : ∀ i d E, BU [] i = some (d, E) → AlOk P N ops L0 i d E := fun _ _ _ h => by cases h
theorem hA_cons {E : Fresh} (h : AlOk P N ops L0 i d E) (r : ∀ i d E, BU al i = some (d, E) → AlOk P N ops L0 i d E) : ∀ i' d' E', BU ((i, d, E) :: al) i' = some (d', E') → AlOk P N ops L0 i' d' E' := fun i' d' E' h' => by
  unfold BU at h';cases hb : Nat.beq i i' with
  | true =>
    have e := Nat.eq_of_beq_eq_true hb;rw [hb] at h';simp only [cond_true, Option.some.injEq, Prod.mk.injEq] at h';obtain ⟨rfl, rfl⟩ := h';exact e ▸ h
  | false =>
    rw [hb] at h';exact r i' d' E' h'
end
def alInjS (ops : Array Oper) (als : List Nat) : Bool := als.all fun i => als.all fun j => Nat.beq i j || !(match DE ops i, DE ops j with | some a, some b => Nat.beq a b | _, _ => false)
theorem alInjS_spec {ops : Array Oper} {als : List Nat} (h : alInjS ops als = true) : ∀ i j d, isAl als i = true → isAl als j = true → DE ops i = some d → DE ops j = some d → i = j := fun i j d hi hj h1 h2 => by
  obtain ⟨k, hk, e⟩ := List.any_eq_true.1 (show (als.any fun k => Nat.beq k i) = true from hi);obtain rfl := Nat.eq_of_beq_eq_true e;obtain ⟨k', hk', e'⟩ := List.any_eq_true.1 (show (als.any fun k => Nat.beq k j) = true from hj);obtain rfl := Nat.eq_of_beq_eq_true e';have := List.all_eq_true.1 (List.all_eq_true.1 h _ hk) _ hk';rw [h1, h2] at this;simp only [Nat.beq_refl, Bool.not_true, Bool.or_false] at this;exact Nat.eq_of_beq_eq_true this
section
variable {ρ : Option Nat} {P : Program} {N : Nat} {Q : Exit → Act → World → Prop} {ds : List Deferred} {C : List Nat → Code} {p : List Nat} {l : Sl} {I : Imm} {M0 M F0 : Seg}
theorem rdX (al : List (Nat × Nat × Fresh)) (n0 : Nat) (order : List (Nat × Bool)) (hM : M0.Perm (M ++ F0)) (hA : ∀ i d E, BU al i = some (d, E) → AlOk P N (GY (C p)) [] i d E) (h : OFPX P N (GY (C p)) (al.map Prod.fst) F0 (fun l I M => Seq (ρ := ρ) P N (GY (C p)) Q ds n0 l I (M ++ F0)) al [] [] order l I M) (hI : (alInjS (GY (C p)) (al.map Prod.fst) && (asB (al.map Prod.fst) al && knB (GY (C p)) (al.map Prod.fst) al order)) = true := by kernel_rfl)
    (hm : P.follows .mixedOrders = true := by kernel_rfl) (hc : LR (C p) = true := by kernel_rfl) (hok : okAllX (al.map Prod.fst) (GY (C p)) n0 order = true := by kernel_rfl) : Run (ρ := ρ) P N (C p) Q ds l I M0 := by
  obtain ⟨id, hid⟩ := HI hc;simp only [Bool.and_eq_true] at hI;exact fun a w hS hD hW => run_drawX _ al n0 order hm hid hok hA (asB_spec hI.2.1) (knB_spec hI.2.2) (alInjS_spec hI.1) (fun _ _ h => by cases h) h a w hS hD (hW.perm hM)
end
end Go.Sl
namespace Go.Sh
open Go Go.Sl
def Rev {α : Type} (d : α) (xs zs : List α) (k : Nat) : Prop := zs.length = xs.length ∧ ∀ p, p < xs.length → zs.getD p d = if p < k ∨ xs.length - k ≤ p then xs.getD (xs.length - 1 - p) d else xs.getD p d
theorem Rev.start {α : Type} (d : α) (xs : List α) : Rev d xs xs 0 := ⟨rfl, fun p hp => by rw [if_neg (by omega)]⟩
theorem getD_set {α : Type} {d z : α} {xs : List α} {j p : Nat} (hj : j < xs.length) : (xs.set j z).getD p d = if p = j then z else xs.getD p d := by
  simp only [List.getD]
  by_cases e : j = p
  · subst e; rw [List.getElem?_set_self hj, if_pos rfl]; rfl
  · rw [List.getElem?_set_ne e, if_neg (Ne.symm e)]
theorem Rev.step {α : Type} {d : α} {xs zs : List α} {k j : Nat} (h : Rev d xs zs k) (hj : j = xs.length - 1 - k) (hk : k < j) : Rev d xs ((zs.set k (zs.getD j d)).set j (zs.getD k d)) (k + 1) := by
  obtain ⟨h1, h2⟩ := h;refine ⟨by simp [h1], fun p hp => ?_⟩;rw [getD_set (by rw [List.length_set]; omega), getD_set (by omega)]
  by_cases e1 : p = j
  · subst e1
    rw [if_pos rfl, if_pos (by omega), h2 k (by omega), if_neg (by omega)]
    congr 1; omega
  · rw [if_neg e1]
    by_cases e2 : p = k
    · subst e2
      rw [if_pos rfl, if_pos (by omega), h2 j (by omega), if_neg (by omega), hj]
    · rw [if_neg e2, h2 p hp]
      by_cases e3 : p < k ∨ xs.length - k ≤ p
      · rw [if_pos e3, if_pos (by omega)]
      · rw [if_neg e3, if_neg (by omega)]
theorem Rev.done {α : Type} {d : α} {xs zs : List α} {k : Nat} (h : Rev d xs zs k) (hk : xs.length - 1 - k ≤ k) : zs = xs.reverse := by
  obtain ⟨h1, h2⟩ := h;refine list_eq (d := d) (by simp [h1]) fun p hp => ?_
  rw [h1] at hp;have e : xs.reverse.getD p d = xs.getD (xs.length - 1 - p) d := by
    simp only [List.getD];rw [List.getElem?_reverse hp]
  rw [e, h2 p hp]
  by_cases e3 : p < k ∨ xs.length - k ≤ p
  · rw [if_pos e3]
  · rw [if_neg e3]
    congr 1; omega
end Go.Sh
namespace Go.Sl
open Go
theorem one1_shift (z : Sh.Shift) : ∀ w ∈ (List.range 3).map (Sh.shiftCell z), DF w = true := by
  intro w hw;obtain ⟨f, hf, rfl⟩ := List.mem_map.1 hw;have := List.mem_range.1 hf
  match f, this with
  | 0, _ => rfl
  | 1, _ => rfl
  | 2, _ => rfl
end Go.Sl
namespace Go.Sh
open Go Go.Sl
section
variable {Y : Yard} {s : Shift} {k : Nat}
end
end Go.Sh
namespace Go.Proofs.YtcaocbhbofejnaaGreatDoor
open Go Go.Sl Go.Sh
set_option maxRecDepth 100000
open Go Go.ChangeShapes Go.WideShapes Go.RowKit Go.Sl
theorem Row.own : ownKnob Tryz.prog.godebug = none := by kernel_rfl
theorem Row.laidOut : laidOutB Tryz.prog = true := by kernel_rfl
theorem Row.et : Tryz.prog.globalNamed "errors.errorType" = some 0 := by kernel_rfl
theorem Row.oneRow : ((List.range 291).filter fun t => Tryz.prog.rowNamed t [101, 114, 114, 111, 114]) = [126] := by kernel_rfl
theorem Row.size : Tryz.prog.types.size = 291 := by kernel_rfl
theorem Row.cells : Tryz.prog.cellsOf 3 = 1 := by kernel_rfl
theorem Row.bytes : Tryz.prog.bytesOf 3 = 8 := by kernel_rfl
theorem handle_of_laid {W : World} (h : laidMetH Tryz.prog [("errors.errorType", Rows.laid_errors_errorType)] W) : Glob (immOf W) := by
  have h' : laidMet Tryz.prog [] W ∧ handlesMet Tryz.prog [("errors.errorType", Rows.laid_errors_errorType)] W := h
  obtain ⟨name, u, ty, e1, e2, e3, e4, e5⟩ := h'.2 _ (List.mem_singleton.2 rfl)
  have en : name = [101, 114, 114, 111, 114] := (Option.some.inj e1).symm
  subst en
  obtain rfl : u = 208 := Option.some.inj (e2.symm.trans (by kernel_rfl))
  have hm : ty ∈ (List.range 291).filter fun t => Tryz.prog.rowNamed t [101, 114, 114, 111, 114] := List.mem_filter.2 ⟨List.mem_range.2 (by rw [← Row.size]; exact e3), e4⟩
  rw [Row.oneRow] at hm
  obtain rfl := List.mem_singleton.1 hm
  have hh : typeHandle Tryz.prog 126 = .pointer (some ⟨9, 126, none⟩) := by kernel_rfl
  rw [hh] at e5
  have hc : W.cell? ⟨0, 0, none⟩ = some (.iface 208 (.agg #[.pointer (some ⟨9, 126, none⟩)])) := by simpa using World.var?_cell Row.et e5 0
  obtain ⟨_, cs, T, fz, hb, hv⟩ := spot_of_cell hc
  exact ⟨cs, T, fz, hb, hv⟩
noncomputable def laidWorld (os : Os) : World :=
  let w0 := World.holding Tryz.prog os ⟨#[], #[], []⟩
  { w0 with heap := w0.heap.modify 0 fun
      | .cells _ t frozen => .cells #[.iface 208 (.agg #[.pointer (some ⟨9, 126, none⟩)])] t frozen
      | o => o }
theorem Row.lifts : (false == Tryz.pinned.checked.prog.liftsFinal) = true := by kernel_rfl
theorem Row.make : (Tryz.pinned.checked.prog.make == some Make.cut) = true := by kernel_rfl
theorem Row.looks : true = Tryz.pinned.checked.prog.looks [] := by kernel_rfl
end Go.Proofs.YtcaocbhbofejnaaGreatDoor

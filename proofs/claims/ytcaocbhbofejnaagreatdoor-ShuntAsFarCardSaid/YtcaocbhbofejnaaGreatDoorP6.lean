/- A part of the proof of the laws of this seat. -/
import Derived.Test.YtcaocbhbofejnaaGreatDoorP5
import Derived.Test.YtcaocbhbofejnaaGreatDoorP1
import Derived.Test.YtcaocbhbofejnaaGreatDoorP2
set_option linter.unusedVariables false
set_option linter.unusedSimpArgs false
namespace Go.Sh
open Go Go.Sl

theorem perm_sum {l m : List Int} (h : l.Perm m) : l.sum = m.sum := by
  induction h with
  | nil => rfl
  | cons x _ ih => simp [ih]
  | swap x y l => simp only [List.sum_cons]; omega
  | trans _ _ h1 h2 => exact h1.trans h2
theorem erase_perm {α : Type} {d : α} {l : List α} {i : Nat} (h : i < l.length) : (l.getD i d :: l.eraseIdx i).Perm l := by
  have e : l = l.take i ++ l.getD i d :: l.drop (i + 1) := by rw [← drop_cons h, List.take_append_drop]
  rw [← erase_take];exact (List.perm_middle.symm).trans (List.Perm.of_eq e.symm)
structure Blk (cs : List Car) (bl : List (List Int)) : Prop where
  one : ∀ b ∈ bl, ∀ x ∈ b, ∀ y ∈ b, grp cs x = grp cs y
  apart : bl.Pairwise fun b c => ∀ x ∈ b, ∀ y ∈ c, 0 < grp cs x → grp cs x ≠ grp cs y
theorem Blk.perm {cs : List Car} {bl bl' : List (List Int)} (h : Blk cs bl) (p : bl.Perm bl') : Blk cs bl' :=
  ⟨fun b hb => h.one b (p.mem_iff.2 hb), (p.pairwise_iff (fun {b c} hbc x hx y hy h0 e => hbc y hy x hx (by omega) e.symm)).1 h.apart⟩
def RowOk (cs : List Car) (t : List Int) : Prop := ∀ k, k < t.length → 0 < grp cs (t.getD k 0) → (∃ c ∈ t.take k, grp cs c = grp cs (t.getD k 0)) → 0 < k ∧ grp cs (t.getD (k - 1) 0) = grp cs (t.getD k 0)
theorem getD_app {a b : List Int} {k : Nat} : (a ++ b).getD k 0 = if k < a.length then a.getD k 0 else b.getD (k - a.length) 0 := by
  simp only [List.getD]
  split
  · rename_i h; rw [List.getElem?_append_left h]
  · rename_i h; rw [List.getElem?_append_right (by omega)]
theorem Blk.row {cs : List Car} : ∀ {bl : List (List Int)}, Blk cs bl → RowOk cs bl.flatten := by
  intro bl
  induction bl with
  | nil => intro _ k hk; simp at hk
  | cons b r ih =>
    intro h k hk h0 hc;have ih := ih ⟨fun b hb => h.one b (List.mem_cons_of_mem _ hb), (List.pairwise_cons.1 h.apart).2⟩;rw [List.flatten_cons] at hk h0 hc ⊢;obtain ⟨c, hc, e⟩ := hc
    by_cases hkb : k < b.length
    · have e0 : (b ++ r.flatten).getD k 0 = b.getD k 0 := by rw [getD_app, if_pos hkb]
      rw [List.take_append_of_le_length (by omega)] at hc;have hk0 : 0 < k := by
        rcases Nat.eq_zero_or_pos k with hz | hz
        · subst hz; simp at hc
        · exact hz
      refine ⟨hk0, ?_⟩;rw [e0, getD_app, if_pos (by omega)];exact h.one b List.mem_cons_self _ (getD_mem (by omega)) _ (getD_mem hkb)
    · have e0 : (b ++ r.flatten).getD k 0 = r.flatten.getD (k - b.length) 0 := by rw [getD_app, if_neg hkb]
      rw [e0] at h0 e ⊢;have hk2 : k - b.length < r.flatten.length := by rw [List.length_append] at hk; omega
      have hmem : r.flatten.getD (k - b.length) 0 ∈ r.flatten := getD_mem hk2;rw [List.take_append, List.take_of_length_le (by omega)] at hc;rcases List.mem_append.1 hc with hc | hc
      · exfalso
        obtain ⟨b2, hb2, hm2⟩ := List.mem_flatten.1 hmem;exact (List.pairwise_cons.1 h.apart).1 b2 hb2 c hc _ hm2 (by omega) e
      · obtain ⟨i1, i2⟩ := ih (k - b.length) hk2 h0 ⟨c, hc, e⟩
        refine ⟨by omega, ?_⟩;rw [getD_app, if_neg (by omega), show k - 1 - b.length = k - b.length - 1 by omega];exact i2
theorem coupled_of {cs : List Car} {t : List Int} {k : Nat} (hk : k < t.length) (h0 : 0 < grp cs (t.getD k 0)) (h1 : 0 < k) (e : grp cs (t.getD (k - 1) 0) = grp cs (t.getD k 0)) : coupled cs t ↑k = true := by
  rw [coupled_raw hk, show ((k : Int) - 1).toNat = k - 1 by omega, decide_eq_true (show 0 < (k : Int) by omega), decide_eq_true (show 0 < (carAt cs (t.getD k 0)).grp from h0), decide_eq_true (show (carAt cs (t.getD k 0)).grp = (carAt cs (t.getD (k - 1) 0)).grp from e.symm)];rfl
theorem coupled_to {cs : List Car} {t : List Int} {k : Nat} (hk : k < t.length) (h : coupled cs t ↑k = true) : 0 < k ∧ 0 < grp cs (t.getD k 0) ∧ grp cs (t.getD k 0) = grp cs (t.getD (k - 1) 0) := by
  rw [coupled_raw hk, show ((k : Int) - 1).toNat = k - 1 by omega] at h;simp only [Bool.and_eq_true, decide_eq_true_eq] at h;exact ⟨by omega, h.2.1, h.2.2⟩
theorem blocks_blk {cs : List Car} {t : List Int} (h : ∀ k, k < t.length → 0 < grp cs (t.getD k 0) → (∃ c ∈ t.take k, grp cs c = grp cs (t.getD k 0)) → coupled cs t ↑k = true) :
    ∀ k, k ≤ t.length → Blk cs (blocksTo cs t k) ∧ (0 < k → ∃ ys y, blocksTo cs t k = ys ++ [y] ∧ t.getD (k - 1) 0 ∈ y) := by
  intro k
  induction k with
  | zero => intro _; exact ⟨⟨fun b hb => by simp [blocksTo] at hb, by simp [blocksTo]⟩, fun h => by omega⟩
  | succ k ih =>
    intro hk;obtain ⟨hb, hl⟩ := ih (by omega)
    by_cases hc : coupled cs t ↑k = true
    · obtain ⟨c1, c2, c3⟩ := coupled_to (by omega) hc
      obtain ⟨ys, y, e, hy⟩ := hl c1;have e2 : blocksTo cs t (k + 1) = ys ++ [y ++ [t.getD k 0]] := by
        rw [blocksTo_yes hc, e];simp [List.getD]
      rw [e2];rw [e] at hb;have ho := hb.one;have ha := List.pairwise_append.1 hb.apart;refine ⟨⟨fun b hb2 => ?_, List.pairwise_append.2 ⟨ha.1, by simp, fun b hb2 c hc2 => ?_⟩⟩, fun _ => ⟨ys, _, rfl, by simp⟩⟩
      · rcases List.mem_append.1 hb2 with hb2 | hb2
        · exact ho b (List.mem_append_left _ hb2)
        · have hb2 := List.mem_singleton.1 hb2
          subst hb2;have key : ∀ x ∈ y ++ [t.getD k 0], grp cs x = grp cs (t.getD (k - 1) 0) := fun x hx => by
            rcases List.mem_append.1 hx with hx | hx
            · exact ho y (by simp) x hx _ hy
            · have hx := List.mem_singleton.1 hx; subst hx; exact c3
          intro x hx z hz;rw [key x hx, key z hz]
      · have hc2 := List.mem_singleton.1 hc2
        subst hc2;intro x hx z hz h0;rcases List.mem_append.1 hz with hz | hz
        · exact ha.2.2 b hb2 y (by simp) x hx z hz h0
        · have hz := List.mem_singleton.1 hz; subst hz
          rw [c3];exact ha.2.2 b hb2 y (by simp) x hx _ hy h0
    · have hc' : coupled cs t ↑k = false := by simpa using hc
      rw [blocksTo_no hc'];refine ⟨⟨fun b hb2 => ?_, List.pairwise_append.2 ⟨hb.apart, by simp, fun b hb2 c hc2 => ?_⟩⟩, fun _ => ⟨_, _, rfl, by simp⟩⟩
      · rcases List.mem_append.1 hb2 with hb2 | hb2
        · exact hb.one b hb2
        · have hb2 := List.mem_singleton.1 hb2
          subst hb2;intro x hx z hz;rw [List.mem_singleton.1 hx, List.mem_singleton.1 hz]
      · have hc2 := List.mem_singleton.1 hc2
        subst hc2;intro x hx z hz h0 e;have hz := List.mem_singleton.1 hz; subst hz;refine hc (h k (by omega) (by omega) ⟨x, ?_, e⟩);rw [← blocksTo_flat k (by omega)];exact List.mem_flatten.2 ⟨b, hb2, hx⟩
theorem rowsN_perm : ∀ (n : Nat) (bl : List (List Int)), bl.length = n → ∀ x ∈ rowsN n bl, ∃ bl' : List (List Int), bl'.Perm bl ∧ x = bl'.flatten := by
  intro n
  induction n with
  | zero => intro bl h x hx; simp [rowsN, ordN] at hx; subst hx; exact ⟨[], by rw [List.length_eq_zero_iff.1 h], rfl⟩
  | succ n ih =>
    intro bl h x hx;simp only [rowsN, ordN, ordFrom, List.mem_flatMap, List.mem_map] at hx;obtain ⟨i, hi, y, hy, rfl⟩ := hx;have hi := List.mem_range'_1.1 hi;obtain ⟨bl', hp, rfl⟩ := ih _ (erase_len (k := i) (by omega) h) y hy;refine ⟨bl.getD i [] :: bl', ?_, rfl⟩;refine (List.Perm.cons _ hp).trans ?_;have hb : i < bl.length := by omega
    exact erase_perm hb
theorem Fine.row {Y : Yard} (f : Fine Y) {r : List Int} (hr : r ∈ rowsN (blocksOf Y.cars (trk Y 0)).length (blocksOf Y.cars (trk Y 0))) : Valid { Y with tracks := Y.tracks.set 0 r } ∧ r.Perm (trk Y 0) := by
  have hlen := f.len; have hr1 := f.room1;obtain ⟨t, ts, ht⟩ : ∃ t ts, Y.tracks = t :: ts := by
    cases hh : Y.tracks with
    | nil => rw [hh] at hlen; simp at hlen; omega
    | cons t ts => exact ⟨t, ts, rfl⟩
  have ht0 : trk Y 0 = t := by show Y.tracks.getD 0 [] = t; rw [ht]; rfl
  rw [ht0] at hr ⊢;have hg := groups_iff.1 f.groups;have hrow : ∀ k, k < t.length → 0 < grp Y.cars (t.getD k 0) → (∃ c ∈ t.take k, grp Y.cars c = grp Y.cars (t.getD k 0)) → coupled Y.cars t ↑k = true := fun k hk h0 hc => by
    have := hg 0 k (by rw [ht]; simp) (by rw [ht]; simpa using hk) (by rw [ht]; simpa using h0) (.inr (by rw [ht]; simpa using hc));rw [ht] at this; simpa using this
  obtain ⟨hb, _⟩ := blocks_blk hrow t.length (Nat.le_refl _);obtain ⟨bl', hp, rfl⟩ := rowsN_perm _ _ rfl r hr;have hflat : (blocksOf Y.cars t).flatten = t := by
    have := blocksTo_flat (cs := Y.cars) (t := t) t.length (Nat.le_refl _);rw [List.take_length] at this; exact this
  have hperm : bl'.flatten.Perm t := by
    have := hp.flatten;rw [hflat] at this; exact this
  have hrok := (Blk.perm hb hp.symm).row;refine ⟨Fine.valid ⟨f.cars, f.carOk, f.room1, f.room3, f.roomOk, by rw [List.length_set]; exact f.len, ?_, ?_, ?_, ?_, ?_⟩, hperm⟩
  all_goals simp only [ht, List.set_cons_zero]
  · intro x hx c hc
    have hok := f.ok;rw [ht] at hok;rcases List.mem_cons.1 hx with e | hx
    · subst e; exact hok t List.mem_cons_self c (hperm.mem_iff.1 hc)
    · exact hok x (List.mem_cons_of_mem _ hx) c hc
  · have hn := f.nodup
    rw [ht] at hn;rw [List.flatten_cons] at hn ⊢;exact (List.Perm.append_right _ hperm).nodup_iff.2 hn
  · intro k hk
    have hf := f.fits;rw [ht] at hf;cases k with
    | zero =>
      have := hf 0 (by simp);rw [List.getD_cons_zero] at this ⊢;have e : lenOf Y.cars bl'.flatten = lenOf Y.cars t := by
        unfold lenOf; exact perm_sum (hperm.map _)
      rw [e]; exact this
    | succ k => simpa using hf (k + 1) (by simpa using hk)
  · have ha := f.all
    rw [ht] at ha;rw [List.flatten_cons, List.length_append] at ha ⊢;rw [hperm.length_eq]; exact ha
  · refine groups_iff.2 ?_
    show GrpFrom Y.cars (bl'.flatten :: ts) [];intro i k hi hk h0 hm;rcases hm with hm | ⟨c, hc, e⟩
    · simp at hm
    · cases i with
      | zero =>
        simp only [List.getD_cons_zero, List.take_zero, List.flatten_nil, List.nil_append] at hk h0 hc e ⊢;obtain ⟨h1, h2⟩ := hrok k hk h0 ⟨c, hc, e⟩;exact coupled_of hk h0 h1 h2
      | succ i =>
        have := hg (i + 1) k (by rw [ht]; simpa using hi) (by rw [ht]; simpa using hk) (by rw [ht]; simpa using h0) (.inr ⟨c, by
          rw [ht]
          simp only [List.take_succ_cons, List.flatten_cons, List.getD_cons_succ, List.mem_append] at hc ⊢
          rcases hc with (hc | hc) | hc
          · exact .inl (.inl (hperm.mem_iff.1 hc))
          · exact .inl (.inr hc)
          · exact .inr hc, by rw [ht]; simpa using e⟩)
        rw [ht] at this; simpa using this

end Go.Sh
namespace Go.Sh
open Go Go.Sl
end Go.Sh
namespace Go.Sh
open Go Go.Sl

theorem plain_len {goal : Yard → Bool} : ∀ (d : Nat) (Y : Yard) (l : List Shift), plain goal d Y = some l → (∀ m, m < d → plain goal m Y = none) → l.length = d := by
  intro d
  induction d with
  | zero =>
    intro Y l h _;simp only [plain] at h
    split at h
    · cases h; rfl
    · cases h
  | succ d ih =>
    intro Y l h hm;have hg : goal Y ≠ true := fun hg => by have := hm 0 (by omega); rw [plain_goal hg] at this; cases this
    simp only [plain, if_neg hg] at h;obtain ⟨s, hs, h2⟩ := List.exists_of_findSome?_eq_some h;obtain ⟨l', hl', rfl⟩ := Option.map_eq_some_iff.1 h2;have := ih _ l' hl' (fun m hmd => plain_down (hm (m + 1) (by omega)) hs);simp [this]
theorem plain_play {goal : Yard → Bool} : ∀ (d : Nat) (Y : Yard) (l : List Shift), plain goal d Y = some l → ∃ Z, playFrom Y l = (Z, 0) ∧ goal Z = true ∧ Kin Y Z ∧ l.length ≤ d := by
  intro d
  induction d with
  | zero =>
    intro Y l h;simp only [plain] at h
    split at h
    · rename_i hg; cases h; exact ⟨Y, rfl, hg, Kin.refl Y, Nat.le_refl _⟩
    · cases h
  | succ d ih =>
    intro Y l h
    by_cases hg : goal Y = true
    · rw [plain_goal hg] at h; cases h; exact ⟨Y, rfl, hg, Kin.refl Y, Nat.zero_le _⟩
    · simp only [plain, if_neg hg] at h
      obtain ⟨s, hs, h2⟩ := List.exists_of_findSome?_eq_some h;obtain ⟨l', hl', rfl⟩ := Option.map_eq_some_iff.1 h2;obtain ⟨Z, h3, h4, h5, h6⟩ := ih _ l' hl';have hm := mem_draws_may hs;exact ⟨Z, by simp only [playFrom]; rw [if_pos hm]; exact h3, h4, (kin_moved hm).trans h5, by simp; omega⟩
theorem plain_some {goal : Yard → Bool} : ∀ (l : List Shift) (d : Nat) (Y Z : Yard), playFrom Y l = (Z, 0) → goal Z = true → l.length ≤ d → plain goal d Y ≠ none := by
  intro l
  induction l with
  | nil =>
    intro d Y Z h hg _;simp only [playFrom, Prod.mk.injEq, and_true] at h;subst h;rw [plain_goal hg]; simp
  | cons s l ih =>
    intro d Y Z h hg hd;obtain ⟨d, rfl⟩ : ∃ e, d = e + 1 := ⟨d - 1, by simp at hd; omega⟩;simp only [playFrom] at h
    split at h
    · rename_i hm
      intro hn;simp only [plain] at hn
      split at hn
      · cases hn
      · have := List.findSome?_eq_none_iff.1 hn s (mem_draws.2 hm)
        have h2 := ih d _ Z h hg (by simpa using hd);simp only [Option.map_eq_none_iff] at this;exact h2 this
    · rename_i hm
      simp only [Prod.mk.injEq] at h;exact absurd h.2 hm
theorem fewestM_some {goal : Yard → Bool} {Y : Yard} {l : List Shift} (h : fewestM goal Y = some l) : ∃ Z, playFrom Y l = (Z, 0) ∧ goal Z = true ∧ Kin Y Z ∧ l.length ≤ 4 ∧ (∀ (l' : List Shift) (Z' : Yard), playFrom Y l' = (Z', 0) → goal Z' = true → l.length ≤ l'.length) := by
  unfold fewestM at h;obtain ⟨l₁, d, l₂, h1, h2, h3⟩ := List.findSome?_eq_some_iff.1 h
  have hd : d < 5 := by have : d ∈ List.range 5 := by rw [h1]; simp
                        simpa using this
  have hlow : ∀ m, m < d → plain goal m Y = none := fun m hm => by
    refine h3 m ?_;have hp : (List.range 5).Pairwise (· < ·) := List.pairwise_lt_range;have hm5 : m ∈ List.range 5 := by simp; omega
    rw [h1] at hm5 hp;rcases List.mem_append.1 hm5 with hx | hx
    · exact hx
    · have := (List.pairwise_append.1 hp).2.1
      rcases List.mem_cons.1 hx with e | hx
      · omega
      · have := List.rel_of_pairwise_cons this hx; omega
  obtain ⟨Z, g1, g2, g3, g4⟩ := plain_play d Y l h2;have hl := plain_len d Y l h2 hlow;refine ⟨Z, g1, g2, g3, by omega, fun l' Z' hp hg => ?_⟩;rcases Nat.lt_or_ge l'.length l.length with hlt | hge
  · exact absurd (hlow l'.length (by omega)) (plain_some l' _ Y Z' hp hg (Nat.le_refl _))
  · exact hge
theorem fewestM_none {goal : Yard → Bool} {Y : Yard} (h : fewestM goal Y = none) : ∀ (l' : List Shift) (Z' : Yard), playFrom Y l' = (Z', 0) → goal Z' = true → 4 < l'.length := fun l' Z' hp hg => by
  rcases Nat.lt_or_ge 4 l'.length with hlt | hge
  · exact hlt
  · have := List.findSome?_eq_none_iff.1 h l'.length (by simp; omega)
    exact absurd this (plain_some l' _ Y Z' hp hg (Nat.le_refl _))
theorem playFrom_kin : ∀ (l : List Shift) {Y Z : Yard}, playFrom Y l = (Z, 0) → Kin Y Z := by
  intro l
  induction l with
  | nil => intro Y Z h; simp only [playFrom, Prod.mk.injEq, and_true] at h; subst h; exact Kin.refl _
  | cons s l ih =>
    intro Y Z h;simp only [playFrom] at h
    split at h
    · rename_i hm; exact (kin_moved hm).trans (ih h)
    · rename_i hm; simp only [Prod.mk.injEq] at h; exact absurd h.2 hm

theorem whole_perm_of {l : List Int} {n : Nat} (hn : l.Nodup) (hr : ∀ x ∈ l, 0 ≤ x ∧ x < (n : Int)) (hl : n ≤ l.length) : l.Perm (wholeL n) := by
  refine (List.perm_ext_iff_of_nodup hn ((wholeL_sorted _).imp fun hab => by omega)).2 fun x => ⟨fun hx => mem_wholeL.2 (hr x hx), fun hx => ?_⟩
  by_cases hm : x ∈ l
  · exact hm
  · have := range_bound (l := x :: l) (n := n) (List.nodup_cons.2 ⟨hm, hn⟩) (fun c hc => by
      rcases List.mem_cons.1 hc with rfl | hc
      · exact mem_wholeL.1 hx
      · exact hr c hc)
    simp only [List.length_cons] at this;omega
theorem Fine.whole_perm {Y : Yard} (f : Fine Y) : Y.tracks.flatten.Perm (wholeL Y.cars.length) :=
  whole_perm_of f.nodup (fun x hx => flatten_ok f.ok x hx) f.all
theorem goO_fine {n : Nat} : ∀ (o pre : List Int), (pre ++ o).Nodup → (∀ c ∈ o, 0 ≤ c ∧ c < n) → goO n pre o = 0 := by
  intro o
  induction o with
  | nil => intro pre _ _; rfl
  | cons c r ih =>
    intro pre hn hr;simp only [goO];have h1 := hr c (by simp)
    rw [if_pos (by simp [inB]; omega), if_neg (fun hc => by
      have := (List.nodup_append.1 hn).2.2 c hc c (by simp)
      exact this rfl)]
    exact ih (pre ++ [c]) (by rw [List.append_assoc]; exact hn) (fun x hx => hr x (by simp [hx]))
end Go.Sh
namespace Go.Sh
open Go Go.Sl

def coachErr (Y : Yard) : Int :=
  if 5 < Y.cars.length then 6 else
  if Y.cars.all (fun c => decide (carErr c = 0)) then
    (if Y.room.length = 0 then 7 else if 3 < Y.room.length then 6 else if Y.room.all (fun n => inB n 0 20) then 0 else 1)
  else 1
theorem checkErr_split (Y : Yard) : checkErr Y = if coachErr Y = 0 then tracksErr Y else coachErr Y := by
  unfold checkErr coachErr
  by_cases h1 : 5 < Y.cars.length
  · rw [if_pos h1, if_pos h1, if_neg (by decide)]
  · rw [if_neg h1, if_neg h1]
    cases h2 : Y.cars.all (fun c => decide (carErr c = 0)) with
    | false => simp
    | true =>
      simp only [if_true]
      by_cases h3 : Y.room.length = 0
      · rw [if_pos h3, if_pos h3, if_neg (by decide)]
      · rw [if_neg h3, if_neg h3]
        by_cases h4 : 3 < Y.room.length
        · rw [if_pos h4, if_pos h4, if_neg (by decide)]
        · rw [if_neg h4, if_neg h4]
          cases h5 : Y.room.all (fun n => inB n 0 20) <;> simp
section
variable {Y : Yard} {k : Nat}
theorem coachErr_many (h : 5 < Y.cars.length) : coachErr Y = 6 := by rw [coachErr, if_pos h]
theorem coachErr_car (h : ¬ 5 < Y.cars.length) (hk : k < Y.cars.length) (hc : carErr (Y.cars.getD k noCar) ≠ 0) : coachErr Y = 1 := by
  rw [coachErr, if_neg h, if_neg];intro hall;have := List.all_eq_true.1 hall _ (getD_mem (d := noCar) hk);exact hc (of_decide_eq_true this)
theorem coachErr_few (h : ¬ 5 < Y.cars.length) (hc : ∀ c ∈ Y.cars, carErr c = 0) (h0 : Y.room.length = 0) : coachErr Y = 7 := by rw [coachErr, if_neg h, if_pos (carsAll hc), if_pos h0]
theorem coachErr_many2 (h : ¬ 5 < Y.cars.length) (hc : ∀ c ∈ Y.cars, carErr c = 0) (h0 : 3 < Y.room.length) : coachErr Y = 6 := by rw [coachErr, if_neg h, if_pos (carsAll hc), if_neg (by omega), if_pos h0]
theorem coachErr_room (h : ¬ 5 < Y.cars.length) (hc : ∀ c ∈ Y.cars, carErr c = 0) (h0 : ¬ Y.room.length = 0) (h1 : ¬ 3 < Y.room.length) (hk : k < Y.room.length) (hb : inB (Y.room.getD k 0) 0 20 = false) : coachErr Y = 1 := by
  rw [coachErr, if_neg h, if_pos (carsAll hc), if_neg h0, if_neg h1, if_neg];intro hall;have := List.all_eq_true.1 hall _ (getD_mem (d := 0) hk);rw [hb] at this; cases this
theorem coachErr_ok (h : ¬ 5 < Y.cars.length) (hc : ∀ c ∈ Y.cars, carErr c = 0) (h0 : ¬ Y.room.length = 0) (h1 : ¬ 3 < Y.room.length) (hm : ∀ n ∈ Y.room, inB n 0 20 = true) : coachErr Y = 0 := by
  rw [coachErr, if_neg h, if_pos (carsAll hc), if_neg h0, if_neg h1, if_pos (List.all_eq_true.2 hm)]
end

def cntG (cs : List Car) (g : Int) : Nat := (cs.filter fun c => decide (c.grp = g)).length
theorem cntG_succ {cs : List Car} {g : Int} {k : Nat} (hk : k < cs.length) : cntG (cs.take (k + 1)) g = cntG (cs.take k) g + if (cs.getD k noCar).grp = g then 1 else 0 := by
  unfold cntG;rw [take_snoc (d := noCar) hk, List.filter_append, List.length_append]
  congr 1
  by_cases h : (cs.getD k noCar).grp = g
  · rw [List.filter_cons, if_pos (decide_eq_true h), if_pos h]; rfl
  · rw [List.filter_cons, if_neg (by simp only [decide_eq_true_eq]; exact h), if_neg h]; rfl
def rowS (cs : List Car) (g : Int) (s : Nat × Nat) (c : Int) : Nat × Nat :=
  let row := if grp cs c = g then s.1 + 1 else 0
  (row, max s.2 row)
def rowT (cs : List Car) (g : Int) (most : Nat) (t : List Int) : Nat × Nat := t.foldl (rowS cs g) (0, most)
def mostTo (cs : List Car) (g : Int) (ts : List (List Int)) : Nat := ts.foldl (fun most t => (rowT cs g most t).2) 0
def togetherP (Y : Yard) (g : Int) : Bool := decide ((mostTo Y.cars g Y.tracks : Int) = (cntG Y.cars g : Int))
theorem rowT_succ {cs : List Car} {g : Int} {m : Nat} {t : List Int} {k : Nat} (hk : k < t.length) : rowT cs g m (t.take (k + 1)) = rowS cs g (rowT cs g m (t.take k)) (t.getD k 0) := by
  unfold rowT;rw [take_snoc (d := 0) hk, List.foldl_append]; rfl
theorem mostTo_succ {cs : List Car} {g : Int} {ts : List (List Int)} {k : Nat} (hk : k < ts.length) : mostTo cs g (ts.take (k + 1)) = (rowT cs g (mostTo cs g (ts.take k)) (ts.getD k [])).2 := by
  unfold mostTo;rw [take_snoc (d := []) hk, List.foldl_append]; rfl
theorem rowS_yes {cs : List Car} {g c : Int} {r m : Nat} (h : grp cs c = g) : rowS cs g (r, m) c = (r + 1, max m (r + 1)) := by simp only [rowS, if_pos h]
theorem rowS_no {cs : List Car} {g c : Int} {r m : Nat} (h : grp cs c ≠ g) : rowS cs g (r, m) c = (0, max m 0) := by simp only [rowS, if_neg h]
def refG (Y : Yard) : Int := if togetherP Y 1 && (togetherP Y 2 && togetherP Y 3) then 0 else 12
theorem refG_hit {Y : Yard} {g : Nat} (h1 : 1 ≤ g) (h3 : g ≤ 3) (h : togetherP Y ↑g = false) : refG Y = 12 := by
  unfold refG;rw [if_neg];intro hh;simp only [Bool.and_eq_true] at hh;have : g = 1 ∨ g = 2 ∨ g = 3 := by omega
  rcases this with rfl | rfl | rfl
  · have h2 := hh.1; rw [show ((1 : Int)) = ((1 : Nat) : Int) from rfl, h] at h2; cases h2
  · have h2 := hh.2.1; rw [show ((2 : Int)) = ((2 : Nat) : Int) from rfl, h] at h2; cases h2
  · have h2 := hh.2.2; rw [show ((3 : Int)) = ((3 : Nat) : Int) from rfl, h] at h2; cases h2
theorem refG_ok {Y : Yard} (h : ∀ g : Nat, 1 ≤ g → g < 4 → togetherP Y ↑g = true) : refG Y = 0 := by
  unfold refG;rw [if_pos];simp only [Bool.and_eq_true];exact ⟨h 1 (by omega) (by omega), h 2 (by omega) (by omega), h 3 (by omega) (by omega)⟩
def refTracks (Y : Yard) : Int :=
  if Y.tracks.length = Y.room.length then goTracks Y.cars (fun met => if met.length < Y.cars.length then 7 else refG Y) Y.tracks Y.room [] else 2
theorem met_snoc {met : List Int} {c : Int} (h : met.Nodup) (hc : ¬ c ∈ met) : (met ++ [c]).Nodup := List.nodup_append.2 ⟨h, by simp, fun a ha b hb => by simp at hb; subst hb; intro e; subst e; exact hc ha⟩
theorem met_in {met : List Int} {c : Int} {n : Nat} (h : ∀ x ∈ met, 0 ≤ x ∧ x < (n : Int)) (hc : 0 ≤ c ∧ c < (n : Int)) : ∀ x ∈ met ++ [c], 0 ≤ x ∧ x < (n : Int) := fun x hx => by
  rcases List.mem_append.1 hx with hx | hx
  · exact h x hx
  · simp at hx; subst hx; exact hc

def refCheck (Y : Yard) : Int := if coachErr Y = 0 then refTracks Y else coachErr Y
theorem coachErr_zero {Y : Yard} (h : coachErr Y = 0) : Small Y.cars ∧ Y.cars.length ≤ 5 := by
  unfold coachErr at h
  split at h
  · cases h
  · rename_i h1
    split at h
    · rename_i h2
      exact ⟨small_of_ok fun c hc => of_decide_eq_true (List.all_eq_true.1 h2 c hc), by omega⟩
    · cases h

theorem coupled_at {cs : List Car} {t : List Int} {j : Int} (h0 : 0 < j) (h1 : j ≤ ↑t.length - 1) : coupled cs t j = (cmp .gtr ((cs.getD ((t.getD (j.toNat) 0).toNat) noCar).grp) 0 && cmp .eql ((cs.getD ((t.getD (j.toNat) 0).toNat) noCar).grp) ((cs.getD ((t.getD ((j - 1).toNat) 0).toNat) noCar).grp)) := by
  have e : inB j 1 (↑t.length - 1) = true := by simp [inB]; omega
  simp only [coupled, carAt, cmp_gtr, cmp_eql, e, Bool.true_and];rfl
theorem coupled_zero {cs : List Car} {t : List Int} {j : Int} (h0 : j ≤ 0) : coupled cs t j = false := by
  have e : inB j 1 (↑t.length - 1) = false := by simp [inB]; omega
  simp only [coupled, e, Bool.false_and]
theorem mayErr_12 {Y : Yard} {s : Shift} {n : Nat} (hn : n = Y.tracks.length) (h : (!(inB s.frm 0 (↑n - 1)) || !(inB s.to 0 (↑n - 1))) = true) : mayErr Y s = 3 := by
  cases h1 : inB s.frm 0 (↑n - 1) with
  | false => exact mayErr_1 hn h1
  | true =>
    rw [h1] at h;simp only [Bool.not_true, Bool.false_or] at h;exact mayErr_2 hn h1 (by simpa using h)
end Go.Sh
namespace Go.Proofs.YtcaocbhbofejnaaGreatDoor
open Go Go.Sl Go.Sh
set_option maxRecDepth 100000
noncomputable def c_between (p : List Nat) : Code := sub (bodyOf Tryz.f87) p
theorem between_ct (I : Imm) (n : Int) (lo : Int) (hi : Int) : CtV Tryz.prog 87 #[.int .i64 n, .int .i64 lo, .int .i64 hi] I (.bool (inB n lo hi)) := by
 refine fr (args := [_, _, _]) (N := 15) Tryz.func87 (fun F => ?_);show Run _ _ (c_between []) _ _ [(0, .int .i64 (n)), (1, .int .i64 (lo)), (2, .int .i64 (hi))] _ _;refine rnm (rqr ?_);refine sp 1 [(6, .bool (false))] ?_;refine se (rq ?_);refine run_cut (fun a w => Slots 15 [(6, .bool ((cmp .leq (lo) (n)) && (cmp .leq (n) (hi))))] a ∧ a.defers = [] ∧ St I (F) w) ?_ ?_
 ·
  refine rr ?_;refine sp 4 [(10, .bool (cmp .leq (lo) (n)))] ?_;refine seq_split 10 rfl (fun h1 => ?_) (fun h1 => ?_)
  ·
   have a0 := h1;have a0 := leq_t a0;refine sp 5 [(6, .bool (cmp .leq (n) (hi)))] ?_;refine ee ?_;refine pst_meet (fun a w hS hD hW => ⟨hS.sub (.consE 6 rfl (congrArg Value.bool (by simp only [h1, Bool.true_and, Bool.false_and, Bool.and_true, Bool.and_false, Bool.true_or, Bool.false_or, Bool.or_true, Bool.or_false, cond_true, cond_false])) (.nil _)), hD, hW⟩)
  have a0 := h1;have a0 := leq_f a0;refine sp 5 [(6, .bool (false))] ?_;refine ee ?_;refine pst_meet (fun a w hS hD hW => ⟨hS.sub (.consE 6 rfl (congrArg Value.bool (by simp only [h1, Bool.true_and, Bool.false_and, Bool.and_true, Bool.and_false, Bool.true_or, Bool.false_or, Bool.or_true, Bool.or_false, cond_true, cond_false])) (.nil _)), hD, hW⟩)
 rintro a w ⟨hS, hD, hW⟩
 refine run_at hS hD hW ?_;clear hS hD hW a w;refine rret ?_;refine pst_ret1 (t := 6) [] (by kernel_rfl) rfl (TR _) (Imm.le.refl _) ?_;exact ⟨by simp [inB, cmp], rfl⟩

noncomputable def c_has (p : List Nat) : Code := sub (bodyOf Tryz.f133) p
theorem has_ct (I : Imm) (a : Value) (xs : List Int) (n : Int) (a_f : IsInts I a xs) : CtV Tryz.prog 133 #[a, .int .i64 n] I (.bool (decide (n ∈ xs))) := by
 obtain ⟨a0, a1, a6, a9, a5, a7, a8, a4⟩ := id a_f;subst a5;refine fr (args := [_, _]) (N := 18) Tryz.func133 (fun F => ?_);show Run _ _ (c_has []) _ _ [(0, .slice a0 xs.length a1), (1, .int .i64 (n))] _ _;refine rnm (rqr ?_);refine sp 1 [(4, .bool (false))] ?_;refine se (rq (rqr ?_));refine sp 1 [(5, .int .i64 (0))] ?_;refine se (rb 0 ?_);refine rl (fun mz a w => ∃ k : Nat, (k ≤ xs.length) ∧ (n ∉ xs.take k) ∧ Slots 18 [(5, .int .i64 ↑k), (0, .slice a0 xs.length a1), (1, .int .i64 (n))] a ∧ a.defers = [] ∧ St I (F) w ∧ mz = xs.length - k) ?_ ?_
 ·intro a w hS hD hW;exact ⟨_, 0, Nat.zero_le _, by simp, hS.sub (.cons 5 rfl (.cons 0 rfl (.cons 1 rfl (.nil _)))), hD, hW, rfl⟩
 rintro mz a w ⟨k, hk, hn, hS, hD, hW, rfl⟩
 refine run_at hS hD hW ?_;clear hS hD hW a w;refine rq (rqr ?_);refine sp 4 [(9, .bool (cmp .lss (↑k) (↑(xs.length))))] ?_;refine se ?_;refine rc 9 rfl (fun h1 => ?_) (fun h1 => ?_)
 ·
  have a2 := h1;have h1 := lss_t h1;refine rskip (pst_next (rq (rb 1 (rqr ?_))));refine sp 2 [(13, .int .i64 (↑k)), (12, .slice a0 xs.length a1)] ?_;refine sd (di 14 1 (k) a4.addr) ?_;refine sd (dl 15 (ints_get a4 (k) (by omega))) ?_;refine sp 2 [(17, .bool (cmp .eql (xs.getD (k) 0) (n)))] ?_;refine se ?_;refine rc 17 rfl (fun h2 => ?_) (fun h2 => ?_)
  ·
   have a3 := h2;have h2 := eql_t h2;refine rqr ?_;refine sp 1 [(4, .bool (true))] ?_;refine se (rret ?_);refine (pst_ret_block (pst_ret_pass (pst_ret_pass (pst_ret_block (pst_ret_pass ?_)))));refine pst_ret1 (t := 4) [] (by kernel_rfl) rfl (TR _) (Imm.le.refl _) ?_;exact ⟨congrArg Value.bool (decide_eq_true (h2 ▸ getD_mem (by omega))).symm, rfl⟩
  have a3 := h2;have h2 := eql_f h2;refine rskip (pst_normal_block (pst_next (rr ?_)));refine sp 1 [(10, .int .i64 (↑k))] ?_;refine sd (da 11 (↑k) (1)) ?_;refine sp 1 [(5, .int .i64 (↑k + 1))] ?_;refine ee ?_;refine pst_back (xs.length - (k+1)) (by omega) ?_;intro a w hS hD hW;exact ⟨k+1, by omega, not_take_succ hn (by omega) (fun e => h2 e), hS.sub (.consE 5 rfl rfl (.cons 0 rfl (.cons 1 rfl (.nil _)))), hD, hW, rfl⟩
 have a2 := h1;have h1 := lss_f h1;refine rexit 0 ?_;refine (pst_exit_pass (pst_exit_pass (pst_exit_block ?_)));refine pst_next (rqr ?_);refine sp 1 [(4, .bool (false))] ?_;refine se (rret ?_);refine pst_ret1 (t := 4) [] (by kernel_rfl) rfl (TR _) (Imm.le.refl _) ?_;exact ⟨congrArg Value.bool (decide_eq_false (fun hm => hn (by rw [take_done (by omega)]; exact hm))).symm, rfl⟩

noncomputable def c_length (p : List Nat) : Code := sub (bodyOf Tryz.f114) p
theorem length_ct (I : Imm) (y : Value) (Y : Yard) (b : Value) (t : List Int) (y_f : IsYard I y Y) (b_f : IsInts I b t) (ho : Ok Y.cars t) (hs : Small Y.cars) : CtV Tryz.prog 114 #[y, b] I (.int .i64 (lenOf Y.cars t)) := by
 obtain ⟨y1, y2, y3, d5, b3, b6, b8⟩ := id y_f;subst d5;obtain ⟨a0, a1, b0, b4, b2, c2, c3, a6⟩ := id b3;subst b2;obtain ⟨a2, a3, c4, c7, b5, c5, c6, c8⟩ := id b6;subst b5;obtain ⟨a4, a5, c9, d2, c0, b7, d0, d1, d3, d4⟩ := id b8;subst b7;obtain ⟨a7, a8, d6, d9, c1, d7, d8, b9⟩ := id b_f;subst c1;refine fr (args := [_, _]) (N := 25) Tryz.func114 (fun F => ?_);show Run _ _ (c_length []) _ _ [(0, .agg #[.slice a0 Y.cars.length a1, .slice a2 Y.room.length a3, .slice a4 Y.tracks.length a5]), (1, .slice a7 t.length a8)] _ _;refine rnm (rqr ?_);refine sS (sb 2 26 #[.slice a0 Y.cars.length a1, .slice a2 Y.room.length a3, .slice a4 Y.tracks.length a5] (fun b1 => ?_));refine sp 1 [(4, .int .i64 (0))] ?_;refine sn ?_;refine sp 1 [(5, .int .i64 (0))] ?_;refine se (rq (rqr ?_));refine sp 1 [(6, .int .i64 (0))] ?_;refine se (rb 0 ?_);refine rl (fun mz a w => ∃ k : Nat, (k ≤ t.length) ∧ Slots 25 [(5, .int .i64 (lenOf Y.cars (t.take k))), (6, .int .i64 ↑k), (1, .slice a7 t.length a8), (2, .pointer (some ⟨b1, 0, none⟩)), (4, .int .i64 (0))] a ∧ a.defers = [] ∧ St I ((b1, Obj.cells #[.slice a0 Y.cars.length a1, .slice a2 Y.room.length a3, .slice a4 Y.tracks.length a5] 26 (0, 0)) :: F) w ∧ mz = t.length - k) ?_ ?_
 ·intro a w hS hD hW;exact ⟨_, 0, Nat.zero_le _, hS.sub (.cons 5 rfl (.cons 6 rfl (.cons 1 rfl (.cons 2 rfl (.cons 4 rfl (.nil _)))))), hD, hW, rfl⟩
 rintro mz a w ⟨k, hk, hS, hD, hW, rfl⟩
 refine run_at hS hD hW ?_;clear hS hD hW a w;refine rq (rqr ?_);refine sp 4 [(10, .bool (cmp .lss (↑k) (↑(t.length))))] ?_;refine se ?_;refine rc 10 rfl (fun h1 => ?_) (fun h1 => ?_)
 ·
  have a9 := h1;have h1 := lss_t h1;refine rskip (pst_next (rq (rb 1 ?_)));refine rd0 10 ?_;refine ox 2 [(14, .pointer (some ⟨b1, 0, none⟩)), (13, .int .i64 (lenOf Y.cars (t.take k)))] ?_;refine ofp_det (dlb 15 0 0 b1 (.slice a0 Y.cars.length a1)) ?_;refine ox 2 [(17, .int .i64 (↑k)), (16, .slice a7 t.length a8)] ?_;refine ofp_det (di 18 1 (k) b9.addr) ?_;refine ofp_det (dl 19 (ints_get b9 (k) (by omega))) ?_;have hc := ho.at k (by omega);refine ofp_det (diI 20 6 (t.getD (k) 0) a6.addr) ?_;refine ox 1 [(21, .pointer (some ⟨b0, b4 + ((t.getD (k) 0 : Int).toNat) * 6, none⟩))] ?_;refine ofp_det (dl 22 (cars_get a6 ((t.getD (k) 0 : Int).toNat) (by omega) 0 (by decide) (v := .int .i64 ((Y.cars.getD ((t.getD (k) 0 : Int).toNat) noCar).len)) rfl)) ?_;refine ofp_end0 ?_;refine sd (da 23 (lenOf Y.cars (t.take k)) ((Y.cars.getD ((t.getD (k) 0 : Int).toNat) noCar).len) (hr := by have h1 := lenOf_bound hs (t.take k); have h2 := hs.at (t.getD k 0); simp only [carAt, LK] at h1 h2; omega)) ?_;refine sp 1 [(5, .int .i64 ((lenOf Y.cars (t.take k)) + ((Y.cars.getD ((t.getD (k) 0 : Int).toNat) noCar).len)))] ?_;refine ee (pst_normal_block (pst_next (rr ?_)));refine sp 1 [(11, .int .i64 (↑k))] ?_;refine sd (da 12 (↑k) (1)) ?_;refine sp 1 [(6, .int .i64 (↑k + 1))] ?_;refine ee ?_;refine pst_back (t.length - (k+1)) (by omega) ?_;intro a w hS hD hW;exact ⟨k+1, by omega, hS.sub (.consE 5 rfl (congrArg (Value.int .i64) (lenOf_succ (by omega)).symm) (.consE 6 rfl rfl (.cons 1 rfl (.cons 2 rfl (.cons 4 rfl (.nil _)))))), hD, hW, rfl⟩
 have a9 := h1;have h1 := lss_f h1;refine rexit 0 ?_;refine (pst_exit_pass (pst_exit_pass (pst_exit_block ?_)));refine pst_next (rqr ?_);refine sp 2 [(4, .int .i64 (lenOf Y.cars (t.take k)))] ?_;refine se (rret ?_);refine pst_ret1 (t := 4) [] (by kernel_rfl) rfl (TC _ (TR _)) (Imm.le.refl _) ?_;exact ⟨by rw [take_done (by omega)], rfl⟩

end Go.Proofs.YtcaocbhbofejnaaGreatDoor
namespace Go.Proofs.YtcaocbhbofejnaaGreatDoor
open Go Go.Sl Go.Sh
set_option maxRecDepth 100000
noncomputable def c_checkCoaches (p : List Nat) : Code := sub (bodyOf Tryz.f98) p
theorem checkCoaches_ct (I : Imm) (y : Value) (Y : Yard) (y_f : IsYard I y Y) : CtV Tryz.prog 98 #[y] I (.int .i64 (coachErr Y)) := by
 obtain ⟨y1, y2, y3, f8, d7, d9, e1⟩ := id y_f;subst f8;obtain ⟨a4, a5, e4, e7, d6, e5, e6, c6⟩ := id d7;subst d6;obtain ⟨a2, a3, e8, f1, d8, e9, f0, c7⟩ := id d9;subst d8;obtain ⟨b2, b4, f2, f5, e3, e0, f3, f4, f6, f7⟩ := id e1;subst e0;refine fr (args := [_]) (N := 68) Tryz.func98 (fun F => ?_);show Run _ _ (c_checkCoaches []) _ _ [(0, .agg #[.slice a4 Y.cars.length a5, .slice a2 Y.room.length a3, .slice b2 Y.tracks.length b4])] _ _;refine rnm (rqr ?_);refine sS (sb 1 26 #[.slice a4 Y.cars.length a5, .slice a2 Y.room.length a3, .slice b2 Y.tracks.length b4] (fun b1 => ?_));refine sp 1 [(2, .int .i64 (0))] ?_;refine se (rq (rqr ?_));refine sp 1 [(6, .pointer (some ⟨b1, 0, none⟩))] ?_;refine sd (dlb 7 0 0 b1 (.slice a4 Y.cars.length a5)) ?_;refine sp 2 [(9, .bool (cmp .gtr (↑(Y.cars.length)) (5)))] ?_;refine se ?_;refine rc 9 rfl (fun h1 => ?_) (fun h1 => ?_)
 ·
  have c8 := h1;have h1 := gtr_t h1;refine rqr ?_;refine sp 1 [(2, .int .i64 (6))] ?_;refine se (rret ?_);refine (pst_ret_pass ?_);refine pst_ret1 (t := 2) [] (by kernel_rfl) rfl (TC _ (TR _)) (Imm.le.refl _) ?_;exact ⟨congrArg (Value.int .i64) ((coachErr_many (by omega)).symm), rfl⟩
 have c8 := h1;have h1 := gtr_f h1;refine rskip (pst_next (rq (rqr ?_)));refine sp 1 [(3, .int .i64 (0))] ?_;refine se (rb 0 ?_);refine rl (fun mz a w => ∃ k : Nat, (k ≤ Y.cars.length) ∧ (∀ c ∈ Y.cars.take k, carErr c = 0) ∧ Slots 68 [(3, .int .i64 ↑k), (1, .pointer (some ⟨b1, 0, none⟩))] a ∧ a.defers = [] ∧ St I ((b1, Obj.cells #[.slice a4 Y.cars.length a5, .slice a2 Y.room.length a3, .slice b2 Y.tracks.length b4] 26 (0, 0)) :: F) w ∧ mz = Y.cars.length - k) ?_ ?_
 ·intro a w hS hD hW;exact ⟨_, 0, Nat.zero_le _, (fun c h => by simp at h), hS.sub (.cons 3 rfl (.cons 1 rfl (.nil _))), hD, hW, rfl⟩
 rintro mz a w ⟨k, hk, hc, hS, hD, hW, rfl⟩
 refine run_at hS hD hW ?_;clear hS hD hW a w;refine rq (rqr ?_);refine sp 2 [(11, .pointer (some ⟨b1, 0, none⟩)), (10, .int .i64 (↑k))] ?_;refine sd (dlb 12 0 0 b1 (.slice a4 Y.cars.length a5)) ?_;refine sp 2 [(14, .bool (cmp .lss (↑k) (↑(Y.cars.length))))] ?_;refine se ?_;refine rc 14 rfl (fun h2 => ?_) (fun h2 => ?_)
 ·
  have c9 := h2;have h2 := lss_t h2;refine rskip (pst_next (rq (rb 1 (rqr ?_))));refine sp 1 [(17, .pointer (some ⟨b1, 0, none⟩))] ?_;refine sd (dlb 18 0 0 b1 (.slice a4 Y.cars.length a5)) ?_;refine sp 1 [(19, .int .i64 (↑k))] ?_;refine sd (di 20 6 (k) c6.addr) ?_;refine sd (det_loadN (x := (.tmp 20)) (T := 56) (n := 6) (vs := [.int .i64 ((Y.cars.getD (k) noCar).len), .int .i64 ((Y.cars.getD (k) noCar).wt), .int .i64 ((Y.cars.getD (k) noCar).brk), .int .i64 ((Y.cars.getD (k) noCar).grp), .bool ((Y.cars.getD (k) noCar).pipe), .bool ((Y.cars.getD (k) noCar).heat)]) (d := 21) (ty := 56) (gd := none) (by kernel_rfl) rfl (by kernel_rfl) (by kernel_rfl) rfl rfl (cars_getN c6 (k) (by omega))) ?_;refine sS (sal 4 56 #[.int .i64 (0), .int .i64 (0), .int .i64 (0), .int .i64 (0), .bool (false), .bool (false)] (fun b3 => ?_));refine sS (ss 0 0 b3 [.int .i64 ((Y.cars.getD (k) noCar).len), .int .i64 ((Y.cars.getD (k) noCar).wt), .int .i64 ((Y.cars.getD (k) noCar).brk), .int .i64 ((Y.cars.getD (k) noCar).grp), .bool ((Y.cars.getD (k) noCar).pipe), .bool ((Y.cars.getD (k) noCar).heat)] [.int .i64 ((Y.cars.getD (k) noCar).len), .int .i64 ((Y.cars.getD (k) noCar).wt), .int .i64 ((Y.cars.getD (k) noCar).brk), .int .i64 ((Y.cars.getD (k) noCar).grp), .bool ((Y.cars.getD (k) noCar).pipe), .bool ((Y.cars.getD (k) noCar).heat)] (_ :: _ :: _) (cs := [_, _, _, _, _, _]) rfl rfl ?_);refine se (rq ?_);refine run_cut (fun a w => Slots 68 [(1, .pointer (some ⟨b1, 0, none⟩)), (3, .int .i64 (↑k)), (45, .bool ((!(inB ((Y.cars.getD (k) noCar).len) 1 4)) || ((!(inB ((Y.cars.getD (k) noCar).wt) 1 60)) || ((!(inB ((Y.cars.getD (k) noCar).brk) 0 ((Y.cars.getD (k) noCar).wt))) || (!(inB ((Y.cars.getD (k) noCar).grp) 0 3))))))] a ∧ a.defers = [] ∧ St I ((b3, Obj.cells #[.int .i64 ((Y.cars.getD (k) noCar).len), .int .i64 ((Y.cars.getD (k) noCar).wt), .int .i64 ((Y.cars.getD (k) noCar).brk), .int .i64 ((Y.cars.getD (k) noCar).grp), .bool ((Y.cars.getD (k) noCar).pipe), .bool ((Y.cars.getD (k) noCar).heat)] 56 (0, 0)) :: (b1, Obj.cells #[.slice a4 Y.cars.length a5, .slice a2 Y.room.length a3, .slice b2 Y.tracks.length b4] 26 (0, 0)) :: F) w) ?_ ?_
  ·
   refine rr ?_;refine sp 1 [(22, .pointer (some ⟨b3, 0, none⟩))] ?_;refine sd (dlb 23 0 0 b3 (.int .i64 ((Y.cars.getD (k) noCar).len))) ?_;refine sd (dc 24 (fun I' hI => (between_ct I' ((Y.cars.getD (k) noCar).len) (1) (4) :))) ?_;refine sp 2 [(26, .bool (!(inB ((Y.cars.getD (k) noCar).len) 1 4)))] ?_;refine seq_split 26 rfl (fun h3 => ?_) (fun h3 => ?_)
   ·
    have a6 := h3;have a6 := not_t a6;have b5 := inB_f a6;refine sp 19 [(45, .bool (true))] ?_;refine ee ?_;refine pst_meet (fun a w hS hD hW => ⟨hS.sub (.cons 1 rfl (.cons 3 rfl (.consE 45 rfl (congrArg Value.bool (by simp only [h3, Bool.true_and, Bool.false_and, Bool.and_true, Bool.and_false, Bool.true_or, Bool.false_or, Bool.or_true, Bool.or_false, cond_true, cond_false])) (.nil _)))), hD, hW⟩)
   have a6 := h3;have a6 := not_f a6;have b5 := inB_t a6;refine sp 1 [(27, .pointer (some ⟨b3, 1, none⟩))] ?_;refine sd (dlb 28 0 1 b3 (.int .i64 ((Y.cars.getD (k) noCar).wt))) ?_;refine sd (dc 29 (fun I' hI => (between_ct I' ((Y.cars.getD (k) noCar).wt) (1) (60) :))) ?_;refine sp 3 [(32, .bool (!(inB ((Y.cars.getD (k) noCar).wt) 1 60)))] ?_;refine seq_split 32 rfl (fun h4 => ?_) (fun h4 => ?_)
   ·
    have a7 := h4;have a7 := not_t a7;have b6 := inB_f a7;refine sp 13 [(45, .bool (true))] ?_;refine ee ?_;refine pst_meet (fun a w hS hD hW => ⟨hS.sub (.cons 1 rfl (.cons 3 rfl (.consE 45 rfl (congrArg Value.bool (by simp only [h3, h4, Bool.true_and, Bool.false_and, Bool.and_true, Bool.and_false, Bool.true_or, Bool.false_or, Bool.or_true, Bool.or_false, cond_true, cond_false])) (.nil _)))), hD, hW⟩)
   have a7 := h4;have a7 := not_f a7;have b6 := inB_t a7;refine sp 1 [(33, .pointer (some ⟨b3, 2, none⟩))] ?_;refine sd (dlb 34 0 2 b3 (.int .i64 ((Y.cars.getD (k) noCar).brk))) ?_;refine sp 1 [(35, .pointer (some ⟨b3, 1, none⟩))] ?_;refine sd (dlb 36 0 1 b3 (.int .i64 ((Y.cars.getD (k) noCar).wt))) ?_;refine sd (dc 37 (fun I' hI => (between_ct I' ((Y.cars.getD (k) noCar).brk) (0) ((Y.cars.getD (k) noCar).wt) :))) ?_;refine sp 3 [(40, .bool (!(inB ((Y.cars.getD (k) noCar).brk) 0 ((Y.cars.getD (k) noCar).wt))))] ?_;refine seq_split 40 rfl (fun h5 => ?_) (fun h5 => ?_)
   ·
    have a8 := h5;have a8 := not_t a8;have b7 := inB_f a8;refine sp 5 [(45, .bool (true))] ?_;refine ee ?_;refine pst_meet (fun a w hS hD hW => ⟨hS.sub (.cons 1 rfl (.cons 3 rfl (.consE 45 rfl (congrArg Value.bool (by simp only [h3, h4, h5, Bool.true_and, Bool.false_and, Bool.and_true, Bool.and_false, Bool.true_or, Bool.false_or, Bool.or_true, Bool.or_false, cond_true, cond_false])) (.nil _)))), hD, hW⟩)
   have a8 := h5;have a8 := not_f a8;have b7 := inB_t a8;refine sp 1 [(41, .pointer (some ⟨b3, 3, none⟩))] ?_;refine sd (dlb 42 0 3 b3 (.int .i64 ((Y.cars.getD (k) noCar).grp))) ?_;refine sd (dc 43 (fun I' hI => (between_ct I' ((Y.cars.getD (k) noCar).grp) (0) (3) :))) ?_;refine sp 2 [(45, .bool (!(inB ((Y.cars.getD (k) noCar).grp) 0 3)))] ?_;refine ee ?_;refine pst_meet (fun a w hS hD hW => ⟨hS.sub (.cons 1 rfl (.cons 3 rfl (.consE 45 rfl (congrArg Value.bool (by simp only [h3, h4, h5, Bool.true_and, Bool.false_and, Bool.and_true, Bool.and_false, Bool.true_or, Bool.false_or, Bool.or_true, Bool.or_false, cond_true, cond_false])) (.nil _)))), hD, hW⟩)
  rintro a w ⟨hS, hD, hW⟩
  refine run_at hS hD hW ?_;clear hS hD hW a w;refine rc 45 rfl (fun h6 => ?_) (fun h6 => ?_)
  ·
   have c2 := h6;have d5 : carErr (Y.cars.getD (k) noCar) ≠ 0 := by rw [carErr, nand4, c2]; decide
   refine rqr ?_;refine sp 1 [(2, .int .i64 (1))] ?_;refine se (rret ?_);refine (pst_ret_block (pst_ret_pass (pst_ret_pass (pst_ret_block (pst_ret_pass ?_)))));refine pst_ret1 (t := 2) [] (by kernel_rfl) rfl (TC _ (TC _ (TR _))) (Imm.le.refl _) ?_;exact ⟨congrArg (Value.int .i64) ((coachErr_car (by omega) (by omega) d5).symm), rfl⟩
  have c2 := h6;obtain ⟨b8, d1⟩ := or_f h6;have b8 := not_f b8;have d0 := inB_t b8;obtain ⟨a9, b9⟩ := or_f d1;have a9 := not_f a9;have c5 := inB_t a9;obtain ⟨a0, a1⟩ := or_f b9;have a0 := not_f a0;have c0 := inB_t a0;have a1 := not_f a1;have c1 := inB_t a1;have d5 : carErr (Y.cars.getD (k) noCar) = 0 := by rw [carErr, nand4, c2]; rfl
  refine rskip (pst_normal_block (pst_next (rr ?_)));refine sp 1 [(15, .int .i64 (↑k))] ?_;refine sd (da 16 (↑k) (1)) ?_;refine sp 1 [(3, .int .i64 (↑k + 1))] ?_;refine ee ?_;refine pst_back (Y.cars.length - (k+1)) (by omega) ?_;intro a w hS hD hW;exact ⟨k+1, by omega, all_snoc hc (by omega) d5, hS.sub (.consE 3 rfl rfl (.cons 1 rfl (.nil _))), hD, (hW.perm (PR _)).sub (TC _ (TR _)), rfl⟩
 have c9 := h2;have h2 := lss_f h2;refine rexit 0 ?_;refine (pst_exit_pass (pst_exit_pass (pst_exit_block ?_)));refine pst_next (rq (rqr ?_));refine sp 1 [(46, .pointer (some ⟨b1, 1, none⟩))] ?_;refine sd (dlb 47 0 1 b1 (.slice a2 Y.room.length a3)) ?_;refine sp 2 [(49, .bool (cmp .eql (↑(Y.room.length)) (0)))] ?_;refine se ?_;refine rc 49 rfl (fun h7 => ?_) (fun h7 => ?_)
 ·
  have d2 := h7;have h7 := eql_t h7;refine rqr ?_;refine sp 1 [(2, .int .i64 (7))] ?_;refine se (rret ?_);refine (pst_ret_pass ?_);refine pst_ret1 (t := 2) [] (by kernel_rfl) rfl (TC _ (TR _)) (Imm.le.refl _) ?_;exact ⟨congrArg (Value.int .i64) ((coachErr_few (by omega) (all_done hc (by omega)) (by omega)).symm), rfl⟩
 have d2 := h7;have h7 := eql_f h7;refine rskip (pst_next (rq (rqr ?_)));refine sp 1 [(50, .pointer (some ⟨b1, 1, none⟩))] ?_;refine sd (dlb 51 0 1 b1 (.slice a2 Y.room.length a3)) ?_;refine sp 2 [(53, .bool (cmp .gtr (↑(Y.room.length)) (3)))] ?_;refine se ?_;refine rc 53 rfl (fun h8 => ?_) (fun h8 => ?_)
 ·
  have d3 := h8;have h8 := gtr_t h8;refine rqr ?_;refine sp 1 [(2, .int .i64 (6))] ?_;refine se (rret ?_);refine (pst_ret_pass ?_);refine pst_ret1 (t := 2) [] (by kernel_rfl) rfl (TC _ (TR _)) (Imm.le.refl _) ?_;exact ⟨congrArg (Value.int .i64) ((coachErr_many2 (by omega) (all_done hc (by omega)) (by omega)).symm), rfl⟩
 have d3 := h8;have h8 := gtr_f h8;refine rskip (pst_next (rq (rqr ?_)));refine sp 1 [(5, .int .i64 (0))] ?_;refine se (rb 2 ?_);refine rl (fun mz a w => ∃ m : Nat, (m ≤ Y.room.length) ∧ (∀ c ∈ Y.room.take m, inB c 0 20 = true) ∧ Slots 68 [(5, .int .i64 ↑m), (1, .pointer (some ⟨b1, 0, none⟩))] a ∧ a.defers = [] ∧ St I ((b1, Obj.cells #[.slice a4 Y.cars.length a5, .slice a2 Y.room.length a3, .slice b2 Y.tracks.length b4] 26 (0, 0)) :: F) w ∧ mz = Y.room.length - m) ?_ ?_
 ·intro a w hS hD hW;exact ⟨_, 0, Nat.zero_le _, (fun x h => by simp at h), hS.sub (.cons 5 rfl (.cons 1 rfl (.nil _))), hD, hW, rfl⟩
 rintro mz a w ⟨m, hm, e2, hS, hD, hW, rfl⟩
 refine run_at hS hD hW ?_;clear hS hD hW a w;refine rq (rqr ?_);refine sp 2 [(55, .pointer (some ⟨b1, 1, none⟩)), (54, .int .i64 (↑m))] ?_;refine sd (dlb 56 0 1 b1 (.slice a2 Y.room.length a3)) ?_;refine sp 2 [(58, .bool (cmp .lss (↑m) (↑(Y.room.length))))] ?_;refine se ?_;refine rc 58 rfl (fun h9 => ?_) (fun h9 => ?_)
 ·
  have d4 := h9;have h9 := lss_t h9;refine rskip (pst_next (rq (rb 3 (rqr ?_))));refine sp 1 [(61, .pointer (some ⟨b1, 1, none⟩))] ?_;refine sd (dlb 62 0 1 b1 (.slice a2 Y.room.length a3)) ?_;refine sp 1 [(63, .int .i64 (↑m))] ?_;refine sd (di 64 1 (m) c7.addr) ?_;refine sd (dl 65 (ints_get c7 (m) (by omega))) ?_;refine sd (dc 66 (fun I' hI => (between_ct I' (Y.room.getD (m) 0) (0) (20) :))) ?_;refine sp 1 [(67, .bool (!(inB (Y.room.getD (m) 0) 0 20)))] ?_;refine se ?_;refine rc 67 rfl (fun b0 => ?_) (fun b0 => ?_)
  ·
   have c4 := b0;have b0 := not_t b0;have c3 := inB_f b0;refine rqr ?_;refine sp 1 [(2, .int .i64 (1))] ?_;refine se (rret ?_);refine (pst_ret_block (pst_ret_pass (pst_ret_pass (pst_ret_block (pst_ret_pass ?_)))));refine pst_ret1 (t := 2) [] (by kernel_rfl) rfl (TC _ (TR _)) (Imm.le.refl _) ?_;exact ⟨congrArg (Value.int .i64) ((coachErr_room (by omega) (all_done hc (by omega)) (by omega) (by omega) (by omega) b0).symm), rfl⟩
  have c4 := b0;have b0 := not_f b0;have c3 := inB_t b0;refine rskip (pst_normal_block (pst_next (rr ?_)));refine sp 1 [(59, .int .i64 (↑m))] ?_;refine sd (da 60 (↑m) (1)) ?_;refine sp 1 [(5, .int .i64 (↑m + 1))] ?_;refine ee ?_;refine pst_back (Y.room.length - (m+1)) (by omega) ?_;intro a w hS hD hW;exact ⟨m+1, by omega, all_snoc (d := 0) e2 (by omega) b0, hS.sub (.consE 5 rfl rfl (.cons 1 rfl (.nil _))), hD, hW, rfl⟩
 have d4 := h9;have h9 := lss_f h9;refine rexit 2 ?_;refine (pst_exit_pass (pst_exit_pass (pst_exit_block ?_)));refine pst_next (rqr ?_);refine sp 1 [(2, .int .i64 (0))] ?_;refine se (rret ?_);refine pst_ret1 (t := 2) [] (by kernel_rfl) rfl (TC _ (TR _)) (Imm.le.refl _) ?_;exact ⟨congrArg (Value.int .i64) ((coachErr_ok (by omega) (all_done hc (by omega)) (by omega) (by omega) (all_done e2 (by omega))).symm), rfl⟩

end Go.Proofs.YtcaocbhbofejnaaGreatDoor
namespace Go.Proofs.YtcaocbhbofejnaaGreatDoor
open Go Go.Sl Go.Sh
set_option maxRecDepth 100000
noncomputable def c_together (p : List Nat) : Code := sub (bodyOf Tryz.f139) p
theorem together_ct (I : Imm) (y : Value) (Y : Yard) (g : Int) (y_f : IsYard I y Y) (ho : OkAll Y.cars Y.tracks) : CtV Tryz.prog 139 #[y, .int .i64 g] I (.bool (togetherP Y g)) := by
 obtain ⟨y1, y2, y3, f7, c4, c6, c8⟩ := id y_f;subst f7;obtain ⟨a0, a1, b5, b6, c3, e6, e7, a7⟩ := id c4;subst c3;obtain ⟨a4, a5, e8, f1, c5, e9, f0, f2⟩ := id c6;subst c5;obtain ⟨a2, a3, f3, f6, d0, c7, f4, f5, a8, b7⟩ := id c8;subst c7;refine fr (args := [_, _]) (N := 68) Tryz.func139 (fun F => ?_);show Run _ _ (c_together []) _ _ [(0, .agg #[.slice a0 Y.cars.length a1, .slice a4 Y.room.length a5, .slice a2 Y.tracks.length a3]), (1, .int .i64 (g))] _ _;refine rnm (rqr ?_);refine sS (sb 2 26 #[.slice a0 Y.cars.length a1, .slice a4 Y.room.length a5, .slice a2 Y.tracks.length a3] (fun b1 => ?_));refine sp 1 [(4, .bool (false))] ?_;refine sn ?_;refine sp 2 [(6, .int .i64 (0)), (5, .int .i64 (0))] ?_;refine se (rq (rqr ?_));refine sp 1 [(7, .int .i64 (0))] ?_;refine se (rb 0 ?_);refine rl (fun mz a w => ∃ k : Nat, ∃ al : Nat, (k ≤ Y.cars.length) ∧ (al = cntG (Y.cars.take k) g) ∧ (al ≤ k) ∧ Slots 68 [(5, .int .i64 ↑al), (7, .int .i64 ↑k), (1, .int .i64 (g)), (2, .pointer (some ⟨b1, 0, none⟩)), (4, .bool (false)), (6, .int .i64 (0))] a ∧ a.defers = [] ∧ St I ((b1, Obj.cells #[.slice a0 Y.cars.length a1, .slice a4 Y.room.length a5, .slice a2 Y.tracks.length a3] 26 (0, 0)) :: F) w ∧ mz = Y.cars.length - k) ?_ ?_
 ·intro a w hS hD hW;exact ⟨_, 0, 0, Nat.zero_le _, rfl, Nat.le_refl _, hS.sub (.cons 5 rfl (.cons 7 rfl (.cons 1 rfl (.cons 2 rfl (.cons 4 rfl (.cons 6 rfl (.nil _))))))), hD, hW, rfl⟩
 rintro mz a w ⟨k, al, hk, ha, f8, hS, hD, hW, rfl⟩
 refine run_at hS hD hW ?_;clear hS hD hW a w;refine rq (rqr ?_);refine sp 2 [(12, .pointer (some ⟨b1, 0, none⟩)), (11, .int .i64 (↑k))] ?_;refine sd (dlb 13 0 0 b1 (.slice a0 Y.cars.length a1)) ?_;refine sp 2 [(15, .bool (cmp .lss (↑k) (↑(Y.cars.length))))] ?_;refine se ?_;refine rc 15 rfl (fun h1 => ?_) (fun h1 => ?_)
 ·
  have b8 := h1;have h1 := lss_t h1;refine rskip (pst_next (rq (rb 1 (rqr ?_))));refine sp 1 [(18, .pointer (some ⟨b1, 0, none⟩))] ?_;refine sd (dlb 19 0 0 b1 (.slice a0 Y.cars.length a1)) ?_;refine sp 1 [(20, .int .i64 (↑k))] ?_;refine sd (di 21 6 (k) a7.addr) ?_;refine sp 1 [(22, .pointer (some ⟨b5, b6 + k * 6 + 3, none⟩))] ?_;refine sd (dl 23 (cars_get a7 (k) (by omega) 3 (by decide) (v := .int .i64 ((Y.cars.getD (k) noCar).grp)) rfl)) ?_;refine sp 2 [(25, .bool (cmp .eql ((Y.cars.getD (k) noCar).grp) (g)))] ?_;refine se ?_;refine rc 25 rfl (fun h2 => ?_) (fun h2 => ?_)
  ·
   have b9 := h2;have h2 := eql_t h2;refine rr ?_;refine sp 1 [(26, .int .i64 (↑al))] ?_;refine sd (da 27 (↑al) (1)) ?_;refine sp 1 [(5, .int .i64 (↑al + 1))] ?_;refine ee (pst_normal_block (pst_next (rr ?_)));refine sp 1 [(16, .int .i64 (↑k))] ?_;refine sd (da 17 (↑k) (1)) ?_;refine sp 1 [(7, .int .i64 (↑k + 1))] ?_;refine ee ?_;refine pst_back (Y.cars.length - (k+1)) (by omega) ?_;intro a w hS hD hW;exact ⟨k+1, al+1, by omega, (by rw [cntG_succ (by omega), if_pos h2, ← ha]), by omega, hS.sub (.consE 5 rfl rfl (.consE 7 rfl rfl (.cons 1 rfl (.cons 2 rfl (.cons 4 rfl (.cons 6 rfl (.nil _))))))), hD, hW, rfl⟩
  have b9 := h2;have h2 := eql_f h2;refine rskip (pst_normal_block (pst_next (rr ?_)));refine sp 1 [(16, .int .i64 (↑k))] ?_;refine sd (da 17 (↑k) (1)) ?_;refine sp 1 [(7, .int .i64 (↑k + 1))] ?_;refine ee ?_;refine pst_back (Y.cars.length - (k+1)) (by omega) ?_;intro a w hS hD hW;exact ⟨k+1, al, by omega, (by rw [cntG_succ (by omega), if_neg h2, ← ha]; rfl), by omega, hS.sub (.consE 5 rfl rfl (.consE 7 rfl rfl (.cons 1 rfl (.cons 2 rfl (.cons 4 rfl (.cons 6 rfl (.nil _))))))), hD, hW, rfl⟩
 have b8 := h1;have h1 := lss_f h1;refine rexit 0 ?_;refine (pst_exit_pass (pst_exit_pass (pst_exit_block ?_)));refine pst_next (rq (rqr ?_));refine sp 1 [(8, .int .i64 (0))] ?_;refine se (rb 2 ?_);refine rl (fun mz a w => ∃ i : Nat, ∃ m : Nat, (i ≤ Y.tracks.length) ∧ (m = mostTo Y.cars g (Y.tracks.take i)) ∧ (m ≤ 140737488355328) ∧ Slots 68 [(6, .int .i64 ↑m), (8, .int .i64 ↑i), (1, .int .i64 (g)), (2, .pointer (some ⟨b1, 0, none⟩)), (4, .bool (false)), (5, .int .i64 (↑al))] a ∧ a.defers = [] ∧ St I ((b1, Obj.cells #[.slice a0 Y.cars.length a1, .slice a4 Y.room.length a5, .slice a2 Y.tracks.length a3] 26 (0, 0)) :: F) w ∧ mz = Y.tracks.length - i) ?_ ?_
 ·intro a w hS hD hW;exact ⟨_, 0, 0, Nat.zero_le _, rfl, Nat.zero_le _, hS.sub (.cons 6 rfl (.cons 8 rfl (.cons 1 rfl (.cons 2 rfl (.cons 4 rfl (.cons 5 rfl (.nil _))))))), hD, hW, rfl⟩
 rintro mz a w ⟨i, m, hi, c9, d1, hS, hD, hW, rfl⟩
 refine run_at hS hD hW ?_;clear hS hD hW a w;refine rq (rqr ?_);refine sp 2 [(29, .pointer (some ⟨b1, 2, none⟩)), (28, .int .i64 (↑i))] ?_;refine sd (dlb 30 0 2 b1 (.slice a2 Y.tracks.length a3)) ?_;refine sp 2 [(32, .bool (cmp .lss (↑i) (↑(Y.tracks.length))))] ?_;refine se ?_;refine rc 32 rfl (fun h3 => ?_) (fun h3 => ?_)
 ·
  have c0 := h3;have h3 := lss_t h3;refine rskip (pst_next (rq (rb 3 (rqr ?_))));refine sp 1 [(9, .int .i64 (0))] ?_;refine sn ?_;refine sp 1 [(10, .int .i64 (0))] ?_;refine se (rb 4 ?_);refine rl (fun mz a w => ∃ j : Nat, ∃ r : Nat, ∃ m2 : Nat, (j ≤ (Y.tracks.getD (i) []).length) ∧ (rowT Y.cars g m ((Y.tracks.getD (i) []).take j) = (r, m2)) ∧ (r ≤ j) ∧ (m2 ≤ 140737488355328) ∧ Slots 68 [(6, .int .i64 ↑m2), (9, .int .i64 ↑r), (10, .int .i64 ↑j), (1, .int .i64 (g)), (2, .pointer (some ⟨b1, 0, none⟩)), (4, .bool (false)), (5, .int .i64 (↑al)), (8, .int .i64 (↑i))] a ∧ a.defers = [] ∧ St I ((b1, Obj.cells #[.slice a0 Y.cars.length a1, .slice a4 Y.room.length a5, .slice a2 Y.tracks.length a3] 26 (0, 0)) :: F) w ∧ mz = (Y.tracks.getD (i) []).length - j) ?_ ?_
  ·intro a w hS hD hW;exact ⟨_, 0, 0, m, Nat.zero_le _, rfl, Nat.le_refl _, d1, hS.sub (.cons 6 rfl (.cons 9 rfl (.cons 10 rfl (.cons 1 rfl (.cons 2 rfl (.cons 4 rfl (.cons 5 rfl (.cons 8 rfl (.nil _))))))))), hD, hW, rfl⟩
  rintro mz a w ⟨j, r, m2, hj, a6, f9, d2, hS, hD, hW, rfl⟩
  refine run_at hS hD hW ?_;clear hS hD hW a w;refine rq (rqr ?_);refine sp 2 [(36, .pointer (some ⟨b1, 2, none⟩)), (35, .int .i64 (↑j))] ?_;refine sd (dlb 37 0 2 b1 (.slice a2 Y.tracks.length a3)) ?_;refine sp 1 [(38, .int .i64 (↑i))] ?_;refine sd (di 39 1 (i) a8.addr) ?_;have b0 := b7 (i) (by omega);obtain ⟨d3, d5, d4, d8, a9, d6, d7, d9⟩ := id b0;rw [a9] at b0;refine sd (det_eq (dl 40 (rows_get a8 (i) (by omega))) a9) ?_;refine sp 2 [(42, .bool (cmp .lss (↑j) (↑((Y.tracks.getD (i) []).length))))] ?_;refine se ?_;refine rc 42 rfl (fun h4 => ?_) (fun h4 => ?_)
  ·
   have c1 := h4;have h4 := lss_t h4;refine rskip (pst_next (rq (rb 5 (rq (rq ?_)))));refine rd0 14 ?_;refine ox 1 [(45, .pointer (some ⟨b1, 0, none⟩))] ?_;refine ofp_det (dlb 46 0 0 b1 (.slice a0 Y.cars.length a1)) ?_;refine ox 1 [(47, .pointer (some ⟨b1, 2, none⟩))] ?_;refine ofp_det (dlb 48 0 2 b1 (.slice a2 Y.tracks.length a3)) ?_;refine ox 1 [(49, .int .i64 (↑i))] ?_;refine ofp_det (di 50 1 (i) a8.addr) ?_;have b3 := b7 (i) (by omega);obtain ⟨e0, e2, e1, e5, b2, e3, e4, b4⟩ := id b3;rw [b2] at b3;refine ofp_det (det_eq (dl 51 (rows_get a8 (i) (by omega))) b2) ?_;refine ox 1 [(52, .int .i64 (↑j))] ?_;refine ofp_det (di 53 1 (j) b4.addr) ?_;refine ofp_det (dl 54 (ints_get b4 (j) (by omega))) ?_;have hc := (ho.at i (by omega)).at j (by omega);refine ofp_det (diI 55 6 ((Y.tracks.getD (i) []).getD (j) 0) a7.addr) ?_;refine ox 1 [(56, .pointer (some ⟨b5, b6 + (((Y.tracks.getD (i) []).getD (j) 0 : Int).toNat) * 6 + 3, none⟩))] ?_;refine ofp_det (dl 57 (cars_get a7 (((Y.tracks.getD (i) []).getD (j) 0 : Int).toNat) (by omega) 3 (by decide) (v := .int .i64 ((Y.cars.getD (((Y.tracks.getD (i) []).getD (j) 0 : Int).toNat) noCar).grp)) rfl)) ?_;refine ox 1 [(58, .int .i64 (g))] ?_;refine ofp_end0 ?_;refine sp 1 [(59, .bool (cmp .eql ((Y.cars.getD (((Y.tracks.getD (i) []).getD (j) 0 : Int).toNat) noCar).grp) (g)))] ?_;refine se ?_;refine rc 59 rfl (fun h5 => ?_) (fun h5 => ?_)
   ·
    have c2 := h5;have h5 := eql_t h5;refine rr ?_;refine sp 1 [(60, .int .i64 (↑r))] ?_;refine sd (da 61 (↑r) (1)) ?_;refine sp 1 [(9, .int .i64 (↑r + 1))] ?_;refine se (rr ?_);refine sp 3 [(64, .int .i64 ((if (↑m2 : Int) < (↑r + 1 : Int) then ↑r + 1 else ↑m2)))] ?_;refine seq_re 64 rfl (show (.int .i64 ((if (↑m2 : Int) < (↑r + 1 : Int) then ↑r + 1 else ↑m2)) : Value) = .int .i64 (↑(max m2 (r + 1))) from congrArg (Value.int .i64) (by split <;> omega)) ?_;refine sp 1 [(6, .int .i64 (↑(max m2 (r + 1))))] ?_;refine ee (pst_normal_block (pst_next (rr ?_)));refine sp 1 [(43, .int .i64 (↑j))] ?_;refine sd (da 44 (↑j) (1)) ?_;refine sp 1 [(10, .int .i64 (↑j + 1))] ?_;refine ee ?_;refine pst_back ((Y.tracks.getD (i) []).length - (j+1)) (by omega) ?_;intro a w hS hD hW;exact ⟨j+1, r + 1, max m2 (r + 1), by omega, (by rw [rowT_succ (by omega), a6]; exact rowS_yes h5), by omega, by omega, hS.sub (.consE 6 rfl rfl (.consE 9 rfl rfl (.consE 10 rfl rfl (.cons 1 rfl (.cons 2 rfl (.cons 4 rfl (.cons 5 rfl (.cons 8 rfl (.nil _))))))))), hD, hW, rfl⟩
   have c2 := h5;have h5 := eql_f h5;refine rr ?_;refine sp 1 [(9, .int .i64 (0))] ?_;refine se (rr ?_);refine sp 3 [(64, .int .i64 ((if (↑m2 : Int) < (0 : Int) then 0 else ↑m2)))] ?_;refine seq_re 64 rfl (show (.int .i64 ((if (↑m2 : Int) < (0 : Int) then 0 else ↑m2)) : Value) = .int .i64 (↑(max m2 0)) from congrArg (Value.int .i64) (by split <;> omega)) ?_;refine sp 1 [(6, .int .i64 (↑(max m2 0)))] ?_;refine ee (pst_normal_block (pst_next (rr ?_)));refine sp 1 [(43, .int .i64 (↑j))] ?_;refine sd (da 44 (↑j) (1)) ?_;refine sp 1 [(10, .int .i64 (↑j + 1))] ?_;refine ee ?_;refine pst_back ((Y.tracks.getD (i) []).length - (j+1)) (by omega) ?_;intro a w hS hD hW;exact ⟨j+1, 0, max m2 0, by omega, (by rw [rowT_succ (by omega), a6]; exact rowS_no h5), by omega, by omega, hS.sub (.consE 6 rfl rfl (.consE 9 rfl rfl (.consE 10 rfl rfl (.cons 1 rfl (.cons 2 rfl (.cons 4 rfl (.cons 5 rfl (.cons 8 rfl (.nil _))))))))), hD, hW, rfl⟩
  have c1 := h4;have h4 := lss_f h4;refine rexit 4 ?_;refine (pst_exit_pass (pst_exit_pass (pst_exit_block ?_)));refine pst_normal_block (pst_next (rr ?_));refine sp 1 [(33, .int .i64 (↑i))] ?_;refine sd (da 34 (↑i) (1)) ?_;refine sp 1 [(8, .int .i64 (↑i + 1))] ?_;refine ee ?_;refine pst_back (Y.tracks.length - (i+1)) (by omega) ?_;intro a w hS hD hW;exact ⟨i+1, m2, by omega, (by rw [mostTo_succ (by omega), ← c9]; rw [take_done (by omega)] at a6; rw [a6]), by omega, hS.sub (.consE 6 rfl rfl (.consE 8 rfl rfl (.cons 1 rfl (.cons 2 rfl (.cons 4 rfl (.cons 5 rfl (.nil _))))))), hD, hW, rfl⟩
 have c0 := h3;have h3 := lss_f h3;refine rexit 2 ?_;refine (pst_exit_pass (pst_exit_pass (pst_exit_block ?_)));refine pst_next (rqr ?_);refine sp 4 [(4, .bool (cmp .eql (↑m) (↑al)))] ?_;refine se (rret ?_);refine pst_ret1 (t := 4) [] (by kernel_rfl) rfl (TC _ (TR _)) (Imm.le.refl _) ?_;exact ⟨congrArg Value.bool (by unfold togetherP cmp; rw [c9, take_done (xs := Y.tracks) (k := i) (by omega), ha, take_done (xs := Y.cars) (k := k) (by omega)]), rfl⟩

end Go.Proofs.YtcaocbhbofejnaaGreatDoor
namespace Go.Sl
open Go
theorem ct_own {α : Type} {E : TypeId} {sz : Nat} {cell : α → Nat → Value} {v : Value} {xs : List α} {Ms : Seg} {I : Imm} {P : Program} {f : FuncId} {args : Array Value} {u : Value} (dflt : α) (h : Own E sz cell v xs Ms) (hl : xs.length ≤ 140737488355328)
    (ct : ∀ J, I.le J → IsSl sz cell dflt J v xs → CtV P f args J u) : Ct P f args I Ms (fun r _ M' => r = u ∧ M' = Ms) := by
  intro F w st;obtain ⟨J, h1, h2, h3, h4⟩ := h.lend dflt hl st;refine (ct J h1 h2 F w h4).mono fun e w' ⟨r, I', M', he, hle, ⟨hr, hm⟩, st'⟩ => ?_
  subst hm;obtain ⟨K, k1, k2⟩ := St.thaw (h3.mono hle) (h1.trans hle) (by simpa using st');exact ⟨r, K, Ms, he, k1, ⟨hr, rfl⟩, k2⟩
end Go.Sl
namespace Go.Proofs.YtcaocbhbofejnaaGreatDoor
open Go Go.Sl Go.Sh
set_option maxRecDepth 100000
noncomputable def c_checkTracksR (p : List Nat) : Code := sub (bodyOf Tryz.f99) p
theorem checkTracksR_ct (I : Imm) (y : Value) (Y : Yard) (y_f : IsYard I y Y) (hs : Small Y.cars) (h5 : Y.cars.length ≤ 5) : CtV Tryz.prog 99 #[y] I (.int .i64 (refTracks Y)) := by
 obtain ⟨y1, y2, y3, l5, a8, a9, b0⟩ := id y_f;subst l5;obtain ⟨a3, a4, k2, k5, f9, k3, k4, k6⟩ := id a8;subst f9;obtain ⟨a5, a6, k7, l0, g0, k8, k9, b9⟩ := id a9;subst g0;obtain ⟨a0, a1, l1, l4, i2, g1, l2, l3, a7, b5⟩ := id b0;subst g1;refine fr (args := [_]) (N := 81) Tryz.func99 (fun F => ?_);show Run _ _ (c_checkTracksR []) _ _ [(0, .agg #[.slice a3 Y.cars.length a4, .slice a5 Y.room.length a6, .slice a0 Y.tracks.length a1])] _ _;refine rnm (rqr ?_);refine sS (sb 1 26 #[.slice a3 Y.cars.length a4, .slice a5 Y.room.length a6, .slice a0 Y.tracks.length a1] (fun b1 => ?_));refine sp 1 [(2, .int .i64 (0))] ?_;refine se (rq (rqr ?_));refine sp 1 [(8, .pointer (some ⟨b1, 2, none⟩))] ?_;refine sd (dlb 9 0 2 b1 (.slice a0 Y.tracks.length a1)) ?_;refine sp 2 [(11, .pointer (some ⟨b1, 1, none⟩)), (10, .int .i64 (↑(Y.tracks.length)))] ?_;refine sd (dlb 12 0 1 b1 (.slice a5 Y.room.length a6)) ?_;refine sp 2 [(14, .bool (!(cmp .eql (↑(Y.tracks.length)) (↑(Y.room.length)))))] ?_;refine se ?_;refine rc 14 rfl (fun h1 => ?_) (fun h1 => ?_)
 ·
  have e8 := h1;have h1 := not_t h1;have h1 := eql_f h1;refine rqr ?_;refine sp 1 [(2, .int .i64 (2))] ?_;refine se (rret ?_);refine (pst_ret_pass ?_);refine pst_ret1 (t := 2) [] (by kernel_rfl) rfl (TC _ (TR _)) (Imm.le.refl _) ?_;exact ⟨congrArg (Value.int .i64) (by rw [refTracks, if_neg (by omega)]), rfl⟩
 have e8 := h1;have h1 := not_f h1;have h1 := eql_t h1;refine rskip (pst_next (rqr ?_));refine sp 1 [(3, .slice none 0 0)] ?_;refine se (rq (rqr ?_));refine sp 1 [(4, .int .i64 (0))] ?_;refine se (rb 0 ?_);refine rl (fun mz a w => ∃ J0 : Imm, ∃ k : Nat, ∃ b7 : List Int, ∃ c1 : Value, ∃ b8 : Seg, (I.le J0) ∧ (k ≤ Y.tracks.length) ∧ (goTracks Y.cars (fun b7 => if b7.length < Y.cars.length then 7 else refG Y) Y.tracks Y.room [] = goTracks Y.cars (fun b7 => if b7.length < Y.cars.length then 7 else refG Y) (Y.tracks.drop k) (Y.room.drop k) b7) ∧ (OkAll Y.cars (Y.tracks.take k)) ∧ (b7.Nodup) ∧ (∀ x ∈ b7, 0 ≤ x ∧ x < (Y.cars.length : Int)) ∧ (Own 3 1 intCell c1 (b7) b8) ∧ Slots 81 [(3, c1), (4, .int .i64 ↑k), (1, .pointer (some ⟨b1, 0, none⟩))] a ∧ a.defers = [] ∧ St J0 ((b1, Obj.cells #[.slice a3 Y.cars.length a4, .slice a5 Y.room.length a6, .slice a0 Y.tracks.length a1] 26 (0, 0)) :: (b8 ++ F)) w ∧ mz = Y.tracks.length - k) ?_ ?_
 ·intro a w hS hD hW;exact ⟨_, I, 0, [], (.slice none 0 0), [], Imm.le.refl _, Nat.zero_le _, rfl, OkAll.nil, List.nodup_nil, (fun x hx => by simp at hx), (Own.nil _ _ _), hS.sub (.cons 3 rfl (.cons 4 rfl (.cons 1 rfl (.nil _)))), hD, hW, rfl⟩
 rintro mz a w ⟨J0, k, b7, c1, b8, hJ0, hk, hr, g4, i5, i3, d1, hS, hD, hW, rfl⟩
 refine run_at hS hD hW ?_;clear hS hD hW a w;replace a8 := a8.mono hJ0;replace a9 := a9.mono hJ0;replace b9 := b9.mono hJ0;replace b0 := b0.mono hJ0;replace a7 := a7.mono hJ0;replace b5 := fun i hi => (b5 i hi).mono hJ0
 obtain ⟨c7, c8, c9, e6⟩ := d1.shape; subst c9;refine rq (rqr ?_);refine sp 2 [(16, .pointer (some ⟨b1, 2, none⟩)), (15, .int .i64 (↑k))] ?_;refine sd (dlb 17 0 2 b1 (.slice a0 Y.tracks.length a1)) ?_;refine sp 2 [(19, .bool (cmp .lss (↑k) (↑(Y.tracks.length))))] ?_;refine se ?_;refine rc 19 rfl (fun h2 => ?_) (fun h2 => ?_)
 ·
  have e9 := h2;have h2 := lss_t h2;refine rskip (pst_next (rq (rb 1 (rq (rqr ?_)))));refine sp 1 [(5, .int .i64 (0))] ?_;refine se (rb 2 ?_);refine rl (fun mz a w => ∃ J1 : Imm, ∃ j : Nat, ∃ a2 : List Int, ∃ c2 : Value, ∃ b2 : Seg, (J0.le J1) ∧ (j ≤ (Y.tracks.getD (k) []).length) ∧ (goTracks Y.cars (fun b7 => if b7.length < Y.cars.length then 7 else refG Y) Y.tracks Y.room [] = goTrack Y.cars.length (fun met' => if lenOf Y.cars (Y.tracks.getD (k) []) > Y.room.getD k 0 then 9 else goTracks Y.cars (fun b7 => if b7.length < Y.cars.length then 7 else refG Y) (Y.tracks.drop (k + 1)) (Y.room.drop (k + 1)) met') ((Y.tracks.getD (k) []).drop j) a2) ∧ (Ok Y.cars ((Y.tracks.getD (k) []).take j)) ∧ (a2.Nodup) ∧ (∀ x ∈ a2, 0 ≤ x ∧ x < (Y.cars.length : Int)) ∧ (Own 3 1 intCell c2 (a2) b2) ∧ Slots 81 [(3, c2), (5, .int .i64 ↑j), (1, .pointer (some ⟨b1, 0, none⟩)), (4, .int .i64 (↑k))] a ∧ a.defers = [] ∧ St J1 ((b1, Obj.cells #[.slice a3 Y.cars.length a4, .slice a5 Y.room.length a6, .slice a0 Y.tracks.length a1] 26 (0, 0)) :: (b2 ++ F)) w ∧ mz = (Y.tracks.getD (k) []).length - j) ?_ ?_
  ·intro a w hS hD hW;exact ⟨_, J0, 0, b7, .slice c7 b7.length c8, b8, Imm.le.refl _, Nat.zero_le _, hr.trans (goTracks_step (by omega)), Ok.nil, i5, i3, d1, hS.sub (.cons 3 rfl (.cons 5 rfl (.cons 1 rfl (.cons 4 rfl (.nil _))))), hD, hW, rfl⟩
  rintro mz a w ⟨J1, j, a2, c2, b2, hJ1, hj, d7, c6, c5, c4, c0, hS, hD, hW, rfl⟩
  refine run_at hS hD hW ?_;clear hS hD hW a w;replace a8 := a8.mono hJ1;replace a9 := a9.mono hJ1;replace b9 := b9.mono hJ1;replace b0 := b0.mono hJ1;replace a7 := a7.mono hJ1;replace b5 := fun i hi => (b5 i hi).mono hJ1
  obtain ⟨b3, b4, d0, e7⟩ := c0.shape; subst d0;refine rq (rqr ?_);refine sp 2 [(23, .pointer (some ⟨b1, 2, none⟩)), (22, .int .i64 (↑j))] ?_;refine sd (dlb 24 0 2 b1 (.slice a0 Y.tracks.length a1)) ?_;refine sp 1 [(25, .int .i64 (↑k))] ?_;refine sd (di 26 1 (k) a7.addr) ?_;have e2 := b5 (k) (by omega);obtain ⟨i9, j1, j0, j4, e1, j2, j3, j5⟩ := id e2;rw [e1] at e2;refine sd (det_eq (dl 27 (rows_get a7 (k) (by omega))) e1) ?_;refine sp 2 [(29, .bool (cmp .lss (↑j) (↑((Y.tracks.getD (k) []).length))))] ?_;refine se ?_;refine rc 29 rfl (fun h3 => ?_) (fun h3 => ?_)
  ·
   have f0 := h3;have h3 := lss_t h3;refine rskip (pst_next (rq (rb 3 (rqr ?_))));refine sp 1 [(32, .pointer (some ⟨b1, 2, none⟩))] ?_;refine sd (dlb 33 0 2 b1 (.slice a0 Y.tracks.length a1)) ?_;refine sp 1 [(34, .int .i64 (↑k))] ?_;refine sd (di 35 1 (k) a7.addr) ?_;have e4 := b5 (k) (by omega);obtain ⟨j6, j8, j7, k1, e3, j9, k0, e5⟩ := id e4;rw [e3] at e4;refine sd (det_eq (dl 36 (rows_get a7 (k) (by omega))) e3) ?_;refine sp 1 [(37, .int .i64 (↑j))] ?_;refine sd (di 38 1 (j) e5.addr) ?_;refine sd (dl 39 (ints_get e5 (j) (by omega))) ?_;refine sp 1 [(6, .int .i64 ((Y.tracks.getD (k) []).getD (j) 0))] ?_;refine se (rq (rqr ?_));refine sp 2 [(41, .pointer (some ⟨b1, 0, none⟩)), (40, .int .i64 ((Y.tracks.getD (k) []).getD (j) 0))] ?_;refine sd (dlb 42 0 0 b1 (.slice a3 Y.cars.length a4)) ?_;refine sp 1 [(43, .int .i64 (↑(Y.cars.length)))] ?_;refine sd (dsb 44 (↑(Y.cars.length)) (1)) ?_;refine sd (dc 45 (fun I' hI => (between_ct I' ((Y.tracks.getD (k) []).getD (j) 0) (0) ((↑(Y.cars.length)) - 1) :))) ?_;refine sp 1 [(46, .bool (!(inB ((Y.tracks.getD (k) []).getD (j) 0) 0 ((↑(Y.cars.length)) - 1))))] ?_;refine se ?_;refine rc 46 rfl (fun h4 => ?_) (fun h4 => ?_)
   ·
    have f2 := h4;have h4 := not_t h4;have f1 := inB_f h4;refine rqr ?_;refine sp 1 [(2, .int .i64 (3))] ?_;refine se (rret ?_);refine (pst_ret_pass (pst_ret_block (pst_ret_pass (pst_ret_pass (pst_ret_block (pst_ret_pass (pst_ret_block (pst_ret_pass (pst_ret_pass (pst_ret_block (pst_ret_pass ?_)))))))))));refine pst_ret1 (t := 2) [] (by kernel_rfl) rfl (TC _ (TT (TR _) (TB _ _))) (Imm.le.trans hJ0 hJ1) ?_;exact ⟨congrArg (Value.int .i64) (by rw [refTracks, if_pos (by omega)]; exact (d7.trans (goTrack_bad (by omega) h4)).symm), rfl⟩
   have f2 := h4;have h4 := not_f h4;have f1 := inB_t h4;have g3 := h4;refine rskip (pst_next (rq (rqr ?_)));have i4 := range_bound c5 c4;refine sp 2 [(48, .int .i64 ((Y.tracks.getD (k) []).getD (j) 0)), (47, .slice b3 a2.length b4)] ?_;have d4 := ct_own (I := J1) 0 c0 (by omega) (fun I' hI hs_l => (has_ct I' _ _ ((Y.tracks.getD (k) []).getD (j) 0) hs_l :));refine sS (sc (some 49) (F := ((b1, Obj.cells #[.slice a3 Y.cars.length a4, .slice a5 Y.room.length a6, .slice a0 Y.tracks.length a1] 26 (0, 0)) :: F)) (d4 :) (PM.symm) (fun l8 I5 l7 b6 i7 => ?_));obtain ⟨d8, d5⟩ := i7;rw [d8, d5]; clear d8 d5;replace a8 := a8.mono b6;replace a9 := a9.mono b6;replace b9 := b9.mono b6;replace b0 := b0.mono b6;replace a7 := a7.mono b6;replace b5 := fun i hi => (b5 i hi).mono b6
   refine pm (M' := ((b1, Obj.cells #[.slice a3 Y.cars.length a4, .slice a5 Y.room.length a6, .slice a0 Y.tracks.length a1] 26 (0, 0)) :: (b2 ++ F))) PM ?_;show Seq _ _ _ _ _ _ ((49, .bool (decide (((Y.tracks.getD (k) []).getD (j) 0) ∈ a2))) :: _) _ _;refine se ?_;refine rc 49 rfl (fun h5 => ?_) (fun h5 => ?_)
   ·
    have f3 := h5;have h5 := dec_t h5;refine rqr ?_;refine sp 1 [(2, .int .i64 (4))] ?_;refine se (rret ?_);refine (pst_ret_pass (pst_ret_block (pst_ret_pass (pst_ret_pass (pst_ret_block (pst_ret_pass (pst_ret_block (pst_ret_pass (pst_ret_pass (pst_ret_block (pst_ret_pass ?_)))))))))));refine pst_ret1 (t := 2) [] (by kernel_rfl) rfl (TC _ (TT (TR _) (TB _ _))) (Imm.le.trans (Imm.le.trans hJ0 hJ1) b6) ?_;exact ⟨congrArg (Value.int .i64) (by rw [refTracks, if_pos (by omega)]; exact (d7.trans (goTrack_twice (by omega) g3 h5)).symm), rfl⟩
   have f3 := h5;have h5 := dec_f h5;have g2 := h5;refine rskip (pst_next (rr ?_));refine sp 2 [(51, .int .i64 ((Y.tracks.getD (k) []).getD (j) 0)), (50, .slice b3 a2.length b4)] ?_;refine sS (sbs 52 3 1 #[.int .i64 ((Y.tracks.getD (k) []).getD (j) 0)] (fun l6 => ?_));refine sS (stp_append (d := 53) (x := (.tmp 50)) (y := (.tmp 52)) (T := 23) (T' := 23) (E := 3) (E' := 3) (sz := 1) (bs := 8) (z := .int .i64 (0)) (cell := intCell) (xs := a2) (ys := [((Y.tracks.getD (k) []).getD (j) 0 : Int)]) (Ms := b2) (ty := 23) (gd := none) (by kernel_rfl) rfl (by kernel_rfl) (by kernel_rfl) (by kernel_rfl) (by kernel_rfl) (by kernel_rfl) (by decide) (by kernel_rfl) rfl rfl (c0) ((PC _ (PM.symm)).trans (PM.symm)) (one_intCell _) (src_atS 0 rfl rfl) (by first | omega | (have i4 := range_bound c5 c4; simp only [LC, LN]; omega)) (fun l9 d3 d6 => ?_));refine seq_mem (M' := ((b1, Obj.cells #[.slice a3 Y.cars.length a4, .slice a5 Y.room.length a6, .slice a0 Y.tracks.length a1] 26 (0, 0)) :: (d3 ++ F))) (fun w h => (h.perm (List.perm_middle.trans (PC _ PM))).sub (TC _ (TR _))) ?_;obtain ⟨d9, e0, f8, i8⟩ := d6.shape;subst f8;refine sp 1 [(3, .slice d9 (a2 ++ ([((Y.tracks.getD (k) []).getD (j) 0 : Int)])).length e0)] ?_;refine ee (pst_normal_block (pst_next (rr ?_)));refine sp 1 [(30, .int .i64 (↑j))] ?_;refine sd (da 31 (↑j) (1)) ?_;refine sp 1 [(5, .int .i64 (↑j + 1))] ?_;refine ee ?_;refine pst_back ((Y.tracks.getD (k) []).length - (j+1)) (by omega) ?_;intro a w hS hD hW;exact ⟨I5, j+1, a2 ++ ([((Y.tracks.getD (k) []).getD (j) 0 : Int)]), .slice d9 (a2 ++ ([((Y.tracks.getD (k) []).getD (j) 0 : Int)])).length e0, d3, (Imm.le.trans hJ1 b6), by omega, d7.trans (goTrack_next (by omega) g3 g2), c6.snoc (c := 0) (by omega) (by omega), met_snoc c5 g2, met_in c4 (by omega), d6, hS.sub (.consE 3 rfl rfl (.consE 5 rfl rfl (.cons 1 rfl (.cons 4 rfl (.nil _))))), hD, hW, rfl⟩
  have f0 := h3;have h3 := lss_f h3;refine rexit 2 ?_;refine (pst_exit_pass (pst_exit_pass (pst_exit_block ?_)));refine pst_next (rq ?_);refine rd0 12 ?_;refine ofp_det (dnb 54 0 0 b1 [.slice a3 Y.cars.length a4, .slice a5 Y.room.length a6, .slice a0 Y.tracks.length a1]) ?_;refine ox 1 [(55, .pointer (some ⟨b1, 2, none⟩))] ?_;refine ofp_det (dlb 56 0 2 b1 (.slice a0 Y.tracks.length a1)) ?_;refine ox 1 [(57, .int .i64 (↑k))] ?_;refine ofp_det (di 58 1 (k) a7.addr) ?_;have c3 := b5 (k) (by omega);obtain ⟨g6, g8, g7, i0, d2, g9, h0, i1⟩ := id c3;rw [d2] at c3;refine ofp_det (det_eq (dl 59 (rows_get a7 (k) (by omega))) d2) ?_;have i6 := c6.all (by omega);refine ofp_det (dc 60 (fun I' hI => (length_ct I' _ (Y) _ _ ((mkYard a8 a9 b0).mono hI) (c3.mono hI) (by exact c6.all (by omega)) (by assumption) :))) ?_;refine ox 1 [(61, .pointer (some ⟨b1, 1, none⟩))] ?_;refine ofp_det (dlb 62 0 1 b1 (.slice a5 Y.room.length a6)) ?_;refine ox 1 [(63, .int .i64 (↑k))] ?_;refine ofp_det (di 64 1 (k) b9.addr) ?_;refine ofp_det (dl 65 (ints_get b9 (k) (by omega))) ?_;refine ofp_end0 ?_;refine sp 1 [(66, .bool (cmp .gtr ((lenOf Y.cars (Y.tracks.getD (k) []))) (Y.room.getD (k) 0)))] ?_;refine se ?_;refine rc 66 rfl (fun h6 => ?_) (fun h6 => ?_)
  ·
   have f4 := h6;have h6 := gtr_t h6;refine rqr ?_;refine sp 1 [(2, .int .i64 (9))] ?_;refine se (rret ?_);refine (pst_ret_block (pst_ret_pass (pst_ret_pass (pst_ret_block (pst_ret_pass ?_)))));refine pst_ret1 (t := 2) [] (by kernel_rfl) rfl (TC _ (TT (TR _) (TB _ _))) (Imm.le.trans hJ0 hJ1) ?_;exact ⟨congrArg (Value.int .i64) (by rw [refTracks, if_pos (by omega)]; exact (d7.trans ((goTrack_done (by omega)).trans (if_pos (by omega)))).symm), rfl⟩
  have f4 := h6;have h6 := gtr_f h6;refine rskip (pst_normal_block (pst_next (rr ?_)));refine sp 1 [(20, .int .i64 (↑k))] ?_;refine sd (da 21 (↑k) (1)) ?_;refine sp 1 [(4, .int .i64 (↑k + 1))] ?_;refine ee ?_;refine pst_back (Y.tracks.length - (k+1)) (by omega) ?_;intro a w hS hD hW;exact ⟨J1, k+1, a2, .slice b3 a2.length b4, b2, (Imm.le.trans hJ0 hJ1), by omega, d7.trans ((goTrack_done (by omega)).trans (if_neg (by omega))), g4.snoc (by omega) (c6.all (by omega)), c5, c4, c0, hS.sub (.consE 3 rfl rfl (.consE 4 rfl rfl (.cons 1 rfl (.nil _)))), hD, hW, rfl⟩
 have e9 := h2;have h2 := lss_f h2;refine rexit 0 ?_;refine (pst_exit_pass (pst_exit_pass (pst_exit_block ?_)));refine pst_next (rq (rqr ?_));refine sp 3 [(69, .pointer (some ⟨b1, 0, none⟩)), (68, .int .i64 (↑(b7.length)))] ?_;refine sd (dlb 70 0 0 b1 (.slice a3 Y.cars.length a4)) ?_;refine sp 2 [(72, .bool (cmp .lss (↑(b7.length)) (↑(Y.cars.length))))] ?_;refine se ?_;refine rc 72 rfl (fun h7 => ?_) (fun h7 => ?_)
 ·
  have f5 := h7;have h7 := lss_t h7;refine rqr ?_;refine sp 1 [(2, .int .i64 (7))] ?_;refine se (rret ?_);refine (pst_ret_pass ?_);refine pst_ret1 (t := 2) [] (by kernel_rfl) rfl (TC _ (TT (TR _) (TB _ _))) hJ0 ?_;exact ⟨congrArg (Value.int .i64) (by rw [refTracks, if_pos (by omega)]; exact (hr.trans ((goTracks_done (by omega)).trans (if_pos (by omega)))).symm), rfl⟩
 have f5 := h7;have h7 := lss_f h7;refine rskip (pst_next (rq (rqr ?_)));refine sp 1 [(7, .int .i64 (1))] ?_;refine se (rb 4 ?_);refine rl (fun mz a w => ∃ J2 : Imm, ∃ q : Nat, (J0.le J2) ∧ (1 ≤ q ∧ q ≤ 4) ∧ (∀ g : Nat, 1 ≤ g → g < q → togetherP Y ↑g = true) ∧ Slots 81 [(7, .int .i64 ↑q), (1, .pointer (some ⟨b1, 0, none⟩))] a ∧ a.defers = [] ∧ St J2 ((b1, Obj.cells #[.slice a3 Y.cars.length a4, .slice a5 Y.room.length a6, .slice a0 Y.tracks.length a1] 26 (0, 0)) :: (b8 ++ F)) w ∧ mz = 4 - q) ?_ ?_
 ·intro a w hS hD hW;exact ⟨_, J0, 1, Imm.le.refl _, by omega, (fun g h1 h2 => by omega), hS.sub (.cons 7 rfl (.cons 1 rfl (.nil _))), hD, hW, rfl⟩
 rintro mz a w ⟨J2, q, hJ2, hq, g5, hS, hD, hW, rfl⟩
 refine run_at hS hD hW ?_;clear hS hD hW a w;replace a8 := a8.mono hJ2;replace a9 := a9.mono hJ2;replace b0 := b0.mono hJ2;refine rq (rqr ?_);refine sp 2 [(74, .bool (cmp .leq (↑q) (3)))] ?_;refine se ?_;refine rc 74 rfl (fun h8 => ?_) (fun h8 => ?_)
 ·
  have f6 := h8;have h8 := leq_t h8;refine rskip (pst_next (rq (rb 5 (rqr ?_))));have ho := g4.all (by omega);refine sd (dnb 77 0 0 b1 [.slice a3 Y.cars.length a4, .slice a5 Y.room.length a6, .slice a0 Y.tracks.length a1]) ?_;refine sp 1 [(78, .int .i64 (↑q))] ?_;refine sd (dc 79 (fun I' hI => (together_ct I' _ (Y) (↑q) ((mkYard a8 a9 b0).mono hI) (by assumption) :))) ?_;refine sp 1 [(80, .bool (!(togetherP Y ↑q)))] ?_;refine se ?_;refine rc 80 rfl (fun h9 => ?_) (fun h9 => ?_)
  ·
   have f7 := h9;have h9 := not_t h9;refine rqr ?_;refine sp 1 [(2, .int .i64 (12))] ?_;refine se (rret ?_);refine (pst_ret_block (pst_ret_pass (pst_ret_pass (pst_ret_block (pst_ret_pass ?_)))));refine pst_ret1 (t := 2) [] (by kernel_rfl) rfl (TC _ (TT (TR _) (TB _ _))) (Imm.le.trans hJ0 hJ2) ?_;exact ⟨congrArg (Value.int .i64) (by rw [refTracks, if_pos (by omega)]; exact (hr.trans ((goTracks_done (by omega)).trans ((if_neg (by omega)).trans (refG_hit (by omega) (by omega) h9)))).symm), rfl⟩
  have f7 := h9;have h9 := not_f h9;refine rskip (pst_normal_block (pst_next (rr ?_)));refine sp 1 [(75, .int .i64 (↑q))] ?_;refine sd (da 76 (↑q) (1)) ?_;refine sp 1 [(7, .int .i64 (↑q + 1))] ?_;refine ee ?_;refine pst_back (4 - (q+1)) (by omega) ?_;intro a w hS hD hW;exact ⟨J2, q+1, hJ2, by omega, (fun g h1 h2 => if h : g < q then g5 g h1 h else (show q = g by omega) ▸ h9), hS.sub (.consE 7 rfl rfl (.cons 1 rfl (.nil _))), hD, hW, rfl⟩
 have f6 := h8;have h8 := leq_f h8;refine rexit 4 ?_;refine (pst_exit_pass (pst_exit_pass (pst_exit_block ?_)));refine pst_next (rqr ?_);refine sp 1 [(2, .int .i64 (0))] ?_;refine se (rret ?_);refine pst_ret1 (t := 2) [] (by kernel_rfl) rfl (TC _ (TT (TR _) (TB _ _))) (Imm.le.trans hJ0 hJ2) ?_;exact ⟨congrArg (Value.int .i64) (by rw [refTracks, if_pos (by omega)]; exact (hr.trans ((goTracks_done (by omega)).trans ((if_neg (by omega)).trans (refG_ok (fun g h1 h2 => g5 g h1 (by omega)))))).symm), rfl⟩

end Go.Proofs.YtcaocbhbofejnaaGreatDoor
namespace Go.Sh
open Go Go.Sl

def stG (cs : List Car) (g : Int) : Bool → List Int → Nat
  | _, [] => 0
  | p, c :: r => (if grp cs c = g ∧ p = false then 1 else 0) + stG cs g (decide (grp cs c = g)) r
def sumG (cs : List Car) (g : Int) : List (List Int) → Nat
  | [] => 0
  | t :: ts => stG cs g false t + sumG cs g ts
def inN (g : Int) (met : List Int) : Nat := if g ∈ met then 1 else 0
def prevG (cs : List Car) (g : Int) (t : List Int) (k : Nat) : Bool := decide (0 < k) && decide (grp cs (t.getD (k - 1) 0) = g)

theorem goG_st {cs : List Car} {ts : List (List Int)} {t : List Int} (ih : ∀ met, goGs cs ts met = 0 ↔ ∀ g, 0 < g → inN g met + sumG cs g ts ≤ 1) : ∀ (m k : Nat) (met : List Int), k + m = t.length →
    (∀ g, 0 < g → prevG cs g t k = true → g ∈ met) →
    (goG cs t (goGs cs ts) k (t.drop k) met = 0 ↔ ∀ g, 0 < g → inN g met + stG cs g (prevG cs g t k) (t.drop k) + sumG cs g ts ≤ 1) := by
  intro m
  induction m with
  | zero =>
    intro k met hk _;rw [goG_done (by omega), ih, drop_done (by omega)];simp only [stG, Nat.add_zero]
  | succ m ihm =>
    intro k met hk hp;have hlt : k < t.length := by omega
    have hcons : t.drop k = t.getD k 0 :: t.drop (k + 1) := drop_cons hlt;have hpk : ∀ g, prevG cs g t (k + 1) = decide (grp cs (t.getD k 0) = g) := fun g => by simp [prevG]
    by_cases hb : (decide (0 < grp cs (t.getD k 0)) && (decide (grp cs (t.getD k 0) ∈ met) && !(coupled cs t ↑k))) = true
    · rw [goG_hit hlt hb]
      simp only [Bool.and_eq_true, decide_eq_true_eq, Bool.not_eq_true'] at hb;refine ⟨(fun h => by cases h), fun h => ?_⟩
      exfalso
      have h1 := h _ hb.1;have hnp : prevG cs (grp cs (t.getD k 0)) t k = false := by
        cases hq : prevG cs (grp cs (t.getD k 0)) t k with
        | false => rfl
        | true =>
          simp only [prevG, Bool.and_eq_true, decide_eq_true_eq] at hq;rw [coupled_of hlt hb.1 hq.1 hq.2] at hb;cases hb.2.2
      rw [hcons, hnp] at h1;have e1 : inN (grp cs (t.getD k 0)) met = 1 := if_pos hb.2.1;have e2 : ∀ r, stG cs (grp cs (t.getD k 0)) false (t.getD k 0 :: r) = 1 + stG cs (grp cs (t.getD k 0)) (decide (grp cs (t.getD k 0) = grp cs (t.getD k 0))) r := fun r => by
        show (if _ then 1 else 0) + _ = _;rw [if_pos ⟨rfl, rfl⟩]
      rw [e1, e2] at h1;omega
    · have hb' := Bool.eq_false_iff.2 hb
      rw [goG_miss hlt hb', ihm (k + 1) _ (by omega) ?_]
      · refine forall_congr' fun g => forall_congr' fun hg => ?_
        rw [hpk, hcons];have hst : stG cs g (prevG cs g t k) (t.getD k 0 :: t.drop (k + 1)) = (if grp cs (t.getD k 0) = g ∧ prevG cs g t k = false then 1 else 0) + stG cs g (decide (grp cs (t.getD k 0) = g)) (t.drop (k + 1)) := rfl;rw [hst];have hin : inN g (if grp cs (t.getD k 0) ∈ met then met else met ++ [grp cs (t.getD k 0)]) = inN g met + (if grp cs (t.getD k 0) = g ∧ prevG cs g t k = false then 1 else 0) := by
          by_cases e : grp cs (t.getD k 0) = g
          · cases hq : prevG cs g t k with
            | true =>
              have hm := hp g hg hq;rw [e, if_pos hm, if_neg (by simp)]; rfl
            | false =>
              have hnm : g ∉ met := fun hm => by
                have hc : coupled cs t ↑k = false := by
                  cases hc : coupled cs t ↑k with
                  | false => rfl
                  | true =>
                    obtain ⟨c1, c2, c3⟩ := coupled_to hlt hc;have : prevG cs g t k = true := by
                      simp only [prevG, Bool.and_eq_true, decide_eq_true_eq];exact ⟨c1, c3.symm.trans e⟩
                    rw [hq] at this; cases this
                rw [e, hc] at hb;simp [hg, hm] at hb
              rw [e, if_neg hnm];simp [inN, hnm]
          · have e' : ¬ g = grp cs (t.getD k 0) := fun h => e h.symm
            by_cases hG : grp cs (t.getD k 0) ∈ met
            · rw [if_pos hG, if_neg (fun hh => e hh.1)]; rfl
            · rw [if_neg hG, if_neg (fun hh => e hh.1), Nat.add_zero]
              unfold inN;simp only [List.mem_append, List.mem_singleton, e', or_false]
        rw [hin]
        generalize stG cs g (decide (grp cs (t.getD k 0) = g)) (t.drop (k + 1)) = S
        constructor <;> intro h <;> omega
      · intro g hg hq
        rw [hpk] at hq;have e := of_decide_eq_true hq;subst e
        split
        · assumption
        · simp
theorem goGs_st {cs : List Car} : ∀ (ts : List (List Int)) (met : List Int), goGs cs ts met = 0 ↔ ∀ g, 0 < g → inN g met + sumG cs g ts ≤ 1 := by
  intro ts
  induction ts with
  | nil =>
    intro met;refine ⟨fun _ g _ => ?_, fun _ => rfl⟩;unfold inN sumG; split <;> omega
  | cons t ts ih =>
    intro met;have h := goG_st (cs := cs) (ts := ts) (t := t) ih t.length 0 met (by omega) (fun g _ h => by simp [prevG] at h);rw [List.drop_zero] at h;show goG cs t (goGs cs ts) 0 t met = 0 ↔ _;rw [h];refine forall_congr' fun g => forall_congr' fun hg => ?_
    have e : prevG cs g t 0 = false := by simp [prevG]
    rw [e];show _ ↔ inN g met + (stG cs g false t + sumG cs g ts) ≤ 1
    constructor <;> intro h <;> omega
theorem groups_sum {Y : Yard} : groupsErr Y = 0 ↔ ∀ g, 0 < g → sumG Y.cars g Y.tracks ≤ 1 := by
  unfold groupsErr;rw [goGs_st];refine forall_congr' fun g => forall_congr' fun _ => ?_
  have e : inN g [] = 0 := by simp [inN]
  rw [e, Nat.zero_add]

def JG (prev : Bool) (row most c n : Nat) : Prop :=
  (n = 0 → row = 0 ∧ most = 0 ∧ c = 0 ∧ prev = false) ∧ (n = 1 → most = c ∧ 0 < c ∧ row = if prev = true then c else 0) ∧ (2 ≤ n → most < c ∧ row < c)
theorem JG_reset {prev : Bool} {row most c n : Nat} (h : JG prev row most c n) : JG false 0 most c n := by
  obtain ⟨h0, h1, h2⟩ := h;refine ⟨fun h => ?_, fun h => ?_, fun h => ?_⟩
  · have := h0 h; exact ⟨rfl, this.2.1, this.2.2.1, rfl⟩
  · have := h1 h; exact ⟨this.1, this.2.1, by simp⟩
  · have := h2 h; omega
theorem JG_step {prev : Bool} {row most c n : Nat} (x : Bool) (h : JG prev row most c n) :
    JG x (if x = true then row + 1 else 0) (max most (if x = true then row + 1 else 0)) (c + if x = true then 1 else 0) (n + if x = true ∧ prev = false then 1 else 0) := by
  cases x with
  | false =>
    show JG false 0 (max most 0) (c + 0) (n + 0);rw [Nat.max_zero]; exact JG_reset h
  | true =>
    obtain ⟨h0, h1, h2⟩ := h;cases prev with
    | false =>
      show JG true (row + 1) (max most (row + 1)) (c + 1) (n + 1);refine ⟨fun hn => by omega, fun hn => ?_, fun hn => ?_⟩
      · have := h0 (by omega); rw [if_pos rfl]; omega
      · rcases Nat.lt_or_ge n 2 with h | h
        · have := h1 (by omega); rw [if_neg (by decide)] at this; omega
        · have := h2 h; omega
    | true =>
      show JG true (row + 1) (max most (row + 1)) (c + 1) (n + 0);refine ⟨fun hn => ?_, fun hn => ?_, fun hn => ?_⟩
      · have := (h0 (by omega)).2.2.2; cases this
      · have := h1 (by omega); rw [if_pos rfl] at this ⊢; omega
      · have := h2 (by omega); omega
def cntT (cs : List Car) (g : Int) : List Int → Nat
  | [] => 0
  | c :: r => (if grp cs c = g then 1 else 0) + cntT cs g r
theorem cntT_append (cs : List Car) (g : Int) (a b : List Int) : cntT cs g (a ++ b) = cntT cs g a + cntT cs g b := by
  induction a with
  | nil => simp [cntT]
  | cons c a ih => simp only [List.cons_append, cntT, ih]; omega
theorem JG_fold {cs : List Car} {g : Int} : ∀ (t : List Int) (prev : Bool) (s : Nat × Nat) (c n : Nat), JG prev s.1 s.2 c n →
    ∃ prev', JG prev' (t.foldl (rowS cs g) s).1 (t.foldl (rowS cs g) s).2 (c + cntT cs g t) (n + stG cs g prev t) := by
  intro t
  induction t with
  | nil => intro prev s c n h; exact ⟨prev, h⟩
  | cons x t ih =>
    intro prev s c n h;have h1 := JG_step (decide (grp cs x = g)) h;have e1 : rowS cs g s x = ((if decide (grp cs x = g) = true then s.1 + 1 else 0), max s.2 (if decide (grp cs x = g) = true then s.1 + 1 else 0)) := by simp [rowS]
    have h2 := ih (decide (grp cs x = g)) (rowS cs g s x) (c + if decide (grp cs x = g) = true then 1 else 0) (n + if decide (grp cs x = g) = true ∧ prev = false then 1 else 0) (by rw [e1]; exact h1);obtain ⟨p, hp⟩ := h2;refine ⟨p, ?_⟩;have e2 : c + cntT cs g (x :: t) = c + (if decide (grp cs x = g) = true then 1 else 0) + cntT cs g t := by
      simp only [cntT, decide_eq_true_eq]; omega
    have e3 : n + stG cs g prev (x :: t) = n + (if decide (grp cs x = g) = true ∧ prev = false then 1 else 0) + stG cs g (decide (grp cs x = g)) t := by
      simp only [stG, decide_eq_true_eq]; omega
    rw [e2, e3];exact hp
theorem JG_all {cs : List Car} {g : Int} : ∀ (ts : List (List Int)) (most c n : Nat), JG false 0 most c n →
    JG false 0 (ts.foldl (fun most t => (rowT cs g most t).2) most) (c + cntT cs g ts.flatten) (n + sumG cs g ts) := by
  intro ts
  induction ts with
  | nil => intro most c n h; exact h
  | cons t ts ih =>
    intro most c n h;obtain ⟨p, hp⟩ := JG_fold t false (0, most) c n h;have := ih (rowT cs g most t).2 _ _ (JG_reset hp);have e2 : c + cntT cs g (t :: ts).flatten = c + cntT cs g t + cntT cs g ts.flatten := by rw [List.flatten_cons, cntT_append]; omega
    have e3 : n + sumG cs g (t :: ts) = n + stG cs g false t + sumG cs g ts := by show n + (_ + _) = _; omega
    rw [e2, e3];exact this
theorem cntT_filter (cs : List Car) (g : Int) (t : List Int) : cntT cs g t = (t.filter fun c => decide (grp cs c = g)).length := by
  induction t with
  | nil => rfl
  | cons c t ih =>
    simp only [cntT, ih]
    by_cases h : grp cs c = g
    · rw [if_pos h, List.filter_cons, if_pos (decide_eq_true h), List.length_cons]; omega
    · rw [if_neg h, List.filter_cons, if_neg (by simpa using h)]; omega
theorem cntT_perm {cs : List Car} {g : Int} {a b : List Int} (h : a.Perm b) : cntT cs g a = cntT cs g b := by
  rw [cntT_filter, cntT_filter]; exact (h.filter _).length_eq
theorem cntT_whole {cs : List Car} {g : Int} : ∀ k, k ≤ cs.length → cntT cs g (wholeL k) = cntG (cs.take k) g := by
  intro k
  induction k with
  | zero => intro _; simp [wholeL, cntT, cntG]
  | succ k ih =>
    intro hk;rw [wholeL_succ, cntT_append, ih (by omega), cntG_succ (by omega)];simp only [cntT, grp, carAt, Int.toNat_natCast, Nat.add_zero]; rfl
theorem together_iff {Y : Yard} (hp : Y.tracks.flatten.Perm (wholeL Y.cars.length)) (g : Int) : togetherP Y g = true ↔ sumG Y.cars g Y.tracks ≤ 1 := by
  have h := JG_all (cs := Y.cars) (g := g) Y.tracks 0 0 0 ⟨fun _ => ⟨rfl, rfl, rfl, rfl⟩, fun h => by omega, fun h => by omega⟩;rw [Nat.zero_add, Nat.zero_add, cntT_perm hp, cntT_whole _ (Nat.le_refl _), List.take_length] at h;unfold togetherP;rw [decide_eq_true_eq];have e : mostTo Y.cars g Y.tracks = Y.tracks.foldl (fun most t => (rowT Y.cars g most t).2) 0 := rfl;rw [e];obtain ⟨h0, h1, h2⟩ := h;omega
theorem goG_012 {cs : List Car} {t : List Int} {fin : List Int → Int} (hf : ∀ m, fin m = 0 ∨ fin m = 12) : ∀ (l : List Int) (k : Nat) (met : List Int), goG cs t fin k l met = 0 ∨ goG cs t fin k l met = 12 := by
  intro l
  induction l with
  | nil => intro k met; exact hf met
  | cons c r ih =>
    intro k met;simp only [goG]
    split
    · exact .inr rfl
    · exact ih _ _
theorem goGs_012 {cs : List Car} : ∀ (ts : List (List Int)) (met : List Int), goGs cs ts met = 0 ∨ goGs cs ts met = 12 := by
  intro ts
  induction ts with
  | nil => intro met; exact .inl rfl
  | cons t r ih => intro met; exact goG_012 ih _ _ _
theorem sumG_none {cs : List Car} {g : Int} (h : ∀ c, grp cs c ≠ g) : ∀ ts, sumG cs g ts = 0 := by
  have h1 : ∀ (t : List Int) (p : Bool), stG cs g p t = 0 := by
    intro t
    induction t with
    | nil => intro p; rfl
    | cons c t ih => intro p; simp only [stG, ih, h c, false_and, if_false]
  intro ts
  induction ts with
  | nil => rfl
  | cons t ts ih => simp only [sumG, ih, h1]
theorem refG_eq {Y : Yard} (hp : Y.tracks.flatten.Perm (wholeL Y.cars.length)) (hg : ∀ c ∈ Y.cars, 0 ≤ c.grp ∧ c.grp ≤ 3) : refG Y = groupsErr Y := by
  have h3 : ∀ c, grp Y.cars c ≤ 3 := fun c => by
    unfold grp carAt
    by_cases hc : c.toNat < Y.cars.length
    · exact (hg _ (getD_mem (d := noCar) hc)).2
    · simp [List.getD, List.getElem?_eq_none (Nat.le_of_not_lt hc), noCar]
  have hr : refG Y = 0 ∨ refG Y = 12 := by unfold refG; split <;> simp
  have hs : groupsErr Y = 0 ∨ groupsErr Y = 12 := goGs_012 _ _;have hi : refG Y = 0 ↔ groupsErr Y = 0 := by
    rw [groups_sum]
    constructor
    · intro h g hg0
      unfold refG at h
      split at h
      · rename_i hh
        simp only [Bool.and_eq_true] at hh
        by_cases hg3 : g ≤ 3
        · have : g = 1 ∨ g = 2 ∨ g = 3 := by omega
          rcases this with rfl | rfl | rfl
          · exact (together_iff hp 1).1 hh.1
          · exact (together_iff hp 2).1 hh.2.1
          · exact (together_iff hp 3).1 hh.2.2
        · rw [sumG_none (fun c => by have := h3 c; omega)]; omega
      · cases h
    · intro h
      unfold refG;rw [if_pos];simp only [Bool.and_eq_true];exact ⟨(together_iff hp 1).2 (h 1 (by omega)), (together_iff hp 2).2 (h 2 (by omega)), (together_iff hp 3).2 (h 3 (by omega))⟩
  rcases hr with a | a <;> rcases hs with b | b
  · rw [a, b]
  · rw [hi.1 a] at b; cases b
  · rw [hi.2 b] at a; cases a
  · rw [a, b]
theorem goTrack_congr {n : Nat} {f1 f2 : List Int → Int} : ∀ (t met : List Int), met.Nodup → ((∀ c ∈ t, 0 ≤ c ∧ c < n) → (met ++ t).Nodup → f1 (met ++ t) = f2 (met ++ t)) → goTrack n f1 t met = goTrack n f2 t met := by
  intro t
  induction t with
  | nil => intro met hn h; have := h (fun c hc => by simp at hc) (by simpa using hn); simpa [goTrack] using this
  | cons c r ih =>
    intro met hn h;simp only [goTrack]
    split
    · rename_i h1
      split
      · rfl
      · rename_i h2
        refine ih (met ++ [c]) (met_snoc hn h2) fun g1 g2 => ?_
        rw [List.append_assoc] at g2 ⊢;refine h (fun x hx => ?_) g2;have := inB_t h1;rcases List.mem_cons.1 hx with rfl | hx
        · omega
        · exact g1 x hx
    · rfl
theorem goTracks_congr {cs : List Car} {f1 f2 : List Int → Int} : ∀ (ts : List (List Int)) (rm met : List Int), met.Nodup → (OkAll cs ts → (met ++ ts.flatten).Nodup → f1 (met ++ ts.flatten) = f2 (met ++ ts.flatten)) → goTracks cs f1 ts rm met = goTracks cs f2 ts rm met := by
  intro ts
  induction ts with
  | nil => intro rm met hn h; have := h OkAll.nil (by simpa using hn); simpa [goTracks] using this
  | cons t r ih =>
    intro rm met hn h;simp only [goTracks];refine goTrack_congr t met hn fun g1 g2 => ?_
    split
    · rfl
    · refine ih rm.tail (met ++ t) g2 fun k1 k2 => ?_
      rw [List.append_assoc] at k2 ⊢
      have := h (fun x hx => by
        rcases List.mem_cons.1 hx with rfl | hx
        · exact g1
        · exact k1 x hx) (by simpa using k2)
      simpa using this
theorem refCheck_eq (Y : Yard) : refCheck Y = checkErr Y := by
  rw [checkErr_split];unfold refCheck
  by_cases h : coachErr Y = 0
  · rw [if_pos h, if_pos h]
    unfold refTracks tracksErr
    split
    · refine goTracks_congr _ _ _ (by simp) fun g1 g2 => ?_
      simp only [List.nil_append] at g2 ⊢
      split
      · rfl
      · rename_i hl
        refine refG_eq (whole_perm_of g2 (fun x hx => flatten_ok g1 x hx) (by omega)) fun c hc => ?_
        unfold coachErr at h
        split at h
        · cases h
        · split at h
          · rename_i h2
            exact (carOk_range (of_decide_eq_true (List.all_eq_true.1 h2 c hc))).2.2.2
          · cases h
    · rfl
  · rw [if_neg h, if_neg h]

def lastB (cs : List Car) (g : Int) : Bool → List Int → Bool
  | p, [] => p
  | _, c :: r => lastB cs g (decide (grp cs c = g)) r
theorem stG_append {cs : List Car} {g : Int} : ∀ (a b : List Int) (p : Bool), stG cs g p (a ++ b) = stG cs g p a + stG cs g (lastB cs g p a) b := by
  intro a
  induction a with
  | nil => intro b p; simp [stG, lastB]
  | cons c a ih => intro b p; simp only [List.cons_append, stG, lastB, ih]; omega
theorem lastB_at {cs : List Car} {g : Int} : ∀ (a : List Int) (p : Bool), 0 < a.length → lastB cs g p a = decide (grp cs (a.getD (a.length - 1) 0) = g) := by
  intro a
  induction a with
  | nil => intro p h; simp at h
  | cons c a ih =>
    intro p _;cases a with
    | nil => simp [lastB]
    | cons d r =>
      show lastB cs g (decide (grp cs c = g)) (d :: r) = _;rw [ih _ (by simp)];simp
theorem stG_tf {cs : List Car} {g : Int} (b : List Int) : stG cs g false b = stG cs g true b + if 0 < b.length ∧ grp cs (b.getD 0 0) = g then 1 else 0 := by
  cases b with
  | nil => simp [stG]
  | cons c r =>
    simp only [stG, List.length_cons, List.getD_cons_zero]
    by_cases h : grp cs c = g <;> simp [h] <;> omega
theorem stG_le {cs : List Car} {g : Int} (p : Bool) (b : List Int) : stG cs g p b ≤ stG cs g false b := by
  cases p with
  | false => exact Nat.le_refl _
  | true => rw [stG_tf b]; omega
theorem stG_app_le {cs : List Car} {g : Int} (a b : List Int) : stG cs g false (a ++ b) ≤ stG cs g false a + stG cs g false b := by
  rw [stG_append]; have := stG_le (cs := cs) (g := g) (lastB cs g false a) b; omega
theorem stG_cut {cs : List Car} {g : Int} {A : List Int} {n : Nat} (h : 0 < n → n < A.length → ¬ (grp cs (A.getD (n - 1) 0) = g ∧ grp cs (A.getD n 0) = g)) :
    stG cs g false A = stG cs g false (A.take n) + stG cs g false (A.drop n) := by
  have e : stG cs g false A = stG cs g false (A.take n ++ A.drop n) := by rw [List.take_append_drop]
  rw [e, stG_append]
  congr 1
  by_cases hn : 0 < n ∧ n < A.length
  · have hl : (A.take n).length = n := by rw [List.length_take]; omega
    rw [lastB_at _ _ (by omega), hl];have e1 : (A.take n).getD (n - 1) 0 = A.getD (n - 1) 0 := by simp only [List.getD, List.getElem?_take]; rw [if_pos (by omega)]
    rw [e1]
    by_cases hq : grp cs (A.getD (n - 1) 0) = g
    · have h2 : ¬ grp cs (A.getD n 0) = g := fun hh => h hn.1 hn.2 ⟨hq, hh⟩
      rw [decide_eq_true hq, stG_tf (A.drop n)];have e2 : (A.drop n).getD 0 0 = A.getD n 0 := by simp [List.getD]
      rw [e2, if_neg (fun hh => h2 hh.2)]; omega
    · rw [decide_eq_false hq]
  · by_cases h0 : n = 0
    · subst h0; simp [lastB]
    · rw [drop_done (by omega)]; simp [stG]
theorem sumG_set {cs : List Car} {g : Int} (X : List Int) : ∀ (ts : List (List Int)) (i : Nat), i < ts.length → sumG cs g (ts.set i X) + stG cs g false (ts.getD i []) = sumG cs g ts + stG cs g false X := by
  intro ts
  induction ts with
  | nil => intro i h; simp at h
  | cons t ts ih =>
    intro i h;cases i with
    | zero => simp only [List.set_cons_zero, sumG, List.getD_cons_zero]; omega
    | succ i => simp only [List.set_cons_succ, sumG, List.getD_cons_succ]; have := ih i (by simpa using h); omega
theorem sumG_at {cs : List Car} {g : Int} : ∀ (ts : List (List Int)) (i j : Nat), i < ts.length → j < ts.length → i ≠ j → stG cs g false (ts.getD i []) + stG cs g false (ts.getD j []) ≤ sumG cs g ts := by
  have one : ∀ (ts : List (List Int)) (i : Nat), i < ts.length → stG cs g false (ts.getD i []) ≤ sumG cs g ts := by
    intro ts
    induction ts with
    | nil => intro i h; simp at h
    | cons t ts ih =>
      intro i h;cases i with
      | zero => simp only [sumG, List.getD_cons_zero]; omega
      | succ i => simp only [sumG, List.getD_cons_succ]; have := ih i (by simpa using h); omega
  intro ts
  induction ts with
  | nil => intro i j h; simp at h
  | cons t ts ih =>
    intro i j hi hj hne;cases i with
    | zero =>
      cases j with
      | zero => exact absurd rfl hne
      | succ j => simp only [sumG, List.getD_cons_zero, List.getD_cons_succ]; have := one ts j (by simpa using hj); omega
    | succ i =>
      cases j with
      | zero => simp only [sumG, List.getD_cons_zero, List.getD_cons_succ]; have := one ts i (by simpa using hi); omega
      | succ j => simp only [sumG, List.getD_cons_succ]; have := ih i j (by simpa using hi) (by simpa using hj) (by omega); omega

theorem free_cut {Y : Yard} {s : Shift} (m : MayOk Y s) (g : Int) (hg : 0 < g) : 0 < (cutAt Y s).toNat → (cutAt Y s).toNat < (trk Y s.frm).length → ¬ (grp Y.cars ((trk Y s.frm).getD ((cutAt Y s).toNat - 1) 0) = g ∧ grp Y.cars ((trk Y s.frm).getD (cutAt Y s).toNat 0) = g) := fun h1 h2 hh => by
  have hf := m.free;have e : cutAt Y s = ↑(cutAt Y s).toNat := by omega
  rw [e, coupled_of h2 (by rw [hh.2]; exact hg) h1 (hh.1.trans hh.2.symm)] at hf;cases hf
theorem moved_trk {Y : Yard} {s : Shift} (m : MayOk Y s) : trk (moved Y s) s.frm = (trk Y s.frm).take (cutAt Y s).toNat ∧ trk (moved Y s) s.to = trk Y s.to ++ (trk Y s.frm).drop (cutAt Y s).toNat := by
  have hf := m.frm; have ht := m.to; have hne := m.ne;have hne' : s.frm.toNat ≠ s.to.toNat := by omega
  constructor
  · simp only [trk, moved, List.getD]
    rw [List.getElem?_set_self (by rw [List.length_set]; omega)]; rfl
  · simp only [trk, moved, List.getD]
    rw [List.getElem?_set_ne hne', List.getElem?_set_self (by omega)]; rfl
theorem moved_other {Y : Yard} {s : Shift} {k : Nat} (h1 : k ≠ s.frm.toNat) (h2 : k ≠ s.to.toNat) : (moved Y s).tracks.getD k [] = Y.tracks.getD k [] := by
  simp only [moved, List.getD];rw [List.getElem?_set_ne (Ne.symm h1), List.getElem?_set_ne (Ne.symm h2)]
theorem lenOf_cut (cs : List Car) (A : List Int) (n : Nat) : lenOf cs A = lenOf cs (A.take n) + lenOf cs (A.drop n) := by
  rw [← lenOf_append, List.take_append_drop]
theorem moved_sum {Y : Yard} {s : Shift} (m : MayOk Y s) (g : Int) (hg : 0 < g) : sumG Y.cars g (moved Y s).tracks ≤ sumG Y.cars g Y.tracks := by
  have hf := m.frm; have ht := m.to; have hne := m.ne;have hne' : s.to.toNat ≠ s.frm.toNat := by omega
  have hc := stG_cut (cs := Y.cars) (g := g) (A := trk Y s.frm) (n := (cutAt Y s).toNat) (free_cut m g hg);have ha := stG_app_le (cs := Y.cars) (g := g) (trk Y s.to) ((trk Y s.frm).drop (cutAt Y s).toNat);have s1 := sumG_set (cs := Y.cars) (g := g) (trk Y s.to ++ (trk Y s.frm).drop (cutAt Y s).toNat) Y.tracks s.to.toNat (by omega);have s2 := sumG_set (cs := Y.cars) (g := g) ((trk Y s.frm).take (cutAt Y s).toNat) (Y.tracks.set s.to.toNat (trk Y s.to ++ (trk Y s.frm).drop (cutAt Y s).toNat)) s.frm.toNat (by rw [List.length_set]; omega);have e2 : (Y.tracks.set s.to.toNat (trk Y s.to ++ (trk Y s.frm).drop (cutAt Y s).toNat)).getD s.frm.toNat [] = trk Y s.frm := by
    simp only [trk, List.getD];rw [List.getElem?_set_ne hne']
  rw [e2] at s2;have e1 : Y.tracks.getD s.to.toNat [] = trk Y s.to := rfl;rw [e1] at s1;show sumG Y.cars g ((Y.tracks.set s.to.toNat _).set s.frm.toNat _) ≤ _;omega
theorem Fine.mv {Y : Yard} {s : Shift} (f : Fine Y) (h : mayErr Y s = 0) : Fine (moved Y s) := by
  have m := mayOk h;have k := kin_moved h;have gd := f.good.moved h;have hf := m.frm; have ht := m.to; have hne := m.ne;have sm := f.good.small;refine ⟨f.cars, f.carOk, f.room1, f.room3, f.roomOk, by rw [k.len]; exact f.len, gd.ok, k.perm.nodup_iff.2 f.nodup, fun i hi => ?_, by rw [k.perm.length_eq]; exact f.all, ?_⟩
  · rw [k.len] at hi
    have t1 := moved_trk m;have e0 : (moved Y s).cars = Y.cars := rfl;have e9 : (moved Y s).room = Y.room := rfl;rw [e0, e9]
    by_cases h1 : i = s.frm.toNat
    · subst h1
      have e : (moved Y s).tracks.getD s.frm.toNat [] = _ := t1.1;rw [e];have h2 := f.fits s.frm.toNat hi;have h3 := lenOf_cut Y.cars (trk Y s.frm) (cutAt Y s).toNat;have h4 := lenOf_bound sm ((trk Y s.frm).drop (cutAt Y s).toNat);have e5 : Y.tracks.getD s.frm.toNat [] = trk Y s.frm := rfl;rw [e5] at h2;omega
    · by_cases h2 : i = s.to.toNat
      · subst h2
        have e : (moved Y s).tracks.getD s.to.toNat [] = _ := t1.2;rw [e, lenOf_append];have := m.fits;omega
      · rw [moved_other h1 h2]; exact f.fits i hi
  · rw [groups_sum]
    intro g hg;have h1 := groups_sum.1 f.groups g hg;have h2 := moved_sum m g hg;exact Nat.le_trans h2 h1
theorem may_back {Y : Yard} {s : Shift} (f : Fine Y) (h : mayErr Y s = 0) : mayErr (moved Y s) (backShift s) = 0 := by
  have m := mayOk h;have b := back_ok h;have k := kin_moved h;have hf := m.frm; have ht := m.to; have hne := m.ne; have hm := m.many;have t1 := moved_trk m;have hlen : (moved Y s).tracks.length = Y.tracks.length := k.len;have ec : cutAt (moved Y s) (backShift s) = ↑(trk Y s.to).length := by
    have e1 : trk (moved Y s) (backShift s).frm = _ := t1.2;unfold cutAt;rw [e1];simp only [List.length_append, List.length_drop, backShift, cutAt, trk];omega
  refine mayErr_7 rfl ?_ ?_ ?_ ?_ ?_ ?_
  · rw [hlen]
    show (decide (0 ≤ s.to) && decide (s.to ≤ ↑Y.tracks.length - 1)) = true;rw [decide_eq_true ht.1, decide_eq_true (by omega)]; rfl
  · rw [hlen]
    show (decide (0 ≤ s.frm) && decide (s.frm ≤ ↑Y.tracks.length - 1)) = true;rw [decide_eq_true hf.1, decide_eq_true (by omega)]; rfl
  · exact fun e => hne e.symm
  · simp only [backShift]; omega
  · have := b.2.2.2
    unfold trk; omega
  · rw [ec]
    have e1 : trk (moved Y s) (backShift s).frm = _ := t1.2;have e2 : trk (moved Y s) (backShift s).to = _ := t1.1;have e3 : (moved Y s).cars = Y.cars := rfl;have e4 : (moved Y s).room = Y.room := rfl;rw [e1, e2, e3, e4, Int.toNat_natCast, List.drop_left, Bool.or_eq_false_iff]
    constructor
    · cases hc : coupled Y.cars (trk Y s.to ++ (trk Y s.frm).drop (cutAt Y s).toNat) ↑(trk Y s.to).length with
      | false => rfl
      | true =>
        exfalso
        have hDl : 0 < ((trk Y s.frm).drop (cutAt Y s).toNat).length := by
          simp only [List.length_drop, cutAt];have : (trk Y s.frm).length = (Y.tracks.getD s.frm.toNat []).length := rfl;omega
        obtain ⟨c1, c2, c3⟩ := coupled_to (by rw [List.length_append]; omega) hc;have q1 : (trk Y s.to ++ (trk Y s.frm).drop (cutAt Y s).toNat).getD (trk Y s.to).length 0 = ((trk Y s.frm).drop (cutAt Y s).toNat).getD 0 0 := by
          rw [getD_app, if_neg (by omega), Nat.sub_self]
        have q2 : (trk Y s.to ++ (trk Y s.frm).drop (cutAt Y s).toNat).getD ((trk Y s.to).length - 1) 0 = (trk Y s.to).getD ((trk Y s.to).length - 1) 0 := by
          rw [getD_app, if_pos (by omega)]
        rw [q1] at c2;rw [q1, q2] at c3
        generalize hg : grp Y.cars (((trk Y s.frm).drop (cutAt Y s).toNat).getD 0 0) = g at c2 c3
        have h1 := groups_sum.1 f.groups g c2;have h2 := sumG_at (cs := Y.cars) (g := g) Y.tracks s.frm.toNat s.to.toNat (by omega) (by omega) (by omega);have h3 := stG_cut (cs := Y.cars) (g := g) (A := trk Y s.frm) (n := (cutAt Y s).toNat) (free_cut m g c2);have h4 := stG_tf (cs := Y.cars) (g := g) ((trk Y s.frm).drop (cutAt Y s).toNat);rw [if_pos ⟨hDl, hg⟩] at h4;have h5 : 1 ≤ stG Y.cars g false (trk Y s.to) := by
          have e5 : trk Y s.to = (trk Y s.to).take ((trk Y s.to).length - 1) ++ [(trk Y s.to).getD ((trk Y s.to).length - 1) 0] := by
            have := take_snoc (d := (0 : Int)) (xs := trk Y s.to) (k := (trk Y s.to).length - 1) (by omega);rw [← this, show (trk Y s.to).length - 1 + 1 = (trk Y s.to).length by omega, List.take_length]
          by_cases hz : stG Y.cars g false (trk Y s.to) = 0
          · exfalso
            have hl : lastB Y.cars g false (trk Y s.to) = true := by rw [lastB_at _ _ c1]; exact decide_eq_true c3.symm
            have : ∀ (a : List Int), stG Y.cars g false a = 0 → lastB Y.cars g false a = false := by
              intro a
              induction a with
              | nil => intro _; rfl
              | cons c a ih =>
                intro hz;simp only [stG] at hz
                by_cases hcg : grp Y.cars c = g
                · rw [if_pos ⟨hcg, trivial⟩] at hz; omega
                · simp only [lastB]
                  rw [decide_eq_false hcg] at hz ⊢;exact ih (by omega)
            rw [this _ hz] at hl; cases hl
          · omega
        have e6 : Y.tracks.getD s.frm.toNat [] = trk Y s.frm := rfl;have e7 : Y.tracks.getD s.to.toNat [] = trk Y s.to := rfl;rw [e6, e7] at h2;omega
    · refine decide_eq_false ?_
      have h2 := f.fits s.frm.toNat (by omega);have h3 := lenOf_cut Y.cars (trk Y s.frm) (cutAt Y s).toNat;have e6 : Y.tracks.getD s.frm.toNat [] = trk Y s.frm := rfl;rw [e6] at h2;have e8 : (backShift s).to = s.frm := rfl;rw [e8];omega

theorem playFrom_app : ∀ (a : List Shift) (b : List Shift) {Y Z : Yard}, playFrom Y a = (Z, 0) → playFrom Y (a ++ b) = playFrom Z b := by
  intro a
  induction a with
  | nil => intro b Y Z h; simp only [playFrom, Prod.mk.injEq, and_true] at h; subst h; rfl
  | cons s a ih =>
    intro b Y Z h;simp only [List.cons_append, playFrom] at h ⊢
    by_cases hm : mayErr Y s = 0
    · rw [if_pos hm] at h ⊢; exact ih b h
    · rw [if_neg hm] at h
      simp only [Prod.mk.injEq] at h;exact absurd h.2 hm
theorem playFrom_one {Y : Yard} {s : Shift} (h : mayErr Y s = 0) : playFrom Y [s] = (moved Y s, 0) := by simp only [playFrom]; rw [if_pos h]
theorem playFrom_fine : ∀ (l : List Shift) {Y X : Yard}, Fine Y → playFrom Y l = (X, 0) → Fine X := by
  intro l
  induction l with
  | nil => intro Y X f h; simp only [playFrom, Prod.mk.injEq, and_true] at h; subst h; exact f
  | cons s l ih =>
    intro Y X f h;simp only [playFrom] at h
    by_cases hm : mayErr Y s = 0
    · rw [if_pos hm] at h; exact ih (f.mv hm) h
    · rw [if_neg hm] at h; simp only [Prod.mk.injEq] at h; exact absurd h.2 hm
theorem playFrom_back : ∀ (l : List Shift) {Y X : Yard}, Fine Y → playFrom Y l = (X, 0) → playFrom X (l.map backShift).reverse = (Y, 0) := by
  intro l
  induction l with
  | nil => intro Y X f h; simp only [playFrom, Prod.mk.injEq, and_true] at h; subst h; rfl
  | cons s l ih =>
    intro Y X f h;simp only [playFrom] at h
    by_cases hm : mayErr Y s = 0
    · rw [if_pos hm] at h
      rw [List.map_cons, List.reverse_cons, playFrom_app _ _ (ih (f.mv hm) h), playFrom_one (may_back f hm), moved_back hm]
    · rw [if_neg hm] at h; simp only [Prod.mk.injEq] at h; exact absurd h.2 hm
theorem play_valid {Y X : Yard} {l : List Shift} (h : Valid Y) (hp : playFrom Y l = (X, 0)) : play Y l = (X, 0) ∧ Valid X ∧ Kin Y X := by
  exact ⟨(play_good h).trans hp, (playFrom_fine l h.fine hp).valid, playFrom_kin l hp⟩
end Go.Sh
namespace Go.Proofs.YtcaocbhbofejnaaGreatDoor
open Go Go.Sl Go.Sh
set_option maxRecDepth 100000
noncomputable def c_CheckR (p : List Nat) : Code := sub (bodyOf Tryz.f44) p
theorem CheckR_ct (I : Imm) (y : Value) (Y : Yard) (y_f : IsYard I y Y) : CtV Tryz.prog 44 #[y] I (.int .i64 (checkErr Y)) := by
 obtain ⟨y1, y2, y3, d1, a6, a7, a8⟩ := id y_f;subst d1;obtain ⟨a0, a1, b5, b8, b0, b6, b7, b9⟩ := id a6;subst b0;obtain ⟨a2, a3, c0, c3, b2, c1, c2, c4⟩ := id a7;subst b2;obtain ⟨a4, a5, c5, c8, b4, b3, c6, c7, c9, d0⟩ := id a8;subst b3;refine fr (args := [_]) (N := 11) Tryz.func44 (fun F => ?_);show Run _ _ (c_CheckR []) _ _ [(0, .agg #[.slice a0 Y.cars.length a1, .slice a2 Y.room.length a3, .slice a4 Y.tracks.length a5])] _ _;refine rnm (rqr ?_);refine sS (sb 1 26 #[.slice a0 Y.cars.length a1, .slice a2 Y.room.length a3, .slice a4 Y.tracks.length a5] (fun b1 => ?_));refine sp 1 [(2, .int .i64 (0))] ?_;refine se (rq (rqr ?_));refine sd (dnb 4 0 0 b1 [.slice a0 Y.cars.length a1, .slice a2 Y.room.length a3, .slice a4 Y.tracks.length a5]) ?_;refine sd (dc 5 (fun I' hI => (checkCoaches_ct I' _ (Y) ((mkYard a6 a7 a8).mono hI) :))) ?_;refine sp 1 [(3, .int .i64 ((coachErr Y)))] ?_;refine sn ?_;refine sp 2 [(7, .bool (!(cmp .eql ((coachErr Y)) (0))))] ?_;refine se ?_;refine rc 7 rfl (fun h1 => ?_) (fun h1 => ?_)
 ·
  have a9 := h1;have h1 := not_t h1;have h1 := eql_f h1;refine rqr ?_;refine sp 2 [(2, .int .i64 ((coachErr Y)))] ?_;refine se (rret ?_);refine (pst_ret_pass ?_);refine pst_ret1 (t := 2) [] (by kernel_rfl) rfl (TC _ (TR _)) (Imm.le.refl _) ?_;exact ⟨congrArg (Value.int .i64) (Eq.trans (b := refCheck Y) (if_neg (by omega)).symm (refCheck_eq Y)), rfl⟩
 have a9 := h1;have h1 := not_f h1;have h1 := eql_t h1;refine rskip (pst_next (rqr ?_));refine sd (dnb 9 0 0 b1 [.slice a0 Y.cars.length a1, .slice a2 Y.room.length a3, .slice a4 Y.tracks.length a5]) ?_;have hz := coachErr_zero (show coachErr Y = 0 by omega);refine sd (dc 10 (fun I' hI => (checkTracksR_ct I' _ (Y) ((mkYard a6 a7 a8).mono hI) (by exact hz.1) (by exact hz.2) :))) ?_;refine sp 1 [(2, .int .i64 ((refTracks Y)))] ?_;refine se (rret ?_);refine pst_ret1 (t := 2) [] (by kernel_rfl) rfl (TC _ (TR _)) (Imm.le.refl _) ?_;exact ⟨congrArg (Value.int .i64) (Eq.trans (b := refCheck Y) (if_pos (by omega)).symm (refCheck_eq Y)), rfl⟩

end Go.Proofs.YtcaocbhbofejnaaGreatDoor
namespace Go.Proofs.YtcaocbhbofejnaaGreatDoor
open Go Go.Sl Go.Sh
set_option maxRecDepth 100000
noncomputable def c_checkDraw (p : List Nat) : Code := sub (bodyOf Tryz.f97) p
set_option maxHeartbeats 2000000 in
theorem checkDraw_ct (I : Imm) (y : Value) (Y : Yard) (s : Shift) (y_f : IsYard I y Y) (ho : OkAll Y.cars Y.tracks) (hs : Small Y.cars) (hl : Y.room.length = Y.tracks.length) (hq : ∀ t ∈ Y.tracks, t.length ≤ 1000000) : CtV Tryz.prog 97 #[y, .agg #[.int .i64 s.frm, .int .i64 s.to, .int .i64 s.many]] I (.int .i64 (mayErr Y s)) := by
 obtain ⟨y1, y2, y3, k8, b4, b5, b6⟩ := id y_f;subst k8;obtain ⟨a2, a3, e0, e1, e8, j8, j9, c1⟩ := id b4;subst e8;obtain ⟨a4, a5, k0, k3, e9, k1, k2, c2⟩ := id b5;subst e9;obtain ⟨a0, a1, k4, k7, f1, f0, k5, k6, a9, d1⟩ := id b6;subst f0;refine fr (args := [_, _]) (N := 102) Tryz.func97 (fun F => ?_);show Run _ _ (c_checkDraw []) _ _ [(0, .agg #[.slice a2 Y.cars.length a3, .slice a4 Y.room.length a5, .slice a0 Y.tracks.length a1]), (1, .agg #[.int .i64 (s.frm), .int .i64 (s.to), .int .i64 (s.many)])] _ _;refine rnm (rqr ?_);refine sS (sb 2 26 #[.slice a2 Y.cars.length a3, .slice a4 Y.room.length a5, .slice a0 Y.tracks.length a1] (fun b1 => ?_));refine sS (sb 3 52 #[.int .i64 (s.frm), .int .i64 (s.to), .int .i64 (s.many)] (fun b3 => ?_));refine sp 1 [(4, .int .i64 (0))] ?_;refine se (rq (rq ?_));refine run_cut (fun a w => Slots 102 [(2, .pointer (some ⟨b1, 0, none⟩)), (3, .pointer (some ⟨b3, 0, none⟩)), (4, .int .i64 (0)), (25, .bool ((!(inB s.frm 0 ((↑(Y.tracks.length)) - 1))) || (!(inB s.to 0 ((↑(Y.tracks.length)) - 1)))))] a ∧ a.defers = [] ∧ St I ((b3, Obj.cells #[.int .i64 (s.frm), .int .i64 (s.to), .int .i64 (s.many)] 52 (0, 0)) :: (b1, Obj.cells #[.slice a2 Y.cars.length a3, .slice a4 Y.room.length a5, .slice a0 Y.tracks.length a1] 26 (0, 0)) :: F) w) ?_ ?_
 ·
  refine rr ?_;refine sp 1 [(8, .pointer (some ⟨b3, 0, none⟩))] ?_;refine sd (dlb 9 0 0 b3 (.int .i64 (s.frm))) ?_;refine sp 1 [(10, .pointer (some ⟨b1, 2, none⟩))] ?_;refine sd (dlb 11 1 2 b1 (.slice a0 Y.tracks.length a1)) ?_;refine sp 1 [(12, .int .i64 (↑(Y.tracks.length)))] ?_;refine sd (dsb 13 (↑(Y.tracks.length)) (1)) ?_;refine sd (dc 14 (fun I' hI => (between_ct I' (s.frm) (0) ((↑(Y.tracks.length)) - 1) :))) ?_;refine sp 2 [(16, .bool (!(inB s.frm 0 ((↑(Y.tracks.length)) - 1))))] ?_;refine seq_split 16 rfl (fun h1 => ?_) (fun h1 => ?_)
  ·
   have a6 := h1;have a6 := not_t a6;have c4 := inB_f a6;refine sp 9 [(25, .bool (true))] ?_;refine ee ?_;refine pst_meet (fun a w hS hD hW => ⟨hS.sub (.cons 2 rfl (.cons 3 rfl (.cons 4 rfl (.consE 25 rfl (congrArg Value.bool (by simp only [h1, Bool.true_and, Bool.false_and, Bool.and_true, Bool.and_false, Bool.true_or, Bool.false_or, Bool.or_true, Bool.or_false, cond_true, cond_false])) (.nil _))))), hD, hW⟩)
  have a6 := h1;have a6 := not_f a6;have c4 := inB_t a6;refine sp 1 [(17, .pointer (some ⟨b3, 1, none⟩))] ?_;refine sd (dlb 18 0 1 b3 (.int .i64 (s.to))) ?_;refine sp 1 [(19, .pointer (some ⟨b1, 2, none⟩))] ?_;refine sd (dlb 20 1 2 b1 (.slice a0 Y.tracks.length a1)) ?_;refine sp 1 [(21, .int .i64 (↑(Y.tracks.length)))] ?_;refine sd (dsb 22 (↑(Y.tracks.length)) (1)) ?_;refine sd (dc 23 (fun I' hI => (between_ct I' (s.to) (0) ((↑(Y.tracks.length)) - 1) :))) ?_;refine sp 2 [(25, .bool (!(inB s.to 0 ((↑(Y.tracks.length)) - 1))))] ?_;refine ee ?_;refine pst_meet (fun a w hS hD hW => ⟨hS.sub (.cons 2 rfl (.cons 3 rfl (.cons 4 rfl (.consE 25 rfl (congrArg Value.bool (by simp only [h1, Bool.true_and, Bool.false_and, Bool.and_true, Bool.and_false, Bool.true_or, Bool.false_or, Bool.or_true, Bool.or_false, cond_true, cond_false])) (.nil _))))), hD, hW⟩)
 rintro a w ⟨hS, hD, hW⟩
 refine run_at hS hD hW ?_;clear hS hD hW a w;refine rc 25 rfl (fun h2 => ?_) (fun h2 => ?_)
 ·
  have d2 := h2;refine rqr ?_;refine sp 1 [(4, .int .i64 (3))] ?_;refine se (rret ?_);refine (pst_ret_pass ?_);refine pst_ret1 (t := 4) [] (by kernel_rfl) rfl (TC _ (TC _ (TR _))) (Imm.le.refl _) ?_;exact ⟨congrArg (Value.int .i64) (mayErr_12 rfl d2).symm, rfl⟩
 have d2 := h2;obtain ⟨b7, b8⟩ := or_f h2;have b7 := not_f b7;have e2 := inB_t b7;have b8 := not_f b8;have e3 := inB_t b8;have g1 := b7;have g2 := b8;refine rskip (pst_next (rq (rqr ?_)));refine sp 1 [(26, .pointer (some ⟨b3, 0, none⟩))] ?_;refine sd (dlb 27 0 0 b3 (.int .i64 (s.frm))) ?_;refine sp 1 [(28, .pointer (some ⟨b3, 1, none⟩))] ?_;refine sd (dlb 29 0 1 b3 (.int .i64 (s.to))) ?_;refine sp 1 [(30, .bool (cmp .eql (s.frm) (s.to)))] ?_;refine se ?_;refine rc 30 rfl (fun h3 => ?_) (fun h3 => ?_)
 ·
  have e4 := h3;have h3 := eql_t h3;refine rqr ?_;refine sp 1 [(4, .int .i64 (4))] ?_;refine se (rret ?_);refine (pst_ret_pass ?_);refine pst_ret1 (t := 4) [] (by kernel_rfl) rfl (TC _ (TC _ (TR _))) (Imm.le.refl _) ?_;exact ⟨congrArg (Value.int .i64) (mayErr_3 rfl g1 g2 h3).symm, rfl⟩
 have e4 := h3;have h3 := eql_f h3;have g3 := h3;refine rskip (pst_next (rq (rqr ?_)));refine sp 1 [(31, .pointer (some ⟨b3, 2, none⟩))] ?_;refine sd (dlb 32 0 2 b3 (.int .i64 (s.many))) ?_;refine sp 1 [(33, .bool (cmp .lss (s.many) (1)))] ?_;refine se ?_;refine rc 33 rfl (fun h4 => ?_) (fun h4 => ?_)
 ·
  have e5 := h4;have h4 := lss_t h4;refine rqr ?_;refine sp 1 [(4, .int .i64 (7))] ?_;refine se (rret ?_);refine (pst_ret_pass ?_);refine pst_ret1 (t := 4) [] (by kernel_rfl) rfl (TC _ (TC _ (TR _))) (Imm.le.refl _) ?_;exact ⟨congrArg (Value.int .i64) (mayErr_4 rfl g1 g2 g3 (by omega)).symm, rfl⟩
 have e5 := h4;have h4 := lss_f h4;refine rskip (pst_next (rqr ?_));refine sp 1 [(34, .pointer (some ⟨b1, 2, none⟩))] ?_;refine sd (dlb 35 1 2 b1 (.slice a0 Y.tracks.length a1)) ?_;refine sp 1 [(36, .pointer (some ⟨b3, 0, none⟩))] ?_;refine sd (dlb 37 0 0 b3 (.int .i64 (s.frm))) ?_;have k9 := inB_t g1; have l0 := inB_t g2;refine sd (diI 38 1 (s.frm) a9.addr) ?_;have b9 := d1 ((s.frm : Int).toNat) (by omega);obtain ⟨a7, a8, f3, f6, d5, f4, f5, c0⟩ := id b9;rw [d5] at b9;refine sd (det_eq (dl 39 (rows_get a9 ((s.frm : Int).toNat) (by omega))) d5) ?_;refine sp 1 [(5, .slice a7 (Y.tracks.getD ((s.frm : Int).toNat) []).length a8)] ?_;refine se (rq (rqr ?_));refine sp 1 [(40, .pointer (some ⟨b3, 2, none⟩))] ?_;refine sd (dlb 41 0 2 b3 (.int .i64 (s.many))) ?_;refine sp 3 [(44, .bool (cmp .gtr (s.many) (↑((Y.tracks.getD ((s.frm : Int).toNat) []).length))))] ?_;refine se ?_;refine rc 44 rfl (fun h5 => ?_) (fun h5 => ?_)
 ·
  have e6 := h5;have h5 := gtr_t h5;refine rqr ?_;refine sp 1 [(4, .int .i64 (6))] ?_;refine se (rret ?_);refine (pst_ret_pass ?_);refine pst_ret1 (t := 4) [] (by kernel_rfl) rfl (TC _ (TC _ (TR _))) (Imm.le.refl _) ?_;exact ⟨congrArg (Value.int .i64) (mayErr_5 rfl g1 g2 g3 (by omega) h5).symm, rfl⟩
 have e6 := h5;have h5 := gtr_f h5;have g5 := h5;refine rskip (pst_next (rq (rqr ?_)));refine sp 3 [(47, .pointer (some ⟨b3, 2, none⟩)), (46, .int .i64 (↑((Y.tracks.getD ((s.frm : Int).toNat) []).length)))] ?_;refine sd (dlb 48 0 2 b3 (.int .i64 (s.many))) ?_;refine sd (dsb 49 (↑((Y.tracks.getD ((s.frm : Int).toNat) []).length)) (s.many)) ?_;refine sp 1 [(6, .int .i64 ((↑((Y.tracks.getD ((s.frm : Int).toNat) []).length)) - s.many))] ?_;refine sn ?_;refine sp 2 [(51, .bool (cmp .gtr ((↑((Y.tracks.getD ((s.frm : Int).toNat) []).length)) - s.many) (0)))] ?_;refine se ?_;refine rc 51 rfl (fun h6 => ?_) (fun h6 => ?_)
 ·
  have e7 := h6;have h6 := gtr_t h6;refine rq ?_;refine rd0 6 ?_;refine ox 1 [(52, .pointer (some ⟨b1, 0, none⟩))] ?_;refine ofp_det (dlb 53 1 0 b1 (.slice a2 Y.cars.length a3)) ?_;refine ox 2 [(55, .int .i64 ((↑((Y.tracks.getD ((s.frm : Int).toNat) []).length)) - s.many)), (54, .slice a7 (Y.tracks.getD ((s.frm : Int).toNat) []).length a8)] ?_;refine ofp_det (diI 56 1 ((↑((Y.tracks.getD ((s.frm : Int).toNat) []).length)) - s.many) c0.addr) ?_;refine ofp_det (dl 57 (ints_get c0 (((↑((Y.tracks.getD ((s.frm : Int).toNat) []).length)) - s.many : Int).toNat) (by omega))) ?_;refine ofp_end0 ?_;have l1 := (ho.at s.frm.toNat (by omega)).at ((↑((Y.tracks.getD ((s.frm).toNat) []).length) : Int) - s.many).toNat (by omega);refine sd (diI 58 6 ((Y.tracks.getD ((s.frm : Int).toNat) []).getD (((↑((Y.tracks.getD ((s.frm : Int).toNat) []).length)) - s.many : Int).toNat) 0) c1.addr) ?_;refine sp 1 [(59, .pointer (some ⟨e0, e1 + (((Y.tracks.getD ((s.frm : Int).toNat) []).getD (((↑((Y.tracks.getD ((s.frm : Int).toNat) []).length)) - s.many : Int).toNat) 0 : Int).toNat) * 6 + 3, none⟩))] ?_;refine sd (dl 60 (cars_get c1 (((Y.tracks.getD ((s.frm : Int).toNat) []).getD (((↑((Y.tracks.getD ((s.frm : Int).toNat) []).length)) - s.many : Int).toNat) 0 : Int).toNat) (by omega) 3 (by decide) (v := .int .i64 ((Y.cars.getD (((Y.tracks.getD ((s.frm : Int).toNat) []).getD (((↑((Y.tracks.getD ((s.frm : Int).toNat) []).length)) - s.many : Int).toNat) 0 : Int).toNat) noCar).grp)) rfl)) ?_;refine sp 1 [(7, .int .i64 ((Y.cars.getD (((Y.tracks.getD ((s.frm : Int).toNat) []).getD (((↑((Y.tracks.getD ((s.frm : Int).toNat) []).length)) - s.many : Int).toNat) 0 : Int).toNat) noCar).grp))] ?_;refine se (rq ?_);refine run_cut (fun a w => Slots 102 [(2, .pointer (some ⟨b1, 0, none⟩)), (3, .pointer (some ⟨b3, 0, none⟩)), (4, .int .i64 (0)), (5, .slice a7 (Y.tracks.getD ((s.frm : Int).toNat) []).length a8), (76, .bool ((cmp .gtr ((Y.cars.getD (((Y.tracks.getD ((s.frm : Int).toNat) []).getD (((↑((Y.tracks.getD ((s.frm : Int).toNat) []).length)) - s.many : Int).toNat) 0 : Int).toNat) noCar).grp) (0)) && (cmp .eql ((Y.cars.getD (((Y.tracks.getD ((s.frm : Int).toNat) []).getD (((↑((Y.tracks.getD ((s.frm : Int).toNat) []).length)) - s.many : Int).toNat) 0 : Int).toNat) noCar).grp) ((Y.cars.getD (((Y.tracks.getD ((s.frm : Int).toNat) []).getD ((((↑((Y.tracks.getD ((s.frm : Int).toNat) []).length)) - s.many) - 1 : Int).toNat) 0 : Int).toNat) noCar).grp))))] a ∧ a.defers = [] ∧ St I ((b3, Obj.cells #[.int .i64 (s.frm), .int .i64 (s.to), .int .i64 (s.many)] 52 (0, 0)) :: (b1, Obj.cells #[.slice a2 Y.cars.length a3, .slice a4 Y.room.length a5, .slice a0 Y.tracks.length a1] 26 (0, 0)) :: F) w) ?_ ?_
  ·
   refine rd0 14 ?_;refine ox 3 [(63, .bool (cmp .gtr ((Y.cars.getD (((Y.tracks.getD ((s.frm : Int).toNat) []).getD (((↑((Y.tracks.getD ((s.frm : Int).toNat) []).length)) - s.many : Int).toNat) 0 : Int).toNat) noCar).grp) (0)))] ?_;refine ofp_split 63 (fun h7 => ?_) (fun h7 => ?_)
   ·
    have b2 := h7;have b2 := gtr_t b2;refine ox 2 [(65, .pointer (some ⟨b1, 0, none⟩)), (64, .int .i64 ((Y.cars.getD (((Y.tracks.getD ((s.frm : Int).toNat) []).getD (((↑((Y.tracks.getD ((s.frm : Int).toNat) []).length)) - s.many : Int).toNat) 0 : Int).toNat) noCar).grp))] ?_;refine ofp_det (dlb 66 1 0 b1 (.slice a2 Y.cars.length a3)) ?_;refine ox 2 [(68, .int .i64 ((↑((Y.tracks.getD ((s.frm : Int).toNat) []).length)) - s.many)), (67, .slice a7 (Y.tracks.getD ((s.frm : Int).toNat) []).length a8)] ?_;refine ofp_det (dsb 69 ((↑((Y.tracks.getD ((s.frm : Int).toNat) []).length)) - s.many) (1)) ?_;refine ofp_det (diI 70 1 (((↑((Y.tracks.getD ((s.frm : Int).toNat) []).length)) - s.many) - 1) c0.addr) ?_;refine ofp_det (dl 71 (ints_get c0 ((((↑((Y.tracks.getD ((s.frm : Int).toNat) []).length)) - s.many) - 1 : Int).toNat) (by omega))) ?_;have f2 := (ho.at s.frm.toNat (by omega)).at ((↑(Y.tracks.getD ((s.frm).toNat) []).length : Int) - s.many - 1).toNat (by omega);refine ofp_det (diI 72 6 ((Y.tracks.getD ((s.frm : Int).toNat) []).getD ((((↑((Y.tracks.getD ((s.frm : Int).toNat) []).length)) - s.many) - 1 : Int).toNat) 0) c1.addr) ?_;refine ox 1 [(73, .pointer (some ⟨e0, e1 + (((Y.tracks.getD ((s.frm : Int).toNat) []).getD ((((↑((Y.tracks.getD ((s.frm : Int).toNat) []).length)) - s.many) - 1 : Int).toNat) 0 : Int).toNat) * 6 + 3, none⟩))] ?_;refine ofp_det (dl 74 (cars_get c1 (((Y.tracks.getD ((s.frm : Int).toNat) []).getD ((((↑((Y.tracks.getD ((s.frm : Int).toNat) []).length)) - s.many) - 1 : Int).toNat) 0 : Int).toNat) (by omega) 3 (by decide) (v := .int .i64 ((Y.cars.getD (((Y.tracks.getD ((s.frm : Int).toNat) []).getD ((((↑((Y.tracks.getD ((s.frm : Int).toNat) []).length)) - s.many) - 1 : Int).toNat) 0 : Int).toNat) noCar).grp)) rfl)) ?_;refine ofp_end0 ?_;refine sp 2 [(76, .bool (cmp .eql ((Y.cars.getD (((Y.tracks.getD ((s.frm : Int).toNat) []).getD (((↑((Y.tracks.getD ((s.frm : Int).toNat) []).length)) - s.many : Int).toNat) 0 : Int).toNat) noCar).grp) ((Y.cars.getD (((Y.tracks.getD ((s.frm : Int).toNat) []).getD ((((↑((Y.tracks.getD ((s.frm : Int).toNat) []).length)) - s.many) - 1 : Int).toNat) 0 : Int).toNat) noCar).grp)))] ?_;refine ee ?_;refine pst_meet (fun a w hS hD hW => ⟨hS.sub (.cons 2 rfl (.cons 3 rfl (.cons 4 rfl (.cons 5 rfl (.consE 76 rfl (congrArg Value.bool (by simp only [h7, Bool.true_and, Bool.false_and, Bool.and_true, Bool.and_false, Bool.true_or, Bool.false_or, Bool.or_true, Bool.or_false, cond_true, cond_false])) (.nil _)))))), hD, hW⟩)
   have b2 := h7;have b2 := gtr_f b2;refine ox 11 [(74, undef), (64, undef)] ?_;refine ofp_end0 ?_;refine sp 2 [(76, .bool (false))] ?_;refine ee ?_;refine pst_meet (fun a w hS hD hW => ⟨hS.sub (.cons 2 rfl (.cons 3 rfl (.cons 4 rfl (.cons 5 rfl (.consE 76 rfl (congrArg Value.bool (by simp only [h7, Bool.true_and, Bool.false_and, Bool.and_true, Bool.and_false, Bool.true_or, Bool.false_or, Bool.or_true, Bool.or_false, cond_true, cond_false])) (.nil _)))))), hD, hW⟩)
  rintro a w ⟨hS, hD, hW⟩
  refine run_at hS hD hW ?_;clear hS hD hW a w;refine rc 76 rfl (fun h8 => ?_) (fun h8 => ?_)
  ·
   have c5 := h8;obtain ⟨d3, d4⟩ := and_t h8;have d3 := gtr_t d3;have d4 := eql_t d4;have gc : coupled Y.cars (trk Y s.frm) (cutAt Y s) = true := (coupled_at (by show 0 < (↑(Y.tracks.getD ((s.frm).toNat) []).length : Int) - s.many; omega) (by show (↑(Y.tracks.getD ((s.frm).toNat) []).length : Int) - s.many ≤ ↑(Y.tracks.getD ((s.frm).toNat) []).length - 1; omega)).trans c5;refine rqr ?_;refine sp 1 [(4, .int .i64 (9))] ?_;refine se (rret ?_);refine (pst_ret_pass ?_);refine pst_ret1 (t := 4) [] (by kernel_rfl) rfl (TC _ (TC _ (TR _))) (Imm.le.refl _) ?_;exact ⟨congrArg (Value.int .i64) (mayErr_6 rfl g1 g2 g3 (by omega) (Int.not_lt.2 g5) (by rw [gc, Bool.true_or])).symm, rfl⟩
  have c5 := h8;have gc : coupled Y.cars (trk Y s.frm) (cutAt Y s) = false := (coupled_at (by show 0 < (↑(Y.tracks.getD ((s.frm).toNat) []).length : Int) - s.many; omega) (by show (↑(Y.tracks.getD ((s.frm).toNat) []).length : Int) - s.many ≤ ↑(Y.tracks.getD ((s.frm).toNat) []).length - 1; omega)).trans c5;refine rskip (pst_next (rq (rq ?_)));refine rd0 24 ?_;refine ofp_det (dnb 77 1 0 b1 [.slice a2 Y.cars.length a3, .slice a4 Y.room.length a5, .slice a0 Y.tracks.length a1]) ?_;refine ox 1 [(78, .pointer (some ⟨b1, 2, none⟩))] ?_;refine ofp_det (dlb 79 1 2 b1 (.slice a0 Y.tracks.length a1)) ?_;refine ox 1 [(80, .pointer (some ⟨b3, 1, none⟩))] ?_;refine ofp_det (dlb 81 0 1 b3 (.int .i64 (s.to))) ?_;refine ofp_det (diI 82 1 (s.to) a9.addr) ?_;have c7 := d1 ((s.to : Int).toNat) (by omega);obtain ⟨f7, f9, f8, g6, d6, g0, g4, g7⟩ := id c7;rw [d6] at c7;refine ofp_det (det_eq (dl 83 (rows_get a9 ((s.to : Int).toNat) (by omega))) d6) ?_;refine ofp_det (dc 84 (fun I' hI => (length_ct I' _ (Y) _ _ ((mkYard b4 b5 b6).mono hI) (c7.mono hI) (by exact ho.at s.to.toNat (by omega)) (by assumption) :))) ?_;refine ofp_det (dnb 85 1 0 b1 [.slice a2 Y.cars.length a3, .slice a4 Y.room.length a5, .slice a0 Y.tracks.length a1]) ?_;refine ox 4 [(89, .pointer (some ⟨b3, 2, none⟩)), (88, .int .i64 (↑((Y.tracks.getD ((s.frm : Int).toNat) []).length))), (86, .slice a7 (Y.tracks.getD ((s.frm : Int).toNat) []).length a8)] ?_;refine ofp_det (dlb 90 0 2 b3 (.int .i64 (s.many))) ?_;refine ofp_det (dsb 91 (↑((Y.tracks.getD ((s.frm : Int).toNat) []).length)) (s.many)) ?_;have c9 := b9.cutLo (((↑((Y.tracks.getD ((s.frm).toNat) []).length) : Int) - s.many).toNat) (by omega);obtain ⟨i4, i6, i5, i9, d8, i7, i8, j0⟩ := id c9;rw [d8] at c9;refine ofp_det (det_eq (det_slice (x := (.tmp 86)) (lo := (some (.tmp 91))) (hi := none) (T := 23) (e := 3) (sz := 1) (((↑((Y.tracks.getD ((s.frm).toNat) []).length) : Int) - s.many).toNat) ((Y.tracks.getD ((s.frm : Int).toNat) []).length) (d := 92) (ty := 23) (gd := none) (by kernel_rfl) rfl (by kernel_rfl) (by kernel_rfl) rfl (.inr ⟨_, .i64, rfl, (look_int rfl (by omega))⟩) (.inl ⟨rfl, rfl⟩) (by omega) (by omega)) d8) ?_;refine ofp_det (dc 93 (fun I' hI => (length_ct I' _ (Y) _ _ ((mkYard b4 b5 b6).mono hI) (c9.mono hI) (by exact (ho.at s.frm.toNat (by omega)).drop _) (by assumption) :))) ?_;refine ofp_det (da 94 ((lenOf Y.cars (Y.tracks.getD ((s.to : Int).toNat) []))) ((lenOf Y.cars ((Y.tracks.getD ((s.frm : Int).toNat) []).drop (((↑((Y.tracks.getD ((s.frm).toNat) []).length) : Int) - s.many).toNat)))) (hr := by have q1 := lenOf_bound hs ((Y.tracks.getD ((s.frm).toNat) []).drop ((↑((Y.tracks.getD ((s.frm).toNat) []).length) : Int) - s.many).toNat); have q2 := lenOf_bound hs (Y.tracks.getD s.to.toNat []); have q3 := hq _ (getD_mem (d := []) (xs := Y.tracks) (k := s.frm.toNat) (by omega)); have q4 := hq _ (getD_mem (d := []) (xs := Y.tracks) (k := s.to.toNat) (by omega)); simp only [LD] at q1; omega)) ?_;refine ox 1 [(95, .pointer (some ⟨b1, 1, none⟩))] ?_;refine ofp_det (dlb 96 1 1 b1 (.slice a4 Y.room.length a5)) ?_;refine ox 1 [(97, .pointer (some ⟨b3, 1, none⟩))] ?_;refine ofp_det (dlb 98 0 1 b3 (.int .i64 (s.to))) ?_;refine ofp_det (diI 99 1 (s.to) c2.addr) ?_;refine ofp_det (dl 100 (ints_get c2 ((s.to : Int).toNat) (by omega))) ?_;refine ofp_end0 ?_;refine sp 1 [(101, .bool (cmp .gtr (((lenOf Y.cars (Y.tracks.getD ((s.to : Int).toNat) []))) + ((lenOf Y.cars ((Y.tracks.getD ((s.frm : Int).toNat) []).drop (((↑((Y.tracks.getD ((s.frm).toNat) []).length) : Int) - s.many).toNat))))) (Y.room.getD ((s.to : Int).toNat) 0)))] ?_;refine se ?_;refine rc 101 rfl (fun h9 => ?_) (fun h9 => ?_)
  ·
   have c6 := h9;have h9 := gtr_t h9;refine rqr ?_;refine sp 1 [(4, .int .i64 (9))] ?_;refine se (rret ?_);refine (pst_ret_pass ?_);refine pst_ret1 (t := 4) [] (by kernel_rfl) rfl (TC _ (TC _ (TR _))) (Imm.le.refl _) ?_;exact ⟨congrArg (Value.int .i64) (mayErr_6 rfl g1 g2 g3 (by omega) (Int.not_lt.2 g5) (by rw [gc, Bool.false_or, Int.add_comm]; exact c6)).symm, rfl⟩
  have c6 := h9;have h9 := gtr_f h9;refine rskip (pst_next (rqr ?_));refine sp 1 [(4, .int .i64 (0))] ?_;refine se (rret ?_);refine pst_ret1 (t := 4) [] (by kernel_rfl) rfl (TC _ (TC _ (TR _))) (Imm.le.refl _) ?_;exact ⟨congrArg (Value.int .i64) (mayErr_7 rfl g1 g2 g3 (by omega) (Int.not_lt.2 g5) (by rw [gc, Bool.false_or, Int.add_comm]; exact c6)).symm, rfl⟩
 have e7 := h6;have h6 := gtr_f h6;have gc : coupled Y.cars (trk Y s.frm) (cutAt Y s) = false := coupled_zero (by show (↑(Y.tracks.getD ((s.frm).toNat) []).length : Int) - s.many ≤ 0; omega);refine rskip (pst_next (rq (rq ?_)));refine rd0 24 ?_;refine ofp_det (dnb 77 1 0 b1 [.slice a2 Y.cars.length a3, .slice a4 Y.room.length a5, .slice a0 Y.tracks.length a1]) ?_;refine ox 1 [(78, .pointer (some ⟨b1, 2, none⟩))] ?_;refine ofp_det (dlb 79 1 2 b1 (.slice a0 Y.tracks.length a1)) ?_;refine ox 1 [(80, .pointer (some ⟨b3, 1, none⟩))] ?_;refine ofp_det (dlb 81 0 1 b3 (.int .i64 (s.to))) ?_;refine ofp_det (diI 82 1 (s.to) a9.addr) ?_;have c8 := d1 ((s.to : Int).toNat) (by omega);obtain ⟨g8, h0, g9, i2, d7, i0, i1, i3⟩ := id c8;rw [d7] at c8;refine ofp_det (det_eq (dl 83 (rows_get a9 ((s.to : Int).toNat) (by omega))) d7) ?_;refine ofp_det (dc 84 (fun I' hI => (length_ct I' _ (Y) _ _ ((mkYard b4 b5 b6).mono hI) (c8.mono hI) (by exact ho.at s.to.toNat (by omega)) (by assumption) :))) ?_;refine ofp_det (dnb 85 1 0 b1 [.slice a2 Y.cars.length a3, .slice a4 Y.room.length a5, .slice a0 Y.tracks.length a1]) ?_;refine ox 4 [(89, .pointer (some ⟨b3, 2, none⟩)), (88, .int .i64 (↑((Y.tracks.getD ((s.frm : Int).toNat) []).length))), (86, .slice a7 (Y.tracks.getD ((s.frm : Int).toNat) []).length a8)] ?_;refine ofp_det (dlb 90 0 2 b3 (.int .i64 (s.many))) ?_;refine ofp_det (dsb 91 (↑((Y.tracks.getD ((s.frm : Int).toNat) []).length)) (s.many)) ?_;have d0 := b9.cutLo (((↑((Y.tracks.getD ((s.frm).toNat) []).length) : Int) - s.many).toNat) (by omega);obtain ⟨j1, j3, j2, j6, d9, j4, j5, j7⟩ := id d0;rw [d9] at d0;refine ofp_det (det_eq (det_slice (x := (.tmp 86)) (lo := (some (.tmp 91))) (hi := none) (T := 23) (e := 3) (sz := 1) (((↑((Y.tracks.getD ((s.frm).toNat) []).length) : Int) - s.many).toNat) ((Y.tracks.getD ((s.frm : Int).toNat) []).length) (d := 92) (ty := 23) (gd := none) (by kernel_rfl) rfl (by kernel_rfl) (by kernel_rfl) rfl (.inr ⟨_, .i64, rfl, (look_int rfl (by omega))⟩) (.inl ⟨rfl, rfl⟩) (by omega) (by omega)) d9) ?_;refine ofp_det (dc 93 (fun I' hI => (length_ct I' _ (Y) _ _ ((mkYard b4 b5 b6).mono hI) (d0.mono hI) (by exact (ho.at s.frm.toNat (by omega)).drop _) (by assumption) :))) ?_;refine ofp_det (da 94 ((lenOf Y.cars (Y.tracks.getD ((s.to : Int).toNat) []))) ((lenOf Y.cars ((Y.tracks.getD ((s.frm : Int).toNat) []).drop (((↑((Y.tracks.getD ((s.frm).toNat) []).length) : Int) - s.many).toNat)))) (hr := by have q1 := lenOf_bound hs ((Y.tracks.getD ((s.frm).toNat) []).drop ((↑((Y.tracks.getD ((s.frm).toNat) []).length) : Int) - s.many).toNat); have q2 := lenOf_bound hs (Y.tracks.getD s.to.toNat []); have q3 := hq _ (getD_mem (d := []) (xs := Y.tracks) (k := s.frm.toNat) (by omega)); have q4 := hq _ (getD_mem (d := []) (xs := Y.tracks) (k := s.to.toNat) (by omega)); simp only [LD] at q1; omega)) ?_;refine ox 1 [(95, .pointer (some ⟨b1, 1, none⟩))] ?_;refine ofp_det (dlb 96 1 1 b1 (.slice a4 Y.room.length a5)) ?_;refine ox 1 [(97, .pointer (some ⟨b3, 1, none⟩))] ?_;refine ofp_det (dlb 98 0 1 b3 (.int .i64 (s.to))) ?_;refine ofp_det (diI 99 1 (s.to) c2.addr) ?_;refine ofp_det (dl 100 (ints_get c2 ((s.to : Int).toNat) (by omega))) ?_;refine ofp_end0 ?_;refine sp 1 [(101, .bool (cmp .gtr (((lenOf Y.cars (Y.tracks.getD ((s.to : Int).toNat) []))) + ((lenOf Y.cars ((Y.tracks.getD ((s.frm : Int).toNat) []).drop (((↑((Y.tracks.getD ((s.frm).toNat) []).length) : Int) - s.many).toNat))))) (Y.room.getD ((s.to : Int).toNat) 0)))] ?_;refine se ?_;refine rc 101 rfl (fun c3 => ?_) (fun c3 => ?_)
 ·
  have b0 := c3;have c3 := gtr_t c3;refine rqr ?_;refine sp 1 [(4, .int .i64 (9))] ?_;refine se (rret ?_);refine (pst_ret_pass ?_);refine pst_ret1 (t := 4) [] (by kernel_rfl) rfl (TC _ (TC _ (TR _))) (Imm.le.refl _) ?_;exact ⟨congrArg (Value.int .i64) (mayErr_6 rfl g1 g2 g3 (by omega) (Int.not_lt.2 g5) (by rw [gc, Bool.false_or, Int.add_comm]; exact b0)).symm, rfl⟩
 have b0 := c3;have c3 := gtr_f c3;refine rskip (pst_next (rqr ?_));refine sp 1 [(4, .int .i64 (0))] ?_;refine se (rret ?_);refine pst_ret1 (t := 4) [] (by kernel_rfl) rfl (TC _ (TC _ (TR _))) (Imm.le.refl _) ?_;exact ⟨congrArg (Value.int .i64) (mayErr_7 rfl g1 g2 g3 (by omega) (Int.not_lt.2 g5) (by rw [gc, Bool.false_or, Int.add_comm]; exact b0)).symm, rfl⟩

end Go.Proofs.YtcaocbhbofejnaaGreatDoor
namespace Go.Sl
open Go

section
variable {ρ : Option Nat} {P : Program} {N : Nat} {ops : Array Oper} {i : Nat} {l : Sl} {I : Imm} {M : Seg} {ty : TypeId} {gd : Option (Nat × Bool)} {K : Sl → Imm → Seg → Prop}

end

inductive FpOk (ops : Array Oper) (i : Nat) (M : Seg) : List (Nat × Seg) → Prop
  | nil : FpOk ops i M []
  | wait {k : Nat} {R : Seg} {fp : List (Nat × Seg)} : wt ops i k = true → FpOk ops i M fp → FpOk ops i M ((k, R) :: fp)
  | none {k : Nat} {fp : List (Nat × Seg)} : FpOk ops i M fp → FpOk ops i M ((k, []) :: fp)
  | part {k : Nat} {R Sx : Seg} {fp : List (Nat × Seg)} : M.Perm (R ++ Sx) → FpOk ops i M fp → FpOk ops i M ((k, R) :: fp)
theorem FpOk.all {ops : Array Oper} {i : Nat} {M : Seg} {fp : List (Nat × Seg)} (h : FpOk ops i M fp) : ∀ p ∈ fp, wt ops i p.1 = true ∨ ∃ Sx, M.Perm (p.2 ++ Sx) := by
  induction h with
  | nil => intro p hp; simp at hp
  | wait h _ ih =>
    intro p hp;rcases List.mem_cons.1 hp with rfl | hp
    · exact .inl h
    · exact ih p hp
  | none _ ih =>
    intro p hp;rcases List.mem_cons.1 hp with rfl | hp
    · exact .inr ⟨M, List.Perm.refl _⟩
    · exact ih p hp
  | part h _ ih =>
    intro p hp;rcases List.mem_cons.1 hp with rfl | hp
    · exact .inr ⟨_, h⟩
    · exact ih p hp
section
variable {P : Program} {N : Nat} {ops : Array Oper} {al : List (Nat × Nat × Fresh)} {F0 : Seg} {Kf : Sl → Imm → Seg → Prop} {fp : List (Nat × Seg)} {rest : List (Nat × Bool)} {i d : Nat} {v : Value} {l : Sl} {I : Imm} {M M' : Seg}
theorem ofx_all (h : Det P N ops i l I M d v) (next : OFPX P N ops al F0 Kf ((i, M) :: fp) rest ((d, v) :: l) I M) : OFPX P N ops al F0 Kf fp ((i, true) :: rest) l I M := ⟨d, v, M, [], h, by simp, next⟩
theorem ofx_none (h : Det P N ops i l I [] d v) (next : OFPX P N ops al F0 Kf ((i, []) :: fp) rest ((d, v) :: l) I M) : OFPX P N ops al F0 Kf fp ((i, true) :: rest) l I M := ⟨d, v, [], M, h, by simp, next⟩
theorem ofx_part {Rx Sx : Seg} (hp : M.Perm (Rx ++ Sx)) (h : Det P N ops i l I Rx d v) (next : OFPX P N ops al F0 Kf ((i, Rx) :: fp) rest ((d, v) :: l) I M) : OFPX P N ops al F0 Kf fp ((i, true) :: rest) l I M := ⟨d, v, Rx, Sx, h, hp, next⟩
theorem ofx_al {E : TypeId} (ha : alFind al i = some (d, .sl E)) (next : ∀ b, OFPX P N ops al F0 Kf fp rest ((d, .slice (some ⟨b, 0, none⟩) 0 0) :: l) I ((b, Obj.cells #[] E (0, 0)) :: M)) : OFPX P N ops al F0 Kf fp ((i, false) :: rest) l I M := by
  unfold OFPX; rw [ha]; exact next
theorem ofx_ac {T : TypeId} {cs : Array Value} (ha : alFind al i = some (d, .cl T cs)) (next : ∀ b, OFPX P N ops al F0 Kf fp rest ((d, .pointer (some ⟨b, 0, none⟩)) :: l) I ((b, Obj.cells cs T (0, 0)) :: M)) : OFPX P N ops al F0 Kf fp ((i, false) :: rest) l I M := by
  unfold OFPX; rw [ha]; exact next
theorem ofx_act {Mx : Seg → Seg} (ha : alFind al i = none) (hp : ∀ F, (Mx F).Perm (M ++ F))
    (h : ∀ F, Stp P N ops i l I (Mx F) fun l' I' M' => ∃ M1, M'.Perm (M1 ++ F) ∧ FpOk ops i M1 fp ∧ OFPX P N ops al F0 Kf fp rest l' I' M1) : OFPX P N ops al F0 Kf fp ((i, false) :: rest) l I M := by
  unfold OFPX; rw [ha];exact fun F _ => Stp.perm (hp F).symm (Stp.mono (h F) fun l' I' M' ⟨M1, a, b, c⟩ => ⟨M1, a, b.all, c⟩)
theorem ofx_nx {F M1 : Seg} (hp : M'.Perm (M1 ++ F)) (hf : FpOk ops i M1 fp) (next : OFPX P N ops al F0 Kf fp rest l I M1) : ∃ M1, M'.Perm (M1 ++ F) ∧ FpOk ops i M1 fp ∧ OFPX P N ops al F0 Kf fp rest l I M1 := ⟨M1, hp, hf, next⟩
theorem ofx_end (h : Kf l I M) : OFPX P N ops al F0 Kf fp [] l I M := h
def noLooks (ops : Array Oper) (i : Nat) : Bool := match ops[i]? with | some o => (o.looksAt ops).isEmpty | none => false
theorem noLooks_spec (h2 : noLooks ops i = true) (t : Nat) : looksB ops i t = false := by
  unfold noLooks at h2;unfold looksB;cases ho : ops[i]? with
  | none => rfl
  | some o =>
    rw [ho] at h2;simp only [List.isEmpty_iff] at h2;simp [h2]
theorem alOk_of {E : TypeId} (h1 : dstOf ops i = some d) (h2 : noLooks ops i = true) (h3 : bsAt P N ops [] i = some (d, E, 0, #[])) : AlOk P N ops i d (.sl E) :=
  ⟨h1, noLooks_spec h2, fun I M => sbs d E 0 #[] (fun b => ⟨b, rfl, rfl, rfl⟩) h3⟩
theorem alOk_cl {T : TypeId} {cs : Array Value} (h1 : dstOf ops i = some d) (h2 : noLooks ops i = true) (h3 : alAt P N ops [] i = some (d, T, cs)) : AlOk P N ops i d (.cl T cs) :=
  ⟨h1, noLooks_spec h2, fun I M => sal d T cs (fun b => ⟨b, rfl, rfl, rfl⟩) h3⟩
theorem hA_nil : ∀ i d E, alFind [] i = some (d, E) → AlOk P N ops i d E := fun _ _ _ h => by cases h
theorem hA_cons {E : Fresh} (h : AlOk P N ops i d E) (r : ∀ i d E, alFind al i = some (d, E) → AlOk P N ops i d E) : ∀ i' d' E', alFind ((i, d, E) :: al) i' = some (d', E') → AlOk P N ops i' d' E' := fun i' d' E' h' => by
  unfold alFind at h';cases hb : Nat.beq i i' with
  | true =>
    have e := Nat.eq_of_beq_eq_true hb;rw [hb] at h';simp only [cond_true, Option.some.injEq, Prod.mk.injEq] at h';obtain ⟨rfl, rfl⟩ := h';exact e ▸ h
  | false =>
    rw [hb] at h';exact r i' d' E' h'
end
def alInj (al : List (Nat × Nat × Fresh)) : Bool := al.all fun x => al.all fun y => !(Nat.beq x.2.1 y.2.1) || Nat.beq x.1 y.1
theorem alFind_mem : ∀ (al : List (Nat × Nat × Fresh)) {i d : Nat} {E : Fresh}, alFind al i = some (d, E) → (i, d, E) ∈ al := by
  intro al
  induction al with
  | nil => intro i d E h; cases h
  | cons x r ih =>
    intro i d E h;unfold alFind at h;cases hb : Nat.beq x.1 i with
    | true =>
      rw [hb] at h;simp only [cond_true, Option.some.injEq] at h;have e := Nat.eq_of_beq_eq_true hb;rcases x with ⟨x1, x2⟩
      simp only at h e;subst h e;exact List.mem_cons_self
    | false =>
      rw [hb] at h;exact List.mem_cons_of_mem _ (ih h)
theorem alInj_spec {al : List (Nat × Nat × Fresh)} (h : alInj al = true) : ∀ i j d E E', alFind al i = some (d, E) → alFind al j = some (d, E') → i = j := fun i j d E E' h1 h2 => by
  have g := List.all_eq_true.1 (List.all_eq_true.1 h _ (alFind_mem al h1)) _ (alFind_mem al h2);simp only [Nat.beq_refl, Bool.not_true, Bool.false_or] at g;exact Nat.eq_of_beq_eq_true g
section
variable {ρ : Option Nat} {P : Program} {N : Nat} {Q : Exit → Act → World → Prop} {ds : List Deferred} {C : List Nat → Code} {p : List Nat} {l : Sl} {I : Imm} {M0 M F0 : Seg}
theorem rdX (al : List (Nat × Nat × Fresh)) (n0 : Nat) (order : List (Nat × Bool)) (hM : M0.Perm (M ++ F0)) (hA : ∀ i d E, alFind al i = some (d, E) → AlOk P N (opsOf (C p)) i d E) (h : OFPX P N (opsOf (C p)) al F0 (fun l I M => Seq (ρ := ρ) P N (opsOf (C p)) Q ds n0 l I (M ++ F0)) [] order l I M) (hI : alInj al = true := by kernel_rfl)
    (hm : P.follows .mixedOrders = true := by kernel_rfl) (hc : isDrawn (C p) = true := by kernel_rfl) (hok : okAllX al (opsOf (C p)) n0 order = true := by kernel_rfl) : Run (ρ := ρ) P N (C p) Q ds l I M0 := by
  obtain ⟨id, hid⟩ := isDrawn_spec hc;exact fun a w hS hD hW => run_drawX al n0 order hm hid hok hA (alInj_spec hI) h a w hS hD (hW.perm hM)
end
end Go.Sl
namespace Go.Sh
open Go Go.Sl
def Rev {α : Type} (d : α) (xs zs : List α) (k : Nat) : Prop := zs.length = xs.length ∧ ∀ p, p < xs.length → zs.getD p d = if p < k ∨ xs.length - k ≤ p then xs.getD (xs.length - 1 - p) d else xs.getD p d
theorem Rev.start {α : Type} (d : α) (xs : List α) : Rev d xs xs 0 := ⟨rfl, fun p hp => by rw [if_neg (by omega)]⟩
theorem getD_set {α : Type} {d z : α} {xs : List α} {j p : Nat} (hj : j < xs.length) : (xs.set j z).getD p d = if p = j then z else xs.getD p d := by
  simp only [List.getD]
  by_cases e : j = p
  · subst e; rw [List.getElem?_set_self hj, if_pos rfl]; rfl
  · rw [List.getElem?_set_ne e, if_neg (Ne.symm e)]
theorem Rev.step {α : Type} {d : α} {xs zs : List α} {k j : Nat} (h : Rev d xs zs k) (hj : j = xs.length - 1 - k) (hk : k < j) : Rev d xs ((zs.set k (zs.getD j d)).set j (zs.getD k d)) (k + 1) := by
  obtain ⟨h1, h2⟩ := h;refine ⟨by simp [h1], fun p hp => ?_⟩;rw [getD_set (by rw [List.length_set]; omega), getD_set (by omega)]
  by_cases e1 : p = j
  · subst e1
    rw [if_pos rfl, if_pos (by omega), h2 k (by omega), if_neg (by omega)]
    congr 1; omega
  · rw [if_neg e1]
    by_cases e2 : p = k
    · subst e2
      rw [if_pos rfl, if_pos (by omega), h2 j (by omega), if_neg (by omega), hj]
    · rw [if_neg e2, h2 p hp]
      by_cases e3 : p < k ∨ xs.length - k ≤ p
      · rw [if_pos e3, if_pos (by omega)]
      · rw [if_neg e3, if_neg (by omega)]
theorem Rev.done {α : Type} {d : α} {xs zs : List α} {k : Nat} (h : Rev d xs zs k) (hk : xs.length - 1 - k ≤ k) : zs = xs.reverse := by
  obtain ⟨h1, h2⟩ := h;refine list_eq (d := d) (by simp [h1]) fun p hp => ?_
  rw [h1] at hp;have e : xs.reverse.getD p d = xs.getD (xs.length - 1 - p) d := by
    simp only [List.getD];rw [List.getElem?_reverse hp]
  rw [e, h2 p hp]
  by_cases e3 : p < k ∨ xs.length - k ≤ p
  · rw [if_pos e3]
  · rw [if_neg e3]
    congr 1; omega
end Go.Sh
namespace Go.Sl
open Go
end Go.Sl
namespace Go.Sh
open Go Go.Sl
section
variable {Y : Yard} {s : Shift} {k : Nat}
theorem moved_len : (moved Y s).tracks.length = Y.tracks.length := by simp [moved]
theorem moved_row_f (hf : 0 ≤ s.frm ∧ s.frm < Y.tracks.length) (hk : (k : Int) = s.frm) : (moved Y s).tracks.getD k [] = (Y.tracks.getD s.frm.toNat []).take (cutAt Y s).toNat := by
  have e : k = s.frm.toNat := by omega
  subst e;simp only [moved, trk, List.getD];rw [List.getElem?_set_self (by rw [List.length_set]; omega)]; rfl
theorem moved_row_t (ht : 0 ≤ s.to ∧ s.to < Y.tracks.length) (h1 : ¬ (k : Int) = s.frm) (hf : 0 ≤ s.frm) (hk : (k : Int) = s.to) : (moved Y s).tracks.getD k [] = Y.tracks.getD k [] ++ (Y.tracks.getD s.frm.toNat []).drop (cutAt Y s).toNat := by
  have e : k = s.to.toNat := by omega
  subst e;simp only [moved, trk, List.getD];rw [List.getElem?_set_ne (by omega), List.getElem?_set_self (by omega)]; rfl
theorem moved_row_o (hf : 0 ≤ s.frm) (ht : 0 ≤ s.to) (h1 : ¬ (k : Int) = s.frm) (h2 : ¬ (k : Int) = s.to) : (moved Y s).tracks.getD k [] = Y.tracks.getD k [] := moved_other (by omega) (by omega)
end
theorem draws_go_yes {Y : Yard} {l1 r : List Shift} {f t k : Nat} (h : l1 ++ (drawsFT Y f t k ++ r) = draws Y) (hk : k < (Y.tracks.getD f []).length) (hm : mayErr Y (mk3 f t (k + 1)) = 0) : (l1 ++ [mk3 f t (k + 1)]) ++ (drawsFT Y f t (k + 1) ++ r) = draws Y := by
  rw [← h, drawsFT_yes hk hm]; simp
theorem draws_go_no {Y : Yard} {l1 r : List Shift} {f t k : Nat} (h : l1 ++ (drawsFT Y f t k ++ r) = draws Y) (hk : k < (Y.tracks.getD f []).length) (hm : mayErr Y (mk3 f t (k + 1)) ≠ 0) : l1 ++ (drawsFT Y f t (k + 1) ++ r) = draws Y := by
  rw [← h, drawsFT_no hk hm]
theorem play_bad_may {Y : Yard} {s : Shift} (h : Valid Y) (hm : mayErr Y s ≠ 0) : play Y [s] = (noYard, mayErr Y s) := by
  rw [play_good h]; simp only [playFrom]; rw [if_neg hm]
theorem play_ok_may {Y : Yard} {s : Shift} (h : Valid Y) (hm : mayErr Y s = 0) : play Y [s] = (moved Y s, 0) := (play_good h).trans (playFrom_one hm)
theorem play_snoc {Y Z : Yard} {l : List Shift} {s : Shift} (h : playFrom Y l = (Z, 0)) (hv : Valid Z) (hm : mayErr Z s = 0) : playFrom Y (l ++ [s]) = ((play Z [s]).1, 0) := by
  rw [playFrom_app l [s] h, playFrom_one hm, play_ok_may hv hm]
theorem ridden_next {Y Z : Yard} {l : List Shift} {s : Shift} (hY : Valid Y) (h : playFrom Y l = (Z, 0)) (hs : s ∈ (drawsE Z).1) : mayErr Z s = 0 ∧ playFrom Y (l ++ [s]) = ((play Z [s]).1, 0) ∧ Valid (play Z [s]).1 := by
  obtain ⟨_, hv, _⟩ := play_valid hY h;rw [drawsE_ok hv] at hs;have hm := mem_draws_may hs;have h2 := play_snoc h hv hm;exact ⟨hm, h2, (play_valid hY h2).2.1⟩
theorem yard_ext {A B : Yard} (h1 : A.cars = B.cars) (h2 : A.room = B.room) (h3 : A.tracks = B.tracks) : A = B := by
  rcases A with ⟨a, b, c⟩; rcases B with ⟨a', b', c'⟩
  simp only at h1 h2 h3;rw [h1, h2, h3]
end Go.Sh
namespace Go.Sh
open Go Go.Sl
end Go.Sh
namespace Go.Proofs.YtcaocbhbofejnaaGreatDoor
open Go Go.Sl Go.Sh
set_option maxRecDepth 100000
noncomputable def c_drawn (p : List Nat) : Code := sub (bodyOf Tryz.f89) p
theorem drawn_ct (I : Imm) (y : Value) (Y : Yard) (s : Shift) (y_f : IsYard I y Y) (hf : 0 ≤ s.frm ∧ s.frm < Y.tracks.length) (ht : 0 ≤ s.to ∧ s.to < Y.tracks.length) (hm : 0 ≤ s.many ∧ s.many ≤ (Y.tracks.getD s.frm.toNat []).length) (hq : ∀ t ∈ Y.tracks, t.length ≤ 1000000) (h3 : Y.tracks.length ≤ 1000000) : Ct Tryz.prog 89 #[y, .agg #[.int .i64 s.frm, .int .i64 s.to, .int .i64 s.many]] I ([]) (fun v I' M' => ∃ u : Value, v = u ∧ M' = [] ∧ IsYard I' u (moved Y s)) := by
 obtain ⟨y1, y2, y3, u3, b2, b4, o0⟩ := id y_f;subst u3;obtain ⟨a5, a6, s9, t2, n7, t0, t1, t3⟩ := id b2;subst n7;obtain ⟨a7, a8, t4, t7, n8, t5, t6, t8⟩ := id b4;subst n8;obtain ⟨a9, b0, t9, u2, r1, n9, u0, u1, b6, c0⟩ := id o0;subst n9;refine fr (args := [_, _]) (N := 71) Tryz.func89 (fun F => ?_);show Run _ _ (c_drawn []) _ _ [(0, .agg #[.slice a5 Y.cars.length a6, .slice a7 Y.room.length a8, .slice a9 Y.tracks.length b0]), (1, .agg #[.int .i64 (s.frm), .int .i64 (s.to), .int .i64 (s.many)])] _ _;refine rnm (rqr ?_);refine sS (sb 2 26 #[.slice a5 Y.cars.length a6, .slice a7 Y.room.length a8, .slice a9 Y.tracks.length b0] (fun b1 => ?_));refine sS (sb 3 52 #[.int .i64 (s.frm), .int .i64 (s.to), .int .i64 (s.many)] (fun b3 => ?_));refine sS (sal 4 26 #[.slice none 0 0, .slice none 0 0, .slice none 0 0] (fun b5 => ?_));refine sn ?_;refine sp 1 [(5, .slice none 0 0)] ?_;refine sn ?_;refine sp 1 [(9, .pointer (some ⟨b1, 2, none⟩))] ?_;refine sd (dlb 10 2 2 b1 (.slice a9 Y.tracks.length b0)) ?_;refine sp 1 [(11, .pointer (some ⟨b3, 0, none⟩))] ?_;refine sd (dlb 12 1 0 b3 (.int .i64 (s.frm))) ?_;refine sd (diI 13 1 (s.frm) b6.addr) ?_;have c4 := c0 ((s.frm : Int).toNat) (by omega);obtain ⟨e4, e5, s4, s7, i0, s5, s6, s8⟩ := id c4;rw [i0] at c4;refine sd (det_eq (dl 14 (rows_get b6 ((s.frm : Int).toNat) (by omega))) i0) ?_;refine sp 1 [(6, .slice e4 (Y.tracks.getD ((s.frm : Int).toNat) []).length e5)] ?_;refine sn ?_;refine sp 3 [(17, .pointer (some ⟨b3, 2, none⟩)), (16, .int .i64 (↑((Y.tracks.getD ((s.frm : Int).toNat) []).length)))] ?_;refine sd (dlb 18 1 2 b3 (.int .i64 (s.many))) ?_;refine sd (dsb 19 (↑((Y.tracks.getD ((s.frm : Int).toNat) []).length)) (s.many)) ?_;refine sp 1 [(7, .int .i64 ((↑((Y.tracks.getD ((s.frm : Int).toNat) []).length)) - s.many))] ?_;refine se (rq (rqr ?_));refine sp 1 [(8, .int .i64 (0))] ?_;refine se (rb 0 ?_);refine rl (fun mz a w => ∃ J0 : Imm, ∃ k : Nat, ∃ d7 : Value, ∃ a1 : Seg, ∃ a0 : List Value, (I.le J0) ∧ (k ≤ Y.tracks.length) ∧ (RowsV J0 a0 ((moved Y s).tracks.take k)) ∧ (Own 23 1 valCell d7 (a0) a1) ∧ Slots 71 [(5, d7), (8, .int .i64 ↑k), (2, .pointer (some ⟨b1, 0, none⟩)), (3, .pointer (some ⟨b3, 0, none⟩)), (4, .pointer (some ⟨b5, 0, none⟩)), (6, .slice e4 (Y.tracks.getD ((s.frm : Int).toNat) []).length e5), (7, .int .i64 ((↑((Y.tracks.getD ((s.frm : Int).toNat) []).length)) - s.many))] a ∧ a.defers = [] ∧ St J0 ((b5, Obj.cells #[.slice none 0 0, .slice none 0 0, .slice none 0 0] 26 (0, 0)) :: (b3, Obj.cells #[.int .i64 (s.frm), .int .i64 (s.to), .int .i64 (s.many)] 52 (0, 0)) :: (b1, Obj.cells #[.slice a5 Y.cars.length a6, .slice a7 Y.room.length a8, .slice a9 Y.tracks.length b0] 26 (0, 0)) :: (a1 ++ F)) w ∧ mz = Y.tracks.length - k) ?_ ?_
 ·intro a w hS hD hW;exact ⟨_, I, 0, (.slice none 0 0), [], [], Imm.le.refl _, Nat.zero_le _, (RowsV.nil _), (Own.nil _ _ _), hS.sub (.cons 5 rfl (.cons 8 rfl (.cons 2 rfl (.cons 3 rfl (.cons 4 rfl (.cons 6 rfl (.cons 7 rfl (.nil _)))))))), hD, hW, rfl⟩
 rintro mz a w ⟨J0, k, d7, a1, a0, hJ0, hk, a4, c3, hS, hD, hW, rfl⟩
 refine run_at hS hD hW ?_;clear hS hD hW a w;replace b2 := b2.mono hJ0;replace b4 := b4.mono hJ0;replace b6 := b6.mono hJ0;replace c0 := fun i hi => (c0 i hi).mono hJ0
 replace c4 := c4.mono hJ0;obtain ⟨a2, a3, e3, i2⟩ := c3.shape; subst e3;have d1 := a4.1
 try simp only [LS, LA, LC, LN, LK] at d1
 refine rq (rqr ?_);refine sp 2 [(21, .pointer (some ⟨b1, 2, none⟩)), (20, .int .i64 (↑k))] ?_;refine sd (dlb 22 2 2 b1 (.slice a9 Y.tracks.length b0)) ?_;refine sp 2 [(24, .bool (cmp .lss (↑k) (↑(Y.tracks.length))))] ?_;refine se ?_;refine rc 24 rfl (fun h1 => ?_) (fun h1 => ?_)
 ·
  have m2 := h1;have h1 := lss_t h1;refine rskip (pst_next (rq (rb 1 (rqr ?_))));refine sp 1 [(27, .int .i64 (↑k))] ?_;refine se (rb 2 (rqr ?_));refine sp 1 [(39, .pointer (some ⟨b3, 0, none⟩))] ?_;refine sd (dlb 40 1 0 b3 (.int .i64 (s.frm))) ?_;refine sp 2 [(38, .bool (cmp .eql (↑k) (s.frm)))] ?_;refine se ?_;refine rc 38 rfl (fun h2 => ?_) (fun h2 => ?_)
  ·
   have m3 := h2;have h2 := eql_t h2;have qf := hq _ (getD_mem (d := []) (xs := Y.tracks) (k := s.frm.toNat) (by omega));refine rr ?_;refine sp 1 [(42, .slice a2 a0.length a3)] ?_;refine sS (sbs 43 3 0 #[] (fun b8 => ?_));refine sp 2 [(45, .int .i64 ((↑((Y.tracks.getD ((s.frm : Int).toNat) []).length)) - s.many)), (44, .slice e4 (Y.tracks.getD ((s.frm : Int).toNat) []).length e5)] ?_;have e0 := c4.cutHi (((↑((Y.tracks.getD ((s.frm).toNat) []).length) : Int) - s.many).toNat) (by omega);obtain ⟨p6, p8, p7, q1, e8, p9, q0, q2⟩ := id e0;rw [e8] at e0;refine sd (det_eq (det_slice (x := (.tmp 44)) (lo := none) (hi := (some (.tmp 45))) (T := 23) (e := 3) (sz := 1) (0) (((↑((Y.tracks.getD ((s.frm).toNat) []).length) : Int) - s.many).toNat) (d := 46) (ty := 23) (gd := none) (by kernel_rfl) rfl (by kernel_rfl) (by kernel_rfl) rfl (.inl ⟨rfl, rfl⟩) (.inr ⟨_, .i64, rfl, (look_int rfl (by omega))⟩) (by omega) (by omega)) e8) ?_;have m5 : Own 3 1 intCell (.slice (some ⟨b8, 0, none⟩) 0 0) ([] : List Int) [(b8, Obj.cells #[] 3 (0, 0))] := Own.lit rfl rfl;refine sS (stp_append (d := 47) (x := (.tmp 43)) (y := (.tmp 46)) (T := 23) (T' := 23) (E := 3) (E' := 3) (sz := 1) (bs := 8) (z := .int .i64 (0)) (cell := intCell) (xs := ([] : List Int)) (ys := (Y.tracks.getD ((s.frm : Int).toNat) []).take (((↑((Y.tracks.getD ((s.frm).toNat) []).length) : Int) - s.many).toNat)) (Ms := [(b8, Obj.cells #[] 3 (0, 0))]) (ty := 23) (gd := none) (by kernel_rfl) rfl (by kernel_rfl) (by kernel_rfl) (by kernel_rfl) (by kernel_rfl) (by kernel_rfl) (by decide) (by kernel_rfl) rfl rfl (m5) (PR _) (one_intCell _) e0.src (by first | omega | (simp only [LC, LN, LA, LK, LD]; omega)) (fun u5 i3 f5 => ?_));rw [NA] at f5;refine pm (M' := ((b5, Obj.cells #[.slice none 0 0, .slice none 0 0, .slice none 0 0] 26 (0, 0)) :: (b3, Obj.cells #[.int .i64 (s.frm), .int .i64 (s.to), .int .i64 (s.many)] 52 (0, 0)) :: (b1, Obj.cells #[.slice a5 Y.cars.length a6, .slice a7 Y.room.length a8, .slice a9 Y.tracks.length b0] 26 (0, 0)) :: (i3 ++ (a1 ++ F)))) (List.perm_middle.trans (PC _ (List.perm_middle.trans (PC _ PM)))) ?_;obtain ⟨c7, c9, n0, r7⟩ := f5.shape;subst n0;refine sS (sbs 48 23 1 #[.slice c7 ((Y.tracks.getD ((s.frm : Int).toNat) []).take (((↑((Y.tracks.getD ((s.frm).toNat) []).length) : Int) - s.many).toNat)).length c9] (fun r5 => ?_));refine sfz (A := ((r5, Obj.cells #[.slice c7 ((Y.tracks.getD ((s.frm : Int).toNat) []).take (((↑((Y.tracks.getD ((s.frm).toNat) []).length) : Int) - s.many).toNat)).length c9] 23 (0, 0)) :: (b5, Obj.cells #[.slice none 0 0, .slice none 0 0, .slice none 0 0] 26 (0, 0)) :: (b3, Obj.cells #[.int .i64 (s.frm), .int .i64 (s.to), .int .i64 (s.many)] 52 (0, 0)) :: (b1, Obj.cells #[.slice a5 Y.cars.length a6, .slice a7 Y.room.length a8, .slice a9 Y.tracks.length b0] 26 (0, 0)) :: (a1 ++ F))) 0 f5 ((PC _ ((PC _ ((PC _ (PM.symm)).trans (PM.symm))).trans (PM.symm))).trans (PM.symm)) (fun r2 b7 d3 => ?_);replace b2 := b2.mono b7;replace b4 := b4.mono b7;replace b6 := b6.mono b7;replace c0 := fun i hi => (c0 i hi).mono b7
   replace c4 := c4.mono b7;replace a4 := a4.mono b7;obtain ⟨j4, j6, j5, j9, f1, j7, j8, k0⟩ := id d3;cases f1;refine sS (stp_append (d := 49) (x := (.tmp 42)) (y := (.tmp 48)) (T := 24) (T' := 24) (E := 23) (E' := 23) (sz := 1) (bs := 24) (z := .slice none 0 0) (cell := valCell) (xs := a0) (ys := [(.slice c7 ((Y.tracks.getD ((s.frm : Int).toNat) []).take (((↑((Y.tracks.getD ((s.frm).toNat) []).length) : Int) - s.many).toNat)).length c9 : Value)]) (Ms := a1) (ty := 24) (gd := none) (by kernel_rfl) rfl (by kernel_rfl) (by kernel_rfl) (by kernel_rfl) (by kernel_rfl) (by kernel_rfl) (by decide) (by kernel_rfl) rfl rfl (c3) ((PC _ ((PC _ ((PC _ (PM.symm)).trans (PM.symm))).trans (PM.symm))).trans (PM.symm)) (one_valCell rfl) (src_atS 0 rfl rfl) (by first | omega | (have hq := a4.1; simp only [LC, LN, LA, LK, LD] at hq ⊢; omega)) (fun u6 f9 g4 => ?_));refine seq_mem (M' := ((b5, Obj.cells #[.slice none 0 0, .slice none 0 0, .slice none 0 0] 26 (0, 0)) :: (b3, Obj.cells #[.int .i64 (s.frm), .int .i64 (s.to), .int .i64 (s.many)] 52 (0, 0)) :: (b1, Obj.cells #[.slice a5 Y.cars.length a6, .slice a7 Y.room.length a8, .slice a9 Y.tracks.length b0] 26 (0, 0)) :: (f9 ++ F))) (fun w h => (h.perm (List.perm_middle.trans (PC _ (List.perm_middle.trans (PC _ (List.perm_middle.trans (PC _ PM))))))).sub (TC _ (TR _))) ?_;obtain ⟨g8, h4, n1, r8⟩ := g4.shape;subst n1;have h7 := (a4).snoc d3;refine sp 1 [(5, .slice g8 (a0 ++ ([(.slice c7 ((Y.tracks.getD ((s.frm : Int).toNat) []).take (((↑((Y.tracks.getD ((s.frm).toNat) []).length) : Int) - s.many).toNat)).length c9 : Value)])).length h4)] ?_;refine ee (pst_normal_block (pst_normal_block (pst_next (rr ?_))));refine sp 1 [(25, .int .i64 (↑k))] ?_;refine sd (da 26 (↑k) (1)) ?_;refine sp 1 [(8, .int .i64 (↑k + 1))] ?_;refine ee ?_;refine pst_back (Y.tracks.length - (k+1)) (by omega) ?_;intro a w hS hD hW;exact ⟨r2, k+1, .slice g8 (a0 ++ ([(.slice c7 ((Y.tracks.getD ((s.frm : Int).toNat) []).take (((↑((Y.tracks.getD ((s.frm).toNat) []).length) : Int) - s.many).toNat)).length c9 : Value)])).length h4, f9, a0 ++ ([(.slice c7 ((Y.tracks.getD ((s.frm : Int).toNat) []).take (((↑((Y.tracks.getD ((s.frm).toNat) []).length) : Int) - s.many).toNat)).length c9 : Value)]), (Imm.le.trans hJ0 b7), by omega, (by rw [take_snoc (d := []) (xs := (moved Y s).tracks) (k := k) (by rw [moved_len]; omega), moved_row_f hf h2]; exact h7), g4, hS.sub (.consE 5 rfl rfl (.consE 8 rfl rfl (.cons 2 rfl (.cons 3 rfl (.cons 4 rfl (.cons 6 rfl (.cons 7 rfl (.nil _)))))))), hD, hW, rfl⟩
  have m3 := h2;have h2 := eql_f h2;refine rqr ?_;refine sp 1 [(51, .pointer (some ⟨b3, 1, none⟩))] ?_;refine sd (dlb 52 1 1 b3 (.int .i64 (s.to))) ?_;refine sp 2 [(50, .bool (cmp .eql (↑k) (s.to)))] ?_;refine se ?_;refine rc 50 rfl (fun h3 => ?_) (fun h3 => ?_)
  ·
   have m4 := h3;have h3 := eql_t h3;have qf := hq _ (getD_mem (d := []) (xs := Y.tracks) (k := s.frm.toNat) (by omega));have qk := hq _ (getD_mem (d := []) (xs := Y.tracks) (k := k) (by omega));have q5 : (Y.tracks.getD (k) [] ++ (Y.tracks.getD ((s.frm).toNat) []).drop ((↑((Y.tracks.getD ((s.frm).toNat) []).length) : Int) - s.many).toNat).length ≤ 2000000 := by (simp only [LA, LD]; omega)
   refine rd 13 [(0, true), (2, true), (3, true), (4, true), (5, true), (6, true), (8, true), (9, true), (10, true), (1, false), (7, false), (11, false), (12, false)] ((b5, Obj.cells #[.slice none 0 0, .slice none 0 0, .slice none 0 0] 26 (0, 0)) :: (b3, Obj.cells #[.int .i64 (s.frm), .int .i64 (s.to), .int .i64 (s.many)] 52 (0, 0)) :: (b1, Obj.cells #[.slice a5 Y.cars.length a6, .slice a7 Y.room.length a8, .slice a9 Y.tracks.length b0] 26 (0, 0)) :: []) ((a1 ++ F)) ?_;refine ox 2 [(56, .pointer (some ⟨b1, 2, none⟩)), (54, .slice a2 a0.length a3)] ?_;refine ofp_det (dlb 57 2 2 b1 (.slice a9 Y.tracks.length b0)) ?_;refine ox 1 [(58, .int .i64 (↑k))] ?_;refine ofp_det (di 59 1 (k) b6.addr) ?_;have d8 := c0 (k) (by omega);obtain ⟨o2, o4, o3, o7, e6, o5, o6, o8⟩ := id d8;rw [e6] at d8;refine ofp_det (det_eq (dl 60 (rows_get b6 (k) (by omega))) e6) ?_;refine ox 2 [(63, .int .i64 ((↑((Y.tracks.getD ((s.frm : Int).toNat) []).length)) - s.many)), (62, .slice e4 (Y.tracks.getD ((s.frm : Int).toNat) []).length e5)] ?_;have e1 := c4.cutLo (((↑((Y.tracks.getD ((s.frm).toNat) []).length) : Int) - s.many).toNat) (by omega);obtain ⟨q3, q6, q4, q9, e9, q7, q8, r0⟩ := id e1;rw [e9] at e1;refine ofp_det (det_eq (det_slice (x := (.tmp 62)) (lo := (some (.tmp 63))) (hi := none) (T := 23) (e := 3) (sz := 1) (((↑((Y.tracks.getD ((s.frm).toNat) []).length) : Int) - s.many).toNat) ((Y.tracks.getD ((s.frm : Int).toNat) []).length) (d := 64) (ty := 23) (gd := none) (by kernel_rfl) rfl (by kernel_rfl) (by kernel_rfl) rfl (.inr ⟨_, .i64, rfl, (look_int rfl (by omega))⟩) (.inl ⟨rfl, rfl⟩) (by omega) (by omega)) e9) ?_;refine ofp_stp (sbs 55 3 0 #[] (fun f8 => ?_));refine ofp_settle (S' := ((f8, Obj.cells #[] 3 (0, 0)) :: (a1 ++ F))) ((PS _ _ _).trans (PC _ ((PS _ _ _).trans (PC _ (PS _ _ _))))) ?_;have m6 : Own 3 1 intCell (.slice (some ⟨f8, 0, none⟩) 0 0) ([] : List Int) [(f8, Obj.cells #[] 3 (0, 0))] := Own.lit rfl rfl;refine ofp_stp (stp_append (d := 61) (x := (.tmp 55)) (y := (.tmp 60)) (T := 23) (T' := 23) (E := 3) (E' := 3) (sz := 1) (bs := 8) (z := .int .i64 (0)) (cell := intCell) (xs := ([] : List Int)) (ys := Y.tracks.getD (k) []) (Ms := [(f8, Obj.cells #[] 3 (0, 0))]) (ty := 23) (gd := none) (by kernel_rfl) rfl (by kernel_rfl) (by kernel_rfl) (by kernel_rfl) (by kernel_rfl) (by kernel_rfl) (by decide) (by kernel_rfl) rfl rfl (m6) (show List.Perm ((b5, Obj.cells #[.slice none 0 0, .slice none 0 0, .slice none 0 0] 26 (0, 0)) :: (b3, Obj.cells #[.int .i64 (s.frm), .int .i64 (s.to), .int .i64 (s.many)] 52 (0, 0)) :: (b1, Obj.cells #[.slice a5 Y.cars.length a6, .slice a7 Y.room.length a8, .slice a9 Y.tracks.length b0] 26 (0, 0)) :: (f8, Obj.cells #[] 3 (0, 0)) :: (a1 ++ F)) ((f8, Obj.cells #[] 3 (0, 0)) :: (b5, Obj.cells #[.slice none 0 0, .slice none 0 0, .slice none 0 0] 26 (0, 0)) :: (b3, Obj.cells #[.int .i64 (s.frm), .int .i64 (s.to), .int .i64 (s.many)] 52 (0, 0)) :: (b1, Obj.cells #[.slice a5 Y.cars.length a6, .slice a7 Y.room.length a8, .slice a9 Y.tracks.length b0] 26 (0, 0)) :: (a1 ++ F)) from ((PC _ ((PC _ (PS _ _ _)).trans (PS _ _ _))).trans (PS _ _ _))) (one_intCell _) d8.src (by first | omega | (simp only [LC, LN, LA, LK, LD]; omega)) (fun u7 e2 f6 => ?_));rw [NA] at f6;refine ofp_settle (S' := ((e2 ++ (a1 ++ F)))) (List.perm_middle.trans (PC _ (List.perm_middle.trans (PC _ PM)))) ?_;obtain ⟨m8, m9, n2, r9⟩ := f6.shape;subst n2;show OFP _ _ _ _ _ _ ((61, .slice m8 (Y.tracks.getD (k) []).length m9) :: _) _ _;refine ofp_stp (stp_append (d := 65) (x := (.tmp 61)) (y := (.tmp 64)) (T := 23) (T' := 23) (E := 3) (E' := 3) (sz := 1) (bs := 8) (z := .int .i64 (0)) (cell := intCell) (xs := Y.tracks.getD (k) []) (ys := (Y.tracks.getD ((s.frm : Int).toNat) []).drop (((↑((Y.tracks.getD ((s.frm).toNat) []).length) : Int) - s.many).toNat)) (Ms := e2) (ty := 23) (gd := none) (by kernel_rfl) rfl (by kernel_rfl) (by kernel_rfl) (by kernel_rfl) (by kernel_rfl) (by kernel_rfl) (by decide) (by kernel_rfl) rfl rfl (f6) (show List.Perm ((b5, Obj.cells #[.slice none 0 0, .slice none 0 0, .slice none 0 0] 26 (0, 0)) :: (b3, Obj.cells #[.int .i64 (s.frm), .int .i64 (s.to), .int .i64 (s.many)] 52 (0, 0)) :: (b1, Obj.cells #[.slice a5 Y.cars.length a6, .slice a7 Y.room.length a8, .slice a9 Y.tracks.length b0] 26 (0, 0)) :: (e2 ++ (a1 ++ F))) ((e2 ++ (b5, Obj.cells #[.slice none 0 0, .slice none 0 0, .slice none 0 0] 26 (0, 0)) :: (b3, Obj.cells #[.int .i64 (s.frm), .int .i64 (s.to), .int .i64 (s.many)] 52 (0, 0)) :: (b1, Obj.cells #[.slice a5 Y.cars.length a6, .slice a7 Y.room.length a8, .slice a9 Y.tracks.length b0] 26 (0, 0)) :: (a1 ++ F))) from ((PC _ ((PC _ (PM.symm)).trans (PM.symm))).trans (PM.symm))) (one_intCell _) e1.src (by first | omega | (simp only [LC, LN, LA, LK, LD]; omega)) (fun u8 g0 g5 => ?_));refine ofp_settle (S' := ((g0 ++ (a1 ++ F)))) (List.perm_middle.trans (PC _ (List.perm_middle.trans (PC _ PM)))) ?_;obtain ⟨c1, c2, n3, s0⟩ := g5.shape;subst n3;show OFP _ _ _ _ _ _ ((65, .slice c1 ((Y.tracks.getD (k) []) ++ ((Y.tracks.getD ((s.frm : Int).toNat) []).drop (((↑((Y.tracks.getD ((s.frm).toNat) []).length) : Int) - s.many).toNat))).length c2) :: _) _ _;refine ofp_stp (sbs 66 23 1 #[.slice c1 ((Y.tracks.getD (k) []) ++ ((Y.tracks.getD ((s.frm : Int).toNat) []).drop (((↑((Y.tracks.getD ((s.frm).toNat) []).length) : Int) - s.many).toNat))).length c2] (fun o1 => ?_));refine ofp_settle (S' := ((o1, Obj.cells #[.slice c1 ((Y.tracks.getD (k) []) ++ ((Y.tracks.getD ((s.frm : Int).toNat) []).drop (((↑((Y.tracks.getD ((s.frm).toNat) []).length) : Int) - s.many).toNat))).length c2] 23 (0, 0)) :: (g0 ++ (a1 ++ F)))) ((PS _ _ _).trans (PC _ ((PS _ _ _).trans (PC _ (PS _ _ _))))) ?_;refine ofp_end ?_;refine nm (nm ?_);refine sfz (A := ((b5, Obj.cells #[.slice none 0 0, .slice none 0 0, .slice none 0 0] 26 (0, 0)) :: (b3, Obj.cells #[.int .i64 (s.frm), .int .i64 (s.to), .int .i64 (s.many)] 52 (0, 0)) :: (b1, Obj.cells #[.slice a5 Y.cars.length a6, .slice a7 Y.room.length a8, .slice a9 Y.tracks.length b0] 26 (0, 0)) :: (o1, Obj.cells #[.slice c1 ((Y.tracks.getD (k) []) ++ ((Y.tracks.getD ((s.frm : Int).toNat) []).drop (((↑((Y.tracks.getD ((s.frm).toNat) []).length) : Int) - s.many).toNat))).length c2] 23 (0, 0)) :: (a1 ++ F))) 0 g5 ((PC _ ((PC _ ((PC _ (PM.symm)).trans (PM.symm))).trans (PM.symm))).trans (PM.symm)) (fun r3 b9 d4 => ?_);replace b2 := b2.mono b9;replace b4 := b4.mono b9;replace b6 := b6.mono b9;replace c0 := fun i hi => (c0 i hi).mono b9
   replace a4 := a4.mono b9;obtain ⟨k1, k3, k2, k6, f2, k4, k5, k7⟩ := id d4;cases f2;refine sS (stp_append (d := 67) (x := (.tmp 54)) (y := (.tmp 66)) (T := 24) (T' := 24) (E := 23) (E' := 23) (sz := 1) (bs := 24) (z := .slice none 0 0) (cell := valCell) (xs := a0) (ys := [(.slice c1 ((Y.tracks.getD (k) []) ++ ((Y.tracks.getD ((s.frm : Int).toNat) []).drop (((↑((Y.tracks.getD ((s.frm).toNat) []).length) : Int) - s.many).toNat))).length c2 : Value)]) (Ms := a1) (ty := 24) (gd := none) (by kernel_rfl) rfl (by kernel_rfl) (by kernel_rfl) (by kernel_rfl) (by kernel_rfl) (by kernel_rfl) (by decide) (by kernel_rfl) rfl rfl (c3) ((PC _ ((PC _ ((PC _ (PM.symm)).trans (PM.symm))).trans (PM.symm))).trans (PM.symm)) (one_valCell rfl) (src_atS 3 rfl rfl) (by first | omega | (have hq := a4.1; simp only [LC, LN, LA, LK, LD] at hq ⊢; omega)) (fun u9 g1 g6 => ?_));refine seq_mem (M' := ((b5, Obj.cells #[.slice none 0 0, .slice none 0 0, .slice none 0 0] 26 (0, 0)) :: (b3, Obj.cells #[.int .i64 (s.frm), .int .i64 (s.to), .int .i64 (s.many)] 52 (0, 0)) :: (b1, Obj.cells #[.slice a5 Y.cars.length a6, .slice a7 Y.room.length a8, .slice a9 Y.tracks.length b0] 26 (0, 0)) :: (g1 ++ F))) (fun w h => (h.perm (((PA _ ((PC _ ((PC _ (PS _ _ _)).trans (PS _ _ _))).trans (PS _ _ _))).trans PM).trans (PC _ (List.perm_middle.trans (PC _ (List.perm_middle.trans (PC _ PM))))))).sub (TC _ (TR _))) ?_;obtain ⟨g9, h5, n4, s1⟩ := g6.shape;subst n4;have h8 := (a4).snoc d4;refine sp 1 [(5, .slice g9 (a0 ++ ([(.slice c1 ((Y.tracks.getD (k) []) ++ ((Y.tracks.getD ((s.frm : Int).toNat) []).drop (((↑((Y.tracks.getD ((s.frm).toNat) []).length) : Int) - s.many).toNat))).length c2 : Value)])).length h5)] ?_;refine ee (pst_normal_block (pst_normal_block (pst_next (rr ?_))));refine sp 1 [(25, .int .i64 (↑k))] ?_;refine sd (da 26 (↑k) (1)) ?_;refine sp 1 [(8, .int .i64 (↑k + 1))] ?_;refine ee ?_;refine pst_back (Y.tracks.length - (k+1)) (by omega) ?_;intro a w hS hD hW;exact ⟨r3, k+1, .slice g9 (a0 ++ ([(.slice c1 ((Y.tracks.getD (k) []) ++ ((Y.tracks.getD ((s.frm : Int).toNat) []).drop (((↑((Y.tracks.getD ((s.frm).toNat) []).length) : Int) - s.many).toNat))).length c2 : Value)])).length h5, g1, a0 ++ ([(.slice c1 ((Y.tracks.getD (k) []) ++ ((Y.tracks.getD ((s.frm : Int).toNat) []).drop (((↑((Y.tracks.getD ((s.frm).toNat) []).length) : Int) - s.many).toNat))).length c2 : Value)]), (Imm.le.trans hJ0 b9), by omega, (by rw [take_snoc (d := []) (xs := (moved Y s).tracks) (k := k) (by rw [moved_len]; omega), moved_row_t ht h2 hf.1 h3]; exact h8), g6, hS.sub (.consE 5 rfl rfl (.consE 8 rfl rfl (.cons 2 rfl (.cons 3 rfl (.cons 4 rfl (.cons 6 rfl (.cons 7 rfl (.nil _)))))))), hD, hW, rfl⟩
  have m4 := h3;have h3 := eql_f h3;have qk := hq _ (getD_mem (d := []) (xs := Y.tracks) (k := k) (by omega));refine rr ?_;refine sp 1 [(28, .slice a2 a0.length a3)] ?_;refine sS (sbs 29 3 0 #[] (fun i5 => ?_));refine sp 1 [(30, .pointer (some ⟨b1, 2, none⟩))] ?_;refine sd (dlb 31 3 2 b1 (.slice a9 Y.tracks.length b0)) ?_;refine sp 1 [(32, .int .i64 (↑k))] ?_;refine sd (di 33 1 (k) b6.addr) ?_;have d9 := c0 (k) (by omega);obtain ⟨o9, p1, p0, p4, e7, p2, p3, p5⟩ := id d9;rw [e7] at d9;refine sd (det_eq (dl 34 (rows_get b6 (k) (by omega))) e7) ?_;have m7 : Own 3 1 intCell (.slice (some ⟨i5, 0, none⟩) 0 0) ([] : List Int) [(i5, Obj.cells #[] 3 (0, 0))] := Own.lit rfl rfl;refine sS (stp_append (d := 35) (x := (.tmp 29)) (y := (.tmp 34)) (T := 23) (T' := 23) (E := 3) (E' := 3) (sz := 1) (bs := 8) (z := .int .i64 (0)) (cell := intCell) (xs := ([] : List Int)) (ys := Y.tracks.getD (k) []) (Ms := [(i5, Obj.cells #[] 3 (0, 0))]) (ty := 23) (gd := none) (by kernel_rfl) rfl (by kernel_rfl) (by kernel_rfl) (by kernel_rfl) (by kernel_rfl) (by kernel_rfl) (by decide) (by kernel_rfl) rfl rfl (m7) (PR _) (one_intCell _) d9.src (by first | omega | (simp only [LC, LN, LA, LK, LD]; omega)) (fun v0 i4 f7 => ?_));rw [NA] at f7;refine pm (M' := ((b5, Obj.cells #[.slice none 0 0, .slice none 0 0, .slice none 0 0] 26 (0, 0)) :: (b3, Obj.cells #[.int .i64 (s.frm), .int .i64 (s.to), .int .i64 (s.many)] 52 (0, 0)) :: (b1, Obj.cells #[.slice a5 Y.cars.length a6, .slice a7 Y.room.length a8, .slice a9 Y.tracks.length b0] 26 (0, 0)) :: (i4 ++ (a1 ++ F)))) (List.perm_middle.trans (PC _ (List.perm_middle.trans (PC _ PM)))) ?_;obtain ⟨c8, d0, n5, s2⟩ := f7.shape;subst n5;refine sS (sbs 36 23 1 #[.slice c8 (Y.tracks.getD (k) []).length d0] (fun r6 => ?_));refine sfz (A := ((r6, Obj.cells #[.slice c8 (Y.tracks.getD (k) []).length d0] 23 (0, 0)) :: (b5, Obj.cells #[.slice none 0 0, .slice none 0 0, .slice none 0 0] 26 (0, 0)) :: (b3, Obj.cells #[.int .i64 (s.frm), .int .i64 (s.to), .int .i64 (s.many)] 52 (0, 0)) :: (b1, Obj.cells #[.slice a5 Y.cars.length a6, .slice a7 Y.room.length a8, .slice a9 Y.tracks.length b0] 26 (0, 0)) :: (a1 ++ F))) 0 f7 ((PC _ ((PC _ ((PC _ (PM.symm)).trans (PM.symm))).trans (PM.symm))).trans (PM.symm)) (fun r4 c5 d5 => ?_);replace b2 := b2.mono c5;replace b4 := b4.mono c5;replace a4 := a4.mono c5;obtain ⟨k8, l0, k9, l3, f3, l1, l2, l4⟩ := id d5;cases f3;refine sS (stp_append (d := 37) (x := (.tmp 28)) (y := (.tmp 36)) (T := 24) (T' := 24) (E := 23) (E' := 23) (sz := 1) (bs := 24) (z := .slice none 0 0) (cell := valCell) (xs := a0) (ys := [(.slice c8 (Y.tracks.getD (k) []).length d0 : Value)]) (Ms := a1) (ty := 24) (gd := none) (by kernel_rfl) rfl (by kernel_rfl) (by kernel_rfl) (by kernel_rfl) (by kernel_rfl) (by kernel_rfl) (by decide) (by kernel_rfl) rfl rfl (c3) ((PC _ ((PC _ ((PC _ (PM.symm)).trans (PM.symm))).trans (PM.symm))).trans (PM.symm)) (one_valCell rfl) (src_atS 0 rfl rfl) (by first | omega | (have hq := a4.1; simp only [LC, LN, LA, LK, LD] at hq ⊢; omega)) (fun v1 g2 g7 => ?_));refine seq_mem (M' := ((b5, Obj.cells #[.slice none 0 0, .slice none 0 0, .slice none 0 0] 26 (0, 0)) :: (b3, Obj.cells #[.int .i64 (s.frm), .int .i64 (s.to), .int .i64 (s.many)] 52 (0, 0)) :: (b1, Obj.cells #[.slice a5 Y.cars.length a6, .slice a7 Y.room.length a8, .slice a9 Y.tracks.length b0] 26 (0, 0)) :: (g2 ++ F))) (fun w h => (h.perm (List.perm_middle.trans (PC _ (List.perm_middle.trans (PC _ (List.perm_middle.trans (PC _ PM))))))).sub (TC _ (TR _))) ?_;obtain ⟨h0, h6, n6, s3⟩ := g7.shape;subst n6;have h9 := (a4).snoc d5;refine sp 1 [(5, .slice h0 (a0 ++ ([(.slice c8 (Y.tracks.getD (k) []).length d0 : Value)])).length h6)] ?_;refine ee (pst_normal_block (pst_normal_block (pst_next (rr ?_))));refine sp 1 [(25, .int .i64 (↑k))] ?_;refine sd (da 26 (↑k) (1)) ?_;refine sp 1 [(8, .int .i64 (↑k + 1))] ?_;refine ee ?_;refine pst_back (Y.tracks.length - (k+1)) (by omega) ?_;intro a w hS hD hW;exact ⟨r4, k+1, .slice h0 (a0 ++ ([(.slice c8 (Y.tracks.getD (k) []).length d0 : Value)])).length h6, g2, a0 ++ ([(.slice c8 (Y.tracks.getD (k) []).length d0 : Value)]), (Imm.le.trans hJ0 c5), by omega, (by rw [take_snoc (d := []) (xs := (moved Y s).tracks) (k := k) (by rw [moved_len]; omega), moved_row_o hf.1 ht.1 h2 h3]; exact h9), g7, hS.sub (.consE 5 rfl rfl (.consE 8 rfl rfl (.cons 2 rfl (.cons 3 rfl (.cons 4 rfl (.cons 6 rfl (.cons 7 rfl (.nil _)))))))), hD, hW, rfl⟩
 have m2 := h1;have h1 := lss_f h1;refine rexit 0 ?_;refine (pst_exit_pass (pst_exit_pass (pst_exit_block ?_)));refine pst_next (rqr ?_);refine sfz (A := ((b5, Obj.cells #[.slice none 0 0, .slice none 0 0, .slice none 0 0] 26 (0, 0)) :: (b3, Obj.cells #[.int .i64 (s.frm), .int .i64 (s.to), .int .i64 (s.many)] 52 (0, 0)) :: (b1, Obj.cells #[.slice a5 Y.cars.length a6, .slice a7 Y.room.length a8, .slice a9 Y.tracks.length b0] 26 (0, 0)) :: F)) undef c3 ((PC _ ((PC _ (PM.symm)).trans (PM.symm))).trans (PM.symm)) (fun u4 c6 d6 => ?_);replace b2 := b2.mono c6;replace b4 := b4.mono c6;replace a4 := a4.mono c6;obtain ⟨l5, l7, l6, m0, f4, l8, l9, m1⟩ := id d6;cases f4;have d2 := a4.isRows d6;have g3 := a4.1;obtain ⟨i6, i8, i7, j1, i1, f0, i9, j0, j2, j3⟩ := id d2
 injection f0 with fr49_e1 fr49_e2 fr49_e3; subst fr49_e1; subst fr49_e3
 refine sp 2 [(69, .pointer (some ⟨b1, 2, none⟩)), (68, .slice a2 a0.length a3)] ?_;refine sS (ss 2 2 b1 [.slice a2 a0.length a3] [.slice a5 Y.cars.length a6, .slice a7 Y.room.length a8, .slice a2 a0.length a3] (_ :: _ :: _ :: _) (cs := [_, _, _]) rfl rfl ?_);refine sn ?_;refine sd (dnb 70 2 0 b1 [.slice a5 Y.cars.length a6, .slice a7 Y.room.length a8, .slice a2 a0.length a3]) ?_;refine sS (ss 0 0 b5 [.slice a5 Y.cars.length a6, .slice a7 Y.room.length a8, .slice a2 a0.length a3] [.slice a5 Y.cars.length a6, .slice a7 Y.room.length a8, .slice a2 a0.length a3] (_ :: _ :: _ :: _) (cs := [_, _, _]) rfl rfl ?_);refine se (rret ?_);refine pst_retC1 (t := 4) (T := 26) (n := 3) [] (by kernel_rfl) rfl (by kernel_rfl) rfl (seesN_mem (n := 3) (cs := #[.slice a5 Y.cars.length a6, .slice a7 Y.room.length a8, .slice a2 a0.length a3]) (b := b5) (off := 0) (T := 26) (fz := (0, 0)) (vs := [.slice a5 Y.cars.length a6, .slice a7 Y.room.length a8, .slice a2 a0.length a3]) (by simp) rfl) (.inl ⟨by kernel_rfl, rfl⟩) (TC _ (TC _ (TC _ (TR _)))) (Imm.le.trans hJ0 c6) ?_;exact ⟨_, rfl, rfl, ((show (⟨Y.cars, Y.room, (moved Y s).tracks.take k⟩ : Yard) = moved Y s from by rw [take_done (by rw [moved_len]; omega)]; rfl) ▸ (mkYard b2 b4 d2))⟩

noncomputable def c_copiedR (p : List Nat) : Code := sub (bodyOf Tryz.f96) p
theorem copiedR_ct (I : Imm) (y : Value) (Y : Yard) (y_f : IsYard I y Y) (h1 : Y.cars.length ≤ 1000000) (h2 : Y.room.length ≤ 1000000) (h3 : Y.tracks.length ≤ 1000000) (h4 : ∀ x ∈ Y.tracks, x.length ≤ 1000000) : Ct Tryz.prog 96 #[y] I ([]) (fun v I' M' => ∃ u : Value, v = u ∧ M' = [] ∧ IsYard I' u (Y)) := by
 obtain ⟨y1, y2, y3, n9, f6, f7, k9⟩ := id y_f;subst n9;obtain ⟨b4, b6, m5, m8, k6, m6, m7, m9⟩ := id f6;subst k6;obtain ⟨a9, b0, n0, n3, k7, n1, n2, n4⟩ := id f7;subst k7;obtain ⟨a7, a8, n5, n8, l8, k8, n6, n7, d5, e9⟩ := id k9;subst k8;refine fr (args := [_]) (N := 36) Tryz.func96 (fun F => ?_);show Run _ _ (c_copiedR []) _ _ [(0, .agg #[.slice b4 Y.cars.length b6, .slice a9 Y.room.length b0, .slice a7 Y.tracks.length a8])] _ _;refine rnm (rqr ?_);refine sS (sb 1 26 #[.slice b4 Y.cars.length b6, .slice a9 Y.room.length b0, .slice a7 Y.tracks.length a8] (fun b1 => ?_));refine sS (sal 2 26 #[.slice none 0 0, .slice none 0 0, .slice none 0 0] (fun b3 => ?_));refine se (rq ?_);refine rdX (M := ((b3, Obj.cells #[.slice none 0 0, .slice none 0 0, .slice none 0 0] 26 (0, 0)) :: (b1, Obj.cells #[.slice b4 Y.cars.length b6, .slice a9 Y.room.length b0, .slice a7 Y.tracks.length a8] 26 (0, 0)) :: [])) (F0 := F) [(4, 9, .sl 3)] 9 [(1, true), (2, true), (5, true), (6, true), (0, false), (3, false), (8, true), (4, false), (7, false)] (by simp only [AA, CA, NA, List.append_nil]; exact PR _) (hA_cons (alOk_of (ops := opsOf (c_copiedR [1, 0])) (i := 4) (d := 9) (by kernel_rfl) (by kernel_rfl) (by kernel_rfl)) hA_nil) ?_;refine ofx_none (det_pv (d := 6) (v := .pointer (some ⟨b1, 0, none⟩)) (by kernel_rfl)) ?_;refine ofx_part (Rx := ((b1, Obj.cells #[.slice b4 Y.cars.length b6, .slice a9 Y.room.length b0, .slice a7 Y.tracks.length a8] 26 (0, 0)) :: [])) (PS _ _ _) (dlb 7 0 0 b1 (.slice b4 Y.cars.length b6)) ?_;refine ofx_none (det_pv (d := 10) (v := .pointer (some ⟨b1, 1, none⟩)) (by kernel_rfl)) ?_;refine ofx_part (Rx := ((b1, Obj.cells #[.slice b4 Y.cars.length b6, .slice a9 Y.room.length b0, .slice a7 Y.tracks.length a8] 26 (0, 0)) :: [])) (PS _ _ _) (dlb 11 0 1 b1 (.slice a9 Y.room.length b0)) ?_;refine ofx_act (Mx := fun FX => ((b3, Obj.cells #[.slice none 0 0, .slice none 0 0, .slice none 0 0] 26 (0, 0)) :: (b1, Obj.cells #[.slice b4 Y.cars.length b6, .slice a9 Y.room.length b0, .slice a7 Y.tracks.length a8] 26 (0, 0)) :: FX)) rfl (fun FX => by simp only [AA, CA, NA, List.append_nil]; exact PR _) (fun FX => ?_);refine id (sbs 5 56 0 #[] (fun b5 => ?_));refine ofx_nx (M1 := ((b5, Obj.cells #[] 56 (0, 0)) :: (b3, Obj.cells #[.slice none 0 0, .slice none 0 0, .slice none 0 0] 26 (0, 0)) :: (b1, Obj.cells #[.slice b4 Y.cars.length b6, .slice a9 Y.room.length b0, .slice a7 Y.tracks.length a8] 26 (0, 0)) :: [])) (by exact (PR _)) (.part ((PC _ (PS _ _ _)).trans (PS _ _ _)) (.none (.part ((PC _ (PS _ _ _)).trans (PS _ _ _)) (.none .nil)))) ?_;refine ofx_act (Mx := fun FX => ((b5, Obj.cells #[] 56 (0, 0)) :: (b3, Obj.cells #[.slice none 0 0, .slice none 0 0, .slice none 0 0] 26 (0, 0)) :: (b1, Obj.cells #[.slice b4 Y.cars.length b6, .slice a9 Y.room.length b0, .slice a7 Y.tracks.length a8] 26 (0, 0)) :: FX)) rfl (fun FX => by simp only [AA, CA, NA, List.append_nil]; exact PR _) (fun FX => ?_);have m0 : Own 56 6 carCell (.slice (some ⟨b5, 0, none⟩) 0 0) ([] : List Car) [(b5, Obj.cells #[] 56 (0, 0))] := Own.lit rfl rfl;refine id (stp_append (d := 8) (x := (.tmp 5)) (y := (.tmp 7)) (T := 22) (T' := 22) (E := 56) (E' := 56) (sz := 6) (bs := 40) (z := .agg #[.int .i64 (0), .int .i64 (0), .int .i64 (0), .int .i64 (0), .bool (false), .bool (false)]) (cell := carCell) (xs := ([] : List Car)) (ys := Y.cars) (Ms := [(b5, Obj.cells #[] 56 (0, 0))]) (ty := 22) (gd := none) (by kernel_rfl) rfl (by kernel_rfl) (by kernel_rfl) (by kernel_rfl) (by kernel_rfl) (by kernel_rfl) (by decide) (by kernel_rfl) rfl rfl (m0) (PR _) (one_carCell _) f6.src (by first | omega | (simp only [LC, LN, LA, LK, LD]; omega)) (fun v8 c9 k2 => ?_));rw [NA] at k2;refine ofx_nx (M1 := ((b3, Obj.cells #[.slice none 0 0, .slice none 0 0, .slice none 0 0] 26 (0, 0)) :: (b1, Obj.cells #[.slice b4 Y.cars.length b6, .slice a9 Y.room.length b0, .slice a7 Y.tracks.length a8] 26 (0, 0)) :: (c9 ++ []))) (by simp only [AA, CA, NA, List.append_nil]; exact (List.perm_middle.trans (PC _ PM))) (.part (PS _ _ _) (.none (.wait (by kernel_rfl) (.wait (by kernel_rfl) .nil)))) ?_;obtain ⟨c1, c2, m1, o3⟩ := k2.shape;subst m1;show OFPX _ _ _ _ _ _ _ _ ((8, .slice c1 Y.cars.length c2) :: _) _ _;refine ofx_none (det_pv (d := 13) (v := .pointer (some ⟨b1, 0, none⟩)) (by kernel_rfl)) ?_;refine ofx_al rfl (fun b9 => ?_);refine ofx_act (Mx := fun FX => ((b9, Obj.cells #[] 3 (0, 0)) :: (b3, Obj.cells #[.slice none 0 0, .slice none 0 0, .slice none 0 0] 26 (0, 0)) :: (b1, Obj.cells #[.slice b4 Y.cars.length b6, .slice a9 Y.room.length b0, .slice a7 Y.tracks.length a8] 26 (0, 0)) :: (c9 ++ FX))) rfl (fun FX => by simp only [AA, CA, NA, List.append_nil]; exact PR _) (fun FX => ?_);have k0 : Own 3 1 intCell (.slice (some ⟨b9, 0, none⟩) 0 0) ([] : List Int) [(b9, Obj.cells #[] 3 (0, 0))] := Own.lit rfl rfl;refine id (stp_append (d := 12) (x := (.tmp 9)) (y := (.tmp 11)) (T := 23) (T' := 23) (E := 3) (E' := 3) (sz := 1) (bs := 8) (z := .int .i64 (0)) (cell := intCell) (xs := ([] : List Int)) (ys := Y.room) (Ms := [(b9, Obj.cells #[] 3 (0, 0))]) (ty := 23) (gd := none) (by kernel_rfl) rfl (by kernel_rfl) (by kernel_rfl) (by kernel_rfl) (by kernel_rfl) (by kernel_rfl) (by decide) (by kernel_rfl) rfl rfl (k0) (PR _) (one_intCell _) f7.src (by first | omega | (simp only [LC, LN, LA, LK, LD]; omega)) (fun o4 b7 e4 => ?_));rw [NA] at e4;refine ofx_nx (M1 := ((b3, Obj.cells #[.slice none 0 0, .slice none 0 0, .slice none 0 0] 26 (0, 0)) :: (b1, Obj.cells #[.slice b4 Y.cars.length b6, .slice a9 Y.room.length b0, .slice a7 Y.tracks.length a8] 26 (0, 0)) :: (b7 ++ (c9 ++ [])))) (by simp only [AA, CA, NA, List.append_nil]; exact (List.perm_middle.trans (PC _ PM))) (.none (.wait (by kernel_rfl) (.wait (by kernel_rfl) (.wait (by kernel_rfl) (.wait (by kernel_rfl) .nil))))) ?_;obtain ⟨a5, a6, k3, m2⟩ := e4.shape;subst k3;show OFPX _ _ _ _ _ _ _ _ ((12, .slice a5 Y.room.length a6) :: _) _ _;refine ofx_end ?_;refine seq_mem (M' := ((b3, Obj.cells #[.slice none 0 0, .slice none 0 0, .slice none 0 0] 26 (0, 0)) :: (b1, Obj.cells #[.slice b4 Y.cars.length b6, .slice a9 Y.room.length b0, .slice a7 Y.tracks.length a8] 26 (0, 0)) :: (b7 ++ (c9 ++ F)))) (fun w h => by simpa only [AA, CA, NA, List.append_nil] using h) ?_;refine nm ?_;refine sS (ss 1 0 b1 [.slice c1 Y.cars.length c2] [.slice c1 Y.cars.length c2, .slice a9 Y.room.length b0, .slice a7 Y.tracks.length a8] (_ :: _ :: _) (cs := [_, _, _]) rfl rfl ?_);refine sp 1 [(14, .pointer (some ⟨b1, 1, none⟩))] ?_;refine sS (ss 1 1 b1 [.slice a5 Y.room.length a6] [.slice c1 Y.cars.length c2, .slice a5 Y.room.length a6, .slice a7 Y.tracks.length a8] (_ :: _ :: _) (cs := [_, _, _]) rfl rfl ?_);refine sn ?_;refine sp 1 [(15, .pointer (some ⟨b1, 2, none⟩))] ?_;refine sd (dlb 16 1 2 b1 (.slice a7 Y.tracks.length a8)) ?_;refine sp 1 [(3, .slice a7 Y.tracks.length a8)] ?_;refine sn ?_;refine sp 1 [(17, .pointer (some ⟨b1, 2, none⟩))] ?_;refine sS (ss 1 2 b1 [.slice none 0 0] [.slice c1 Y.cars.length c2, .slice a5 Y.room.length a6, .slice none 0 0] (_ :: _ :: _) (cs := [_, _, _]) rfl rfl ?_);refine se (rq (rqr ?_));refine sp 1 [(4, .int .i64 (0))] ?_;refine se (rb 0 ?_);refine rl (fun mz a w => ∃ J0 : Imm, ∃ k : Nat, ∃ c0 : Value, ∃ a3 : Seg, ∃ a0 : List Value, (I.le J0) ∧ (k ≤ Y.tracks.length) ∧ (RowsV J0 a0 (Y.tracks.take k)) ∧ (Own 23 1 valCell c0 (a0) a3) ∧ Slots 36 [(4, .int .i64 ↑k), (1, .pointer (some ⟨b1, 0, none⟩)), (2, .pointer (some ⟨b3, 0, none⟩)), (3, .slice a7 Y.tracks.length a8)] a ∧ a.defers = [] ∧ St J0 ((b3, Obj.cells #[.slice none 0 0, .slice none 0 0, .slice none 0 0] 26 (0, 0)) :: (b1, Obj.cells #[.slice c1 Y.cars.length c2, .slice a5 Y.room.length a6, c0] 26 (0, 0)) :: (b7 ++ (c9 ++ (a3 ++ F)))) w ∧ mz = Y.tracks.length - k) ?_ ?_
 ·intro a w hS hD hW;exact ⟨_, I, 0, (.slice none 0 0), [], [], Imm.le.refl _, Nat.zero_le _, (RowsV.nil _), (Own.nil _ _ _), hS.sub (.cons 4 rfl (.cons 1 rfl (.cons 2 rfl (.cons 3 rfl (.nil _))))), hD, hW, rfl⟩
 rintro mz a w ⟨J0, k, c0, a3, a0, hJ0, hk, a4, b8, hS, hD, hW, rfl⟩
 refine run_at hS hD hW ?_;clear hS hD hW a w;replace d5 := d5.mono hJ0;replace e9 := fun i hi => (e9 i hi).mono hJ0
 obtain ⟨a1, a2, c7, e8⟩ := b8.shape; subst c7;have c6 := a4.1
 try simp only [LS, LA, LC, LN, LK] at c6
 refine rq (rqr ?_);refine sp 4 [(21, .bool (cmp .lss (↑k) (↑(Y.tracks.length))))] ?_;refine se ?_;refine rc 21 rfl (fun h1 => ?_) (fun h1 => ?_)
 ·
  have j9 := h1;have h1 := lss_t h1;refine rskip (pst_next (rq (rb 1 ?_)));have qk := h4 _ (getD_mem (d := []) (xs := Y.tracks) (k := k) (by omega));refine rd 9 [(0, true), (1, true), (3, true), (4, true), (5, true), (6, true), (2, false), (7, false), (8, false)] ((b3, Obj.cells #[.slice none 0 0, .slice none 0 0, .slice none 0 0] 26 (0, 0)) :: (b1, Obj.cells #[.slice c1 Y.cars.length c2, .slice a5 Y.room.length a6, .slice a1 a0.length a2] 26 (0, 0)) :: []) ((b7 ++ (c9 ++ (a3 ++ F)))) ?_;refine ox 1 [(24, .pointer (some ⟨b1, 2, none⟩))] ?_;refine ofp_det (dlb 25 1 2 b1 (.slice a1 a0.length a2)) ?_;refine ox 2 [(28, .int .i64 (↑k)), (27, .slice a7 Y.tracks.length a8)] ?_;refine ofp_det (di 29 1 (k) d5.addr) ?_;have d4 := e9 (k) (by omega);obtain ⟨l1, l3, l2, l6, d8, l4, l5, l7⟩ := id d4;rw [d8] at d4;refine ofp_det (det_eq (dl 30 (rows_get d5 (k) (by omega))) d8) ?_;refine ofp_stp (sbs 26 3 0 #[] (fun f0 => ?_));refine ofp_settle (S' := ((f0, Obj.cells #[] 3 (0, 0)) :: (b7 ++ (c9 ++ (a3 ++ F))))) ((PS _ _ _).trans (PC _ (PS _ _ _))) ?_;have k1 : Own 3 1 intCell (.slice (some ⟨f0, 0, none⟩) 0 0) ([] : List Int) [(f0, Obj.cells #[] 3 (0, 0))] := Own.lit rfl rfl;refine ofp_stp (stp_append (d := 31) (x := (.tmp 26)) (y := (.tmp 30)) (T := 23) (T' := 23) (E := 3) (E' := 3) (sz := 1) (bs := 8) (z := .int .i64 (0)) (cell := intCell) (xs := ([] : List Int)) (ys := Y.tracks.getD (k) []) (Ms := [(f0, Obj.cells #[] 3 (0, 0))]) (ty := 23) (gd := none) (by kernel_rfl) rfl (by kernel_rfl) (by kernel_rfl) (by kernel_rfl) (by kernel_rfl) (by kernel_rfl) (by decide) (by kernel_rfl) rfl rfl (k1) (show List.Perm ((b3, Obj.cells #[.slice none 0 0, .slice none 0 0, .slice none 0 0] 26 (0, 0)) :: (b1, Obj.cells #[.slice c1 Y.cars.length c2, .slice a5 Y.room.length a6, .slice a1 a0.length a2] 26 (0, 0)) :: (f0, Obj.cells #[] 3 (0, 0)) :: (b7 ++ (c9 ++ (a3 ++ F)))) ((f0, Obj.cells #[] 3 (0, 0)) :: (b3, Obj.cells #[.slice none 0 0, .slice none 0 0, .slice none 0 0] 26 (0, 0)) :: (b1, Obj.cells #[.slice c1 Y.cars.length c2, .slice a5 Y.room.length a6, .slice a1 a0.length a2] 26 (0, 0)) :: (b7 ++ (c9 ++ (a3 ++ F)))) from ((PC _ (PS _ _ _)).trans (PS _ _ _))) (one_intCell _) d4.src (by first | omega | (simp only [LC, LN, LA, LK, LD]; omega)) (fun o5 f1 e5 => ?_));rw [NA] at e5;refine ofp_settle (S' := ((f1 ++ (b7 ++ (c9 ++ (a3 ++ F)))))) (List.perm_middle.trans (PC _ PM)) ?_;obtain ⟨c4, c5, k4, m3⟩ := e5.shape;subst k4;show OFP _ _ _ _ _ _ ((31, .slice c4 (Y.tracks.getD (k) []).length c5) :: _) _ _;refine ofp_stp (sbs 32 23 1 #[.slice c4 (Y.tracks.getD (k) []).length c5] (fun l0 => ?_));refine ofp_settle (S' := ((l0, Obj.cells #[.slice c4 (Y.tracks.getD (k) []).length c5] 23 (0, 0)) :: (f1 ++ (b7 ++ (c9 ++ (a3 ++ F)))))) ((PS _ _ _).trans (PC _ (PS _ _ _))) ?_;refine ofp_end ?_;refine nm (nm ?_);refine sfz (A := ((b3, Obj.cells #[.slice none 0 0, .slice none 0 0, .slice none 0 0] 26 (0, 0)) :: (b1, Obj.cells #[.slice c1 Y.cars.length c2, .slice a5 Y.room.length a6, .slice a1 a0.length a2] 26 (0, 0)) :: (l0, Obj.cells #[.slice c4 (Y.tracks.getD (k) []).length c5] 23 (0, 0)) :: (b7 ++ (c9 ++ (a3 ++ F))))) 0 e5 ((PC _ ((PC _ (PM.symm)).trans (PM.symm))).trans (PM.symm)) (fun l9 d6 d1 => ?_);replace a4 := a4.mono d6;obtain ⟨g7, g9, g8, h6, e0, h0, h5, h7⟩ := id d1;cases e0;refine sS (stp_append (d := 33) (x := (.tmp 25)) (y := (.tmp 32)) (T := 24) (T' := 24) (E := 23) (E' := 23) (sz := 1) (bs := 24) (z := .slice none 0 0) (cell := valCell) (xs := a0) (ys := [(.slice c4 (Y.tracks.getD (k) []).length c5 : Value)]) (Ms := a3) (ty := 24) (gd := none) (by kernel_rfl) rfl (by kernel_rfl) (by kernel_rfl) (by kernel_rfl) (by kernel_rfl) (by kernel_rfl) (by decide) (by kernel_rfl) rfl rfl (b8) ((PC _ ((PC _ ((PC _ ((PA _ (PO _ _ _)).trans (PO _ _ _))).trans (PM.symm))).trans (PM.symm))).trans (PM.symm)) (one_valCell rfl) (src_atS 2 rfl rfl) (by first | omega | (have hq := a4.1; simp only [LC, LN, LA, LK, LD] at hq ⊢; omega)) (fun o6 f2 f4 => ?_));refine seq_mem (M' := ((b3, Obj.cells #[.slice none 0 0, .slice none 0 0, .slice none 0 0] 26 (0, 0)) :: (b1, Obj.cells #[.slice c1 Y.cars.length c2, .slice a5 Y.room.length a6, .slice a1 a0.length a2] 26 (0, 0)) :: (f2 ++ (b7 ++ (c9 ++ F))))) (fun w h => (h.perm (((PA _ ((PC _ (PS _ _ _)).trans (PS _ _ _))).trans PM).trans (PC _ (List.perm_middle.trans (PC _ PM))))).sub (TC _ (TR _))) ?_;obtain ⟨e6, e7, k5, m4⟩ := f4.shape;subst k5;have f5 := (a4).snoc d1;refine sp 1 [(34, .pointer (some ⟨b1, 2, none⟩))] ?_;refine sS (ss 1 2 b1 [.slice e6 (a0 ++ ([(.slice c4 (Y.tracks.getD (k) []).length c5 : Value)])).length e7] [.slice c1 Y.cars.length c2, .slice a5 Y.room.length a6, .slice e6 (a0 ++ ([(.slice c4 (Y.tracks.getD (k) []).length c5 : Value)])).length e7] (_ :: _ :: _) (cs := [_, _, _]) rfl rfl ?_);refine ee (pst_normal_block (pst_next (rr ?_)));refine sp 1 [(22, .int .i64 (↑k))] ?_;refine sd (da 23 (↑k) (1)) ?_;refine sp 1 [(4, .int .i64 (↑k + 1))] ?_;refine ee ?_;refine pst_back (Y.tracks.length - (k+1)) (by omega) ?_;intro a w hS hD hW;exact ⟨l9, k+1, .slice e6 (a0 ++ ([(.slice c4 (Y.tracks.getD (k) []).length c5 : Value)])).length e7, f2, a0 ++ ([(.slice c4 (Y.tracks.getD (k) []).length c5 : Value)]), (Imm.le.trans hJ0 d6), by omega, ((take_snoc (d := []) (xs := Y.tracks) (k := k) (by omega)).symm ▸ f5), f4, hS.sub (.consE 4 rfl rfl (.cons 1 rfl (.cons 2 rfl (.cons 3 rfl (.nil _))))), hD, hW.perm (PC _ (PC _ ((PO _ _ _).trans (PA _ (PO _ _ _))))), rfl⟩
 have j9 := h1;have h1 := lss_f h1;refine rexit 0 ?_;refine (pst_exit_pass (pst_exit_pass (pst_exit_block ?_)));refine pst_next (rqr ?_);refine sfz (A := ((b3, Obj.cells #[.slice none 0 0, .slice none 0 0, .slice none 0 0] 26 (0, 0)) :: (b1, Obj.cells #[.slice c1 Y.cars.length c2, .slice a5 Y.room.length a6, .slice a1 a0.length a2] 26 (0, 0)) :: (b7 ++ (a3 ++ F)))) noCar k2 ((PC _ ((PC _ (PO _ _ _)).trans (PM.symm))).trans (PM.symm)) (fun o0 d7 b2 => ?_);replace a4 := a4.mono d7;obtain ⟨h8, i0, h9, i3, e1, i1, i2, i4⟩ := id b2;cases e1;refine sfz (A := ((b3, Obj.cells #[.slice none 0 0, .slice none 0 0, .slice none 0 0] 26 (0, 0)) :: (b1, Obj.cells #[.slice c1 Y.cars.length c2, .slice a5 Y.room.length a6, .slice a1 a0.length a2] 26 (0, 0)) :: (a3 ++ F))) 0 e4 ((PC _ (PM.symm)).trans (PM.symm)) (fun o1 d3 c3 => ?_);replace a4 := a4.mono d3;replace b2 := b2.mono d3;obtain ⟨i5, i7, i6, j0, e2, i8, i9, j1⟩ := id c3;cases e2;refine sfz (A := ((b3, Obj.cells #[.slice none 0 0, .slice none 0 0, .slice none 0 0] 26 (0, 0)) :: (b1, Obj.cells #[.slice c1 Y.cars.length c2, .slice a5 Y.room.length a6, .slice a1 a0.length a2] 26 (0, 0)) :: F)) undef b8 ((PC _ (PM.symm)).trans (PM.symm)) (fun o2 c8 d2 => ?_);replace a4 := a4.mono c8;replace b2 := b2.mono c8;replace c3 := c3.mono c8;obtain ⟨j2, j4, j3, j7, e3, j5, j6, j8⟩ := id d2;cases e3;have d0 := a4.isRows d2;have f3 := a4.1;obtain ⟨f9, g1, g0, g4, f8, d9, g2, g3, g5, g6⟩ := id d0
 injection d9 with fr34_e1 fr34_e2 fr34_e3; subst fr34_e1; subst fr34_e3
 refine sd (dnb 35 1 0 b1 [.slice c1 Y.cars.length c2, .slice a5 Y.room.length a6, .slice a1 a0.length a2]) ?_;refine sS (ss 0 0 b3 [.slice c1 Y.cars.length c2, .slice a5 Y.room.length a6, .slice a1 a0.length a2] [.slice c1 Y.cars.length c2, .slice a5 Y.room.length a6, .slice a1 a0.length a2] (_ :: _ :: _) (cs := [_, _, _]) rfl rfl ?_);refine se (rret ?_);refine pst_retC1 (t := 2) (T := 26) (n := 3) [] (by kernel_rfl) rfl (by kernel_rfl) rfl (seesN_mem (n := 3) (cs := #[.slice c1 Y.cars.length c2, .slice a5 Y.room.length a6, .slice a1 a0.length a2]) (b := b3) (off := 0) (T := 26) (fz := (0, 0)) (vs := [.slice c1 Y.cars.length c2, .slice a5 Y.room.length a6, .slice a1 a0.length a2]) (by simp) rfl) (.inl ⟨by kernel_rfl, rfl⟩) (TC _ (TC _ (TR _))) (Imm.le.trans (Imm.le.trans (Imm.le.trans hJ0 d7) d3) c8) ?_;exact ⟨_, rfl, rfl, ((show (⟨Y.cars, Y.room, Y.tracks.take k⟩ : Yard) = Y from by rw [take_done (by omega)]) ▸ (mkYard b2 c3 d0))⟩

end Go.Proofs.YtcaocbhbofejnaaGreatDoor

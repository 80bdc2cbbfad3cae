/- The law ShuntLeave (couchettelaw03) returns true for every list of numbers and leaves it as it was; condition: the variable errors.errorType holds what the program's text lays (tied by the card). -/
import Derived.Test.YtcaocbhbofejnaaDoorP6
import Derived.Test.YtcaocbhbofejnaaDoorP7
import Derived.Test.YtcaocbhbofejnaaDoorP0
import Derived.ChangeSame
import Derived.ChangeSlices
import Derived.WideShapes
import Derived.Test.YtcaocbhbofejnaaDoorTie
import Derived.Test.YtcaocbhbofejnaaDoorCards
import Derived.ChangeVars
import Derived.JoinedOf
import Derived.RowKit
import Derived.RowKitTokens
import Derived.LaidLaws
import Derived.LaidHandle
import Derived.Stop.Joined
import Derived.SevenTiedAt
import Derived.WideKeyArgs
import Derived.ProofKit
import Derived.SizedLaws
set_option linter.unusedVariables false
set_option linter.unusedSimpArgs false
namespace Go.Sh
open Go Go.Sl

theorem perm_sum {l m : List Int} (h : l.Perm m) : l.sum = m.sum := by
  induction h with
  | nil => rfl
  | cons x _ ih => simp [ih]
  | swap x y l => simp only [List.sum_cons]; omega
  | trans _ _ h1 h2 => exact h1.trans h2
theorem erase_perm {α : Type} {d : α} {l : List α} {i : Nat} (h : i < l.length) : (l.getD i d :: l.eraseIdx i).Perm l := by
  have e : l = l.take i ++ l.getD i d :: l.drop (i + 1) := by rw [← drop_cons h, List.take_append_drop]
  rw [← erase_take]
  exact (List.perm_middle.symm).trans (List.Perm.of_eq e.symm)
structure Blk (cs : List Car) (bl : List (List Int)) : Prop where
  one : ∀ b ∈ bl, ∀ x ∈ b, ∀ y ∈ b, grp cs x = grp cs y
  apart : bl.Pairwise fun b c => ∀ x ∈ b, ∀ y ∈ c, 0 < grp cs x → grp cs x ≠ grp cs y
theorem Blk.perm {cs : List Car} {bl bl' : List (List Int)} (h : Blk cs bl) (p : bl.Perm bl') : Blk cs bl' :=
  ⟨fun b hb => h.one b (p.mem_iff.2 hb), (p.pairwise_iff (fun {b c} hbc x hx y hy h0 e => hbc y hy x hx (by omega) e.symm)).1 h.apart⟩
def RowOk (cs : List Car) (t : List Int) : Prop := ∀ k, k < t.length → 0 < grp cs (t.getD k 0) → (∃ c ∈ t.take k, grp cs c = grp cs (t.getD k 0)) → 0 < k ∧ grp cs (t.getD (k - 1) 0) = grp cs (t.getD k 0)
theorem getD_app {a b : List Int} {k : Nat} : (a ++ b).getD k 0 = if k < a.length then a.getD k 0 else b.getD (k - a.length) 0 := by
  simp only [List.getD]
  split
  · rename_i h; rw [List.getElem?_append_left h]
  · rename_i h; rw [List.getElem?_append_right (by omega)]
theorem Blk.row {cs : List Car} : ∀ {bl : List (List Int)}, Blk cs bl → RowOk cs bl.flatten := by
  intro bl
  induction bl with
  | nil => intro _ k hk; simp at hk
  | cons b r ih =>
    intro h k hk h0 hc
    have ih := ih ⟨fun b hb => h.one b (List.mem_cons_of_mem _ hb), (List.pairwise_cons.1 h.apart).2⟩
    rw [List.flatten_cons] at hk h0 hc ⊢
    obtain ⟨c, hc, e⟩ := hc
    by_cases hkb : k < b.length
    · have e0 : (b ++ r.flatten).getD k 0 = b.getD k 0 := by rw [getD_app, if_pos hkb]
      rw [List.take_append_of_le_length (by omega)] at hc
      have hk0 : 0 < k := by
        rcases Nat.eq_zero_or_pos k with hz | hz
        · subst hz; simp at hc
        · exact hz
      refine ⟨hk0, ?_⟩
      rw [e0, getD_app, if_pos (by omega)]
      exact h.one b List.mem_cons_self _ (getD_mem (by omega)) _ (getD_mem hkb)
    · have e0 : (b ++ r.flatten).getD k 0 = r.flatten.getD (k - b.length) 0 := by rw [getD_app, if_neg hkb]
      rw [e0] at h0 e ⊢
      have hk2 : k - b.length < r.flatten.length := by rw [List.length_append] at hk; omega
      have hmem : r.flatten.getD (k - b.length) 0 ∈ r.flatten := getD_mem hk2
      rw [List.take_append, List.take_of_length_le (by omega)] at hc
      rcases List.mem_append.1 hc with hc | hc
      · exfalso
        obtain ⟨b2, hb2, hm2⟩ := List.mem_flatten.1 hmem
        exact (List.pairwise_cons.1 h.apart).1 b2 hb2 c hc _ hm2 (by omega) e
      · obtain ⟨i1, i2⟩ := ih (k - b.length) hk2 h0 ⟨c, hc, e⟩
        refine ⟨by omega, ?_⟩
        rw [getD_app, if_neg (by omega), show k - 1 - b.length = k - b.length - 1 by omega]
        exact i2
theorem coupled_of {cs : List Car} {t : List Int} {k : Nat} (hk : k < t.length) (h0 : 0 < grp cs (t.getD k 0)) (h1 : 0 < k) (e : grp cs (t.getD (k - 1) 0) = grp cs (t.getD k 0)) : coupled cs t ↑k = true := by
  rw [coupled_raw hk, show ((k : Int) - 1).toNat = k - 1 by omega, decide_eq_true (show 0 < (k : Int) by omega), decide_eq_true (show 0 < (carAt cs (t.getD k 0)).grp from h0), decide_eq_true (show (carAt cs (t.getD k 0)).grp = (carAt cs (t.getD (k - 1) 0)).grp from e.symm)]
  rfl
theorem coupled_to {cs : List Car} {t : List Int} {k : Nat} (hk : k < t.length) (h : coupled cs t ↑k = true) : 0 < k ∧ 0 < grp cs (t.getD k 0) ∧ grp cs (t.getD k 0) = grp cs (t.getD (k - 1) 0) := by
  rw [coupled_raw hk, show ((k : Int) - 1).toNat = k - 1 by omega] at h
  simp only [Bool.and_eq_true, decide_eq_true_eq] at h
  exact ⟨by omega, h.2.1, h.2.2⟩
theorem blocks_blk {cs : List Car} {t : List Int} (h : ∀ k, k < t.length → 0 < grp cs (t.getD k 0) → (∃ c ∈ t.take k, grp cs c = grp cs (t.getD k 0)) → coupled cs t ↑k = true) :
    ∀ k, k ≤ t.length → Blk cs (blocksTo cs t k) ∧ (0 < k → ∃ ys y, blocksTo cs t k = ys ++ [y] ∧ t.getD (k - 1) 0 ∈ y) := by
  intro k
  induction k with
  | zero => intro _; exact ⟨⟨fun b hb => by simp [blocksTo] at hb, by simp [blocksTo]⟩, fun h => by omega⟩
  | succ k ih =>
    intro hk
    obtain ⟨hb, hl⟩ := ih (by omega)
    by_cases hc : coupled cs t ↑k = true
    · obtain ⟨c1, c2, c3⟩ := coupled_to (by omega) hc
      obtain ⟨ys, y, e, hy⟩ := hl c1
      have e2 : blocksTo cs t (k + 1) = ys ++ [y ++ [t.getD k 0]] := by
        rw [blocksTo_yes hc, e]
        simp [List.getD]
      rw [e2]
      rw [e] at hb
      have ho := hb.one
      have ha := List.pairwise_append.1 hb.apart
      refine ⟨⟨fun b hb2 => ?_, List.pairwise_append.2 ⟨ha.1, by simp, fun b hb2 c hc2 => ?_⟩⟩, fun _ => ⟨ys, _, rfl, by simp⟩⟩
      · rcases List.mem_append.1 hb2 with hb2 | hb2
        · exact ho b (List.mem_append_left _ hb2)
        · have hb2 := List.mem_singleton.1 hb2
          subst hb2
          have key : ∀ x ∈ y ++ [t.getD k 0], grp cs x = grp cs (t.getD (k - 1) 0) := fun x hx => by
            rcases List.mem_append.1 hx with hx | hx
            · exact ho y (by simp) x hx _ hy
            · have hx := List.mem_singleton.1 hx; subst hx; exact c3
          intro x hx z hz
          rw [key x hx, key z hz]
      · have hc2 := List.mem_singleton.1 hc2
        subst hc2
        intro x hx z hz h0
        rcases List.mem_append.1 hz with hz | hz
        · exact ha.2.2 b hb2 y (by simp) x hx z hz h0
        · have hz := List.mem_singleton.1 hz; subst hz
          rw [c3]
          exact ha.2.2 b hb2 y (by simp) x hx _ hy h0
    · have hc' : coupled cs t ↑k = false := by simpa using hc
      rw [blocksTo_no hc']
      refine ⟨⟨fun b hb2 => ?_, List.pairwise_append.2 ⟨hb.apart, by simp, fun b hb2 c hc2 => ?_⟩⟩, fun _ => ⟨_, _, rfl, by simp⟩⟩
      · rcases List.mem_append.1 hb2 with hb2 | hb2
        · exact hb.one b hb2
        · have hb2 := List.mem_singleton.1 hb2
          subst hb2
          intro x hx z hz
          rw [List.mem_singleton.1 hx, List.mem_singleton.1 hz]
      · have hc2 := List.mem_singleton.1 hc2
        subst hc2
        intro x hx z hz h0 e
        have hz := List.mem_singleton.1 hz; subst hz
        refine hc (h k (by omega) (by omega) ⟨x, ?_, e⟩)
        rw [← blocksTo_flat k (by omega)]
        exact List.mem_flatten.2 ⟨b, hb2, hx⟩
theorem rowsN_perm : ∀ (n : Nat) (bl : List (List Int)), bl.length = n → ∀ x ∈ rowsN n bl, ∃ bl' : List (List Int), bl'.Perm bl ∧ x = bl'.flatten := by
  intro n
  induction n with
  | zero => intro bl h x hx; simp [rowsN, ordN] at hx; subst hx; exact ⟨[], by rw [List.length_eq_zero_iff.1 h], rfl⟩
  | succ n ih =>
    intro bl h x hx
    simp only [rowsN, ordN, ordFrom, List.mem_flatMap, List.mem_map] at hx
    obtain ⟨i, hi, y, hy, rfl⟩ := hx
    have hi := List.mem_range'_1.1 hi
    obtain ⟨bl', hp, rfl⟩ := ih _ (erase_len (k := i) (by omega) h) y hy
    refine ⟨bl.getD i [] :: bl', ?_, rfl⟩
    refine (List.Perm.cons _ hp).trans ?_
    have hb : i < bl.length := by omega
    exact erase_perm hb
theorem Fine.row {Y : Yard} (f : Fine Y) {r : List Int} (hr : r ∈ rowsN (blocksOf Y.cars (trk Y 0)).length (blocksOf Y.cars (trk Y 0))) : Valid { Y with tracks := Y.tracks.set 0 r } ∧ r.Perm (trk Y 0) := by
  have hlen := f.len; have hr1 := f.room1
  obtain ⟨t, ts, ht⟩ : ∃ t ts, Y.tracks = t :: ts := by
    cases hh : Y.tracks with
    | nil => rw [hh] at hlen; simp at hlen; omega
    | cons t ts => exact ⟨t, ts, rfl⟩
  have ht0 : trk Y 0 = t := by show Y.tracks.getD 0 [] = t; rw [ht]; rfl
  rw [ht0] at hr ⊢
  have hg := groups_iff.1 f.groups
  have hrow : ∀ k, k < t.length → 0 < grp Y.cars (t.getD k 0) → (∃ c ∈ t.take k, grp Y.cars c = grp Y.cars (t.getD k 0)) → coupled Y.cars t ↑k = true := fun k hk h0 hc => by
    have := hg 0 k (by rw [ht]; simp) (by rw [ht]; simpa using hk) (by rw [ht]; simpa using h0) (.inr (by rw [ht]; simpa using hc))
    rw [ht] at this; simpa using this
  obtain ⟨hb, _⟩ := blocks_blk hrow t.length (Nat.le_refl _)
  obtain ⟨bl', hp, rfl⟩ := rowsN_perm _ _ rfl r hr
  have hflat : (blocksOf Y.cars t).flatten = t := by
    have := blocksTo_flat (cs := Y.cars) (t := t) t.length (Nat.le_refl _)
    rw [List.take_length] at this; exact this
  have hperm : bl'.flatten.Perm t := by
    have := hp.flatten
    rw [hflat] at this; exact this
  have hrok := (Blk.perm hb hp.symm).row
  refine ⟨Fine.valid ⟨f.cars, f.carOk, f.room1, f.room3, f.roomOk, by rw [List.length_set]; exact f.len, ?_, ?_, ?_, ?_, ?_⟩, hperm⟩
  all_goals simp only [ht, List.set_cons_zero]
  · intro x hx c hc
    have hok := f.ok
    rw [ht] at hok
    rcases List.mem_cons.1 hx with e | hx
    · subst e; exact hok t List.mem_cons_self c (hperm.mem_iff.1 hc)
    · exact hok x (List.mem_cons_of_mem _ hx) c hc
  · have hn := f.nodup
    rw [ht] at hn
    rw [List.flatten_cons] at hn ⊢
    exact (List.Perm.append_right _ hperm).nodup_iff.2 hn
  · intro k hk
    have hf := f.fits
    rw [ht] at hf
    cases k with
    | zero =>
      have := hf 0 (by simp)
      rw [List.getD_cons_zero] at this ⊢
      have e : lenOf Y.cars bl'.flatten = lenOf Y.cars t := by
        unfold lenOf; exact perm_sum (hperm.map _)
      rw [e]; exact this
    | succ k => simpa using hf (k + 1) (by simpa using hk)
  · have ha := f.all
    rw [ht] at ha
    rw [List.flatten_cons, List.length_append] at ha ⊢
    rw [hperm.length_eq]; exact ha
  · refine groups_iff.2 ?_
    show GrpFrom Y.cars (bl'.flatten :: ts) []
    intro i k hi hk h0 hm
    rcases hm with hm | ⟨c, hc, e⟩
    · simp at hm
    · cases i with
      | zero =>
        simp only [List.getD_cons_zero, List.take_zero, List.flatten_nil, List.nil_append] at hk h0 hc e ⊢
        obtain ⟨h1, h2⟩ := hrok k hk h0 ⟨c, hc, e⟩
        exact coupled_of hk h0 h1 h2
      | succ i =>
        have := hg (i + 1) k (by rw [ht]; simpa using hi) (by rw [ht]; simpa using hk) (by rw [ht]; simpa using h0) (.inr ⟨c, by
          rw [ht]
          simp only [List.take_succ_cons, List.flatten_cons, List.getD_cons_succ, List.mem_append] at hc ⊢
          rcases hc with (hc | hc) | hc
          · exact .inl (.inl (hperm.mem_iff.1 hc))
          · exact .inl (.inr hc)
          · exact .inr hc, by rw [ht]; simpa using e⟩)
        rw [ht] at this; simpa using this

theorem sumBy_perm {f : Car → Int} {cs : List Car} {s t : List Int} (h : s.Perm t) : sumBy f cs s = sumBy f cs t := perm_sum (h.map _)
def quoOf (cs : List Car) (c : Int) : Int := 100 * (carAt cs c).brk / (carAt cs c).wt
def worstM (cs : List Car) (t : List Int) : Int := t.foldl (fun w c => if quoOf cs c < w then quoOf cs c else w) 100
def bestM (cs : List Car) (t : List Int) : Int := t.foldl (fun b c => if b < quoOf cs c then quoOf cs c else b) 0
theorem worstM_succ {cs : List Car} {t : List Int} {k : Nat} (hk : k < t.length) : worstM cs (t.take (k + 1)) = if quoOf cs (t.getD k 0) < worstM cs (t.take k) then quoOf cs (t.getD k 0) else worstM cs (t.take k) := by
  unfold worstM; rw [take_snoc (d := 0) hk, List.foldl_append]; rfl
theorem bestM_succ {cs : List Car} {t : List Int} {k : Nat} (hk : k < t.length) : bestM cs (t.take (k + 1)) = if bestM cs (t.take k) < quoOf cs (t.getD k 0) then quoOf cs (t.getD k 0) else bestM cs (t.take k) := by
  unfold bestM; rw [take_snoc (d := 0) hk, List.foldl_append]; rfl
theorem worst_fold (cs : List Car) : ∀ (t : List Int) (w : Int), t.foldl (fun w c => if quoOf cs c < w then quoOf cs c else w) w ≤ w ∧ ∀ c ∈ t, t.foldl (fun w c => if quoOf cs c < w then quoOf cs c else w) w ≤ quoOf cs c := by
  intro t
  induction t with
  | nil => intro w; exact ⟨Int.le_refl _, fun c h => by simp at h⟩
  | cons x r ih =>
    intro w
    simp only [List.foldl_cons]
    obtain ⟨h1, h2⟩ := ih (if quoOf cs x < w then quoOf cs x else w)
    refine ⟨by split at h1 <;> split <;> omega, fun c hc => ?_⟩
    rcases List.mem_cons.1 hc with e | hc
    · subst e; split at h1 <;> split <;> omega
    · exact h2 c hc
theorem best_fold (cs : List Car) : ∀ (t : List Int) (w : Int), w ≤ t.foldl (fun w c => if w < quoOf cs c then quoOf cs c else w) w ∧ ∀ c ∈ t, quoOf cs c ≤ t.foldl (fun w c => if w < quoOf cs c then quoOf cs c else w) w := by
  intro t
  induction t with
  | nil => intro w; exact ⟨Int.le_refl _, fun c h => by simp at h⟩
  | cons x r ih =>
    intro w
    simp only [List.foldl_cons]
    obtain ⟨h1, h2⟩ := ih (if w < quoOf cs x then quoOf cs x else w)
    refine ⟨by split at h1 <;> split <;> omega, fun c hc => ?_⟩
    rcases List.mem_cons.1 hc with e | hc
    · subst e; split at h1 <;> split <;> omega
    · exact h2 c hc
end Go.Sh
namespace Go.Sh
open Go Go.Sl
theorem sum_low {f g : Car → Int} {cs : List Car} {w : Int} : ∀ (t : List Int), (∀ c ∈ t, w * f (carAt cs c) ≤ 100 * g (carAt cs c)) → w * sumBy f cs t ≤ 100 * sumBy g cs t := by
  intro t
  induction t with
  | nil => intro _; simp [sumBy]
  | cons c r ih =>
    intro h
    have h1 := h c List.mem_cons_self
    have h2 := ih fun x hx => h x (List.mem_cons_of_mem _ hx)
    simp only [sumBy, List.map_cons, List.sum_cons] at h2 ⊢
    rw [Int.mul_add, Int.mul_add]; omega
theorem sum_high {f g : Car → Int} {cs : List Car} {w : Int} : ∀ (t : List Int), (∀ c ∈ t, 100 * g (carAt cs c) + 1 ≤ w * f (carAt cs c)) → 100 * sumBy g cs t + t.length ≤ w * sumBy f cs t := by
  intro t
  induction t with
  | nil => intro _; simp [sumBy]
  | cons c r ih =>
    intro h
    have h1 := h c List.mem_cons_self
    have h2 := ih fun x hx => h x (List.mem_cons_of_mem _ hx)
    simp only [sumBy, List.map_cons, List.sum_cons, List.length_cons] at h2 ⊢
    rw [Int.mul_add, Int.mul_add]; omega
theorem Fine.carIn {Y : Yard} (f : Fine Y) {c : Int} (h : 0 ≤ c ∧ c < Y.cars.length) : carErr (carAt Y.cars c) = 0 := f.carOk _ (getD_mem (d := noCar) (by omega))
theorem weight_pos {Y : Yard} (f : Fine Y) : ∀ (t : List Int), Ok Y.cars t → (t.length : Int) ≤ sumBy Car.wt Y.cars t := by
  intro t
  induction t with
  | nil => intro _; simp [sumBy]
  | cons c r ih =>
    intro h
    have h1 := carOk_range (f.carIn (h c List.mem_cons_self))
    have h2 := ih fun x hx => h x (List.mem_cons_of_mem _ hx)
    simp only [sumBy, List.map_cons, List.sum_cons, List.length_cons] at h2 ⊢
    omega
theorem Fine.trk0 {Y : Yard} (f : Fine Y) : Ok Y.cars (trk Y 0) ∧ (trk Y 0).length ≤ 5 := ⟨f.warm.ok, f.warm.tl⟩
theorem brake_empty {Y : Yard} (h : Valid Y) (h0 : (trk Y 0).length = 0) : brakeOf Y = (0, 11) := brake_none h (by rw [List.length_eq_zero_iff.1 h0]; rfl)
theorem brake_full {Y : Yard} (h : Valid Y) (h0 : (trk Y 0).length ≠ 0) : brakeOf Y = (100 * sumBy Car.brk Y.cars (trk Y 0) / sumBy Car.wt Y.cars (trk Y 0), 0) ∧
    worstM Y.cars (trk Y 0) ≤ 100 * sumBy Car.brk Y.cars (trk Y 0) / sumBy Car.wt Y.cars (trk Y 0) ∧ 100 * sumBy Car.brk Y.cars (trk Y 0) / sumBy Car.wt Y.cars (trk Y 0) ≤ bestM Y.cars (trk Y 0) := by
  have f := h.fine
  have hw := weight_pos f _ f.trk0.1
  have hpos : 0 < sumBy Car.wt Y.cars (trk Y 0) := by omega
  have hq : ∀ c ∈ trk Y 0, 0 < (carAt Y.cars c).wt := fun c hc => by
    have := carOk_range (f.carIn (f.trk0.1 c hc)); omega
  refine ⟨brake_some h (by omega), ?_, ?_⟩
  · refine (Int.le_ediv_iff_mul_le hpos).2 ?_
    refine sum_low (f := Car.wt) (g := Car.brk) _ fun c hc => ?_
    exact (Int.le_ediv_iff_mul_le (hq c hc)).1 ((worst_fold Y.cars (trk Y 0) 100).2 c hc)
  · have hs := sum_high (f := Car.wt) (g := Car.brk) (cs := Y.cars) (w := bestM Y.cars (trk Y 0) + 1) (trk Y 0) fun c hc => by
      have h1 := (best_fold Y.cars (trk Y 0) 0).2 c hc
      have h2 : quoOf Y.cars c < bestM Y.cars (trk Y 0) + 1 := by unfold bestM; omega
      have := (Int.ediv_lt_iff_lt_mul (hq c hc)).1 h2
      omega
    have : 100 * sumBy Car.brk Y.cars (trk Y 0) / sumBy Car.wt Y.cars (trk Y 0) < bestM Y.cars (trk Y 0) + 1 := (Int.ediv_lt_iff_lt_mul hpos).2 (by omega)
    omega
theorem brake_row {Y : Yard} (h : Valid Y) (h0 : (trk Y 0).length ≠ 0) {r : List Int} (hr : r ∈ rowsN (blocksOf Y.cars (trk Y 0)).length (blocksOf Y.cars (trk Y 0))) : brakeOf { Y with tracks := Y.tracks.set 0 r } = brakeOf Y := by
  obtain ⟨hv, hp⟩ := h.fine.row hr
  have hpos : 0 < Y.tracks.length := by have := h.fine.len; have := h.fine.room1; omega
  have ht : trk { Y with tracks := Y.tracks.set 0 r } 0 = r := by
    show (Y.tracks.set 0 r).getD 0 [] = r
    simp [List.getD, hpos]
  have h1 := (brake_full hv (by rw [ht, hp.length_eq]; exact h0)).1
  rw [ht] at h1
  rw [h1, (brake_full h h0).1]
  show (100 * sumBy Car.brk Y.cars r / sumBy Car.wt Y.cars r, (0 : Int)) = _
  rw [sumBy_perm hp, sumBy_perm hp]
end Go.Sh
namespace Go.Sh
open Go Go.Sl

theorem plain_len {goal : Yard → Bool} : ∀ (d : Nat) (Y : Yard) (l : List Shift), plain goal d Y = some l → (∀ m, m < d → plain goal m Y = none) → l.length = d := by
  intro d
  induction d with
  | zero =>
    intro Y l h _
    simp only [plain] at h
    split at h
    · cases h; rfl
    · cases h
  | succ d ih =>
    intro Y l h hm
    have hg : goal Y ≠ true := fun hg => by have := hm 0 (by omega); rw [plain_goal hg] at this; cases this
    simp only [plain, if_neg hg] at h
    obtain ⟨s, hs, h2⟩ := List.exists_of_findSome?_eq_some h
    obtain ⟨l', hl', rfl⟩ := Option.map_eq_some_iff.1 h2
    have := ih _ l' hl' (fun m hmd => plain_down (hm (m + 1) (by omega)) hs)
    simp [this]
theorem plain_play {goal : Yard → Bool} : ∀ (d : Nat) (Y : Yard) (l : List Shift), plain goal d Y = some l → ∃ Z, playFrom Y l = (Z, 0) ∧ goal Z = true ∧ Kin Y Z ∧ l.length ≤ d := by
  intro d
  induction d with
  | zero =>
    intro Y l h
    simp only [plain] at h
    split at h
    · rename_i hg; cases h; exact ⟨Y, rfl, hg, Kin.refl Y, Nat.le_refl _⟩
    · cases h
  | succ d ih =>
    intro Y l h
    by_cases hg : goal Y = true
    · rw [plain_goal hg] at h; cases h; exact ⟨Y, rfl, hg, Kin.refl Y, Nat.zero_le _⟩
    · simp only [plain, if_neg hg] at h
      obtain ⟨s, hs, h2⟩ := List.exists_of_findSome?_eq_some h
      obtain ⟨l', hl', rfl⟩ := Option.map_eq_some_iff.1 h2
      obtain ⟨Z, h3, h4, h5, h6⟩ := ih _ l' hl'
      have hm := mem_draws_may hs
      exact ⟨Z, by simp only [playFrom]; rw [if_pos hm]; exact h3, h4, (kin_moved hm).trans h5, by simp; omega⟩
theorem plain_some {goal : Yard → Bool} : ∀ (l : List Shift) (d : Nat) (Y Z : Yard), playFrom Y l = (Z, 0) → goal Z = true → l.length ≤ d → plain goal d Y ≠ none := by
  intro l
  induction l with
  | nil =>
    intro d Y Z h hg _
    simp only [playFrom, Prod.mk.injEq, and_true] at h
    subst h
    rw [plain_goal hg]; simp
  | cons s l ih =>
    intro d Y Z h hg hd
    obtain ⟨d, rfl⟩ : ∃ e, d = e + 1 := ⟨d - 1, by simp at hd; omega⟩
    simp only [playFrom] at h
    split at h
    · rename_i hm
      intro hn
      simp only [plain] at hn
      split at hn
      · cases hn
      · have := List.findSome?_eq_none_iff.1 hn s (mem_draws.2 hm)
        have h2 := ih d _ Z h hg (by simpa using hd)
        simp only [Option.map_eq_none_iff] at this
        exact h2 this
    · rename_i hm
      simp only [Prod.mk.injEq] at h
      exact absurd h.2 hm
theorem fewestM_some {goal : Yard → Bool} {Y : Yard} {l : List Shift} (h : fewestM goal Y = some l) : ∃ Z, playFrom Y l = (Z, 0) ∧ goal Z = true ∧ Kin Y Z ∧ l.length ≤ 4 ∧ (∀ (l' : List Shift) (Z' : Yard), playFrom Y l' = (Z', 0) → goal Z' = true → l.length ≤ l'.length) := by
  unfold fewestM at h
  obtain ⟨l₁, d, l₂, h1, h2, h3⟩ := List.findSome?_eq_some_iff.1 h
  have hd : d < 5 := by have : d ∈ List.range 5 := by rw [h1]; simp
                        simpa using this
  have hlow : ∀ m, m < d → plain goal m Y = none := fun m hm => by
    refine h3 m ?_
    have hp : (List.range 5).Pairwise (· < ·) := List.pairwise_lt_range
    have hm5 : m ∈ List.range 5 := by simp; omega
    rw [h1] at hm5 hp
    rcases List.mem_append.1 hm5 with hx | hx
    · exact hx
    · have := (List.pairwise_append.1 hp).2.1
      rcases List.mem_cons.1 hx with e | hx
      · omega
      · have := List.rel_of_pairwise_cons this hx; omega
  obtain ⟨Z, g1, g2, g3, g4⟩ := plain_play d Y l h2
  have hl := plain_len d Y l h2 hlow
  refine ⟨Z, g1, g2, g3, by omega, fun l' Z' hp hg => ?_⟩
  rcases Nat.lt_or_ge l'.length l.length with hlt | hge
  · exact absurd (hlow l'.length (by omega)) (plain_some l' _ Y Z' hp hg (Nat.le_refl _))
  · exact hge
theorem fewestM_none {goal : Yard → Bool} {Y : Yard} (h : fewestM goal Y = none) : ∀ (l' : List Shift) (Z' : Yard), playFrom Y l' = (Z', 0) → goal Z' = true → 4 < l'.length := fun l' Z' hp hg => by
  rcases Nat.lt_or_ge 4 l'.length with hlt | hge
  · exact hlt
  · have := List.findSome?_eq_none_iff.1 h l'.length (by simp; omega)
    exact absurd this (plain_some l' _ Y Z' hp hg (Nat.le_refl _))
theorem playFrom_kin : ∀ (l : List Shift) {Y Z : Yard}, playFrom Y l = (Z, 0) → Kin Y Z := by
  intro l
  induction l with
  | nil => intro Y Z h; simp only [playFrom, Prod.mk.injEq, and_true] at h; subst h; exact Kin.refl _
  | cons s l ih =>
    intro Y Z h
    simp only [playFrom] at h
    split at h
    · rename_i hm; exact (kin_moved hm).trans (ih h)
    · rename_i hm; simp only [Prod.mk.injEq] at h; exact absurd h.2 hm

theorem mem_ordersN : ∀ (n : Nat) (bl : List Int), bl.length = n → ∀ o : List Int, o ∈ ordersN n bl ↔ o.Perm bl := by
  intro n
  induction n with
  | zero =>
    intro bl h o
    have : bl = [] := List.length_eq_zero_iff.1 h
    subst this
    simp [ordersN, ordN]
  | succ n ih =>
    intro bl h o
    simp only [ordersN, ordN, ordFrom, List.mem_flatMap, List.mem_map]
    constructor
    · rintro ⟨i, hi, y, hy, rfl⟩
      have hi := List.mem_range'_1.1 hi
      have := (ih _ (erase_len (by omega) h) y).1 hy
      exact (this.cons _).trans (erase_perm (d := 0) (by omega))
    · intro hp
      cases o with
      | nil => have := hp.length_eq; simp at this; omega
      | cons c r =>
        have hc : c ∈ bl := hp.mem_iff.1 (by simp)
        obtain ⟨i, hi, e⟩ := List.mem_iff_getElem.1 hc
        refine ⟨i, List.mem_range'_1.2 ⟨Nat.zero_le _, by omega⟩, r, (ih _ (erase_len hi h) r).2 ?_, ?_⟩
        · have h2 := (erase_perm (d := 0) hi).symm
          have e2 : bl.getD i 0 = c := by simp [List.getD, hi, e]
          rw [e2] at h2
          exact (hp.trans h2).cons_inv
        · have e2 : bl.getD i 0 = c := by simp [List.getD, hi, e]
          rw [e2]
theorem whole_perm_of {l : List Int} {n : Nat} (hn : l.Nodup) (hr : ∀ x ∈ l, 0 ≤ x ∧ x < (n : Int)) (hl : n ≤ l.length) : l.Perm (wholeL n) := by
  refine (List.perm_ext_iff_of_nodup hn ((wholeL_sorted _).imp fun hab => by omega)).2 fun x => ⟨fun hx => mem_wholeL.2 (hr x hx), fun hx => ?_⟩
  by_cases hm : x ∈ l
  · exact hm
  · have := range_bound (l := x :: l) (n := n) (List.nodup_cons.2 ⟨hm, hn⟩) (fun c hc => by
      rcases List.mem_cons.1 hc with rfl | hc
      · exact mem_wholeL.1 hx
      · exact hr c hc)
    simp only [List.length_cons] at this
    omega
theorem Fine.whole_perm {Y : Yard} (f : Fine Y) : Y.tracks.flatten.Perm (wholeL Y.cars.length) :=
  whole_perm_of f.nodup (fun x hx => flatten_ok f.ok x hx) f.all
theorem goO_fine {n : Nat} : ∀ (o pre : List Int), (pre ++ o).Nodup → (∀ c ∈ o, 0 ≤ c ∧ c < n) → goO n pre o = 0 := by
  intro o
  induction o with
  | nil => intro pre _ _; rfl
  | cons c r ih =>
    intro pre hn hr
    simp only [goO]
    have h1 := hr c (by simp)
    rw [if_pos (by simp [inB]; omega), if_neg (fun hc => by
      have := (List.nodup_append.1 hn).2.2 c hc c (by simp)
      exact this rfl)]
    exact ih (pre ++ [c]) (by rw [List.append_assoc]; exact hn) (fun x hx => hr x (by simp [hx]))
theorem orderErr_perm {Y : Yard} (hv : Valid Y) {o : List Int} (hp : o.Perm (wholeL Y.cars.length)) : orderErr Y o = 0 := by
  unfold orderErr
  rw [if_pos (show checkErr Y = 0 from hv)]
  refine goO_fine o [] ?_ (fun c hc => mem_wholeL.1 (hp.mem_iff.1 hc))
  exact hp.nodup_iff.2 ((wholeL_sorted _).imp fun hab => by omega)
theorem errOf_cases {α : Type} (o : Option α) : (o = none ∧ errOf o = 11) ∨ (∃ x, o = some x ∧ errOf o = 0) := by
  cases o with
  | none => exact .inl ⟨rfl, rfl⟩
  | some x => exact .inr ⟨x, rfl, rfl⟩
theorem fewestE_cases {Y : Yard} (hv : Valid Y) {o : List Int} (hp : o.Perm (wholeL Y.cars.length)) :
    (fewestM (allP [orderedP o]) Y = none ∧ fewestE Y o = ([], 11)) ∨ (∃ l, fewestM (allP [orderedP o]) Y = some l ∧ fewestE Y o = (l, 0)) := by
  rw [fewestE_ok (orderErr_perm hv hp)]
  rcases errOf_cases (fewestM (allP [orderedP o]) Y) with ⟨h1, h2⟩ | ⟨l, h1, h2⟩
  · exact .inl ⟨h1, by rw [h2, h1]; rfl⟩
  · exact .inr ⟨l, h1, by rw [h2, h1]; rfl⟩
theorem ordered_iff {o : List Int} {Z : Yard} : allP [orderedP o] Z = true ↔ trk Z 0 = o := by simp [allP, orderedP, trk]
theorem leave_iff {cs : List Int} {Z : Yard} : allP (leaveP cs) Z = true ↔ (trk Z 0).length = Z.cars.length ∧ lastP cs (trk Z 0) = true := by
  simp only [allP, leaveP, wholeP, trk, List.all_cons, List.all_nil, Bool.and_true, Bool.and_eq_true, decide_eq_true_eq]
  exact and_congr (by show (_ : Int) = _ ↔ _; exact Int.ofNat_inj) Iff.rfl
theorem goL_fine {n : Nat} : ∀ (l : List Int) (pre : Option Int), (∀ x ∈ l, 0 ≤ x ∧ x < n) → Asc l → (∀ p, pre = some p → ∀ x ∈ l, p < x) → goL n pre l = 0 := by
  intro l
  induction l with
  | nil => intro pre _ _ _; rfl
  | cons c r ih =>
    intro pre hr ha hp
    have h1 := hr c (by simp)
    simp only [goL]
    rw [if_pos (by simp [inB]; omega)]
    have hlow : tooLow pre c = false := by
      cases pre with
      | none => rfl
      | some p => have := hp p rfl c (by simp); simp [tooLow]; omega
    rw [hlow]
    simp only [Bool.false_eq_true, if_false]
    exact ih (some c) (fun x hx => hr x (by simp [hx])) (List.Pairwise.of_cons ha) (fun p hp' x hx => by cases hp'; exact List.rel_of_pairwise_cons ha hx)

def stepL (Y : Yard) (leave : List Int) (least : Int) (o : List Int) : Int :=
  if lastP leave o = true then (if (fewestE Y o).2 = 0 ∧ (least < 0 ∨ ((fewestE Y o).1.length : Int) < least) then ((fewestE Y o).1.length : Int) else least) else least
def leastL (Y : Yard) (leave : List Int) (os : List (List Int)) : Int := os.foldl (stepL Y leave) (-1)
theorem leastL_succ {Y : Yard} {leave : List Int} {os : List (List Int)} {k : Nat} (hk : k < os.length) : leastL Y leave (os.take (k + 1)) = stepL Y leave (leastL Y leave (os.take k)) (os.getD k []) := by
  rw [take_snoc (d := []) hk, leastL, List.foldl_append]; rfl
theorem leastL_spec {Y : Yard} {leave : List Int} : ∀ (os : List (List Int)) (k : Nat), k ≤ os.length →
    -1 ≤ leastL Y leave (os.take k) ∧ (leastL Y leave (os.take k) < 0 → ∀ o ∈ os.take k, lastP leave o = true → (fewestE Y o).2 ≠ 0) ∧
    (0 ≤ leastL Y leave (os.take k) → (∃ o ∈ os.take k, lastP leave o = true ∧ (fewestE Y o).2 = 0 ∧ ((fewestE Y o).1.length : Int) = leastL Y leave (os.take k)) ∧
      ∀ o ∈ os.take k, lastP leave o = true → (fewestE Y o).2 = 0 → leastL Y leave (os.take k) ≤ ((fewestE Y o).1.length : Int)) := by
  intro os k
  induction k with
  | zero => intro _; simp [leastL]
  | succ k ih =>
    intro hk
    obtain ⟨h0, h1, h2⟩ := ih (by omega)
    rw [leastL_succ (by omega)]
    generalize hA : leastL Y leave (os.take k) = A at h0 h1 h2 ⊢
    have hm : ∀ o, o ∈ os.take (k + 1) ↔ o ∈ os.take k ∨ o = os.getD k [] := fun o => by rw [take_snoc (d := []) (by omega)]; simp
    generalize os.getD k [] = q at hm ⊢
    unfold stepL
    by_cases hl : lastP leave q = true
    · rw [if_pos hl]
      by_cases hc : (fewestE Y q).2 = 0 ∧ (A < 0 ∨ ((fewestE Y q).1.length : Int) < A)
      · rw [if_pos hc]
        refine ⟨by omega, fun h => by omega, fun _ => ⟨⟨q, (hm q).2 (.inr rfl), hl, hc.1, rfl⟩, fun o ho hlo he => ?_⟩⟩
        rcases (hm o).1 ho with ho | rfl
        · rcases hc.2 with hn | hn
          · exact absurd he (h1 hn o ho hlo)
          · rcases Int.lt_or_le A 0 with h | h
            · exact absurd he (h1 h o ho hlo)
            · have := (h2 h).2 o ho hlo he; omega
        · exact Int.le_refl _
      · rw [if_neg hc]
        refine ⟨h0, fun h o ho hlo => ?_, fun h => ⟨?_, fun o ho hlo he => ?_⟩⟩
        · rcases (hm o).1 ho with ho | rfl
          · exact h1 h o ho hlo
          · intro he; exact hc ⟨he, .inl h⟩
        · obtain ⟨o, ho, g⟩ := (h2 h).1
          exact ⟨o, (hm o).2 (.inl ho), g⟩
        · rcases (hm o).1 ho with ho | rfl
          · exact (h2 h).2 o ho hlo he
          · rcases Int.lt_or_le ((fewestE Y o).1.length : Int) A with hx | hx
            · exact absurd ⟨he, .inr hx⟩ hc
            · exact hx
    · rw [if_neg hl]
      refine ⟨h0, fun h o ho hlo => ?_, fun h => ⟨?_, fun o ho hlo he => ?_⟩⟩
      · rcases (hm o).1 ho with ho | rfl
        · exact h1 h o ho hlo
        · exact absurd hlo hl
      · obtain ⟨o, ho, g⟩ := (h2 h).1
        exact ⟨o, (hm o).2 (.inl ho), g⟩
      · rcases (hm o).1 ho with ho | rfl
        · exact (h2 h).2 o ho hlo he
        · exact absurd hlo hl

theorem stepL_no {Y : Yard} {leave o : List Int} {least : Int} (h : lastP leave o = false) : stepL Y leave least o = least := if_neg (by rw [h]; simp)
theorem stepL_new {Y : Yard} {leave o : List Int} {least : Int} (h : lastP leave o = true) (h2 : (cmp .eql ((fewestE Y o).2) 0 && (cmp .lss least 0 || cmp .lss (((fewestE Y o).1.length : Nat) : Int) least)) = true) : stepL Y leave least o = ((fewestE Y o).1.length : Int) := by
  simp only [cmp, Bool.and_eq_true, Bool.or_eq_true, decide_eq_true_eq] at h2
  unfold stepL
  rw [if_pos h, if_pos h2]
theorem stepL_old {Y : Yard} {leave o : List Int} {least : Int} (h : lastP leave o = true) (h2 : (cmp .eql ((fewestE Y o).2) 0 && (cmp .lss least 0 || cmp .lss (((fewestE Y o).1.length : Nat) : Int) least)) = false) : stepL Y leave least o = least := by
  unfold stepL
  rw [if_pos h, if_neg (fun hc => by
    have : (cmp .eql ((fewestE Y o).2) 0 && (cmp .lss least 0 || cmp .lss (((fewestE Y o).1.length : Nat) : Int) least)) = true := by
      simp only [cmp, Bool.and_eq_true, Bool.or_eq_true, decide_eq_true_eq]; exact hc
    rw [this] at h2; cases h2)]
theorem fewestE_len {Y : Yard} (hv : Valid Y) {o : List Int} (hp : o.Perm (wholeL Y.cars.length)) : (fewestE Y o).1.length ≤ 4 := by
  rcases fewestE_cases hv hp with ⟨_, h⟩ | ⟨l, h1, h⟩
  · rw [h]; decide
  · rw [h]
    obtain ⟨_, _, _, _, h4, _⟩ := fewestM_some h1
    exact h4
theorem leaveE_len {Y : Yard} {leave : List Int} : (leaveE Y leave).1.length ≤ 4 := by
  unfold leaveE
  split
  · cases h : fewestM (allP (leaveP leave)) Y with
    | none => decide
    | some l => obtain ⟨_, _, _, _, h4, _⟩ := fewestM_some h; exact h4
  · exact Nat.zero_le _
theorem train_perm {Y Z : Yard} (f : Fine Y) (k : Kin Y Z) (h : (trk Z 0).length = Z.cars.length) : (trk Z 0).Perm (wholeL Y.cars.length) := by
  have hp : Z.tracks.flatten.Perm (wholeL Y.cars.length) := k.perm.trans f.whole_perm
  have hlen : Z.tracks.flatten.length = Y.cars.length := by rw [hp.length_eq, wholeL_length]
  have hpos : 0 < Z.tracks.length := by rw [k.len, f.len]; exact f.room1
  cases hz : Z.tracks with
  | nil => rw [hz] at hpos; simp at hpos
  | cons t r =>
    have e : trk Z 0 = t := by simp [trk, hz]
    rw [hz] at hlen hp
    rw [e] at h ⊢
    simp only [List.flatten_cons, List.length_append] at hlen
    rw [k.cars] at h
    have hr : r.flatten = [] := List.length_eq_zero_iff.1 (by omega)
    rw [List.flatten_cons, hr, List.append_nil] at hp
    exact hp
theorem leave_law {Y : Yard} {leave : List Int} (hv : Valid Y) (ha : Asc leave) (hr : ∀ x ∈ leave, 0 ≤ x ∧ x < (Y.cars.length : Int)) {least : Int} (hl : least = leastL Y leave (ordersN Y.cars.length (wholeL Y.cars.length))) :
    (least < 0 → leaveE Y leave = ([], 11)) ∧
    (0 ≤ least → (leaveE Y leave).2 = 0 ∧ ((leaveE Y leave).1.length : Int) = least ∧ (play Y (leaveE Y leave).1).2 = 0 ∧ (play Y (leaveE Y leave).1).1.tracks.length = Y.tracks.length ∧
      (trk (play Y (leaveE Y leave).1).1 0).length = Y.cars.length ∧ lastP leave (trk (play Y (leaveE Y leave).1).1 0) = true ∧
      ((trk Y 0).length = Y.cars.length → (leave.length = 0 ∨ leave.length = Y.cars.length) → (leaveE Y leave).1 = [])) := by
  have f := hv.fine
  have herr : leaveErr Y leave = 0 := by
    unfold leaveErr
    rw [if_pos (show checkErr Y = 0 from hv)]
    exact goL_fine leave none hr ha (fun p hp => by cases hp)
  have hspec := leastL_spec (Y := Y) (leave := leave) (ordersN Y.cars.length (wholeL Y.cars.length)) _ (Nat.le_refl _)
  rw [List.take_length, ← hl] at hspec
  obtain ⟨_, hs1, hs2⟩ := hspec
  have hmem := fun o => mem_ordersN Y.cars.length (wholeL Y.cars.length) (wholeL_length _) o
  have toOrder : ∀ (l : List Shift) (Z : Yard), playFrom Y l = (Z, 0) → allP (leaveP leave) Z = true → ∃ o ∈ ordersN Y.cars.length (wholeL Y.cars.length), lastP leave o = true ∧ allP [orderedP o] Z = true := fun l Z hp hg => by
    obtain ⟨g1, g2⟩ := leave_iff.1 hg
    exact ⟨trk Z 0, (hmem _).2 (train_perm f (playFrom_kin l hp) g1), g2, ordered_iff.2 rfl⟩
  have fromOrder : ∀ (o : List Int), o ∈ ordersN Y.cars.length (wholeL Y.cars.length) → lastP leave o = true → ∀ (l : List Shift) (Z : Yard), playFrom Y l = (Z, 0) → allP [orderedP o] Z = true → allP (leaveP leave) Z = true := fun o ho hlo l Z hp hg => by
    have e := ordered_iff.1 hg
    refine leave_iff.2 ⟨?_, by rw [e]; exact hlo⟩
    rw [e, ((hmem o).1 ho).length_eq, wholeL_length, (playFrom_kin l hp).cars]
  rw [leaveE_ok herr]
  rcases errOf_cases (fewestM (allP (leaveP leave)) Y) with ⟨h1, h2⟩ | ⟨l, h1, h2⟩
  · rw [h2, h1]
    have hno := fewestM_none h1
    have hneg : least < 0 := by
      rcases Int.lt_or_le least 0 with h | h
      · exact h
      · obtain ⟨o, ho, hlo, he, _⟩ := (hs2 h).1
        rcases fewestE_cases hv ((hmem o).1 ho) with ⟨_, h4⟩ | ⟨l, h3, h4⟩
        · rw [h4] at he; cases he
        · obtain ⟨Z, g1, g2, _, g4, _⟩ := fewestM_some h3
          have := hno l Z g1 (fromOrder o ho hlo l Z g1 g2); omega
    exact ⟨fun _ => rfl, fun h => by omega⟩
  · rw [h2, h1]
    obtain ⟨Z, g1, g2, g3, g4, g5⟩ := fewestM_some h1
    obtain ⟨o, ho, hlo, hoz⟩ := toOrder l Z g1 g2
    have hsome : ∀ o' ∈ ordersN Y.cars.length (wholeL Y.cars.length), lastP leave o' = true → (fewestE Y o').2 = 0 → l.length ≤ (fewestE Y o').1.length := fun o' ho' hlo' he => by
      rcases fewestE_cases hv ((hmem o').1 ho') with ⟨_, h4⟩ | ⟨l', h3, h4⟩
      · rw [h4] at he; cases he
      · rw [h4]
        obtain ⟨Z', k1, k2, _, _, _⟩ := fewestM_some h3
        exact g5 l' Z' k1 (fromOrder o' ho' hlo' l' Z' k1 k2)
    have hthis : (fewestE Y o).2 = 0 ∧ (fewestE Y o).1.length ≤ l.length := by
      rcases fewestE_cases hv ((hmem o).1 ho) with ⟨h3, h4⟩ | ⟨l', h3, h4⟩
      · have := fewestM_none h3 l Z g1 hoz; omega
      · rw [h4]
        obtain ⟨Z', k1, k2, _, _, k5⟩ := fewestM_some h3
        exact ⟨rfl, k5 l Z g1 hoz⟩
    have hnn : 0 ≤ least := by
      rcases Int.lt_or_le least 0 with h | h
      · exact absurd hthis.1 (hs1 h o ho hlo)
      · exact h
    have heq : (l.length : Int) = least := by
      obtain ⟨⟨o', ho', hlo', he', hlen'⟩, hmin⟩ := hs2 hnn
      have a1 := hsome o' ho' hlo' he'
      have a2 := hmin o ho hlo hthis.1
      omega
    have hplay : play Y l = (Z, 0) := by unfold play; rw [if_pos (show checkErr Y = 0 from hv)]; exact g1
    obtain ⟨q1, q2⟩ := leave_iff.1 g2
    refine ⟨fun h => by omega, fun _ => ⟨rfl, heq, ?_, ?_, ?_, ?_, fun ht hc => ?_⟩⟩
    · show (play Y l).2 = 0; rw [hplay]
    · show (play Y l).1.tracks.length = _; rw [hplay]; exact g3.len
    · show (trk (play Y l).1 0).length = _; rw [hplay, q1, g3.cars]
    · show lastP leave (trk (play Y l).1 0) = true; rw [hplay]; exact q2
    · -- none are needed
      have hnow : allP (leaveP leave) Y = true := by
        refine leave_iff.2 ⟨ht, ?_⟩
        rcases hc with hc | hc
        · have : leave = [] := List.length_eq_zero_iff.1 hc
          subst this
          simp [lastP]
        · have hp := train_perm f (Kin.refl Y) ht
          have hperm := whole_perm_of (n := Y.cars.length) ha.nodup hr (by omega)
          unfold lastP
          rw [List.all_eq_true]
          intro c hcm
          have : c ∈ trk Y 0 := List.mem_of_mem_drop hcm
          exact decide_eq_true (hperm.mem_iff.2 (hp.mem_iff.1 this))
      have := g5 [] Y rfl hnow
      exact List.length_eq_zero_iff.1 (by simpa using this)
end Go.Sh
namespace Go.Proofs.YtcaocbhbofejnaaDoor
open Go Go.Sl Go.Sh
set_option maxRecDepth 100000
noncomputable def c_ShuntLeave (p : List Nat) : Code := sub (bodyOf Tryd.f6) p
set_option maxHeartbeats 2000000 in
theorem ShuntLeave_ct (I : Imm) (x : Value) (nums : List Int) (x_f : IsInts I x nums) (hG : Glob I) : Ct Tryd.prog 6 #[x] I ([]) (fun v I' M' => v = .bool (true) ∧ M' = []) := by
 obtain ⟨x_a, x_c, x_b, x_o, x_e, x_l, x_m, x_r⟩ := id x_f
 subst x_e
 refine fn_of_run (fn := Tryd.f6) (args := [_]) (N := 169) Tryd.func6 rfl (by kernel_rfl) (Nat.le_of_ble_eq_true rfl) (fun F => ?_)
 show Run _ _ (c_ShuntLeave []) _ _ [(0, .slice x_a nums.length x_c)] _ _
 refine rnm ?_
 refine rqr ?_
 refine sp 1 [(2, .bool (false))] ?_
 refine sn ?_
 refine sp 1 [(16, .slice x_a nums.length x_c)] ?_
 have hct10 := NewBag_ct I _ _ x_f
 refine sS (sc (some 17) (F := (F)) (hct10 :) (.refl _) (fun rv8 I1 rm9 hle2 hp3 => ?_))
 obtain ⟨u6, us7, hv4, hm5⟩ := hp3
 rw [hv4, hm5]; clear hv4 hm5
 replace hG := hG.mono hle2
 refine nm ?_
 show Seq _ _ _ _ _ _ ((17, .pointer (some ⟨u6, 0, none⟩)) :: _) _ _
 refine sp 1 [(3, .pointer (some ⟨u6, 0, none⟩))] ?_
 refine sn ?_
 refine sp 1 [(18, .pointer (some ⟨u6, 0, none⟩))] ?_
 have hct33 := YardOf_ct I1 (u6) (us7) (4) (2) (by omega) (by omega)
 refine sS (sc (some 19) (F := (F)) (hct33 :) (.refl _) (fun rv31 I11 rm32 hle12 hp13 => ?_))
 obtain ⟨p_t16, Y17, u_018, Ms_019, u_120, Ms_121, u_222, ws_223, Ms_224, hv14, hm15, qp25, qp26, qh27, qh28, qh29, qr30⟩ := hp13
 rw [hv14, hm15]; clear hv14 hm15
 replace hG := hG.mono hle12
 obtain ⟨u_018_a, u_018_c, u_018_e, u_018_l⟩ := qh27.shape
 subst u_018_e
 obtain ⟨u_120_a, u_120_c, u_120_e, u_120_l⟩ := qh28.shape
 subst u_120_e
 obtain ⟨u_222_a, u_222_c, u_222_e, u_222_l⟩ := qh29.shape
 subst u_222_e
 have qr30_len := qr30.1
 try simp only [List.length_set, List.length_append, List.length_cons, List.length_nil, List.length_take] at qr30_len
 refine seq_mem (M' := ((u6, Obj.cells #[.int .u64 (p_t16)] 65 (0, 0)) :: (Ms_019 ++ (Ms_121 ++ (Ms_224 ++ F))))) (fun w h => by simpa only [List.append_assoc, List.cons_append, List.nil_append] using h) ?_
 refine nm ?_
 show Seq _ _ _ _ _ _ ((19, .agg #[.slice u_018_a Y17.cars.length u_018_c, .slice u_120_a Y17.room.length u_120_c, .slice u_222_a ws_223.length u_222_c]) :: _) _ _
 have hvl : Valid Y17 := qp25
 have hfa := hvl.fine; have hwo := hfa.warm; have hgood := hvl.good; have hl1 := hvl.lens
 have hf1 := hfa.room1; have hf2 := hfa.len; have hf5 := hfa.cars
 refine sS (sal 4 26 #[.slice none 0 0, .slice none 0 0, .slice none 0 0] (fun b34 => ?_))
 refine sS (ss 0 0 b34 [.slice u_018_a Y17.cars.length u_018_c, .slice u_120_a Y17.room.length u_120_c, .slice u_222_a ws_223.length u_222_c] [.slice u_018_a Y17.cars.length u_018_c, .slice u_120_a Y17.room.length u_120_c, .slice u_222_a ws_223.length u_222_c] (_ :: _ :: _) (cs := [_, _, _]) rfl rfl ?_)
 refine sn ?_
 refine sp 2 [(21, .pointer (some ⟨b34, 0, none⟩)), (20, .pointer (some ⟨u6, 0, none⟩))] ?_
 refine sd (dlb 22 0 0 b34 (.slice u_018_a Y17.cars.length u_018_c)) ?_
 refine sp 1 [(23, .int .i64 (↑(Y17.cars.length)))] ?_
 have hct50 := Some_ct I11 (u6) (p_t16) (Y17.cars.length) (by omega)
 refine sS (sc (some 24) (F := ((b34, Obj.cells #[.slice u_018_a Y17.cars.length u_018_c, .slice u_120_a Y17.room.length u_120_c, .slice u_222_a ws_223.length u_222_c] 26 (0, 0)) :: (Ms_019 ++ (Ms_121 ++ (Ms_224 ++ F))))) (hct50 :) (List.Perm.swap _ _ _) (fun rv48 I36 rm49 hle37 hp38 => ?_))
 obtain ⟨p_t41, l42, u43, Ms44, hv39, hm40, qp45, qp46, qh47⟩ := hp38
 rw [hv39, hm40]; clear hv39 hm40
 replace hG := hG.mono hle37
 replace qr30 := qr30.mono hle37
 obtain ⟨u43_a, u43_c, u43_e, u43_l⟩ := qh47.shape
 subst u43_e
 refine seq_mem (M' := ((u6, Obj.cells #[.int .u64 (p_t41)] 65 (0, 0)) :: (Ms44 ++ (b34, Obj.cells #[.slice u_018_a Y17.cars.length u_018_c, .slice u_120_a Y17.room.length u_120_c, .slice u_222_a ws_223.length u_222_c] 26 (0, 0)) :: (Ms_019 ++ (Ms_121 ++ (Ms_224 ++ F)))))) (fun w h => by simpa only [List.append_assoc, List.cons_append, List.nil_append] using h) ?_
 refine pm (M' := ((u6, Obj.cells #[.int .u64 (p_t41)] 65 (0, 0)) :: (b34, Obj.cells #[.slice u_018_a Y17.cars.length u_018_c, .slice u_120_a Y17.room.length u_120_c, .slice u_222_a ws_223.length u_222_c] 26 (0, 0)) :: (Ms44 ++ (Ms_019 ++ (Ms_121 ++ (Ms_224 ++ F)))))) (List.Perm.cons _ List.perm_middle) ?_
 show Seq _ _ _ _ _ _ ((24, .slice u43_a l42.length u43_c) :: _) _ _
 have hasc : Asc l42 := qp45
 have hrng : ∀ x ∈ l42, 0 ≤ x ∧ x < (Y17.cars.length : Int) := qp46
 have hll : l42.length ≤ Y17.cars.length := range_bound hasc.nodup hrng
 refine sp 1 [(5, .slice u43_a l42.length u43_c)] ?_
 refine sn ?_
 refine sd (dnb 26 1 0 b34 [.slice u_018_a Y17.cars.length u_018_c, .slice u_120_a Y17.room.length u_120_c, .slice u_222_a ws_223.length u_222_c]) ?_
 refine sp 1 [(27, .slice u43_a l42.length u43_c)] ?_
 refine sfz (A := ((u6, Obj.cells #[.int .u64 (p_t41)] 65 (0, 0)) :: (b34, Obj.cells #[.slice u_018_a Y17.cars.length u_018_c, .slice u_120_a Y17.room.length u_120_c, .slice u_222_a ws_223.length u_222_c] 26 (0, 0)) :: (Ms44 ++ (Ms_121 ++ (Ms_224 ++ F))))) noCar qh27 ((List.Perm.cons _ ((List.Perm.cons _ (List.perm_append_comm_assoc _ _ _)).trans (List.perm_middle.symm))).trans (List.perm_middle.symm)) (fun I51 hle52 fz53_f => ?_)
 replace hG := hG.mono hle52
 replace qr30 := qr30.mono hle52
 obtain ⟨fz53_a, fz53_c, fz53_b, fz53_o, fz53_e, fz53_l, fz53_m, fz53_r⟩ := id fz53_f
 cases fz53_e
 refine sfz (A := ((u6, Obj.cells #[.int .u64 (p_t41)] 65 (0, 0)) :: (b34, Obj.cells #[.slice u_018_a Y17.cars.length u_018_c, .slice u_120_a Y17.room.length u_120_c, .slice u_222_a ws_223.length u_222_c] 26 (0, 0)) :: (Ms44 ++ (Ms_224 ++ F)))) 0 qh28 ((List.Perm.cons _ ((List.Perm.cons _ (List.perm_append_comm_assoc _ _ _)).trans (List.perm_middle.symm))).trans (List.perm_middle.symm)) (fun I54 hle55 fz56_f => ?_)
 replace hG := hG.mono hle55
 replace qr30 := qr30.mono hle55
 replace fz53_f := fz53_f.mono hle55
 obtain ⟨fz56_a, fz56_c, fz56_b, fz56_o, fz56_e, fz56_l, fz56_m, fz56_r⟩ := id fz56_f
 cases fz56_e
 refine sfz (A := ((u6, Obj.cells #[.int .u64 (p_t41)] 65 (0, 0)) :: (b34, Obj.cells #[.slice u_018_a Y17.cars.length u_018_c, .slice u_120_a Y17.room.length u_120_c, .slice u_222_a ws_223.length u_222_c] 26 (0, 0)) :: (Ms44 ++ F))) undef qh29 ((List.Perm.cons _ ((List.Perm.cons _ (List.perm_append_comm_assoc _ _ _)).trans (List.perm_middle.symm))).trans (List.perm_middle.symm)) (fun I57 hle58 fz59_f => ?_)
 replace hG := hG.mono hle58
 replace qr30 := qr30.mono hle58
 replace fz53_f := fz53_f.mono hle58
 replace fz56_f := fz56_f.mono hle58
 obtain ⟨fz59_a, fz59_c, fz59_b, fz59_o, fz59_e, fz59_l, fz59_m, fz59_r⟩ := id fz59_f
 cases fz59_e
 have fr60_f := qr30.isRows fz59_f
 have fr60_len := qr30.1
 obtain ⟨fr60_a, fr60_c, fr60_b, fr60_o, fr60_vs, fr60_e, fr60_l, fr60_m, fr60_r, fr60_w⟩ := id fr60_f
 injection fr60_e with fr60_e1 fr60_e2 fr60_e3; subst fr60_e1; subst fr60_e3
 refine sfz (A := ((u6, Obj.cells #[.int .u64 (p_t41)] 65 (0, 0)) :: (b34, Obj.cells #[.slice u_018_a Y17.cars.length u_018_c, .slice u_120_a Y17.room.length u_120_c, .slice u_222_a ws_223.length u_222_c] 26 (0, 0)) :: F)) 0 qh47 ((List.Perm.cons _ (List.perm_middle.symm)).trans (List.perm_middle.symm)) (fun I61 hle62 fz63_f => ?_)
 replace hG := hG.mono hle62
 replace fz53_f := fz53_f.mono hle62
 replace fz56_f := fz56_f.mono hle62
 replace fr60_f := fr60_f.mono hle62
 replace fr60_r := fr60_r.mono hle62
 replace fr60_w := fun i hi => (fr60_w i hi).mono hle62
 obtain ⟨fz63_a, fz63_c, fz63_b, fz63_o, fz63_e, fz63_l, fz63_m, fz63_r⟩ := id fz63_f
 cases fz63_e
 have hct74 := Leave_ct I61 _ (Y17) _ _ (mkYard fz53_f fz56_f fr60_f) fz63_f (by first | exact hG | exact hG.mono hI)
 refine sS (sc (some 28) (F := ((u6, Obj.cells #[.int .u64 (p_t41)] 65 (0, 0)) :: (b34, Obj.cells #[.slice u_018_a Y17.cars.length u_018_c, .slice u_120_a Y17.room.length u_120_c, .slice u_222_a ws_223.length u_222_c] 26 (0, 0)) :: F)) (hct74 :) (.refl _) (fun rv72 I64 rm73 hle65 hp66 => ?_))
 obtain ⟨u069, Ms070, hv67, hm68, qh71⟩ := hp66
 rw [hv67, hm68]; clear hv67 hm68
 replace hG := hG.mono hle65
 replace fz53_f := fz53_f.mono hle65
 replace fz56_f := fz56_f.mono hle65
 replace fr60_f := fr60_f.mono hle65
 replace fr60_r := fr60_r.mono hle65
 replace fr60_w := fun i hi => (fr60_w i hi).mono hle65
 replace fz63_f := fz63_f.mono hle65
 obtain ⟨u069_a, u069_c, u069_e, u069_l⟩ := qh71.shape
 subst u069_e
 refine pm (M' := ((u6, Obj.cells #[.int .u64 (p_t41)] 65 (0, 0)) :: (b34, Obj.cells #[.slice u_018_a Y17.cars.length u_018_c, .slice u_120_a Y17.room.length u_120_c, .slice u_222_a ws_223.length u_222_c] 26 (0, 0)) :: (Ms070 ++ F))) (List.perm_middle.trans (List.Perm.cons _ List.perm_middle)) ?_
 show Seq _ _ _ _ _ _ ((28, .tuple #[.slice u069_a ((leaveE Y17 l42).1).length u069_c, .int .i64 (((leaveE Y17 l42).2))]) :: _) _ _
 refine sp 2 [(29, .slice u069_a ((leaveE Y17 l42).1).length u069_c), (25, .tuple #[.slice u069_a ((leaveE Y17 l42).1).length u069_c, .int .i64 (((leaveE Y17 l42).2))])] ?_
 have hlel := leaveE_len (Y := Y17) (leave := l42)
 refine sfz (A := ((u6, Obj.cells #[.int .u64 (p_t41)] 65 (0, 0)) :: (b34, Obj.cells #[.slice u_018_a Y17.cars.length u_018_c, .slice u_120_a Y17.room.length u_120_c, .slice u_222_a ws_223.length u_222_c] 26 (0, 0)) :: F)) noShift qh71 ((List.Perm.cons _ (List.perm_middle.symm)).trans (List.perm_middle.symm)) (fun I75 hle76 fz77_f => ?_)
 replace hG := hG.mono hle76
 replace fz53_f := fz53_f.mono hle76
 replace fz56_f := fz56_f.mono hle76
 replace fr60_f := fr60_f.mono hle76
 replace fr60_r := fr60_r.mono hle76
 replace fr60_w := fun i hi => (fr60_w i hi).mono hle76
 replace fz63_f := fz63_f.mono hle76
 obtain ⟨fz77_a, fz77_c, fz77_b, fz77_o, fz77_e, fz77_l, fz77_m, fz77_r⟩ := id fz77_f
 cases fz77_e
 refine sp 3 [(7, .int .i64 (((leaveE Y17 l42).2))), (6, .slice u069_a ((leaveE Y17 l42).1).length u069_c)] ?_
 refine sn ?_
 refine sp 1 [(8, .int .i64 ((-1)))] ?_
 refine se ?_
 refine rq ?_
 have hwl : (wholeL Y17.cars.length).length = Y17.cars.length := wholeL_length _
 refine rr ?_
 refine sp 1 [(31, .pointer (some ⟨b34, 0, none⟩))] ?_
 refine sd (dlb 32 1 0 b34 (.slice u_018_a Y17.cars.length u_018_c)) ?_
 refine sp 1 [(33, .int .i64 (↑(Y17.cars.length)))] ?_
 have hct88 := whole_ct I75 (Y17.cars.length) (by omega)
 refine sS (sc (some 34) (F := ((u6, Obj.cells #[.int .u64 (p_t41)] 65 (0, 0)) :: (b34, Obj.cells #[.slice u_018_a Y17.cars.length u_018_c, .slice u_120_a Y17.room.length u_120_c, .slice u_222_a ws_223.length u_222_c] 26 (0, 0)) :: F)) (hct88 :) (.refl _) (fun rv86 I78 rm87 hle79 hp80 => ?_))
 obtain ⟨u83, Ms84, hv81, hm82, qh85⟩ := hp80
 rw [hv81, hm82]; clear hv81 hm82
 replace hG := hG.mono hle79
 replace fz53_f := fz53_f.mono hle79
 replace fz56_f := fz56_f.mono hle79
 replace fr60_f := fr60_f.mono hle79
 replace fr60_r := fr60_r.mono hle79
 replace fr60_w := fun i hi => (fr60_w i hi).mono hle79
 replace fz63_f := fz63_f.mono hle79
 replace fz77_f := fz77_f.mono hle79
 obtain ⟨u83_a, u83_c, u83_e, u83_l⟩ := qh85.shape
 subst u83_e
 refine pm (M' := ((u6, Obj.cells #[.int .u64 (p_t41)] 65 (0, 0)) :: (b34, Obj.cells #[.slice u_018_a Y17.cars.length u_018_c, .slice u_120_a Y17.room.length u_120_c, .slice u_222_a ws_223.length u_222_c] 26 (0, 0)) :: (Ms84 ++ F))) (List.perm_middle.trans (List.Perm.cons _ List.perm_middle)) ?_
 show Seq _ _ _ _ _ _ ((34, .slice u83_a (wholeL Y17.cars.length).length u83_c) :: _) _ _
 refine sfz (A := ((u6, Obj.cells #[.int .u64 (p_t41)] 65 (0, 0)) :: (b34, Obj.cells #[.slice u_018_a Y17.cars.length u_018_c, .slice u_120_a Y17.room.length u_120_c, .slice u_222_a ws_223.length u_222_c] 26 (0, 0)) :: F)) 0 qh85 ((List.Perm.cons _ (List.perm_middle.symm)).trans (List.perm_middle.symm)) (fun I89 hle90 fz91_f => ?_)
 replace hG := hG.mono hle90
 replace fz53_f := fz53_f.mono hle90
 replace fz56_f := fz56_f.mono hle90
 replace fr60_f := fr60_f.mono hle90
 replace fr60_r := fr60_r.mono hle90
 replace fr60_w := fun i hi => (fr60_w i hi).mono hle90
 replace fz63_f := fz63_f.mono hle90
 replace fz77_f := fz77_f.mono hle90
 obtain ⟨fz91_a, fz91_c, fz91_b, fz91_o, fz91_e, fz91_l, fz91_m, fz91_r⟩ := id fz91_f
 cases fz91_e
 have hct104 := orders_ct I89 _ _ (Y17.cars.length) fz91_f (by exact wholeL_length _) (by omega)
 refine sS (sc (some 35) (F := ((u6, Obj.cells #[.int .u64 (p_t41)] 65 (0, 0)) :: (b34, Obj.cells #[.slice u_018_a Y17.cars.length u_018_c, .slice u_120_a Y17.room.length u_120_c, .slice u_222_a ws_223.length u_222_c] 26 (0, 0)) :: F)) (hct104 :) (.refl _) (fun rv102 I92 rm103 hle93 hp94 => ?_))
 obtain ⟨u97, ws98, Ms99, hv95, hm96, qh100, qr101⟩ := hp94
 rw [hv95, hm96]; clear hv95 hm96
 replace hG := hG.mono hle93
 replace fz53_f := fz53_f.mono hle93
 replace fz56_f := fz56_f.mono hle93
 replace fr60_f := fr60_f.mono hle93
 replace fr60_r := fr60_r.mono hle93
 replace fr60_w := fun i hi => (fr60_w i hi).mono hle93
 replace fz63_f := fz63_f.mono hle93
 replace fz77_f := fz77_f.mono hle93
 obtain ⟨u97_a, u97_c, u97_e, u97_l⟩ := qh100.shape
 subst u97_e
 have qr101_len := qr101.1
 try simp only [List.length_set, List.length_append, List.length_cons, List.length_nil, List.length_take] at qr101_len
 refine pm (M' := ((u6, Obj.cells #[.int .u64 (p_t41)] 65 (0, 0)) :: (b34, Obj.cells #[.slice u_018_a Y17.cars.length u_018_c, .slice u_120_a Y17.room.length u_120_c, .slice u_222_a ws_223.length u_222_c] 26 (0, 0)) :: (Ms99 ++ F))) (List.perm_middle.trans (List.Perm.cons _ List.perm_middle)) ?_
 show Seq _ _ _ _ _ _ ((35, .slice u97_a ws98.length u97_c) :: _) _ _
 have hoc := ordN_count (f := fun b r => b :: r) (d := 0) (z := []) Y17.cars.length (wholeL Y17.cars.length) (wholeL_length _)
 have hof := fact_le5 (n := Y17.cars.length) hf5
 have hos : (ordersN Y17.cars.length (wholeL Y17.cars.length)).length ≤ 120 := by (show (ordN _ _ _ _ _).length ≤ 120); omega
 refine sfz (A := ((u6, Obj.cells #[.int .u64 (p_t41)] 65 (0, 0)) :: (b34, Obj.cells #[.slice u_018_a Y17.cars.length u_018_c, .slice u_120_a Y17.room.length u_120_c, .slice u_222_a ws_223.length u_222_c] 26 (0, 0)) :: F)) undef qh100 ((List.Perm.cons _ (List.perm_middle.symm)).trans (List.perm_middle.symm)) (fun I105 hle106 fz107_f => ?_)
 replace hG := hG.mono hle106
 replace fz53_f := fz53_f.mono hle106
 replace fz56_f := fz56_f.mono hle106
 replace fr60_f := fr60_f.mono hle106
 replace fr60_r := fr60_r.mono hle106
 replace fr60_w := fun i hi => (fr60_w i hi).mono hle106
 replace fz63_f := fz63_f.mono hle106
 replace fz77_f := fz77_f.mono hle106
 replace qr101 := qr101.mono hle106
 obtain ⟨fz107_a, fz107_c, fz107_b, fz107_o, fz107_e, fz107_l, fz107_m, fz107_r⟩ := id fz107_f
 cases fz107_e
 have fr108_f := qr101.isRows fz107_f
 have fr108_len := qr101.1
 obtain ⟨fr108_a, fr108_c, fr108_b, fr108_o, fr108_vs, fr108_e, fr108_l, fr108_m, fr108_r, fr108_w⟩ := id fr108_f
 injection fr108_e with fr108_e1 fr108_e2 fr108_e3; subst fr108_e1; subst fr108_e3
 refine sp 1 [(9, .slice u97_a ws98.length u97_c)] ?_
 refine se ?_
 refine rq ?_
 refine rqr ?_
 refine sp 1 [(10, .int .i64 (0))] ?_
 refine se ?_
 refine rb 0 ?_
 refine rl (fun mz a w => ∃ J0 : Imm, ∃ k : Nat, ∃ lm : Int, (I105.le J0) ∧ (k ≤ (ordersN Y17.cars.length (wholeL Y17.cars.length)).length) ∧ (lm = leastL Y17 l42 ((ordersN Y17.cars.length (wholeL Y17.cars.length)).take k)) ∧ Slots 169 [(8, .int .i64 lm), (10, .int .i64 ↑k), (4, .pointer (some ⟨b34, 0, none⟩)), (5, .slice u43_a l42.length u43_c), (6, .slice u069_a ((leaveE Y17 l42).1).length u069_c), (7, .int .i64 (((leaveE Y17 l42).2))), (9, .slice u97_a ws98.length u97_c)] a ∧ a.defers = [] ∧ St J0 ((u6, Obj.cells #[.int .u64 (p_t41)] 65 (0, 0)) :: (b34, Obj.cells #[.slice u_018_a Y17.cars.length u_018_c, .slice u_120_a Y17.room.length u_120_c, .slice u_222_a ws_223.length u_222_c] 26 (0, 0)) :: F) w ∧ mz = (ordersN Y17.cars.length (wholeL Y17.cars.length)).length - k) ?_ ?_
 ·intro a w hS hD hW
  exact ⟨_, I105, 0, -1, Imm.le.refl _, Nat.zero_le _, rfl, hS.sub (.cons 8 rfl (.cons 10 rfl (.cons 4 rfl (.cons 5 rfl (.cons 6 rfl (.cons 7 rfl (.cons 9 rfl (.nil _)))))))), hD, hW, rfl⟩
 ·rintro mz a w ⟨J0, k, lm, hJ0, hk, hlm, hS, hD, hW, rfl⟩
  refine run_at hS hD hW ?_
  clear hS hD hW a w
  replace hG := hG.mono hJ0
  replace fz53_f := fz53_f.mono hJ0
  replace fz56_f := fz56_f.mono hJ0
  replace fr60_f := fr60_f.mono hJ0
  replace fr60_r := fr60_r.mono hJ0
  replace fr60_w := fun i hi => (fr60_w i hi).mono hJ0
  replace fz63_f := fz63_f.mono hJ0
  replace fz77_f := fz77_f.mono hJ0
  replace fr108_r := fr108_r.mono hJ0
  replace fr108_w := fun i hi => (fr108_w i hi).mono hJ0
  refine rq ?_
  refine rqr ?_
  refine sp 4 [(39, .bool (cmp .lss (↑k) (↑(ws98.length))))] ?_
  refine se ?_
  refine rc 39 rfl (fun h1 => ?_) (fun h1 => ?_)
  ·
   have h1_r := h1
   have h1 := lss_t h1
   refine rskip ?_
   refine pst_next ?_
   refine rq ?_
   refine rb 1 ?_
   refine rq ?_
   refine rqr ?_
   refine sp 2 [(43, .int .i64 (↑k)), (42, .slice u97_a ws98.length u97_c)] ?_
   have homem := getD_mem (d := []) (xs := (ordersN Y17.cars.length (wholeL Y17.cars.length))) (k := k) (by omega)
   have hop := (mem_ordersN _ _ (wholeL_length _) _).1 homem
   have hol := ordersN_len _ _ (wholeL_length _) _ homem
   have hfc := fewestE_cases hvl hop
   have hfl := fewestE_len hvl hop
   refine sd (di 44 1 (k) (fun _ => fr108_r.addr (by omega)) (n := ws98.length)) ?_
   have r109_f := fr108_w (k) (by omega)
   obtain ⟨r109_a, r109_c, r109_b, r109_o, r109_e, r109_l, r109_m, r109_r⟩ := id r109_f
   rw [r109_e] at r109_f
   refine sd (det_eq (dl 45 (rows_get fr108_r (k) (by omega))) r109_e) ?_
   refine sp 1 [(46, .slice u43_a l42.length u43_c)] ?_
   refine sd (dc 47 (fun I' hI => (last_ct I' _ _ _ _ (r109_f.mono hI) (fz63_f.mono hI) (by omega) :))) ?_
   refine sp 1 [(48, .bool (!(lastP l42 ((ordersN Y17.cars.length (wholeL Y17.cars.length)).getD (k) []))))] ?_
   refine se ?_
   refine rc 48 rfl (fun h2 => ?_) (fun h2 => ?_)
   ·
    have h2_r := h2
    have h2 := not_t h2
    refine rexit 1 ?_
    refine (pst_exit_pass (pst_exit_block ?_))
    refine pst_next ?_
    refine rr ?_
    refine sp 1 [(40, .int .i64 (↑k))] ?_
    refine sd (da 41 (↑k) (1)) ?_
    refine sp 1 [(10, .int .i64 (↑k + 1))] ?_
    refine ee ?_
    refine pst_back ((ordersN Y17.cars.length (wholeL Y17.cars.length)).length - (k+1)) (by omega) ?_
    intro a w hS hD hW
    exact ⟨J0, k+1, lm, hJ0, by omega, (by rw [leastL_succ (by omega), ← hlm]; exact (stepL_no h2).symm), hS.sub (.consE 8 rfl rfl (.consE 10 rfl rfl (.cons 4 rfl (.cons 5 rfl (.cons 6 rfl (.cons 7 rfl (.cons 9 rfl (.nil _)))))))), hD, hW, rfl⟩
   ·
    have h2_r := h2
    have h2 := not_f h2
    refine rskip ?_
    refine pst_next ?_
    refine rq ?_
    refine rd 10 [(0, true), (1, true), (2, true), (3, true), (4, true), (5, false), (6, true), (7, true), (8, true), (9, true)] ((u6, Obj.cells #[.int .u64 (p_t41)] 65 (0, 0)) :: (b34, Obj.cells #[.slice u_018_a Y17.cars.length u_018_c, .slice u_120_a Y17.room.length u_120_c, .slice u_222_a ws_223.length u_222_c] 26 (0, 0)) :: []) (F) ?_
    refine ofp_det (dnb 50 1 0 b34 [.slice u_018_a Y17.cars.length u_018_c, .slice u_120_a Y17.room.length u_120_c, .slice u_222_a ws_223.length u_222_c]) ?_
    refine ox 2 [(52, .int .i64 (↑k)), (51, .slice u97_a ws98.length u97_c)] ?_
    refine ofp_det (di 53 1 (k) (fun _ => fr108_r.addr (by omega)) (n := ws98.length)) ?_
    have r110_f := fr108_w (k) (by omega)
    obtain ⟨r110_a, r110_c, r110_b, r110_o, r110_e, r110_l, r110_m, r110_r⟩ := id r110_f
    rw [r110_e] at r110_f
    refine ofp_det (det_eq (dl 54 (rows_get fr108_r (k) (by omega))) r110_e) ?_
    have hct121 := Fewest_ct J0 _ (Y17) _ _ (mkYard fz53_f fz56_f fr60_f) r110_f (by first | exact hG | exact hG.mono hI)
    refine ofp_stp (sc (some 55) (F := ((u6, Obj.cells #[.int .u64 (p_t41)] 65 (0, 0)) :: (b34, Obj.cells #[.slice u_018_a Y17.cars.length u_018_c, .slice u_120_a Y17.room.length u_120_c, .slice u_222_a ws_223.length u_222_c] 26 (0, 0)) :: F)) (hct121 :) (List.Perm.refl _) (fun rv119 I111 rm120 hle112 hp113 => ?_))
    obtain ⟨u0116, Ms0117, hv114, hm115, qh118⟩ := hp113
    rw [hv114, hm115]; clear hv114 hm115
    replace hG := hG.mono hle112
    replace fz53_f := fz53_f.mono hle112
    replace fz56_f := fz56_f.mono hle112
    replace fr60_f := fr60_f.mono hle112
    replace fr60_r := fr60_r.mono hle112
    replace fr60_w := fun i hi => (fr60_w i hi).mono hle112
    replace fz63_f := fz63_f.mono hle112
    replace fz77_f := fz77_f.mono hle112
    obtain ⟨u0116_a, u0116_c, u0116_e, u0116_l⟩ := qh118.shape
    subst u0116_e
    refine ofp_settle (S' := ((Ms0117 ++ F))) (List.perm_middle.trans (List.Perm.cons _ List.perm_middle)) ?_
    show OFP _ _ _ _ _ _ ((55, .tuple #[.slice u0116_a ((fewestE Y17 ((ordersN Y17.cars.length (wholeL Y17.cars.length)).getD (k) [])).1).length u0116_c, .int .i64 (((fewestE Y17 ((ordersN Y17.cars.length (wholeL Y17.cars.length)).getD (k) [])).2))]) :: _) _ _
    refine ox 4 [(11, .slice u0116_a ((fewestE Y17 ((ordersN Y17.cars.length (wholeL Y17.cars.length)).getD (k) [])).1).length u0116_c), (57, .int .i64 (((fewestE Y17 ((ordersN Y17.cars.length (wholeL Y17.cars.length)).getD (k) [])).2)))] ?_
    refine ofp_end ?_
    refine nm ?_
    refine nm ?_
    refine sp 1 [(12, .int .i64 (((fewestE Y17 ((ordersN Y17.cars.length (wholeL Y17.cars.length)).getD (k) [])).2)))] ?_
    refine se ?_
    refine rq ?_
    refine rq ?_
    refine run_cut (fun a w => Slots 169 [(4, .pointer (some ⟨b34, 0, none⟩)), (5, .slice u43_a l42.length u43_c), (6, .slice u069_a ((leaveE Y17 l42).1).length u069_c), (7, .int .i64 (((leaveE Y17 l42).2))), (8, .int .i64 (lm)), (9, .slice u97_a ws98.length u97_c), (10, .int .i64 (↑k)), (11, .slice u0116_a ((fewestE Y17 ((ordersN Y17.cars.length (wholeL Y17.cars.length)).getD (k) [])).1).length u0116_c), (12, .int .i64 (((fewestE Y17 ((ordersN Y17.cars.length (wholeL Y17.cars.length)).getD (k) [])).2))), (63, .bool ((!(cmp .eql (((fewestE Y17 ((ordersN Y17.cars.length (wholeL Y17.cars.length)).getD (k) [])).2)) (0))) && (!(cmp .eql (((fewestE Y17 ((ordersN Y17.cars.length (wholeL Y17.cars.length)).getD (k) [])).2)) (11)))))] a ∧ a.defers = [] ∧ St I111 ((u6, Obj.cells #[.int .u64 (p_t41)] 65 (0, 0)) :: (b34, Obj.cells #[.slice u_018_a Y17.cars.length u_018_c, .slice u_120_a Y17.room.length u_120_c, .slice u_222_a ws_223.length u_222_c] 26 (0, 0)) :: (Ms0117 ++ F)) w) ?_ ?_
    ·
     refine rr ?_
     refine sp 3 [(60, .bool (!(cmp .eql (((fewestE Y17 ((ordersN Y17.cars.length (wholeL Y17.cars.length)).getD (k) [])).2)) (0))))] ?_
     refine seq_split 60 rfl (fun h3 => ?_) (fun h3 => ?_)
     ·
      have h3_b := h3
      have h3_b := not_t h3_b
      have h3_b := eql_f h3_b
      refine sp 3 [(63, .bool (!(cmp .eql (((fewestE Y17 ((ordersN Y17.cars.length (wholeL Y17.cars.length)).getD (k) [])).2)) (11))))] ?_
      refine ee ?_
      refine pst_meet (fun a w hS hD hW => ⟨hS.sub (.cons 4 rfl (.cons 5 rfl (.cons 6 rfl (.cons 7 rfl (.cons 8 rfl (.cons 9 rfl (.cons 10 rfl (.cons 11 rfl (.cons 12 rfl (.consE 63 rfl (congrArg Value.bool (by simp only [h3, Bool.true_and, Bool.false_and, Bool.and_true, Bool.and_false, Bool.true_or, Bool.false_or, Bool.or_true, Bool.or_false, cond_true, cond_false])) (.nil _))))))))))), hD, hW⟩)
     ·
      have h3_b := h3
      have h3_b := not_f h3_b
      have h3_b := eql_t h3_b
      refine sp 3 [(63, .bool (false))] ?_
      refine ee ?_
      refine pst_meet (fun a w hS hD hW => ⟨hS.sub (.cons 4 rfl (.cons 5 rfl (.cons 6 rfl (.cons 7 rfl (.cons 8 rfl (.cons 9 rfl (.cons 10 rfl (.cons 11 rfl (.cons 12 rfl (.consE 63 rfl (congrArg Value.bool (by simp only [h3, Bool.true_and, Bool.false_and, Bool.and_true, Bool.and_false, Bool.true_or, Bool.false_or, Bool.or_true, Bool.or_false, cond_true, cond_false])) (.nil _))))))))))), hD, hW⟩)
    ·rintro a w ⟨hS, hD, hW⟩
     refine run_at hS hD hW ?_
     clear hS hD hW a w
     refine rc 63 rfl (fun h4 => ?_) (fun h4 => ?_)
     ·
      have h4_r := h4
      obtain ⟨h4_1, h4_2⟩ := and_t h4
      have h4_1 := not_t h4_1
      have h4_1 := eql_f h4_1
      have h4_2 := not_t h4_2
      have h4_2 := eql_f h4_2
      exfalso; rcases hfc with ⟨_, hq⟩ | ⟨_, _, hq⟩ <;> rw [hq] at h4_1 h4_2 <;> simp at h4_1 h4_2
     ·
      have h4_r := h4
      refine rskip ?_
      refine pst_next ?_
      refine rq ?_
      refine run_cut (fun a w => Slots 169 [(4, .pointer (some ⟨b34, 0, none⟩)), (5, .slice u43_a l42.length u43_c), (6, .slice u069_a ((leaveE Y17 l42).1).length u069_c), (7, .int .i64 (((leaveE Y17 l42).2))), (8, .int .i64 (lm)), (9, .slice u97_a ws98.length u97_c), (10, .int .i64 (↑k)), (11, .slice u0116_a ((fewestE Y17 ((ordersN Y17.cars.length (wholeL Y17.cars.length)).getD (k) [])).1).length u0116_c), (75, .bool ((cmp .eql (((fewestE Y17 ((ordersN Y17.cars.length (wholeL Y17.cars.length)).getD (k) [])).2)) (0)) && ((cmp .lss (lm) (0)) || (cmp .lss (↑(((fewestE Y17 ((ordersN Y17.cars.length (wholeL Y17.cars.length)).getD (k) [])).1).length)) (lm)))))] a ∧ a.defers = [] ∧ St I111 ((u6, Obj.cells #[.int .u64 (p_t41)] 65 (0, 0)) :: (b34, Obj.cells #[.slice u_018_a Y17.cars.length u_018_c, .slice u_120_a Y17.room.length u_120_c, .slice u_222_a ws_223.length u_222_c] 26 (0, 0)) :: (Ms0117 ++ F)) w) ?_ ?_
      ·
       refine rr ?_
       refine sp 3 [(66, .bool (cmp .eql (((fewestE Y17 ((ordersN Y17.cars.length (wholeL Y17.cars.length)).getD (k) [])).2)) (0)))] ?_
       refine seq_split 66 rfl (fun h5 => ?_) (fun h5 => ?_)
       ·
        have h5_b := h5
        have h5_b := eql_t h5_b
        refine sp 3 [(69, .bool (cmp .lss (lm) (0)))] ?_
        refine seq_split 69 rfl (fun h6 => ?_) (fun h6 => ?_)
        ·
         have h6_b := h6
         have h6_b := lss_t h6_b
         refine sp 6 [(75, .bool (true))] ?_
         refine ee ?_
         refine pst_meet (fun a w hS hD hW => ⟨hS.sub (.cons 4 rfl (.cons 5 rfl (.cons 6 rfl (.cons 7 rfl (.cons 8 rfl (.cons 9 rfl (.cons 10 rfl (.cons 11 rfl (.consE 75 rfl (congrArg Value.bool (by simp only [h5, h6, Bool.true_and, Bool.false_and, Bool.and_true, Bool.and_false, Bool.true_or, Bool.false_or, Bool.or_true, Bool.or_false, cond_true, cond_false])) (.nil _)))))))))), hD, hW⟩)
        ·
         have h6_b := h6
         have h6_b := lss_f h6_b
         refine sp 6 [(75, .bool (cmp .lss (↑(((fewestE Y17 ((ordersN Y17.cars.length (wholeL Y17.cars.length)).getD (k) [])).1).length)) (lm)))] ?_
         refine ee ?_
         refine pst_meet (fun a w hS hD hW => ⟨hS.sub (.cons 4 rfl (.cons 5 rfl (.cons 6 rfl (.cons 7 rfl (.cons 8 rfl (.cons 9 rfl (.cons 10 rfl (.cons 11 rfl (.consE 75 rfl (congrArg Value.bool (by simp only [h5, h6, Bool.true_and, Bool.false_and, Bool.and_true, Bool.and_false, Bool.true_or, Bool.false_or, Bool.or_true, Bool.or_false, cond_true, cond_false])) (.nil _)))))))))), hD, hW⟩)
       ·
        have h5_b := h5
        have h5_b := eql_f h5_b
        refine sp 9 [(75, .bool (false))] ?_
        refine ee ?_
        refine pst_meet (fun a w hS hD hW => ⟨hS.sub (.cons 4 rfl (.cons 5 rfl (.cons 6 rfl (.cons 7 rfl (.cons 8 rfl (.cons 9 rfl (.cons 10 rfl (.cons 11 rfl (.consE 75 rfl (congrArg Value.bool (by simp only [h5, Bool.true_and, Bool.false_and, Bool.and_true, Bool.and_false, Bool.true_or, Bool.false_or, Bool.or_true, Bool.or_false, cond_true, cond_false])) (.nil _)))))))))), hD, hW⟩)
      ·rintro a w ⟨hS, hD, hW⟩
       refine run_at hS hD hW ?_
       clear hS hD hW a w
       refine rc 75 rfl (fun h7 => ?_) (fun h7 => ?_)
       ·
        have h7_r := h7
        obtain ⟨h7_1, h7_2⟩ := and_t h7
        have h7_1 := eql_t h7_1
        refine rr ?_
        refine sp 3 [(8, .int .i64 (↑(((fewestE Y17 ((ordersN Y17.cars.length (wholeL Y17.cars.length)).getD (k) [])).1).length)))] ?_
        refine ee ?_
        refine pst_normal_block ?_
        refine pst_next ?_
        refine rr ?_
        refine sp 1 [(40, .int .i64 (↑k))] ?_
        refine sd (da 41 (↑k) (1)) ?_
        refine sp 1 [(10, .int .i64 (↑k + 1))] ?_
        refine ee ?_
        refine pst_back ((ordersN Y17.cars.length (wholeL Y17.cars.length)).length - (k+1)) (by omega) ?_
        intro a w hS hD hW
        exact ⟨I111, k+1, ↑(((fewestE Y17 ((ordersN Y17.cars.length (wholeL Y17.cars.length)).getD (k) [])).1).length), (Imm.le.trans hJ0 hle112), by omega, (by rw [leastL_succ (by omega), ← hlm]; exact (stepL_new h2 h7_r).symm), hS.sub (.consE 8 rfl rfl (.consE 10 rfl rfl (.cons 4 rfl (.cons 5 rfl (.cons 6 rfl (.cons 7 rfl (.cons 9 rfl (.nil _)))))))), hD, (hW.perm ((List.Perm.cons _ (List.perm_middle.symm)).trans (List.perm_middle.symm))).sub (List.Sublist.trans (List.Sublist.refl _) (List.sublist_append_right _ _)), rfl⟩
       ·
        have h7_r := h7
        refine rskip ?_
        refine pst_normal_block ?_
        refine pst_next ?_
        refine rr ?_
        refine sp 1 [(40, .int .i64 (↑k))] ?_
        refine sd (da 41 (↑k) (1)) ?_
        refine sp 1 [(10, .int .i64 (↑k + 1))] ?_
        refine ee ?_
        refine pst_back ((ordersN Y17.cars.length (wholeL Y17.cars.length)).length - (k+1)) (by omega) ?_
        intro a w hS hD hW
        exact ⟨I111, k+1, lm, (Imm.le.trans hJ0 hle112), by omega, (by rw [leastL_succ (by omega), ← hlm]; exact (stepL_old h2 h7_r).symm), hS.sub (.consE 8 rfl rfl (.consE 10 rfl rfl (.cons 4 rfl (.cons 5 rfl (.cons 6 rfl (.cons 7 rfl (.cons 9 rfl (.nil _)))))))), hD, (hW.perm ((List.Perm.cons _ (List.perm_middle.symm)).trans (List.perm_middle.symm))).sub (List.Sublist.trans (List.Sublist.refl _) (List.sublist_append_right _ _)), rfl⟩
  ·
   have h1_r := h1
   have h1 := lss_f h1
   refine rexit 0 ?_
   refine (pst_exit_pass (pst_exit_pass (pst_exit_block ?_)))
   refine pst_next ?_
   refine rq ?_
   refine rq ?_
   have hkk : (ordersN Y17.cars.length (wholeL Y17.cars.length)).take k = (ordersN Y17.cars.length (wholeL Y17.cars.length)) := take_done (by omega)
   rw [hkk] at hlm
   have hLL := leave_law hvl hasc hrng hlm
   refine rr ?_
   refine sp 2 [(79, .bool (cmp .lss (lm) (0)))] ?_
   refine se ?_
   refine rc 79 rfl (fun h8 => ?_) (fun h8 => ?_)
   ·
    have h8_r := h8
    have h8 := lss_t h8
    refine rqr ?_
    have hL0 := hLL.1 (by omega)
    refine seq_re 7 rfl (show (.int .i64 (((leaveE Y17 l42).2)) : Value) = .int .i64 (11) from congrArg (Value.int .i64) (congrArg Prod.snd hL0)) ?_
    have hL1 : (leaveE Y17 l42).1.length = 0 := by rw [hL0]; rfl
    refine sp 1 [(80, .int .i64 (11))] ?_
    refine sd (dcm 81 .eql (11) (11) true (by rfl)) ?_
    refine sp 3 [(84, .int .i64 (↑(((leaveE Y17 l42).1).length))), (82, .bool (true))] ?_
    refine sd (dcm 85 .eql (↑(((leaveE Y17 l42).1).length)) (0) true (by rw [hL1]; rfl)) ?_
    refine sp 2 [(87, .bool (true))] ?_
    have hct129 := shunting_ct J0 (by first | exact hG | exact hG.mono hI)
    refine sS (sc (some 88) (F := ((u6, Obj.cells #[.int .u64 (p_t41)] 65 (0, 0)) :: (b34, Obj.cells #[.slice u_018_a Y17.cars.length u_018_c, .slice u_120_a Y17.room.length u_120_c, .slice u_222_a ws_223.length u_222_c] 26 (0, 0)) :: F)) (hct129 :) (.refl _) (fun rv127 I122 rm128 hle123 hp124 => ?_))
    obtain ⟨hv125, hm126⟩ := hp124
    rw [hv125, hm126]; clear hv125 hm126
    replace hG := hG.mono hle123
    replace fz53_f := fz53_f.mono hle123
    replace fz56_f := fz56_f.mono hle123
    replace fr60_f := fr60_f.mono hle123
    replace fr60_r := fr60_r.mono hle123
    replace fr60_w := fun i hi => (fr60_w i hi).mono hle123
    replace fz63_f := fz63_f.mono hle123
    replace fz77_f := fz77_f.mono hle123
    refine nm ?_
    show Seq _ _ _ _ _ _ ((88, .bool (true)) :: _) _ _
    refine sp 2 [(2, .bool (true))] ?_
    refine se ?_
    refine rret ?_
    refine (pst_ret_pass ?_)
    refine pst_ret1 (t := 2) [] (by kernel_rfl) rfl (List.Sublist.cons _ (List.Sublist.cons _ (List.Sublist.refl _))) (Imm.le.trans (Imm.le.trans (Imm.le.trans (Imm.le.trans (Imm.le.trans (Imm.le.trans (Imm.le.trans (Imm.le.trans (Imm.le.trans (Imm.le.trans (Imm.le.trans (Imm.le.trans (Imm.le.trans (Imm.le.trans hle2 hle12) hle37) hle52) hle55) hle58) hle62) hle65) hle76) hle79) hle90) hle93) hle106) hJ0) hle123) ?_
    exact ⟨rfl, rfl⟩
   ·
    have h8_r := h8
    have h8 := lss_f h8
    refine rskip ?_
    refine pst_next ?_
    refine rq ?_
    obtain ⟨hw1, hw2, hw3, hw4, hw5, hw6, hw7⟩ := hLL.2 (by omega)
    have hw5' : ((play Y17 (leaveE Y17 l42).1).1.tracks.getD (0) []).length = Y17.cars.length := hw5
    have hw6' : lastP l42 ((play Y17 (leaveE Y17 l42).1).1.tracks.getD (0) []) = true := hw6
    have htk : (trk Y17 0).length = (Y17.tracks.getD (0) []).length := rfl
    refine rr ?_
    refine sd (dnb 91 1 0 b34 [.slice u_018_a Y17.cars.length u_018_c, .slice u_120_a Y17.room.length u_120_c, .slice u_222_a ws_223.length u_222_c]) ?_
    refine sp 1 [(92, .slice u069_a ((leaveE Y17 l42).1).length u069_c)] ?_
    have hct139 := Play_ct J0 _ (Y17) _ _ (mkYard fz53_f fz56_f fr60_f) fz77_f (by first | exact hG | exact hG.mono hI)
    refine sS (sc (some 93) (F := ((u6, Obj.cells #[.int .u64 (p_t41)] 65 (0, 0)) :: (b34, Obj.cells #[.slice u_018_a Y17.cars.length u_018_c, .slice u_120_a Y17.room.length u_120_c, .slice u_222_a ws_223.length u_222_c] 26 (0, 0)) :: F)) (hct139 :) (.refl _) (fun rv137 I130 rm138 hle131 hp132 => ?_))
    obtain ⟨u0135, hv133, hm134, qf136⟩ := hp132
    rw [hv133, hm134]; clear hv133 hm134
    replace hG := hG.mono hle131
    replace fr60_r := fr60_r.mono hle131
    replace fr60_w := fun i hi => (fr60_w i hi).mono hle131
    replace fz63_f := fz63_f.mono hle131
    have u0135_f := qf136
    obtain ⟨u01351, u01352, u01353, u0135_e, u01351_f, u01352_f, u01353_f⟩ := id u0135_f
    subst u0135_e
    obtain ⟨u01351_a, u01351_c, u01351_b, u01351_o, u01351_e, u01351_l, u01351_m, u01351_r⟩ := id u01351_f
    subst u01351_e
    obtain ⟨u01352_a, u01352_c, u01352_b, u01352_o, u01352_e, u01352_l, u01352_m, u01352_r⟩ := id u01352_f
    subst u01352_e
    obtain ⟨u01353_a, u01353_c, u01353_b, u01353_o, u01353_vs, u01353_e, u01353_l, u01353_m, u01353_r, u01353_w⟩ := id u01353_f
    subst u01353_e
    refine nm ?_
    show Seq _ _ _ _ _ _ ((93, .tuple #[.agg #[.slice u01351_a (((play Y17 ((leaveE Y17 l42).1)).1).cars).length u01351_c, .slice u01352_a (((play Y17 ((leaveE Y17 l42).1)).1).room).length u01352_c, .slice u01353_a (((play Y17 ((leaveE Y17 l42).1)).1).tracks).length u01353_c], .int .i64 (((play Y17 ((leaveE Y17 l42).1)).2))]) :: _) _ _
    refine sp 3 [(95, .int .i64 (((play Y17 ((leaveE Y17 l42).1)).2))), (94, .agg #[.slice u01351_a (((play Y17 ((leaveE Y17 l42).1)).1).cars).length u01351_c, .slice u01352_a (((play Y17 ((leaveE Y17 l42).1)).1).room).length u01352_c, .slice u01353_a (((play Y17 ((leaveE Y17 l42).1)).1).tracks).length u01353_c])] ?_
    refine sS (sal 13 26 #[.slice none 0 0, .slice none 0 0, .slice none 0 0] (fun b140 => ?_))
    refine sS (ss 0 0 b140 [.slice u01351_a (((play Y17 ((leaveE Y17 l42).1)).1).cars).length u01351_c, .slice u01352_a (((play Y17 ((leaveE Y17 l42).1)).1).room).length u01352_c, .slice u01353_a (((play Y17 ((leaveE Y17 l42).1)).1).tracks).length u01353_c] [.slice u01351_a (((play Y17 ((leaveE Y17 l42).1)).1).cars).length u01351_c, .slice u01352_a (((play Y17 ((leaveE Y17 l42).1)).1).room).length u01352_c, .slice u01353_a (((play Y17 ((leaveE Y17 l42).1)).1).tracks).length u01353_c] (_ :: _ :: _ :: _) (cs := [_, _, _]) rfl rfl ?_)
    refine sp 1 [(14, .int .i64 (((play Y17 ((leaveE Y17 l42).1)).2)))] ?_
    refine se ?_
    refine rq ?_
    refine rq ?_
    refine rd0 38 ?_
    refine ox 1 [(96, .int .i64 (((leaveE Y17 l42).2)))] ?_
    refine ofp_det (dcm 97 .neq (((leaveE Y17 l42).2)) (0) false (by rw [hw1]; rfl)) ?_
    refine ox 2 [(99, .int .i64 (((play Y17 ((leaveE Y17 l42).1)).2))), (98, .bool (false))] ?_
    refine ofp_det (dcm 100 .neq (((play Y17 ((leaveE Y17 l42).1)).2)) (0) false (by rw [hw3]; rfl)) ?_
    refine ox 5 [(105, .int .i64 (lm)), (104, .int .i64 (↑(((leaveE Y17 l42).1).length))), (102, .bool (false))] ?_
    refine ofp_det (dcm 106 .neq (↑(((leaveE Y17 l42).1).length)) (lm) false (by rw [hw2]; simp [cmp])) ?_
    refine ox 3 [(109, .pointer (some ⟨b140, 2, none⟩)), (108, .bool (false))] ?_
    refine ofp_det (dlb 110 0 2 b140 (.slice u01353_a (((play Y17 ((leaveE Y17 l42).1)).1).tracks).length u01353_c)) ?_
    refine ox 2 [(112, .pointer (some ⟨b34, 2, none⟩)), (111, .int .i64 (↑((((play Y17 ((leaveE Y17 l42).1)).1).tracks).length)))] ?_
    refine ofp_det (dlb 113 2 2 b34 (.slice u_222_a ws_223.length u_222_c)) ?_
    refine ox 1 [(114, .int .i64 (↑(ws_223.length)))] ?_
    refine ofp_det (dcm 115 .neq (↑((((play Y17 ((leaveE Y17 l42).1)).1).tracks).length)) (↑(ws_223.length)) false (by exact decide_eq_false (fun hh => hh (by omega)))) ?_
    refine ox 3 [(118, .pointer (some ⟨b140, 2, none⟩)), (117, .bool (false))] ?_
    refine ofp_det (dlb 119 0 2 b140 (.slice u01353_a (((play Y17 ((leaveE Y17 l42).1)).1).tracks).length u01353_c)) ?_
    refine ofp_det (di 120 1 (0) u01353_r.addr) ?_
    have r142_f := u01353_w (0) (by omega)
    obtain ⟨r142_a, r142_c, r142_b, r142_o, r142_e, r142_l, r142_m, r142_r⟩ := id r142_f
    rw [r142_e] at r142_f
    refine ofp_det (det_eq (dl 121 (rows_get u01353_r (0) (by omega))) r142_e) ?_
    refine ox 2 [(123, .pointer (some ⟨b34, 0, none⟩)), (122, .int .i64 (↑(((((play Y17 ((leaveE Y17 l42).1)).1).tracks).getD (0) []).length)))] ?_
    refine ofp_det (dlb 124 2 0 b34 (.slice u_018_a Y17.cars.length u_018_c)) ?_
    refine ox 1 [(125, .int .i64 (↑(Y17.cars.length)))] ?_
    refine ofp_det (dcm 126 .neq (↑(((((play Y17 ((leaveE Y17 l42).1)).1).tracks).getD (0) []).length)) (↑(Y17.cars.length)) false (by rw [hw5']; simp [cmp])) ?_
    refine ox 3 [(129, .pointer (some ⟨b140, 2, none⟩)), (128, .bool (false))] ?_
    refine ofp_det (dlb 130 0 2 b140 (.slice u01353_a (((play Y17 ((leaveE Y17 l42).1)).1).tracks).length u01353_c)) ?_
    refine ofp_det (di 131 1 (0) u01353_r.addr) ?_
    have r143_f := u01353_w (0) (by omega)
    obtain ⟨r143_a, r143_c, r143_b, r143_o, r143_e, r143_l, r143_m, r143_r⟩ := id r143_f
    rw [r143_e] at r143_f
    refine ofp_det (det_eq (dl 132 (rows_get u01353_r (0) (by omega))) r143_e) ?_
    refine ox 1 [(133, .slice u43_a l42.length u43_c)] ?_
    refine ofp_end0 ?_
    refine sd (dc 134 (fun I' hI => (last_ct I' _ _ _ _ (r143_f.mono hI) (fz63_f.mono hI) (by omega) :))) ?_
    refine sp 2 [(136, .bool (!(lastP l42 ((((play Y17 ((leaveE Y17 l42).1)).1).tracks).getD (0) []))))] ?_
    refine se ?_
    refine rc 136 rfl (fun h9 => ?_) (fun h9 => ?_)
    ·
     have h9_r := h9
     have h9 := not_t h9
     rw [hw6'] at h9; cases h9
    ·
     have h9_r := h9
     have h9 := not_f h9
     refine rskip ?_
     refine pst_next ?_
     refine rq ?_
     refine run_cut (fun a w => Slots 169 [(6, .slice u069_a ((leaveE Y17 l42).1).length u069_c), (15, .bool ((cmp .eql (↑((Y17.tracks.getD (0) []).length)) (↑(Y17.cars.length))) && ((cmp .eql (↑(l42.length)) (0)) || (cmp .eql (↑(l42.length)) (↑(Y17.cars.length))))))] a ∧ a.defers = [] ∧ St I130 ((b140, Obj.cells #[.slice u01351_a (((play Y17 ((leaveE Y17 l42).1)).1).cars).length u01351_c, .slice u01352_a (((play Y17 ((leaveE Y17 l42).1)).1).room).length u01352_c, .slice u01353_a (((play Y17 ((leaveE Y17 l42).1)).1).tracks).length u01353_c] 26 (0, 0)) :: (u6, Obj.cells #[.int .u64 (p_t41)] 65 (0, 0)) :: (b34, Obj.cells #[.slice u_018_a Y17.cars.length u_018_c, .slice u_120_a Y17.room.length u_120_c, .slice u_222_a ws_223.length u_222_c] 26 (0, 0)) :: F) w) ?_ ?_
     ·
      refine rd0 19 ?_
      refine ox 1 [(137, .pointer (some ⟨b34, 2, none⟩))] ?_
      refine ofp_det (dlb 138 2 2 b34 (.slice u_222_a ws_223.length u_222_c)) ?_
      refine ofp_det (di 139 1 (0) (fun _ => fr60_r.addr (by omega)) (n := ws_223.length)) ?_
      have r144_f := fr60_w (0) (by omega)
      obtain ⟨r144_a, r144_c, r144_b, r144_o, r144_e, r144_l, r144_m, r144_r⟩ := id r144_f
      rw [r144_e] at r144_f
      refine ofp_det (det_eq (dl 140 (rows_get fr60_r (0) (by omega))) r144_e) ?_
      refine ox 2 [(142, .pointer (some ⟨b34, 0, none⟩)), (141, .int .i64 (↑((Y17.tracks.getD (0) []).length)))] ?_
      refine ofp_det (dlb 143 2 0 b34 (.slice u_018_a Y17.cars.length u_018_c)) ?_
      refine ox 3 [(146, .bool (cmp .eql (↑((Y17.tracks.getD (0) []).length)) (↑(Y17.cars.length))))] ?_
      refine ofp_split 146 (fun h10 => ?_) (fun h10 => ?_)
      ·
       have h10_b := h10
       have h10_b := eql_t h10_b
       refine ox 4 [(150, .bool (cmp .eql (↑(l42.length)) (0)))] ?_
       refine ofp_split 150 (fun h11 => ?_) (fun h11 => ?_)
       ·
        have h11_b := h11
        have h11_b := eql_t h11_b
        refine ox 5 [(155, undef), (152, undef)] ?_
        refine ofp_end0 ?_
        refine sp 4 [(15, .bool (true))] ?_
        refine ee ?_
        refine pst_meet (fun a w hS hD hW => ⟨hS.sub (.cons 6 rfl (.consE 15 rfl (congrArg Value.bool (by simp only [h10, h11, Bool.true_and, Bool.false_and, Bool.and_true, Bool.and_false, Bool.true_or, Bool.false_or, Bool.or_true, Bool.or_false, cond_true, cond_false])) (.nil _))), hD, hW⟩)
       ·
        have h11_b := h11
        have h11_b := eql_f h11_b
        refine ox 3 [(153, .pointer (some ⟨b34, 0, none⟩)), (152, .int .i64 (↑(l42.length)))] ?_
        refine ofp_det (dlb 154 2 0 b34 (.slice u_018_a Y17.cars.length u_018_c)) ?_
        refine ox 1 [(155, .int .i64 (↑(Y17.cars.length)))] ?_
        refine ofp_end0 ?_
        refine sp 4 [(15, .bool (cmp .eql (↑(l42.length)) (↑(Y17.cars.length))))] ?_
        refine ee ?_
        refine pst_meet (fun a w hS hD hW => ⟨hS.sub (.cons 6 rfl (.consE 15 rfl (congrArg Value.bool (by simp only [h10, h11, Bool.true_and, Bool.false_and, Bool.and_true, Bool.and_false, Bool.true_or, Bool.false_or, Bool.or_true, Bool.or_false, cond_true, cond_false])) (.nil _))), hD, hW⟩)
      ·
       have h10_b := h10
       have h10_b := eql_f h10_b
       refine ox 9 [(155, undef), (152, undef), (150, undef)] ?_
       refine ofp_end0 ?_
       refine sp 4 [(15, .bool (false))] ?_
       refine ee ?_
       refine pst_meet (fun a w hS hD hW => ⟨hS.sub (.cons 6 rfl (.consE 15 rfl (congrArg Value.bool (by simp only [h10, Bool.true_and, Bool.false_and, Bool.and_true, Bool.and_false, Bool.true_or, Bool.false_or, Bool.or_true, Bool.or_false, cond_true, cond_false])) (.nil _))), hD, hW⟩)
     ·rintro a w ⟨hS, hD, hW⟩
      refine run_at hS hD hW ?_
      clear hS hD hW a w
      refine rqr ?_
      refine sp 3 [(161, .bool (!((cmp .eql (↑((Y17.tracks.getD (0) []).length)) (↑(Y17.cars.length))) && ((cmp .eql (↑(l42.length)) (0)) || (cmp .eql (↑(l42.length)) (↑(Y17.cars.length)))))))] ?_
      refine seq_split 161 rfl (fun h12 => ?_) (fun h12 => ?_)
      ·
       have h12_b := h12
       have h12_b := not_t h12_b
       refine sp 5 [(166, .bool (true))] ?_
       have hct152 := shunting_ct I130 (by first | exact hG | exact hG.mono hI)
       refine sS (sc (some 167) (F := ((b140, Obj.cells #[.slice u01351_a (((play Y17 ((leaveE Y17 l42).1)).1).cars).length u01351_c, .slice u01352_a (((play Y17 ((leaveE Y17 l42).1)).1).room).length u01352_c, .slice u01353_a (((play Y17 ((leaveE Y17 l42).1)).1).tracks).length u01353_c] 26 (0, 0)) :: (u6, Obj.cells #[.int .u64 (p_t41)] 65 (0, 0)) :: (b34, Obj.cells #[.slice u_018_a Y17.cars.length u_018_c, .slice u_120_a Y17.room.length u_120_c, .slice u_222_a ws_223.length u_222_c] 26 (0, 0)) :: F)) (hct152 :) (.refl _) (fun rv150 I145 rm151 hle146 hp147 => ?_))
       obtain ⟨hv148, hm149⟩ := hp147
       rw [hv148, hm149]; clear hv148 hm149
       replace hG := hG.mono hle146
       refine nm ?_
       show Seq _ _ _ _ _ _ ((167, .bool (true)) :: _) _ _
       refine sp 2 [(2, .bool (true))] ?_
       refine se ?_
       refine rret ?_
       refine pst_ret1 (t := 2) [] (by kernel_rfl) rfl (List.Sublist.cons _ (List.Sublist.cons _ (List.Sublist.cons _ (List.Sublist.refl _)))) (Imm.le.trans (Imm.le.trans (Imm.le.trans (Imm.le.trans (Imm.le.trans (Imm.le.trans (Imm.le.trans (Imm.le.trans (Imm.le.trans (Imm.le.trans (Imm.le.trans (Imm.le.trans (Imm.le.trans (Imm.le.trans (Imm.le.trans hle2 hle12) hle37) hle52) hle55) hle58) hle62) hle65) hle76) hle79) hle90) hle93) hle106) hJ0) hle131) hle146) ?_
       exact ⟨rfl, rfl⟩
      ·
       have h12_b := h12
       have h12_b := not_f h12_b
       obtain ⟨h12_b_1, h12_b_2⟩ := and_t h12_b
       have h12_b_1 := eql_t h12_b_1
       refine sp 2 [(163, .int .i64 (↑(((leaveE Y17 l42).1).length)))] ?_
       refine sd (dcm 164 .eql (↑(((leaveE Y17 l42).1).length)) (0) true (by have hz := hw7 (by omega) ((or_t (by assumption)).imp (fun h => by have := eql_t h; omega) (fun h => by have := eql_t h; omega)); rw [hz]; rfl)) ?_
       refine sp 2 [(166, .bool (true))] ?_
       have hct160 := shunting_ct I130 (by first | exact hG | exact hG.mono hI)
       refine sS (sc (some 167) (F := ((b140, Obj.cells #[.slice u01351_a (((play Y17 ((leaveE Y17 l42).1)).1).cars).length u01351_c, .slice u01352_a (((play Y17 ((leaveE Y17 l42).1)).1).room).length u01352_c, .slice u01353_a (((play Y17 ((leaveE Y17 l42).1)).1).tracks).length u01353_c] 26 (0, 0)) :: (u6, Obj.cells #[.int .u64 (p_t41)] 65 (0, 0)) :: (b34, Obj.cells #[.slice u_018_a Y17.cars.length u_018_c, .slice u_120_a Y17.room.length u_120_c, .slice u_222_a ws_223.length u_222_c] 26 (0, 0)) :: F)) (hct160 :) (.refl _) (fun rv158 I153 rm159 hle154 hp155 => ?_))
       obtain ⟨hv156, hm157⟩ := hp155
       rw [hv156, hm157]; clear hv156 hm157
       refine nm ?_
       show Seq _ _ _ _ _ _ ((167, .bool (true)) :: _) _ _
       refine sp 2 [(2, .bool (true))] ?_
       refine se ?_
       refine rret ?_
       refine pst_ret1 (t := 2) [] (by kernel_rfl) rfl (List.Sublist.cons _ (List.Sublist.cons _ (List.Sublist.cons _ (List.Sublist.refl _)))) (Imm.le.trans (Imm.le.trans (Imm.le.trans (Imm.le.trans (Imm.le.trans (Imm.le.trans (Imm.le.trans (Imm.le.trans (Imm.le.trans (Imm.le.trans (Imm.le.trans (Imm.le.trans (Imm.le.trans (Imm.le.trans (Imm.le.trans hle2 hle12) hle37) hle52) hle55) hle58) hle62) hle65) hle76) hle79) hle90) hle93) hle106) hJ0) hle131) hle154) ?_
       exact ⟨rfl, rfl⟩

end Go.Proofs.YtcaocbhbofejnaaDoor
namespace Go.Sl
open Go Go.ChangeShapes Go.WideShapes

def immOf (W : World) : Imm := ⟨W.os, W.tape, W.output, fun b => W.heap[b]?⟩
theorem st_immOf (W : World) : St (immOf W) [] W := ⟨rfl, rfl, rfl, fun _ _ h => h, fun _ _ h => by simp at h, by simp, fun _ _ h => by simp at h⟩
theorem spot_of_cell {W : World} {a : Addr} {v : Value} (h : W.cell? a = some v) : a.spot = none ∧ ∃ cs T fz, W.heap[a.block]? = some (.cells cs T fz) ∧ cs[a.off]? = some v := by
  unfold World.cell? at h
  split at h
  · rename_i cs T fz hb
    split at h
    · cases h
    · rename_i hs
      refine ⟨by cases hx : a.spot with | none => rfl | some _ => rw [hx] at hs; simp at hs, cs, T, fz, hb, h⟩
  · cases h
theorem same_of_le {W W' : World} {J : Imm} {M : Seg} (le : (immOf W).le J) (st : St J M W') : (∀ b, b < W.heap.size → W'.heap[b]? = W.heap[b]?) ∧ W'.os = W.os ∧ W'.output = W.output := by
  refine ⟨fun b hb => ?_, st.os.trans le.os, st.output.trans le.output⟩
  have h : (immOf W).blk b = some W.heap[b] := by show W.heap[b]? = _; simp [hb]
  rw [st.imm b _ (le.blk b _ h)]
  exact h.symm
theorem keptBut_same {W W' : World} {may : MemPlace → Prop} (h : ∀ b, b < W.heap.size → W'.heap[b]? = W.heap[b]?) (ho : W'.os = W.os) (hu : W'.output = W.output) : W.keptBut W' may := by
  refine ⟨ho, hu, fun i hi => ?_⟩
  rw [h i hi]
  have : W.heap[i]? = some W.heap[i] := by simp [hi]
  rw [this]
  cases W.heap[i] <;> simp
theorem sameAt_heap {W W' : World} {p : MemPlace} (h : W'.heap[p.block]? = W.heap[p.block]?) : W.sameAt W' p := by
  cases p <;> simp only [MemPlace.block] at h <;> simp [World.sameAt, World.cell?, World.frozen?, h]
theorem isInts_of {W : World} {a : Addr} {len cap : Nat} {zs : List Int} (hl : len ≤ cap) (hm : cap ≤ maxLen) (hz : zs.length = len) (hr : len ≤ 140737488355328)
    (hc : ∀ i, i < zs.length → W.cell? (a.add i) = some (.int .i64 (zs.getD i 0))) : IsInts (immOf W) (.slice (some a) len cap) zs := by
  subst hz
  refine ⟨some a, cap, a.block, a.off, rfl, hl, hr, ⟨fun h0 => ?_, fun i hi f hf => ?_⟩⟩
  · have := hc 0 h0
    obtain ⟨h1, _⟩ := spot_of_cell this
    have hs : a.spot = none := by
      unfold Addr.add at h1; simpa using h1
    cases a with
    | mk b o s => simp only at hs; subst hs; rfl
  · have hcell := hc i hi
    obtain ⟨h1, cs, T, fz, hb, hv⟩ := spot_of_cell hcell
    have e : a.add i = ⟨a.block, a.off + i, none⟩ := by
      cases a with
      | mk b o s =>
        have hs : s = none := by
          have h0 := hc 0 (by omega)
          obtain ⟨g1, _⟩ := spot_of_cell h0
          unfold Addr.add at g1; simpa using g1
        subst hs
        exact addr_add b o i
    rw [e] at hb hv
    obtain rfl : f = 0 := by omega
    exact ⟨rfl, cs, T, fz, by rw [Nat.mul_one]; exact hb, by simp only [Nat.mul_one, Nat.add_zero]; exact hv⟩
end Go.Sl
namespace Go.Proofs.YtcaocbhbofejnaaDoor
open Go Go.ChangeShapes Go.WideShapes Go.RowKit Go.Sl
set_option maxRecDepth 100000

theorem Row.own : ownKnob Tryd.prog.godebug = none := by kernel_rfl
theorem Row.laidOut : laidOutB Tryd.prog = true := by kernel_rfl
theorem Row.et : Tryd.prog.globalNamed "errors.errorType" = some 0 := by kernel_rfl
theorem Row.oneRow : ((List.range 187).filter fun t => Tryd.prog.rowNamed t [101, 114, 114, 111, 114]) = [108] := by kernel_rfl
theorem Row.size : Tryd.prog.types.size = 187 := by kernel_rfl
theorem Row.cells : Tryd.prog.cellsOf 3 = 1 := by kernel_rfl
theorem Row.bytes : Tryd.prog.bytesOf 3 = 8 := by kernel_rfl

theorem handle_of_laid {W : World} (h : laidMetH Tryd.prog [("errors.errorType", Rows.laid_errors_errorType)] W) : Glob (immOf W) := by
  have h' : laidMet Tryd.prog [] W ∧ handlesMet Tryd.prog [("errors.errorType", Rows.laid_errors_errorType)] W := h
  obtain ⟨name, u, ty, e1, e2, e3, e4, e5⟩ := h'.2 _ (List.mem_singleton.2 rfl)
  have en : name = [101, 114, 114, 111, 114] := (Option.some.inj e1).symm
  subst en
  obtain rfl : u = 144 := Option.some.inj (e2.symm.trans (by kernel_rfl))
  have hm : ty ∈ (List.range 187).filter fun t => Tryd.prog.rowNamed t [101, 114, 114, 111, 114] := List.mem_filter.2 ⟨List.mem_range.2 (by rw [← Row.size]; exact e3), e4⟩
  rw [Row.oneRow] at hm
  obtain rfl := List.mem_singleton.1 hm
  have hh : typeHandle Tryd.prog 108 = .pointer (some ⟨1, 108, none⟩) := by kernel_rfl
  rw [hh] at e5
  have hc : W.cell? ⟨0, 0, none⟩ = some (.iface 144 (.agg #[.pointer (some ⟨1, 108, none⟩)])) := by simpa using World.var?_cell Row.et e5 0
  obtain ⟨_, cs, T, fz, hb, hv⟩ := spot_of_cell hc
  exact ⟨cs, T, fz, hb, hv⟩

noncomputable def laidWorld (os : Os) : World :=
  let w0 := World.holding Tryd.prog os ⟨#[], #[], []⟩
  { w0 with heap := w0.heap.modify 0 fun
      | .cells _ t frozen => .cells #[.iface 144 (.agg #[.pointer (some ⟨1, 108, none⟩)])] t frozen
      | o => o }
theorem laidWorld_met (os : Os) (args : Array Value) : laidMetH Tryd.prog [("errors.errorType", Rows.laid_errors_errorType)] ((laidWorld os).forCall (fun _ _ => 0) ⟨#[], args, []⟩).memory :=
  laidMetH_of_parts (laidMet_nil _ _) (by kernel_rfl)

theorem law_lifted (os : Os) (started : os.Started) (H : Type) (enc : TypeId × Value → H) :
    ReturnsInHanded {} Tryd.checked os 6 .any (fun w args => (Rows.shuntLeaveSpec.pre enc Tryd.prog Tryd.f6 [] false w args ∧ laidMetH Tryd.prog [("errors.errorType", Rows.laid_errors_errorType)] w) ∧ sizedMet enc Tryd.prog Tryd.f6 (OpenSpec.ofChange Rows.shuntLeaveSpec) false w args)
      (Rows.shuntLeaveSpec.post enc Tryd.prog Tryd.f6 false true false false) := by
  refine returnsInHanded_of_change_and (C := Tryd.checked) (X := fun w _ => laidMetH Tryd.prog [("errors.errorType", Rows.laid_errors_errorType)] w) (fun _ _ _ hh h => h.of_heap hh) Row.own started (by kernel_rfl) Tryd.func6
    (ChangeSpec.witness_at (enc := enc) (C := Tryd.checked) (os := os) (X := fun w _ => laidMetH Tryd.prog [("errors.errorType", Rows.laid_errors_errorType)] w) false (laidWorld os) #[.slice none 0 0] 8 rfl (by kernel_rfl) (by kernel_rfl) (by kernel_rfl) (by kernel_rfl) (by kernel_rfl) (laidWorld_met os _)) ?_
  intro W base args ds gs before hval0 hW _ hsz0 hL _
  have hsz : (DataW.weightsEach Tryd.prog (Tryd.f6.params.toList ++ Rows.shuntLeaveSpec.plain.varTypes Tryd.prog) (ds ++ gs)).all (· ≤ reachBytes) = true := hsz0
  have hval : ∀ (j : Nat) t v, Tryd.f6.params[j]? = some t → args[j]? = some v → Value.okWide Tryd.prog W .any base t v := hval0
  clear hsz0 hval0
  have hW' := hW
  obtain ⟨p, q, hA0, hV, rfl, hfz, hnd⟩ := hW
  have hA : DataW.TrodAll enc Tryd.prog W 0 (fun _ => true) true Tryd.f6.params.toList args.toList ds p := hA0
  rw [Tryd.params6] at hA hval
  obtain ⟨v0, d0, rfl, rfl, h0⟩ := trodAll_one hA
  obtain ⟨a0, len, cap, rfl⟩ := okWide_slice Tryd.underlying22 (hval 0 22 v0 rfl rfl)
  obtain ⟨rfl, rfl⟩ := trodVars_none hV
  have hg := handle_of_laid hL
  have h0k := h0
  obtain ⟨fu0, hf0⟩ := h0
  have hlt : ∀ x ∈ p, x.block < W.heap.size := fun x hx => by simpa using hW'.lt x (List.mem_append_left _ hx)
  obtain ⟨nums, hin⟩ : ∃ nums : List Int, IsInts (immOf W) (.slice a0 len cap) nums := by
    rcases open_ints Tryd.underlying22 Tryd.underlying3 Row.cells hf0 with ⟨hcs, hx⟩ | ⟨a, len', cap', zs, hcs, _, hl, hm, hz, hx, hcell, hwz⟩
    · simp [Value.cells] at hcs
      obtain ⟨rfl, rfl, rfl⟩ := hcs
      exact ⟨[], IsSl.nil _⟩
    · simp [Value.cells] at hcs
      obtain ⟨rfl, rfl, rfl⟩ := hcs
      simp only [Prod.mk.injEq] at hx
      obtain ⟨rfl, rfl⟩ := hx
      simp only [if_true] at hz
      have hreach : len * 8 ≤ 140737488351232 := by
        have := sized_slice hsz (j := 0) (t := 22) (e := 3) rfl rfl Tryd.underlying22
        rw [Row.bytes] at this
        simp only [lits, List.length_map, List.length_take, List.length_drop, reachBytes] at this
        omega
      refine ⟨zs.take len, isInts_of hl hm (by simp; omega) (by omega) fun i hi => ?_⟩
      have hi2 : i < len := by simp at hi; omega
      rw [hcell i (by omega)]
      congr 2
      simp [List.getD, List.getElem?_take, hi2]
  refine (ShuntLeave_ct (immOf W) _ nums hin hg [] W (by simpa using st_immOf W)).mono fun e W' ⟨v, I', M', he, hle, ⟨hv, hM⟩, st'⟩ => ?_
  subst he
  subst hv
  obtain ⟨hsame, hos, hout⟩ := same_of_le hle st'
  have hk : ∀ may : MemPlace → Prop, W.keptBut W' may := fun may => keptBut_same hsame hos hout
  refine ⟨_, rfl, ?_⟩
  refine ⟨_, _, _, [], p, [], hW', ?_, ?_, ?_, hk _, fun h => by cases h⟩
  · exact trodAll_mk1 (shut_bool Tryd.underlying4 true)
  · refine trodAll_mk1 (WideElems.Trod_stays Row.laidOut (by kernel_rfl) (of_decide_eq_true (by kernel_rfl)) h0k (fun x hx => ?_) (fun x hx => by simpa using hlt x hx))
    exact sameAt_heap (hsame _ (hlt x hx))
  · rfl

theorem f_holds : Rows.ShuntLeaveSaid :=
  OpenClaim.holds_of_wide 6 Tryd.f6 rfl rfl rfl rfl rfl rfl rfl ⟨rfl, rfl, rfl, rfl, rfl⟩ rfl rfl rfl rfl rfl (by kernel_rfl) Tryd.func6 (by kernel_rfl)
    (of_decide_eq_true (by kernel_rfl)) (by unfold Func.isWrapper; rw [if_neg (of_decide_eq_false (by kernel_rfl))]; exact ⟨rfl, rfl⟩)
    (fun os started H enc _ => law_lifted os started H enc)

theorem card_holds : Rows.ShuntLeaveCardSaid :=
  Claim7.holds_tied_plain_at .later [] [.handle] true (true, "57167870086b9e3ec6568a57c656ef4c9cbf620b6add0c9ed48a6a0fc89a47bf") true
    f_holds (fun _ h => by cases h) (by kernel_rfl) (fun _ h => by cases h) shuntLeave_row_tie rfl ⟨rfl, rfl⟩ (by kernel_rfl) rfl
    (fun f fn hf hfn => by
      obtain rfl : f = 6 := Option.some.inj (hf.symm.trans (by kernel_rfl))
      obtain rfl : fn = Tryd.f6 := (Option.some.inj (Tryd.func6.symm.trans hfn)).symm
      exact ⟨by kernel_rfl, fun j t ht => by
        rw [Tryd.params6] at ht
        have h3 : t = 22 := by
          rcases j with _ | j
          · simpa using ht.symm
          · simp at ht
        subst h3
        exact (show Tryd.prog.wantsStandIn 22 = false by kernel_rfl)⟩)
    (by kernel_rfl)
#print axioms card_holds
end Go.Proofs.YtcaocbhbofejnaaDoor

/- No order that keeps the groups together leaves fewer coaches cold than Warm, nor as few and comes before: all are gone through; in the order of Warm just so many are cold; and with pipes in all coaches none is. -/
import Derived.Test.YtcaocbhbofejnaaDoorP5
import Derived.Test.YtcaocbhbofejnaaDoorP4
import Derived.Test.YtcaocbhbofejnaaDoorP0
import Derived.ChangeSame
import Derived.ChangeSlices
import Derived.WideShapes
import Derived.JoinedOf
import Derived.Test.YtcaocbhbofejnaaDoorTie
import Derived.Test.YtcaocbhbofejnaaDoorCards
import Derived.ChangeVars
import Derived.RowKit
import Derived.RowKitTokens
import Derived.LaidLaws
import Derived.LaidHandle
import Derived.Stop.Joined
import Derived.SevenTiedAt
import Derived.WideKeyArgs
import Derived.ProofKit
import Derived.SizedLaws
set_option linter.unusedVariables false
set_option linter.unusedSimpArgs false
namespace Go.Sh
open Go Go.Sl
theorem perm_sum {l m : List Int} (h : l.Perm m) : l.sum = m.sum := by
  induction h with
  | nil => rfl
  | cons x _ ih => simp [ih]
  | swap x y l => simp only [List.sum_cons]; omega
  | trans _ _ h1 h2 => exact h1.trans h2
theorem erase_perm {α : Type} {d : α} {l : List α} {i : Nat} (h : i < l.length) : (l.getD i d :: l.eraseIdx i).Perm l := by
  have e : l = l.take i ++ l.getD i d :: l.drop (i + 1) := by rw [← BB h, List.take_append_drop]
  rw [← JB];exact (List.perm_middle.symm).trans (List.Perm.of_eq e.symm)
structure Blk (cs : List Car) (bl : List (List Int)) : Prop where
  one : ∀ b ∈ bl, ∀ x ∈ b, ∀ y ∈ b, grp cs x = grp cs y
  apart : bl.Pairwise fun b c => ∀ x ∈ b, ∀ y ∈ c, 0 < grp cs x → grp cs x ≠ grp cs y
theorem Blk.perm {cs : List Car} {bl bl' : List (List Int)} (h : Blk cs bl) (p : bl.Perm bl') : Blk cs bl' :=
  ⟨fun b hb => h.one b (p.mem_iff.2 hb), (p.pairwise_iff (fun {b c} hbc x hx y hy h0 e => hbc y hy x hx (by omega) e.symm)).1 h.apart⟩
def RowOk (cs : List Car) (t : List Int) : Prop := ∀ k, k < t.length → 0 < grp cs (t.getD k 0) → (∃ c ∈ t.take k, grp cs c = grp cs (t.getD k 0)) → 0 < k ∧ grp cs (t.getD (k - 1) 0) = grp cs (t.getD k 0)
theorem MG {a b : List Int} {k : Nat} : (a ++ b).getD k 0 = if k < a.length then a.getD k 0 else b.getD (k - a.length) 0 := by
  simp only [List.getD]
  split
  · rename_i h; rw [List.getElem?_append_left h]
  · rename_i h; rw [List.getElem?_append_right (by omega)]
theorem Blk.row {cs : List Car} : ∀ {bl : List (List Int)}, Blk cs bl → RowOk cs bl.flatten := by
  intro bl
  induction bl with
  | nil => intro _ k hk; simp at hk
  | cons b r ih =>
    intro h k hk h0 hc;have ih := ih ⟨fun b hb => h.one b (List.mem_cons_of_mem _ hb), (List.pairwise_cons.1 h.apart).2⟩;rw [List.flatten_cons] at hk h0 hc ⊢;obtain ⟨c, hc, e⟩ := hc
    by_cases hkb : k < b.length
    · have e0 : (b ++ r.flatten).getD k 0 = b.getD k 0 := by rw [MG, if_pos hkb]
      rw [List.take_append_of_le_length (by omega)] at hc;have hk0 : 0 < k := by
        rcases Nat.eq_zero_or_pos k with hz | hz
        · subst hz; simp at hc
        · exact hz
      refine ⟨hk0, ?_⟩;rw [e0, MG, if_pos (by omega)];exact h.one b List.mem_cons_self _ (AG (by omega)) _ (AG hkb)
    · have e0 : (b ++ r.flatten).getD k 0 = r.flatten.getD (k - b.length) 0 := by rw [MG, if_neg hkb]
      rw [e0] at h0 e ⊢;have hk2 : k - b.length < r.flatten.length := by rw [List.length_append] at hk; omega
      have hmem : r.flatten.getD (k - b.length) 0 ∈ r.flatten := AG hk2;rw [List.take_append, List.take_of_length_le (by omega)] at hc;rcases List.mem_append.1 hc with hc | hc
      · exfalso
        obtain ⟨b2, hb2, hm2⟩ := List.mem_flatten.1 hmem;exact (List.pairwise_cons.1 h.apart).1 b2 hb2 c hc _ hm2 (by omega) e
      · obtain ⟨i1, i2⟩ := ih (k - b.length) hk2 h0 ⟨c, hc, e⟩
        refine ⟨by omega, ?_⟩;rw [MG, if_neg (by omega), show k - 1 - b.length = k - b.length - 1 by omega];exact i2
theorem KR {cs : List Car} {t : List Int} {k : Nat} (hk : k < t.length) (h0 : 0 < grp cs (t.getD k 0)) (h1 : 0 < k) (e : grp cs (t.getD (k - 1) 0) = grp cs (t.getD k 0)) : BJ cs t ↑k = true := by
  rw [HM hk, show ((k : Int) - 1).toNat = k - 1 by omega, decide_eq_true (show 0 < (k : Int) by omega), decide_eq_true (show 0 < (DP cs (t.getD k 0)).grp from h0), decide_eq_true (show (DP cs (t.getD k 0)).grp = (DP cs (t.getD (k - 1) 0)).grp from e.symm)];rfl
theorem coupled_to {cs : List Car} {t : List Int} {k : Nat} (hk : k < t.length) (h : BJ cs t ↑k = true) : 0 < k ∧ 0 < grp cs (t.getD k 0) ∧ grp cs (t.getD k 0) = grp cs (t.getD (k - 1) 0) := by
  rw [HM hk, show ((k : Int) - 1).toNat = k - 1 by omega] at h;simp only [Bool.and_eq_true, decide_eq_true_eq] at h;exact ⟨by omega, h.2.1, h.2.2⟩
theorem blocks_blk {cs : List Car} {t : List Int} (h : ∀ k, k < t.length → 0 < grp cs (t.getD k 0) → (∃ c ∈ t.take k, grp cs c = grp cs (t.getD k 0)) → BJ cs t ↑k = true) :
    ∀ k, k ≤ t.length → Blk cs (AL cs t k) ∧ (0 < k → ∃ ys y, AL cs t k = ys ++ [y] ∧ t.getD (k - 1) 0 ∈ y) := by
  intro k
  induction k with
  | zero => intro _; exact ⟨⟨fun b hb => by simp [AL] at hb, by simp [AL]⟩, fun h => by omega⟩
  | succ k ih =>
    intro hk;obtain ⟨hb, hl⟩ := ih (by omega)
    by_cases hc : BJ cs t ↑k = true
    · obtain ⟨c1, c2, c3⟩ := coupled_to (by omega) hc
      obtain ⟨ys, y, e, hy⟩ := hl c1;have e2 : AL cs t (k + 1) = ys ++ [y ++ [t.getD k 0]] := by
        rw [LJ hc, e];simp [List.getD]
      rw [e2];rw [e] at hb;have ho := hb.one;have ha := List.pairwise_append.1 hb.apart;refine ⟨⟨fun b hb2 => ?_, List.pairwise_append.2 ⟨ha.1, by simp, fun b hb2 c hc2 => ?_⟩⟩, fun _ => ⟨ys, _, rfl, by simp⟩⟩
      · rcases List.mem_append.1 hb2 with hb2 | hb2
        · exact ho b (List.mem_append_left _ hb2)
        · have hb2 := List.mem_singleton.1 hb2
          subst hb2;have key : ∀ x ∈ y ++ [t.getD k 0], grp cs x = grp cs (t.getD (k - 1) 0) := fun x hx => by
            rcases List.mem_append.1 hx with hx | hx
            · exact ho y (by simp) x hx _ hy
            · have hx := List.mem_singleton.1 hx; subst hx; exact c3
          intro x hx z hz;rw [key x hx, key z hz]
      · have hc2 := List.mem_singleton.1 hc2
        subst hc2;intro x hx z hz h0;rcases List.mem_append.1 hz with hz | hz
        · exact ha.2.2 b hb2 y (by simp) x hx z hz h0
        · have hz := List.mem_singleton.1 hz; subst hz
          rw [c3];exact ha.2.2 b hb2 y (by simp) x hx _ hy h0
    · have hc' : BJ cs t ↑k = false := by simpa using hc
      rw [JN hc'];refine ⟨⟨fun b hb2 => ?_, List.pairwise_append.2 ⟨hb.apart, by simp, fun b hb2 c hc2 => ?_⟩⟩, fun _ => ⟨_, _, rfl, by simp⟩⟩
      · rcases List.mem_append.1 hb2 with hb2 | hb2
        · exact hb.one b hb2
        · have hb2 := List.mem_singleton.1 hb2
          subst hb2;intro x hx z hz;rw [List.mem_singleton.1 hx, List.mem_singleton.1 hz]
      · have hc2 := List.mem_singleton.1 hc2
        subst hc2;intro x hx z hz h0 e;have hz := List.mem_singleton.1 hz; subst hz;refine hc (h k (by omega) (by omega) ⟨x, ?_, e⟩);rw [← JV k (by omega)];exact List.mem_flatten.2 ⟨b, hb2, hx⟩
theorem rowsN_perm : ∀ (n : Nat) (bl : List (List Int)), bl.length = n → ∀ x ∈ BD n bl, ∃ bl' : List (List Int), bl'.Perm bl ∧ x = bl'.flatten := by
  intro n
  induction n with
  | zero => intro bl h x hx; simp [BD, ordN] at hx; subst hx; exact ⟨[], by rw [List.length_eq_zero_iff.1 h], rfl⟩
  | succ n ih =>
    intro bl h x hx;simp only [BD, ordN, FS, List.mem_flatMap, List.mem_map] at hx;obtain ⟨i, hi, y, hy, rfl⟩ := hx;have hi := List.mem_range'_1.1 hi;obtain ⟨bl', hp, rfl⟩ := ih _ (HI (k := i) (by omega) h) y hy;refine ⟨bl.getD i [] :: bl', ?_, rfl⟩;refine (List.Perm.cons _ hp).trans ?_;have hb : i < bl.length := by omega
    exact erase_perm hb
theorem Fine.row {Y : Yard} (f : Fine Y) {r : List Int} (hr : r ∈ BD (blocksOf Y.cars (trk Y 0)).length (blocksOf Y.cars (trk Y 0))) : Valid { Y with tracks := Y.tracks.set 0 r } ∧ r.Perm (trk Y 0) := by
  have hlen := f.len; have hr1 := f.room1;obtain ⟨t, ts, ht⟩ : ∃ t ts, Y.tracks = t :: ts := by
    cases hh : Y.tracks with
    | nil => rw [hh] at hlen; simp at hlen; omega
    | cons t ts => exact ⟨t, ts, rfl⟩
  have ht0 : trk Y 0 = t := by show Y.tracks.getD 0 [] = t; rw [ht]; rfl
  rw [ht0] at hr ⊢;have hg := groups_iff.1 f.groups;have hrow : ∀ k, k < t.length → 0 < grp Y.cars (t.getD k 0) → (∃ c ∈ t.take k, grp Y.cars c = grp Y.cars (t.getD k 0)) → BJ Y.cars t ↑k = true := fun k hk h0 hc => by
    have := hg 0 k (by rw [ht]; simp) (by rw [ht]; simpa using hk) (by rw [ht]; simpa using h0) (.inr (by rw [ht]; simpa using hc));rw [ht] at this; simpa using this
  obtain ⟨hb, _⟩ := blocks_blk hrow t.length (Nat.le_refl _);obtain ⟨bl', hp, rfl⟩ := rowsN_perm _ _ rfl r hr;have hflat : (blocksOf Y.cars t).flatten = t := by
    have := JV (cs := Y.cars) (t := t) t.length (Nat.le_refl _);rw [List.take_length] at this; exact this
  have hperm : bl'.flatten.Perm t := by
    have := hp.flatten;rw [hflat] at this; exact this
  have hrok := (Blk.perm hb hp.symm).row;refine ⟨Fine.valid ⟨f.cars, f.carOk, f.room1, f.room3, f.roomOk, by rw [List.length_set]; exact f.len, ?_, ?_, ?_, ?_, ?_⟩, hperm⟩
  all_goals simp only [ht, List.set_cons_zero]
  · intro x hx c hc
    have hok := f.ok;rw [ht] at hok;rcases List.mem_cons.1 hx with e | hx
    · subst e; exact hok t List.mem_cons_self c (hperm.mem_iff.1 hc)
    · exact hok x (List.mem_cons_of_mem _ hx) c hc
  · have hn := f.nodup
    rw [ht] at hn;rw [List.flatten_cons] at hn ⊢;exact (List.Perm.append_right _ hperm).nodup_iff.2 hn
  · intro k hk
    have hf := f.fits;rw [ht] at hf;cases k with
    | zero =>
      have := hf 0 (by simp);rw [List.getD_cons_zero] at this ⊢;have e : lenOf Y.cars bl'.flatten = lenOf Y.cars t := by
        unfold lenOf; exact perm_sum (hperm.map _)
      rw [e]; exact this
    | succ k => simpa using hf (k + 1) (by simpa using hk)
  · have ha := f.all
    rw [ht] at ha;rw [List.flatten_cons, List.length_append] at ha ⊢;rw [hperm.length_eq]; exact ha
  · refine groups_iff.2 ?_
    show GrpFrom Y.cars (bl'.flatten :: ts) [];intro i k hi hk h0 hm;rcases hm with hm | ⟨c, hc, e⟩
    · simp at hm
    · cases i with
      | zero =>
        simp only [List.getD_cons_zero, List.take_zero, List.flatten_nil, List.nil_append] at hk h0 hc e ⊢;obtain ⟨h1, h2⟩ := hrok k hk h0 ⟨c, hc, e⟩;exact KR hk h0 h1 h2
      | succ i =>
        have := hg (i + 1) k (by rw [ht]; simpa using hi) (by rw [ht]; simpa using hk) (by rw [ht]; simpa using h0) (.inr ⟨c, by
          rw [ht]
          simp only [List.take_succ_cons, List.flatten_cons, List.getD_cons_succ, List.mem_append] at hc ⊢
          rcases hc with (hc | hc) | hc
          · exact .inl (.inl (hperm.mem_iff.1 hc))
          · exact .inl (.inr hc)
          · exact .inr hc, by rw [ht]; simpa using e⟩)
        rw [ht] at this; simpa using this
def IG (bl : List (List Int)) (us : List Int) : List Nat := (List.range bl.length).filter fun i => decide (¬ (i : Int) ∈ us)
theorem flatMap_if {α β : Type} (p : α → Prop) [DecidablePred p] (f : α → List β) : ∀ l : List α, (l.flatMap fun i => if p i then [] else f i) = (l.filter fun i => decide (¬ p i)).flatMap f := by
  intro l
  induction l with
  | nil => rfl
  | cons x l ih =>
    rw [List.flatMap_cons, ih]
    by_cases h : p x
    · rw [if_pos h, List.filter_cons_of_neg (by simpa using h), List.nil_append]
    · rw [if_neg h, List.filter_cons_of_pos (by simpa using h), List.flatMap_cons]
theorem flatMap_ix {β : Type} (f : Nat → List β) : ∀ (l : List Nat), l.flatMap f = (List.range' 0 (l.length - 0)).flatMap fun k => f (l.getD k 0) := by
  intro l;have e : l = (List.range' 0 (l.length - 0)).map fun k => l.getD k 0 := by
    apply List.ext_getElem?
    intro i
    by_cases hi : i < l.length
    · simp [hi, List.getD]
    · simp [hi]
  conv => lhs; rw [e]
  rw [List.flatMap_map]
theorem filter_ix : ∀ (l : List Nat) (k : Nat), l.Nodup → k < l.length → l.filter (fun x => decide (x ≠ l.getD k 0)) = l.eraseIdx k := by
  intro l
  induction l with
  | nil => intro k _ hk; simp at hk
  | cons x l ih =>
    intro k hn hk;obtain ⟨h1, h2⟩ := List.nodup_cons.1 hn;cases k with
    | zero =>
      rw [List.getD_cons_zero, List.filter_cons_of_neg (by simp), List.eraseIdx_cons_zero, List.filter_eq_self];intro y hy;exact decide_eq_true fun e => h1 (e ▸ hy)
    | succ k =>
      have hk' : k < l.length := by simpa using hk
      have hne : x ≠ l.getD k 0 := fun e => h1 (e ▸ AG hk')
      rw [List.getD_cons_succ, List.filter_cons_of_pos (by simpa using hne), List.eraseIdx_cons_succ, ih k h2 hk']
theorem flatMap_eq {α β : Type} {f g : α → List β} : ∀ (l : List α), (∀ x ∈ l, f x = g x) → l.flatMap f = l.flatMap g := by
  intro l
  induction l with
  | nil => intro _; rfl
  | cons x l ih => intro h; rw [List.flatMap_cons, List.flatMap_cons, h x (by simp), ih fun y hy => h y (by simp [hy])]
theorem free_next {bl : List (List Int)} {us : List Int} {k : Nat} (hk : k < (IG bl us).length) : IG bl (us ++ [(((IG bl us).getD k 0 : Nat) : Int)]) = (IG bl us).eraseIdx k := by
  have hn : (IG bl us).Nodup := List.nodup_range.sublist List.filter_sublist;rw [← filter_ix _ k hn hk]
  generalize (IG bl us).getD k 0 = z
  unfold IG;rw [List.filter_filter];refine List.filter_congr fun x _ => ?_
  by_cases h : x = z <;> by_cases h2 : (x : Int) ∈ us <;> simp [h, h2]
  exact fun e => h (Int.ofNat_inj.1 e)
theorem eraseIdx_map' {α β : Type} (f : α → β) : ∀ (l : List α) (k : Nat), (l.map f).eraseIdx k = (l.eraseIdx k).map f := by
  intro l
  induction l with
  | nil => intro k; rfl
  | cons x l ih =>
    intro k;cases k with
    | zero => rfl
    | succ k => simp [ih]
theorem grow_free (bl : List (List Int)) : ∀ (n : Nat) (b us : List Int), (IG bl us).length = n → CM bl n b us = (BD n ((IG bl us).map fun i => bl.getD i [])).map (b ++ ·) := by
  intro n
  induction n with
  | zero => intro b us _; simp [CM, BD, ordN]
  | succ n ih =>
    intro b us hl;have e1 : CM bl (n + 1) b us = (IG bl us).flatMap fun i => CM bl n (b ++ bl.getD i []) (us ++ [(i : Int)]) := by
      show DI bl (CM bl n) b us 0 = _;unfold DI;rw [flatMap_if (fun i : Nat => (i : Int) ∈ us) (fun i => CM bl n (b ++ bl.getD i []) (us ++ [(i : Int)]))];unfold IG;rw [Nat.sub_zero, ← List.range_eq_range']
    rw [e1, flatMap_ix];show _ = (FS (fun b r => b ++ r) [] ((IG bl us).map fun i => bl.getD i []) (BD n) 0).map (b ++ ·);unfold FS;rw [List.map_flatMap, List.length_map];refine flatMap_eq _ fun k hk => ?_
    have hk' : k < (IG bl us).length := by
      have := List.mem_range'_1.1 hk;omega
    rw [ih _ _ (by rw [free_next hk', List.length_eraseIdx_of_lt hk']; omega), free_next hk', eraseIdx_map', List.map_map];have e2 : ((IG bl us).map fun i => bl.getD i []).getD k [] = bl.getD ((IG bl us).getD k 0) [] := by simp [List.getD, hk']
    rw [e2];refine List.map_congr_left fun x _ => ?_
    simp
theorem free_none (bl : List (List Int)) : IG bl [] = List.range bl.length := by
  unfold IG;rw [List.filter_eq_self.2];intro x _;simp
theorem grow_rows (bl : List (List Int)) : CM bl bl.length [] [] = BD bl.length bl := by
  rw [grow_free bl bl.length [] [] (by rw [free_none, List.length_range]), free_none];have e : (List.range bl.length).map (fun i => bl.getD i []) = bl := by
    apply List.ext_getElem?
    intro i
    by_cases hi : i < bl.length
    · simp [hi, List.getD]
    · simp [hi]
  rw [e];simp
theorem cmpL_self : ∀ a : List Int, LL a a = 0 := by
  intro a
  induction a with
  | nil => rfl
  | cons x a ih => simp [LL, cmpI, ih]
theorem warm_self (cs : List Car) (a : List Int) : ¬ BV cs a a < 0 := by
  unfold BV; rw [if_pos (by omega), cmpL_self]; omega
def EM (Y : Yard) : List (List Int) := BD (blocksOf Y.cars (trk Y 0)).length (blocksOf Y.cars (trk Y 0))
theorem warm_rows {Y : Yard} (h : Valid Y) (h0 : 0 < (EM Y).length) : EO Y = (HJ (BV Y.cars) ((EM Y).drop 0) ((EM Y).getD 0 []), ((CI Y.cars (HJ (BV Y.cars) ((EM Y).drop 0) ((EM Y).getD 0 []))).length : Int), 0) := by
  have e : HJ (BV Y.cars) ((EM Y).drop 0) ((EM Y).getD 0 []) = HJ (BV Y.cars) ((EM Y).drop 1) ((EM Y).getD 0 []) := KW h0 (warm_self _ _);unfold EO;rw [if_pos (show AK Y = 0 from h), e];simp only [grow_rows];rfl
theorem rows_same {Y : Yard} (h : Valid Y) {r : List Int} (hr : r ∈ EM Y) : r.length = (trk Y 0).length ∧ Ok Y.cars r := by
  obtain ⟨hv, hp⟩ := h.fine.row hr;refine ⟨hp.length_eq, fun c hc => ?_⟩;have h1 := h.fine.len; have h2 := h.fine.room1;exact (h.fine.ok _ (AG (d := []) (xs := Y.tracks) (k := 0) (by omega))) c (hp.mem_iff.1 hc)
section
variable {Y : Yard} {k : Nat}
end
def stG (cs : List Car) (g : Int) : Bool → List Int → Nat
  | _, [] => 0
  | p, c :: r => (if grp cs c = g ∧ p = false then 1 else 0) + stG cs g (decide (grp cs c = g)) r
def sumG (cs : List Car) (g : Int) : List (List Int) → Nat
  | [] => 0
  | t :: ts => stG cs g false t + sumG cs g ts
def inN (g : Int) (met : List Int) : Nat := if g ∈ met then 1 else 0
def JH (cs : List Car) (g : Int) (t : List Int) (k : Nat) : Bool := decide (0 < k) && decide (grp cs (t.getD (k - 1) 0) = g)
theorem goG_st {cs : List Car} {ts : List (List Int)} {t : List Int} (ih : ∀ met, goGs cs ts met = 0 ↔ ∀ g, 0 < g → inN g met + sumG cs g ts ≤ 1) : ∀ (m k : Nat) (met : List Int), k + m = t.length →
    (∀ g, 0 < g → JH cs g t k = true → g ∈ met) →
    (goG cs t (goGs cs ts) k (t.drop k) met = 0 ↔ ∀ g, 0 < g → inN g met + stG cs g (JH cs g t k) (t.drop k) + sumG cs g ts ≤ 1) := by
  intro m
  induction m with
  | zero =>
    intro k met hk _;rw [goG_done (by omega), ih, BT (by omega)];simp only [stG, Nat.add_zero]
  | succ m ihm =>
    intro k met hk hp;have hlt : k < t.length := by omega
    have hcons : t.drop k = t.getD k 0 :: t.drop (k + 1) := BB hlt;have hpk : ∀ g, JH cs g t (k + 1) = decide (grp cs (t.getD k 0) = g) := fun g => by simp [JH]
    by_cases hb : (decide (0 < grp cs (t.getD k 0)) && (decide (grp cs (t.getD k 0) ∈ met) && !(BJ cs t ↑k))) = true
    · rw [goG_hit hlt hb]
      simp only [Bool.and_eq_true, decide_eq_true_eq, Bool.not_eq_true'] at hb;refine ⟨(fun h => by cases h), fun h => ?_⟩
      exfalso
      have h1 := h _ hb.1;have hnp : JH cs (grp cs (t.getD k 0)) t k = false := by
        cases hq : JH cs (grp cs (t.getD k 0)) t k with
        | false => rfl
        | true =>
          simp only [JH, Bool.and_eq_true, decide_eq_true_eq] at hq;rw [KR hlt hb.1 hq.1 hq.2] at hb;cases hb.2.2
      rw [hcons, hnp] at h1;have e1 : inN (grp cs (t.getD k 0)) met = 1 := if_pos hb.2.1;have e2 : ∀ r, stG cs (grp cs (t.getD k 0)) false (t.getD k 0 :: r) = 1 + stG cs (grp cs (t.getD k 0)) (decide (grp cs (t.getD k 0) = grp cs (t.getD k 0))) r := fun r => by
        show (if _ then 1 else 0) + _ = _;rw [if_pos ⟨rfl, rfl⟩]
      rw [e1, e2] at h1;omega
    · have hb' := Bool.eq_false_iff.2 hb
      rw [goG_miss hlt hb', ihm (k + 1) _ (by omega) ?_]
      · refine forall_congr' fun g => forall_congr' fun hg => ?_
        rw [hpk, hcons];have hst : stG cs g (JH cs g t k) (t.getD k 0 :: t.drop (k + 1)) = (if grp cs (t.getD k 0) = g ∧ JH cs g t k = false then 1 else 0) + stG cs g (decide (grp cs (t.getD k 0) = g)) (t.drop (k + 1)) := rfl;rw [hst];have hin : inN g (if grp cs (t.getD k 0) ∈ met then met else met ++ [grp cs (t.getD k 0)]) = inN g met + (if grp cs (t.getD k 0) = g ∧ JH cs g t k = false then 1 else 0) := by
          by_cases e : grp cs (t.getD k 0) = g
          · cases hq : JH cs g t k with
            | true =>
              have hm := hp g hg hq;rw [e, if_pos hm, if_neg (by simp)]; rfl
            | false =>
              have hnm : g ∉ met := fun hm => by
                have hc : BJ cs t ↑k = false := by
                  cases hc : BJ cs t ↑k with
                  | false => rfl
                  | true =>
                    obtain ⟨c1, c2, c3⟩ := coupled_to hlt hc;have : JH cs g t k = true := by
                      simp only [JH, Bool.and_eq_true, decide_eq_true_eq];exact ⟨c1, c3.symm.trans e⟩
                    rw [hq] at this; cases this
                rw [e, hc] at hb;simp [hg, hm] at hb
              rw [e, if_neg hnm];simp [inN, hnm]
          · have e' : ¬ g = grp cs (t.getD k 0) := fun h => e h.symm
            by_cases hG : grp cs (t.getD k 0) ∈ met
            · rw [if_pos hG, if_neg (fun hh => e hh.1)]; rfl
            · rw [if_neg hG, if_neg (fun hh => e hh.1), Nat.add_zero]
              unfold inN;simp only [List.mem_append, List.mem_singleton, e', or_false]
        rw [hin]
        generalize stG cs g (decide (grp cs (t.getD k 0) = g)) (t.drop (k + 1)) = S
        constructor <;> intro h <;> omega
      · intro g hg hq
        rw [hpk] at hq;have e := of_decide_eq_true hq;subst e
        split
        · assumption
        · simp
theorem goGs_st {cs : List Car} : ∀ (ts : List (List Int)) (met : List Int), goGs cs ts met = 0 ↔ ∀ g, 0 < g → inN g met + sumG cs g ts ≤ 1 := by
  intro ts
  induction ts with
  | nil =>
    intro met;refine ⟨fun _ g _ => ?_, fun _ => rfl⟩;unfold inN sumG; split <;> omega
  | cons t ts ih =>
    intro met;have h := goG_st (cs := cs) (ts := ts) (t := t) ih t.length 0 met (by omega) (fun g _ h => by simp [JH] at h);rw [List.drop_zero] at h;show goG cs t (goGs cs ts) 0 t met = 0 ↔ _;rw [h];refine forall_congr' fun g => forall_congr' fun hg => ?_
    have e : JH cs g t 0 = false := by simp [JH]
    rw [e];show _ ↔ inN g met + (stG cs g false t + sumG cs g ts) ≤ 1
    constructor <;> intro h <;> omega
theorem groups_sum {Y : Yard} : DB Y = 0 ↔ ∀ g, 0 < g → sumG Y.cars g Y.tracks ≤ 1 := by
  unfold DB;rw [goGs_st];refine forall_congr' fun g => forall_congr' fun _ => ?_
  have e : inN g [] = 0 := by simp [inN]
  rw [e, Nat.zero_add]
def lastB (cs : List Car) (g : Int) : Bool → List Int → Bool
  | p, [] => p
  | _, c :: r => lastB cs g (decide (grp cs c = g)) r
theorem stG_append {cs : List Car} {g : Int} : ∀ (a b : List Int) (p : Bool), stG cs g p (a ++ b) = stG cs g p a + stG cs g (lastB cs g p a) b := by
  intro a
  induction a with
  | nil => intro b p; simp [stG, lastB]
  | cons c a ih => intro b p; simp only [List.cons_append, stG, lastB, ih]; omega
theorem lastB_at {cs : List Car} {g : Int} : ∀ (a : List Int) (p : Bool), 0 < a.length → lastB cs g p a = decide (grp cs (a.getD (a.length - 1) 0) = g) := by
  intro a
  induction a with
  | nil => intro p h; simp at h
  | cons c a ih =>
    intro p _;cases a with
    | nil => simp [lastB]
    | cons d r =>
      show lastB cs g (decide (grp cs c = g)) (d :: r) = _;rw [ih _ (by simp)];simp
theorem stG_tf {cs : List Car} {g : Int} (b : List Int) : stG cs g false b = stG cs g true b + if 0 < b.length ∧ grp cs (b.getD 0 0) = g then 1 else 0 := by
  cases b with
  | nil => simp [stG]
  | cons c r =>
    simp only [stG, List.length_cons, List.getD_cons_zero]
    by_cases h : grp cs c = g <;> simp [h] <;> omega
theorem stG_le {cs : List Car} {g : Int} (p : Bool) (b : List Int) : stG cs g p b ≤ stG cs g false b := by
  cases p with
  | false => exact Nat.le_refl _
  | true => rw [stG_tf b]; omega
theorem stG_app_le {cs : List Car} {g : Int} (a b : List Int) : stG cs g false (a ++ b) ≤ stG cs g false a + stG cs g false b := by
  rw [stG_append]; have := stG_le (cs := cs) (g := g) (lastB cs g false a) b; omega
theorem stG_cut {cs : List Car} {g : Int} {A : List Int} {n : Nat} (h : 0 < n → n < A.length → ¬ (grp cs (A.getD (n - 1) 0) = g ∧ grp cs (A.getD n 0) = g)) :
    stG cs g false A = stG cs g false (A.take n) + stG cs g false (A.drop n) := by
  have e : stG cs g false A = stG cs g false (A.take n ++ A.drop n) := by rw [List.take_append_drop]
  rw [e, stG_append]
  congr 1
  by_cases hn : 0 < n ∧ n < A.length
  · have hl : (A.take n).length = n := by rw [List.length_take]; omega
    rw [lastB_at _ _ (by omega), hl];have e1 : (A.take n).getD (n - 1) 0 = A.getD (n - 1) 0 := by simp only [List.getD, List.getElem?_take]; rw [if_pos (by omega)]
    rw [e1]
    by_cases hq : grp cs (A.getD (n - 1) 0) = g
    · have h2 : ¬ grp cs (A.getD n 0) = g := fun hh => h hn.1 hn.2 ⟨hq, hh⟩
      rw [decide_eq_true hq, stG_tf (A.drop n)];have e2 : (A.drop n).getD 0 0 = A.getD n 0 := by simp [List.getD]
      rw [e2, if_neg (fun hh => h2 hh.2)]; omega
    · rw [decide_eq_false hq]
  · by_cases h0 : n = 0
    · subst h0; simp [lastB]
    · rw [BT (by omega)]; simp [stG]
theorem sumG_set {cs : List Car} {g : Int} (X : List Int) : ∀ (ts : List (List Int)) (i : Nat), i < ts.length → sumG cs g (ts.set i X) + stG cs g false (ts.getD i []) = sumG cs g ts + stG cs g false X := by
  intro ts
  induction ts with
  | nil => intro i h; simp at h
  | cons t ts ih =>
    intro i h;cases i with
    | zero => simp only [List.set_cons_zero, sumG, List.getD_cons_zero]; omega
    | succ i => simp only [List.set_cons_succ, sumG, List.getD_cons_succ]; have := ih i (by simpa using h); omega
theorem free_cut {Y : Yard} {s : Shift} (m : MayOk Y s) (g : Int) (hg : 0 < g) : 0 < (EQ Y s).toNat → (EQ Y s).toNat < (trk Y s.frm).length → ¬ (grp Y.cars ((trk Y s.frm).getD ((EQ Y s).toNat - 1) 0) = g ∧ grp Y.cars ((trk Y s.frm).getD (EQ Y s).toNat 0) = g) := fun h1 h2 hh => by
  have hf := m.free;have e : EQ Y s = ↑(EQ Y s).toNat := by omega
  rw [e, KR h2 (by rw [hh.2]; exact hg) h1 (hh.1.trans hh.2.symm)] at hf;cases hf
theorem moved_trk {Y : Yard} {s : Shift} (m : MayOk Y s) : trk (moved Y s) s.frm = (trk Y s.frm).take (EQ Y s).toNat ∧ trk (moved Y s) s.to = trk Y s.to ++ (trk Y s.frm).drop (EQ Y s).toNat := by
  have hf := m.frm; have ht := m.to; have hne := m.ne;have hne' : s.frm.toNat ≠ s.to.toNat := by omega
  constructor
  · simp only [trk, moved, List.getD]
    rw [List.getElem?_set_self (by rw [List.length_set]; omega)]; rfl
  · simp only [trk, moved, List.getD]
    rw [List.getElem?_set_ne hne', List.getElem?_set_self (by omega)]; rfl
theorem moved_other {Y : Yard} {s : Shift} {k : Nat} (h1 : k ≠ s.frm.toNat) (h2 : k ≠ s.to.toNat) : (moved Y s).tracks.getD k [] = Y.tracks.getD k [] := by
  simp only [moved, List.getD];rw [List.getElem?_set_ne (Ne.symm h1), List.getElem?_set_ne (Ne.symm h2)]
theorem lenOf_cut (cs : List Car) (A : List Int) (n : Nat) : lenOf cs A = lenOf cs (A.take n) + lenOf cs (A.drop n) := by
  rw [← II, List.take_append_drop]
theorem moved_sum {Y : Yard} {s : Shift} (m : MayOk Y s) (g : Int) (hg : 0 < g) : sumG Y.cars g (moved Y s).tracks ≤ sumG Y.cars g Y.tracks := by
  have hf := m.frm; have ht := m.to; have hne := m.ne;have hne' : s.to.toNat ≠ s.frm.toNat := by omega
  have hc := stG_cut (cs := Y.cars) (g := g) (A := trk Y s.frm) (n := (EQ Y s).toNat) (free_cut m g hg);have ha := stG_app_le (cs := Y.cars) (g := g) (trk Y s.to) ((trk Y s.frm).drop (EQ Y s).toNat);have s1 := sumG_set (cs := Y.cars) (g := g) (trk Y s.to ++ (trk Y s.frm).drop (EQ Y s).toNat) Y.tracks s.to.toNat (by omega);have s2 := sumG_set (cs := Y.cars) (g := g) ((trk Y s.frm).take (EQ Y s).toNat) (Y.tracks.set s.to.toNat (trk Y s.to ++ (trk Y s.frm).drop (EQ Y s).toNat)) s.frm.toNat (by rw [List.length_set]; omega);have e2 : (Y.tracks.set s.to.toNat (trk Y s.to ++ (trk Y s.frm).drop (EQ Y s).toNat)).getD s.frm.toNat [] = trk Y s.frm := by
    simp only [trk, List.getD];rw [List.getElem?_set_ne hne']
  rw [e2] at s2;have e1 : Y.tracks.getD s.to.toNat [] = trk Y s.to := rfl;rw [e1] at s1;show sumG Y.cars g ((Y.tracks.set s.to.toNat _).set s.frm.toNat _) ≤ _;omega
theorem Fine.mv {Y : Yard} {s : Shift} (f : Fine Y) (h : BO Y s = 0) : Fine (moved Y s) := by
  have m := mayOk h;have k := kin_moved h;have gd := f.good.moved h;have hf := m.frm; have ht := m.to; have hne := m.ne;have sm := f.good.small;refine ⟨f.cars, f.carOk, f.room1, f.room3, f.roomOk, by rw [k.len]; exact f.len, gd.ok, k.perm.nodup_iff.2 f.nodup, fun i hi => ?_, by rw [k.perm.length_eq]; exact f.all, ?_⟩
  · rw [k.len] at hi
    have t1 := moved_trk m;have e0 : (moved Y s).cars = Y.cars := rfl;have e9 : (moved Y s).room = Y.room := rfl;rw [e0, e9]
    by_cases h1 : i = s.frm.toNat
    · subst h1
      have e : (moved Y s).tracks.getD s.frm.toNat [] = _ := t1.1;rw [e];have h2 := f.fits s.frm.toNat hi;have h3 := lenOf_cut Y.cars (trk Y s.frm) (EQ Y s).toNat;have h4 := FP sm ((trk Y s.frm).drop (EQ Y s).toNat);have e5 : Y.tracks.getD s.frm.toNat [] = trk Y s.frm := rfl;rw [e5] at h2;omega
    · by_cases h2 : i = s.to.toNat
      · subst h2
        have e : (moved Y s).tracks.getD s.to.toNat [] = _ := t1.2;rw [e, II];have := m.fits;omega
      · rw [moved_other h1 h2]; exact f.fits i hi
  · rw [groups_sum]
    intro g hg;have h1 := groups_sum.1 f.groups g hg;have h2 := moved_sum m g hg;exact Nat.le_trans h2 h1
theorem minF_snoc (f : List Int → List Int → Int) : ∀ (l : List (List Int)) (x m : List Int), HJ f (l ++ [x]) m = if f x (HJ f l m) < 0 then x else HJ f l m := by
  intro l
  induction l with
  | nil => intro x m; rfl
  | cons y l ih => intro x m; simp only [List.cons_append, HJ]; exact ih x _
def HH (f : List Int → List Int → Int) (l : List (List Int)) (k : Nat) : List Int := HJ f ((l.take k).drop 1) (l.getD 0 [])
theorem bestTo_one {f : List Int → List Int → Int} {l : List (List Int)} : HH f l 1 = l.getD 0 [] := by
  unfold HH;rw [List.drop_of_length_le (by rw [List.length_take]; omega)]; rfl
theorem bestTo_next {f : List Int → List Int → Int} {l : List (List Int)} {k : Nat} (h1 : 1 ≤ k) (hk : k < l.length) : HH f l (k + 1) = if f (l.getD k []) (HH f l k) < 0 then l.getD k [] else HH f l k := by
  unfold HH;rw [DL (d := []) hk, List.drop_append_of_le_length (by rw [List.length_take]; omega), minF_snoc]
theorem bestTo_done {f : List Int → List Int → Int} {l : List (List Int)} {k : Nat} (hk : l.length ≤ k) : HH f l k = HJ f (l.drop 1) (l.getD 0 []) := by
  unfold HH; rw [List.take_of_length_le hk]
theorem minF_own (f : List Int → List Int → Int) : ∀ (l : List (List Int)) (m : List Int), HJ f l m = m ∨ HJ f l m ∈ l := by
  intro l
  induction l with
  | nil => intro m; exact .inl rfl
  | cons x l ih =>
    intro m;simp only [HJ];rcases ih (if f x m < 0 then x else m) with h | h
    · rw [h]
      split
      · exact .inr List.mem_cons_self
      · exact .inl rfl
    · exact .inr (List.mem_cons_of_mem _ h)
theorem bestTo_mem {f : List Int → List Int → Int} {l : List (List Int)} {k : Nat} (h0 : 0 < l.length) : HH f l k ∈ l := by
  rcases minF_own f ((l.take k).drop 1) (l.getD 0 []) with h | h
  · unfold HH; rw [h]; exact AG h0
  · exact List.mem_of_mem_take (List.mem_of_mem_drop h)
theorem less_cmp : ∀ (a b : List Int), a.length = b.length → HC a b = decide (LL a b < 0) := by
  intro a
  induction a with
  | nil => intro b h; cases b with
    | nil => rfl
    | cons y b => simp at h
  | cons x a ih =>
    intro b h;cases b with
    | nil => simp at h
    | cons y b =>
      by_cases hxy : x = y
      · have e1 : HC (x :: a) (y :: b) = HC a b := by simp only [HC]; rw [if_pos hxy]
        have e2 : LL (x :: a) (y :: b) = LL a b := by simp only [LL]; rw [if_pos (by subst hxy; simp [cmpI])]
        simp only [e1, e2];exact ih b (by simpa using h)
      · have hc : cmpI x y ≠ 0 := by unfold cmpI; split <;> (try split) <;> omega
        have e1 : HC (x :: a) (y :: b) = decide (x < y) := by simp only [HC]; rw [if_neg hxy]
        have e2 : LL (x :: a) (y :: b) = cmpI x y := by simp only [LL]; rw [if_neg hc]
        simp only [e1, e2];unfold cmpI
        by_cases hl : x < y
        · simp [hl]
        · have h3 : y < x := by omega
          simp [hl, h3]
def IC (c : Car) : Car := { c with pipe := true }
def BR (cs : List Car) (k : Nat) : List Car := (cs.take k).map IC ++ cs.drop k
theorem pipedTo_zero (cs : List Car) : BR cs 0 = cs := by simp [BR]
theorem pipedTo_len (cs : List Car) (k : Nat) : (BR cs k).length = cs.length := by simp [BR]; omega
theorem pipedTo_done {cs : List Car} {k : Nat} (hk : cs.length ≤ k) : BR cs k = cs.map IC := by simp [BR, List.take_of_length_le hk, List.drop_of_length_le hk]
theorem pipedTo_step {cs : List Car} {k : Nat} (hk : k < cs.length) : (BR cs k).set k { (BR cs k).getD k AQ with pipe := true } = BR cs (k + 1) := by
  have hl : ((cs.take k).map IC).length = k := by simp; omega
  have e : (BR cs k).getD k AQ = cs.getD k AQ := by
    unfold BR;rw [List.getD, List.getElem?_append_right (by omega), hl, Nat.sub_self];simp [List.getD]
  rw [e];unfold BR;rw [List.set_append_right _ _ (by omega), hl, Nat.sub_self, BB (d := AQ) hk, List.set_cons_zero, DL (d := AQ) hk, List.map_append, List.append_assoc];rfl
theorem carAt_piped (cs : List Car) (c : Int) : (DP (cs.map IC) c).len = (DP cs c).len ∧ (DP (cs.map IC) c).grp = (DP cs c).grp := by
  unfold DP
  by_cases h : c.toNat < cs.length
  · simp [List.getD, h, IC]
  · simp [List.getD, h]
theorem lenOf_piped (cs : List Car) (t : List Int) : lenOf (cs.map IC) t = lenOf cs t := by
  unfold lenOf
  congr 1
  exact List.map_congr_left fun c _ => (carAt_piped cs c).1
theorem grp_piped (cs : List Car) (c : Int) : grp (cs.map IC) c = grp cs c := (carAt_piped cs c).2
theorem stG_piped (cs : List Car) (g : Int) : ∀ (t : List Int) (p : Bool), stG (cs.map IC) g p t = stG cs g p t := by
  intro t
  induction t with
  | nil => intro p; rfl
  | cons c t ih => intro p; simp only [stG, grp_piped, ih]
theorem sumG_piped (cs : List Car) (g : Int) : ∀ (ts : List (List Int)), sumG (cs.map IC) g ts = sumG cs g ts := by
  intro ts
  induction ts with
  | nil => rfl
  | cons t ts ih => simp only [sumG, stG_piped, ih]
theorem fine_piped {Y : Yard} (f : Fine Y) : Fine ⟨Y.cars.map IC, Y.room, Y.tracks⟩ := by
  refine ⟨by simpa using f.cars, fun c hc => ?_, f.room1, f.room3, f.roomOk, f.len, fun t ht c hc => by simpa using f.ok t ht c hc, f.nodup, fun k hk => ?_, by simpa using f.all, ?_⟩
  · obtain ⟨d, hd, rfl⟩ := List.mem_map.1 hc
    exact f.carOk d hd
  · show lenOf (Y.cars.map IC) _ ≤ _
    rw [lenOf_piped]; exact f.fits k hk
  · rw [groups_sum]
    intro g hg;show sumG (Y.cars.map IC) g Y.tracks ≤ 1;rw [sumG_piped]; exact groups_sum.1 f.groups g hg
theorem goCold_piped (cs : List Car) : ∀ (t : List Int), Ok cs t → FX (cs.map IC) true t = [] := by
  intro t
  induction t with
  | nil => intro _; rfl
  | cons c t ih =>
    intro h;have hp : (DP (cs.map IC) c).pipe = true := by
      have := h c List.mem_cons_self;unfold DP;simp [List.getD, show c.toNat < cs.length by omega, IC]
    simp only [FX, hp, Bool.not_true, Bool.and_false, Bool.and_true, Bool.false_eq_true, if_false];exact ih fun x hx => h x (List.mem_cons_of_mem _ hx)
theorem cold_piped {Y : Yard} (h : Valid Y) : EC ⟨Y.cars.map IC, Y.room, Y.tracks⟩ = ([], 0) := by
  have f := h.fine; have h1 := f.len; have h2 := f.room1;rw [ME (fine_piped f).valid];show (FX (Y.cars.map IC) true (trk Y 0), 0) = _;have e := goCold_piped Y.cars _ (f.ok _ (AG (d := []) (xs := Y.tracks) (k := 0) (by omega)));exact congrArg (fun l => (l, (0 : Int))) e
def WInv (cs : List Car) (R : List (List Int)) (k : Nat) (best : List Int) (least : Int) : Prop := (least = -1 ∧ k = 0) ∨ (1 ≤ k ∧ best = HH (BV cs) R k ∧ least = ((CI cs best).length : Int))
section
variable {cs : List Car} {R : List (List Int)} {k n : Nat} {best : List Int} {least : Int}
theorem winv_take (hl : ∀ r ∈ R, r.length = n) (hk : k < R.length) (h : WInv cs R k best least)
    (hc : least < 0 ∨ ((CI cs (R.getD k [])).length : Int) < least ∨ (((CI cs (R.getD k [])).length : Int) = least ∧ HC (R.getD k []) best = true)) : WInv cs R (k + 1) (R.getD k []) ((CI cs (R.getD k [])).length : Int) := by
  refine .inr ⟨by omega, ?_, rfl⟩;rcases h with ⟨h1, rfl⟩ | ⟨h1, hb, h3⟩
  · exact bestTo_one.symm
  · have hm : HH (BV cs) R k ∈ R := bestTo_mem (by omega)
    rw [bestTo_next h1 hk, ← hb, if_pos];rw [← hb] at hm;clear hb;have e := less_cmp (R.getD k []) best ((hl _ (AG hk)).trans (hl _ hm).symm);unfold BV;rcases hc with h4 | h4 | ⟨h4, h5⟩
    · omega
    · rw [if_neg (by omega)]; omega
    · rw [if_pos (by omega)]
      rw [e] at h5;exact of_decide_eq_true h5
theorem winv_leave (hl : ∀ r ∈ R, r.length = n) (hk : k < R.length) (h : WInv cs R k best least) (h0 : 0 ≤ least) (h1 : least ≤ ((CI cs (R.getD k [])).length : Int))
    (h2 : ((CI cs (R.getD k [])).length : Int) = least → HC (R.getD k []) best = false) : WInv cs R (k + 1) best least := by
  rcases h with ⟨h3, rfl⟩ | ⟨h3, h4, h5⟩
  · omega
  · refine .inr ⟨by omega, ?_, h5⟩
    have hm : HH (BV cs) R k ∈ R := bestTo_mem (by omega);rw [bestTo_next h3 hk, ← h4, if_neg];rw [← h4] at hm;clear h4;have e := less_cmp (R.getD k []) best ((hl _ (AG hk)).trans (hl _ hm).symm);unfold BV
    by_cases h6 : ((CI cs (R.getD k [])).length : Int) - (CI cs best).length = 0
    · rw [if_pos h6]
      have h7 := h2 (by omega);rw [e] at h7;exact of_decide_eq_false h7
    · rw [if_neg h6]; omega
end
theorem rows_one {Y : Yard} (hv : Valid Y) : ∀ r ∈ EM Y, r.length = (trk Y 0).length := fun _ hr => (rows_same hv hr).1
theorem cold_row {Y : Yard} (hv : Valid Y) {r : List Int} (hr : r ∈ EM Y) : EC ⟨Y.cars, Y.room, Y.tracks.set 0 r⟩ = (CI Y.cars r, 0) := by
  have h := (hv.fine.row hr).1;have e := ME (show Valid ⟨Y.cars, Y.room, Y.tracks.set 0 r⟩ from h);rw [e];have h1 := hv.fine.len; have h2 := hv.fine.room1;show (CI Y.cars ((Y.tracks.set 0 r).getD 0 []), (0 : Int)) = _;have e2 : (Y.tracks.set 0 r).getD 0 [] = r := by
    simp only [List.getD];rw [List.getElem?_set_self (by omega)]; rfl
  rw [e2]
theorem winv_out {Y : Yard} {k : Nat} {best : List Int} {least : Int} (hv : Valid Y) (h : WInv Y.cars (EM Y) k best least) (hk : (EM Y).length ≤ k) (h0 : 0 < (EM Y).length) : (EO Y).1 = best ∧ (EO Y).2.1 = least ∧ (EO Y).2.2 = 0 := by
  rcases h with ⟨_, h2⟩ | ⟨_, h2, h3⟩
  · omega
  · have e : HJ (BV Y.cars) ((EM Y).drop 0) ((EM Y).getD 0 []) = best := by
      rw [h2, bestTo_done hk];exact KW h0 (warm_self _ _)
    have w := warm_rows hv h0;rw [e] at w;rw [w];exact ⟨rfl, h3.symm, rfl⟩
theorem rows_pos' (Y : Yard) : 0 < (EM Y).length := by
  have e : (EM Y).length = fact (blocksOf Y.cars (trk Y 0)).length := JE (f := fun b r => b ++ r) (d := []) (z := []) _ _ rfl;have hf : ∀ n, 0 < fact n := fun n => by
    induction n with
    | zero => decide
    | succ n ih => exact Nat.mul_pos (by omega) ih
  rw [e]; exact hf _
theorem rows_le {Y : Yard} (h : (blocksOf Y.cars (trk Y 0)).length ≤ 5) : (EM Y).length ≤ 120 := by
  have e : (EM Y).length = fact (blocksOf Y.cars (trk Y 0)).length := JE (f := fun b r => b ++ r) (d := []) (z := []) _ _ rfl;rw [e]; exact fact_le5 h
theorem cold_pipes {Y : Yard} {k : Nat} (hv : Valid Y) (hk : Y.cars.length ≤ k) : EC ⟨BR Y.cars k, Y.room, Y.tracks⟩ = ([], 0) := by
  rw [pipedTo_done hk]; exact cold_piped hv
end Go.Sh
namespace Go.Proofs.YtcaocbhbofejnaaDoor
open Go Go.Sl Go.Sh
set_option maxRecDepth 100000
noncomputable def c_ShuntWarm (p : List Nat) : Code := sub (AV Tryd.f3) p
set_option maxHeartbeats 1000000 in
theorem ShuntWarm_ct (I : Imm) (x : Value) (nums : List Int) (x_f : BC I x nums) (hG : Glob I) : Ct Tryd.prog 3 #[x] I ([]) (fun v I' M' => v = .bool (true) ∧ M' = []) := by
 obtain ⟨U9, V0, x_b, x_o, Y3, x_l, x_m, e5⟩ := id x_f;subst Y3;refine fr (args := [_]) (N := 118) Tryd.func3 (fun F => ?_);show Run _ _ (c_ShuntWarm []) _ _ [(0, .slice U9 nums.length V0)] _ _;refine rnm (rqr ?_);refine sp 1 [(2, .bool (false))] (sn (sp 1 [(16, .slice U9 nums.length V0)] ?_));have s9 := NewBag_ct I _ _ x_f;refine sS (sc (some 17) (s9 :) (.refl _) (fun Z8 I1 Z7 n4 W6 => ?_));obtain ⟨u6, Y1, R8, R7⟩ := W6;rw [R8, R7]; clear R8 R7;replace x_f := x_f.mono n4;replace e5 := e5.mono n4;replace hG := hG.mono n4;refine nm ?_;have t0 := YardOf_ct I1 (u6) (Y1) (5) (2) (by omega) (by omega);refine sS (sc (some 18) (F := (F)) (t0 :) (.refl _) (fun X6 Y4 X2 i6 M4 => ?_));obtain ⟨c6, a0, U4, f2, U6, p9, U8, b5, j7, u7, t5, O0, X1, r9, v6, v7, c4⟩ := M4;rw [u7, t5]; clear u7 t5;replace x_f := x_f.mono i6;replace e5 := e5.mono i6;replace hG := hG.mono i6;obtain ⟨b0, b1, o2, B3⟩ := r9.shape;subst o2;obtain ⟨a3, a4, o4, B5⟩ := v6.shape;subst o4;obtain ⟨a5, a6, o6, B7⟩ := v7.shape;subst o6;have k8 := c4.1
 try simp only [LS, LA, LC, LN, LK] at k8
 refine AU (M' := ((bX u6 #[.int .u64 (c6)] 65) :: (f2 ++ (p9 ++ (j7 ++ F))))) (fun w h => by simpa only [AA, CA, NA] using h) (nm ?_);have r4 : Valid a0 := O0;have A9 := r4.fine; have B0 := A9.warm; have t4 := r4.good; have M3 := r4.lens;have Z0 := A9.room1; have Z1 := A9.len; have Z2 := A9.cars;have W4 : Ok a0.cars (a0.tracks.getD (0) []) := B0.ok;have Z6 : (a0.tracks.getD (0) []).length ≤ 5 := B0.tl;have W3 : (blocksOf a0.cars (a0.tracks.getD (0) [])).length ≤ 5 := B0.bl;have W2 : ∀ x ∈ blocksOf a0.cars (a0.tracks.getD (0) []), x.length ≤ 5 := B0.each;have Z5 : (BD (blocksOf a0.cars (a0.tracks.getD (0) [])).length (blocksOf a0.cars (a0.tracks.getD (0) []))).length ≤ 120 := rows_le (Y := a0) W3;have W7 : 0 < (BD (blocksOf a0.cars (a0.tracks.getD (0) [])).length (blocksOf a0.cars (a0.tracks.getD (0) []))).length := rows_pos' a0;refine sS (sal 3 26 #[.slice none 0 0, .slice none 0 0, .slice none 0 0] (fun e7 => (sS (ss 0 0 e7 [.slice b0 a0.cars.length b1, .slice a3 a0.room.length a4, .slice a5 b5.length a6] [.slice b0 a0.cars.length b1, .slice a3 a0.room.length a4, .slice a5 b5.length a6] (_ :: _ :: _) (cs := [_, _, _]) rfl rfl (se (rq ?_))))));refine GA (B := ((bX e7 #[.slice b0 a0.cars.length b1, .slice a3 a0.room.length a4, .slice a5 b5.length a6] 26) :: (bX u6 #[.int .u64 (c6)] 65) :: (f2 ++ (j7 ++ F)))) 0 v6 (by first | omega | (simp only [LS, LC, LN, LA, LK, LD] <;> omega) | decide) (PU (PU (PO _ _ _))) (PR _) (fun Y5 g6 a1 => ?_);replace x_f := x_f.mono g6;replace e5 := e5.mono g6;replace hG := hG.mono g6;replace c4 := c4.mono g6;obtain ⟨E5, E7, E6, G0, q4, E8, E9, a8⟩ := id a1;cases q4;refine GA (B := ((bX e7 #[.slice b0 a0.cars.length b1, .slice a3 a0.room.length a4, .slice a5 b5.length a6] 26) :: (bX u6 #[.int .u64 (c6)] 65) :: (f2 ++ F))) undef v7 (by first | omega | (simp only [LS, LC, LN, LA, LK, LD] <;> omega) | decide) (PU (PU (PO _ _ _))) (PR _) (fun Y6 f5 a9 => ?_);replace x_f := x_f.mono f5;replace e5 := e5.mono f5;replace hG := hG.mono f5;replace c4 := c4.mono f5;replace a1 := a1.mono f5;replace a8 := a8.mono f5;obtain ⟨G1, G3, G2, G6, q5, G4, G5, b4⟩ := id a9;cases q5;have a2 := c4.isRows a9;have s6 := c4.1;obtain ⟨C5, C7, C6, D0, y1, q0, C8, C9, b2, b3⟩ := id a2
 injection q0 with fr42_e1 fr42_e2 fr42_e3; subst fr42_e1; subst fr42_e3
 have r6 := x_f;have r7 := e5;have v2 := hG;have n5 := c4;have j0 := a1;have j1 := a8;have j2 := a9;have j3 := b4;have i7 := a2;have i8 := b2;have i9 := b3;refine rn_lend (B := ((bX e7 #[.slice b0 a0.cars.length b1, .slice a3 a0.room.length a4, .slice a5 b5.length a6] 26) :: (bX u6 #[.int .u64 (c6)] 65) :: F)) AQ r9 (by first | omega | decide) (PU (PM.symm)) (PR _) (fun V4 e3 c3 a7 => ?_);replace x_f := x_f.mono e3;replace e5 := e5.mono e3;replace hG := hG.mono e3;replace c4 := c4.mono e3;replace a1 := a1.mono e3;replace a8 := a8.mono e3;replace a9 := a9.mono e3;replace b4 := b4.mono e3;replace a2 := a2.mono e3;replace b2 := b2.mono e3;replace b3 := fun i hi => (b3 i hi).mono e3
 obtain ⟨G7, G9, G8, J3, q6, J1, J2, J4⟩ := id c3;cases q6;refine rr (sd (dnb 20 0 0 e7 [.slice b0 a0.cars.length b1, .slice a3 a0.room.length a4, .slice a5 b5.length a6]) ?_);have t1 := Warm_ct V4 _ (a0) (CP c3 a1 a2);refine sS (sc (some 21) (t1 :) (.refl _) (fun X7 V5 X3 d7 M5 => ?_));obtain ⟨Y0, u8, t6, M9⟩ := M5;rw [u8, t6]; clear u8 t6;replace x_f := x_f.mono d7;replace e5 := e5.mono d7;replace hG := hG.mono d7;replace c4 := c4.mono d7;replace a1 := a1.mono d7;replace a8 := a8.mono d7;replace a9 := a9.mono d7;replace b4 := b4.mono d7;replace a2 := a2.mono d7;replace b2 := b2.mono d7;replace b3 := fun i hi => (b3 i hi).mono d7
 replace a7 := a7.mono d7;replace c3 := c3.mono d7;have c0 := M9;obtain ⟨i1, i2, Q8, R1, s2, Q9, R0, R2⟩ := id c0;subst s2;refine nm ?_;refine sp 7 [(6, vI (((EO a0).2.2))), (5, vI (((EO a0).2.1))), (4, .slice i1 ((EO a0).1).length i2)] (sn (sd (dnb 25 0 0 e7 [.slice b0 a0.cars.length b1, .slice a3 a0.room.length a4, .slice a5 b5.length a6]) ?_));have t2 := Blocks_ct V5 _ (a0) (CP c3 a1 a2) (by exact W4) (by omega) (by omega);refine sS (sc (some 26) (t2 :) (.refl _) (fun X8 Y7 X4 d5 M6 => ?_));obtain ⟨Z9, Y2, C2, u9, t7, v8, k9⟩ := M6;rw [u9, t7]; clear u9 t7;replace x_f := x_f.mono d5;replace e5 := e5.mono d5;replace hG := hG.mono d5;replace c4 := c4.mono d5;replace a1 := a1.mono d5;replace a8 := a8.mono d5;replace a9 := a9.mono d5;replace b4 := b4.mono d5;replace a2 := a2.mono d5;replace b2 := b2.mono d5;replace b3 := fun i hi => (b3 i hi).mono d5
 replace a7 := a7.mono d5;replace c3 := c3.mono d5;replace c0 := c0.mono d5;obtain ⟨U0, U1, x0, U2⟩ := v8.shape;subst x0;have l0 := k9.1
 try simp only [LS, LA, LC, LN, LK] at l0
 refine pm (M' := ((bX e7 #[.slice b0 a0.cars.length b1, .slice a3 a0.room.length a4, .slice a5 b5.length a6] 26) :: (bX u6 #[.int .u64 (c6)] 65) :: (C2 ++ F))) (PW PM) (sfz (A := ((bX e7 #[.slice b0 a0.cars.length b1, .slice a3 a0.room.length a4, .slice a5 b5.length a6] 26) :: (bX u6 #[.int .u64 (c6)] 65) :: F)) undef v8 (PU (PM.symm)) (fun V6 d3 j9 => ?_));replace x_f := x_f.mono d3;replace e5 := e5.mono d3;replace hG := hG.mono d3;replace c4 := c4.mono d3;replace a1 := a1.mono d3;replace a8 := a8.mono d3;replace a9 := a9.mono d3;replace b4 := b4.mono d3;replace a2 := a2.mono d3;replace b2 := b2.mono d3;replace b3 := fun i hi => (b3 i hi).mono d3
 replace a7 := a7.mono d3;replace c3 := c3.mono d3;replace c0 := c0.mono d3;replace k9 := k9.mono d3;obtain ⟨J5, J7, J6, K0, q7, J8, J9, K1⟩ := id j9;cases q7;have j8 := k9.isRows j9;have s7 := k9.1;obtain ⟨D1, D3, D2, D6, y2, q1, D4, D5, D7, D8⟩ := id j8
 injection q1 with fr73_e1 fr73_e2 fr73_e3; subst fr73_e1; subst fr73_e3
 have t3 := rows_ct V6 _ _ ((blocksOf a0.cars (a0.tracks.getD (0) [])).length) j8 (by rfl) (by omega) (by exact W2);refine sS (sc (some 27) (t3 :) (.refl _) (fun X9 Y8 X5 d6 M7 => ?_));obtain ⟨u79, f0, C3, v0, t8, v9, l1⟩ := M7;rw [v0, t8]; clear v0 t8;replace x_f := x_f.mono d6;replace e5 := e5.mono d6;replace hG := hG.mono d6;replace c4 := c4.mono d6;replace a1 := a1.mono d6;replace a8 := a8.mono d6;replace a9 := a9.mono d6;replace b4 := b4.mono d6;replace a2 := a2.mono d6;replace b2 := b2.mono d6;replace b3 := fun i hi => (b3 i hi).mono d6
 replace a7 := a7.mono d6;replace c3 := c3.mono d6;replace c0 := c0.mono d6;obtain ⟨f8, f9, x1, U3⟩ := v9.shape;subst x1;have l2 := l1.1
 try simp only [LS, LA, LC, LN, LK] at l2
 refine pm (M' := ((bX e7 #[.slice b0 a0.cars.length b1, .slice a3 a0.room.length a4, .slice a5 b5.length a6] 26) :: (bX u6 #[.int .u64 (c6)] 65) :: (C3 ++ F))) (PW PM) (sp 1 [(7, .slice f8 f0.length f9)] (sn (sfz (A := ((bX e7 #[.slice b0 a0.cars.length b1, .slice a3 a0.room.length a4, .slice a5 b5.length a6] 26) :: (bX u6 #[.int .u64 (c6)] 65) :: F)) undef v9 (PU (PM.symm)) (fun R4 d4 k0 => ?_))));replace x_f := x_f.mono d4;replace e5 := e5.mono d4;replace hG := hG.mono d4;replace c4 := c4.mono d4;replace a1 := a1.mono d4;replace a8 := a8.mono d4;replace a9 := a9.mono d4;replace b4 := b4.mono d4;replace a2 := a2.mono d4;replace b2 := b2.mono d4;replace b3 := fun i hi => (b3 i hi).mono d4
 replace a7 := a7.mono d4;replace c3 := c3.mono d4;replace c0 := c0.mono d4;replace l1 := l1.mono d4;obtain ⟨K2, K4, K3, K7, q8, K5, K6, K8⟩ := id k0;cases q8;have q3 := l1.isRows k0;have s8 := l1.1;obtain ⟨D9, E1, E0, E4, y3, q2, E2, E3, b8, c2⟩ := id q3
 injection q2 with fr90_e1 fr90_e2 fr90_e3; subst fr90_e1; subst fr90_e3
 refine sp 1 [(8, .slice none 0 0)] (sn (sp 1 [(9, vI ((-1)))] (se (rq (rqr (sp 1 [(10, vI (0))] (se (rb 0 ?_))))))));refine rl (fun mz a w => ∃ J0 : Imm, ∃ k : Nat, ∃ f4 : List Int, ∃ e6 : Int, ∃ bv : Value, (R4.le J0) ∧ (k ≤ (BD (blocksOf a0.cars (a0.tracks.getD (0) [])).length (blocksOf a0.cars (a0.tracks.getD (0) []))).length) ∧ (WInv a0.cars (BD (blocksOf a0.cars (a0.tracks.getD (0) [])).length (blocksOf a0.cars (a0.tracks.getD (0) []))) k f4 e6) ∧ (BC J0 bv f4) ∧ Slots 118 [(8, bv), (9, vI (e6)), (10, vI ↑k), (3, vP e7 0), (4, .slice i1 ((EO a0).1).length i2), (5, vI (((EO a0).2.1))), (6, vI (((EO a0).2.2))), (7, .slice f8 f0.length f9)] a ∧ a.defers = [] ∧ St J0 ((bX e7 #[.slice b0 a0.cars.length b1, .slice a3 a0.room.length a4, .slice a5 b5.length a6] 26) :: (bX u6 #[.int .u64 (c6)] 65) :: F) w ∧ mz = (BD (blocksOf a0.cars (a0.tracks.getD (0) [])).length (blocksOf a0.cars (a0.tracks.getD (0) []))).length - k) ?_ ?_
 ·intro a w hS hD hW;exact ⟨_, R4, 0, [], (-1), (.slice none 0 0), IR _, Nat.zero_le _, (.inl ⟨rfl, rfl⟩), (IsSl.nil _), hS.sub (.cons 8 rfl (.cons 9 rfl (.cons 10 rfl (.cons 3 rfl (.cons 4 rfl (.cons 5 rfl (.cons 6 rfl (.cons 7 rfl (.nil _))))))))), hD, hW, rfl⟩
 rintro mz a w ⟨J0, k, f4, e6, bv, hJ0, hk, s4, e8, hS, hD, hW, rfl⟩
 refine BF hS hD hW ?_;clear hS hD hW a w;replace x_f := x_f.mono hJ0;replace e5 := e5.mono hJ0;replace hG := hG.mono hJ0;replace c4 := c4.mono hJ0;replace a1 := a1.mono hJ0;replace a8 := a8.mono hJ0;replace a9 := a9.mono hJ0;replace b4 := b4.mono hJ0;replace a2 := a2.mono hJ0;replace b2 := b2.mono hJ0;replace b3 := fun i hi => (b3 i hi).mono hJ0
 replace a7 := a7.mono hJ0;replace c3 := c3.mono hJ0;replace c0 := c0.mono hJ0;replace b8 := b8.mono hJ0;replace c2 := fun i hi => (c2 i hi).mono hJ0
 obtain ⟨m5, m6, V7, W0, C4, V8, V9, W1⟩ := id e8;subst C4;refine rq (rqr (sp 4 [(31, .bool (cmp .lss (↑k) (↑(f0.length))))] (se (rc 31 rfl (fun h1 => ?_) (fun h1 => ?_)))))
 ·
  have K9 := h1;have h1 := CC h1;refine AN (NX (rq (rb 1 (rqr (sd (dnb 34 0 0 e7 [.slice b0 a0.cars.length b1, .slice a3 a0.room.length a4, .slice a5 b5.length a6]) ?_)))));have q9 := CopyYard_ct J0 _ (a0) (CP c3 a1 a2) (by exact M3.1) (by exact M3.2.1) (by exact M3.2.2) (by exact t4.le);refine sS (sc (some 35) (q9 :) (.refl _) (fun T4 Y9 T0 c5 M8 => ?_));obtain ⟨U5, g7, U7, g1, R3, d1, i3, v1, t9, p4, p5, k7, p6⟩ := M8;rw [v1, t9]; clear v1 t9;replace x_f := x_f.mono c5;replace e5 := e5.mono c5;replace hG := hG.mono c5;replace c4 := c4.mono c5;replace a1 := a1.mono c5;replace a8 := a8.mono c5;replace a9 := a9.mono c5;replace b4 := b4.mono c5;replace a2 := a2.mono c5;replace b2 := b2.mono c5;replace b3 := fun i hi => (b3 i hi).mono c5
  replace a7 := a7.mono c5;replace c0 := c0.mono c5;replace b8 := b8.mono c5;replace c2 := fun i hi => (c2 i hi).mono c5
  replace e8 := e8.mono c5;obtain ⟨d8, d9, o3, B4⟩ := p4.shape;subst o3;obtain ⟨e0, e1, o5, B6⟩ := p5.shape;subst o5;obtain ⟨c9, d0, m4, x2⟩ := k7.shape;subst m4;have j4 := p6.1
  try simp only [LS, LA, LC, LN, LK] at j4
  refine AU (M' := ((g7 ++ (g1 ++ (i3 ++ (bX e7 #[.slice b0 a0.cars.length b1, .slice a3 a0.room.length a4, .slice a5 b5.length a6] 26) :: (bX u6 #[.int .u64 (c6)] 65) :: F))))) (fun w h => by simpa only [AA, CA, NA] using h) (pm (M' := ((bX e7 #[.slice b0 a0.cars.length b1, .slice a3 a0.room.length a4, .slice a5 b5.length a6] 26) :: (bX u6 #[.int .u64 (c6)] 65) :: (g7 ++ (g1 ++ (i3 ++ F))))) (((PA _ ((PA _ PM).trans PM)).trans PM).trans (PC _ ((PA _ ((PA _ PM).trans PM)).trans PM))) (sS (sal 11 26 #[.slice none 0 0, .slice none 0 0, .slice none 0 0] (fun g2 => (sS (ss 0 0 g2 [.slice d8 a0.cars.length d9, .slice e0 a0.room.length e1, .slice c9 d1.length d0] [.slice d8 a0.cars.length d9, .slice e0 a0.room.length e1, .slice c9 d1.length d0] (_ :: _ :: _ :: _) (cs := [_, _, _]) rfl rfl (se (rq ?_))))))));refine rd0 6 (ox 1 [(36, vP g2 2)] ?_);refine AB (dlb 37 0 2 g2 (.slice c9 d1.length d0)) (ox 2 [(39, vI (↑k)), (38, .slice f8 f0.length f9)] ?_);refine AB (di 40 1 (k) (fun _ => b8.addr (by omega)) (n := f0.length)) ?_;have h0 := c2 (k) (by omega);obtain ⟨s0, s1, O1, O4, l3, O2, O3, O5⟩ := id h0;rw [l3] at h0;refine AB (BE (dl 41 (BS b8 (k) (by omega))) l3) ?_;refine BG ?_;obtain ⟨R9, k5⟩ := k7.row undef;refine sd (di 42 1 (0) k5.addr) (sS (CO (T := 22) (x := (.tmp 42)) (y := (.tmp 41)) (rc := fun i f => AJ ((d1).getD i undef) f) undef (0) 0 ((.slice s0 ((BD ((blocksOf a0.cars (a0.tracks.getD (0) [])).length) (blocksOf a0.cars (a0.tracks.getD (0) []))).getD (k) []).length s1 : Value)) (ty := 0) (gd := none) (by kernel_rfl) rfl k7 k5 (by omega) (by decide) rfl rfl (by kernel_rfl) rfl rfl (by intro f hf; match f, hf with | 0, _ => rfl) (PU (PU (PU (PV (PO _ _ _))))) (fun j6 u0 => (pm (M' := ((bX g2 #[.slice d8 a0.cars.length d9, .slice e0 a0.room.length e1, .slice c9 d1.length d0] 26) :: (bX e7 #[.slice b0 a0.cars.length b1, .slice a3 a0.room.length a4, .slice a5 b5.length a6] 26) :: (bX u6 #[.int .u64 (c6)] 65) :: (j6 ++ (g7 ++ (g1 ++ F))))) (PW (PW PM)) ?_))));have e2 := p6.set h0 (0);have g8 := e2.1
  try simp only [LS, LA, LC, LN, LK] at g8
  refine se (rq ?_);have u5 : ∀ r ∈ (BD (blocksOf a0.cars (a0.tracks.getD (0) [])).length (blocksOf a0.cars (a0.tracks.getD (0) []))), r.length = (trk a0 0).length := rows_one r4;have R6 := cold_row r4 (r := ((BD (blocksOf a0.cars (a0.tracks.getD (0) [])).length (blocksOf a0.cars (a0.tracks.getD (0) []))).getD (k) [])) (show ((BD (blocksOf a0.cars (a0.tracks.getD (0) [])).length (blocksOf a0.cars (a0.tracks.getD (0) []))).getD (k) []) ∈ EM a0 from AG (show k < (BD (blocksOf a0.cars (a0.tracks.getD (0) [])).length (blocksOf a0.cars (a0.tracks.getD (0) []))).length by omega));have g0 : (EC (⟨a0.cars, a0.room, a0.tracks.set (0) ((BD (blocksOf a0.cars (a0.tracks.getD (0) [])).length (blocksOf a0.cars (a0.tracks.getD (0) []))).getD (k) [])⟩ : Yard)).1 = CI a0.cars ((BD (blocksOf a0.cars (a0.tracks.getD (0) [])).length (blocksOf a0.cars (a0.tracks.getD (0) []))).getD (k) []) := by rw [R6]
  have M2 : (EC (⟨a0.cars, a0.room, a0.tracks.set (0) ((BD (blocksOf a0.cars (a0.tracks.getD (0) [])).length (blocksOf a0.cars (a0.tracks.getD (0) []))).getD (k) [])⟩ : Yard)).2 = 0 := by rw [R6]
  refine rr (sd (dnb 44 0 0 g2 [.slice d8 a0.cars.length d9, .slice e0 a0.room.length e1, .slice c9 d1.length d0]) (sfz (A := ((bX g2 #[.slice d8 a0.cars.length d9, .slice e0 a0.room.length e1, .slice c9 d1.length d0] 26) :: (bX e7 #[.slice b0 a0.cars.length b1, .slice a3 a0.room.length a4, .slice a5 b5.length a6] 26) :: (bX u6 #[.int .u64 (c6)] 65) :: (j6 ++ (g1 ++ F)))) AQ p4 (PU (PU (PU (PO _ _ _)))) (fun V1 b9 e4 => ?_)));replace x_f := x_f.mono b9;replace e5 := e5.mono b9;replace hG := hG.mono b9;replace c4 := c4.mono b9;replace a1 := a1.mono b9;replace a8 := a8.mono b9;replace a9 := a9.mono b9;replace b4 := b4.mono b9;replace a2 := a2.mono b9;replace b2 := b2.mono b9;replace b3 := fun i hi => (b3 i hi).mono b9
  replace a7 := a7.mono b9;replace c0 := c0.mono b9;replace b8 := b8.mono b9;replace c2 := fun i hi => (c2 i hi).mono b9
  replace e8 := e8.mono b9;replace e2 := e2.mono b9;obtain ⟨y4, y6, y5, y9, m8, y7, y8, z0⟩ := id e4;cases m8;refine sfz (A := ((bX g2 #[.slice d8 a0.cars.length d9, .slice e0 a0.room.length e1, .slice c9 d1.length d0] 26) :: (bX e7 #[.slice b0 a0.cars.length b1, .slice a3 a0.room.length a4, .slice a5 b5.length a6] 26) :: (bX u6 #[.int .u64 (c6)] 65) :: (j6 ++ F))) 0 p5 (PU (PU (PU (PO _ _ _)))) (fun V2 b7 f1 => ?_);replace x_f := x_f.mono b7;replace e5 := e5.mono b7;replace hG := hG.mono b7;replace c4 := c4.mono b7;replace a1 := a1.mono b7;replace a8 := a8.mono b7;replace a9 := a9.mono b7;replace b4 := b4.mono b7;replace a2 := a2.mono b7;replace b2 := b2.mono b7;replace b3 := fun i hi => (b3 i hi).mono b7
  replace a7 := a7.mono b7;replace c0 := c0.mono b7;replace b8 := b8.mono b7;replace c2 := fun i hi => (c2 i hi).mono b7
  replace e8 := e8.mono b7;replace e2 := e2.mono b7;replace e4 := e4.mono b7;obtain ⟨z1, z3, z2, z6, m9, z4, z5, z7⟩ := id f1;cases m9;refine sfz (A := ((bX g2 #[.slice d8 a0.cars.length d9, .slice e0 a0.room.length e1, .slice c9 d1.length d0] 26) :: (bX e7 #[.slice b0 a0.cars.length b1, .slice a3 a0.room.length a4, .slice a5 b5.length a6] 26) :: (bX u6 #[.int .u64 (c6)] 65) :: F)) undef u0 (PU (PU (PM.symm))) (fun B8 b6 g4 => ?_);replace x_f := x_f.mono b6;replace e5 := e5.mono b6;replace hG := hG.mono b6;replace c4 := c4.mono b6;replace a1 := a1.mono b6;replace a8 := a8.mono b6;replace a9 := a9.mono b6;replace b4 := b4.mono b6;replace a2 := a2.mono b6;replace b2 := b2.mono b6;replace b3 := fun i hi => (b3 i hi).mono b6
  replace a7 := a7.mono b6;replace c0 := c0.mono b6;replace b8 := b8.mono b6;replace c2 := fun i hi => (c2 i hi).mono b6
  replace e8 := e8.mono b6;replace e2 := e2.mono b6;replace e4 := e4.mono b6;replace f1 := f1.mono b6;obtain ⟨z8, A0, z9, A1, g3, n0, n1, n2⟩ := id g4;simp only [LS] at g3 n0 n1 n2
  first | cases g3 | (injection g3 with fz125_e1 fz125_e2 fz125_e3; subst fz125_e1; subst fz125_e3; try rw [← fz125_e2] at g4)
  have i4 := e2.isRows g4;have s3 := e2.1;obtain ⟨x3, x5, x4, x8, s5, m7, x6, x7, x9, y0⟩ := id i4
  injection m7 with fr126_e1 fr126_e2 fr126_e3; subst fr126_e1; subst fr126_e3
  have r0 := Cold_ct B8 _ ((⟨a0.cars, a0.room, a0.tracks.set (0) ((BD ((blocksOf a0.cars (a0.tracks.getD (0) [])).length) (blocksOf a0.cars (a0.tracks.getD (0) []))).getD (k) [])⟩ : Yard)) (CP e4 f1 i4);refine sS (sc (some 45) (r0 :) (.refl _) (fun T5 j5 T1 c1 u2 => ?_));obtain ⟨T8, p7, p1, o8, v4⟩ := u2;rw [p1, o8]; clear p1 o8;replace x_f := x_f.mono c1;replace e5 := e5.mono c1;replace hG := hG.mono c1;replace c4 := c4.mono c1;replace a1 := a1.mono c1;replace a8 := a8.mono c1;replace a9 := a9.mono c1;replace b4 := b4.mono c1;replace a2 := a2.mono c1;replace b2 := b2.mono c1;replace b3 := fun i hi => (b3 i hi).mono c1
  replace a7 := a7.mono c1;replace c0 := c0.mono c1;replace b8 := b8.mono c1;replace c2 := fun i hi => (c2 i hi).mono c1
  replace e8 := e8.mono c1;obtain ⟨n6, n7, n8, B1⟩ := v4.shape;subst n8;refine pm (M' := ((bX g2 #[.slice d8 a0.cars.length d9, .slice e0 a0.room.length e1, .slice c9 d1.length d0] 26) :: (bX e7 #[.slice b0 a0.cars.length b1, .slice a3 a0.room.length a4, .slice a5 b5.length a6] 26) :: (bX u6 #[.int .u64 (c6)] 65) :: (p7 ++ F))) (PW (PW PM)) (sp 5 [(13, vI (((EC ((⟨a0.cars, a0.room, a0.tracks.set (0) ((BD ((blocksOf a0.cars (a0.tracks.getD (0) [])).length) (blocksOf a0.cars (a0.tracks.getD (0) []))).getD (k) [])⟩ : Yard))).2))), (12, .slice n6 ((EC ((⟨a0.cars, a0.room, a0.tracks.set (0) ((BD ((blocksOf a0.cars (a0.tracks.getD (0) [])).length) (blocksOf a0.cars (a0.tracks.getD (0) []))).getD (k) [])⟩ : Yard))).1).length n7)] (se (rq (rqr (sp 1 [(48, vI (((EC ((⟨a0.cars, a0.room, a0.tracks.set (0) ((BD ((blocksOf a0.cars (a0.tracks.getD (0) [])).length) (blocksOf a0.cars (a0.tracks.getD (0) []))).getD (k) [])⟩ : Yard))).2)))] (sd (dcm 49 .neq (((EC ((⟨a0.cars, a0.room, a0.tracks.set (0) ((BD ((blocksOf a0.cars (a0.tracks.getD (0) [])).length) (blocksOf a0.cars (a0.tracks.getD (0) []))).getD (k) [])⟩ : Yard))).2)) (0) false (by exact decide_eq_false (fun hh => hh M2))) (se (rcf 49 rfl (AN (NX (rqr (sp 3 [(52, .bool (cmp .lss (e6) (0)))] ?_))))))))))));refine CE 52 rfl (fun h2 => ?_) (fun h2 => ?_)
  ·
   have k1 := h2;have k1 := CC k1;refine sp 19 [(71, .bool (true))] (se (rct 71 rfl (rr (sp 2 [(73, vI (↑k)), (72, .slice f8 f0.length f9)] (sd (di 74 1 (k) (fun _ => b8.addr (by omega)) (n := f0.length)) ?_)))));have h7 := c2 (k) (by omega);obtain ⟨l4, l5, O6, O9, l6, O7, O8, P0⟩ := id h7;rw [l6] at h7;refine sd (BE (dl 75 (BS b8 (k) (by omega))) l6) (sp 4 [(9, vI (↑(((EC ((⟨a0.cars, a0.room, a0.tracks.set (0) ((BD ((blocksOf a0.cars (a0.tracks.getD (0) [])).length) (blocksOf a0.cars (a0.tracks.getD (0) []))).getD (k) [])⟩ : Yard))).1).length))), (8, .slice l4 ((BD ((blocksOf a0.cars (a0.tracks.getD (0) [])).length) (blocksOf a0.cars (a0.tracks.getD (0) []))).getD (k) []).length l5)] (ee (NB (NX (rr (sp 1 [(32, vI (↑k))] (sd (da 33 (↑k) (1)) (sp 1 [(10, vI (↑k + 1))] (ee ?_)))))))));refine AF ((BD (blocksOf a0.cars (a0.tracks.getD (0) [])).length (blocksOf a0.cars (a0.tracks.getD (0) []))).length - (k+1)) (by omega) ?_;intro a w hS hD hW;exact ⟨j5, k+1, ((BD (blocksOf a0.cars (a0.tracks.getD (0) [])).length (blocksOf a0.cars (a0.tracks.getD (0) []))).getD (k) []), (↑(((EC ((⟨a0.cars, a0.room, a0.tracks.set (0) ((BD ((blocksOf a0.cars (a0.tracks.getD (0) [])).length) (blocksOf a0.cars (a0.tracks.getD (0) []))).getD (k) [])⟩ : Yard))).1).length)), (.slice l4 ((BD ((blocksOf a0.cars (a0.tracks.getD (0) [])).length) (blocksOf a0.cars (a0.tracks.getD (0) []))).getD (k) []).length l5), (IT (IT (IT (IT (IT hJ0 c5) b9) b7) b6) c1), by omega, (show WInv a0.cars (BD (blocksOf a0.cars (a0.tracks.getD (0) [])).length (blocksOf a0.cars (a0.tracks.getD (0) []))) (k+1) ((BD (blocksOf a0.cars (a0.tracks.getD (0) [])).length (blocksOf a0.cars (a0.tracks.getD (0) []))).getD (k) []) (↑(((EC ((⟨a0.cars, a0.room, a0.tracks.set (0) ((BD ((blocksOf a0.cars (a0.tracks.getD (0) [])).length) (blocksOf a0.cars (a0.tracks.getD (0) []))).getD (k) [])⟩ : Yard))).1).length)) from (by rw [g0]; exact winv_take (n := (trk a0 0).length) u5 (by omega) s4 (by rw [g0] at *; first | (left; omega) | (right; left; omega) | (right; right; exact ⟨by omega, by assumption⟩)))), h7, hS.sub (.consE 8 rfl rfl (.consE 9 rfl rfl (.consE 10 rfl rfl (.cons 3 rfl (.cons 4 rfl (.cons 5 rfl (.cons 6 rfl (.cons 7 rfl (.nil _))))))))), hD, (hW.perm (PC _ (PU (PM.symm)))).sub (TC _ (TT (TR _) (TB _ _))), rfl⟩
  have k1 := h2;have k1 := CF k1;refine sp 6 [(58, .bool (cmp .lss (↑(((EC ((⟨a0.cars, a0.room, a0.tracks.set (0) ((BD ((blocksOf a0.cars (a0.tracks.getD (0) [])).length) (blocksOf a0.cars (a0.tracks.getD (0) []))).getD (k) [])⟩ : Yard))).1).length)) (e6)))] ?_;refine CE 58 rfl (fun h3 => ?_) (fun h3 => ?_)
  ·
   have k2 := h3;have k2 := CC k2;refine sp 13 [(71, .bool (true))] (se (rct 71 rfl (rr (sp 2 [(73, vI (↑k)), (72, .slice f8 f0.length f9)] (sd (di 74 1 (k) (fun _ => b8.addr (by omega)) (n := f0.length)) ?_)))));have h8 := c2 (k) (by omega);obtain ⟨l7, l8, P1, P4, l9, P2, P3, P5⟩ := id h8;rw [l9] at h8;refine sd (BE (dl 75 (BS b8 (k) (by omega))) l9) (sp 4 [(9, vI (↑(((EC ((⟨a0.cars, a0.room, a0.tracks.set (0) ((BD ((blocksOf a0.cars (a0.tracks.getD (0) [])).length) (blocksOf a0.cars (a0.tracks.getD (0) []))).getD (k) [])⟩ : Yard))).1).length))), (8, .slice l7 ((BD ((blocksOf a0.cars (a0.tracks.getD (0) [])).length) (blocksOf a0.cars (a0.tracks.getD (0) []))).getD (k) []).length l8)] (ee (NB (NX (rr (sp 1 [(32, vI (↑k))] (sd (da 33 (↑k) (1)) (sp 1 [(10, vI (↑k + 1))] (ee ?_)))))))));refine AF ((BD (blocksOf a0.cars (a0.tracks.getD (0) [])).length (blocksOf a0.cars (a0.tracks.getD (0) []))).length - (k+1)) (by omega) ?_;intro a w hS hD hW;exact ⟨j5, k+1, ((BD (blocksOf a0.cars (a0.tracks.getD (0) [])).length (blocksOf a0.cars (a0.tracks.getD (0) []))).getD (k) []), (↑(((EC ((⟨a0.cars, a0.room, a0.tracks.set (0) ((BD ((blocksOf a0.cars (a0.tracks.getD (0) [])).length) (blocksOf a0.cars (a0.tracks.getD (0) []))).getD (k) [])⟩ : Yard))).1).length)), (.slice l7 ((BD ((blocksOf a0.cars (a0.tracks.getD (0) [])).length) (blocksOf a0.cars (a0.tracks.getD (0) []))).getD (k) []).length l8), (IT (IT (IT (IT (IT hJ0 c5) b9) b7) b6) c1), by omega, (show WInv a0.cars (BD (blocksOf a0.cars (a0.tracks.getD (0) [])).length (blocksOf a0.cars (a0.tracks.getD (0) []))) (k+1) ((BD (blocksOf a0.cars (a0.tracks.getD (0) [])).length (blocksOf a0.cars (a0.tracks.getD (0) []))).getD (k) []) (↑(((EC ((⟨a0.cars, a0.room, a0.tracks.set (0) ((BD ((blocksOf a0.cars (a0.tracks.getD (0) [])).length) (blocksOf a0.cars (a0.tracks.getD (0) []))).getD (k) [])⟩ : Yard))).1).length)) from (by rw [g0]; exact winv_take (n := (trk a0 0).length) u5 (by omega) s4 (by rw [g0] at *; first | (left; omega) | (right; left; omega) | (right; right; exact ⟨by omega, by assumption⟩)))), h8, hS.sub (.consE 8 rfl rfl (.consE 9 rfl rfl (.consE 10 rfl rfl (.cons 3 rfl (.cons 4 rfl (.cons 5 rfl (.cons 6 rfl (.cons 7 rfl (.nil _))))))))), hD, (hW.perm (PC _ (PU (PM.symm)))).sub (TC _ (TT (TR _) (TB _ _))), rfl⟩
  have k2 := h3;have k2 := CF k2;refine sp 5 [(63, .bool (cmp .eql (↑(((EC ((⟨a0.cars, a0.room, a0.tracks.set (0) ((BD ((blocksOf a0.cars (a0.tracks.getD (0) [])).length) (blocksOf a0.cars (a0.tracks.getD (0) []))).getD (k) [])⟩ : Yard))).1).length)) (e6)))] ?_;refine CE 63 rfl (fun h4 => ?_) (fun h4 => ?_)
  ·
   have k3 := h4;have k3 := DW k3;refine sp 2 [(65, vI (↑k)), (64, .slice f8 f0.length f9)] (sd (di 66 1 (k) (fun _ => b8.addr (by omega)) (n := f0.length)) ?_);have h9 := c2 (k) (by omega);obtain ⟨P6, P8, P7, Q1, m0, P9, Q0, Q2⟩ := id h9;rw [m0] at h9;refine sd (BE (dl 67 (BS b8 (k) (by omega))) m0) (sp 1 [(68, .slice m5 f4.length m6)] (sd (dc 69 (fun I' hI => (less_ct I' _ _ _ _ (h9.mono hI) (e8.mono hI) :))) (sp 2 [(71, .bool (HC ((BD ((blocksOf a0.cars (a0.tracks.getD (0) [])).length) (blocksOf a0.cars (a0.tracks.getD (0) []))).getD (k) []) f4))] (se (rc 71 rfl (fun h5 => ?_) (fun h5 => ?_))))))
   ·
    have M0 := h5;refine rr (sp 2 [(73, vI (↑k)), (72, .slice f8 f0.length f9)] (sd (di 74 1 (k) (fun _ => b8.addr (by omega)) (n := f0.length)) ?_));have i0 := c2 (k) (by omega);obtain ⟨m1, m2, Q3, Q6, m3, Q4, Q5, Q7⟩ := id i0;rw [m3] at i0;refine sd (BE (dl 75 (BS b8 (k) (by omega))) m3) (sp 4 [(9, vI (↑(((EC ((⟨a0.cars, a0.room, a0.tracks.set (0) ((BD ((blocksOf a0.cars (a0.tracks.getD (0) [])).length) (blocksOf a0.cars (a0.tracks.getD (0) []))).getD (k) [])⟩ : Yard))).1).length))), (8, .slice m1 ((BD ((blocksOf a0.cars (a0.tracks.getD (0) [])).length) (blocksOf a0.cars (a0.tracks.getD (0) []))).getD (k) []).length m2)] (ee (NB (NX (rr (sp 1 [(32, vI (↑k))] (sd (da 33 (↑k) (1)) (sp 1 [(10, vI (↑k + 1))] (ee ?_)))))))));refine AF ((BD (blocksOf a0.cars (a0.tracks.getD (0) [])).length (blocksOf a0.cars (a0.tracks.getD (0) []))).length - (k+1)) (by omega) ?_;intro a w hS hD hW;exact ⟨j5, k+1, ((BD (blocksOf a0.cars (a0.tracks.getD (0) [])).length (blocksOf a0.cars (a0.tracks.getD (0) []))).getD (k) []), (↑(((EC ((⟨a0.cars, a0.room, a0.tracks.set (0) ((BD ((blocksOf a0.cars (a0.tracks.getD (0) [])).length) (blocksOf a0.cars (a0.tracks.getD (0) []))).getD (k) [])⟩ : Yard))).1).length)), (.slice m1 ((BD ((blocksOf a0.cars (a0.tracks.getD (0) [])).length) (blocksOf a0.cars (a0.tracks.getD (0) []))).getD (k) []).length m2), (IT (IT (IT (IT (IT hJ0 c5) b9) b7) b6) c1), by omega, (show WInv a0.cars (BD (blocksOf a0.cars (a0.tracks.getD (0) [])).length (blocksOf a0.cars (a0.tracks.getD (0) []))) (k+1) ((BD (blocksOf a0.cars (a0.tracks.getD (0) [])).length (blocksOf a0.cars (a0.tracks.getD (0) []))).getD (k) []) (↑(((EC ((⟨a0.cars, a0.room, a0.tracks.set (0) ((BD ((blocksOf a0.cars (a0.tracks.getD (0) [])).length) (blocksOf a0.cars (a0.tracks.getD (0) []))).getD (k) [])⟩ : Yard))).1).length)) from (by rw [g0]; exact winv_take (n := (trk a0 0).length) u5 (by omega) s4 (by rw [g0] at *; first | (left; omega) | (right; left; omega) | (right; right; exact ⟨by omega, by assumption⟩)))), i0, hS.sub (.consE 8 rfl rfl (.consE 9 rfl rfl (.consE 10 rfl rfl (.cons 3 rfl (.cons 4 rfl (.cons 5 rfl (.cons 6 rfl (.cons 7 rfl (.nil _))))))))), hD, (hW.perm (PC _ (PU (PM.symm)))).sub (TC _ (TT (TR _) (TB _ _))), rfl⟩
   have M0 := h5;refine AN (NB (NX (rr (sp 1 [(32, vI (↑k))] (sd (da 33 (↑k) (1)) (sp 1 [(10, vI (↑k + 1))] (ee ?_)))))));refine AF ((BD (blocksOf a0.cars (a0.tracks.getD (0) [])).length (blocksOf a0.cars (a0.tracks.getD (0) []))).length - (k+1)) (by omega) ?_;intro a w hS hD hW;exact ⟨j5, k+1, f4, e6, (.slice m5 f4.length m6), (IT (IT (IT (IT (IT hJ0 c5) b9) b7) b6) c1), by omega, (winv_leave (n := (trk a0 0).length) u5 (by omega) s4 (by omega) (by rw [g0] at *; omega) (fun hq => by rw [g0] at *; first | (exfalso; omega) | assumption)), e8, hS.sub (.consE 8 rfl rfl (.consE 9 rfl rfl (.consE 10 rfl rfl (.cons 3 rfl (.cons 4 rfl (.cons 5 rfl (.cons 6 rfl (.cons 7 rfl (.nil _))))))))), hD, (hW.perm (PC _ (PU (PM.symm)))).sub (TC _ (TT (TR _) (TB _ _))), rfl⟩
  have k3 := h4;have k3 := DS k3;refine sp 8 [(71, .bool (false))] (se (rcf 71 rfl (AN (NB (NX (rr (sp 1 [(32, vI (↑k))] (sd (da 33 (↑k) (1)) (sp 1 [(10, vI (↑k + 1))] (ee ?_))))))))));refine AF ((BD (blocksOf a0.cars (a0.tracks.getD (0) [])).length (blocksOf a0.cars (a0.tracks.getD (0) []))).length - (k+1)) (by omega) ?_;intro a w hS hD hW;exact ⟨j5, k+1, f4, e6, (.slice m5 f4.length m6), (IT (IT (IT (IT (IT hJ0 c5) b9) b7) b6) c1), by omega, (winv_leave (n := (trk a0 0).length) u5 (by omega) s4 (by omega) (by rw [g0] at *; omega) (fun hq => by rw [g0] at *; first | (exfalso; omega) | assumption)), e8, hS.sub (.consE 8 rfl rfl (.consE 9 rfl rfl (.consE 10 rfl rfl (.cons 3 rfl (.cons 4 rfl (.cons 5 rfl (.cons 6 rfl (.cons 7 rfl (.nil _))))))))), hD, (hW.perm (PC _ (PU (PM.symm)))).sub (TC _ (TT (TR _) (TB _ _))), rfl⟩
 have K9 := h1;have h1 := CF h1;refine CQ 0 ((EP (EP (EB (NX (rq (rq ?_)))))));have r5 := winv_out r4 s4 (by (show (BD (blocksOf a0.cars (a0.tracks.getD (0) [])).length (blocksOf a0.cars (a0.tracks.getD (0) []))).length ≤ k); omega) W7;have W8 := r5.1; have W9 := r5.2.1; have X0 := r5.2.2;refine rr (sp 1 [(78, vI (((EO a0).2.2)))] (sd (dcm 79 .neq (((EO a0).2.2)) (0) false (by exact decide_eq_false (fun hh => hh X0))) (sp 3 [(82, vI (e6)), (81, vI (((EO a0).2.1))), (80, .bool (false))] (sd (dcm 83 .neq (((EO a0).2.1)) (e6) false (by exact decide_eq_false (fun hh => hh W9))) (sp 4 [(87, .slice m5 f4.length m6), (86, .slice i1 ((EO a0).1).length i2), (85, .bool (false))] (sd (dc 88 (fun I' hI => (GV I' _ _ _ _ (c0.mono hI) (e8.mono hI) :))) (EH 88 rfl (show (.bool (decide (((EO a0).1) = f4)) : Value) = .bool (true) from congrArg Value.bool (decide_eq_true (W8))) (sp 2 [(90, .bool (!(true)))] (se (rcf 90 rfl (AN (NX (rq (rq ?_))))))))))))));refine rn_thaw a7 (IT (IT (IT (IT (IT (IT e3 d7) d5) d3) d6) d4) hJ0) (fun B9 d2 => ?_);replace x_f := r6.mono d2;replace e5 := r7.mono d2;replace hG := v2.mono d2;replace c4 := n5.mono d2;replace a1 := j0.mono d2;replace a8 := j1.mono d2;replace a9 := j2.mono d2;replace b4 := j3.mono d2;replace a2 := i7.mono d2;replace b2 := i8.mono d2;replace b3 := fun i hi => (i9 i hi).mono d2
 refine JM (M' := ((bX e7 #[.slice b0 a0.cars.length b1, .slice a3 a0.room.length a4, .slice a5 b5.length a6] 26) :: (bX u6 #[.int .u64 (c6)] 65) :: (f2 ++ F))) (fun w h => h.perm (PW PM)) (rr (sp 1 [(14, vI (0))] (se (rb 2 ?_))));refine rl (fun mz a w => ∃ j : Nat, ∃ f7 : Value, ∃ f6 : Seg, (j ≤ a0.cars.length) ∧ (Own 40 6 CL f7 (BR a0.cars j) f6) ∧ Slots 118 [(14, vI ↑j), (3, vP e7 0), (6, vI (((EO a0).2.2)))] a ∧ a.defers = [] ∧ St B9 ((bX e7 #[f7, .slice a3 a0.room.length a4, .slice a5 b5.length a6] 26) :: (bX u6 #[.int .u64 (c6)] 65) :: (f6 ++ F)) w ∧ mz = a0.cars.length - j) ?_ ?_
 ·intro a w hS hD hW;exact ⟨_, 0, .slice b0 a0.cars.length b1, f2, Nat.zero_le _, ((pipedTo_zero _).symm ▸ r9), hS.sub (.cons 14 rfl (.cons 3 rfl (.cons 6 rfl (.nil _)))), hD, hW, rfl⟩
 rintro mz a w ⟨j, f7, f6, hj, e9, hS, hD, hW, rfl⟩
 refine BF hS hD hW ?_;clear hS hD hW a w;obtain ⟨c7, c8, g9, r8⟩ := e9.shape; subst g9;have Z4 := pipedTo_len a0.cars j;refine rq (rqr (sp 2 [(92, vP e7 0), (91, vI (↑j))] (sd (dlb 93 0 0 e7 (.slice c7 (BR a0.cars j).length c8)) (sp 2 [(95, .bool (cmp .lss (↑j) (↑((BR a0.cars j).length))))] (se (rc 95 rfl (fun h6 => ?_) (fun h6 => ?_)))))))
 ·
  have M1 := h6;have h6 := CC h6;refine AN (NX (rq (rb 3 (rr (sp 1 [(98, vP e7 0)] (sd (dlb 99 0 0 e7 (.slice c7 (BR a0.cars j).length c8)) (sp 1 [(100, vI (↑j))] ?_)))))));obtain ⟨v3, k6⟩ := e9.row AQ;refine sd (di 101 6 (j) k6.addr) (sp 1 [(102, .pointer (some ⟨v3, 0 + j * 6 + 4, none⟩))] (sS (CO (T := 4) (x := (.tmp 102)) (y := (.const (.bool true))) (rc := fun i f => CL ((BR a0.cars j).getD i AQ) f) AQ (j) 4 ({ (BR a0.cars j).getD (j) AQ with pipe := true }) (ty := 0) (gd := none) (by kernel_rfl) rfl e9 k6 (by omega) (by decide) rfl rfl (by kernel_rfl) rfl rfl (by intro f hf; match f, hf with | 0, _ => rfl | 1, _ => rfl | 2, _ => rfl | 3, _ => rfl | 4, _ => rfl | 5, _ => rfl) (PU (PM.symm)) (fun o7 u1 => (pm (M' := ((bX e7 #[.slice c7 (BR a0.cars j).length c8, .slice a3 a0.room.length a4, .slice a5 b5.length a6] 26) :: (bX u6 #[.int .u64 (c6)] 65) :: (o7 ++ F))) (PW PM) (ee (NB (NX (rr (sp 1 [(96, vI (↑j))] (sd (da 97 (↑j) (1)) (sp 1 [(14, vI (↑j + 1))] (ee ?_)))))))))))));refine AF (a0.cars.length - (j+1)) (by omega) ?_;intro a w hS hD hW;exact ⟨j+1, .slice c7 (BR a0.cars j).length c8, o7, by omega, (by rw [← pipedTo_step (by omega)]; exact u1), hS.sub (.consE 14 rfl rfl (.cons 3 rfl (.cons 6 rfl (.nil _)))), hD, hW, rfl⟩
 have M1 := h6;have h6 := CF h6;refine CQ 2 ((EP (EP (EB (NX (rqr (sd (dnb 104 0 0 e7 [.slice c7 (BR a0.cars j).length c8, .slice a3 a0.room.length a4, .slice a5 b5.length a6]) (sfz (A := ((bX e7 #[.slice c7 (BR a0.cars j).length c8, .slice a3 a0.room.length a4, .slice a5 b5.length a6] 26) :: (bX u6 #[.int .u64 (c6)] 65) :: F)) AQ e9 (PU (PM.symm)) (fun C0 g5 i5 => ?_)))))))));replace hG := hG.mono g5;replace a1 := a1.mono g5;replace a2 := a2.mono g5;obtain ⟨A2, A4, A3, A7, n3, A5, A6, A8⟩ := id i5;cases n3;have r1 := Cold_ct C0 _ ((⟨BR a0.cars j, a0.room, a0.tracks⟩ : Yard)) (CP i5 a1 a2);refine sS (sc (some 105) (r1 :) (.refl _) (fun T6 C1 T2 k4 u3 => ?_));obtain ⟨T9, p8, p2, o9, v5⟩ := u3;rw [p2, o9]; clear p2 o9;replace hG := hG.mono k4;obtain ⟨n9, o0, o1, B2⟩ := v5.shape;subst o1;refine pm (M' := ((bX e7 #[.slice c7 (BR a0.cars j).length c8, .slice a3 a0.room.length a4, .slice a5 b5.length a6] 26) :: (bX u6 #[.int .u64 (c6)] 65) :: (p8 ++ F))) (PW PM) (sp 5 [(6, vI (((EC ((⟨BR a0.cars j, a0.room, a0.tracks⟩ : Yard))).2))), (15, .slice n9 ((EC ((⟨BR a0.cars j, a0.room, a0.tracks⟩ : Yard))).1).length o0)] (se (rq ?_)));have R5 := cold_pipes r4 (k := j) (by omega);have Z3 : (EC (⟨BR a0.cars j, a0.room, a0.tracks⟩ : Yard)).1.length = 0 := by rw [R5]; rfl
 have W5 : (EC (⟨BR a0.cars j, a0.room, a0.tracks⟩ : Yard)).2 = 0 := by rw [R5]
 refine rr (sp 1 [(108, vI (((EC ((⟨BR a0.cars j, a0.room, a0.tracks⟩ : Yard))).2)))] (sd (dcm 109 .eql (((EC ((⟨BR a0.cars j, a0.room, a0.tracks⟩ : Yard))).2)) (0) true (by exact decide_eq_true W5)) (sp 3 [(112, vI (↑(((EC ((⟨BR a0.cars j, a0.room, a0.tracks⟩ : Yard))).1).length))), (110, .bool (true))] (sd (dcm 113 .eql (↑(((EC ((⟨BR a0.cars j, a0.room, a0.tracks⟩ : Yard))).1).length)) (0) true (by exact decide_eq_true (by omega))) (sp 2 [(115, .bool (true))] ?_)))));have r2 := shunting_ct C1 (by first | exact hG | exact hG.mono hI);refine sS (sc (some 116) (r2 :) (.refl _) (fun T7 V3 T3 r3 u4 => ?_));obtain ⟨p3, p0⟩ := u4;rw [p3, p0]; clear p3 p0;refine nm ?_;refine sp 2 [(2, .bool (true))] (se (BU (AD (t := 2) [] (by kernel_rfl) rfl (TC _ (TC _ (TT (TR _) (TB _ _)))) (IT (IT (IT (IT (IT (IT (IT n4 i6) g6) f5) d2) g5) k4) r3) ?_)));exact ⟨rfl, rfl⟩
end Go.Proofs.YtcaocbhbofejnaaDoor
namespace Go.Sl
open Go Go.ChangeShapes Go.WideShapes
def immOf (W : World) : Imm := ⟨W.os, W.tape, W.output, fun b => W.heap[b]?⟩
theorem st_immOf (W : World) : St (immOf W) [] W := ⟨rfl, rfl, rfl, fun _ _ h => h, fun _ _ h => by simp at h, by simp, fun _ _ h => by simp at h⟩
theorem GZ {W : World} {a : Addr} {v : Value} (h : W.cell? a = some v) : a.spot = none ∧ ∃ cs T fz, W.heap[a.block]? = some (.cells cs T fz) ∧ cs[a.off]? = some v := by
  unfold World.cell? at h
  split at h
  · rename_i cs T fz hb
    split at h
    · cases h
    · rename_i hs
      refine ⟨by cases hx : a.spot with | none => rfl | some _ => rw [hx] at hs; simp at hs, cs, T, fz, hb, h⟩
  · cases h
theorem same_of_le {W W' : World} {J : Imm} {M : Seg} (le : (immOf W).le J) (st : St J M W') : (∀ b, b < W.heap.size → W'.heap[b]? = W.heap[b]?) ∧ W'.os = W.os ∧ W'.output = W.output := by
  refine ⟨fun b hb => ?_, st.os.trans le.os, st.output.trans le.output⟩;have h : (immOf W).blk b = some W.heap[b] := by show W.heap[b]? = _; simp [hb]
  rw [st.imm b _ (le.blk b _ h)];exact h.symm
theorem keptBut_same {W W' : World} {may : MemPlace → Prop} (h : ∀ b, b < W.heap.size → W'.heap[b]? = W.heap[b]?) (ho : W'.os = W.os) (hu : W'.output = W.output) : W.keptBut W' may := by
  refine ⟨ho, hu, fun i hi => ?_⟩;rw [h i hi];have : W.heap[i]? = some W.heap[i] := by simp [hi]
  rw [this];cases W.heap[i] <;> simp
theorem sameAt_heap {W W' : World} {p : MemPlace} (h : W'.heap[p.block]? = W.heap[p.block]?) : W.sameAt W' p := by
  cases p <;> simp only [MemPlace.block] at h <;> simp [World.sameAt, World.cell?, World.frozen?, h]
theorem isInts_of {W : World} {a : Addr} {len cap : Nat} {zs : List Int} (hl : len ≤ cap) (hm : cap ≤ maxLen) (hz : zs.length = len) (hr : len ≤ 140737488355328)
    (hc : ∀ i, i < zs.length → W.cell? (a.add i) = some (.int .i64 (zs.getD i 0))) : BC (immOf W) (.slice (some a) len cap) zs := by
  subst hz;refine ⟨some a, cap, a.block, a.off, rfl, hl, hr, ⟨fun h0 => ?_, fun i hi f hf => ?_⟩⟩
  · have := hc 0 h0
    obtain ⟨h1, _⟩ := GZ this;have hs : a.spot = none := by
      unfold Addr.add at h1; simpa using h1
    cases a with
    | mk b o s => simp only at hs; subst hs; rfl
  · have hcell := hc i hi
    obtain ⟨h1, cs, T, fz, hb, hv⟩ := GZ hcell;have e : a.add i = ⟨a.block, a.off + i, none⟩ := by
      cases a with
      | mk b o s =>
        have hs : s = none := by
          have h0 := hc 0 (by omega);obtain ⟨g1, _⟩ := GZ h0;unfold Addr.add at g1; simpa using g1
        subst hs;exact EI b o i
    rw [e] at hb hv;obtain rfl : f = 0 := by omega
    exact ⟨rfl, cs, T, fz, by rw [Nat.mul_one]; exact hb, by simp only [Nat.mul_one, Nat.add_zero]; exact hv⟩
end Go.Sl
namespace Go
end Go
namespace Go.Proofs.YtcaocbhbofejnaaDoor
open Go Go.ChangeShapes Go.WideShapes Go.RowKit Go.Sl
set_option maxRecDepth 100000
theorem Row.own : ownKnob Tryd.prog.godebug = none := by kernel_rfl
theorem Row.laidOut : laidOutB Tryd.prog = true := by kernel_rfl
theorem Row.et : Tryd.prog.globalNamed "errors.errorType" = some 0 := by kernel_rfl
theorem Row.oneRow : ((List.range 187).filter fun t => Tryd.prog.rowNamed t [101, 114, 114, 111, 114]) = [108] := by kernel_rfl
theorem Row.size : Tryd.prog.types.size = 187 := by kernel_rfl
theorem Row.cells : Tryd.prog.cellsOf 3 = 1 := by kernel_rfl
theorem Row.bytes : Tryd.prog.bytesOf 3 = 8 := by kernel_rfl
theorem handle_of_laid {W : World} (h : laidMetH Tryd.prog [("errors.errorType", Rows.laid_errors_errorType)] W) : Glob (immOf W) := by
  have h' : laidMet Tryd.prog [] W ∧ handlesMet Tryd.prog [("errors.errorType", Rows.laid_errors_errorType)] W := h
  obtain ⟨name, u, ty, e1, e2, e3, e4, e5⟩ := h'.2 _ (List.mem_singleton.2 rfl)
  have en : name = [101, 114, 114, 111, 114] := (Option.some.inj e1).symm
  subst en
  obtain rfl : u = 144 := Option.some.inj (e2.symm.trans (by kernel_rfl))
  have hm : ty ∈ (List.range 187).filter fun t => Tryd.prog.rowNamed t [101, 114, 114, 111, 114] := List.mem_filter.2 ⟨List.mem_range.2 (by rw [← Row.size]; exact e3), e4⟩
  rw [Row.oneRow] at hm
  obtain rfl := List.mem_singleton.1 hm
  have hh : typeHandle Tryd.prog 108 = .pointer (some ⟨1, 108, none⟩) := by kernel_rfl
  rw [hh] at e5
  have hc : W.cell? ⟨0, 0, none⟩ = some (.iface 144 (.agg #[.pointer (some ⟨1, 108, none⟩)])) := by simpa using World.var?_cell Row.et e5 0
  obtain ⟨_, cs, T, fz, hb, hv⟩ := GZ hc
  exact ⟨cs, T, fz, hb, hv⟩
noncomputable def laidWorld (os : Os) : World :=
  let w0 := World.holding Tryd.prog os ⟨#[], #[], []⟩
  { w0 with heap := w0.heap.modify 0 fun
      | .cells _ t frozen => .cells #[.iface 144 (.agg #[.pointer (some ⟨1, 108, none⟩)])] t frozen
      | o => o }
theorem laidWorld_met (os : Os) (args : Array Value) : laidMetH Tryd.prog [("errors.errorType", Rows.laid_errors_errorType)] ((laidWorld os).forCall (fun _ _ => 0) ⟨#[], args, []⟩).memory :=
  laidMetH_of_parts (laidMet_nil _ _) (by kernel_rfl)
theorem law_lifted (os : Os) (started : os.Started) (H : Type) (enc : TypeId × Value → H) :
    ReturnsInHanded {} Tryd.checked os 3 .any (fun w args => (Rows.shuntWarmSpec.pre enc Tryd.prog Tryd.f3 [] false w args ∧ laidMetH Tryd.prog [("errors.errorType", Rows.laid_errors_errorType)] w) ∧ sizedMet enc Tryd.prog Tryd.f3 (OpenSpec.ofChange Rows.shuntWarmSpec) false w args)
      (Rows.shuntWarmSpec.post enc Tryd.prog Tryd.f3 false true false false) := by
  refine returnsInHanded_of_change_and (C := Tryd.checked) (X := fun w _ => laidMetH Tryd.prog [("errors.errorType", Rows.laid_errors_errorType)] w) (fun _ _ _ hh h => h.of_heap hh) Row.own started (by kernel_rfl) Tryd.func3
    (ChangeSpec.witness_at (enc := enc) (C := Tryd.checked) (os := os) (X := fun w _ => laidMetH Tryd.prog [("errors.errorType", Rows.laid_errors_errorType)] w) false (laidWorld os) #[.slice none 0 0] 8 rfl (by kernel_rfl) (by kernel_rfl) (by kernel_rfl) (by kernel_rfl) (by kernel_rfl) (laidWorld_met os _)) ?_
  intro W base args ds gs before hval0 hW _ hsz0 hL _
  have hsz : (DataW.weightsEach Tryd.prog (Tryd.f3.params.toList ++ Rows.shuntWarmSpec.plain.varTypes Tryd.prog) (ds ++ gs)).all (· ≤ reachBytes) = true := hsz0
  have hval : ∀ (j : Nat) t v, Tryd.f3.params[j]? = some t → args[j]? = some v → Value.okWide Tryd.prog W .any base t v := hval0
  clear hsz0 hval0
  have hW' := hW
  obtain ⟨p, q, hA0, hV, rfl, hfz, hnd⟩ := hW
  have hA : DataW.TrodAll enc Tryd.prog W 0 (fun _ => true) true Tryd.f3.params.toList args.toList ds p := hA0
  rw [Tryd.params3] at hA hval
  obtain ⟨v0, d0, rfl, rfl, h0⟩ := trodAll_one hA
  obtain ⟨a0, len, cap, rfl⟩ := okWide_slice Tryd.underlying22 (hval 0 22 v0 rfl rfl)
  obtain ⟨rfl, rfl⟩ := trodVars_none hV
  have hg := handle_of_laid hL
  have h0k := h0
  obtain ⟨fu0, hf0⟩ := h0
  have hlt : ∀ x ∈ p, x.block < W.heap.size := fun x hx => by simpa using hW'.lt x (List.mem_append_left _ hx)
  obtain ⟨nums, hin⟩ : ∃ nums : List Int, BC (immOf W) (.slice a0 len cap) nums := by
    rcases open_ints Tryd.underlying22 Tryd.underlying3 Row.cells hf0 with ⟨hcs, hx⟩ | ⟨a, len', cap', zs, hcs, _, hl, hm, hz, hx, hcell, hwz⟩
    · simp [Value.cells] at hcs
      obtain ⟨rfl, rfl, rfl⟩ := hcs
      exact ⟨[], IsSl.nil _⟩
    · simp [Value.cells] at hcs
      obtain ⟨rfl, rfl, rfl⟩ := hcs
      simp only [Prod.mk.injEq] at hx
      obtain ⟨rfl, rfl⟩ := hx
      simp only [if_true] at hz
      have hreach : len * 8 ≤ 140737488351232 := by
        have := sized_slice hsz (j := 0) (t := 22) (e := 3) rfl rfl Tryd.underlying22
        rw [Row.bytes] at this
        simp only [lits, List.length_map, List.length_take, List.length_drop, reachBytes] at this
        omega
      refine ⟨zs.take len, isInts_of hl hm (by simp; omega) (by omega) fun i hi => ?_⟩
      have hi2 : i < len := by simp at hi; omega
      rw [hcell i (by omega)]
      congr 2
      simp [List.getD, List.getElem?_take, hi2]
  refine (ShuntWarm_ct (immOf W) _ nums hin hg [] W (by simpa using st_immOf W)).mono fun e W' ⟨v, I', M', he, hle, ⟨hv, hM⟩, st'⟩ => ?_
  subst he
  subst hv
  obtain ⟨hsame, hos, hout⟩ := same_of_le hle st'
  have hk : ∀ may : MemPlace → Prop, W.keptBut W' may := fun may => keptBut_same hsame hos hout
  refine ⟨_, rfl, ?_⟩
  refine ⟨_, _, _, [], p, [], hW', ?_, ?_, ?_, hk _, fun h => by cases h⟩
  · exact trodAll_mk1 (shut_bool Tryd.underlying4 true)
  · refine trodAll_mk1 (WideElems.Trod_stays Row.laidOut (by kernel_rfl) (of_decide_eq_true (by kernel_rfl)) h0k (fun x hx => ?_) (fun x hx => by simpa using hlt x hx))
    exact sameAt_heap (hsame _ (hlt x hx))
  · rfl
theorem f_holds : Rows.ShuntWarmSaid :=
  OpenClaim.holds_of_wide 3 Tryd.f3 rfl rfl rfl rfl rfl rfl rfl ⟨rfl, rfl, rfl, rfl, rfl⟩ rfl rfl rfl rfl rfl (by kernel_rfl) Tryd.func3 (by kernel_rfl)
    (of_decide_eq_true (by kernel_rfl)) (by unfold Func.isWrapper; rw [if_neg (of_decide_eq_false (by kernel_rfl))]; exact ⟨rfl, rfl⟩)
    (fun os started H enc _ => law_lifted os started H enc)
theorem card_holds : Rows.ShuntWarmCardSaid :=
  Claim7.holds_tied_plain_at .later [] [.handle] true (true, "57167870086b9e3ec6568a57c656ef4c9cbf620b6add0c9ed48a6a0fc89a47bf") true
    f_holds (fun _ h => by cases h) (by kernel_rfl) (fun _ h => by cases h) shuntWarm_row_tie rfl ⟨rfl, rfl⟩ (by kernel_rfl) rfl
    (fun f fn hf hfn => by
      obtain rfl : f = 3 := Option.some.inj (hf.symm.trans (by kernel_rfl))
      obtain rfl : fn = Tryd.f3 := (Option.some.inj (Tryd.func3.symm.trans hfn)).symm
      exact ⟨by kernel_rfl, fun j t ht => by
        rw [Tryd.params3] at ht
        have h3 : t = 22 := by
          rcases j with _ | j
          · simpa using ht.symm
          · simp at ht
        subst h3
        exact (show Tryd.prog.wantsStandIn 22 = false by kernel_rfl)⟩)
    (by kernel_rfl)
#print axioms card_holds
end Go.Proofs.YtcaocbhbofejnaaDoor

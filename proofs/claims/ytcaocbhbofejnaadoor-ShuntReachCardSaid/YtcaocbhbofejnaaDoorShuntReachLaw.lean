/- Reach counts each yard once: all yards are gone through by draws, one after the other; and once no more are reached none will be. -/
import Derived.Test.YtcaocbhbofejnaaDoorP5
import Derived.Test.YtcaocbhbofejnaaDoorP4
import Derived.Test.YtcaocbhbofejnaaDoorP1
import Derived.Test.YtcaocbhbofejnaaDoorP2
import Derived.Test.YtcaocbhbofejnaaDoorP0
import Derived.ChangeSame
import Derived.ChangeSlices
import Derived.WideShapes
import Derived.JoinedOf
import Derived.Test.YtcaocbhbofejnaaDoorTie
import Derived.Test.YtcaocbhbofejnaaDoorCards
import Derived.ChangeVars
import Derived.RowKit
import Derived.RowKitTokens
import Derived.LaidLaws
import Derived.LaidHandle
import Derived.Stop.Joined
import Derived.SevenTiedAt
import Derived.WideKeyArgs
import Derived.ProofKit
import Derived.SizedLaws
set_option linter.unusedVariables false
set_option linter.unusedSimpArgs false
namespace Go.Sh
open Go Go.Sl
theorem perm_sum {l m : List Int} (h : l.Perm m) : l.sum = m.sum := by
  induction h with
  | nil => rfl
  | cons x _ ih => simp [ih]
  | swap x y l => simp only [List.sum_cons]; omega
  | trans _ _ h1 h2 => exact h1.trans h2
theorem erase_perm {α : Type} {d : α} {l : List α} {i : Nat} (h : i < l.length) : (l.getD i d :: l.eraseIdx i).Perm l := by
  have e : l = l.take i ++ l.getD i d :: l.drop (i + 1) := by rw [← BE h, List.take_append_drop]
  rw [← erase_take];exact (List.perm_middle.symm).trans (List.Perm.of_eq e.symm)
structure Blk (cs : List Car) (bl : List (List Int)) : Prop where
  one : ∀ b ∈ bl, ∀ x ∈ b, ∀ y ∈ b, grp cs x = grp cs y
  apart : bl.Pairwise fun b c => ∀ x ∈ b, ∀ y ∈ c, 0 < grp cs x → grp cs x ≠ grp cs y
theorem Blk.perm {cs : List Car} {bl bl' : List (List Int)} (h : Blk cs bl) (p : bl.Perm bl') : Blk cs bl' :=
  ⟨fun b hb => h.one b (p.mem_iff.2 hb), (p.pairwise_iff (fun {b c} hbc x hx y hy h0 e => hbc y hy x hx (by omega) e.symm)).1 h.apart⟩
def RowOk (cs : List Car) (t : List Int) : Prop := ∀ k, k < t.length → 0 < grp cs (t.getD k 0) → (∃ c ∈ t.take k, grp cs c = grp cs (t.getD k 0)) → 0 < k ∧ grp cs (t.getD (k - 1) 0) = grp cs (t.getD k 0)
theorem MI {a b : List Int} {k : Nat} : (a ++ b).getD k 0 = if k < a.length then a.getD k 0 else b.getD (k - a.length) 0 := by
  simp only [List.getD]
  split
  · rename_i h; rw [List.getElem?_append_left h]
  · rename_i h; rw [List.getElem?_append_right (by omega)]
theorem Blk.row {cs : List Car} : ∀ {bl : List (List Int)}, Blk cs bl → RowOk cs bl.flatten := by
  intro bl
  induction bl with
  | nil => intro _ k hk; simp at hk
  | cons b r ih =>
    intro h k hk h0 hc;have ih := ih ⟨fun b hb => h.one b (List.mem_cons_of_mem _ hb), (List.pairwise_cons.1 h.apart).2⟩;rw [List.flatten_cons] at hk h0 hc ⊢;obtain ⟨c, hc, e⟩ := hc
    by_cases hkb : k < b.length
    · have e0 : (b ++ r.flatten).getD k 0 = b.getD k 0 := by rw [MI, if_pos hkb]
      rw [List.take_append_of_le_length (by omega)] at hc;have hk0 : 0 < k := by
        rcases Nat.eq_zero_or_pos k with hz | hz
        · subst hz; simp at hc
        · exact hz
      refine ⟨hk0, ?_⟩;rw [e0, MI, if_pos (by omega)];exact h.one b List.mem_cons_self _ (AM (by omega)) _ (AM hkb)
    · have e0 : (b ++ r.flatten).getD k 0 = r.flatten.getD (k - b.length) 0 := by rw [MI, if_neg hkb]
      rw [e0] at h0 e ⊢;have hk2 : k - b.length < r.flatten.length := by rw [List.length_append] at hk; omega
      have hmem : r.flatten.getD (k - b.length) 0 ∈ r.flatten := AM hk2;rw [List.take_append, List.take_of_length_le (by omega)] at hc;rcases List.mem_append.1 hc with hc | hc
      · exfalso
        obtain ⟨b2, hb2, hm2⟩ := List.mem_flatten.1 hmem;exact (List.pairwise_cons.1 h.apart).1 b2 hb2 c hc _ hm2 (by omega) e
      · obtain ⟨i1, i2⟩ := ih (k - b.length) hk2 h0 ⟨c, hc, e⟩
        refine ⟨by omega, ?_⟩;rw [MI, if_neg (by omega), show k - 1 - b.length = k - b.length - 1 by omega];exact i2
theorem KV {cs : List Car} {t : List Int} {k : Nat} (hk : k < t.length) (h0 : 0 < grp cs (t.getD k 0)) (h1 : 0 < k) (e : grp cs (t.getD (k - 1) 0) = grp cs (t.getD k 0)) : BL cs t ↑k = true := by
  rw [coupled_raw hk, show ((k : Int) - 1).toNat = k - 1 by omega, decide_eq_true (show 0 < (k : Int) by omega), decide_eq_true (show 0 < (EK cs (t.getD k 0)).grp from h0), decide_eq_true (show (EK cs (t.getD k 0)).grp = (EK cs (t.getD (k - 1) 0)).grp from e.symm)];rfl
theorem coupled_to {cs : List Car} {t : List Int} {k : Nat} (hk : k < t.length) (h : BL cs t ↑k = true) : 0 < k ∧ 0 < grp cs (t.getD k 0) ∧ grp cs (t.getD k 0) = grp cs (t.getD (k - 1) 0) := by
  rw [coupled_raw hk, show ((k : Int) - 1).toNat = k - 1 by omega] at h;simp only [Bool.and_eq_true, decide_eq_true_eq] at h;exact ⟨by omega, h.2.1, h.2.2⟩
theorem blocks_blk {cs : List Car} {t : List Int} (h : ∀ k, k < t.length → 0 < grp cs (t.getD k 0) → (∃ c ∈ t.take k, grp cs c = grp cs (t.getD k 0)) → BL cs t ↑k = true) :
    ∀ k, k ≤ t.length → Blk cs (AV cs t k) ∧ (0 < k → ∃ ys y, AV cs t k = ys ++ [y] ∧ t.getD (k - 1) 0 ∈ y) := by
  intro k
  induction k with
  | zero => intro _; exact ⟨⟨fun b hb => by simp [AV] at hb, by simp [AV]⟩, fun h => by omega⟩
  | succ k ih =>
    intro hk;obtain ⟨hb, hl⟩ := ih (by omega)
    by_cases hc : BL cs t ↑k = true
    · obtain ⟨c1, c2, c3⟩ := coupled_to (by omega) hc
      obtain ⟨ys, y, e, hy⟩ := hl c1;have e2 : AV cs t (k + 1) = ys ++ [y ++ [t.getD k 0]] := by
        rw [LO hc, e];simp [List.getD]
      rw [e2];rw [e] at hb;have ho := hb.one;have ha := List.pairwise_append.1 hb.apart;refine ⟨⟨fun b hb2 => ?_, List.pairwise_append.2 ⟨ha.1, by simp, fun b hb2 c hc2 => ?_⟩⟩, fun _ => ⟨ys, _, rfl, by simp⟩⟩
      · rcases List.mem_append.1 hb2 with hb2 | hb2
        · exact ho b (List.mem_append_left _ hb2)
        · have hb2 := List.mem_singleton.1 hb2
          subst hb2;have key : ∀ x ∈ y ++ [t.getD k 0], grp cs x = grp cs (t.getD (k - 1) 0) := fun x hx => by
            rcases List.mem_append.1 hx with hx | hx
            · exact ho y (by simp) x hx _ hy
            · have hx := List.mem_singleton.1 hx; subst hx; exact c3
          intro x hx z hz;rw [key x hx, key z hz]
      · have hc2 := List.mem_singleton.1 hc2
        subst hc2;intro x hx z hz h0;rcases List.mem_append.1 hz with hz | hz
        · exact ha.2.2 b hb2 y (by simp) x hx z hz h0
        · have hz := List.mem_singleton.1 hz; subst hz
          rw [c3];exact ha.2.2 b hb2 y (by simp) x hx _ hy h0
    · have hc' : BL cs t ↑k = false := by simpa using hc
      rw [blocksTo_no hc'];refine ⟨⟨fun b hb2 => ?_, List.pairwise_append.2 ⟨hb.apart, by simp, fun b hb2 c hc2 => ?_⟩⟩, fun _ => ⟨_, _, rfl, by simp⟩⟩
      · rcases List.mem_append.1 hb2 with hb2 | hb2
        · exact hb.one b hb2
        · have hb2 := List.mem_singleton.1 hb2
          subst hb2;intro x hx z hz;rw [List.mem_singleton.1 hx, List.mem_singleton.1 hz]
      · have hc2 := List.mem_singleton.1 hc2
        subst hc2;intro x hx z hz h0 e;have hz := List.mem_singleton.1 hz; subst hz;refine hc (h k (by omega) (by omega) ⟨x, ?_, e⟩);rw [← JY k (by omega)];exact List.mem_flatten.2 ⟨b, hb2, hx⟩
theorem rowsN_perm : ∀ (n : Nat) (bl : List (List Int)), bl.length = n → ∀ x ∈ rowsN n bl, ∃ bl' : List (List Int), bl'.Perm bl ∧ x = bl'.flatten := by
  intro n
  induction n with
  | zero => intro bl h x hx; simp [rowsN, ordN] at hx; subst hx; exact ⟨[], by rw [List.length_eq_zero_iff.1 h], rfl⟩
  | succ n ih =>
    intro bl h x hx;simp only [rowsN, ordN, ordFrom, List.mem_flatMap, List.mem_map] at hx;obtain ⟨i, hi, y, hy, rfl⟩ := hx;have hi := List.mem_range'_1.1 hi;obtain ⟨bl', hp, rfl⟩ := ih _ (erase_len (k := i) (by omega) h) y hy;refine ⟨bl.getD i [] :: bl', ?_, rfl⟩;refine (List.Perm.cons _ hp).trans ?_;have hb : i < bl.length := by omega
    exact erase_perm hb
theorem Fine.row {Y : Yard} (f : Fine Y) {r : List Int} (hr : r ∈ rowsN (blocksOf Y.cars (trk Y 0)).length (blocksOf Y.cars (trk Y 0))) : Valid { Y with tracks := Y.tracks.set 0 r } ∧ r.Perm (trk Y 0) := by
  have hlen := f.len; have hr1 := f.room1;obtain ⟨t, ts, ht⟩ : ∃ t ts, Y.tracks = t :: ts := by
    cases hh : Y.tracks with
    | nil => rw [hh] at hlen; simp at hlen; omega
    | cons t ts => exact ⟨t, ts, rfl⟩
  have ht0 : trk Y 0 = t := by show Y.tracks.getD 0 [] = t; rw [ht]; rfl
  rw [ht0] at hr ⊢;have hg := groups_iff.1 f.groups;have hrow : ∀ k, k < t.length → 0 < grp Y.cars (t.getD k 0) → (∃ c ∈ t.take k, grp Y.cars c = grp Y.cars (t.getD k 0)) → BL Y.cars t ↑k = true := fun k hk h0 hc => by
    have := hg 0 k (by rw [ht]; simp) (by rw [ht]; simpa using hk) (by rw [ht]; simpa using h0) (.inr (by rw [ht]; simpa using hc));rw [ht] at this; simpa using this
  obtain ⟨hb, _⟩ := blocks_blk hrow t.length (Nat.le_refl _);obtain ⟨bl', hp, rfl⟩ := rowsN_perm _ _ rfl r hr;have hflat : (blocksOf Y.cars t).flatten = t := by
    have := JY (cs := Y.cars) (t := t) t.length (Nat.le_refl _);rw [List.take_length] at this; exact this
  have hperm : bl'.flatten.Perm t := by
    have := hp.flatten;rw [hflat] at this; exact this
  have hrok := (Blk.perm hb hp.symm).row;refine ⟨Fine.valid ⟨f.cars, f.carOk, f.room1, f.room3, f.roomOk, by rw [List.length_set]; exact f.len, ?_, ?_, ?_, ?_, ?_⟩, hperm⟩
  all_goals simp only [ht, List.set_cons_zero]
  · intro x hx c hc
    have hok := f.ok;rw [ht] at hok;rcases List.mem_cons.1 hx with e | hx
    · subst e; exact hok t List.mem_cons_self c (hperm.mem_iff.1 hc)
    · exact hok x (List.mem_cons_of_mem _ hx) c hc
  · have hn := f.nodup
    rw [ht] at hn;rw [List.flatten_cons] at hn ⊢;exact (List.Perm.append_right _ hperm).nodup_iff.2 hn
  · intro k hk
    have hf := f.fits;rw [ht] at hf;cases k with
    | zero =>
      have := hf 0 (by simp);rw [List.getD_cons_zero] at this ⊢;have e : lenOf Y.cars bl'.flatten = lenOf Y.cars t := by
        unfold lenOf; exact perm_sum (hperm.map _)
      rw [e]; exact this
    | succ k => simpa using hf (k + 1) (by simpa using hk)
  · have ha := f.all
    rw [ht] at ha;rw [List.flatten_cons, List.length_append] at ha ⊢;rw [hperm.length_eq]; exact ha
  · refine groups_iff.2 ?_
    show GrpFrom Y.cars (bl'.flatten :: ts) [];intro i k hi hk h0 hm;rcases hm with hm | ⟨c, hc, e⟩
    · simp at hm
    · cases i with
      | zero =>
        simp only [List.getD_cons_zero, List.take_zero, List.flatten_nil, List.nil_append] at hk h0 hc e ⊢;obtain ⟨h1, h2⟩ := hrok k hk h0 ⟨c, hc, e⟩;exact KV hk h0 h1 h2
      | succ i =>
        have := hg (i + 1) k (by rw [ht]; simpa using hi) (by rw [ht]; simpa using hk) (by rw [ht]; simpa using h0) (.inr ⟨c, by
          rw [ht]
          simp only [List.take_succ_cons, List.flatten_cons, List.getD_cons_succ, List.mem_append] at hc ⊢
          rcases hc with (hc | hc) | hc
          · exact .inl (.inl (hperm.mem_iff.1 hc))
          · exact .inl (.inr hc)
          · exact .inr hc, by rw [ht]; simpa using e⟩)
        rw [ht] at this; simpa using this
theorem whole_perm_of {l : List Int} {n : Nat} (hn : l.Nodup) (hr : ∀ x ∈ l, 0 ≤ x ∧ x < (n : Int)) (hl : n ≤ l.length) : l.Perm (FS n) := by
  refine (List.perm_ext_iff_of_nodup hn ((HT _).imp fun hab => by omega)).2 fun x => ⟨fun hx => mem_wholeL.2 (hr x hx), fun hx => ?_⟩
  by_cases hm : x ∈ l
  · exact hm
  · have := range_bound (l := x :: l) (n := n) (List.nodup_cons.2 ⟨hm, hn⟩) (fun c hc => by
      rcases List.mem_cons.1 hc with rfl | hc
      · exact mem_wholeL.1 hx
      · exact hr c hc)
    simp only [List.length_cons] at this;omega
theorem Fine.whole_perm {Y : Yard} (f : Fine Y) : Y.tracks.flatten.Perm (FS Y.cars.length) :=
  whole_perm_of f.nodup (fun x hx => JA f.ok x hx) f.all
section
variable {Y : Yard} {k : Nat}
end
def stG (cs : List Car) (g : Int) : Bool → List Int → Nat
  | _, [] => 0
  | p, c :: r => (if grp cs c = g ∧ p = false then 1 else 0) + stG cs g (decide (grp cs c = g)) r
def sumG (cs : List Car) (g : Int) : List (List Int) → Nat
  | [] => 0
  | t :: ts => stG cs g false t + sumG cs g ts
def inN (g : Int) (met : List Int) : Nat := if g ∈ met then 1 else 0
def JH (cs : List Car) (g : Int) (t : List Int) (k : Nat) : Bool := decide (0 < k) && decide (grp cs (t.getD (k - 1) 0) = g)
theorem goG_st {cs : List Car} {ts : List (List Int)} {t : List Int} (ih : ∀ met, goGs cs ts met = 0 ↔ ∀ g, 0 < g → inN g met + sumG cs g ts ≤ 1) : ∀ (m k : Nat) (met : List Int), k + m = t.length →
    (∀ g, 0 < g → JH cs g t k = true → g ∈ met) →
    (goG cs t (goGs cs ts) k (t.drop k) met = 0 ↔ ∀ g, 0 < g → inN g met + stG cs g (JH cs g t k) (t.drop k) + sumG cs g ts ≤ 1) := by
  intro m
  induction m with
  | zero =>
    intro k met hk _;rw [goG_done (by omega), ih, BV (by omega)];simp only [stG, Nat.add_zero]
  | succ m ihm =>
    intro k met hk hp;have hlt : k < t.length := by omega
    have hcons : t.drop k = t.getD k 0 :: t.drop (k + 1) := BE hlt;have hpk : ∀ g, JH cs g t (k + 1) = decide (grp cs (t.getD k 0) = g) := fun g => by simp [JH]
    by_cases hb : (decide (0 < grp cs (t.getD k 0)) && (decide (grp cs (t.getD k 0) ∈ met) && !(BL cs t ↑k))) = true
    · rw [goG_hit hlt hb]
      simp only [Bool.and_eq_true, decide_eq_true_eq, Bool.not_eq_true'] at hb;refine ⟨(fun h => by cases h), fun h => ?_⟩
      exfalso
      have h1 := h _ hb.1;have hnp : JH cs (grp cs (t.getD k 0)) t k = false := by
        cases hq : JH cs (grp cs (t.getD k 0)) t k with
        | false => rfl
        | true =>
          simp only [JH, Bool.and_eq_true, decide_eq_true_eq] at hq;rw [KV hlt hb.1 hq.1 hq.2] at hb;cases hb.2.2
      rw [hcons, hnp] at h1;have e1 : inN (grp cs (t.getD k 0)) met = 1 := if_pos hb.2.1;have e2 : ∀ r, stG cs (grp cs (t.getD k 0)) false (t.getD k 0 :: r) = 1 + stG cs (grp cs (t.getD k 0)) (decide (grp cs (t.getD k 0) = grp cs (t.getD k 0))) r := fun r => by
        show (if _ then 1 else 0) + _ = _;rw [if_pos ⟨rfl, rfl⟩]
      rw [e1, e2] at h1;omega
    · have hb' := Bool.eq_false_iff.2 hb
      rw [goG_miss hlt hb', ihm (k + 1) _ (by omega) ?_]
      · refine forall_congr' fun g => forall_congr' fun hg => ?_
        rw [hpk, hcons];have hst : stG cs g (JH cs g t k) (t.getD k 0 :: t.drop (k + 1)) = (if grp cs (t.getD k 0) = g ∧ JH cs g t k = false then 1 else 0) + stG cs g (decide (grp cs (t.getD k 0) = g)) (t.drop (k + 1)) := rfl;rw [hst];have hin : inN g (if grp cs (t.getD k 0) ∈ met then met else met ++ [grp cs (t.getD k 0)]) = inN g met + (if grp cs (t.getD k 0) = g ∧ JH cs g t k = false then 1 else 0) := by
          by_cases e : grp cs (t.getD k 0) = g
          · cases hq : JH cs g t k with
            | true =>
              have hm := hp g hg hq;rw [e, if_pos hm, if_neg (by simp)]; rfl
            | false =>
              have hnm : g ∉ met := fun hm => by
                have hc : BL cs t ↑k = false := by
                  cases hc : BL cs t ↑k with
                  | false => rfl
                  | true =>
                    obtain ⟨c1, c2, c3⟩ := coupled_to hlt hc;have : JH cs g t k = true := by
                      simp only [JH, Bool.and_eq_true, decide_eq_true_eq];exact ⟨c1, c3.symm.trans e⟩
                    rw [hq] at this; cases this
                rw [e, hc] at hb;simp [hg, hm] at hb
              rw [e, if_neg hnm];simp [inN, hnm]
          · have e' : ¬ g = grp cs (t.getD k 0) := fun h => e h.symm
            by_cases hG : grp cs (t.getD k 0) ∈ met
            · rw [if_pos hG, if_neg (fun hh => e hh.1)]; rfl
            · rw [if_neg hG, if_neg (fun hh => e hh.1), Nat.add_zero]
              unfold inN;simp only [List.mem_append, List.mem_singleton, e', or_false]
        rw [hin]
        generalize stG cs g (decide (grp cs (t.getD k 0) = g)) (t.drop (k + 1)) = S
        constructor <;> intro h <;> omega
      · intro g hg hq
        rw [hpk] at hq;have e := of_decide_eq_true hq;subst e
        split
        · assumption
        · simp
theorem goGs_st {cs : List Car} : ∀ (ts : List (List Int)) (met : List Int), goGs cs ts met = 0 ↔ ∀ g, 0 < g → inN g met + sumG cs g ts ≤ 1 := by
  intro ts
  induction ts with
  | nil =>
    intro met;refine ⟨fun _ g _ => ?_, fun _ => rfl⟩;unfold inN sumG; split <;> omega
  | cons t ts ih =>
    intro met;have h := goG_st (cs := cs) (ts := ts) (t := t) ih t.length 0 met (by omega) (fun g _ h => by simp [JH] at h);rw [List.drop_zero] at h;show goG cs t (goGs cs ts) 0 t met = 0 ↔ _;rw [h];refine forall_congr' fun g => forall_congr' fun hg => ?_
    have e : JH cs g t 0 = false := by simp [JH]
    rw [e];show _ ↔ inN g met + (stG cs g false t + sumG cs g ts) ≤ 1
    constructor <;> intro h <;> omega
theorem groups_sum {Y : Yard} : CU Y = 0 ↔ ∀ g, 0 < g → sumG Y.cars g Y.tracks ≤ 1 := by
  unfold CU;rw [goGs_st];refine forall_congr' fun g => forall_congr' fun _ => ?_
  have e : inN g [] = 0 := by simp [inN]
  rw [e, Nat.zero_add]
def lastB (cs : List Car) (g : Int) : Bool → List Int → Bool
  | p, [] => p
  | _, c :: r => lastB cs g (decide (grp cs c = g)) r
theorem stG_append {cs : List Car} {g : Int} : ∀ (a b : List Int) (p : Bool), stG cs g p (a ++ b) = stG cs g p a + stG cs g (lastB cs g p a) b := by
  intro a
  induction a with
  | nil => intro b p; simp [stG, lastB]
  | cons c a ih => intro b p; simp only [List.cons_append, stG, lastB, ih]; omega
theorem lastB_at {cs : List Car} {g : Int} : ∀ (a : List Int) (p : Bool), 0 < a.length → lastB cs g p a = decide (grp cs (a.getD (a.length - 1) 0) = g) := by
  intro a
  induction a with
  | nil => intro p h; simp at h
  | cons c a ih =>
    intro p _;cases a with
    | nil => simp [lastB]
    | cons d r =>
      show lastB cs g (decide (grp cs c = g)) (d :: r) = _;rw [ih _ (by simp)];simp
theorem stG_tf {cs : List Car} {g : Int} (b : List Int) : stG cs g false b = stG cs g true b + if 0 < b.length ∧ grp cs (b.getD 0 0) = g then 1 else 0 := by
  cases b with
  | nil => simp [stG]
  | cons c r =>
    simp only [stG, List.length_cons, List.getD_cons_zero]
    by_cases h : grp cs c = g <;> simp [h] <;> omega
theorem stG_le {cs : List Car} {g : Int} (p : Bool) (b : List Int) : stG cs g p b ≤ stG cs g false b := by
  cases p with
  | false => exact Nat.le_refl _
  | true => rw [stG_tf b]; omega
theorem stG_app_le {cs : List Car} {g : Int} (a b : List Int) : stG cs g false (a ++ b) ≤ stG cs g false a + stG cs g false b := by
  rw [stG_append]; have := stG_le (cs := cs) (g := g) (lastB cs g false a) b; omega
theorem stG_cut {cs : List Car} {g : Int} {A : List Int} {n : Nat} (h : 0 < n → n < A.length → ¬ (grp cs (A.getD (n - 1) 0) = g ∧ grp cs (A.getD n 0) = g)) :
    stG cs g false A = stG cs g false (A.take n) + stG cs g false (A.drop n) := by
  have e : stG cs g false A = stG cs g false (A.take n ++ A.drop n) := by rw [List.take_append_drop]
  rw [e, stG_append]
  congr 1
  by_cases hn : 0 < n ∧ n < A.length
  · have hl : (A.take n).length = n := by rw [List.length_take]; omega
    rw [lastB_at _ _ (by omega), hl];have e1 : (A.take n).getD (n - 1) 0 = A.getD (n - 1) 0 := by simp only [List.getD, List.getElem?_take]; rw [if_pos (by omega)]
    rw [e1]
    by_cases hq : grp cs (A.getD (n - 1) 0) = g
    · have h2 : ¬ grp cs (A.getD n 0) = g := fun hh => h hn.1 hn.2 ⟨hq, hh⟩
      rw [decide_eq_true hq, stG_tf (A.drop n)];have e2 : (A.drop n).getD 0 0 = A.getD n 0 := by simp [List.getD]
      rw [e2, if_neg (fun hh => h2 hh.2)]; omega
    · rw [decide_eq_false hq]
  · by_cases h0 : n = 0
    · subst h0; simp [lastB]
    · rw [BV (by omega)]; simp [stG]
theorem sumG_set {cs : List Car} {g : Int} (X : List Int) : ∀ (ts : List (List Int)) (i : Nat), i < ts.length → sumG cs g (ts.set i X) + stG cs g false (ts.getD i []) = sumG cs g ts + stG cs g false X := by
  intro ts
  induction ts with
  | nil => intro i h; simp at h
  | cons t ts ih =>
    intro i h;cases i with
    | zero => simp only [List.set_cons_zero, sumG, List.getD_cons_zero]; omega
    | succ i => simp only [List.set_cons_succ, sumG, List.getD_cons_succ]; have := ih i (by simpa using h); omega
theorem free_cut {Y : Yard} {s : Shift} (m : MayOk Y s) (g : Int) (hg : 0 < g) : 0 < (EM Y s).toNat → (EM Y s).toNat < (trk Y s.frm).length → ¬ (grp Y.cars ((trk Y s.frm).getD ((EM Y s).toNat - 1) 0) = g ∧ grp Y.cars ((trk Y s.frm).getD (EM Y s).toNat 0) = g) := fun h1 h2 hh => by
  have hf := m.free;have e : EM Y s = ↑(EM Y s).toNat := by omega
  rw [e, KV h2 (by rw [hh.2]; exact hg) h1 (hh.1.trans hh.2.symm)] at hf;cases hf
theorem moved_trk {Y : Yard} {s : Shift} (m : MayOk Y s) : trk (moved Y s) s.frm = (trk Y s.frm).take (EM Y s).toNat ∧ trk (moved Y s) s.to = trk Y s.to ++ (trk Y s.frm).drop (EM Y s).toNat := by
  have hf := m.frm; have ht := m.to; have hne := m.ne;have hne' : s.frm.toNat ≠ s.to.toNat := by omega
  constructor
  · simp only [trk, moved, List.getD]
    rw [List.getElem?_set_self (by rw [List.length_set]; omega)]; rfl
  · simp only [trk, moved, List.getD]
    rw [List.getElem?_set_ne hne', List.getElem?_set_self (by omega)]; rfl
theorem moved_other {Y : Yard} {s : Shift} {k : Nat} (h1 : k ≠ s.frm.toNat) (h2 : k ≠ s.to.toNat) : (moved Y s).tracks.getD k [] = Y.tracks.getD k [] := by
  simp only [moved, List.getD];rw [List.getElem?_set_ne (Ne.symm h1), List.getElem?_set_ne (Ne.symm h2)]
theorem lenOf_cut (cs : List Car) (A : List Int) (n : Nat) : lenOf cs A = lenOf cs (A.take n) + lenOf cs (A.drop n) := by
  rw [← IG, List.take_append_drop]
theorem moved_sum {Y : Yard} {s : Shift} (m : MayOk Y s) (g : Int) (hg : 0 < g) : sumG Y.cars g (moved Y s).tracks ≤ sumG Y.cars g Y.tracks := by
  have hf := m.frm; have ht := m.to; have hne := m.ne;have hne' : s.to.toNat ≠ s.frm.toNat := by omega
  have hc := stG_cut (cs := Y.cars) (g := g) (A := trk Y s.frm) (n := (EM Y s).toNat) (free_cut m g hg);have ha := stG_app_le (cs := Y.cars) (g := g) (trk Y s.to) ((trk Y s.frm).drop (EM Y s).toNat);have s1 := sumG_set (cs := Y.cars) (g := g) (trk Y s.to ++ (trk Y s.frm).drop (EM Y s).toNat) Y.tracks s.to.toNat (by omega);have s2 := sumG_set (cs := Y.cars) (g := g) ((trk Y s.frm).take (EM Y s).toNat) (Y.tracks.set s.to.toNat (trk Y s.to ++ (trk Y s.frm).drop (EM Y s).toNat)) s.frm.toNat (by rw [List.length_set]; omega);have e2 : (Y.tracks.set s.to.toNat (trk Y s.to ++ (trk Y s.frm).drop (EM Y s).toNat)).getD s.frm.toNat [] = trk Y s.frm := by
    simp only [trk, List.getD];rw [List.getElem?_set_ne hne']
  rw [e2] at s2;have e1 : Y.tracks.getD s.to.toNat [] = trk Y s.to := rfl;rw [e1] at s1;show sumG Y.cars g ((Y.tracks.set s.to.toNat _).set s.frm.toNat _) ≤ _;omega
theorem Fine.mv {Y : Yard} {s : Shift} (f : Fine Y) (h : BK Y s = 0) : Fine (moved Y s) := by
  have m := mayOk h;have k := kin_moved h;have gd := f.good.moved h;have hf := m.frm; have ht := m.to; have hne := m.ne;have sm := f.good.small;refine ⟨f.cars, f.carOk, f.room1, f.room3, f.roomOk, by rw [k.len]; exact f.len, gd.ok, k.perm.nodup_iff.2 f.nodup, fun i hi => ?_, by rw [k.perm.length_eq]; exact f.all, ?_⟩
  · rw [k.len] at hi
    have t1 := moved_trk m;have e0 : (moved Y s).cars = Y.cars := rfl;have e9 : (moved Y s).room = Y.room := rfl;rw [e0, e9]
    by_cases h1 : i = s.frm.toNat
    · subst h1
      have e : (moved Y s).tracks.getD s.frm.toNat [] = _ := t1.1;rw [e];have h2 := f.fits s.frm.toNat hi;have h3 := lenOf_cut Y.cars (trk Y s.frm) (EM Y s).toNat;have h4 := FL sm ((trk Y s.frm).drop (EM Y s).toNat);have e5 : Y.tracks.getD s.frm.toNat [] = trk Y s.frm := rfl;rw [e5] at h2;omega
    · by_cases h2 : i = s.to.toNat
      · subst h2
        have e : (moved Y s).tracks.getD s.to.toNat [] = _ := t1.2;rw [e, IG];have := m.fits;omega
      · rw [moved_other h1 h2]; exact f.fits i hi
  · rw [groups_sum]
    intro g hg;have h1 := groups_sum.1 f.groups g hg;have h2 := moved_sum m g hg;exact Nat.le_trans h2 h1
theorem playFrom_one {Y : Yard} {s : Shift} (h : BK Y s = 0) : EG Y [s] = (moved Y s, 0) := by simp only [EG]; rw [if_pos h]
end Go.Sh
namespace Go.Sl
open Go
section
variable {ρ : Option Nat} {P : Program} {N : Nat} {ops : Array Oper} {i : Nat} {l : Sl} {I : Imm} {M : Seg} {ty : TypeId} {gd : Option (Nat × Bool)} {K : Sl → Imm → Seg → Prop}
end
inductive FpOk (ops : Array Oper) (i : Nat) (M : Seg) : List (Nat × Seg) → Prop
  | nil : FpOk ops i M []
  | wait {k : Nat} {R : Seg} {fp : List (Nat × Seg)} : wt ops i k = true → FpOk ops i M fp → FpOk ops i M ((k, R) :: fp)
  | none {k : Nat} {fp : List (Nat × Seg)} : FpOk ops i M fp → FpOk ops i M ((k, []) :: fp)
  | part {k : Nat} {R Sx : Seg} {fp : List (Nat × Seg)} : M.Perm (R ++ Sx) → FpOk ops i M fp → FpOk ops i M ((k, R) :: fp)
theorem FpOk.all {ops : Array Oper} {i : Nat} {M : Seg} {fp : List (Nat × Seg)} (h : FpOk ops i M fp) : ∀ p ∈ fp, wt ops i p.1 = true ∨ ∃ Sx, M.Perm (p.2 ++ Sx) := by
  induction h with
  | nil => intro p hp; simp at hp
  | wait h _ ih =>
    intro p hp;rcases List.mem_cons.1 hp with rfl | hp
    · exact .inl h
    · exact ih p hp
  | none _ ih =>
    intro p hp;rcases List.mem_cons.1 hp with rfl | hp
    · exact .inr ⟨M, List.Perm.refl _⟩
    · exact ih p hp
  | part h _ ih =>
    intro p hp;rcases List.mem_cons.1 hp with rfl | hp
    · exact .inr ⟨_, h⟩
    · exact ih p hp
section
variable {P : Program} {N : Nat} {ops : Array Oper} {al : List (Nat × Nat × Fresh)} {L0 : Sl} {F0 : Seg} {Kf : Sl → Imm → Seg → Prop} {fp : List (Nat × Seg)} {rest : List (Nat × Bool)} {i d : Nat} {v : Value} {l : Sl} {I : Imm} {M M' : Seg}
def lkB (d : Nat) (v : Value) (L0 : Sl) : Prop := match DU d L0 with | some u => v = u | none => True
theorem lkOk {L0 : Sl} {d : Nat} {v : Value} (h : lkB d v L0) : ∀ u, DU d L0 = some u → v = u := fun u hu => by
  unfold lkB at h; rw [hu] at h; exact h
theorem GY (h : Det P N ops i l I M d v) (next : OFPX P N ops al L0 F0 Kf ((i, M) :: fp) rest ((d, v) :: l) I M) (hL : lkB d v L0 := by first | exact trivial | exact rfl) : OFPX P N ops al L0 F0 Kf fp ((i, true) :: rest) l I M := ⟨d, v, M, [], h, by simp, lkOk hL, next⟩
theorem ofx_none (h : Det P N ops i l I [] d v) (next : OFPX P N ops al L0 F0 Kf ((i, []) :: fp) rest ((d, v) :: l) I M) (hL : lkB d v L0 := by first | exact trivial | exact rfl) : OFPX P N ops al L0 F0 Kf fp ((i, true) :: rest) l I M := ⟨d, v, [], M, h, by simp, lkOk hL, next⟩
theorem ofx_ac {T : TypeId} {cs : Array Value} (ha : CD al i = some (d, .cl T cs)) (next : ∀ b, OFPX P N ops al L0 F0 Kf fp rest ((d, .pointer (some ⟨b, 0, none⟩)) :: l) I ((b, Obj.cells cs T (0, 0)) :: M)) : OFPX P N ops al L0 F0 Kf fp ((i, false) :: rest) l I M := by
  unfold OFPX; rw [ha]; exact next
def dsB (ops : Array Oper) (i : Nat) (L0 : Sl) : Bool := match EF ops i with | some d => (DU d L0).isNone | none => true
theorem dsB_nil (ops : Array Oper) (i : Nat) : dsB ops i [] = true := by unfold dsB; split <;> rfl
theorem dsB_spec {L0 : Sl} (h : dsB ops i L0 = true) : ∀ d, EF ops i = some d → DU d L0 = none := fun d hd => by
  unfold dsB at h; rw [hd] at h; simpa using h
theorem ofx_act {Mx : Seg → Seg} (ha : CD al i = none) (hp : ∀ F, (Mx F).Perm (M ++ F))
    (h : ∀ F, Stp P N ops i l I (Mx F) fun l' I' M' => ∃ M1, M'.Perm (M1 ++ F) ∧ FpOk ops i M1 fp ∧ OFPX P N ops al L0 F0 Kf fp rest l' I' M1) (hS : dsB ops i L0 = true := by first | exact dsB_nil _ _ | kernel_rfl) : OFPX P N ops al L0 F0 Kf fp ((i, false) :: rest) l I M := by
  unfold OFPX; rw [ha];refine ⟨dsB_spec hS, ?_⟩;exact fun F _ => Stp.perm (hp F).symm (Stp.mono (h F) fun l' I' M' ⟨M1, a, b, c⟩ => ⟨M1, a, b.all, c⟩)
theorem ofx_nx {F M1 : Seg} (hp : M'.Perm (M1 ++ F)) (hf : FpOk ops i M1 fp) (next : OFPX P N ops al L0 F0 Kf fp rest l I M1) : ∃ M1, M'.Perm (M1 ++ F) ∧ FpOk ops i M1 fp ∧ OFPX P N ops al L0 F0 Kf fp rest l I M1 := ⟨M1, hp, hf, next⟩
theorem ofx_end (h : Kf l I M) : OFPX P N ops al L0 F0 Kf fp [] l I M := h
def noLooks (ops : Array Oper) (i : Nat) : Bool := match ops[i]? with | some o => (o.looksAt ops).isEmpty | none => false
theorem noLooks_spec (h2 : noLooks ops i = true) (t : Nat) : CV ops i t = false := by
  unfold noLooks at h2;unfold CV;cases ho : ops[i]? with
  | none => rfl
  | some o =>
    rw [ho] at h2;simp only [List.isEmpty_iff] at h2;simp [h2]
theorem alOk_cl {T : TypeId} {cs : Array Value} (h1 : EF ops i = some d) (h2 : noLooks ops i = true) (h3 : alAt P N ops [] i = some (d, T, cs)) : AlOk P N ops [] i d (.cl T cs) :=
  ⟨h1, rfl, (fun t ht => by rw [noLooks_spec h2] at ht; cases ht), fun I M => sal d T cs (fun b => ⟨b, rfl, rfl, rfl⟩) h3⟩
theorem hA_nil : ∀ i d E, CD [] i = some (d, E) → AlOk P N ops L0 i d E := fun _ _ _ h => by cases h
theorem hA_cons {E : Fresh} (h : AlOk P N ops L0 i d E) (r : ∀ i d E, CD al i = some (d, E) → AlOk P N ops L0 i d E) : ∀ i' d' E', CD ((i, d, E) :: al) i' = some (d', E') → AlOk P N ops L0 i' d' E' := fun i' d' E' h' => by
  unfold CD at h';cases hb : Nat.beq i i' with
  | true =>
    have e := Nat.eq_of_beq_eq_true hb;rw [hb] at h';simp only [cond_true, Option.some.injEq, Prod.mk.injEq] at h';obtain ⟨rfl, rfl⟩ := h';exact e ▸ h
  | false =>
    rw [hb] at h';exact r i' d' E' h'
end
def alInj (al : List (Nat × Nat × Fresh)) : Bool := al.all fun x => al.all fun y => !(Nat.beq x.2.1 y.2.1) || Nat.beq x.1 y.1
theorem alFind_mem : ∀ (al : List (Nat × Nat × Fresh)) {i d : Nat} {E : Fresh}, CD al i = some (d, E) → (i, d, E) ∈ al := by
  intro al
  induction al with
  | nil => intro i d E h; cases h
  | cons x r ih =>
    intro i d E h;unfold CD at h;cases hb : Nat.beq x.1 i with
    | true =>
      rw [hb] at h;simp only [cond_true, Option.some.injEq] at h;have e := Nat.eq_of_beq_eq_true hb;rcases x with ⟨x1, x2⟩
      simp only at h e;subst h e;exact List.mem_cons_self
    | false =>
      rw [hb] at h;exact List.mem_cons_of_mem _ (ih h)
theorem alInj_spec {al : List (Nat × Nat × Fresh)} (h : alInj al = true) : ∀ i j d E E', CD al i = some (d, E) → CD al j = some (d, E') → i = j := fun i j d E E' h1 h2 => by
  have g := List.all_eq_true.1 (List.all_eq_true.1 h _ (alFind_mem al h1)) _ (alFind_mem al h2);simp only [Nat.beq_refl, Bool.not_true, Bool.false_or] at g;exact Nat.eq_of_beq_eq_true g
section
variable {ρ : Option Nat} {P : Program} {N : Nat} {Q : Exit → Act → World → Prop} {ds : List Deferred} {C : List Nat → Code} {p : List Nat} {l : Sl} {I : Imm} {M0 M F0 : Seg}
theorem rdX (al : List (Nat × Nat × Fresh)) (n0 : Nat) (order : List (Nat × Bool)) (hM : M0.Perm (M ++ F0)) (hA : ∀ i d E, CD al i = some (d, E) → AlOk P N (JG (C p)) [] i d E) (h : OFPX P N (JG (C p)) al [] F0 (fun l I M => Seq (ρ := ρ) P N (JG (C p)) Q ds n0 l I (M ++ F0)) [] order l I M) (hI : alInj al = true := by kernel_rfl)
    (hm : P.follows .mixedOrders = true := by kernel_rfl) (hc : isDrawn (C p) = true := by kernel_rfl) (hok : okAllX al (JG (C p)) n0 order = true := by kernel_rfl) : Run (ρ := ρ) P N (C p) Q ds l I M0 := by
  obtain ⟨id, hid⟩ := IF hc;exact fun a w hS hD hW => run_drawX al n0 order hm hid hok hA (alInj_spec hI) (fun _ _ h => by cases h) h a w hS hD (hW.perm hM)
end
end Go.Sl
namespace Go.Sh
open Go Go.Sl
def Rev {α : Type} (d : α) (xs zs : List α) (k : Nat) : Prop := zs.length = xs.length ∧ ∀ p, p < xs.length → zs.getD p d = if p < k ∨ xs.length - k ≤ p then xs.getD (xs.length - 1 - p) d else xs.getD p d
theorem Rev.start {α : Type} (d : α) (xs : List α) : Rev d xs xs 0 := ⟨rfl, fun p hp => by rw [if_neg (by omega)]⟩
theorem getD_set {α : Type} {d z : α} {xs : List α} {j p : Nat} (hj : j < xs.length) : (xs.set j z).getD p d = if p = j then z else xs.getD p d := by
  simp only [List.getD]
  by_cases e : j = p
  · subst e; rw [List.getElem?_set_self hj, if_pos rfl]; rfl
  · rw [List.getElem?_set_ne e, if_neg (Ne.symm e)]
theorem Rev.step {α : Type} {d : α} {xs zs : List α} {k j : Nat} (h : Rev d xs zs k) (hj : j = xs.length - 1 - k) (hk : k < j) : Rev d xs ((zs.set k (zs.getD j d)).set j (zs.getD k d)) (k + 1) := by
  obtain ⟨h1, h2⟩ := h;refine ⟨by simp [h1], fun p hp => ?_⟩;rw [getD_set (by rw [List.length_set]; omega), getD_set (by omega)]
  by_cases e1 : p = j
  · subst e1
    rw [if_pos rfl, if_pos (by omega), h2 k (by omega), if_neg (by omega)]
    congr 1; omega
  · rw [if_neg e1]
    by_cases e2 : p = k
    · subst e2
      rw [if_pos rfl, if_pos (by omega), h2 j (by omega), if_neg (by omega), hj]
    · rw [if_neg e2, h2 p hp]
      by_cases e3 : p < k ∨ xs.length - k ≤ p
      · rw [if_pos e3, if_pos (by omega)]
      · rw [if_neg e3, if_neg (by omega)]
theorem Rev.done {α : Type} {d : α} {xs zs : List α} {k : Nat} (h : Rev d xs zs k) (hk : xs.length - 1 - k ≤ k) : zs = xs.reverse := by
  obtain ⟨h1, h2⟩ := h;refine list_eq (d := d) (by simp [h1]) fun p hp => ?_
  rw [h1] at hp;have e : xs.reverse.getD p d = xs.getD (xs.length - 1 - p) d := by
    simp only [List.getD];rw [List.getElem?_reverse hp]
  rw [e, h2 p hp]
  by_cases e3 : p < k ∨ xs.length - k ≤ p
  · rw [if_pos e3]
  · rw [if_neg e3]
    congr 1; omega
end Go.Sh
namespace Go.Sl
open Go
end Go.Sl
namespace Go.Sh
open Go Go.Sl
section
variable {Y : Yard} {s : Shift} {k : Nat}
end
theorem HP {Y : Yard} {s : Shift} (h : Valid Y) (hm : BK Y s = 0) : AX Y [s] = (moved Y s, 0) := (IK h).trans (playFrom_one hm)
section
variable {Y : Yard} {goal : Yard → Bool} {d k : Nat} {ds : List Shift}
end
theorem draw_of {Y : Yard} {s : Shift} (hv : Valid Y) (hs : s ∈ (AN Y).1) : BK Y s = 0 ∧ Valid (AX Y [s]).1 := by
  rw [IE hv] at hs;have hm := DO hs;refine ⟨hm, ?_⟩;rw [HP hv hm];exact (hv.fine.mv hm).valid
end Go.Sh
namespace Go.Sl
open Go
end Go.Sl
namespace Go.Sh
open Go Go.Sl
def yvD : Value × Value × Value := (undef, undef, undef)
def LY (t : Value × Value × Value) : Nat → Value
  | 0 => t.1
  | 1 => t.2.1
  | _ => t.2.2
def YardsV (I : Imm) (xs : List (Value × Value × Value)) (Ys : List Yard) : Prop := xs.length = Ys.length ∧ ∀ i, i < xs.length → IsYard I (.agg #[(xs.getD i yvD).1, (xs.getD i yvD).2.1, (xs.getD i yvD).2.2]) (Ys.getD i AD)
theorem YardsV.mono {I J : Imm} {xs : List (Value × Value × Value)} {Ys : List Yard} (h : YardsV I xs Ys) (le : I.le J) : YardsV J xs Ys := ⟨h.1, fun i hi => (h.2 i hi).mono le⟩
theorem YardsV.nil (I : Imm) : YardsV I [] [] := ⟨rfl, fun i hi => by simp at hi⟩
theorem YardsV.snoc {I : Imm} {xs : List (Value × Value × Value)} {Ys : List Yard} {a b c : Value} {Y : Yard} (h : YardsV I xs Ys) (hY : IsYard I (.agg #[a, b, c]) Y) : YardsV I (xs ++ [(a, b, c)]) (Ys ++ [Y]) := by
  refine ⟨by simp [h.1], fun i hi => ?_⟩;rw [List.length_append, List.length_singleton] at hi;have hl := h.1
  by_cases hb : i < xs.length
  · have e1 : (xs ++ [(a, b, c)]).getD i yvD = xs.getD i yvD := by simp [List.getD, List.getElem?_append_left hb]
    have e2 : (Ys ++ [Y]).getD i AD = Ys.getD i AD := by simp [List.getD, List.getElem?_append_left (show i < Ys.length by omega)]
    rw [e1, e2]; exact h.2 i hb
  · obtain rfl : i = xs.length := by omega
    have e1 : (xs ++ [(a, b, c)]).getD xs.length yvD = (a, b, c) := by simp [List.getD]
    have e2 : (Ys ++ [Y]).getD xs.length AD = Y := by simp [List.getD, hl]
    rw [e1, e2]; exact hY
theorem YardsV.at {I : Imm} {xs : List (Value × Value × Value)} {Ys : List Yard} (h : YardsV I xs Ys) {i : Nat} (hi : i < xs.length) :
    ∃ a b c, xs.getD i yvD = (a, b, c) ∧ DQ I a (Ys.getD i AD).cars ∧ BD I b (Ys.getD i AD).room ∧ IsRows I c (Ys.getD i AD).tracks := by
  obtain ⟨v1, v2, v3, h1, h2, h3, h4⟩ := h.2 i hi;simp only [Value.agg.injEq] at h1;have e := congrArg Array.toList h1;simp only [List.cons.injEq, and_true] at e;refine ⟨v1, v2, v3, ?_, h2, h3, h4⟩;rw [← e.1, ← e.2.1, ← e.2.2]
def RowsS (I : Imm) (vs : List Value) (Ls : List (List Shift)) : Prop := vs.length = Ls.length ∧ ∀ i, i < Ls.length → JX I (vs.getD i undef) (Ls.getD i [])
theorem RowsS.mono {I J : Imm} {vs : List Value} {Ls : List (List Shift)} (h : RowsS I vs Ls) (le : I.le J) : RowsS J vs Ls := ⟨h.1, fun i hi => (h.2 i hi).mono le⟩
theorem RowsS.nil (I : Imm) : RowsS I [] [] := ⟨rfl, fun i hi => by simp at hi⟩
theorem RowsS.snoc {I : Imm} {vs : List Value} {Ls : List (List Shift)} {v : Value} {l : List Shift} (h : RowsS I vs Ls) (hv : JX I v l) : RowsS I (vs ++ [v]) (Ls ++ [l]) := by
  have hl := h.1;refine ⟨by simp [hl], fun i hi => ?_⟩;rw [List.length_append, List.length_singleton] at hi
  by_cases hb : i < Ls.length
  · have e1 : (vs ++ [v]).getD i undef = vs.getD i undef := by simp [List.getD, List.getElem?_append_left (show i < vs.length by omega)]
    have e2 : (Ls ++ [l]).getD i [] = Ls.getD i [] := by simp [List.getD, List.getElem?_append_left hb]
    rw [e1, e2]; exact h.2 i hb
  · obtain rfl : i = Ls.length := by omega
    have e1 : (vs ++ [v]).getD Ls.length undef = v := by simp [List.getD, ← hl]
    have e2 : (Ls ++ [l]).getD Ls.length [] = l := by simp [List.getD]
    rw [e1, e2]; exact hv
end Go.Sh
namespace Go.Sl
open Go
end Go.Sl
namespace Go.Sh
open Go Go.Sl
end Go.Sh
namespace Go.Sl
open Go
section
variable {P : Program} {N : Nat} {ops : Array Oper} {i d : Nat} {l : Sl} {I : Imm} {R : Seg} {ty : TypeId} {gd : Option (Nat × Bool)}
end
end Go.Sl
namespace Go.Sh
open Go Go.Sl
theorem one_yvCell {ys : List (Value × Value × Value)} (h : (ys.all fun t => CS t.1 && (CS t.2.1 && CS t.2.2)) = true) : ∀ c ∈ DZ 3 LY ys, CS c = true := fun c hc => by
  simp only [DZ, List.mem_flatMap, List.mem_map, List.mem_range] at hc;obtain ⟨a, ha, f, hf, rfl⟩ := hc;have := List.all_eq_true.1 h _ ha;simp only [Bool.and_eq_true] at this
  match f, hf with
  | 0, _ => exact this.1
  | 1, _ => exact this.2.1
  | 2, _ => exact this.2.2
theorem yvCell_2 {xs : List (Value × Value × Value)} {i : Nat} {a b c : Value} (q : xs.getD i yvD = (a, b, c)) : LY (xs.getD i yvD) 2 = c := by rw [q]; rfl
theorem oyvs_getN {Ms : Seg} {a : Option Addr} {b n : Nat} {xs : List (Value × Value × Value)} (h : ORow 3 Ms a b n (fun i f => LY (xs.getD i yvD) f)) {I : Imm} {M : Seg} (hM : ∀ x ∈ Ms, x ∈ M) (i : Nat) (hi : i < n) {v1 v2 v3 : Value} (he : xs.getD i yvD = (v1, v2, v3)) : SeesN I M b (0 + i * 3) [v1, v2, v3] := fun k v hv => by
  have hk : k < 3 := (List.getElem?_eq_some_iff.1 hv).1;have hc := h.get i hi k hk I M hM;rw [he] at hc
  match k, hk with
  | 0, _ => exact (Option.some.inj hv) ▸ hc
  | 1, _ => exact (Option.some.inj hv) ▸ hc
  | 2, _ => exact (Option.some.inj hv) ▸ hc
theorem iterY_succ : ∀ (m : Nat) (s : List Yard × List Yard), iterY (m + 1) s = stepY (iterY m s) := by
  intro m
  induction m with
  | zero => intro s; rfl
  | succ m ih => intro s; exact ih (stepY s)
structure RHead (Y : Yard) (m frm : Nat) (L : List Yard) : Prop where
  it : iterY m ([Y], [Y]) = (L, L.drop frm)
  le : frm ≤ L.length
  kin : ∀ Z ∈ L, Kin Y Z
  val : ∀ Z ∈ L, Valid Z
  nod : (L.map Yard.tracks).Nodup
structure RIn (Y : Yard) (m e : Nat) (rest L : List Yard) : Prop where
  it : iterY (m + 1) ([Y], [Y]) = FH rest (L, L.drop e)
  le : e ≤ L.length
  kin : ∀ Z ∈ L, Kin Y Z
  val : ∀ Z ∈ L, Valid Z
  nod : (L.map Yard.tracks).Nodup
section
variable {Y : Yard} {m frm e i k : Nat} {L : List Yard}
theorem rhead_start (hv : Valid Y) : RHead Y 0 0 [Y] := ⟨rfl, Nat.zero_le _, (fun Z h => by simp at h; subst h; exact Kin.refl _), (fun Z h => by simp at h; subst h; exact hv), by simp⟩
theorem rin_start (h : RHead Y m frm L) : RIn Y m L.length (((L.take L.length).drop frm).flatMap KH) L := by
  refine ⟨?_, Nat.le_refl _, h.kin, h.val, h.nod⟩;rw [iterY_succ, h.it, List.take_length, List.drop_length]; rfl
def GM (X : Yard) (L : List Yard) (e i k : Nat) : List Yard := (((AN X).1.drop k).map fun s => (AX X [s]).1) ++ ((L.take e).drop (i + 1)).flatMap KH
variable {X z : Yard}
theorem rin_row (hi : i < e) (h : RIn Y m e (((L.take e).drop i).flatMap KH) L) : RIn Y m e (GM (L.getD i AD) L e i 0) L := by
  refine ⟨?_, h.le, h.kin, h.val, h.nod⟩;have hl := h.le;have hit : i < (L.take e).length := by rw [List.length_take]; omega
  have e1 : (L.take e).getD i AD = L.getD i AD := by
    simp only [List.getD]; rw [List.getElem?_take_of_lt hi]
  have hv := h.val _ (AM (d := AD) (xs := L) (k := i) (by omega));rw [h.it, BE (d := AD) hit, e1, List.flatMap_cons];unfold GM KH;rw [IE hv, List.drop_zero]
  congr 2
  refine List.map_congr_left fun s hs => ?_
  rw [HP hv (DO hs)]
theorem rin_known (hz0 : z = (AX X [(AN X).1.getD k AE]).1) (hk : k < (AN X).1.length) (hz : z.tracks ∈ L.map Yard.tracks) (h : RIn Y m e (GM X L e i k) L) : RIn Y m e (GM X L e i (k + 1)) L := by
  refine ⟨?_, h.le, h.kin, h.val, h.nod⟩;rw [h.it];unfold GM;rw [BE (d := AE) hk, List.map_cons, List.cons_append, ← hz0];show FH _ (HG _ _) = _;rw [show HG (L, L.drop e) z = (L, L.drop e) from if_pos hz]
theorem rin_new (hX : L.getD i AD = X) (hi : i < e) (hz0 : z = (AX X [(AN X).1.getD k AE]).1) (hk : k < (AN X).1.length) (hz : ¬ z.tracks ∈ L.map Yard.tracks) (h : RIn Y m e (GM X L e i k) L) :
    RIn Y m e (GM X (L ++ [z]) e i (k + 1)) (L ++ [z]) ∧ (L ++ [z]).getD i AD = X := by
  have hl := h.le;have kx := h.kin _ (AM (d := AD) (xs := L) (k := i) (by omega));have hv := h.val _ (AM (d := AD) (xs := L) (k := i) (by omega));rw [hX] at kx hv;have hdo := draw_of hv (AM (d := AE) (xs := (AN X).1) hk);have hmay := hdo.1;have hp := HP hv hmay;have e1 : (L ++ [z]).getD i AD = X := by rw [← hX]; simp only [List.getD]; rw [List.getElem?_append_left (by omega)]
  have e2 : (L ++ [z]).take e = L.take e := List.take_append_of_le_length hl;refine ⟨⟨?_, by rw [List.length_append]; omega, fun Z hZ => ?_, fun Z hZ => ?_, ?_⟩, e1⟩
  · rw [h.it]
    unfold GM;rw [e2, BE (d := AE) hk, List.map_cons, List.cons_append, ← hz0];show FH _ (HG _ _) = _;rw [show HG (L, L.drop e) z = _ from if_neg hz, List.drop_append_of_le_length hl]
  · rcases List.mem_append.1 hZ with h1 | h1
    · exact h.kin Z h1
    · simp only [List.mem_singleton] at h1
      subst h1;rw [hz0, hp]; exact kx.moved hmay
  · rcases List.mem_append.1 hZ with h1 | h1
    · exact h.val Z h1
    · simp only [List.mem_singleton] at h1
      subst h1;rw [hz0]; exact hdo.2
  · rw [List.map_append]
    exact List.nodup_append.2 ⟨h.nod, by simp, fun a ha b hb => by simp at hb; subst hb; intro e; subst e; exact hz ha⟩
theorem rin_rowend (hk : (AN X).1.length ≤ k) (h : RIn Y m e (GM X L e i k) L) : RIn Y m e (((L.take e).drop (i + 1)).flatMap KH) L := by
  refine ⟨?_, h.le, h.kin, h.val, h.nod⟩;rw [h.it]; unfold GM; rw [BV hk]; rfl
theorem rin_end (hi : e ≤ i) (h : RIn Y m e (((L.take e).drop i).flatMap KH) L) : RHead Y (m + 1) e L := by
  refine ⟨?_, h.le, h.kin, h.val, h.nod⟩;rw [h.it, List.drop_of_length_le (by rw [List.length_take]; omega)]; rfl
theorem rin_valid {rest : List Yard} (h : RIn Y m e rest L) (hi : i < L.length) : Valid (L.getD i AD) := h.val _ (AM (d := AD) hi)
theorem rin_few (f : Fine Y) (h4 : Y.cars.length ≤ 4) {rest : List Yard} (h : RIn Y m e rest L) : L.length ≤ 1000 := by
  have hf := f.whole_perm.length_eq;rw [HS] at hf;exact met_bound f (by omega) h.kin h.nod
theorem rhead_few (f : Fine Y) (h4 : Y.cars.length ≤ 4) (h : RHead Y m frm L) : L.length ≤ 1000 := by
  have hf := f.whole_perm.length_eq;rw [HS] at hf;exact met_bound f (by omega) h.kin h.nod
theorem rhead_reach (hv : Valid Y) (h4 : m ≤ 4) (h : RHead Y m frm L) : FD Y m = ((L.length : Int), 0) := by
  rw [reachE_ok hv (by simp [inB]; omega)];have := reach_iter hv.fine m;rw [h.it] at this;show (reach Y (m : Int).toNat, (0 : Int)) = _;rw [show (m : Int).toNat = m by omega, this]
theorem known_step {L : List Yard} {x : List (List Int)} {m : Nat} (hm : m < L.length) : (decide (x ∈ (L.take m).map Yard.tracks) || decide ((L.getD m AD).tracks = x)) = decide (x ∈ (L.take (m + 1)).map Yard.tracks) := by
  rw [ED (d := AD) hm, List.map_append, List.map_cons, List.map_nil]
  by_cases h1 : x ∈ (L.take m).map Yard.tracks
  · rw [decide_eq_true h1, decide_eq_true (List.mem_append_left _ h1)]; rfl
  · by_cases h2 : (L.getD m AD).tracks = x
    · rw [decide_eq_true h2, decide_eq_true (List.mem_append_right _ (List.mem_singleton.2 h2.symm)), Bool.or_true]
    · rw [decide_eq_false h1, decide_eq_false h2, decide_eq_false (by
        rw [List.mem_append, List.mem_singleton]
        exact fun h => h.elim h1 fun e => h2 e.symm)]; rfl
end
end Go.Sh
namespace Go.Proofs.YtcaocbhbofejnaaDoor
open Go Go.Sl Go.Sh
set_option maxRecDepth 100000
noncomputable def LP (p : List Nat) : Code := sub (AW Tryd.f5) p
set_option maxHeartbeats 1000000 in
theorem ShuntReach_ct (I : Imm) (x : Value) (nums : List Int) (x_f : BD I x nums) (hG : Glob I) : Ct Tryd.prog 5 #[x] I ([]) (fun v I' M' => v = .bool (true) ∧ M' = []) := by
 obtain ⟨M6, M7, U6, U9, R5, U7, U8, V0⟩ := id x_f;subst R5;refine fr (args := [_]) (N := 121) Tryd.func5 (fun F => ?_);show Run _ _ (LP []) _ _ [(0, .slice M6 nums.length M7)] _ _;refine rnm (rqr ?_);refine sp 1 [(2, .bool (false))] (sn (sp 1 [(19, .slice M6 nums.length M7)] ?_));have n3 := NewBag_ct I _ _ x_f;refine sS (sc (some 20) (n3 :) (.refl _) (fun U4 I1 U3 o0 P4 => ?_));obtain ⟨u6, R4, K5, K3⟩ := P4;rw [K5, K3]; clear K5 K3;replace hG := hG.mono o0;refine nm ?_;have n4 := YardOf_ct I1 (u6) (R4) (4) (2) (by omega) (by omega);refine sS (sc (some 21) (F := (F)) (n4 :) (.refl _) (fun Q8 R6 Q4 k6 G4 => ?_));obtain ⟨b4, b3, M3, l5, M4, g0, M5, a6, d9, o7, o2, J6, J7, p4, p5, p6, d2⟩ := G4;rw [o7, o2]; clear o7 o2;replace hG := hG.mono k6;obtain ⟨a0, a1, j1, s7⟩ := p4.shape;subst j1;obtain ⟨a2, a3, j2, s8⟩ := p5.shape;subst j2;obtain ⟨a4, a5, j3, s9⟩ := p6.shape;subst j3;have i2 := d2.1
 try simp only [LS, LA, LC, LN, LK] at i2
 refine AU (M' := ((bX u6 #[.int .u64 (b4)] 65) :: (l5 ++ (g0 ++ (d9 ++ F))))) (fun w h => by simpa only [AA, CA, NA] using h) (nm ?_);have p1 : Valid b3 := J6;have G1 : b3.cars.length ≤ 4 := J7;have m7 := p1.fine; have K1 := p1.good; have T9 := p1.lens;have T3 := m7.room1; have T4 := m7.len; have T5 := m7.room3;refine sS (sal 3 26 #[.slice none 0 0, .slice none 0 0, .slice none 0 0] (fun c5 => (sS (ss 0 0 c5 [.slice a0 b3.cars.length a1, .slice a2 b3.room.length a3, .slice a4 a6.length a5] [.slice a0 b3.cars.length a1, .slice a2 b3.room.length a3, .slice a4 a6.length a5] (_ :: _ :: _) (cs := [_, _, _]) rfl rfl (se (rq ?_))))));refine FE (B := ((bX c5 #[.slice a0 b3.cars.length a1, .slice a2 b3.room.length a3, .slice a4 a6.length a5] 26) :: (bX u6 #[.int .u64 (b4)] 65) :: (g0 ++ (d9 ++ F)))) BA p4 (by first | omega | (simp only [LS, LC, LN, LA, LK, LD] <;> omega) | decide) (PU (PM.symm)) (PR _) (fun R7 g6 b7 => ?_);replace hG := hG.mono g6;replace d2 := d2.mono g6;obtain ⟨B6, B8, B7, C1, l7, B9, C0, C2⟩ := id b7;cases l7;refine FE (B := ((bX c5 #[.slice a0 b3.cars.length a1, .slice a2 b3.room.length a3, .slice a4 a6.length a5] 26) :: (bX u6 #[.int .u64 (b4)] 65) :: (d9 ++ F))) 0 p5 (by first | omega | (simp only [LS, LC, LN, LA, LK, LD] <;> omega) | decide) (PU (PM.symm)) (PR _) (fun R8 e1 c3 => ?_);replace hG := hG.mono e1;replace d2 := d2.mono e1;replace b7 := b7.mono e1;obtain ⟨C3, C5, C4, C8, l8, C6, C7, C9⟩ := id c3;cases l8;refine FE (B := ((bX c5 #[.slice a0 b3.cars.length a1, .slice a2 b3.room.length a3, .slice a4 a6.length a5] 26) :: (bX u6 #[.int .u64 (b4)] 65) :: F)) undef p6 (by first | omega | (simp only [LS, LC, LN, LA, LK, LD] <;> omega) | decide) (PU (PM.symm)) (PR _) (fun q5 d6 g1 => ?_);replace hG := hG.mono d6;replace d2 := d2.mono d6;replace b7 := b7.mono d6;replace c3 := c3.mono d6;obtain ⟨D0, D2, D1, D5, l9, D3, D4, D6⟩ := id g1;cases l9;have c6 := d2.isRows g1;have n0 := d2.1;obtain ⟨A8, B0, A9, B3, q7, l6, B1, B2, B4, B5⟩ := id c6
 injection l6 with fr45_e1 fr45_e2 fr45_e3; subst fr45_e1; subst fr45_e3
 refine rr (sd (dnb 22 0 0 c5 [.slice a0 b3.cars.length a1, .slice a2 b3.room.length a3, .slice a4 a6.length a5]) (sS (sbs 23 26 1 #[.slice a0 b3.cars.length a1, .slice a2 b3.room.length a3, .slice a4 a6.length a5] (fun m6 => (sp 1 [(4, .slice (some ⟨m6, 0, none⟩) 1 1)] (sn (sp 2 [(6, .bool (false)), (5, vI (0))] (se (rq (rqr (sp 1 [(7, vI (0))] (se (rb 0 ?_)))))))))))));refine rpm (M' := ((bX c5 #[.slice a0 b3.cars.length a1, .slice a2 b3.room.length a3, .slice a4 a6.length a5] 26) :: (bX u6 #[.int .u64 (b4)] 65) :: ([(bX m6 #[.slice a0 b3.cars.length a1, .slice a2 b3.room.length a3, .slice a4 a6.length a5] 26)] ++ F))) ((PS _ _ _).trans (PC _ (PS _ _ _))) ?_;have G3 : Own 26 3 LY (.slice (some ⟨m6, 0, none⟩) 1 1) ([((.slice a0 b3.cars.length a1 : Value), (.slice a2 b3.room.length a3 : Value), (.slice a4 a6.length a5 : Value))] : List (Value × Value × Value)) [(bX m6 #[.slice a0 b3.cars.length a1, .slice a2 b3.room.length a3, .slice a4 a6.length a5] 26)] := Own.lit rfl rfl;have l3 : YardsV q5 _ [b3] := ((YardsV.nil q5).snoc (CH b7 c3 c6));simp only [NA, CA] at l3;refine rl (fun mz a w => ∃ J0 : Imm, ∃ m : Nat, ∃ frm : Nat, ∃ L : List Yard, ∃ i7 : Bool, ∃ h0 : Value, ∃ d8 : Seg, ∃ b9 : List (Value × Value × Value), (q5.le J0) ∧ (m ≤ 5) ∧ (RHead b3 m frm L) ∧ (i7 = true → L.length = frm) ∧ (YardsV J0 b9 (L)) ∧ (Own 26 3 LY h0 (b9) d8) ∧ Slots 121 [(4, h0), (5, vI ↑frm), (6, .bool (i7)), (7, vI ↑m), (3, vP c5 0)] a ∧ a.defers = [] ∧ St J0 ((bX c5 #[.slice a0 b3.cars.length a1, .slice a2 b3.room.length a3, .slice a4 a6.length a5] 26) :: (bX u6 #[.int .u64 (b4)] 65) :: (d8 ++ F)) w ∧ mz = 5 - m) ?_ ?_
 ·intro a w hS hD hW;exact ⟨_, q5, 0, 0, [b3], false, .slice (some ⟨m6, 0, none⟩) 1 1, [(bX m6 #[.slice a0 b3.cars.length a1, .slice a2 b3.room.length a3, .slice a4 a6.length a5] 26)], ([((.slice a0 b3.cars.length a1 : Value), (.slice a2 b3.room.length a3 : Value), (.slice a4 a6.length a5 : Value))] : List (Value × Value × Value)), IR _, by omega, rhead_start p1, (fun h => by cases h), l3, G3, hS.sub (.cons 4 rfl (.cons 5 rfl (.cons 6 rfl (.cons 7 rfl (.cons 3 rfl (.nil _)))))), hD, hW, rfl⟩
 rintro mz a w ⟨J0, m, frm, L, i7, h0, d8, b9, hJ0, hm, hh, P8, e3, k9, hS, hD, hW, rfl⟩
 refine BH hS hD hW ?_;clear hS hD hW a w;replace hG := hG.mono hJ0;replace b7 := b7.mono hJ0;replace c3 := c3.mono hJ0;replace c6 := c6.mono hJ0;obtain ⟨e4, e5, i4, q8⟩ := k9.shape; subst i4;have f6 := e3.1
 try simp only [LS, LA, LC, LN, LK] at f6
 have P1 := hh.le;have U0 := rhead_few m7 G1 hh;refine rq (rqr (sp 2 [(25, .bool (cmp .leq (↑m) (4)))] (se (rc 25 rfl (fun h1 => ?_) (fun h1 => ?_)))))
 ·
  have E3 := h1;have h1 := leq_t h1;refine AP (NX (rq (rb 1 (rqr (sd (dnb 29 0 0 c5 [.slice a0 b3.cars.length a1, .slice a2 b3.room.length a3, .slice a4 a6.length a5]) (sp 1 [(30, vI (↑m))] ?_))))));have n5 := Reach_ct J0 _ (b3) (↑m) (CH b7 c3 c6) (by first | exact hG | exact hG.mono hI);refine sS (sc (some 31) (n5 :) (.refl _) (fun Q9 A7 Q5 g7 G5 => ?_));obtain ⟨o8, o3⟩ := G5;rw [o8, o3]; clear o8 o3;replace hG := hG.mono g7;replace e3 := e3.mono g7;refine nm ?_;have K4 := rhead_reach p1 (m := m) (by omega) hh;have O7 : (FD b3 ↑m).2 = 0 := by rw [K4]
  have k5 : (FD b3 ↑m).1 = ↑L.length := by rw [K4]
  refine sp 5 [(9, vI (((FD b3 ↑m).2))), (8, vI (((FD b3 ↑m).1)))] (se (rq (rq ?_)));refine HA (fun a w => Slots 121 [(3, vP c5 0), (4, .slice e4 b9.length e5), (5, vI (↑frm)), (6, .bool (i7)), (7, vI (↑m)), (50, .bool ((!(cmp .eql (((FD b3 ↑m).2)) (0))) || ((!(cmp .eql (((FD b3 ↑m).1)) (↑(b9.length)))) || ((i7) && (cmp .gtr (↑(b9.length)) (↑frm))))))] a ∧ a.defers = [] ∧ St A7 ((bX c5 #[.slice a0 b3.cars.length a1, .slice a2 b3.room.length a3, .slice a4 a6.length a5] 26) :: (bX u6 #[.int .u64 (b4)] 65) :: (d8 ++ F)) w) ?_ ?_
  ·
   refine rr (sp 3 [(36, .bool (!(cmp .eql (((FD b3 ↑m).2)) (0))))] ?_);refine CC 36 rfl (fun h2 => ?_) (fun h2 => ?_)
   ·
    have g3 := h2;have g3 := DN (DH g3);refine sp 14 [(50, .bool (true))] (ee ?_);refine BJ (fun a w hS hD hW => ⟨hS.sub (.cons 3 rfl (.cons 4 rfl (.cons 5 rfl (.cons 6 rfl (.cons 7 rfl (.consE 50 rfl (congrArg Value.bool (by simp only [h2, Bool.true_and, Bool.false_and, Bool.and_true, Bool.and_false, Bool.true_or, Bool.false_or, Bool.or_true, Bool.or_false, cond_true, cond_false])) (.nil _))))))), hD, hW⟩)
   have g3 := h2;have g3 := DR (CW g3);refine sp 6 [(42, .bool (!(cmp .eql (((FD b3 ↑m).1)) (↑(b9.length)))))] ?_;refine CC 42 rfl (fun h3 => ?_) (fun h3 => ?_)
   ·
    have g4 := h3;have g4 := DN (DH g4);refine sp 8 [(50, .bool (true))] (ee ?_);refine BJ (fun a w hS hD hW => ⟨hS.sub (.cons 3 rfl (.cons 4 rfl (.cons 5 rfl (.cons 6 rfl (.cons 7 rfl (.consE 50 rfl (congrArg Value.bool (by simp only [h2, h3, Bool.true_and, Bool.false_and, Bool.and_true, Bool.and_false, Bool.true_or, Bool.false_or, Bool.or_true, Bool.or_false, cond_true, cond_false])) (.nil _))))))), hD, hW⟩)
   have g4 := h3;have g4 := DR (CW g4);refine sp 2 [(44, .bool (i7))] ?_;refine CC 44 rfl (fun h4 => ?_) (fun h4 => ?_)
   ·
    have E4 := h4;refine sp 6 [(50, .bool (cmp .gtr (↑(b9.length)) (↑frm)))] (ee ?_);refine BJ (fun a w hS hD hW => ⟨hS.sub (.cons 3 rfl (.cons 4 rfl (.cons 5 rfl (.cons 6 rfl (.cons 7 rfl (.consE 50 rfl (congrArg Value.bool (by simp only [h2, h3, h4, Bool.true_and, Bool.false_and, Bool.and_true, Bool.and_false, Bool.true_or, Bool.false_or, Bool.or_true, Bool.or_false, cond_true, cond_false])) (.nil _))))))), hD, hW⟩)
   have E4 := h4;refine sp 6 [(50, .bool (false))] (ee ?_);refine BJ (fun a w hS hD hW => ⟨hS.sub (.cons 3 rfl (.cons 4 rfl (.cons 5 rfl (.cons 6 rfl (.cons 7 rfl (.consE 50 rfl (congrArg Value.bool (by simp only [h2, h3, h4, Bool.true_and, Bool.false_and, Bool.and_true, Bool.and_false, Bool.true_or, Bool.false_or, Bool.or_true, Bool.or_false, cond_true, cond_false])) (.nil _))))))), hD, hW⟩)
  rintro a w ⟨hS, hD, hW⟩
  refine BH hS hD hW ?_;clear hS hD hW a w;refine rc 50 rfl (fun h5 => ?_) (fun h5 => ?_)
  ·
   have n2 := h5
   exfalso
   rcases or_t n2 with hq | hq
   ·exact DN (DH hq) O7
   rcases or_t hq with hq | hq
   ·exact DN (DH hq) (by omega)
   obtain ⟨P5, P6⟩ := and_t hq;have U1 := P8 P5;have U2 := JS P6;omega
  have n2 := h5;obtain ⟨n1, E5⟩ := or_f h5;have n1 := DR (CW n1);obtain ⟨g5, E6⟩ := or_f E5;have g5 := DR (CW g5);refine AP (NX (rqr (sp 3 [(10, vI (↑(b9.length)))] (DY 10 rfl (show (vI (↑(b9.length)) : Value) = vI (↑(L.length)) from congrArg (Value.int .i64) (by omega)) (se (rq (rqr (sp 2 [(11, vI (↑frm))] (se (rb 2 ?_))))))))));refine rl (fun mz a w => ∃ J1 : Imm, ∃ i : Nat, ∃ L1 : List Yard, ∃ i0 : Value, ∃ c7 : Seg, ∃ c2 : List (Value × Value × Value), (A7.le J1) ∧ (i ≤ L.length) ∧ (RIn b3 m L.length (((L1.take L.length).drop i).flatMap KH) L1) ∧ (YardsV J1 c2 (L1)) ∧ (Own 26 3 LY i0 (c2) c7) ∧ Slots 121 [(4, i0), (11, vI ↑i), (3, vP c5 0), (5, vI (↑frm)), (6, .bool (i7)), (7, vI (↑m)), (10, vI (↑(L.length)))] a ∧ a.defers = [] ∧ St J1 ((bX c5 #[.slice a0 b3.cars.length a1, .slice a2 b3.room.length a3, .slice a4 a6.length a5] 26) :: (bX u6 #[.int .u64 (b4)] 65) :: (c7 ++ F)) w ∧ mz = L.length - i) ?_ ?_
  ·intro a w hS hD hW;exact ⟨_, A7, frm, L, .slice e4 b9.length e5, d8, b9, IR _, P1, rin_start hh, e3, k9, hS.sub (.cons 4 rfl (.cons 11 rfl (.cons 3 rfl (.cons 5 rfl (.cons 6 rfl (.cons 7 rfl (.cons 10 rfl (.nil _)))))))), hD, hW, rfl⟩
  rintro mz a w ⟨J1, i, L1, i0, c7, c2, hJ1, hi, n8, b8, e2, hS, hD, hW, rfl⟩
  refine BH hS hD hW ?_;clear hS hD hW a w;replace hG := hG.mono hJ1;obtain ⟨d0, d1, i5, q9⟩ := e2.shape; subst i5;have f7 := b8.1
  try simp only [LS, LA, LC, LN, LK] at f7
  have T8 := n8.le;have P2 := rin_few m7 G1 n8;refine rq (rqr (sp 3 [(56, .bool (cmp .lss (↑i) (↑(L.length))))] (se (rc 56 rfl (fun h6 => ?_) (fun h6 => ?_)))))
  ·
   have E7 := h6;have h6 := CG h6;refine AP (NX (rq (rb 3 (rq ?_))));have G2 := rin_valid n8 (i := i) (by omega);have K0 := IE G2;have O8 : (AN (L1.getD (i) AD)).2 = 0 := by rw [K0]
   have K2 := G2.fine; have T6 := K2.room3; have T7 := K2.len;have T2 : ((AN (L1.getD (i) AD)).1).length ≤ 45 := by rw [K0]; exact draws_le G2.good (by omega)
   refine rr (sp 2 [(61, vI (↑i)), (60, .slice d0 c2.length d1)] ?_);obtain ⟨Q1, l0⟩ := e2.row yvD;refine sd (di 62 3 (i) l0.addr) ?_;obtain ⟨M8, M9, O0, q0, e8, e9, f0⟩ := b8.at (i := i) (by omega);obtain ⟨t0, t2, t1, t5, j4, t3, t4, t6⟩ := id e8;subst j4;obtain ⟨t7, t9, t8, u2, j5, u0, u1, u3⟩ := id e9;subst j5;obtain ⟨u4, u7, u5, v0, p9, j6, u8, u9, v1, v2⟩ := id f0;subst j6;refine sd (dn 63 (oyvs_getN l0 (fun x hx => by simp [hx]) (i) (by omega) q0)) ?_;have n6 := Draws_ct J1 _ ((L1.getD (i) AD)) (CH e8 e9 f0) (by first | exact hG | exact hG.mono hI);refine sS (sc (some 64) (n6 :) (.refl _) (fun R0 R9 Q6 g8 G6 => ?_));obtain ⟨R2, m8, o9, o4, p7⟩ := G6;rw [o9, o4]; clear o9 o4;replace hG := hG.mono g8;replace b8 := b8.mono g8;obtain ⟨d3, d4, m3, J8⟩ := p7.shape;subst m3;refine pm (M' := ((bX c5 #[.slice a0 b3.cars.length a1, .slice a2 b3.room.length a3, .slice a4 a6.length a5] 26) :: (bX u6 #[.int .u64 (b4)] 65) :: (m8 ++ (c7 ++ F)))) (PW PM) (sp 5 [(13, vI (((AN ((L1.getD (i) AD))).2))), (12, .slice d3 ((AN ((L1.getD (i) AD))).1).length d4)] (se (rq (rqr (sp 1 [(67, vI (((AN ((L1.getD (i) AD))).2)))] (sd (dcm 68 .neq (((AN ((L1.getD (i) AD))).2)) (0) false (by exact decide_eq_false (fun hh => hh O8))) (se (rcf 68 rfl (AP (NX (rq (rqr (sfz (A := ((bX c5 #[.slice a0 b3.cars.length a1, .slice a2 b3.room.length a3, .slice a4 a6.length a5] 26) :: (bX u6 #[.int .u64 (b4)] 65) :: (c7 ++ F))) AE p7 (PU (PM.symm)) (fun J9 g9 m1 => ?_))))))))))))));replace hG := hG.mono g9;replace b8 := b8.mono g9;obtain ⟨D7, D9, D8, E2, m0, E0, E1, c9⟩ := id m1;cases m0;refine sp 1 [(14, vI (0))] (se (rb 4 ?_));refine rl (fun mz a w => ∃ J2 : Imm, ∃ k : Nat, ∃ L2 : List Yard, ∃ i1 : Value, ∃ b6 : Seg, ∃ b5 : List (Value × Value × Value), (J9.le J2) ∧ (k ≤ ((AN (L1.getD (i) AD)).1).length) ∧ (RIn b3 m L.length (GM (L1.getD (i) AD) L2 L.length i k) L2) ∧ (L2.getD i AD = (L1.getD (i) AD)) ∧ (YardsV J2 b5 (L2)) ∧ (Own 26 3 LY i1 (b5) b6) ∧ Slots 121 [(4, i1), (14, vI ↑k), (3, vP c5 0), (5, vI (↑frm)), (6, .bool (i7)), (7, vI (↑m)), (10, vI (↑(L.length))), (11, vI (↑i)), (12, .slice d3 ((AN ((L1.getD (i) AD))).1).length d4)] a ∧ a.defers = [] ∧ St J2 ((bX c5 #[.slice a0 b3.cars.length a1, .slice a2 b3.room.length a3, .slice a4 a6.length a5] 26) :: (bX u6 #[.int .u64 (b4)] 65) :: (b6 ++ F)) w ∧ mz = ((AN (L1.getD (i) AD)).1).length - k) ?_ ?_
   ·intro a w hS hD hW;exact ⟨_, J9, 0, L1, .slice d0 c2.length d1, c7, c2, IR _, Nat.zero_le _, rin_row (by omega) n8, rfl, b8, e2, hS.sub (.cons 4 rfl (.cons 14 rfl (.cons 3 rfl (.cons 5 rfl (.cons 6 rfl (.cons 7 rfl (.cons 10 rfl (.cons 11 rfl (.cons 12 rfl (.nil _)))))))))), hD, hW, rfl⟩
   rintro mz a w ⟨J2, k, L2, i1, b6, b5, hJ2, hk, e0, hX, c4, c8, hS, hD, hW, rfl⟩
   refine BH hS hD hW ?_;clear hS hD hW a w;replace hG := hG.mono hJ2;replace b8 := b8.mono hJ2;replace c9 := c9.mono hJ2;obtain ⟨c0, c1, i6, r0⟩ := c8.shape; subst i6;have f8 := c4.1
   try simp only [LS, LA, LC, LN, LK] at f8
   have P0 := e0.le;have P3 := rin_few m7 G1 e0;refine rq (rqr (sp 4 [(72, .bool (cmp .lss (↑k) (↑(((AN ((L1.getD (i) AD))).1).length))))] (se (rc 72 rfl (fun h7 => ?_) (fun h7 => ?_)))))
   ·
    have E8 := h7;have h7 := CG h7;refine AP (NX (rq (rb 5 (rq ?_))));have n9 := rin_valid e0 (i := i) (by omega);have P7 : ((AN (L1.getD (i) AD)).1).getD k AE ∈ (AN (L2.getD i AD)).1 := by rw [hX]; exact AM (by omega)
    have O9 := draw_of n9 P7;have P9 : (AX (L2.getD (i) AD) [((AN (L1.getD (i) AD)).1).getD (k) AE]).2 = 0 := by rw [HP n9 O9.1]
    refine rdX (M := ((bX c5 #[.slice a0 b3.cars.length a1, .slice a2 b3.room.length a3, .slice a4 a6.length a5] 26) :: (bX u6 #[.int .u64 (b4)] 65) :: (b6 ++ []))) (F0 := F) [(12, 15, .cl 26 #[.slice none 0 0, .slice none 0 0, .slice none 0 0])] 14 [(0, true), (1, true), (2, true), (3, true), (4, true), (5, true), (6, true), (7, true), (8, false), (9, true), (10, true), (11, true), (12, false), (13, false)] (by simp only [AA, CA, NA, List.append_nil]; exact PR _) (hA_cons (alOk_cl (ops := JG (LP [1, 1, 1, 1, 0, 1, 0, 0, 1, 0, 0, 1, 1, 1, 0, 1, 0, 0, 1, 0, 0, 1, 1, 0, 1, 0, 0, 1, 0, 0, 0])) (i := 12) (d := 15) (by kernel_rfl) (by kernel_rfl) (by kernel_rfl)) hA_nil) ?_;refine GY (JZ (d := 76) (v := .slice c0 b5.length c1) (by kernel_rfl)) ?_;refine GY (JZ (d := 77) (v := vI (↑i)) (by kernel_rfl)) ?_;obtain ⟨Q2, l1⟩ := c8.row yvD;refine GY (di 78 3 (i) l1.addr) ?_;obtain ⟨O1, O2, O3, q2, f1, f2, f3⟩ := c4.at (i := i) (by omega);obtain ⟨v3, v5, v4, v8, j7, v6, v7, v9⟩ := id f1;subst j7;obtain ⟨x0, x2, x1, x5, j8, x3, x4, x6⟩ := id f2;subst j8;obtain ⟨x7, x9, x8, y2, q1, j9, y0, y1, y3, y4⟩ := id f3;subst j9;refine GY (dn 79 (oyvs_getN l1 (fun x hx => by simp [hx]) (i) (by omega) q2)) ?_;refine GY (JZ (d := 80) (v := .slice d3 ((AN ((L1.getD (i) AD))).1).length d4) (by kernel_rfl)) ?_;refine GY (JZ (d := 81) (v := vI (↑k)) (by kernel_rfl)) ?_;refine GY (di 82 3 (k) c9.addr) ?_;refine GY (EN (x := (.tmp 82)) (T := 54) (n := 3) (vs := [vI ((((AN ((L1.getD (i) AD))).1).getD (k) AE).frm), vI ((((AN ((L1.getD (i) AD))).1).getD (k) AE).to), vI ((((AN ((L1.getD (i) AD))).1).getD (k) AE).many)]) (d := 83) (ty := 54) (gd := none) (by kernel_rfl) rfl (by kernel_rfl) (by kernel_rfl) rfl rfl (HR c9 (k) (by omega))) ?_;refine ofx_act (Mx := fun FX => ((bX c5 #[.slice a0 b3.cars.length a1, .slice a2 b3.room.length a3, .slice a4 a6.length a5] 26) :: (bX u6 #[.int .u64 (b4)] 65) :: (b6 ++ FX))) rfl (fun FX => by simp only [AA, CA, NA, List.append_nil]; exact PR _) (fun FX => ?_);have n7 := Draw_ct J2 _ ((L2.getD (i) AD)) (((AN ((L1.getD (i) AD))).1).getD (k) AE) (CH f1 f2 f3) (by first | exact hG | exact hG.mono hI);refine id (sc (some 84) (F := ((bX c5 #[.slice a0 b3.cars.length a1, .slice a2 b3.room.length a3, .slice a4 a6.length a5] 26) :: (bX u6 #[.int .u64 (b4)] 65) :: (b6 ++ FX))) (n7 :) (PR _) (fun R1 q6 Q7 d7 G7 => ?_));obtain ⟨R3, p0, o5, J5⟩ := G7;rw [p0, o5]; clear p0 o5;replace hG := hG.mono d7;replace b8 := b8.mono d7;replace c4 := c4.mono d7;have m5 := J5;obtain ⟨K9, M0, M2, m4, e6, e7, d5⟩ := id m5;subst m4;obtain ⟨a9, b0, r1, r4, i8, r2, r3, r5⟩ := id e6;subst i8;obtain ⟨b1, b2, r6, r9, i9, r7, r8, s0⟩ := id e7;subst i9;obtain ⟨a7, a8, s1, s4, p8, j0, s2, s3, s5, s6⟩ := id d5;subst j0;refine ofx_nx (M1 := ((bX c5 #[.slice a0 b3.cars.length a1, .slice a2 b3.room.length a3, .slice a4 a6.length a5] 26) :: (bX u6 #[.int .u64 (b4)] 65) :: (b6 ++ []))) (by simp only [AA, CA, NA, List.append_nil]; exact (PR _)) (.wait (by kernel_rfl) (.wait (by kernel_rfl) (.wait (by kernel_rfl) (.wait (by kernel_rfl) (.wait (by kernel_rfl) (.wait (by kernel_rfl) (.wait (by kernel_rfl) (.wait (by kernel_rfl) .nil)))))))) ?_;show OFPX _ _ _ _ _ _ _ _ _ ((84, .tuple #[.agg #[.slice a9 (((AX ((L2.getD (i) AD)) [(((AN ((L1.getD (i) AD))).1).getD (k) AE)]).1).cars).length b0, .slice b1 (((AX ((L2.getD (i) AD)) [(((AN ((L1.getD (i) AD))).1).getD (k) AE)]).1).room).length b2, .slice a7 (((AX ((L2.getD (i) AD)) [(((AN ((L1.getD (i) AD))).1).getD (k) AE)]).1).tracks).length a8], vI (((AX ((L2.getD (i) AD)) [(((AN ((L1.getD (i) AD))).1).getD (k) AE)]).2))]) :: _) _ _;refine GY (JZ (d := 75) (v := .tuple #[.agg #[.slice a9 (((AX ((L2.getD (i) AD)) [(((AN ((L1.getD (i) AD))).1).getD (k) AE)]).1).cars).length b0, .slice b1 (((AX ((L2.getD (i) AD)) [(((AN ((L1.getD (i) AD))).1).getD (k) AE)]).1).room).length b2, .slice a7 (((AX ((L2.getD (i) AD)) [(((AN ((L1.getD (i) AD))).1).getD (k) AE)]).1).tracks).length a8], vI (((AX ((L2.getD (i) AD)) [(((AN ((L1.getD (i) AD))).1).getD (k) AE)]).2))]) (by kernel_rfl)) ?_;refine GY (JZ (d := 85) (v := .agg #[.slice a9 (((AX ((L2.getD (i) AD)) [(((AN ((L1.getD (i) AD))).1).getD (k) AE)]).1).cars).length b0, .slice b1 (((AX ((L2.getD (i) AD)) [(((AN ((L1.getD (i) AD))).1).getD (k) AE)]).1).room).length b2, .slice a7 (((AX ((L2.getD (i) AD)) [(((AN ((L1.getD (i) AD))).1).getD (k) AE)]).1).tracks).length a8]) (by kernel_rfl)) ?_;refine ofx_none (JZ (d := 86) (v := vI (((AX ((L2.getD (i) AD)) [(((AN ((L1.getD (i) AD))).1).getD (k) AE)]).2))) (by kernel_rfl)) ?_;refine ofx_ac rfl (fun i3 => ?_);refine ofx_act (Mx := fun FX => ((bX i3 #[.slice none 0 0, .slice none 0 0, .slice none 0 0] 26) :: (bX c5 #[.slice a0 b3.cars.length a1, .slice a2 b3.room.length a3, .slice a4 a6.length a5] 26) :: (bX u6 #[.int .u64 (b4)] 65) :: (b6 ++ FX))) rfl (fun FX => by simp only [AA, CA, NA, List.append_nil]; exact PR _) (fun FX => ?_);refine id (ss 0 0 i3 [.slice a9 (((AX ((L2.getD (i) AD)) [(((AN ((L1.getD (i) AD))).1).getD (k) AE)]).1).cars).length b0, .slice b1 (((AX ((L2.getD (i) AD)) [(((AN ((L1.getD (i) AD))).1).getD (k) AE)]).1).room).length b2, .slice a7 (((AX ((L2.getD (i) AD)) [(((AN ((L1.getD (i) AD))).1).getD (k) AE)]).1).tracks).length a8] [.slice a9 (((AX ((L2.getD (i) AD)) [(((AN ((L1.getD (i) AD))).1).getD (k) AE)]).1).cars).length b0, .slice b1 (((AX ((L2.getD (i) AD)) [(((AN ((L1.getD (i) AD))).1).getD (k) AE)]).1).room).length b2, .slice a7 (((AX ((L2.getD (i) AD)) [(((AN ((L1.getD (i) AD))).1).getD (k) AE)]).1).tracks).length a8] (_ :: _ :: _ :: _) (cs := [_, _, _]) rfl rfl ?_);refine ofx_nx (M1 := ((bX i3 #[.slice a9 (((AX ((L2.getD (i) AD)) [(((AN ((L1.getD (i) AD))).1).getD (k) AE)]).1).cars).length b0, .slice b1 (((AX ((L2.getD (i) AD)) [(((AN ((L1.getD (i) AD))).1).getD (k) AE)]).1).room).length b2, .slice a7 (((AX ((L2.getD (i) AD)) [(((AN ((L1.getD (i) AD))).1).getD (k) AE)]).1).tracks).length a8] 26) :: (bX c5 #[.slice a0 b3.cars.length a1, .slice a2 b3.room.length a3, .slice a4 a6.length a5] 26) :: (bX u6 #[.int .u64 (b4)] 65) :: (b6 ++ []))) (by simp only [AA, CA, NA, List.append_nil]; exact (PR _)) (.none (.wait (by kernel_rfl) (.wait (by kernel_rfl) (.wait (by kernel_rfl) (.wait (by kernel_rfl) (.wait (by kernel_rfl) (.wait (by kernel_rfl) (.wait (by kernel_rfl) (.wait (by kernel_rfl) (.wait (by kernel_rfl) (.wait (by kernel_rfl) .nil))))))))))) ?_;refine ofx_end (AU (M' := ((bX i3 #[.slice a9 (((AX ((L2.getD (i) AD)) [(((AN ((L1.getD (i) AD))).1).getD (k) AE)]).1).cars).length b0, .slice b1 (((AX ((L2.getD (i) AD)) [(((AN ((L1.getD (i) AD))).1).getD (k) AE)]).1).room).length b2, .slice a7 (((AX ((L2.getD (i) AD)) [(((AN ((L1.getD (i) AD))).1).getD (k) AE)]).1).tracks).length a8] 26) :: (bX c5 #[.slice a0 b3.cars.length a1, .slice a2 b3.room.length a3, .slice a4 a6.length a5] 26) :: (bX u6 #[.int .u64 (b4)] 65) :: (b6 ++ F))) (fun w h => by simpa only [AA, CA, NA, List.append_nil] using h) (nm ?_));refine sp 1 [(16, vI (((AX ((L2.getD (i) AD)) [(((AN ((L1.getD (i) AD))).1).getD (k) AE)]).2)))] (se (rq (rqr (sp 1 [(87, vI (((AX ((L2.getD (i) AD)) [(((AN ((L1.getD (i) AD))).1).getD (k) AE)]).2)))] (sd (dcm 88 .neq (((AX ((L2.getD (i) AD)) [(((AN ((L1.getD (i) AD))).1).getD (k) AE)]).2)) (0) false (by exact decide_eq_false (fun hh => hh P9))) (se (rcf 88 rfl (AP (NX (rqr (sp 1 [(17, .bool (false))] (DY 17 rfl (show (.bool (false) : Value) = .bool (decide (((AX (L2.getD (i) AD) [((AN (L1.getD (i) AD)).1).getD (k) AE]).1).tracks ∈ (L2.take 0).map Yard.tracks)) from congrArg Value.bool (by simp)) (se (rq (rqr (sp 1 [(18, vI (0))] (se (rb 6 ?_))))))))))))))))));refine rl (fun mz a w => ∃ q : Nat, (q ≤ L2.length) ∧ Slots 121 [(17, .bool (decide (((AX (L2.getD (i) AD) [((AN (L1.getD (i) AD)).1).getD (k) AE]).1).tracks ∈ (L2.take q).map Yard.tracks))), (18, vI ↑q), (3, vP c5 0), (4, .slice c0 b5.length c1), (5, vI (↑frm)), (6, .bool (i7)), (7, vI (↑m)), (10, vI (↑(L.length))), (11, vI (↑i)), (12, .slice d3 ((AN ((L1.getD (i) AD))).1).length d4), (14, vI (↑k)), (15, vP i3 0)] a ∧ a.defers = [] ∧ St q6 ((bX i3 #[.slice a9 (((AX ((L2.getD (i) AD)) [(((AN ((L1.getD (i) AD))).1).getD (k) AE)]).1).cars).length b0, .slice b1 (((AX ((L2.getD (i) AD)) [(((AN ((L1.getD (i) AD))).1).getD (k) AE)]).1).room).length b2, .slice a7 (((AX ((L2.getD (i) AD)) [(((AN ((L1.getD (i) AD))).1).getD (k) AE)]).1).tracks).length a8] 26) :: (bX c5 #[.slice a0 b3.cars.length a1, .slice a2 b3.room.length a3, .slice a4 a6.length a5] 26) :: (bX u6 #[.int .u64 (b4)] 65) :: (b6 ++ F)) w ∧ mz = L2.length - q) ?_ ?_
    ·intro a w hS hD hW;exact ⟨_, 0, Nat.zero_le _, hS.sub (.cons 17 rfl (.cons 18 rfl (.cons 3 rfl (.cons 4 rfl (.cons 5 rfl (.cons 6 rfl (.cons 7 rfl (.cons 10 rfl (.cons 11 rfl (.cons 12 rfl (.cons 14 rfl (.cons 15 rfl (.nil _))))))))))))), hD, hW, rfl⟩
    rintro mz a w ⟨q, hq, hS, hD, hW, rfl⟩
    refine BH hS hD hW ?_;clear hS hD hW a w;refine rq (rqr (sp 4 [(92, .bool (cmp .lss (↑q) (↑(b5.length))))] (se (rc 92 rfl (fun h8 => ?_) (fun h8 => ?_)))))
    ·
     have E9 := h8;have h8 := CG h8;refine AP (NX (rq (rb 7 ?_)));refine rd0 9 (ox 2 [(96, .bool (decide (((AX (L2.getD (i) AD) [((AN (L1.getD (i) AD)).1).getD (k) AE]).1).tracks ∈ (L2.take q).map Yard.tracks)))] ?_);refine GJ 96 (fun h9 => ?_) (fun h9 => ?_)
     ·
      have G0 := h9;refine ox 7 [(103, undef), (101, undef)] ?_;refine BM (sp 3 [(17, .bool (true))] (ee (NB (NX (rr (sp 1 [(93, vI (↑q))] (sd (da 94 (↑q) (1)) (sp 1 [(18, vI (↑q + 1))] (ee ?_)))))))));refine AJ (L2.length - (q+1)) (by omega) ?_;intro a w hS hD hW;exact ⟨q+1, by omega, hS.sub (.consE 17 rfl (congrArg Value.bool (by rw [← known_step (by omega), h9, Bool.true_or])) (.consE 18 rfl rfl (.cons 3 rfl (.cons 4 rfl (.cons 5 rfl (.cons 6 rfl (.cons 7 rfl (.cons 10 rfl (.cons 11 rfl (.cons 12 rfl (.cons 14 rfl (.cons 15 rfl (.nil _))))))))))))), hD, hW, rfl⟩
     have G0 := h9;refine ox 2 [(98, vI (↑q)), (97, .slice c0 b5.length c1)] ?_;obtain ⟨J3, l2⟩ := c8.row yvD;refine AC (di 99 3 (q) l2.addr) (ox 1 [(100, .pointer (some ⟨J3, 0 + q * 3 + 2, none⟩))] ?_);obtain ⟨O4, O5, O6, q4, k1, k3, f4⟩ := c4.at (i := q) (by omega);obtain ⟨y5, y7, y6, z0, k0, y8, y9, z1⟩ := id k1;subst k0;obtain ⟨z2, z4, z3, z7, k2, z5, z6, z8⟩ := id k3;subst k2;obtain ⟨z9, A1, A0, A4, q3, k4, A2, A3, A5, A6⟩ := id f4;subst k4;refine AC (BP (dl 101 (l2.get (q) (by omega) 2 (by decide) _ _ (fun x hx => by simp [hx]))) (yvCell_2 q4)) (ox 1 [(102, vP i3 2)] ?_);refine AC (dlb 103 0 2 i3 (.slice a7 (((AX ((L2.getD (i) AD)) [(((AN ((L1.getD (i) AD))).1).getD (k) AE)]).1).tracks).length a8)) ?_;refine BM (sd (dc 104 (fun I' hI => (LL I' _ _ _ _ (f4.mono hI) (d5.mono hI) :))) (sp 2 [(17, .bool (decide (((L2.getD (q) AD).tracks) = (((AX ((L2.getD (i) AD)) [(((AN ((L1.getD (i) AD))).1).getD (k) AE)]).1).tracks))))] (ee (NB (NX (rr (sp 1 [(93, vI (↑q))] (sd (da 94 (↑q) (1)) (sp 1 [(18, vI (↑q + 1))] (ee ?_))))))))));refine AJ (L2.length - (q+1)) (by omega) ?_;intro a w hS hD hW;exact ⟨q+1, by omega, hS.sub (.consE 17 rfl (congrArg Value.bool (by rw [← known_step (by omega), h9, Bool.false_or])) (.consE 18 rfl rfl (.cons 3 rfl (.cons 4 rfl (.cons 5 rfl (.cons 6 rfl (.cons 7 rfl (.cons 10 rfl (.cons 11 rfl (.cons 12 rfl (.cons 14 rfl (.cons 15 rfl (.nil _))))))))))))), hD, hW, rfl⟩
    have E9 := h8;have h8 := CF h8;refine CN 6 ((EP (EP (EB (NX (rqr (sp 2 [(107, .bool (!(decide (((AX (L2.getD (i) AD) [((AN (L1.getD (i) AD)).1).getD (k) AE]).1).tracks ∈ (L2.take q).map Yard.tracks))))] (se (rc 107 rfl (fun k5 => ?_) (fun k5 => ?_))))))))))
    ·
     have g2 := k5;have k5 := DH k5;have G9 : q = L2.length := by omega
     have K6 : ¬ ((AX (L2.getD (i) AD) [((AN (L1.getD (i) AD)).1).getD (k) AE]).1).tracks ∈ L2.map Yard.tracks := by (have hh := g2; rw [G9, List.take_length] at hh; simpa using hh)
     refine rr (sp 1 [(108, .slice c0 b5.length c1)] (sd (dnb 109 0 0 i3 [.slice a9 (((AX ((L2.getD (i) AD)) [(((AN ((L1.getD (i) AD))).1).getD (k) AE)]).1).cars).length b0, .slice b1 (((AX ((L2.getD (i) AD)) [(((AN ((L1.getD (i) AD))).1).getD (k) AE)]).1).room).length b2, .slice a7 (((AX ((L2.getD (i) AD)) [(((AN ((L1.getD (i) AD))).1).getD (k) AE)]).1).tracks).length a8]) (sS (sbs 110 26 1 #[.slice a9 (((AX ((L2.getD (i) AD)) [(((AN ((L1.getD (i) AD))).1).getD (k) AE)]).1).cars).length b0, .slice b1 (((AX ((L2.getD (i) AD)) [(((AN ((L1.getD (i) AD))).1).getD (k) AE)]).1).room).length b2, .slice a7 (((AX ((L2.getD (i) AD)) [(((AN ((L1.getD (i) AD))).1).getD (k) AE)]).1).tracks).length a8] (fun T1 => (sS (BB (d := 111) (x := (.tmp 108)) (y := (.tmp 110)) (T := 46) (T' := 46) (E := 26) (E' := 26) (sz := 3) (bs := 72) (z := .agg #[.slice none 0 0, .slice none 0 0, .slice none 0 0]) (cell := LY) (xs := b5) (ys := [((.slice a9 (((AX ((L2.getD (i) AD)) [(((AN ((L1.getD (i) AD))).1).getD (k) AE)]).1).cars).length b0 : Value), (.slice b1 (((AX ((L2.getD (i) AD)) [(((AN ((L1.getD (i) AD))).1).getD (k) AE)]).1).room).length b2 : Value), (.slice a7 (((AX ((L2.getD (i) AD)) [(((AN ((L1.getD (i) AD))).1).getD (k) AE)]).1).tracks).length a8 : Value))]) (Ms := b6) (ty := 46) (gd := none) (by kernel_rfl) rfl (by kernel_rfl) (by kernel_rfl) (by kernel_rfl) (by kernel_rfl) (by kernel_rfl) (by decide) (by kernel_rfl) rfl rfl (c8) (PU (PU (PU (PM.symm)))) (one_yvCell rfl) (DB 0 rfl rfl) (by first | omega | (have hq := c4.1; simp only [LC, LN, LA, LK, LD] at hq ⊢; omega)) (fun U5 m9 o6 => (AU (M' := ((bX i3 #[.slice a9 (((AX ((L2.getD (i) AD)) [(((AN ((L1.getD (i) AD))).1).getD (k) AE)]).1).cars).length b0, .slice b1 (((AX ((L2.getD (i) AD)) [(((AN ((L1.getD (i) AD))).1).getD (k) AE)]).1).room).length b2, .slice a7 (((AX ((L2.getD (i) AD)) [(((AN ((L1.getD (i) AD))).1).getD (k) AE)]).1).tracks).length a8] 26) :: (bX c5 #[.slice a0 b3.cars.length a1, .slice a2 b3.room.length a3, .slice a4 a6.length a5] 26) :: (bX u6 #[.int .u64 (b4)] 65) :: (m9 ++ F))) (fun w h => (h.perm (PW (PW (PW PM)))).sub (TC _ (TR _))) ?_)))))))));obtain ⟨p2, p3, J4, Q3⟩ := o6.shape;subst J4;have l4 : YardsV q6 _ (L2 ++ [(AX ((L2.getD (i) AD)) [(((AN ((L1.getD (i) AD))).1).getD (k) AE)]).1]) := (c4).snoc (CH e6 e7 d5);have f9 := l4.1
     try simp only [LS, LA, LC, LN, LK] at f9
     refine sp 1 [(4, .slice p2 (b5 ++ ([((.slice a9 (((AX ((L2.getD (i) AD)) [(((AN ((L1.getD (i) AD))).1).getD (k) AE)]).1).cars).length b0 : Value), (.slice b1 (((AX ((L2.getD (i) AD)) [(((AN ((L1.getD (i) AD))).1).getD (k) AE)]).1).room).length b2 : Value), (.slice a7 (((AX ((L2.getD (i) AD)) [(((AN ((L1.getD (i) AD))).1).getD (k) AE)]).1).tracks).length a8 : Value))])).length p3)] (ee (NB (NX (rr (sp 1 [(73, vI (↑k))] (sd (da 74 (↑k) (1)) (sp 1 [(14, vI (↑k + 1))] (ee ?_))))))));refine AJ (((AN (L1.getD (i) AD)).1).length - (k+1)) (by omega) ?_;intro a w hS hD hW;exact ⟨q6, k+1, L2 ++ [(AX ((L2.getD (i) AD)) [(((AN ((L1.getD (i) AD))).1).getD (k) AE)]).1], .slice p2 (b5 ++ ([((.slice a9 (((AX ((L2.getD (i) AD)) [(((AN ((L1.getD (i) AD))).1).getD (k) AE)]).1).cars).length b0 : Value), (.slice b1 (((AX ((L2.getD (i) AD)) [(((AN ((L1.getD (i) AD))).1).getD (k) AE)]).1).room).length b2 : Value), (.slice a7 (((AX ((L2.getD (i) AD)) [(((AN ((L1.getD (i) AD))).1).getD (k) AE)]).1).tracks).length a8 : Value))])).length p3, m9, b5 ++ ([((.slice a9 (((AX ((L2.getD (i) AD)) [(((AN ((L1.getD (i) AD))).1).getD (k) AE)]).1).cars).length b0 : Value), (.slice b1 (((AX ((L2.getD (i) AD)) [(((AN ((L1.getD (i) AD))).1).getD (k) AE)]).1).room).length b2 : Value), (.slice a7 (((AX ((L2.getD (i) AD)) [(((AN ((L1.getD (i) AD))).1).getD (k) AE)]).1).tracks).length a8 : Value))]), (IT hJ2 d7), by omega, (rin_new hX (by omega) (by rw [hX]) (by omega) K6 e0).1, (rin_new hX (by omega) (by rw [hX]) (by omega) K6 e0).2, l4, o6, hS.sub (.consE 4 rfl rfl (.consE 14 rfl rfl (.cons 3 rfl (.cons 5 rfl (.cons 6 rfl (.cons 7 rfl (.cons 10 rfl (.cons 11 rfl (.cons 12 rfl (.nil _)))))))))), hD, (hW.perm (PR _)).sub (TC _ (TR _)), rfl⟩
    have g2 := k5;have k5 := CW k5;have G9 : q = L2.length := by omega
    have Q0 : ((AX (L2.getD (i) AD) [((AN (L1.getD (i) AD)).1).getD (k) AE]).1).tracks ∈ L2.map Yard.tracks := by (have hh := g2; rw [G9, List.take_length] at hh; simpa using hh)
    refine AP (NB (NX (rr (sp 1 [(73, vI (↑k))] (sd (da 74 (↑k) (1)) (sp 1 [(14, vI (↑k + 1))] (ee ?_)))))));refine AJ (((AN (L1.getD (i) AD)).1).length - (k+1)) (by omega) ?_;intro a w hS hD hW;exact ⟨q6, k+1, L2, .slice c0 b5.length c1, b6, b5, (IT hJ2 d7), by omega, rin_known (by rw [hX]) (by omega) Q0 e0, hX, c4, c8, hS.sub (.consE 4 rfl rfl (.consE 14 rfl rfl (.cons 3 rfl (.cons 5 rfl (.cons 6 rfl (.cons 7 rfl (.cons 10 rfl (.cons 11 rfl (.cons 12 rfl (.nil _)))))))))), hD, (hW.perm (PR _)).sub (TC _ (TR _)), rfl⟩
   have E8 := h7;have h7 := CF h7;refine CN 4 ((EP (EP (EB (NX (rqr ?_))))))
   skip
   refine sp 2 [(113, vI (↑(b5.length)))] (sd (dcm 114 .gtr (↑(b5.length)) (1000) false (by exact decide_eq_false (by omega))) (se (rcf 114 rfl (AP (NB (NX (rr (sp 1 [(57, vI (↑i))] (sd (da 58 (↑i) (1)) (sp 1 [(11, vI (↑i + 1))] (ee ?_)))))))))));refine AJ (L.length - (i+1)) (by omega) ?_;intro a w hS hD hW;exact ⟨J2, i+1, L2, .slice c0 b5.length c1, b6, b5, (IT (IT (IT hJ1 g8) g9) hJ2), by omega, rin_rowend (by omega) e0, c4, c8, hS.sub (.consE 4 rfl rfl (.consE 11 rfl rfl (.cons 3 rfl (.cons 5 rfl (.cons 6 rfl (.cons 7 rfl (.cons 10 rfl (.nil _)))))))), hD, hW, rfl⟩
  have E7 := h6;have h6 := CF h6;refine CN 2 ((EP (EP (EB (NX (rr (sp 7 [(5, vI (↑(L.length))), (6, .bool (cmp .eql (↑(c2.length)) (↑(L.length))))] (ee (NB (NX (rr (sp 1 [(26, vI (↑m))] (sd (da 27 (↑m) (1)) (sp 1 [(7, vI (↑m + 1))] (ee ?_)))))))))))))));refine AJ (5 - (m+1)) (by omega) ?_;intro a w hS hD hW;exact ⟨J1, m+1, L.length, L1, (cmp .eql (↑(c2.length)) (↑(L.length))), .slice d0 c2.length d1, c7, c2, (IT (IT hJ0 g7) hJ1), by omega, rin_end (by omega) n8, (fun h => by have := DR h; omega), b8, e2, hS.sub (.consE 4 rfl rfl (.consE 5 rfl rfl (.consE 6 rfl rfl (.consE 7 rfl rfl (.cons 3 rfl (.nil _)))))), hD, hW, rfl⟩
 have E3 := h1;have h1 := leq_f h1;refine CN 0 ((EP (EP (EB (NX (rqr ?_))))));have m2 := shunting_ct J0 (by first | exact hG | exact hG.mono hI);refine sS (sc (some 120) (m2 :) (.refl _) (fun K8 T0 K7 o1 G8 => ?_));obtain ⟨k8, k7⟩ := G8;rw [k8, k7]; clear k8 k7;refine nm ?_;refine sp 1 [(2, .bool (true))] (se (BR (AF (t := 2) [] (by kernel_rfl) rfl (TC _ (TC _ (TT (TR _) (TB _ _)))) (IT (IT (IT (IT (IT (IT o0 k6) g6) e1) d6) hJ0) o1) ?_)));exact ⟨rfl, rfl⟩
end Go.Proofs.YtcaocbhbofejnaaDoor
namespace Go.Sl
open Go Go.ChangeShapes Go.WideShapes
def immOf (W : World) : Imm := ⟨W.os, W.tape, W.output, fun b => W.heap[b]?⟩
theorem st_immOf (W : World) : St (immOf W) [] W := ⟨rfl, rfl, rfl, fun _ _ h => h, fun _ _ h => by simp at h, by simp, fun _ _ h => by simp at h⟩
theorem GV {W : World} {a : Addr} {v : Value} (h : W.cell? a = some v) : a.spot = none ∧ ∃ cs T fz, W.heap[a.block]? = some (.cells cs T fz) ∧ cs[a.off]? = some v := by
  unfold World.cell? at h
  split at h
  · rename_i cs T fz hb
    split at h
    · cases h
    · rename_i hs
      refine ⟨by cases hx : a.spot with | none => rfl | some _ => rw [hx] at hs; simp at hs, cs, T, fz, hb, h⟩
  · cases h
theorem same_of_le {W W' : World} {J : Imm} {M : Seg} (le : (immOf W).le J) (st : St J M W') : (∀ b, b < W.heap.size → W'.heap[b]? = W.heap[b]?) ∧ W'.os = W.os ∧ W'.output = W.output := by
  refine ⟨fun b hb => ?_, st.os.trans le.os, st.output.trans le.output⟩;have h : (immOf W).blk b = some W.heap[b] := by show W.heap[b]? = _; simp [hb]
  rw [st.imm b _ (le.blk b _ h)];exact h.symm
theorem keptBut_same {W W' : World} {may : MemPlace → Prop} (h : ∀ b, b < W.heap.size → W'.heap[b]? = W.heap[b]?) (ho : W'.os = W.os) (hu : W'.output = W.output) : W.keptBut W' may := by
  refine ⟨ho, hu, fun i hi => ?_⟩;rw [h i hi];have : W.heap[i]? = some W.heap[i] := by simp [hi]
  rw [this];cases W.heap[i] <;> simp
theorem sameAt_heap {W W' : World} {p : MemPlace} (h : W'.heap[p.block]? = W.heap[p.block]?) : W.sameAt W' p := by
  cases p <;> simp only [MemPlace.block] at h <;> simp [World.sameAt, World.cell?, World.frozen?, h]
theorem isInts_of {W : World} {a : Addr} {len cap : Nat} {zs : List Int} (hl : len ≤ cap) (hm : cap ≤ maxLen) (hz : zs.length = len) (hr : len ≤ 140737488355328)
    (hc : ∀ i, i < zs.length → W.cell? (a.add i) = some (.int .i64 (zs.getD i 0))) : BD (immOf W) (.slice (some a) len cap) zs := by
  subst hz;refine ⟨some a, cap, a.block, a.off, rfl, hl, hr, ⟨fun h0 => ?_, fun i hi f hf => ?_⟩⟩
  · have := hc 0 h0
    obtain ⟨h1, _⟩ := GV this;have hs : a.spot = none := by
      unfold Addr.add at h1; simpa using h1
    cases a with
    | mk b o s => simp only at hs; subst hs; rfl
  · have hcell := hc i hi
    obtain ⟨h1, cs, T, fz, hb, hv⟩ := GV hcell;have e : a.add i = ⟨a.block, a.off + i, none⟩ := by
      cases a with
      | mk b o s =>
        have hs : s = none := by
          have h0 := hc 0 (by omega);obtain ⟨g1, _⟩ := GV h0;unfold Addr.add at g1; simpa using g1
        subst hs;exact EE b o i
    rw [e] at hb hv;obtain rfl : f = 0 := by omega
    exact ⟨rfl, cs, T, fz, by rw [Nat.mul_one]; exact hb, by simp only [Nat.mul_one, Nat.add_zero]; exact hv⟩
end Go.Sl
namespace Go
end Go
namespace Go.Proofs.YtcaocbhbofejnaaDoor
open Go Go.ChangeShapes Go.WideShapes Go.RowKit Go.Sl
set_option maxRecDepth 100000
theorem Row.own : ownKnob Tryd.prog.godebug = none := by kernel_rfl
theorem Row.laidOut : laidOutB Tryd.prog = true := by kernel_rfl
theorem Row.et : Tryd.prog.globalNamed "errors.errorType" = some 0 := by kernel_rfl
theorem Row.oneRow : ((List.range 187).filter fun t => Tryd.prog.rowNamed t [101, 114, 114, 111, 114]) = [108] := by kernel_rfl
theorem Row.size : Tryd.prog.types.size = 187 := by kernel_rfl
theorem Row.cells : Tryd.prog.cellsOf 3 = 1 := by kernel_rfl
theorem Row.bytes : Tryd.prog.bytesOf 3 = 8 := by kernel_rfl
theorem handle_of_laid {W : World} (h : laidMetH Tryd.prog [("errors.errorType", Rows.laid_errors_errorType)] W) : Glob (immOf W) := by
  have h' : laidMet Tryd.prog [] W ∧ handlesMet Tryd.prog [("errors.errorType", Rows.laid_errors_errorType)] W := h
  obtain ⟨name, u, ty, e1, e2, e3, e4, e5⟩ := h'.2 _ (List.mem_singleton.2 rfl)
  have en : name = [101, 114, 114, 111, 114] := (Option.some.inj e1).symm
  subst en
  obtain rfl : u = 144 := Option.some.inj (e2.symm.trans (by kernel_rfl))
  have hm : ty ∈ (List.range 187).filter fun t => Tryd.prog.rowNamed t [101, 114, 114, 111, 114] := List.mem_filter.2 ⟨List.mem_range.2 (by rw [← Row.size]; exact e3), e4⟩
  rw [Row.oneRow] at hm
  obtain rfl := List.mem_singleton.1 hm
  have hh : typeHandle Tryd.prog 108 = .pointer (some ⟨1, 108, none⟩) := by kernel_rfl
  rw [hh] at e5
  have hc : W.cell? ⟨0, 0, none⟩ = some (.iface 144 (.agg #[.pointer (some ⟨1, 108, none⟩)])) := by simpa using World.var?_cell Row.et e5 0
  obtain ⟨_, cs, T, fz, hb, hv⟩ := GV hc
  exact ⟨cs, T, fz, hb, hv⟩
noncomputable def laidWorld (os : Os) : World :=
  let w0 := World.holding Tryd.prog os ⟨#[], #[], []⟩
  { w0 with heap := w0.heap.modify 0 fun
      | .cells _ t frozen => .cells #[.iface 144 (.agg #[.pointer (some ⟨1, 108, none⟩)])] t frozen
      | o => o }
theorem laidWorld_met (os : Os) (args : Array Value) : laidMetH Tryd.prog [("errors.errorType", Rows.laid_errors_errorType)] ((laidWorld os).forCall (fun _ _ => 0) ⟨#[], args, []⟩).memory :=
  laidMetH_of_parts (laidMet_nil _ _) (by kernel_rfl)
theorem law_lifted (os : Os) (started : os.Started) (H : Type) (enc : TypeId × Value → H) :
    ReturnsInHanded {} Tryd.checked os 5 .any (fun w args => (Rows.shuntReachSpec.pre enc Tryd.prog Tryd.f5 [] false w args ∧ laidMetH Tryd.prog [("errors.errorType", Rows.laid_errors_errorType)] w) ∧ sizedMet enc Tryd.prog Tryd.f5 (OpenSpec.ofChange Rows.shuntReachSpec) false w args)
      (Rows.shuntReachSpec.post enc Tryd.prog Tryd.f5 false true false false) := by
  refine returnsInHanded_of_change_and (C := Tryd.checked) (X := fun w _ => laidMetH Tryd.prog [("errors.errorType", Rows.laid_errors_errorType)] w) (fun _ _ _ hh h => h.of_heap hh) Row.own started (by kernel_rfl) Tryd.func5
    (ChangeSpec.witness_at (enc := enc) (C := Tryd.checked) (os := os) (X := fun w _ => laidMetH Tryd.prog [("errors.errorType", Rows.laid_errors_errorType)] w) false (laidWorld os) #[.slice none 0 0] 8 rfl (by kernel_rfl) (by kernel_rfl) (by kernel_rfl) (by kernel_rfl) (by kernel_rfl) (laidWorld_met os _)) ?_
  intro W base args ds gs before hval0 hW _ hsz0 hL _
  have hsz : (DataW.weightsEach Tryd.prog (Tryd.f5.params.toList ++ Rows.shuntReachSpec.plain.varTypes Tryd.prog) (ds ++ gs)).all (· ≤ reachBytes) = true := hsz0
  have hval : ∀ (j : Nat) t v, Tryd.f5.params[j]? = some t → args[j]? = some v → Value.okWide Tryd.prog W .any base t v := hval0
  clear hsz0 hval0
  have hW' := hW
  obtain ⟨p, q, hA0, hV, rfl, hfz, hnd⟩ := hW
  have hA : DataW.TrodAll enc Tryd.prog W 0 (fun _ => true) true Tryd.f5.params.toList args.toList ds p := hA0
  rw [Tryd.params5] at hA hval
  obtain ⟨v0, d0, rfl, rfl, h0⟩ := trodAll_one hA
  obtain ⟨a0, len, cap, rfl⟩ := okWide_slice Tryd.underlying22 (hval 0 22 v0 rfl rfl)
  obtain ⟨rfl, rfl⟩ := trodVars_none hV
  have hg := handle_of_laid hL
  have h0k := h0
  obtain ⟨fu0, hf0⟩ := h0
  have hlt : ∀ x ∈ p, x.block < W.heap.size := fun x hx => by simpa using hW'.lt x (List.mem_append_left _ hx)
  obtain ⟨nums, hin⟩ : ∃ nums : List Int, BD (immOf W) (.slice a0 len cap) nums := by
    rcases open_ints Tryd.underlying22 Tryd.underlying3 Row.cells hf0 with ⟨hcs, hx⟩ | ⟨a, len', cap', zs, hcs, _, hl, hm, hz, hx, hcell, hwz⟩
    · simp [Value.cells] at hcs
      obtain ⟨rfl, rfl, rfl⟩ := hcs
      exact ⟨[], IsSl.nil _⟩
    · simp [Value.cells] at hcs
      obtain ⟨rfl, rfl, rfl⟩ := hcs
      simp only [Prod.mk.injEq] at hx
      obtain ⟨rfl, rfl⟩ := hx
      simp only [if_true] at hz
      have hreach : len * 8 ≤ 140737488351232 := by
        have := sized_slice hsz (j := 0) (t := 22) (e := 3) rfl rfl Tryd.underlying22
        rw [Row.bytes] at this
        simp only [lits, List.length_map, List.length_take, List.length_drop, reachBytes] at this
        omega
      refine ⟨zs.take len, isInts_of hl hm (by simp; omega) (by omega) fun i hi => ?_⟩
      have hi2 : i < len := by simp at hi; omega
      rw [hcell i (by omega)]
      congr 2
      simp [List.getD, List.getElem?_take, hi2]
  refine (ShuntReach_ct (immOf W) _ nums hin hg [] W (by simpa using st_immOf W)).mono fun e W' ⟨v, I', M', he, hle, ⟨hv, hM⟩, st'⟩ => ?_
  subst he
  subst hv
  obtain ⟨hsame, hos, hout⟩ := same_of_le hle st'
  have hk : ∀ may : MemPlace → Prop, W.keptBut W' may := fun may => keptBut_same hsame hos hout
  refine ⟨_, rfl, ?_⟩
  refine ⟨_, _, _, [], p, [], hW', ?_, ?_, ?_, hk _, fun h => by cases h⟩
  · exact trodAll_mk1 (shut_bool Tryd.underlying4 true)
  · refine trodAll_mk1 (WideElems.Trod_stays Row.laidOut (by kernel_rfl) (of_decide_eq_true (by kernel_rfl)) h0k (fun x hx => ?_) (fun x hx => by simpa using hlt x hx))
    exact sameAt_heap (hsame _ (hlt x hx))
  · rfl
theorem f_holds : Rows.ShuntReachSaid :=
  OpenClaim.holds_of_wide 5 Tryd.f5 rfl rfl rfl rfl rfl rfl rfl ⟨rfl, rfl, rfl, rfl, rfl⟩ rfl rfl rfl rfl rfl (by kernel_rfl) Tryd.func5 (by kernel_rfl)
    (of_decide_eq_true (by kernel_rfl)) (by unfold Func.isWrapper; rw [if_neg (of_decide_eq_false (by kernel_rfl))]; exact ⟨rfl, rfl⟩)
    (fun os started H enc _ => law_lifted os started H enc)
theorem card_holds : Rows.ShuntReachCardSaid :=
  Claim7.holds_tied_plain_at .later [] [.handle] true (true, "57167870086b9e3ec6568a57c656ef4c9cbf620b6add0c9ed48a6a0fc89a47bf") true
    f_holds (fun _ h => by cases h) (by kernel_rfl) (fun _ h => by cases h) shuntReach_row_tie rfl ⟨rfl, rfl⟩ (by kernel_rfl) rfl
    (fun f fn hf hfn => by
      obtain rfl : f = 5 := Option.some.inj (hf.symm.trans (by kernel_rfl))
      obtain rfl : fn = Tryd.f5 := (Option.some.inj (Tryd.func5.symm.trans hfn)).symm
      exact ⟨by kernel_rfl, fun j t ht => by
        rw [Tryd.params5] at ht
        have h3 : t = 22 := by
          rcases j with _ | j
          · simpa using ht.symm
          · simp at ht
        subst h3
        exact (show Tryd.prog.wantsStandIn 22 = false by kernel_rfl)⟩)
    (by kernel_rfl)
#print axioms card_holds
end Go.Proofs.YtcaocbhbofejnaaDoor

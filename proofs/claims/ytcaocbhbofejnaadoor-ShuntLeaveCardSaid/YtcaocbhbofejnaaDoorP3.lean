/- A part of the proof of the laws of this seat. -/
import Derived.Test.YtcaocbhbofejnaaDoorP2
import Derived.Test.YtcaocbhbofejnaaDoorP0
import Derived.RangeFuncRecord
import Derived.RangeFuncLeaves
import Derived.Scope
set_option linter.unusedVariables false
set_option linter.unusedSimpArgs false
namespace Go.Sh
open Go Go.Sl

def mk3 (f t j : Nat) : Shift := ⟨f, t, j⟩
def drawsFT (Y : Yard) (f t k : Nat) : List Shift := ((List.range' k ((Y.tracks.getD f []).length - k)).map fun j => mk3 f t (j + 1)).filter fun s => decide (mayErr Y s = 0)
def drawsF (Y : Yard) (f t : Nat) : List Shift := (List.range' t (Y.tracks.length - t)).flatMap fun t => drawsFT Y f t 0
def drawsY (Y : Yard) (f : Nat) : List Shift := (List.range' f (Y.tracks.length - f)).flatMap fun f => drawsF Y f 0
def draws (Y : Yard) : List Shift := drawsY Y 0

theorem range_cons {k n : Nat} (h : k < n) : List.range' k (n - k) = k :: List.range' (k + 1) (n - (k + 1)) := by
  have : n - k = (n - (k + 1)) + 1 := by omega
  rw [this, List.range'_succ]
theorem drawsFT_yes {Y : Yard} {f t k : Nat} (h : k < (Y.tracks.getD f []).length) (hm : mayErr Y (mk3 f t (k + 1)) = 0) : drawsFT Y f t k = mk3 f t (k + 1) :: drawsFT Y f t (k + 1) := by
  unfold drawsFT; rw [range_cons h]; simp [hm]
theorem drawsFT_no {Y : Yard} {f t k : Nat} (h : k < (Y.tracks.getD f []).length) (hm : mayErr Y (mk3 f t (k + 1)) ≠ 0) : drawsFT Y f t k = drawsFT Y f t (k + 1) := by
  unfold drawsFT; rw [range_cons h]; simp [hm]
theorem drawsFT_done {Y : Yard} {f t k : Nat} (h : (Y.tracks.getD f []).length ≤ k) : drawsFT Y f t k = [] := by
  unfold drawsFT; rw [show (Y.tracks.getD f []).length - k = 0 by omega]; rfl
theorem drawsF_step {Y : Yard} {f t : Nat} (h : t < Y.tracks.length) : drawsF Y f t = drawsFT Y f t 0 ++ drawsF Y f (t + 1) := by
  unfold drawsF; rw [range_cons h]; simp
theorem drawsF_done {Y : Yard} {f t : Nat} (h : Y.tracks.length ≤ t) : drawsF Y f t = [] := by
  unfold drawsF; rw [show Y.tracks.length - t = 0 by omega]; rfl
theorem drawsY_step {Y : Yard} {f : Nat} (h : f < Y.tracks.length) : drawsY Y f = drawsF Y f 0 ++ drawsY Y (f + 1) := by
  unfold drawsY; rw [range_cons h]; simp
theorem drawsY_done {Y : Yard} {f : Nat} (h : Y.tracks.length ≤ f) : drawsY Y f = [] := by
  unfold drawsY; rw [show Y.tracks.length - f = 0 by omega]; rfl
theorem mem_draws_may {Y : Yard} {s : Shift} (h : s ∈ draws Y) : mayErr Y s = 0 := by
  simp only [draws, drawsY, drawsF, drawsFT, List.mem_flatMap, List.mem_filter, decide_eq_true_eq] at h
  obtain ⟨_, _, _, _, _, h⟩ := h
  exact h
theorem mem_draws {Y : Yard} {s : Shift} : s ∈ draws Y ↔ mayErr Y s = 0 := by
  refine ⟨mem_draws_may, fun h => ?_⟩
  have m := mayOk h
  simp only [draws, drawsY, drawsF, drawsFT, List.mem_flatMap, List.mem_filter, decide_eq_true_eq, List.mem_map, List.mem_range'_1]
  refine ⟨s.frm.toNat, by have := m.frm; omega, s.to.toNat, by have := m.to; omega, ⟨(s.many - 1).toNat, by have := m.many; omega, ?_⟩, h⟩
  rcases s with ⟨a, b, c⟩
  have h1 := m.frm; have h2 := m.to; have h3 := m.many
  simp only at h1 h2 h3
  simp only [mk3, Shift.mk.injEq]
  omega

theorem flatMap_le {α β : Type} {f : α → List β} {c : Nat} : ∀ (l : List α), (∀ x ∈ l, (f x).length ≤ c) → (l.flatMap f).length ≤ l.length * c := by
  intro l
  induction l with
  | nil => intro _; simp
  | cons x l ih =>
    intro h
    rw [List.flatMap_cons, List.length_append, List.length_cons, Nat.succ_mul]
    have := h x List.mem_cons_self
    have := ih fun y hy => h y (List.mem_cons_of_mem _ hy)
    omega
theorem drawsFT_le {Y : Yard} (h : GoodY Y) (f t : Nat) : (drawsFT Y f t 0).length ≤ 5 := by
  unfold drawsFT
  refine Nat.le_trans (List.length_filter_le _ _) ?_
  rw [List.length_map, List.length_range', Nat.sub_zero]
  by_cases hf : f < Y.tracks.length
  · have := mem_le_flatten (getD_mem (d := []) hf); have := h.sum; omega
  · simp [List.getD, List.getElem?_eq_none (Nat.le_of_not_lt hf)]
theorem draws_le {Y : Yard} (h : GoodY Y) (h3 : Y.tracks.length ≤ 3) : (draws Y).length ≤ 45 := by
  have h1 : ∀ f, (drawsF Y f 0).length ≤ 15 := fun f => by
    have := flatMap_le (f := fun t => drawsFT Y f t 0) (c := 5) (List.range' 0 (Y.tracks.length - 0)) fun t _ => drawsFT_le h f t
    rw [List.length_range'] at this
    unfold drawsF
    omega
  have := flatMap_le (f := fun f => drawsF Y f 0) (c := 15) (List.range' 0 (Y.tracks.length - 0)) fun f _ => h1 f
  rw [List.length_range'] at this
  unfold draws drawsY
  omega
theorem GoodY.draws {Y : Yard} (h : GoodY Y) (hv : Valid Y) : (draws Y).length ≤ 1000000 := by
  have := draws_le h (by have := hv.fine.room3; have := hv.fine.len; omega); omega

def putP (p : List Int) (c i k : Nat) : List Int := (p.set (2 * c) i).set (2 * c + 1) k
def goPT (i : Nat) : Nat → List Int → List Int → List Int
  | _, [], p => p
  | k, c :: r, p => goPT i (k + 1) r (putP p c.toNat i k)
def goP : Nat → List (List Int) → List Int → List Int
  | _, [], p => p
  | i, t :: ts, p => goP (i + 1) ts (goPT i 0 t p)
def zero10 : List Int := [0, 0, 0, 0, 0, 0, 0, 0, 0, 0]
abbrev Place := { l : List Int // l.length = 10 }
theorem putP_length (p : List Int) (c i k : Nat) : (putP p c i k).length = p.length := by simp [putP]
theorem goPT_length (i : Nat) : ∀ (t : List Int) (k : Nat) (p : List Int), (goPT i k t p).length = p.length := by
  intro t
  induction t with
  | nil => intro k p; rfl
  | cons c r ih => intro k p; rw [goPT, ih, putP_length]
theorem goP_length : ∀ (ts : List (List Int)) (i : Nat) (p : List Int), (goP i ts p).length = p.length := by
  intro ts
  induction ts with
  | nil => intro i p; rfl
  | cons t ts ih => intro i p; rw [goP, ih, goPT_length]
def placeOf (Y : Yard) : Place := ⟨goP 0 Y.tracks zero10, by rw [goP_length]; rfl⟩

theorem goPT_step {i j : Nat} {t p : List Int} (h : j < t.length) : goPT i j (t.drop j) p = goPT i (j + 1) (t.drop (j + 1)) (putP p (t.getD j 0).toNat i j) := by
  rw [drop_cons (d := 0) h]; rfl
theorem goPT_done {i j : Nat} {t p : List Int} (h : t.length ≤ j) : goPT i j (t.drop j) p = p := by rw [drop_done h]; rfl
theorem goP_step {k : Nat} {ts : List (List Int)} {p : List Int} (h : k < ts.length) : goP k (ts.drop k) p = goP (k + 1) (ts.drop (k + 1)) (goPT k 0 (ts.getD k []) p) := by
  rw [drop_cons (d := []) h]; rfl
theorem goP_done {k : Nat} {ts : List (List Int)} {p : List Int} (h : ts.length ≤ k) : goP k (ts.drop k) p = p := by rw [drop_done h]; rfl

def at2 (p : List Int) (c : Nat) : Int × Int := (p.getD (2 * c) 0, p.getD (2 * c + 1) 0)
theorem at2_put_same {p : List Int} {c i k : Nat} (h : 2 * c + 1 < p.length) : at2 (putP p c i k) c = (↑i, ↑k) := by
  simp only [at2, putP, List.getD, Prod.mk.injEq]
  constructor
  · rw [List.getElem?_set_ne (by omega), List.getElem?_set_self (by omega)]; rfl
  · rw [List.getElem?_set_self (by rw [List.length_set]; omega)]; rfl
theorem at2_put_other {p : List Int} {c c' i k : Nat} (h : c ≠ c') : at2 (putP p c i k) c' = at2 p c' := by
  simp only [at2, putP, List.getD, Prod.mk.injEq]
  constructor
  · rw [List.getElem?_set_ne (by omega), List.getElem?_set_ne (by omega)]
  · rw [List.getElem?_set_ne (by omega), List.getElem?_set_ne (by omega)]

theorem goPT_other (i : Nat) : ∀ (t : List Int) (k : Nat) (p : List Int) (c : Nat), (∀ x ∈ t, 0 ≤ x) → (c : Int) ∉ t → at2 (goPT i k t p) c = at2 p c := by
  intro t
  induction t with
  | nil => intro k p c _ _; rfl
  | cons x r ih =>
    intro k p c hx hc
    rw [goPT, ih _ _ _ (fun y hy => hx y (List.mem_cons_of_mem _ hy)) (fun h => hc (List.mem_cons_of_mem _ h))]
    refine at2_put_other fun e => hc ?_
    have := hx x List.mem_cons_self
    rw [← e, Int.toNat_of_nonneg this]
    exact List.mem_cons_self
theorem goPT_hit (i : Nat) : ∀ (t : List Int) (k : Nat) (p : List Int) (j : Nat), (∀ x ∈ t, 0 ≤ x ∧ 2 * x + 1 < p.length) → t.Nodup → j < t.length → at2 (goPT i k t p) (t.getD j 0).toNat = (↑i, ((k + j : Nat) : Int)) := by
  intro t
  induction t with
  | nil => intro k p j _ _ h; simp at h
  | cons x r ih =>
    intro k p j hx hn hj
    have hn' := List.nodup_cons.1 hn
    cases j with
    | zero =>
      rw [goPT, List.getD_cons_zero]
      have hx0 := hx x List.mem_cons_self
      rw [goPT_other i r _ _ _ (fun y hy => (hx y (List.mem_cons_of_mem _ hy)).1) (by rw [Int.toNat_of_nonneg hx0.1]; exact hn'.1)]
      exact at2_put_same (by omega)
    | succ j =>
      rw [goPT, List.getD_cons_succ, ih _ _ _ (fun y hy => by rw [putP_length]; exact hx y (List.mem_cons_of_mem _ hy)) hn'.2 (by simpa using hj)]
      simp only [Prod.mk.injEq, true_and]; omega
theorem goP_other : ∀ (ts : List (List Int)) (i : Nat) (p : List Int) (c : Nat), (∀ x ∈ ts.flatten, 0 ≤ x) → (c : Int) ∉ ts.flatten → at2 (goP i ts p) c = at2 p c := by
  intro ts
  induction ts with
  | nil => intro i p c _ _; rfl
  | cons t ts ih =>
    intro i p c hx hc
    simp only [List.flatten_cons, List.mem_append] at hx hc
    rw [goP, ih _ _ _ (fun x h => hx x (.inr h)) (fun h => hc (.inr h)), goPT_other _ _ _ _ _ (fun x h => hx x (.inl h)) (fun h => hc (.inl h))]
theorem goP_hit : ∀ (ts : List (List Int)) (i : Nat) (p : List Int) (k j : Nat), (∀ x ∈ ts.flatten, 0 ≤ x ∧ 2 * x + 1 < p.length) → ts.flatten.Nodup → k < ts.length → j < (ts.getD k []).length →
    at2 (goP i ts p) ((ts.getD k []).getD j 0).toNat = (((i + k : Nat) : Int), ↑j) := by
  intro ts
  induction ts with
  | nil => intro i p k j _ _ h; simp at h
  | cons t ts ih =>
    intro i p k j hx hn hk hj
    simp only [List.flatten_cons, List.mem_append] at hx hn
    have hn' := List.nodup_append.1 hn
    cases k with
    | zero =>
      simp only [List.getD_cons_zero] at hj ⊢
      have hmem : t.getD j 0 ∈ t := getD_mem hj
      have h0 := hx _ (.inl hmem)
      rw [goP, goP_other _ _ _ _ (fun x h => (hx x (.inr h)).1) (by rw [Int.toNat_of_nonneg h0.1]; exact fun h => hn'.2.2 _ hmem _ h rfl), goPT_hit _ _ _ _ _ (fun x h => hx x (.inl h)) hn'.1 hj]
      simp
    | succ k =>
      simp only [List.getD_cons_succ] at hj ⊢
      rw [goP, ih _ _ _ _ (fun x h => by rw [goPT_length]; exact hx x (.inr h)) hn'.2.1 (by simpa using hk) hj]
      simp only [Prod.mk.injEq, and_true]; omega

structure Kin (A Y : Yard) : Prop where
  cars : Y.cars = A.cars
  room : Y.room = A.room
  len : Y.tracks.length = A.tracks.length
  perm : Y.tracks.flatten.Perm A.tracks.flatten
theorem Kin.refl (A : Yard) : Kin A A := ⟨rfl, rfl, rfl, List.Perm.refl _⟩
theorem Kin.trans {A B C : Yard} (h : Kin A B) (k : Kin B C) : Kin A C := ⟨k.cars.trans h.cars, k.room.trans h.room, k.len.trans h.len, k.perm.trans h.perm⟩
theorem Kin.symm {A B : Yard} (h : Kin A B) : Kin B A := ⟨h.cars.symm, h.room.symm, h.len.symm, h.perm.symm⟩
theorem kin_moved {Y : Yard} {s : Shift} (h : mayErr Y s = 0) : Kin Y (moved Y s) := by
  have m := mayOk h
  exact ⟨rfl, rfl, by simp [moved], moved_flatten m.frm m.to m.ne⟩
theorem Kin.moved {A Y : Yard} {s : Shift} (k : Kin A Y) (h : mayErr Y s = 0) : Kin A (moved Y s) := k.trans (kin_moved h)

theorem flat_ok {A Y : Yard} (f : Fine A) (k : Kin A Y) : ∀ x ∈ Y.tracks.flatten, 0 ≤ x ∧ 2 * x + 1 < (zero10.length : Int) := fun x hx => by
  have := flatten_ok f.ok x (k.perm.mem_iff.1 hx)
  have h5 := f.cars
  simp only [zero10, List.length_cons, List.length_nil]
  omega

theorem track_eq {A Y Z : Yard} (f : Fine A) (ky : Kin A Y) (kz : Kin A Z) (h : placeOf Y = placeOf Z) {k j : Nat} (hk : k < Y.tracks.length) (hj : j < (Y.tracks.getD k []).length) :
    j < (Z.tracks.getD k []).length ∧ (Z.tracks.getD k []).getD j 0 = (Y.tracks.getD k []).getD j 0 := by
  have hny : Y.tracks.flatten.Nodup := ky.perm.nodup_iff.2 f.nodup
  have hnz : Z.tracks.flatten.Nodup := kz.perm.nodup_iff.2 f.nodup
  have h1 := goP_hit Y.tracks 0 zero10 k j (fun x hx => flat_ok f ky x hx) hny hk hj
  generalize hc : (Y.tracks.getD k []).getD j 0 = c at h1 ⊢
  have hcm : c ∈ Y.tracks.flatten := List.mem_flatten.2 ⟨_, getD_mem (d := []) hk, hc ▸ getD_mem hj⟩
  have hcz : c ∈ Z.tracks.flatten := kz.perm.mem_iff.2 (ky.perm.mem_iff.1 hcm)
  obtain ⟨t, ht, hct⟩ := List.mem_flatten.1 hcz
  obtain ⟨k', hk', e1⟩ := List.mem_iff_getElem.1 ht
  obtain ⟨j', hj', e2⟩ := List.mem_iff_getElem.1 hct
  have e1' : Z.tracks.getD k' [] = t := by simp [List.getD, hk', e1]
  have e2' : t.getD j' 0 = c := by simp [List.getD, hj', e2]
  have h2 := goP_hit Z.tracks 0 zero10 k' j' (fun x hx => flat_ok f kz x hx) hnz hk' (by rw [e1']; exact hj')
  rw [e1', e2'] at h2
  have hp : goP 0 Y.tracks zero10 = goP 0 Z.tracks zero10 := congrArg Subtype.val h
  rw [hp, h2] at h1
  simp only [Prod.mk.injEq] at h1
  have ek : k' = k := by omega
  have ej : j' = j := by omega
  subst ek; subst ej
  rw [e1']
  exact ⟨hj', e2'⟩

theorem list_eq {α : Type} {d : α} {a b : List α} (hl : a.length = b.length) (h : ∀ j, j < a.length → a.getD j d = b.getD j d) : a = b := by
  apply List.ext_getElem hl
  intro i h1 h2
  have := h i h1
  simpa [List.getD, h1, h2] using this

theorem Kin.inj {A Y Z : Yard} (f : Fine A) (ky : Kin A Y) (kz : Kin A Z) (h : placeOf Y = placeOf Z) : Y = Z := by
  have hl : Y.tracks.length = Z.tracks.length := ky.len.trans kz.len.symm
  have ht : Y.tracks = Z.tracks := by
    refine list_eq (d := []) hl fun k hk => ?_
    have h1 : (Y.tracks.getD k []).length = (Z.tracks.getD k []).length := by
      rcases Nat.lt_trichotomy (Y.tracks.getD k []).length (Z.tracks.getD k []).length with e | e | e
      · have := (track_eq f kz ky h.symm (by omega) e).1; omega
      · exact e
      · have := (track_eq f ky kz h hk e).1; omega
    exact list_eq (d := 0) h1 fun j hj => ((track_eq f ky kz h hk hj).2).symm
  rcases Y with ⟨a, b, c⟩; rcases Z with ⟨a', b', c'⟩
  have h1 := ky.cars; have h2 := kz.cars; have h3 := ky.room; have h4 := kz.room
  simp only at h1 h2 h3 h4 ht
  rw [h1, h2, h3, h4, ht]

abbrev Met := List (Place × Nat)
def getM (p : Place) : Met → Option Nat
  | [] => none
  | x :: r => if x.1 = p then some x.2 else getM p r
def updM (p : Place) (n : Nat) : Met → Met
  | [] => [(p, n)]
  | x :: r => if x.1 = p then (p, n) :: r else x :: updM p n r
theorem getM_upd (p q : Place) (n : Nat) (m : Met) : getM q (updM p n m) = if p = q then some n else getM q m := by
  induction m with
  | nil => by_cases h : p = q <;> simp [updM, getM, h]
  | cons x r ih =>
    simp only [updM]
    by_cases h : x.1 = p
    · rw [if_pos h]
      simp only [getM]
      by_cases h2 : p = q
      · rw [if_pos h2, if_pos h2]
      · rw [if_neg h2, if_neg h2, if_neg (by rw [h]; exact h2)]
    · rw [if_neg h]
      simp only [getM]
      by_cases h3 : x.1 = q
      · rw [if_pos h3, if_neg (by rw [← h3]; exact fun e => h e.symm), if_pos h3]
      · rw [if_neg h3, ih, if_neg h3]
def metV (m : Met) : List (Place × Value) := m.map fun x => (x.1, .int .i64 (x.2 : Int))
theorem metV_get (p : Place) (m : Met) : getKv p (metV m) = (getM p m).map fun n => Value.int .i64 (n : Int) := by
  induction m with
  | nil => rfl
  | cons x r ih =>
    simp only [metV, List.map_cons, getKv, getM] at ih ⊢
    split
    · rfl
    · exact ih
theorem metV_upd (p : Place) (n : Nat) (m : Met) : upd p (.int .i64 (n : Int)) (metV m) = metV (updM p n m) := by
  induction m with
  | nil => rfl
  | cons x r ih =>
    simp only [metV, List.map_cons, upd, updM] at ih ⊢
    split
    · rfl
    · rw [ih]; rfl

def tryAll (f : Shift → Met → Option (List Shift) × Met) : List Shift → Met → Option (List Shift) × Met
  | [], met => (none, met)
  | s :: r, met => match f s met with
    | (some l, met') => (some (s :: l), met')
    | (none, met') => tryAll f r met'
def stopped (o : Option Nat) (d : Nat) : Bool := match o with | some n => decide (d ≤ n) | none => false
def searchM (goal : Yard → Bool) : Nat → Yard → Met → Option (List Shift) × Met
  | 0, Y, met => if goal Y then (some [], met) else (none, met)
  | d + 1, Y, met => if goal Y then (some [], met) else if stopped (getM (placeOf Y) met) (d + 1) then (none, met) else tryAll (fun s met => searchM goal d (moved Y s) met) (draws Y) (updM (placeOf Y) (d + 1) met)

def plain (goal : Yard → Bool) : Nat → Yard → Option (List Shift)
  | 0, Y => if goal Y then some [] else none
  | d + 1, Y => if goal Y then some [] else (draws Y).findSome? fun s => (plain goal d (moved Y s)).map (s :: ·)

theorem plain_goal {goal : Yard → Bool} {Y : Yard} (h : goal Y = true) (d : Nat) : plain goal d Y = some [] := by
  cases d <;> simp [plain, h]
theorem plain_down {goal : Yard → Bool} {d : Nat} {Y : Yard} (h : plain goal (d + 1) Y = none) {s : Shift} (hs : s ∈ draws Y) : plain goal d (moved Y s) = none := by
  simp only [plain] at h
  split at h
  · cases h
  · have := List.findSome?_eq_none_iff.1 h s hs
    simpa using this

def MetInv (A : Yard) (goal : Yard → Bool) (met : Met) (d : Nat) : Prop :=
  ∀ Y, Kin A Y → ∀ n, getM (placeOf Y) met = some n → (∀ m, m < n → plain goal m Y = none) ∧ (n ≤ d → plain goal n Y = none)

theorem tryAll_ok {A : Yard} {goal : Yard → Bool} {d : Nat} {Y : Yard} (f : Fine A) (kY : Kin A Y)
    (ih : ∀ Y met, Kin A Y → MetInv A goal met d → (∀ m, m < d → plain goal m Y = none) → (searchM goal d Y met).1 = plain goal d Y ∧ ((searchM goal d Y met).1 = none → MetInv A goal (searchM goal d Y met).2 d ∧ ∀ p n, getM p (searchM goal d Y met).2 = some n → getM p met = some n ∨ n ≤ d)) :
    ∀ (ss : List Shift) (met : Met), (∀ s ∈ ss, s ∈ draws Y) → MetInv A goal met d → (∀ m, m < d + 1 → plain goal m Y = none) →
      (tryAll (fun s met => searchM goal d (moved Y s) met) ss met).1 = (ss.findSome? fun s => (plain goal d (moved Y s)).map (s :: ·)) ∧
      ((tryAll (fun s met => searchM goal d (moved Y s) met) ss met).1 = none → MetInv A goal (tryAll (fun s met => searchM goal d (moved Y s) met) ss met).2 d ∧
        ∀ p n, getM p (tryAll (fun s met => searchM goal d (moved Y s) met) ss met).2 = some n → getM p met = some n ∨ n ≤ d) := by
  intro ss
  induction ss with
  | nil => intro met _ hi _; exact ⟨rfl, fun _ => ⟨hi, fun p n h => .inl h⟩⟩
  | cons s r ihr =>
    intro met hs hi hp
    have hsd := hs s List.mem_cons_self
    obtain ⟨h1, h2⟩ := ih (moved Y s) met (kY.moved (mem_draws_may hsd)) hi (fun m hm => plain_down (hp (m + 1) (by omega)) hsd)
    simp only [tryAll, List.findSome?_cons]
    rw [← h1]
    cases hr : searchM goal d (moved Y s) met with
    | mk o met' =>
      rw [hr] at h2
      cases o with
      | some l => exact ⟨rfl, fun h => by cases h⟩
      | none =>
        obtain ⟨h3, h4⟩ := h2 rfl
        obtain ⟨h5, h6⟩ := ihr met' (fun x hx => hs x (List.mem_cons_of_mem _ hx)) h3 hp
        refine ⟨h5, fun h => ?_⟩
        obtain ⟨h7, h8⟩ := h6 h
        refine ⟨h7, fun p n hn => ?_⟩
        rcases h8 p n hn with h | h
        · exact h4 p n h
        · exact .inr h

theorem searchM_ok {A : Yard} {goal : Yard → Bool} (f : Fine A) : ∀ (d : Nat) (Y : Yard) (met : Met), Kin A Y → MetInv A goal met d → (∀ m, m < d → plain goal m Y = none) →
    (searchM goal d Y met).1 = plain goal d Y ∧ ((searchM goal d Y met).1 = none → MetInv A goal (searchM goal d Y met).2 d ∧ ∀ p n, getM p (searchM goal d Y met).2 = some n → getM p met = some n ∨ n ≤ d) := by
  intro d
  induction d with
  | zero =>
    intro Y met kY hi hp
    simp only [searchM, plain]
    split
    · exact ⟨rfl, fun h => by cases h⟩
    · exact ⟨rfl, fun _ => ⟨hi, fun p n h => .inl h⟩⟩
  | succ d ih =>
    intro Y met kY hi hp
    simp only [searchM]
    split
    · rename_i hg
      rw [plain_goal hg]
      exact ⟨rfl, fun h => by cases h⟩
    rename_i hg
    split
    · rename_i hst
      cases hgm : getM (placeOf Y) met with
      | none => rw [hgm] at hst; cases hst
      | some n =>
        rw [hgm] at hst
        have hn : d + 1 ≤ n := of_decide_eq_true hst
        obtain ⟨h1, h2⟩ := hi Y kY n hgm
        have : plain goal (d + 1) Y = none := by
          rcases Nat.lt_or_ge (d + 1) n with h | h
          · exact h1 _ h
          · have e : n = d + 1 := by omega
            subst e; exact h2 (Nat.le_refl _)
        exact ⟨this.symm, fun _ => ⟨hi, fun p n h => .inl h⟩⟩
    · have hi2 : MetInv A goal (updM (placeOf Y) (d + 1) met) d := fun Z kZ n hn => by
        rw [getM_upd] at hn
        split at hn
        · rename_i he
          cases hn
          have e := Kin.inj f kY kZ he
          subst e
          exact ⟨hp, fun h => by omega⟩
        · obtain ⟨h1, h2⟩ := hi Z kZ n hn
          exact ⟨h1, fun h => h2 (by omega)⟩
      obtain ⟨h1, h2⟩ := tryAll_ok f kY ih (draws Y) (updM (placeOf Y) (d + 1) met) (fun s h => h) hi2 hp
      have e1 : plain goal (d + 1) Y = (draws Y).findSome? fun s => (plain goal d (moved Y s)).map (s :: ·) := by simp only [plain, if_neg hg]
      rw [h1, ← e1]
      refine ⟨rfl, fun hnone => ?_⟩
      obtain ⟨h3, h4⟩ := h2 (by rw [h1, ← e1]; exact hnone)
      refine ⟨fun Z kZ n hn => ?_, fun p n hn => ?_⟩
      · obtain ⟨g1, g2⟩ := h3 Z kZ n hn
        refine ⟨g1, fun hle => ?_⟩
        rcases h4 _ n hn with h | h
        · rw [getM_upd] at h
          split at h
          · rename_i he
            cases h
            have e := Kin.inj f kY kZ he
            subst e
            exact hnone
          · exact (hi Z kZ n h).2 hle
        · exact g2 h
      · rcases h4 p n hn with h | h
        · rw [getM_upd] at h
          split at h
          · cases h; exact .inr (Nat.le_refl _)
          · exact .inl h
        · exact .inr (by omega)

def fewestM (goal : Yard → Bool) (Y : Yard) : Option (List Shift) := (List.range 5).findSome? fun d => plain goal d Y
end Go.Sh
namespace Go.Sh
open Go Go.Sl

def GrpFrom (cs : List Car) (ts : List (List Int)) (met : List Int) : Prop :=
  ∀ i k, i < ts.length → k < (ts.getD i []).length → 0 < grp cs ((ts.getD i []).getD k 0) →
    (grp cs ((ts.getD i []).getD k 0) ∈ met ∨ ∃ c ∈ (ts.take i).flatten ++ (ts.getD i []).take k, grp cs c = grp cs ((ts.getD i []).getD k 0)) → coupled cs (ts.getD i []) ↑k = true

theorem GrpFrom.congr {cs : List Car} {ts : List (List Int)} {m m' : List Int} (h : ∀ g, g ∈ m ↔ g ∈ m') (hg : GrpFrom cs ts m) : GrpFrom cs ts m' := fun i k hi hk h0 hm =>
  hg i k hi hk h0 (hm.elim (fun x => .inl ((h _).2 x)) .inr)

theorem GrpFrom.cons {cs : List Car} {t : List Int} {ts : List (List Int)} {met : List Int} :
    GrpFrom cs (t :: ts) met ↔ (∀ k, k < t.length → 0 < grp cs (t.getD k 0) → (grp cs (t.getD k 0) ∈ met ∨ ∃ c ∈ t.take k, grp cs c = grp cs (t.getD k 0)) → coupled cs t ↑k = true) ∧ GrpFrom cs ts (met ++ t.map (grp cs)) := by
  constructor
  · intro h
    refine ⟨fun k hk h0 hm => h 0 k (by simp) hk h0 (by simpa using hm), fun i k hi hk h0 hm => ?_⟩
    refine h (i + 1) k (by simpa using hi) (by simpa using hk) (by simpa using h0) ?_
    simp only [List.getD_cons_succ, List.take_succ_cons, List.flatten_cons]
    rcases hm with hm | ⟨c, hc, e⟩
    · rcases List.mem_append.1 hm with hm | hm
      · exact .inl hm
      · obtain ⟨c, hc, e⟩ := List.mem_map.1 hm
        exact .inr ⟨c, by simp [hc], e⟩
    · refine .inr ⟨c, ?_, e⟩
      rw [List.append_assoc]; exact List.mem_append_right _ hc
  · rintro ⟨h1, h2⟩ i k hi hk h0 hm
    cases i with
    | zero => exact h1 k (by simpa using hk) (by simpa using h0) (by simpa using hm)
    | succ i =>
      simp only [List.getD_cons_succ, List.take_succ_cons, List.flatten_cons] at hk h0 hm ⊢
      refine h2 i k (by simpa using hi) hk h0 ?_
      rcases hm with hm | ⟨c, hc, e⟩
      · exact .inl (List.mem_append_left _ hm)
      · rw [List.append_assoc] at hc
        rcases List.mem_append.1 hc with hc | hc
        · exact .inl (List.mem_append_right _ (List.mem_map.2 ⟨c, hc, e⟩))
        · exact .inr ⟨c, hc, e⟩

theorem goG_iff {cs : List Car} {ts : List (List Int)} {t : List Int} (ih : ∀ met, goGs cs ts met = 0 ↔ GrpFrom cs ts met) : ∀ (m k : Nat) (met : List Int), k + m = t.length →
    (goG cs t (goGs cs ts) k (t.drop k) met = 0 ↔
      (∀ j, k ≤ j → j < t.length → 0 < grp cs (t.getD j 0) → (grp cs (t.getD j 0) ∈ met ∨ ∃ i, k ≤ i ∧ i < j ∧ grp cs (t.getD i 0) = grp cs (t.getD j 0)) → coupled cs t ↑j = true) ∧ GrpFrom cs ts (met ++ (t.drop k).map (grp cs))) := by
  intro m
  induction m with
  | zero =>
    intro k met hk
    rw [goG_done (by omega), drop_done (by omega), ih]
    simp only [List.map_nil, List.append_nil]
    exact ⟨fun h => ⟨fun j h1 h2 => by omega, h⟩, fun h => h.2⟩
  | succ m ihm =>
    intro k met hk
    have hlt : k < t.length := by omega
    by_cases hb : (decide (0 < grp cs (t.getD k 0)) && (decide (grp cs (t.getD k 0) ∈ met) && !(coupled cs t ↑k))) = true
    · rw [goG_hit hlt hb]
      simp only [Bool.and_eq_true, decide_eq_true_eq, Bool.not_eq_true'] at hb
      constructor
      · intro h; cases h
      · rintro ⟨h, _⟩
        have := h k (Nat.le_refl _) hlt hb.1 (.inl hb.2.1)
        rw [this] at hb; cases hb.2.2
    · have hb' := Bool.eq_false_iff.2 hb
      rw [goG_miss hlt hb', ihm (k + 1) _ (by omega)]
      have hmem : ∀ g, g ∈ (if grp cs (t.getD k 0) ∈ met then met else met ++ [grp cs (t.getD k 0)]) ↔ (g ∈ met ∨ g = grp cs (t.getD k 0)) := fun g => by
        split
        · rename_i h
          exact ⟨.inl, fun h2 => h2.elim id (fun e => e ▸ h)⟩
        · simp
      constructor
      · rintro ⟨h1, h2⟩
        refine ⟨fun j hj1 hj2 h0 hm => ?_, h2.congr fun g => ?_⟩
        · rcases Nat.lt_or_ge k j with hkj | hkj
          · refine h1 j hkj hj2 h0 ?_
            rcases hm with hm | ⟨i, hi1, hi2, e⟩
            · exact .inl ((hmem _).2 (.inl hm))
            · rcases Nat.lt_or_ge k i with hki | hki
              · exact .inr ⟨i, hki, hi2, e⟩
              · have : i = k := by omega
                subst this
                exact .inl ((hmem _).2 (.inr e.symm))
          · have : j = k := by omega
            subst this
            rcases hm with hm | ⟨i, hi1, hi2, _⟩
            · simp only [Bool.and_eq_true, decide_eq_true_eq, Bool.not_eq_true', not_and, Bool.not_eq_false] at hb
              exact hb h0 hm
            · omega
        · rw [drop_cons (d := 0) hlt, List.map_cons, List.mem_append, List.mem_append, hmem, List.mem_cons]
          constructor
          · rintro ((h | h) | h)
            · exact .inl h
            · exact .inr (.inl h)
            · exact .inr (.inr h)
          · rintro (h | h | h)
            · exact .inl (.inl h)
            · exact .inl (.inr h)
            · exact .inr h
      · rintro ⟨h1, h2⟩
        refine ⟨fun j hj1 hj2 h0 hm => ?_, h2.congr fun g => ?_⟩
        · refine h1 j (by omega) hj2 h0 ?_
          rcases hm with hm | ⟨i, hi1, hi2, e⟩
          · rcases (hmem _).1 hm with hm | hm
            · exact .inl hm
            · exact .inr ⟨k, Nat.le_refl _, by omega, hm.symm⟩
          · exact .inr ⟨i, by omega, hi2, e⟩
        · rw [drop_cons (d := 0) hlt, List.map_cons, List.mem_append, List.mem_append, hmem, List.mem_cons]
          constructor
          · rintro (h | h | h)
            · exact .inl (.inl h)
            · exact .inl (.inr h)
            · exact .inr h
          · rintro ((h | h) | h)
            · exact .inl h
            · exact .inr (.inl h)
            · exact .inr (.inr h)

theorem goGs_iff {cs : List Car} : ∀ (ts : List (List Int)) (met : List Int), goGs cs ts met = 0 ↔ GrpFrom cs ts met := by
  intro ts
  induction ts with
  | nil => intro met; exact ⟨fun _ i k hi => by simp at hi, fun _ => rfl⟩
  | cons t ts ih =>
    intro met
    have h := goG_iff (cs := cs) (ts := ts) (t := t) ih t.length 0 met (by omega)
    rw [List.drop_zero] at h
    show goG cs t (goGs cs ts) 0 t met = 0 ↔ _
    rw [h, GrpFrom.cons]
    refine and_congr (forall_congr' fun k => ?_) Iff.rfl
    refine ⟨fun h hk h0 hm => h (Nat.zero_le _) hk h0 ?_, fun h _ hk h0 hm => h hk h0 ?_⟩
    · rcases hm with hm | ⟨c, hc, e⟩
      · exact .inl hm
      · obtain ⟨i, hi, he⟩ := List.mem_iff_getElem.1 hc
        have hi' : i < k := by rw [List.length_take] at hi; omega
        refine .inr ⟨i, Nat.zero_le _, hi', ?_⟩
        rw [← e, ← he]
        simp only [List.getElem_take, List.getD]
        rw [List.getElem?_eq_getElem (by omega)]
        rfl
    · rcases hm with hm | ⟨i, _, hi, e⟩
      · exact .inl hm
      · refine .inr ⟨t.getD i 0, ?_, e⟩
        have : (t.take k).getD i 0 = t.getD i 0 := by simp [List.getD, List.getElem?_take, hi]
        rw [← this]
        exact getD_mem (by rw [List.length_take]; omega)

theorem goTrack_of {n : Nat} {fin : List Int → Int} : ∀ (t met : List Int), (∀ c ∈ t, 0 ≤ c ∧ c < n) → (met ++ t).Nodup → goTrack n fin t met = fin (met ++ t) := by
  intro t
  induction t with
  | nil => intro met _ _; simp [goTrack]
  | cons c r ih =>
    intro met h hn
    have hc := h c List.mem_cons_self
    have hnm : c ∉ met := fun hm => by
      have := (List.nodup_append.1 hn).2.2 c hm c List.mem_cons_self
      exact this rfl
    simp only [goTrack]
    rw [if_pos (by simp [inB]; omega), if_neg hnm, ih _ (fun x hx => h x (List.mem_cons_of_mem _ hx)) (by simpa using hn)]
    simp

theorem goTracks_of {cs : List Car} {fin : List Int → Int} : ∀ (ts : List (List Int)) (rm met : List Int), OkAll cs ts → (met ++ ts.flatten).Nodup → (∀ k, k < ts.length → lenOf cs (ts.getD k []) ≤ rm.getD k 0) →
    goTracks cs fin ts rm met = fin (met ++ ts.flatten) := by
  intro ts
  induction ts with
  | nil => intro rm met _ _ _; simp [goTracks]
  | cons t r ih =>
    intro rm met h hn hl
    simp only [goTracks]
    rw [List.flatten_cons, ← List.append_assoc] at hn
    rw [goTrack_of t met (h t List.mem_cons_self) (List.nodup_append.1 hn).1]
    have h0 := hl 0 (by simp)
    have e0 : rm.headD 0 = rm.getD 0 0 := by cases rm <;> rfl
    rw [List.getD_cons_zero] at h0
    rw [if_neg (by omega), ih rm.tail (met ++ t) (fun x hx => h x (List.mem_cons_of_mem _ hx)) hn fun k hk => ?_]
    · simp
    · have := hl (k + 1) (by simpa using hk)
      simp only [List.getD_cons_succ] at this
      have e : rm.tail.getD k 0 = rm.getD (k + 1) 0 := by cases rm <;> rfl
      omega

theorem Fine.valid {Y : Yard} (f : Fine Y) : Valid Y := by
  unfold Valid checkErr
  rw [if_neg (by have := f.cars; omega), if_pos (List.all_eq_true.2 fun c hc => decide_eq_true (f.carOk c hc)), if_neg (by have := f.room1; omega), if_neg (by have := f.room3; omega), if_pos (List.all_eq_true.2 f.roomOk)]
  unfold tracksErr
  rw [if_pos f.len, goTracks_of Y.tracks Y.room [] f.ok (by simpa using f.nodup) f.fits]
  rw [if_neg (by have := f.all; simp only [List.nil_append]; omega)]
  exact f.groups
theorem groups_iff {Y : Yard} : groupsErr Y = 0 ↔ GrpFrom Y.cars Y.tracks [] := goGs_iff _ _
end Go.Sh
namespace Go.Sh
open Go Go.Sl

def visit (s : List Place × List Yard) (z : Yard) : List Place × List Yard := if placeOf z ∈ s.1 then s else (s.1 ++ [placeOf z], s.2 ++ [z])
def nexts (x : Yard) : List Yard := (draws x).map (moved x)
def visitAll : List Yard → List Place × List Yard → List Place × List Yard
  | [], s => s
  | z :: r, s => visitAll r (visit s z)
def roundM (now : List Yard) (met : List Place) : List Place × List Yard := visitAll (now.flatMap nexts) (met, [])
def reachM : Nat → List Place → List Yard → List Place
  | 0, met, _ => met
  | d + 1, met, now => reachM d (roundM now met).1 (roundM now met).2
def reach (Y : Yard) (d : Nat) : Int := ((reachM d [placeOf Y] [Y]).length : Int)

theorem visitAll_append (a b : List Yard) (s : List Place × List Yard) : visitAll (a ++ b) s = visitAll b (visitAll a s) := by
  induction a generalizing s with
  | nil => rfl
  | cons x a ih => exact ih _

theorem kin_tracks {A Y Z : Yard} (ky : Kin A Y) (kz : Kin A Z) (h : Y.tracks = Z.tracks) : Y = Z := by
  rcases Y with ⟨a, b, c⟩; rcases Z with ⟨a', b', c'⟩
  have h1 := ky.cars; have h2 := kz.cars; have h3 := ky.room; have h4 := kz.room
  simp only at h1 h2 h3 h4 h
  rw [h1, h2, h3, h4, h]

theorem nexts_kin {A x : Yard} (k : Kin A x) : ∀ y ∈ nexts x, Kin A y := fun y hy => by
  obtain ⟨s, hs, rfl⟩ := List.mem_map.1 hy
  exact k.moved (mem_draws_may hs)
theorem flat_kin {A : Yard} {now : List Yard} (h : ∀ y ∈ now, Kin A y) : ∀ y ∈ now.flatMap nexts, Kin A y := fun y hy => by
  obtain ⟨x, hx, hy⟩ := List.mem_flatMap.1 hy
  exact nexts_kin (h x hx) y hy

def insertAll (x : Int) : List Int → List (List Int)
  | [] => [[x]]
  | y :: r => (x :: y :: r) :: (insertAll x r).map (y :: ·)
def perms : List Int → List (List Int)
  | [] => [[]]
  | x :: r => (perms r).flatMap (insertAll x)
theorem mem_insertAll {x : Int} : ∀ (a b : List Int), a ++ x :: b ∈ insertAll x (a ++ b) := by
  intro a
  induction a with
  | nil => intro b; cases b <;> simp [insertAll]
  | cons y a ih => intro b; simp only [List.cons_append, insertAll]; exact List.mem_cons_of_mem _ (List.mem_map_of_mem (ih b))
theorem mem_perms : ∀ {l m : List Int}, m.Perm l → m ∈ perms l := by
  intro l
  induction l with
  | nil => intro m h; rw [List.perm_nil.1 h]; simp [perms]
  | cons x l ih =>
    intro m h
    obtain ⟨a, b, rfl⟩ := List.append_of_mem (h.mem_iff.2 List.mem_cons_self)
    have : (a ++ b).Perm l := (List.perm_cons x).1 (List.perm_middle.symm.trans h)
    exact List.mem_flatMap.2 ⟨a ++ b, ih this, mem_insertAll a b⟩
theorem insertAll_length (x : Int) (l : List Int) : (insertAll x l).length = l.length + 1 := by
  induction l with
  | nil => rfl
  | cons y l ih => simp [insertAll, ih]
theorem insertAll_perm {x : Int} : ∀ {l m : List Int}, m ∈ insertAll x l → m.Perm (x :: l) := by
  intro l
  induction l with
  | nil => intro m h; simp [insertAll] at h; subst h; exact List.Perm.refl _
  | cons y l ih =>
    intro m h
    simp only [insertAll, List.mem_cons, List.mem_map] at h
    rcases h with rfl | ⟨m', h, rfl⟩
    · exact List.Perm.refl _
    · exact (List.Perm.cons y (ih h)).trans (List.Perm.swap x y l)
theorem perms_perm : ∀ {l m : List Int}, m ∈ perms l → m.Perm l := by
  intro l
  induction l with
  | nil => intro m h; simp [perms] at h; subst h; exact List.Perm.refl _
  | cons x l ih =>
    intro m h
    obtain ⟨m', h1, h2⟩ := List.mem_flatMap.1 h
    exact (insertAll_perm h2).trans (List.Perm.cons x (ih h1))
def fact : Nat → Nat
  | 0 => 1
  | n + 1 => (n + 1) * fact n
theorem perms_length : ∀ (l : List Int), (perms l).length = fact l.length := by
  intro l
  induction l with
  | nil => rfl
  | cons x l ih =>
    simp only [perms, List.length_flatMap]
    have e : ∀ m ∈ perms l, (insertAll x m).length = l.length + 1 := fun m hm => by rw [insertAll_length, (perms_perm hm).length_eq]
    have : ((perms l).map fun m => (insertAll x m).length) = (perms l).map fun _ => l.length + 1 := List.map_congr_left e
    rw [this, List.map_const', List.sum_replicate_nat, ih, List.length_cons, fact, Nat.mul_comm]

def cut3 (n : Nat) (l : List Int) (a b : Nat) : List (List Int) := if n = 1 then [l] else if n = 2 then [l.take a, l.drop a] else [l.take a, (l.drop a).take b, (l.drop a).drop b]
theorem cut3_of {ts : List (List Int)} (h : 1 ≤ ts.length ∧ ts.length ≤ 3) : ts = cut3 ts.length ts.flatten (ts.getD 0 []).length (ts.getD 1 []).length := by
  match ts, h with
  | [a], _ => simp [cut3]
  | [a, b], _ => simp [cut3]
  | [a, b, c], _ => simp [cut3]
def allCuts (n m : Nat) (l : List Int) : List (List (List Int)) := (perms l).flatMap fun p => (List.range (m + 1)).flatMap fun a => (List.range (m + 1)).map fun b => cut3 n p a b
theorem allCuts_length (n m : Nat) (l : List Int) : (allCuts n m l).length = fact l.length * ((m + 1) * (m + 1)) := by
  simp only [allCuts, List.length_flatMap, List.length_map, List.length_range, List.map_const', List.sum_replicate_nat]
  rw [perms_length]
theorem kin_mem {A Y : Yard} (f : Fine A) (k : Kin A Y) {m : Nat} (hm : A.tracks.flatten.length ≤ m) : Y.tracks ∈ allCuts A.tracks.length m A.tracks.flatten := by
  have hl : 1 ≤ Y.tracks.length ∧ Y.tracks.length ≤ 3 := by rw [k.len, f.len]; have := f.room1; have := f.room3; omega
  have e := cut3_of hl
  have hb : ∀ i, (Y.tracks.getD i []).length ≤ m := fun i => by
    by_cases hi : i < Y.tracks.length
    · have := mem_le_flatten (getD_mem (d := []) hi)
      have := k.perm.length_eq
      omega
    · simp [List.getD, List.getElem?_eq_none (Nat.le_of_not_lt hi)]
  rw [e, k.len]
  refine List.mem_flatMap.2 ⟨_, mem_perms k.perm, List.mem_flatMap.2 ⟨_, List.mem_range.2 (Nat.lt_succ_of_le (hb 0)), List.mem_map.2 ⟨_, List.mem_range.2 (Nat.lt_succ_of_le (hb 1)), rfl⟩⟩⟩
end Go.Sh
namespace Go
variable {P : Program} {F : Fence} {n : Nat} {Q : Exit → Act → World → Prop} {a : Act} {w : World}
theorem stepR_scope {b : Frame} {k : List Item} {cs : List Frame} {c : Code} : step P (lone (b.atR a (.code (.scope c) :: k)) cs w) = .next (lone (b.atR a (.code c :: .inScope c :: k)) cs w) :=
  step_lone_go (by simp [stepG, stepG.exec, Frame.atR])
theorem stepR_inScope {b : Frame} {k : List Item} {cs : List Frame} {c : Code} : step P (lone (b.atR a (.inScope c :: k)) cs w) = .next (lone (b.atR a k) cs w) :=
  step_lone_go (by simp [stepG, stepG.exec, Frame.atR])
theorem wpIn_scope {c : Code} (h : c.wpIn F n P (Exit.noGoto Q) a w) : (Code.scope c).wpIn F n P Q a w := by
  intro b k cs hro hb hr
  have h0 : (lone (b.atR a (.code (.scope c) :: k)) cs w).fenced P F := fenced_calm hb hr rfl
  obtain ⟨e, a₁, w₁, hq, harr⟩ := h b (.inScope c :: k) cs hro hb hr
  cases e with
  | normal => exact ⟨.normal, a₁, w₁, hq, .head h0 stepR_scope (StepsIn.trans harr (.one (fenced_calm hb hr rfl) stepR_inScope))⟩
  | exit id =>
    have hx : exitTo id (.inScope c :: k) = exitTo id k := by simp [exitTo]
    exact ⟨.exit id, a₁, w₁, hq, fun k' hk => .head h0 stepR_scope (harr.1 k' (by rw [hx]; exact hk)), fun hr' hk => let ⟨k₁, h1, h2⟩ := harr.2 hr' (by rw [hx]; exact hk); ⟨k₁, h1, .head h0 stepR_scope h2⟩⟩
  | goto l => exact hq.elim
  | ret => exact ⟨_, a₁, w₁, hq, .of_steps (.one h0 stepR_scope) harr⟩
  | panic ch => exact ⟨_, a₁, w₁, hq, .of_steps (.one h0 stepR_scope) harr⟩
  | outgrown => exact ⟨_, a₁, w₁, hq, .of_steps (.one h0 stepR_scope) harr⟩
end Go
namespace Go.Sl
open Go
theorem run_scope {ρ : Option Nat} {P : Program} {N : Nat} {Q : Exit → Act → World → Prop} {ds : List Deferred} {l : Sl} {I : Imm} {M : Seg} {c x : Code} (hc : c = .scope x) (h : Run (ρ := ρ) P N x (Exit.noGoto Q) ds l I M) : Run (ρ := ρ) P N c Q ds l I M := by
  subst hc
  exact fun a w hS hD hW => wpIn_scope (h a w hS hD hW)
theorem pst_ret_scope {N : Nat} {Q : Exit → Act → World → Prop} {ds : List Deferred} {l : Sl} {I : Imm} {M : Seg} (h : Pst N Q .ret ds l I M) : Pst N (Exit.noGoto Q) .ret ds l I M := h
theorem rn_freeze {α : Type} {E : TypeId} {sz : Nat} {cell : α → Nat → Value} {ρ : Option Nat} {P : Program} {N : Nat} {c : Code} {Q : Exit → Act → World → Prop} {ds : List Deferred} {l : Sl} {I : Imm} {M A B Ms : Seg} {v : Value} {xs : List α} (dflt : α)
    (h : Own E sz cell v xs Ms) (hl : xs.length ≤ 140737488355328) (hM : M.Perm (Ms ++ A)) (hA : A.Perm B)
    (next : ∀ J, I.le J → IsSl sz cell dflt J v xs → Run (ρ := ρ) P N c Q ds l J B) : Run (ρ := ρ) P N c Q ds l I M := St.own_freeze dflt h hl hM hA next
theorem rn_mem {ρ : Option Nat} {P : Program} {N : Nat} {Q : Exit → Act → World → Prop} {ds : List Deferred} {l : Sl} {I : Imm} {M M' : Seg} {c : Code} (s : ∀ w, St I M w → St I M' w) (next : Run (ρ := ρ) P N c Q ds l I M') : Run (ρ := ρ) P N c Q ds l I M := run_mem s next
theorem run_hold {ρ : Option Nat} {P : Program} {N : Nat} {Q : Exit → Act → World → Prop} {ds : List Deferred} {l : Sl} {I : Imm} {M M0 : Seg} {c : Code} {b : Nat} {o : Obj} (hM : M.Perm ((b, o) :: M0))
    (next : ∀ J, I.le J → J.blk b = some o → Run (ρ := ρ) P N c Q ds l J M0) : Run (ρ := ρ) P N c Q ds l I M := fun a w hS hD hW =>
  have st := hW.perm hM
  next (I.add b o) (Imm.le_add (st.disj b o List.mem_cons_self)) (Imm.add_same I b o) a w hS hD st.freeze
theorem seq_hold {ρ : Option Nat} {P : Program} {N : Nat} {ops : Array Oper} {i : Nat} {Q : Exit → Act → World → Prop} {ds : List Deferred} {l : Sl} {I : Imm} {M M0 : Seg} {b : Nat} {o : Obj} (hM : M.Perm ((b, o) :: M0))
    (next : ∀ J, I.le J → J.blk b = some o → Seq (ρ := ρ) P N ops Q ds i l J M0) : Seq (ρ := ρ) P N ops Q ds i l I M := fun a w hS hD hW =>
  have st := hW.perm hM
  next (I.add b o) (Imm.le_add (st.disj b o List.mem_cons_self)) (Imm.add_same I b o) a w hS hD st.freeze
theorem seesN_held {I : Imm} {M : Seg} {b off n : Nat} {cs : Array Value} {T : TypeId} {fz : Nat × Nat} {vs : List Value} (h : I.blk b = some (Obj.cells cs T fz)) (hv : (cs.toList.drop off).take n = vs) : SeesN I M b off vs := fun k v hk => by
  refine ⟨rfl, cs, T, fz, .inr h, ?_⟩
  rw [← hv, List.getElem?_take] at hk
  split at hk
  · rw [List.getElem?_drop] at hk; simpa using hk
  · cases hk
theorem sees_held {I : Imm} {M : Seg} {b off : Nat} {cs : Array Value} {T : TypeId} {fz : Nat × Nat} {v : Value} (h : I.blk b = some (Obj.cells cs T fz)) (hc : cs[off]? = some v) : Sees I M ⟨b, off, none⟩ v := ⟨rfl, cs, T, fz, .inr h, hc⟩

section
variable {P : Program} {N : Nat} {ops : Array Oper} {i : Nat} {l : Sl} {I : Imm} {R M : Seg} {ty : TypeId} {gd : Option (Nat × Bool)} {K : Sl → Imm → Seg → Prop} {d : Nat}
theorem det_loadW {x : Operand} {T S : TypeId} {b n : Nat} {cs : Array Value} {fz : Nat × Nat} (hop : opAt ops N i = some (some d, .load T x, ty, gd)) (hg : gval ops l gd = some true) (hT : tyAgg P T = some true) (hsz : tySize P T = some n) (hn : cs.size = n)
    (hx : oval l x = some (.pointer (some ⟨b, 0, none⟩))) (hs : Holds I R b (.cells cs S fz)) : Det P N ops i l I R d (.agg cs) := by
  have h := det_loadN (P := P) (I := I) (R := R) (n := n) (vs := cs.toList) (b := b) (off := 0) hop hg hT hsz hx (by simpa using hn) (fun k v hk => ⟨rfl, cs, S, fz, hs, by simpa using hk⟩)
  simpa using h
theorem pst_retW {fn : Func} {I₀ : Imm} {post : Value → Imm → Seg → Prop} {F : Seg} {t : Nat} {T S : TypeId} {b n : Nat} {cs : Array Value} {fz : Nat × Nat} (M' : Seg) (hr : fn.results = #[.cell t T]) (ht : look t l = some (.pointer (some ⟨b, 0, none⟩))) (hT : tyAgg P T = some true) (hsz : tySize P T = some n) (hn : cs.size = n)
    (hs : Holds I M b (.cells cs S fz)) (hsub : (M' ++ F).Sublist M) (hle : I₀.le I) (hp : post (.agg cs) I M') : Pst N (RetQ P fn I₀ post F) .ret [] l I M :=
  pst_retC1 (T := T) (n := n) (b := b) (off := 0) (vs := cs.toList) M' hr ht hsz (by simpa using hn) (fun k v hk => ⟨rfl, cs, S, fz, hs, by simpa using hk⟩) (.inl ⟨hT, by simp⟩) hsub hle hp
theorem setRow_all : ∀ (vs A B : List Value), vs.length = B.length → (setRow (A ++ B).toArray A.length vs).toList = A ++ vs := by
  intro vs A B h
  have := setRow_append vs A B (by omega)
  rw [this, List.drop_of_length_le (by omega), List.append_nil]
theorem stp_storeW {T S : TypeId} {x y : Operand} {v : Value} {cs vs : Array Value} {b n : Nat} {M' : Seg} (k : Nat) (hop : opAt ops N i = some (none, .store T x y, ty, gd)) (hg : gval ops l gd = some true)
    (hx : oval l x = some (.pointer (some ⟨b, 0, none⟩))) (hy : oval l y = some v) (hsz : tySize P T = some n) (hvs : v.cells = vs) (hn : vs.size = n) (hone : ∀ u ∈ vs.toList, oneCell u = true)
    (hk : M[k]? = some (b, Obj.cells cs S (0, 0))) (hcs : cs.size = n) (hM : M.set k (b, Obj.cells vs S (0, 0)) = M')
    (h : K l I M') : Stp P N ops i l I M K := by
  refine stp_store (cs := cs.toList) (cs' := vs.toList) (vs := vs.toList) (off := 0) (S := S) (M' := M') k hop hg hx hy hsz (by rw [hvs]) (by simpa using hn) (List.all_eq_true.2 hone) (by simpa using hk) (by simp; omega) ?_ (by simpa using hM) h
  have := setRow_all vs.toList [] cs.toList (by simp; omega)
  simpa using this
end

abbrev RQ (I : Imm) (post : Value → Imm → Seg → Prop) (F : Seg) : Ending → World → Prop := fun e w' => ∃ v I' M', e = .returned v ∧ I.le I' ∧ post v I' M' ∧ St I' (M' ++ F) w'

def Yt (P : Program) (L : Nat) (args : Array Value) (I : Imm) (pre : Seg) (post : Value → Imm → Seg → Prop) : Prop :=
  ∀ F w, St I (pre ++ F) w → ∃ f tmps assign body, (Instr.yield L args).run P w = .ok (.round L f tmps assign body) w ∧ RoundIn (fen none) 0 P L f tmps assign body w (RQ I post F)

def IterCt {α : Type} (P : Program) (gf : FuncId) (cv : List Value) (enc : α → List Value) (seq : List α) (R : Imm → Seg → Prop) (I0 : Imm) : Prop :=
  ∀ (L : Nat) (Cl Sp : List α → Imm → Seg → Prop), (∀ xs I J M, I.le J → Cl xs I M → Cl xs J M) →
    (∀ xs x I Mr M, (xs ++ [x]) <+: seq → I0.le I → R I Mr → Cl xs I M → Yt P L (enc x).toArray I (Mr ++ M) (fun v I' M' => (v = .bool true ∧ ∃ Mr' M2, M' = Mr' ++ M2 ∧ R I' Mr' ∧ Cl (xs ++ [x]) I' M2) ∨ (v = .bool false ∧ Sp (xs ++ [x]) I' M'))) →
    ∀ I Mr M, I0.le I → R I Mr → Cl [] I M → Ct P gf (.func (.yield L) #[] #[] :: cv).toArray I (Mr ++ M) (fun _ I' M' => (∃ Mr' M2, M' = Mr' ++ M2 ∧ R I' Mr' ∧ Cl seq I' M2) ∨ (∃ xs, Sp xs I' M'))

section
variable {ρ : Option Nat} {P : Program} {N : Nat} {ops : Array Oper} {i : Nat} {l : Sl} {I : Imm} {R M : Seg} {ty : TypeId} {gd : Option (Nat × Bool)} {K : Sl → Imm → Seg → Prop} {Q : Exit → Act → World → Prop} {ds : List Deferred}

theorem yield_run {f : Operand} {L : Nat} {args : Array Operand} {tys : Array TypeId} {vals : List Value} {ρ : Operand → Value} {w : World} (hf : ρ f = .func (.yield L) #[] #[]) (hvals : args.toList.map ρ = vals) :
    (execAt ρ (.call { callee := .value f, args, argTypes := tys }) ty).run P w = (Instr.yield L vals.toArray).run P w := by
  have e : args.map ρ = vals.toArray := by apply Array.ext'; simp [hvals]
  show (do let d ← resolve ρ { callee := .value f, args, argTypes := tys } ty; invoke d.target d.args : Sem Next).run P w = _
  unfold resolve
  simp only [e, hf, Deferred.ofValue]
  show (Instr.yield L (#[] ++ vals.toArray)).run P w = _
  simp

theorem stp_yield {d : Option Tmp} {f : Operand} {L : Nat} {args : Array Operand} {tys : Array TypeId} {vals : List Value} {pre F : Seg} {post : Value → Imm → Seg → Prop}
    (hop : opAt ops N i = some (d, .call { callee := .value f, args, argTypes := tys }, ty, gd)) (hg : gval ops l gd = some true) (hf : oval l f = some (.func (.yield L) #[] #[])) (hv : ovals l args.toList = some vals)
    (yt : Yt P L vals.toArray I pre post) (hM : M.Perm (pre ++ F))
    (h : ∀ v I' M', I.le I' → post v I' M' → K (ups d v l) I' (M' ++ F)) : Stp P N ops i l I M K := by
  obtain ⟨o, ho, rfl, he, rfl, rfl, hN, hs⟩ := opAt_spec hop
  obtain ⟨h1, h2⟩ := ovals_known hv
  refine ⟨o, ho, hN, hs, hg, ?_, fun w st => ?_⟩
  · rw [he]
    intro x hx
    simp only [Op.operands, Call.operands] at hx
    rcases Array.mem_append.1 hx with hx | hx
    · simp at hx; subst hx; exact known_of hf
    · exact h1 x (by simpa using hx)
  · rw [execOp_at, he, yield_run (rho_of hf) h2]
    obtain ⟨f', tmps, assign, body, hy, hr⟩ := yt F w (st.perm hM)
    rw [hy]
    refine RoundIn.mono hr fun e w' ⟨v, I', M', hv', hle, hp, st'⟩ => ?_
    exact ⟨v, hv', I', M' ++ F, hle, st', h v I' M' hle hp⟩

def mark (D : Nat) : Deferred := { target := .collected D, args := #[] }

def RoundQ (I : Imm) (post : Option Code → Imm → Seg → Prop) (F : Seg) : Exit → Act → World → Prop
  | .normal, _, w => ∃ I' M', I.le I' ∧ post none I' M' ∧ St I' (M' ++ F) w
  | .ret, _, w => ∃ I' M', I.le I' ∧ post (some .ret) I' M' ∧ St I' (M' ++ F) w
  | .exit id, _, w => ∃ I' M', I.le I' ∧ post (some (.exit id)) I' M' ∧ St I' (M' ++ F) w
  | .goto t, _, w => ∃ I' M', I.le I' ∧ post (some (.goto t)) I' M' ∧ St I' (M' ++ F) w
  | _, _, _ => False

def putAll : List (Tmp × Value) → Sl → Sl
  | [], l => l
  | (t, v) :: r, l => putAll r ((t, v) :: l)

theorem slots_fold {N : Nat} {dfs : List Deferred} : ∀ (xs : List (Tmp × Value)) (l : Sl) (tm : Array Value), Slots N l { tmps := tm, defers := dfs } → (∀ x ∈ xs, x.1 < N) →
    Slots N (putAll xs l) { tmps := xs.foldl (fun t (x : Tmp × Value) => t.setIfInBounds x.1 x.2) tm, defers := dfs } := by
  intro xs
  induction xs with
  | nil => intro l tm h _; exact h
  | cons x xs ih =>
    intro l tm h hN
    obtain ⟨t, v⟩ := x
    exact ih _ _ (h.put (hN (t, v) List.mem_cons_self) v) (fun y hy => hN y (List.mem_cons_of_mem _ hy))

theorem St.putObj {I : Imm} {M : Seg} {w : World} {r : Nat} {o o' : Obj} (h : St I ((r, o) :: M) w) : St I ((r, o') :: M) (w.putObj r o') := by
  have hh : w.heap[r]? = some o := h.mem r o List.mem_cons_self
  have hl : r < w.heap.size := (Array.getElem?_eq_some_iff.1 hh).1
  exact h.put (i := 0) (o := o') (o' := o) (w' := w.putObj r o') rfl rfl rfl rfl (World.putObj_heap_same hl) (fun b hb => World.putObj_heap_other hb)

theorem perm3 {A B C : Seg} {x y : Nat × Obj} : ((A ++ (x :: y :: B)) ++ C).Perm (x :: (A ++ (B ++ (y :: C)))) := by
  rw [List.append_assoc]
  refine List.perm_middle.trans (.cons x (List.Perm.append_left A ?_))
  exact List.perm_middle.symm

theorem perm4 {A C : Seg} {x y : Nat × Obj} : (A ++ (x :: y :: C)).Perm (x :: (A ++ (y :: C))) := List.perm_middle

theorem run_rangeFunc {α : Type} {c : Code} {g : Operand} {ps : Array Tmp} {assign body : Code} {gf : FuncId} {cv : List Value} {enc : α → List Value} {seq : List α} {R : Imm → Seg → Prop} {Mr M0 F0 : Seg}
    (Cl : List α → Imm → Seg → Prop) (Sp : Code → List α → Imm → Seg → Prop) (sl : α → Nat → Sl) (mm : α → Nat → Seg)
    (hc : c = .rangeFunc g ps assign body) (hg : oval l g = some (.func (.func gf) #[] cv.toArray)) (hcall : callable P gf = true) (hps : ∀ x, (enc x).length = ps.size) (hpN : ps.all (fun t => Nat.blt t N) = true)
    (it : IterCt P gf cv enc seq R I)
    (hmono : ∀ xs I J M, I.le J → Cl xs I M → Cl xs J M)
    (hM : M.Perm (Mr ++ (M0 ++ F0))) (hr : R I Mr) (h0 : Cl [] I M0)
    (hassign : ∀ L x I1 M1, Run (ρ := some L) P N assign (Exit.then (fun a w => ∃ k, Slots N (sl x k) a ∧ a.defers = [] ∧ St I1 (mm x k ++ M1) w) (fun _ _ _ => False)) [] (putAll (ps.toList.zip (enc x)) l) I1 M1)
    (hbody : ∀ L x k xs I1 Mr1 M1 F1, (xs ++ [x]) <+: seq → I.le I1 → R I1 Mr1 → Cl xs I1 M1 →
      Run (ρ := some L) P N body (RoundQ I1 (fun o I' M' => match o with | none => ∃ Mr' M2, M' = Mr' ++ M2 ∧ R I' Mr' ∧ Cl (xs ++ [x]) I' M2 | some c => Sp c (xs ++ [x]) I' M') F1) [] (sl x k) I1 (mm x k ++ (Mr1 ++ (M1 ++ F1))))
    (hdone : ∀ D I' Mr' M', I.le I' → R I' Mr' → Cl seq I' M' → Pst N Q .normal (mark D :: ds) l I' ((D, .deferred (some [])) :: (Mr' ++ (M' ++ F0))))
    (hstop : ∀ D c xs I' M', I.le I' → Sp c xs I' M' → Run (ρ := none) P N c Q (mark D :: ds) l I' ((D, .deferred (some [])) :: (M' ++ F0))) :
    Run (ρ := none) P N c Q ds l I M := by
  subst hc
  intro a w hS hD hW
  refine wpIn_rangeFunc fun fn _ => ?_
  obtain ⟨rec, hrec⟩ : ∃ rec : LoopState → Option Code → Loop, rec = fun st pe => { state := st, pending := pe, fn, tmps := a.tmps, params := ps, assign, body, defers := w.heap.size } := ⟨_, rfl⟩
  have hW2 : St I ((w.heap.size + 1, .loop (rec .ready none)) :: (w.heap.size, .deferred (some [])) :: (Mr ++ (M0 ++ F0))) ((w.alloc (.deferred (some []))).alloc (.loop (rec .ready none))) := by
    have h1 := (hW.perm hM).new (.deferred (some []))
    have h2 := h1.new (.loop (rec .ready none))
    have e : (w.heap.push (Obj.deferred (some []))).size = w.heap.size + 1 := by simp
    rw [e] at h2
    exact h2
  generalize hw1 : ((w.alloc (.deferred (some []))).alloc (.loop (rec .ready none))) = w1 at hW2
  refine ⟨w.heap.size + 1, [mark w.heap.size], w1, { target := .fn (.func gf) cv.toArray, args := #[.func (.yield (w.heap.size + 1)) #[] #[]] }, w1, gf, (.func (.yield (w.heap.size + 1)) #[] #[] :: cv).toArray, w1, ?_, ?_, fun _ _ => trivial, ?_, fun h => by simp [fen, Fence.wide] at h, ?_⟩
  · rw [← hw1, hrec]; exact run_enterLoop_outer _ _ _ _ _
  · unfold resolve
    simp only [eval_of hS hg, Deferred.ofValue]
    simp [Act.eval, pure, Sem.run]
  · show (callFunc gf (#[Value.func (.yield (w.heap.size + 1)) #[] #[]] ++ cv.toArray)).run P w1 = _
    rw [callFunc_run hcall]
    simp
  · refine callsIn_fen.2 ?_
    clear hw1 hW
    generalize w.heap.size + 1 = L at hW2 hrec ⊢
    generalize w.heap.size = D at hW2 hrec ⊢
    have hit := it L (fun xs I M => ∃ M0, M = (L, .loop (rec .ready none)) :: (D, .deferred (some [])) :: M0 ∧ Cl xs I M0)
      (fun xs I M => ∃ c M0, M = (L, .loop (rec .done (some c))) :: (D, .deferred (some [])) :: M0 ∧ Sp c xs I M0)
      (fun xs I J M le ⟨M0, e, h⟩ => ⟨M0, e, hmono xs I J M0 le h⟩) ?_ I Mr ((L, .loop (rec .ready none)) :: (D, .deferred (some [])) :: M0) (Imm.le.refl I) hr ⟨M0, rfl, h0⟩
    · refine (hit F0 w1 (hW2.perm ?_)).mono ?_
      · rw [List.append_assoc]
        exact ((List.perm_middle (l₁ := Mr)).trans (.cons _ (List.perm_middle (l₁ := Mr)))).symm
      · rintro e w' ⟨v, I', M', rfl, hle, hp, st⟩
        rcases hp with ⟨Mr', M2, rfl, hR, M3, rfl, hcl⟩ | ⟨xs, c, M3, rfl, hsp⟩
        · have st2 := st.perm (show ((Mr' ++ ((L, Obj.loop (rec .ready none)) :: (D, .deferred (some [])) :: M3)) ++ F0).Perm ((L, Obj.loop (rec .ready none)) :: (D, .deferred (some [])) :: (Mr' ++ (M3 ++ F0))) by
            rw [List.append_assoc]
            exact (List.perm_middle (l₁ := Mr')).trans (.cons _ (List.perm_middle (l₁ := Mr'))))
          have hl := st2.mem _ _ List.mem_cons_self
          refine ⟨none, _, by have := run_endLoop (P := P) hl (by rw [hrec]; simp); rw [hrec] at this; exact this, ?_⟩
          refine hdone D I' Mr' M3 hle hR hcl _ _ ⟨hS.size, hS.get⟩ (by show [mark D] ++ a.defers = _; rw [hD]; rfl) ?_
          exact (St.putObj st2).drop
        · have hl := st.mem (L) (.loop (rec .done (some c))) (by simp)
          refine ⟨some c, _, by have := run_endLoop (P := P) hl (by rw [hrec]; simp); rw [hrec] at this; exact this, ?_⟩
          refine hstop D c xs I' M3 hle hsp _ _ ⟨hS.size, hS.get⟩ (by show [mark D] ++ a.defers = _; rw [hD]; rfl) ?_
          exact (St.putObj (M := (D, Obj.deferred (some [])) :: (M3 ++ F0)) st).drop
    · rintro xs x I1 Mr1 M1' hpre hle hR ⟨M1, rfl, hcl⟩ F1 w2 st
      have hl := st.mem L (.loop (rec .ready none)) (by simp)
      have hy := run_yield (P := P) (args := (enc x).toArray) hl (by rw [hrec]; simpa using hps x)
      rw [hrec] at hy
      refine ⟨_, _, assign, body, hy, roundIn_of_wpIn (F := fen none) trivial ?_⟩
      have hfold : ((ps.zip (enc x).toArray).foldl (fun tmps (t, a) => tmps.setIfInBounds t a) a.tmps) = (ps.toList.zip (enc x)).foldl (fun t (x : Tmp × Value) => t.setIfInBounds x.1 x.2) a.tmps := by
        rw [← Array.foldl_toList]
        simp
      simp only
      rw [hfold]
      refine wpIn_mono (hassign L x I1 _ _ w2 (slots_fold (ps.toList.zip (enc x)) l a.tmps ⟨hS.size, hS.get⟩ ?_) rfl st) ?_
      · intro y hy'
        have := (List.of_mem_zip (show (y.1, y.2) ∈ ps.toList.zip (enc x) from hy')).1
        have h3 := Array.all_eq_true'.1 hpN y.1 (by simpa using this)
        exact Nat.le_of_ble_eq_true h3
      · rintro e a1 w3 hq
        cases e with
        | normal =>
          obtain ⟨k, hS3, hD3, st3⟩ := hq
          have st4 : St I1 ((L, .loop (rec .ready none)) :: (mm x k ++ (Mr1 ++ (M1 ++ ((D, .deferred (some [])) :: F1))))) w3 := st3.perm ((List.Perm.append_left (mm x k) perm3).trans List.perm_middle)
          have hl3 := st4.mem L (.loop (rec .ready none)) List.mem_cons_self
          refine ⟨_, run_beginRound hl3 (by rw [hrec]), ?_⟩
          have st5 : St I1 (mm x k ++ (Mr1 ++ (M1 ++ ((L, .loop { rec .ready none with state := .busy }) :: (D, .deferred (some [])) :: F1)))) (w3.putObj L (.loop { rec .ready none with state := .busy })) := by
            refine (St.putObj st4).perm ?_
            refine (List.perm_middle (l₁ := mm x k)).symm.trans (List.Perm.append_left (mm x k) ?_)
            have := (perm3 (A := Mr1) (B := M1) (C := F1) (x := (L, Obj.loop { rec .ready none with state := .busy })) (y := (D, Obj.deferred (some [])))).symm
            refine this.trans ?_
            rw [List.append_assoc]
            refine List.Perm.append_left Mr1 ?_
            show ((L, Obj.loop { rec .ready none with state := .busy }) :: (D, .deferred (some [])) :: (M1 ++ F1)).Perm _
            exact ((List.perm_middle (l₁ := M1)).trans (.cons _ (List.perm_middle (l₁ := M1)))).symm
          refine wpIn_mono (hbody L x k xs I1 Mr1 M1 _ hpre hle hR hcl a1 _ hS3 hD3 st5) ?_
          have fin : ∀ (jump : Option Code) (I' : Imm) (M' : Seg) (w6 : World), St I' (M' ++ ((L, .loop { rec .ready none with state := .busy }) :: (D, .deferred (some [])) :: F1)) w6 →
              (Instr.endRound L jump).run P w6 = .ok (.bool jump.isNone) (w6.putObj L (.loop (rec (if jump.isNone then .ready else .done) jump))) ∧
              St I' ((L, .loop (rec (if jump.isNone then .ready else .done) jump)) :: (M' ++ ((D, .deferred (some [])) :: F1))) (w6.putObj L (.loop (rec (if jump.isNone then .ready else .done) jump))) := fun jump I' M' w6 st6 => by
            have st7 := st6.perm perm4
            have hl7 := st7.mem _ _ List.mem_cons_self
            have := run_endRound (P := P) jump hl7
            rw [hrec] at this ⊢
            exact ⟨this, by rw [hrec] at st7; exact St.putObj st7⟩
          rintro e a6 w6 hq6
          have stop : ∀ (c : Code), (∃ I' M', I1.le I' ∧ Sp c (xs ++ [x]) I' M' ∧ St I' (M' ++ ((L, .loop { rec .ready none with state := .busy }) :: (D, .deferred (some [])) :: F1)) w6) →
              ∃ v w', (Instr.endRound L (some c)).run P w6 = .ok v w' ∧ RQ I1 (fun v I' M' => (v = .bool true ∧ ∃ Mr' M2, M' = Mr' ++ M2 ∧ R I' Mr' ∧ ∃ M0, M2 = (L, .loop (rec .ready none)) :: (D, .deferred (some [])) :: M0 ∧ Cl (xs ++ [x]) I' M0) ∨
                (v = .bool false ∧ ∃ c M0, M' = (L, .loop (rec .done (some c))) :: (D, .deferred (some [])) :: M0 ∧ Sp c (xs ++ [x]) I' M0)) F1 (.returned v) w' := by
            rintro c ⟨I', M', hle', hp, st6⟩
            obtain ⟨h1, h2⟩ := fin (some c) I' M' w6 st6
            exact ⟨_, _, h1, _, I', _, rfl, hle', .inr ⟨rfl, c, M', rfl, hp⟩, h2.perm (.cons _ List.perm_middle)⟩
          cases e with
          | normal =>
            obtain ⟨I', M', hle', ⟨Mr', M2, rfl, hR', hcl'⟩, st6⟩ := hq6
            obtain ⟨h1, h2⟩ := fin none I' _ w6 st6
            refine ⟨_, _, h1, _, I', _, rfl, hle', .inl ⟨rfl, Mr', _, rfl, hR', M2, rfl, hcl'⟩, h2.perm ?_⟩
            rw [List.append_assoc]
            exact perm3.symm
          | ret => exact stop .ret hq6
          | exit id => exact stop (.exit id) hq6
          | goto t => exact stop (.goto t) hq6
          | panic ch => exact hq6.elim
          | outgrown => exact hq6.elim
        | exit id => exact hq.elim
        | goto t => exact hq.elim
        | ret => exact hq.elim
        | panic ch => exact hq.elim
        | outgrown => exact hq.elim

def isNI : Value → Option Bool
  | .nilIface => some true
  | .iface _ _ => some false
  | _ => none
def tyIface (P : Program) (t : TypeId) : Bool := match P.underlying t with | some (.interface _) => true | _ => false
theorem det_eqIface {x : Operand} {T T' : TypeId} {v : Value} {b : Bool} {d : Nat} (hop : opAt ops N i = some (some d, .binOp .eql T x (.const .nilIface) T', ty, gd)) (hg : gval ops l gd = some true) (hT : tyIface P T = true) (hx : oval l x = some v) (hb : isNI v = some b) : Det P N ops i l I R d (.bool b) :=
  det_pure hop hg (known2 hx rfl) fun I' M' => by
    show wpL P ((do eqGuard .eql T x (.const .nilIface) (rho l x) .nilIface; binOp .eql T (rho l x) .nilIface) >>= fun x => pure (Next.value x)) _ I' M'
    rw [rho_of hx]
    refine wpL_val ?_
    obtain ⟨ms, hms⟩ : ∃ ms, P.underlying T = some (.interface ms) := by
      unfold tyIface at hT
      split at hT
      · rename_i ms h; exact ⟨ms, h⟩
      · cases hT
    have e1 : eqGuard .eql T x (.const .nilIface) v .nilIface = pure () := by
      cases v <;> simp [isNI] at hb <;> simp [eqGuard]
    rw [e1]
    show wpL P (binOp .eql T v .nilIface) _ I' M'
    cases v <;> simp [isNI] at hb <;> subst hb
    all_goals
      first
        | show wpL P (Op.equalIn 10000 T .nilIface .nilIface >>= fun b => pure (Value.bool b)) _ I' M'
        | show wpL P (Op.equalIn 10000 T (.iface _ _) .nilIface >>= fun b => pure (Value.bool b)) _ I' M'
      rw [wpL_bind]
      unfold Op.equalIn
      rw [wpL_bind, wpL_underlying hms]
      exact ⟨rfl, rfl⟩

def Hk (K : Sl → Imm → Seg → Prop) (l : Sl) (I : Imm) (M : Seg) : Prop := ∀ w, St I M w → ∃ J M', I.le J ∧ St J M' w ∧ K l J M'
theorem hk_done {K : Sl → Imm → Seg → Prop} {l : Sl} {I : Imm} {M : Seg} (h : K l I M) : Hk K l I M := fun _ st => ⟨I, M, Imm.le.refl I, st, h⟩
theorem hk_mem {K : Sl → Imm → Seg → Prop} {l : Sl} {I : Imm} {M M' : Seg} (s : ∀ w, St I M w → St I M' w) (next : Hk K l I M') : Hk K l I M := fun w st => next w (s w st)
theorem hk_freeze {α : Type} {E : TypeId} {sz : Nat} {cell : α → Nat → Value} {K : Sl → Imm → Seg → Prop} {l : Sl} {I : Imm} {M A B Ms : Seg} {v : Value} {xs : List α} (dflt : α)
    (h : Own E sz cell v xs Ms) (hl : xs.length ≤ 140737488355328) (hM : M.Perm (Ms ++ A)) (hA : A.Perm B) (next : ∀ J, I.le J → IsSl sz cell dflt J v xs → Hk K l J B) : Hk K l I M := fun w st => by
  obtain ⟨J, h1, h2, h3⟩ := h.freeze dflt hl (st.perm hM)
  obtain ⟨J2, M', g1, g2, g3⟩ := next J h1 h2 w (h3.perm hA)
  exact ⟨J2, M', h1.trans g1, g2, g3⟩
theorem stp_hk {K : Sl → Imm → Seg → Prop} (h : Stp P N ops i l I M (Hk K)) : Stp P N ops i l I M K := by
  obtain ⟨o, h1, h2, h3, h4, h5, h6⟩ := h
  refine ⟨o, h1, h2, h3, h4, h5, fun w st => (h6 w st).mono fun v w' ⟨I', M', g1, g2, g3⟩ => ?_⟩
  obtain ⟨J, M2, k1, k2, k3⟩ := g3 w' g2
  exact ⟨J, M2, g1.trans k1, k2, k3⟩
theorem ofp_stpH {S : Seg} {Kfin : Sl → Imm → Seg → Prop} {rest : List (Nat × Bool)}
    (h : Stp P N ops i l I (R ++ S) (Hk fun l' I' M' => ∃ S', M'.Perm (R ++ S') ∧ OFP P N ops R Kfin rest l' I' S')) : OFP P N ops R Kfin ((i, false) :: rest) l I S := stp_hk h

theorem pst_round {I₀ : Imm} {post : Option Code → Imm → Seg → Prop} {F M' : Seg} (hle : I₀.le I) (hp : post none I M') (hs : (M' ++ F).Sublist M) : Pst N (RoundQ I₀ post F) .normal [] l I M := fun _ _ _ _ hW => ⟨I, M', hle, hp, hW.sub hs⟩
theorem pst_round_ret {I₀ : Imm} {post : Option Code → Imm → Seg → Prop} {F M' : Seg} (hle : I₀.le I) (hp : post (some .ret) I M') (hs : (M' ++ F).Sublist M) : Pst N (RoundQ I₀ post F) .ret [] l I M := fun _ _ _ _ hW => ⟨I, M', hle, hp, hW.sub hs⟩
def RetQM (P : Program) (fn : Func) (I : Imm) (post : Value → Imm → Seg → Prop) (F : Seg) : Exit → Act → World → Prop :=
  bodyPostM (fen none) 0 P fn (RQ I post F)

theorem fnM_of_run {f : FuncId} {fn : Func} {args : List Value} {pre : Seg} {post : Value → Imm → Seg → Prop} (hf : P.funcs[f]? = some fn) (hb : fn.body.isSome = true)
    (hN : fn.ntmps = N) (hle : args.length ≤ N)
    (h : ∀ F, Run (ρ := none) P N (bodyOf fn) (RetQM P fn I post F) [] (argSlots 0 args) I (pre ++ F)) : Ct P f args.toArray I pre post := by
  intro F w st
  have hbody : fn.body = some (bodyOf fn) := by
    cases hx : fn.body with
    | none => rw [hx] at hb; cases hb
    | some c => simp [bodyOf, hx]
  refine callsIn_fen.1 (callsIn_of_wp_marks (F := fen none) (n := 0) hf hbody trivial (h F _ w ⟨?_, fun t v hv => ?_⟩ rfl st))
  · simp; omega
  obtain ⟨_, h2⟩ := look_argSlots args 0 t v hv
  rw [Nat.sub_zero] at h2
  have hlt : t < args.length := (List.getElem?_eq_some_iff.1 h2).1
  rw [Array.getElem?_append_left (by simpa using hlt)]
  simpa using h2

def CtD (P : Program) (f : FuncId) (args : Array Value) (I : Imm) (pre : Seg) (post : Value → Imm → Seg → Prop) : Prop :=
  ∀ F w u, St I (pre ++ F) w → CallsDIn (fen none) 0 P f args u w fun e u' w' => u' = u ∧ RQ I post F e w'

theorem fnD_of_run {f : FuncId} {fn : Func} {args : List Value} {pre : Seg} {post : Value → Imm → Seg → Prop} (hf : P.funcs[f]? = some fn) (hb : fn.body.isSome = true)
    (hN : fn.ntmps = N) (hle : args.length ≤ N)
    (h : ∀ F, Run (ρ := none) P N (bodyOf fn) (RetQ P fn I post F) [] (argSlots 0 args) I (pre ++ F)) : CtD P f args.toArray I pre post := by
  intro F w u st
  have hbody : fn.body = some (bodyOf fn) := by
    cases hx : fn.body with
    | none => rw [hx] at hb; cases hb
    | some c => simp [bodyOf, hx]
  refine callsDIn_of_wp hf hbody trivial (h F _ w ⟨?_, fun t v hv => ?_⟩ rfl st)
  · simp; omega
  obtain ⟨_, h2⟩ := look_argSlots args 0 t v hv
  rw [Nat.sub_zero] at h2
  have hlt : t < args.length := (List.getElem?_eq_some_iff.1 h2).1
  rw [Array.getElem?_append_left (by simpa using hlt)]
  simpa using h2

section
variable {fn : Func} {I₀ : Imm} {post : Value → Imm → Seg → Prop} {F : Seg}
def blocksOf (Ds : List Nat) : Seg := Ds.map fun D => (D, .deferred (some []))

theorem leaves_marks {R : Ending → World → Prop} {tm : Array Value} : ∀ (Ds : List Nat) (w : World) (M : Seg), St I (blocksOf Ds ++ M) w → (∀ w', St I M w' → ∃ v, (results fn tm).run P w' = .ok v w' ∧ R (.returned v) w') →
    LeavesInM (fen none) 0 P fn tm R (Ds.map mark) .returning w := by
  intro Ds
  induction Ds with
  | nil => intro w M st h; exact h w st
  | cons D Ds ih =>
    intro w M st h
    have hh := st.mem D (.deferred (some [])) (by simp [blocksOf])
    exact ⟨by simp, .inl ⟨D, _, rfl, run_takeDeferred hh, ih _ M (St.putObj (M := blocksOf Ds ++ M) st).drop h⟩⟩

theorem pst_marks (Ds : List Nat) {e : Exit} (he : e = .ret ∨ e = .normal) (hM : M.Perm (blocksOf Ds ++ R)) (h : Pst N (RetQ P fn I₀ post F) e [] l I R) : Pst N (RetQM P fn I₀ post F) e (Ds.map mark) l I M := fun a w hS hD hW => by
  have key : LeavesInM (fen none) 0 P fn a.tmps (RQ I₀ post F) a.defers .returning w := by
    rw [hD]
    refine leaves_marks Ds w R (hW.perm hM) fun w' st => ?_
    have := h { tmps := a.tmps, defers := [] } w' ⟨hS.size, hS.get⟩ rfl st
    rcases he with rfl | rfl
    · exact this.2
    · exact this.2
  rcases he with rfl | rfl
  · exact key
  · exact key

theorem pst_deferred {fid : FuncId} {vals cv : List Value} {pre F1 : Seg} {post1 : Value → Imm → Seg → Prop} (hcall : callable P fid = true) (ct : CtD P fid (vals ++ cv).toArray I pre post1) (hM : M.Perm (pre ++ F1))
    (next : ∀ v I' M', I.le I' → post1 v I' M' → Pst N (RetQM P fn I₀ post F) .ret ds l I' (M' ++ F1)) : Pst N (RetQM P fn I₀ post F) .ret ({ target := .fn (.func fid) cv.toArray, args := vals.toArray } :: ds) l I M := fun a w hS hD hW => by
  show LeavesInM (fen none) 0 P fn a.tmps (RQ I₀ post F) a.defers .returning w
  rw [hD]
  refine ⟨by simp, .inr ⟨fun h => by simp [fen, Fence.wide] at h, .func fid, cv.toArray, fid, (vals ++ cv).toArray, rfl, ?_, fun _ _ => trivial, ?_⟩⟩
  · show (callFunc fid (vals.toArray ++ cv.toArray)).run P w = _
    rw [callFunc_run hcall]
    simp
  · refine (ct F1 w .returning (hW.perm hM)).mono ?_
    rintro e u' w' ⟨rfl, v, I', M', rfl, hle, hp, st⟩
    exact next v I' M' hle hp { tmps := a.tmps, defers := ds } w' ⟨hS.size, hS.get⟩ rfl st
end

def deferAt (ops : Array Oper) (i : Nat) : Option (Call × TypeId × Option (Nat × Bool)) :=
  match ops[i]? with
  | some o => match o.op, o.dst with
    | .defer c, none => some (c, o.type, o.guard)
    | _, _ => none
  | none => none

theorem seq_defer {f : Operand} {fid : FuncId} {args : Array Operand} {tys : Array TypeId} {vals cv : List Value} (hop : deferAt ops i = some ({ callee := .value f, args, argTypes := tys }, ty, none)) (hf : oval l f = some (.func (.func fid) #[] cv.toArray)) (hv : ovals l args.toList = some vals)
    (next : Seq (ρ := none) P N ops Q ({ target := .fn (.func fid) cv.toArray, args := vals.toArray } :: ds) (i + 1) l I M) : Seq (ρ := none) P N ops Q ds i l I M := by
  obtain ⟨h1, h2⟩ := ovals_known hv
  unfold deferAt at hop
  cases ho : ops[i]? with
  | none => rw [ho] at hop; cases hop
  | some o =>
    rw [ho] at hop
    simp only at hop
    split at hop
    · rename_i c hc hdst
      simp only [Option.some.injEq, Prod.mk.injEq] at hop
      obtain ⟨rfl, rfl, hgd⟩ := hop
      intro a w hS hD hW
      have hlt : i < ops.size := (Array.getElem?_eq_some_iff.1 ho).1
      rw [range_step hlt]
      simp only [wpOpsIn, ho]
      have hw : Region.wanted o (yielded ops a.tmps) = true := by simp [Region.wanted, hgd]
      rw [if_pos hw]
      refine ⟨fun _ _ => trivial, ?_⟩
      have hargs : args.map a.eval = vals.toArray := by
        apply Array.ext'
        simp only [Array.toList_map]
        rw [← h2]
        refine List.map_congr_left fun x hx => ?_
        obtain ⟨v, hv'⟩ := h1 x hx
        rw [eval_of hS hv', rho_of hv']
      have hrun : (o.semAt (fen none).round a.eval).run P w = .ok (.defer { target := .fn (.func fid) cv.toArray, args := vals.toArray }) w := by
        show (Oper.semAt none a.eval o).run P w = _
        rw [Oper.semAt_none, execOp_at, hc]
        show (do pure (Next.defer (← resolve a.eval { callee := .value f, args, argTypes := tys } o.type)) : Sem Next).run P w = _
        unfold resolve
        simp only [hargs, eval_of hS hf, Deferred.ofValue]
        simp [Sem.run_bind, Result.andThen]
      rw [hrun]
      show wpOpsIn (fen none) 0 P ops Q _ ({ a with defers := _ :: a.defers }.put o.dst undef) w
      rw [hdst]
      exact next _ w ⟨hS.size, hS.get⟩ (by rw [← hD]; rfl) hW
    · cases hop
end
end Go.Sl
namespace Go.Sh
open Go Go.Sl

def plCells (p : List Int) : Array Value := (p.map encI).toArray
def encP (p : Place) : Value := .agg (plCells p.val)
theorem plCells_size (p : Place) : (plCells p.val).size = 10 := by simp [plCells, p.property]
theorem plCells_one (p : List Int) : ∀ u ∈ (plCells p).toList, oneCell u = true := fun u hu => by
  simp only [plCells, List.toList_toArray, List.mem_map] at hu
  obtain ⟨x, _, rfl⟩ := hu
  rfl
def flatP : List (Nat × SK) := (List.range 10).map fun i => (i, .i .i64)
theorem okC_pl (p : Place) : okC (plCells p.val) flatP = true := by
  rw [okC, List.all_eq_true]
  intro x hx
  obtain ⟨i, hi, rfl⟩ := List.mem_map.1 hx
  have hi := List.mem_range.1 hi
  have : i < p.val.length := by rw [p.property]; exact hi
  simp [plCells, this, encI, skV]
theorem eqC_pl (a b : Place) : eqC (plCells a.val) (plCells b.val) flatP = decide (a = b) := by
  have key : eqC (plCells a.val) (plCells b.val) flatP = true ↔ a = b := by
    constructor
    · intro h
      rw [eqC, List.all_eq_true] at h
      apply Subtype.ext
      refine List.ext_getElem (by rw [a.property, b.property]) fun i h1 h2 => ?_
      have := h (i, .i .i64) (List.mem_map.2 ⟨i, List.mem_range.2 (by rw [← a.property]; exact h1), rfl⟩)
      simpa [plCells, h1, h2, encI, scE] using this
    · rintro rfl
      rw [eqC, List.all_eq_true]
      intro x hx
      obtain ⟨i, hi, rfl⟩ := List.mem_map.1 hx
      have hi := List.mem_range.1 hi
      have : i < a.val.length := by rw [a.property]; exact hi
      simp [plCells, this, encI, scE]
  by_cases h : a = b
  · rw [decide_eq_true h]; exact key.2 h
  · rw [decide_eq_false h]
    cases h2 : eqC (plCells a.val) (plCells b.val) flatP with
    | false => rfl
    | true => exact absurd (key.1 h2) h
theorem keyOk_place {P : Program} {kt : TypeId} (h : flatT P 4 kt = some (10, flatP)) (hagg : tyAgg P kt = some true) : KeyOk P kt encP :=
  keyOk_flat h (by decide) hagg (fun p : Place => plCells p.val) plCells_size okC_pl eqC_pl

theorem setRow_put (p : List Int) (c i k : Nat) (h : 2 * c + 1 < p.length) : (setRow (plCells p) (0 + c * 2) [.int .i64 i, .int .i64 k]).toList = (plCells (putP p c i k)).toList := by
  simp only [setRow, plCells, putP]
  rw [show 0 + c * 2 = 2 * c by omega]
  simp [List.map_set, encI]

section
variable {P : Program} {N : Nat} {ops : Array Oper} {i : Nat} {l : Sl} {I : Imm} {R M : Seg} {ty : TypeId} {gd : Option (Nat × Bool)} {K : Sl → Imm → Seg → Prop} {d : Nat}
theorem stp_storePl {T S : TypeId} {x y : Operand} {p : List Int} {b c i' k' : Nat} {M' : Seg} (k : Nat) (hop : opAt ops N i = some (none, .store T x y, ty, gd)) (hg : gval ops l gd = some true)
    (hx : oval l x = some (.pointer (some ⟨b, 0 + c * 2, none⟩))) (hy : oval l y = some (.agg #[.int .i64 i', .int .i64 k'])) (hsz : tySize P T = some 2)
    (hk : M[k]? = some (b, Obj.cells (plCells p) S (0, 0))) (hc : 2 * c + 1 < p.length) (hM : M.set k (b, Obj.cells (plCells (putP p c i' k')) S (0, 0)) = M')
    (h : K l I M') : Stp P N ops i l I M K := by
  refine stp_store (cs := (plCells p).toList) (cs' := (plCells (putP p c i' k')).toList) (vs := [.int .i64 i', .int .i64 k']) (off := 0 + c * 2) (S := S) (M' := M') k hop hg hx hy hsz rfl rfl rfl (by simpa using hk) ?_ ?_ (by simpa using hM) h
  · simp only [List.length_cons, List.length_nil, Array.length_toList, plCells, List.size_toArray, List.length_map]; omega
  · have := setRow_put p c i' k' hc
    simpa using this
end

def YardR (E T : TypeId) (y : Nat) (v1 v2 v3 : Value) (Y : Yard) : Imm → Seg → Prop := fun I Mr =>
  ∃ ws Ms, Mr = (y, Obj.cells #[v1, v2, v3] T (0, 0)) :: Ms ∧ IsCars I v1 Y.cars ∧ IsInts I v2 Y.room ∧ Own E 1 valCell v3 ws Ms ∧ RowsV I ws Y.tracks
theorem placeOf_length (Y : Yard) : (placeOf Y).val.length = 10 := (placeOf Y).property
theorem metV_getD (p : Place) (m : Met) : (getKv p (metV m)).getD (.int .i64 0) = .int .i64 ((getM p m).getD 0 : Nat) := by
  rw [metV_get]; cases getM p m <;> rfl
theorem metV_isSome (p : Place) (m : Met) : (getKv p (metV m)).isSome = (getM p m).isSome := by
  rw [metV_get]; cases getM p m <;> rfl
theorem YardR.mono {E T : TypeId} {y : Nat} {v1 v2 v3 : Value} {Y : Yard} {I J : Imm} {M : Seg} (h : YardR E T y v1 v2 v3 Y I M) (le : I.le J) : YardR E T y v1 v2 v3 Y J M := by
  obtain ⟨ws, Ms, h1, h2, h3, h4, h5⟩ := h
  exact ⟨ws, Ms, h1, h2.mono le, h3.mono le, h4, h5.mono le⟩

def allP (ps : List (Yard → Bool)) (Y : Yard) : Bool := ps.all fun p => p Y
def noGoal : Yard → Bool := fun _ => false
def GoalsOk (P : Program) (E T : TypeId) (I : Imm) (A : Yard) (gs : List Value) (ps : List (Yard → Bool)) : Prop :=
  gs.length = ps.length ∧ ∀ i, i < gs.length → ∃ fid cv, gs.getD i undef = .func (.func fid) #[] (List.toArray cv) ∧ callable P fid = true ∧
    ∀ J y v1 v2 v3 Y ws Ms, I.le J → Kin A Y → IsCars J v1 Y.cars → IsInts J v2 Y.room → Own E 1 valCell v3 ws Ms → RowsV J ws Y.tracks → (∀ j, j < i → (ps.getD j noGoal) Y = true) →
      Ct P fid (.pointer (some ⟨y, 0, none⟩) :: cv).toArray J ((y, Obj.cells #[v1, v2, v3] T (0, 0)) :: Ms) (fun v I' M' => v = .bool ((ps.getD i noGoal) Y) ∧ M' = (y, Obj.cells #[v1, v2, v3] T (0, 0)) :: Ms)
theorem GoalsOk.mono {P : Program} {E T : TypeId} {I J : Imm} {A : Yard} {gs : List Value} {ps : List (Yard → Bool)} (h : GoalsOk P E T I A gs ps) (le : I.le J) : GoalsOk P E T J A gs ps :=
  ⟨h.1, fun i hi => by
    obtain ⟨fid, cv, e, hc, hct⟩ := h.2 i hi
    exact ⟨fid, cv, e, hc, fun K y v1 v2 v3 Y ws Ms hle => hct K y v1 v2 v3 Y ws Ms (le.trans hle)⟩⟩
theorem allP_done {ps : List (Yard → Bool)} {Y : Yard} (h : ∀ j, j < ps.length → (ps.getD j noGoal) Y = true) : allP ps Y = true := by
  rw [allP, List.all_eq_true]
  intro p hp
  obtain ⟨i, hi, rfl⟩ := List.mem_iff_getElem.1 hp
  have := h i hi
  simpa [List.getD, hi] using this
theorem allP_miss {ps : List (Yard → Bool)} {Y : Yard} {k : Nat} (hk : k < ps.length) (h : (ps.getD k noGoal) Y = false) : allP ps Y = false := by
  rw [allP, List.all_eq_false]
  refine ⟨ps.getD k noGoal, getD_mem hk, by simp [h]⟩
theorem before_snoc {ps : List (Yard → Bool)} {Y : Yard} {k : Nat} (h : ∀ j, j < k → (ps.getD j noGoal) Y = true) (hk : (ps.getD k noGoal) Y = true) : ∀ j, j < k + 1 → (ps.getD j noGoal) Y = true := fun j hj => by
  rcases Nat.lt_or_ge j k with h1 | h1
  · exact h j h1
  · have : j = k := by omega
    subst this; exact hk

def orderedP (order : List Int) (Y : Yard) : Bool := decide (Y.tracks.getD 0 [] = order)
def wholeP (Y : Yard) : Bool := decide (((Y.tracks.getD 0 []).length : Int) = (Y.cars.length : Int))
def lastP (cs t : List Int) : Bool := (t.drop (t.length - cs.length)).all fun c => decide (c ∈ cs)
theorem in_snoc {l cs : List Int} {k : Nat} (h : ∀ j, j < k → l.getD j 0 ∈ cs) (hk : l.getD k 0 ∈ cs) : ∀ j, j < k + 1 → l.getD j 0 ∈ cs := fun j hj => by
  rcases Nat.lt_or_ge j k with h1 | h1
  · exact h j h1
  · have : j = k := by omega
    subst this; exact hk
theorem lastP_miss {cs t : List Int} {k : Nat} (hk : k < (t.drop (t.length - cs.length)).length) (h : ¬ (t.drop (t.length - cs.length)).getD k 0 ∈ cs) : lastP cs t = false := by
  rw [lastP, List.all_eq_false]
  exact ⟨_, getD_mem (d := 0) hk, by simpa using h⟩
theorem lastP_all {cs t : List Int} (h : ∀ j, j < (t.drop (t.length - cs.length)).length → (t.drop (t.length - cs.length)).getD j 0 ∈ cs) : lastP cs t = true := by
  rw [lastP, List.all_eq_true]
  intro c hc
  obtain ⟨i, hi, rfl⟩ := List.mem_iff_getElem.1 hc
  have := h i hi
  rw [List.getD, List.getElem?_eq_getElem hi] at this
  simpa only [Option.getD_some, decide_eq_true_eq] using this

theorem Kin.good {A Y : Yard} (f : Fine A) (k : Kin A Y) : GoodY Y := by
  refine ⟨fun t ht c hc => ?_, by rw [k.cars]; exact f.good.small, by rw [k.room, k.len]; exact f.good.len, by rw [k.perm.length_eq]; exact f.good.sum⟩
  rw [k.cars]
  exact flatten_ok f.ok c (k.perm.mem_iff.1 (List.mem_flatten.2 ⟨t, ht, hc⟩))
theorem Kin.len3 {A Y : Yard} (f : Fine A) (k : Kin A Y) : Y.tracks.length ≤ 3 := by rw [k.len, f.len]; exact f.room3
theorem Kin.cars5 {A Y : Yard} (f : Fine A) (k : Kin A Y) : Y.cars.length ≤ 5 := by rw [k.cars]; exact f.cars
theorem Kin.pos {A Y : Yard} (f : Fine A) (k : Kin A Y) : 0 < Y.tracks.length := by rw [k.len, f.len]; exact f.room1
theorem back_ok {Y : Yard} {s : Shift} (h : mayErr Y s = 0) : (0 ≤ (backShift s).frm ∧ (backShift s).frm < (moved Y s).tracks.length) ∧ (0 ≤ (backShift s).to ∧ (backShift s).to < (moved Y s).tracks.length) ∧
    (0 ≤ (backShift s).many ∧ (backShift s).many ≤ ((moved Y s).tracks.getD (backShift s).frm.toNat []).length) := by
  have m := mayOk h
  have hf := m.frm; have ht := m.to; have hne := m.ne; have hm := m.many
  have hne' : s.frm.toNat ≠ s.to.toNat := by omega
  refine ⟨by simpa [backShift, moved] using ht, by simpa [backShift, moved] using hf, by simp only [backShift]; omega, ?_⟩
  simp only [backShift, moved, List.getD]
  rw [List.getElem?_set_ne hne', List.getElem?_set_self (by omega)]
  simp only [Option.getD_some, List.length_append, List.length_drop, cutAt, trk]
  simp only [List.getD] at hm ⊢
  omega
theorem none_of {α : Type} {o : Option α} (h : o.isSome = false) : o = none := by cases o <;> first | rfl | cases h
theorem some_of {α : Type} {o : Option α} (h : o.isSome = true) : ∃ l, o = some l := by cases o <;> first | cases h; done | exact ⟨_, rfl⟩

theorem drop_of_prefix {xs ds : List Shift} {s : Shift} (h : xs ++ [s] <+: ds) : ds.drop xs.length = s :: ds.drop (xs ++ [s]).length := by
  obtain ⟨r, rfl⟩ := h
  simp
theorem mem_of_prefix {xs ds : List Shift} {s : Shift} (h : xs ++ [s] <+: ds) : s ∈ ds := h.subset (by simp)
theorem try_next {f : Shift → Met → Option (List Shift) × Met} {ds xs : List Shift} {s : Shift} {m : Met} (h : xs ++ [s] <+: ds) (hf : (f s m).1 = none) : tryAll f (ds.drop xs.length) m = tryAll f (ds.drop (xs ++ [s]).length) (f s m).2 := by
  rw [drop_of_prefix h]
  simp only [tryAll]
  cases hr : f s m with
  | mk o m' => rw [hr] at hf; simp only at hf; subst hf; rfl
theorem try_hit {f : Shift → Met → Option (List Shift) × Met} {ds xs : List Shift} {s : Shift} {m : Met} {l : List Shift} (h : xs ++ [s] <+: ds) (hf : (f s m).1 = some l) : tryAll f (ds.drop xs.length) m = (some (s :: l), (f s m).2) := by
  rw [drop_of_prefix h]
  simp only [tryAll]
  cases hr : f s m with
  | mk o m' => rw [hr] at hf; simp only at hf; subst hf; rfl
theorem try_done {f : Shift → Met → Option (List Shift) × Met} {ds : List Shift} {m : Met} : tryAll f (ds.drop ds.length) m = (none, m) := by
  rw [drop_done (Nat.le_refl _)]; rfl
theorem search_goal {g : Yard → Bool} {d : Nat} {Y : Yard} {m : Met} (h : g Y = true) : searchM g d Y m = (some [], m) := by
  cases d <;> simp [searchM, h]
theorem search_zero {g : Yard → Bool} {Y : Yard} {m : Met} (h : g Y = false) : searchM g 0 Y m = (none, m) := by simp [searchM, h]
theorem search_stop {g : Yard → Bool} {d : Nat} {Y : Yard} {m : Met} (h : g Y = false) (hd : d = 0 ∨ (getM (placeOf Y) m).isSome = true ∧ d ≤ (getM (placeOf Y) m).getD 0) : searchM g d Y m = (none, m) := by
  cases d with
  | zero => exact search_zero h
  | succ d =>
    rcases hd with hd | ⟨h1, h2⟩
    · cases hd
    · simp only [searchM, h, Bool.false_eq_true, if_false]
      rw [if_pos]
      cases hg : getM (placeOf Y) m with
      | none => rw [hg] at h1; cases h1
      | some n => rw [hg] at h2; simpa [stopped] using h2
theorem search_go {g : Yard → Bool} {d : Nat} {Y : Yard} {m : Met} (h : g Y = false) (hd : ¬ ((getM (placeOf Y) m).isSome = true ∧ d + 1 ≤ (getM (placeOf Y) m).getD 0)) :
    searchM g (d + 1) Y m = tryAll (fun s met => searchM g d (moved Y s) met) ((draws Y).drop ([] : List Shift).length) (updM (placeOf Y) (d + 1) m) := by
  simp only [searchM, h, Bool.false_eq_true, if_false, List.length_nil, List.drop_zero]
  rw [if_neg]
  cases hg : getM (placeOf Y) m with
  | none => simp [stopped]
  | some n =>
    rw [hg] at hd
    simpa [stopped] using hd

theorem tryAll_len {f : Shift → Met → Option (List Shift) × Met} {d : Nat} (h : ∀ s m, ((f s m).1.getD []).length ≤ d) : ∀ (ss : List Shift) (m : Met), ((tryAll f ss m).1.getD []).length ≤ d + 1 := by
  intro ss
  induction ss with
  | nil => intro m; simp [tryAll]
  | cons s r ih =>
    intro m
    simp only [tryAll]
    have := h s m
    cases hr : f s m with
    | mk o m' =>
      rw [hr] at this
      cases o with
      | none => exact ih m'
      | some l => simpa using this
theorem search_len (g : Yard → Bool) : ∀ (d : Nat) (Y : Yard) (m : Met), ((searchM g d Y m).1.getD []).length ≤ d := by
  intro d
  induction d with
  | zero => intro Y m; simp only [searchM]; split <;> simp
  | succ d ih =>
    intro Y m
    simp only [searchM]
    split
    · simp
    · split
      · simp
      · exact tryAll_len (fun s m => ih _ m) _ _
def stopB (d : Nat) (o : Option Nat) : Bool := (cmp .eql (↑d) (0)) || (o.isSome && cmp .geq (↑(o.getD 0)) (↑d))
theorem search_stop2 {g : Yard → Bool} {d : Nat} {Y : Yard} {m : Met} (h : g Y = false) (hb : stopB d (getM (placeOf Y) m) = true) : searchM g d Y m = (none, m) := by
  refine search_stop h ?_
  unfold stopB at hb
  rcases or_t hb with h1 | h1
  · exact .inl (by have := eql_t h1; omega)
  · obtain ⟨h2, h3⟩ := and_t h1
    exact .inr ⟨h2, by have := geq_t h3; omega⟩
theorem search_go_of {d : Nat} {o : Option Nat} (hb : stopB d o = false) : d ≠ 0 ∧ ¬ (o.isSome = true ∧ d ≤ o.getD 0) := by
  unfold stopB at hb
  obtain ⟨h1, h2⟩ := or_f hb
  refine ⟨by have := eql_f h1; omega, fun ⟨h3, h4⟩ => ?_⟩
  rw [h3, Bool.true_and] at h2
  have := geq_f h2
  omega
theorem search_go2 {g : Yard → Bool} {d e : Nat} {Y : Yard} {m : Met} (h : g Y = false) (hde : d = e + 1) (hd : ¬ ((getM (placeOf Y) m).isSome = true ∧ d ≤ (getM (placeOf Y) m).getD 0)) :
    searchM g d Y m = tryAll (fun s met => searchM g e (moved Y s) met) ((draws Y).drop ([] : List Shift).length) (updM (placeOf Y) (e + 1) m) := by
  subst hde; exact search_go h hd

theorem search_plain {Y : Yard} (f : Fine Y) {g : Yard → Bool} {d : Nat} (h : ∀ m, m < d → plain g m Y = none) : (searchM g d Y []).1 = plain g d Y :=
  (searchM_ok f d Y [] (Kin.refl Y) (fun Z _ n hn => by cases hn) h).1
theorem findSome_at {α β : Type} {f : α → Option β} : ∀ (l : List α) (i : Nat) (hi : i < l.length), (∀ j (hj : j < i), f (l[j]'(by omega)) = none) → (f l[i]).isSome = true → l.findSome? f = f l[i] := by
  intro l
  induction l with
  | nil => intro i hi; simp at hi
  | cons x l ih =>
    intro i hi h hs
    cases i with
    | zero =>
      simp only [List.getElem_cons_zero] at hs ⊢
      rw [List.findSome?_cons]
      cases hf : f x with
      | none => rw [hf] at hs; cases hs
      | some y => rfl
    | succ i =>
      have h0 := h 0 (by omega)
      simp only [List.getElem_cons_zero] at h0
      rw [List.findSome?_cons, h0]
      simp only [List.getElem_cons_succ] at hs ⊢
      exact ih i (by simpa using hi) (fun j hj => by have := h (j + 1) (by omega); simpa using this) hs
theorem fewest_hit {g : Yard → Bool} {Y : Yard} {d : Nat} (hd : d < 5) (h : ∀ m, m < d → plain g m Y = none) (hp : (plain g d Y).isSome = true) : fewestM g Y = plain g d Y := by
  have := findSome_at (f := fun d => plain g d Y) (List.range 5) d (by simpa using hd) (fun j hj => by simpa using h j hj) (by simpa using hp)
  rw [fewestM, this]; simp
theorem fewest_none {g : Yard → Bool} {Y : Yard} (h : ∀ m, m < 5 → plain g m Y = none) : fewestM g Y = none := by
  rw [fewestM, List.findSome?_eq_none_iff]
  intro d hd
  exact h d (List.mem_range.1 hd)
theorem below_next {g : Yard → Bool} {Y : Yard} {d : Nat} (h : ∀ m, m < d → plain g m Y = none) (hd : plain g d Y = none) : ∀ m, m < d + 1 → plain g m Y = none := fun m hm => by
  rcases Nat.lt_or_ge m d with h1 | h1
  · exact h m h1
  · have : m = d := by omega
    subst this; exact hd
def errOf {α : Type} (o : Option α) : Int := if o.isSome then 0 else 11
theorem errOf_some {α : Type} {o : Option α} (h : o.isSome = true) : errOf o = 0 := by simp [errOf, h]
theorem errOf_is {α : Type} {o : Option α} (h : errOf o = 0) : o.isSome = true := by
  unfold errOf at h; split at h
  · assumption
  · cases h
theorem errOf_not {α : Type} {o : Option α} (h : errOf o ≠ 0) : o.isSome = false := by
  cases hs : o.isSome with
  | false => rfl
  | true => exact absurd (by simp [errOf, hs]) h
theorem errOf_none {α : Type} {o : Option α} (h : o = none) : errOf o = 11 := by simp [errOf, h]

def goO (n : Nat) : List Int → List Int → Int
  | _, [] => 0
  | pre, c :: r => if inB c 0 (↑n - 1) then (if c ∈ pre then 4 else goO n (pre ++ [c]) r) else 3
def orderErr (Y : Yard) (order : List Int) : Int := if checkErr Y = 0 then goO Y.cars.length [] order else checkErr Y
theorem orderErr_bad {Y : Yard} {o : List Int} (h : checkErr Y ≠ 0) : orderErr Y o = checkErr Y := if_neg h
theorem orderErr_ok {Y : Yard} {o : List Int} (h : checkErr Y = 0) : orderErr Y o = goO Y.cars.length (o.take 0) (o.drop 0) := if_pos h
theorem goO_unknown {n k : Nat} {o : List Int} (hk : k < o.length) (h : inB (o.getD k 0) 0 (↑n - 1) = false) : goO n (o.take k) (o.drop k) = 3 := by
  rw [drop_cons (d := 0) hk]; simp only [goO]; rw [if_neg (by rw [h]; simp)]
theorem goO_twice {n k : Nat} {o : List Int} (hk : k < o.length) (h : inB (o.getD k 0) 0 (↑n - 1) = true) (hm : o.getD k 0 ∈ o.take k) : goO n (o.take k) (o.drop k) = 4 := by
  rw [drop_cons (d := 0) hk]; simp only [goO]; rw [if_pos h, if_pos hm]
theorem goO_next {n k : Nat} {o : List Int} (hk : k < o.length) (h : inB (o.getD k 0) 0 (↑n - 1) = true) (hm : ¬ o.getD k 0 ∈ o.take k) : goO n (o.take k) (o.drop k) = goO n (o.take (k + 1)) (o.drop (k + 1)) := by
  rw [drop_cons (d := 0) hk, take_snoc (d := 0) hk]; simp only [goO]; rw [if_pos h, if_neg hm]
theorem goO_done {n k : Nat} {o : List Int} (hk : o.length ≤ k) : goO n (o.take k) (o.drop k) = 0 := by rw [drop_done hk]; rfl
def fewestE (Y : Yard) (order : List Int) : List Shift × Int :=
  if orderErr Y order = 0 then ((fewestM (allP [orderedP order]) Y).getD [], errOf (fewestM (allP [orderedP order]) Y)) else ([], orderErr Y order)
theorem fewestE_bad {Y : Yard} {o : List Int} (h : orderErr Y o ≠ 0) : fewestE Y o = ([], orderErr Y o) := if_neg h
theorem fewestE_ok {Y : Yard} {o : List Int} (h : orderErr Y o = 0) : fewestE Y o = ((fewestM (allP [orderedP o]) Y).getD [], errOf (fewestM (allP [orderedP o]) Y)) := if_pos h
theorem orderErr_valid {Y : Yard} {o : List Int} (h : orderErr Y o = 0) : Valid Y := by
  unfold orderErr at h
  split at h
  · assumption
  · exact h

def prevAt (cs : List Int) (k : Nat) : Option Int := if k = 0 then none else some (cs.getD (k - 1) 0)
def tooLow (p : Option Int) (c : Int) : Bool := match p with | none => false | some x => decide (c ≤ x)
def goL (n : Nat) : Option Int → List Int → Int
  | _, [] => 0
  | p, c :: r => if inB c 0 (↑n - 1) then (if tooLow p c then 5 else goL n (some c) r) else 3
theorem goL_unknown {n k : Nat} {o : List Int} (hk : k < o.length) (h : inB (o.getD k 0) 0 (↑n - 1) = false) : goL n (prevAt o k) (o.drop k) = 3 := by
  rw [drop_cons (d := 0) hk]; simp only [goL]; rw [if_neg (by rw [h]; simp)]
def lowB (o : List Int) (k : Nat) : Bool := (cmp .gtr (↑k) (0)) && cmp .leq (o.getD k 0) (o.getD (((↑k : Int) - 1).toNat) 0)
theorem lowB_eq (o : List Int) (k : Nat) : tooLow (prevAt o k) (o.getD k 0) = lowB o k := by
  unfold prevAt lowB
  by_cases h : k = 0
  · subst h; simp [tooLow, cmp]
  · have e : ((↑k : Int) - 1).toNat = k - 1 := by omega
    have h0 : 0 < k := by omega
    rw [if_neg h, e]
    simp [tooLow, cmp, h0]
theorem goL_low {n k : Nat} {o : List Int} (hk : k < o.length) (h : inB (o.getD k 0) 0 (↑n - 1) = true) (hm : lowB o k = true) : goL n (prevAt o k) (o.drop k) = 5 := by
  rw [drop_cons (d := 0) hk]; simp only [goL]; rw [if_pos h, lowB_eq, if_pos hm]
theorem goL_next {n k : Nat} {o : List Int} (hk : k < o.length) (h : inB (o.getD k 0) 0 (↑n - 1) = true) (hm : lowB o k = false) : goL n (prevAt o k) (o.drop k) = goL n (prevAt o (k + 1)) (o.drop (k + 1)) := by
  rw [drop_cons (d := 0) hk]; simp only [goL]; rw [if_pos h, lowB_eq, if_neg (by rw [hm]; simp)]
  simp [prevAt]
theorem goL_done {n k : Nat} {o : List Int} (hk : o.length ≤ k) : goL n (prevAt o k) (o.drop k) = 0 := by rw [drop_done hk]; rfl
theorem goL_asc {n : Nat} : ∀ (l : List Int) (p : Option Int), goL n p l = 0 → (∀ c ∈ l, 0 ≤ c ∧ c < n) ∧ Asc l ∧ ∀ x, p = some x → ∀ c ∈ l, x < c := by
  intro l
  induction l with
  | nil => intro p _; exact ⟨fun c h => by simp at h, Asc.nil, fun x _ c h => by simp at h⟩
  | cons c r ih =>
    intro p h
    simp only [goL] at h
    split at h
    · rename_i h1
      split at h
      · cases h
      · rename_i h2
        obtain ⟨g1, g2, g3⟩ := ih (some c) h
        have := inB_t h1
        refine ⟨fun x hx => ?_, List.pairwise_cons.2 ⟨g3 c rfl, g2⟩, fun x e y hy => ?_⟩
        · rcases List.mem_cons.1 hx with e | hx
          · subst e; omega
          · exact g1 x hx
        · subst e
          have hxc : x < c := by simpa [tooLow] using h2
          rcases List.mem_cons.1 hy with e | hy
          · subst e; exact hxc
          · have := g3 c rfl y hy; omega
    · cases h
theorem Asc.nodup {l : List Int} (h : Asc l) : l.Nodup := h.imp fun hab => by omega
theorem goL_len {n : Nat} {l : List Int} (h : goL n none l = 0) : l.length ≤ n := by
  obtain ⟨h1, h2, _⟩ := goL_asc l none h
  exact range_bound h2.nodup h1
def leaveP (cs : List Int) : List (Yard → Bool) := [wholeP, fun Y => lastP cs (Y.tracks.getD 0 [])]
def leaveErr (Y : Yard) (cs : List Int) : Int := if checkErr Y = 0 then goL Y.cars.length none cs else checkErr Y
theorem leaveErr_bad {Y : Yard} {o : List Int} (h : checkErr Y ≠ 0) : leaveErr Y o = checkErr Y := if_neg h
theorem leaveErr_ok {Y : Yard} {o : List Int} (h : checkErr Y = 0) : leaveErr Y o = goL Y.cars.length (prevAt o 0) (o.drop 0) := if_pos h
theorem leaveErr_valid {Y : Yard} {o : List Int} (h : leaveErr Y o = 0) : Valid Y := by
  unfold leaveErr at h
  split at h
  · assumption
  · exact h
theorem leaveErr_len {Y : Yard} {o : List Int} (h : leaveErr Y o = 0) : o.length ≤ Y.cars.length := by
  have hv := leaveErr_valid h
  rw [leaveErr, if_pos (show checkErr Y = 0 from hv)] at h
  exact goL_len h
def leaveE (Y : Yard) (cs : List Int) : List Shift × Int :=
  if leaveErr Y cs = 0 then ((fewestM (allP (leaveP cs)) Y).getD [], errOf (fewestM (allP (leaveP cs)) Y)) else ([], leaveErr Y cs)
theorem leaveE_bad {Y : Yard} {o : List Int} (h : leaveErr Y o ≠ 0) : leaveE Y o = ([], leaveErr Y o) := if_neg h
theorem leaveE_ok {Y : Yard} {o : List Int} (h : leaveErr Y o = 0) : leaveE Y o = ((fewestM (allP (leaveP o)) Y).getD [], errOf (fewestM (allP (leaveP o)) Y)) := if_pos h

def wide (Y : Yard) (i : Nat) : Yard := ⟨Y.cars, Y.room.set i 20, Y.tracks⟩
theorem wide_fine {Y : Yard} (f : Fine Y) (i : Nat) : Fine (wide Y i) := by
  refine ⟨f.cars, f.carOk, by simpa [wide] using f.room1, by simpa [wide] using f.room3, fun n hn => ?_, by simpa [wide] using f.len, f.ok, f.nodup, fun k hk => ?_, f.all, f.groups⟩
  · rcases List.mem_or_eq_of_mem_set hn with h | e
    · exact f.roomOk n h
    · subst e; rfl
  · have h1 := f.fits k hk
    have hk' : k < Y.room.length := by rw [← f.len]; exact hk
    have h2 := inB_t (f.roomOk _ (getD_mem (d := 0) hk'))
    simp only [wide, List.getD] at h1 h2 ⊢
    by_cases e : i = k
    · subst e
      rw [List.getElem?_set_self hk']
      simp only [Option.getD_some]
      omega
    · rw [List.getElem?_set_ne e]; exact h1
def lacksFrom (Y : Yard) (o : List Int) (i : Nat) : List Int := ((List.range' i (Y.room.length - i)).filter fun i => (fewestM (allP [orderedP o]) (wide Y i)).isSome).map fun i : Nat => (i : Int)
theorem lacks_yes {Y : Yard} {o : List Int} {i : Nat} (hi : i < Y.room.length) (h : (fewestM (allP [orderedP o]) (wide Y i)).isSome = true) : lacksFrom Y o i = (i : Int) :: lacksFrom Y o (i + 1) := by
  unfold lacksFrom; rw [range_cons hi]; simp [h]
theorem lacks_no {Y : Yard} {o : List Int} {i : Nat} (hi : i < Y.room.length) (h : (fewestM (allP [orderedP o]) (wide Y i)).isSome = false) : lacksFrom Y o i = lacksFrom Y o (i + 1) := by
  unfold lacksFrom; rw [range_cons hi]; simp [h]
theorem lacks_done {Y : Yard} {o : List Int} {i : Nat} (hi : Y.room.length ≤ i) : lacksFrom Y o i = [] := by
  unfold lacksFrom; rw [show Y.room.length - i = 0 by omega]; rfl
theorem lacks_le (Y : Yard) (o : List Int) (i : Nat) : (lacksFrom Y o i).length ≤ Y.room.length := by
  unfold lacksFrom
  rw [List.length_map]
  refine Nat.le_trans (List.length_filter_le _ _) ?_
  rw [List.length_range']; omega
def lacksE (Y : Yard) (o : List Int) : List Int × Int := if (fewestE Y o).2 = 11 then (if (lacksFrom Y o 1).length = 0 then ([], 11) else (lacksFrom Y o 1, 0)) else ([], (fewestE Y o).2)
theorem lacksE_bad {Y : Yard} {o : List Int} (h : (fewestE Y o).2 ≠ 11) : lacksE Y o = ([], (fewestE Y o).2) := if_neg h
theorem lacksE_none {Y : Yard} {o : List Int} (h : (fewestE Y o).2 = 11) (h2 : (lacksFrom Y o 1).length = 0) : lacksE Y o = ([], 11) := (if_pos h).trans (if_pos h2)
theorem lacksE_some {Y : Yard} {o : List Int} (h : (fewestE Y o).2 = 11) (h2 : (lacksFrom Y o 1).length ≠ 0) : lacksE Y o = (lacksFrom Y o 1, 0) := (if_pos h).trans (if_neg h2)
theorem goTrack_11 {n : Nat} {fin : List Int → Int} (hf : ∀ m, fin m ≠ 11) : ∀ (t met : List Int), goTrack n fin t met ≠ 11 := by
  intro t
  induction t with
  | nil => intro met; exact hf met
  | cons c r ih => intro met; simp only [goTrack]; split <;> first | (split <;> first | decide | exact ih _) | decide
theorem goG_11 {cs : List Car} {t : List Int} {fin : List Int → Int} (hf : ∀ m, fin m ≠ 11) : ∀ (l : List Int) (k : Nat) (met : List Int), goG cs t fin k l met ≠ 11 := by
  intro l
  induction l with
  | nil => intro k met; exact hf met
  | cons c r ih => intro k met; simp only [goG]; split <;> first | decide | exact ih _ _
theorem goGs_11 {cs : List Car} : ∀ (ts : List (List Int)) (met : List Int), goGs cs ts met ≠ 11 := by
  intro ts
  induction ts with
  | nil => intro met; simp [goGs]
  | cons t r ih => intro met; exact goG_11 ih _ _ _
theorem goTracks_11 {cs : List Car} {fin : List Int → Int} (hf : ∀ m, fin m ≠ 11) : ∀ (ts : List (List Int)) (rm met : List Int), goTracks cs fin ts rm met ≠ 11 := by
  intro ts
  induction ts with
  | nil => intro rm met; exact hf met
  | cons t r ih => intro rm met; simp only [goTracks]; exact goTrack_11 (fun m => by split <;> first | decide | exact ih _ _) _ _
theorem checkErr_11 (Y : Yard) : checkErr Y ≠ 11 := by
  have h : ∀ m : List Int, (if m.length < Y.cars.length then 7 else groupsErr Y) ≠ 11 := fun m => by split <;> first | decide | exact goGs_11 _ _
  unfold checkErr tracksErr
  split
  · decide
  · split
    · split
      · decide
      · split
        · decide
        · split
          · split
            · exact goTracks_11 h _ _ _
            · decide
          · decide
    · decide
theorem goO_11 {n : Nat} : ∀ (o pre : List Int), goO n pre o ≠ 11 := by
  intro o
  induction o with
  | nil => intro p; simp [goO]
  | cons c r ih => intro p; simp only [goO]; split <;> first | (split <;> first | decide | exact ih _) | decide
theorem fewest_11 {Y : Yard} {o : List Int} (h : (fewestE Y o).2 = 11) : orderErr Y o = 0 := by
  by_cases h0 : orderErr Y o = 0
  · exact h0
  · rw [fewestE_bad h0] at h
    exfalso
    simp only [orderErr] at h
    split at h
    · exact goO_11 _ _ h
    · exact checkErr_11 Y h

theorem moved_back {Y : Yard} {s : Shift} (h : mayErr Y s = 0) : moved (moved Y s) (backShift s) = Y := by
  have m := mayOk h
  have hf := m.frm; have ht := m.to; have hne := m.ne; have hm := m.many
  have hne' : s.to.toNat ≠ s.frm.toNat := by omega
  rcases Y with ⟨cs, rm, ts⟩
  simp only at hf ht hm
  unfold moved backShift
  simp only [Yard.mk.injEq, true_and]
  generalize hA : ts.getD s.frm.toNat [] = A at hm
  generalize hB : ts.getD s.to.toNat [] = B
  have hA2 : trk ⟨cs, rm, ts⟩ s.frm = A := hA
  have hB2 : trk ⟨cs, rm, ts⟩ s.to = B := hB
  have hn : (cutAt ⟨cs, rm, ts⟩ s).toNat = A.length - s.many.toNat := by simp only [cutAt, hA2]; omega
  rw [hA2, hB2, hn]
  have g1 : ∀ (X Z : List Int), trk ⟨cs, rm, (ts.set s.to.toNat X).set s.frm.toNat Z⟩ s.to = X := fun X Z => by
    simp only [trk, List.getD]
    rw [List.getElem?_set_ne (Ne.symm hne'), List.getElem?_set_self (by omega)]; rfl
  have g2 : ∀ (X Z : List Int), trk ⟨cs, rm, (ts.set s.to.toNat X).set s.frm.toNat Z⟩ s.frm = Z := fun X Z => by
    simp only [trk, List.getD]
    rw [List.getElem?_set_self (by rw [List.length_set]; omega)]; rfl
  have hc : (cutAt ⟨cs, rm, (ts.set s.to.toNat (B ++ A.drop (A.length - s.many.toNat))).set s.frm.toNat (A.take (A.length - s.many.toNat))⟩ ⟨s.to, s.frm, s.many⟩).toNat = B.length := by
    simp only [cutAt, g1, List.length_append, List.length_drop]; omega
  rw [g1, g2, hc]
  simp only [List.drop_left, List.take_left, List.take_append_drop]
  refine list_eq (d := []) (by simp) fun j hj => ?_
  simp only [List.length_set] at hj
  simp only [List.getD]
  by_cases h1 : s.to.toNat = j
  · subst h1
    rw [List.getElem?_set_self (by simpa using hj)]
    simp only [List.getD] at hB
    simpa using hB.symm
  · rw [List.getElem?_set_ne h1]
    by_cases h2 : s.frm.toNat = j
    · subst h2
      rw [List.getElem?_set_self (by simpa using hj)]
      simp only [List.getD] at hA
      simpa using hA.symm
    · rw [List.getElem?_set_ne h2, List.getElem?_set_ne h2, List.getElem?_set_ne h1]

def encS (s : Shift) : List Value := [.agg #[.int .i64 s.frm, .int .i64 s.to, .int .i64 s.many]]
end Go.Sh
namespace Go.Proofs.YtcaocbhbofejnaaDoor
open Go Go.Sl Go.Sh
set_option maxRecDepth 100000
theorem isNI_err (e : Int) : isNI (errV e) = some (decide (e = 0)) := by unfold errV; by_cases h : e = 0 <;> simp [h, isNI]
noncomputable def c_where (p : List Nat) : Code := sub (bodyOf Tryd.f51) p
theorem where_ct (I : Imm) (y : Nat) (y_1 y_2 y_3 : Value) (y_ws : List Value) (y_Ms : Seg) (Y : Yard) (y_1f : IsCars I y_1 Y.cars) (y_2f : IsInts I y_2 Y.room) (y_3h : Own 22 1 valCell y_3 y_ws y_Ms) (y_3r : RowsV I y_ws Y.tracks) (ho : OkAll Y.cars Y.tracks) (h5 : Y.cars.length ≤ 5) (h3 : Y.tracks.length ≤ 1000000) : Ct Tryd.prog 51 #[.pointer (some ⟨y, 0, none⟩)] I ([(y, Obj.cells #[y_1, y_2, y_3] 87 (0, 0))] ++ (y_Ms)) (fun v I' M' => v = .agg (plCells (placeOf Y).val) ∧ M' = [(y, Obj.cells #[y_1, y_2, y_3] 87 (0, 0))] ++ (y_Ms)) := by
 have y_1_f := y_1f
 obtain ⟨y_1_a, y_1_c, y_1_b, y_1_o, y_1_e, y_1_l, y_1_m, y_1_r⟩ := id y_1_f
 subst y_1_e
 have y_2_f := y_2f
 obtain ⟨y_2_a, y_2_c, y_2_b, y_2_o, y_2_e, y_2_l, y_2_m, y_2_r⟩ := id y_2_f
 subst y_2_e
 obtain ⟨y_3_a, y_3_c, y_3_e, y_3_l⟩ := y_3h.shape; subst y_3_e
 have y_3r_len := y_3r.1
 try simp only [List.length_set, List.length_append, List.length_cons, List.length_nil, List.length_take] at y_3r_len
 refine fn_of_run (fn := Tryd.f51) (args := [_]) (N := 34) Tryd.func51 rfl (by kernel_rfl) (Nat.le_of_ble_eq_true rfl) (fun F => ?_)
 show Run _ _ (c_where []) _ _ [(0, .pointer (some ⟨y, 0, none⟩))] _ _
 refine rnm ?_
 refine rqr ?_
 refine sS (sal 2 90 #[.int .i64 (0), .int .i64 (0), .int .i64 (0), .int .i64 (0), .int .i64 (0), .int .i64 (0), .int .i64 (0), .int .i64 (0), .int .i64 (0), .int .i64 (0)] (fun b1 => ?_))
 refine sn ?_
 refine sS (sal 3 90 #[.int .i64 (0), .int .i64 (0), .int .i64 (0), .int .i64 (0), .int .i64 (0), .int .i64 (0), .int .i64 (0), .int .i64 (0), .int .i64 (0), .int .i64 (0)] (fun b3 => ?_))
 refine se ?_
 refine rq ?_
 refine rqr ?_
 refine sp 4 [(11, .pointer (some ⟨y, 2, none⟩))] ?_
 refine sd (dlb 12 2 2 y (.slice y_3_a y_ws.length y_3_c)) ?_
 refine sp 2 [(14, .int .i64 (0)), (13, .int .i64 (↑(y_ws.length)))] ?_
 refine se ?_
 refine rb 0 ?_
 refine rl (fun mz a w => ∃ k : Nat, ∃ pl : List Int, (k ≤ Y.tracks.length) ∧ ((placeOf Y).val = goP k (Y.tracks.drop k) pl) ∧ (pl.length = 10) ∧ Slots 34 [(14, .int .i64 ↑k), (2, .pointer (some ⟨b1, 0, none⟩)), (3, .pointer (some ⟨b3, 0, none⟩)), (12, .slice y_3_a y_ws.length y_3_c), (13, .int .i64 (↑(y_ws.length)))] a ∧ a.defers = [] ∧ St I ((b3, Obj.cells (plCells pl) 90 (0, 0)) :: (b1, Obj.cells #[.int .i64 (0), .int .i64 (0), .int .i64 (0), .int .i64 (0), .int .i64 (0), .int .i64 (0), .int .i64 (0), .int .i64 (0), .int .i64 (0), .int .i64 (0)] 90 (0, 0)) :: (y, Obj.cells #[.slice y_1_a Y.cars.length y_1_c, .slice y_2_a Y.room.length y_2_c, .slice y_3_a y_ws.length y_3_c] 87 (0, 0)) :: (y_Ms ++ F)) w ∧ mz = Y.tracks.length - k) ?_ ?_
 ·intro a w hS hD hW
  exact ⟨_, 0, zero10, Nat.zero_le _, rfl, rfl, hS.sub (.cons 14 rfl (.cons 2 rfl (.cons 3 rfl (.cons 12 rfl (.cons 13 rfl (.nil _)))))), hD, hW, rfl⟩
 ·rintro mz a w ⟨k, pl, hk, hp, hpl, hS, hD, hW, rfl⟩
  refine run_at hS hD hW ?_
  clear hS hD hW a w
  refine rqr ?_
  refine sp 1 [(15, .bool (cmp .lss (↑k) (↑(y_ws.length))))] ?_
  refine se ?_
  refine rq ?_
  refine rc 15 rfl (fun h1 => ?_) (fun h1 => ?_)
  ·
   have h1_r := h1
   have h1 := lss_t h1
   refine rskip ?_
   refine pst_next ?_
   refine rq ?_
   refine rb 1 ?_
   refine rqr ?_
   refine sp 1 [(16, .int .i64 (↑k))] ?_
   obtain ⟨ob5, orr6⟩ := y_3h.row undef
   refine sd (di 17 1 (k) orr6.addr) ?_
   have r7_f := y_3r.2 (k) (by omega)
   obtain ⟨r7_a, r7_c, r7_b, r7_o, r7_e, r7_l, r7_m, r7_r⟩ := id r7_f
   rw [r7_e] at r7_f
   refine sd (det_eq (dl 18 (orr6.get (k) (by omega) 0 (by decide) _ _ (fun x hx => by simp [hx]))) r7_e) ?_
   refine sp 2 [(5, .slice r7_a (Y.tracks.getD (k) []).length r7_c), (4, .int .i64 (↑k))] ?_
   refine sn ?_
   refine sp 3 [(21, .int .i64 (0)), (20, .int .i64 (↑((Y.tracks.getD (k) []).length))), (19, .slice r7_a (Y.tracks.getD (k) []).length r7_c)] ?_
   refine se ?_
   refine rb 2 ?_
   refine rl (fun mz a w => ∃ j : Nat, ∃ pl2 : List Int, (j ≤ (Y.tracks.getD (k) []).length) ∧ ((placeOf Y).val = goP (k + 1) (Y.tracks.drop (k + 1)) (goPT k j ((Y.tracks.getD (k) []).drop j) pl2)) ∧ (pl2.length = 10) ∧ Slots 34 [(21, .int .i64 ↑j), (2, .pointer (some ⟨b1, 0, none⟩)), (3, .pointer (some ⟨b3, 0, none⟩)), (4, .int .i64 (↑k)), (12, .slice y_3_a y_ws.length y_3_c), (13, .int .i64 (↑(y_ws.length))), (14, .int .i64 (↑k)), (19, .slice r7_a (Y.tracks.getD (k) []).length r7_c), (20, .int .i64 (↑((Y.tracks.getD (k) []).length)))] a ∧ a.defers = [] ∧ St I ((b3, Obj.cells (plCells pl2) 90 (0, 0)) :: (b1, Obj.cells #[.int .i64 (0), .int .i64 (0), .int .i64 (0), .int .i64 (0), .int .i64 (0), .int .i64 (0), .int .i64 (0), .int .i64 (0), .int .i64 (0), .int .i64 (0)] 90 (0, 0)) :: (y, Obj.cells #[.slice y_1_a Y.cars.length y_1_c, .slice y_2_a Y.room.length y_2_c, .slice y_3_a y_ws.length y_3_c] 87 (0, 0)) :: (y_Ms ++ F)) w ∧ mz = (Y.tracks.getD (k) []).length - j) ?_ ?_
   ·intro a w hS hD hW
    exact ⟨_, 0, pl, Nat.zero_le _, hp.trans (goP_step (by omega)), hpl, hS.sub (.cons 21 rfl (.cons 2 rfl (.cons 3 rfl (.cons 4 rfl (.cons 12 rfl (.cons 13 rfl (.cons 14 rfl (.cons 19 rfl (.cons 20 rfl (.nil _)))))))))), hD, hW, rfl⟩
   ·rintro mz a w ⟨j, pl2, hj, hp2, hpl2, hS, hD, hW, rfl⟩
    refine run_at hS hD hW ?_
    clear hS hD hW a w
    refine rqr ?_
    refine sp 1 [(22, .bool (cmp .lss (↑j) (↑((Y.tracks.getD (k) []).length))))] ?_
    refine se ?_
    refine rq ?_
    refine rc 22 rfl (fun h2 => ?_) (fun h2 => ?_)
    ·
     have h2_r := h2
     have h2 := lss_t h2
     refine rskip ?_
     refine pst_next ?_
     refine rq ?_
     refine rb 3 ?_
     refine rqr ?_
     refine sp 1 [(23, .int .i64 (↑j))] ?_
     refine sd (di 24 1 (j) r7_r.addr) ?_
     refine sd (dl 25 (ints_get r7_r (j) (by omega))) ?_
     refine sp 2 [(7, .int .i64 ((Y.tracks.getD (k) []).getD (j) 0)), (6, .int .i64 (↑j))] ?_
     refine se ?_
     refine rr ?_
     have hc := (ho.at k (by omega)).at j (by omega)
     obtain ⟨c, hcn⟩ : ∃ c : Nat, (Y.tracks.getD (k) []).getD (j) 0 = ↑c := ⟨((Y.tracks.getD (k) []).getD (j) 0).toNat, by omega⟩
     refine sp 1 [(26, .int .i64 ((Y.tracks.getD (k) []).getD (j) 0))] ?_
     refine seq_re 26 rfl (show (.int .i64 ((Y.tracks.getD (k) []).getD (j) 0) : Value) = .int .i64 (↑c) from congrArg (Value.int .i64) hcn) ?_
     refine sp 3 [(29, .agg #[.int .i64 (↑k), .int .i64 (↑j)])] ?_
     refine sd (det_indexArrN (j := c) (n := 5) (x := (.tmp 3)) (y := (.tmp 26)) (T := 90) (e := 88) (sz := 2) (d := 30) (ty := 0) (gd := none) (by kernel_rfl) rfl (by kernel_rfl) (by kernel_rfl) rfl rfl (by omega)) ?_
     refine sS (stp_storePl (T := 88) (x := (.tmp 30)) (y := (.tmp 29)) (p := pl2) (c := c) (M' := ((b3, Obj.cells (plCells (putP pl2 c k j)) 90 (0, 0)) :: (b1, Obj.cells #[.int .i64 (0), .int .i64 (0), .int .i64 (0), .int .i64 (0), .int .i64 (0), .int .i64 (0), .int .i64 (0), .int .i64 (0), .int .i64 (0), .int .i64 (0)] 90 (0, 0)) :: (y, Obj.cells #[.slice y_1_a Y.cars.length y_1_c, .slice y_2_a Y.room.length y_2_c, .slice y_3_a y_ws.length y_3_c] 87 (0, 0)) :: (y_Ms ++ F))) 0 (ty := 0) (gd := none) (by kernel_rfl) rfl rfl rfl (by kernel_rfl) rfl (by omega) rfl ?_)
     refine ee ?_
     refine pst_normal_block ?_
     refine pst_next ?_
     refine rr ?_
     refine sd (da 31 (↑j) (1)) ?_
     refine sp 1 [(21, .int .i64 (↑j + 1))] ?_
     refine ee ?_
     refine pst_back ((Y.tracks.getD (k) []).length - (j+1)) (by omega) ?_
     intro a w hS hD hW
     exact ⟨j+1, (putP pl2 c k j), by omega, hp2.trans (by rw [goPT_step (by omega), hcn, Int.toNat_natCast]), by rw [putP_length]; exact hpl2, hS.sub (.consE 21 rfl rfl (.cons 2 rfl (.cons 3 rfl (.cons 4 rfl (.cons 12 rfl (.cons 13 rfl (.cons 14 rfl (.cons 19 rfl (.cons 20 rfl (.nil _)))))))))), hD, hW, rfl⟩
    ·
     have h2_r := h2
     have h2 := lss_f h2
     refine rexit 2 ?_
     refine (pst_exit_pass (pst_exit_pass (pst_exit_block ?_)))
     refine pst_normal_block ?_
     refine pst_next ?_
     refine rr ?_
     refine sd (da 32 (↑k) (1)) ?_
     refine sp 1 [(14, .int .i64 (↑k + 1))] ?_
     refine ee ?_
     refine pst_back (Y.tracks.length - (k+1)) (by omega) ?_
     intro a w hS hD hW
     exact ⟨k+1, pl2, by omega, hp2.trans (by rw [goPT_done (by omega)]), hpl2, hS.sub (.consE 14 rfl rfl (.cons 2 rfl (.cons 3 rfl (.cons 12 rfl (.cons 13 rfl (.nil _)))))), hD, hW, rfl⟩
  ·
   have h1_r := h1
   have h1 := lss_f h1
   refine rexit 0 ?_
   refine (pst_exit_pass (pst_exit_pass (pst_exit_block ?_)))
   refine pst_next ?_
   refine rqr ?_
   refine sd (det_loadW (x := (.tmp 3)) (T := 90) (n := 10) (d := 33) (ty := 90) (gd := none) (by kernel_rfl) rfl (by kernel_rfl) (by kernel_rfl) (by simp only [plCells, List.size_toArray, List.length_map]; first | exact placeOf_length _ | omega | (simp only [putP_length]; omega)) rfl (.inl (List.mem_of_getElem? (i := 0) rfl))) ?_
   refine sS (stp_storeW (T := 90) (x := (.tmp 2)) (y := (.tmp 33)) (n := 10) (vs := plCells (pl)) (M' := ((b3, Obj.cells (plCells pl) 90 (0, 0)) :: (b1, Obj.cells (plCells (pl)) 90 (0, 0)) :: (y, Obj.cells #[.slice y_1_a Y.cars.length y_1_c, .slice y_2_a Y.room.length y_2_c, .slice y_3_a y_ws.length y_3_c] 87 (0, 0)) :: (y_Ms ++ F))) 1 (ty := 0) (gd := none) (by kernel_rfl) rfl rfl rfl (by kernel_rfl) rfl (by simp only [plCells, List.size_toArray, List.length_map]; first | exact placeOf_length _ | omega | (simp only [putP_length]; omega)) (plCells_one _) rfl (rfl) rfl ?_)
   refine se ?_
   refine rret ?_
   refine ppm (M' := ((y, Obj.cells #[.slice y_1_a Y.cars.length y_1_c, .slice y_2_a Y.room.length y_2_c, .slice y_3_a y_ws.length y_3_c] 87 (0, 0)) :: (y_Ms ++ (b3, Obj.cells (plCells pl) 90 (0, 0)) :: (b1, Obj.cells (plCells (pl)) 90 (0, 0)) :: F))) (((List.Perm.cons _ (List.Perm.swap _ _ _)).trans (List.Perm.swap _ _ _)).trans (List.Perm.cons _ ((List.Perm.cons _ (List.perm_middle.symm)).trans (List.perm_middle.symm)))) ?_
   refine pst_retW (t := 2) (T := 90) (n := 10) (b := b1) (cs := plCells (pl)) (S := 90) (fz := (0, 0)) ([(y, Obj.cells #[.slice y_1_a Y.cars.length y_1_c, .slice y_2_a Y.room.length y_2_c, .slice y_3_a y_ws.length y_3_c] 87 (0, 0))] ++ (y_Ms)) (by kernel_rfl) rfl (by kernel_rfl) (by kernel_rfl) (by simp only [plCells, List.size_toArray, List.length_map]; first | exact placeOf_length _ | omega | (simp only [putP_length]; omega)) (.inl (by simp)) (by simp only [List.append_assoc, List.nil_append, List.cons_append]; exact (List.Sublist.cons_cons _ (List.Sublist.append_left (List.Sublist.cons _ (List.Sublist.cons _ (List.Sublist.refl _))) _))) (Imm.le.refl _) ?_
   exact ⟨(by rw [hp, goP_done (by omega)]), rfl⟩

end Go.Proofs.YtcaocbhbofejnaaDoor
namespace Go.Proofs.YtcaocbhbofejnaaDoor
open Go Go.Sl Go.Sh
set_option maxRecDepth 100000
noncomputable def c_shifts (p : List Nat) : Code := sub (bodyOf Tryd.f52) p
theorem shifts_ct (I : Imm) (y : Nat) : Ct Tryd.prog 52 #[.pointer (some ⟨y, 0, none⟩)] I ([]) (fun v I' M' => ∃ by_ : Nat, ∃ bm : Nat, v = .func (.func 72) #[] #[.pointer (some ⟨by_, 0, none⟩), .pointer (some ⟨bm, 0, none⟩)] ∧ M' = [] ∧ (I'.blk by_ = some (Obj.cells #[.pointer (some ⟨y, 0, none⟩)] 85 (0, 0))) ∧ (I'.blk bm = some (Obj.cells #[.func (.func 63) #[] #[]] 114 (0, 0)))) := by
 refine fn_of_run (fn := Tryd.f52) (args := [_]) (N := 5) Tryd.func52 rfl (by kernel_rfl) (Nat.le_of_ble_eq_true rfl) (fun F => ?_)
 show Run _ _ (c_shifts []) _ _ [(0, .pointer (some ⟨y, 0, none⟩))] _ _
 refine rnm ?_
 refine rqr ?_
 refine sS (sb 1 85 #[.pointer (some ⟨y, 0, none⟩)] (fun b1 => ?_))
 refine sp 1 [(2, .nilFunc)] ?_
 refine sn ?_
 refine sS (sal 3 114 #[.nilFunc] (fun b3 => ?_))
 refine sS (ss 0 0 b3 [.func (.func 63) #[] #[]] [.func (.func 63) #[] #[]] (_ :: _ :: _) (cs := [_]) rfl rfl ?_)
 refine sn ?_
 refine seq_hold (b := b1) (o := Obj.cells #[.pointer (some ⟨y, 0, none⟩)] 85 (0, 0)) (M0 := ((b3, Obj.cells #[.func (.func 63) #[] #[]] 114 (0, 0)) :: F)) (List.Perm.swap _ _ _) (fun I5 hle6 hb7 => ?_)
 refine seq_hold (b := b3) (o := Obj.cells #[.func (.func 63) #[] #[]] 114 (0, 0)) (M0 := (F)) (List.Perm.refl _) (fun I8 hle9 hb10 => ?_)
 replace hb7 := hle9.blk _ _ hb7
 refine sp 2 [(2, .func (.func 72) #[] #[.pointer (some ⟨b1, 0, none⟩), .pointer (some ⟨b3, 0, none⟩)])] ?_
 refine se ?_
 refine rret ?_
 refine pst_ret1 (t := 2) [] (by kernel_rfl) rfl (List.Sublist.refl _) (Imm.le.trans hle6 hle9) ?_
 exact ⟨b1, b3, rfl, rfl, hb7, hb10⟩

noncomputable def c_shifts1 (p : List Nat) : Code := sub (bodyOf Tryd.f72) p
set_option maxHeartbeats 1000000 in
theorem shifts1_iter (I0 : Imm) (y by_ bm : Nat) (v1 v2 v3 : Value) (Y : Yard) (hG : Glob I0) (hy : I0.blk by_ = some (Obj.cells #[.pointer (some ⟨y, 0, none⟩)] 85 (0, 0))) (hm : I0.blk bm = some (Obj.cells #[.func (.func 63) #[] #[]] 114 (0, 0))) (hgood : GoodY Y) (h3 : Y.tracks.length ≤ 1000000) : IterCt Tryd.prog 72 [.pointer (some ⟨by_, 0, none⟩), .pointer (some ⟨bm, 0, none⟩)] encS (draws Y) (YardR 22 87 y v1 v2 v3 Y) I0 := by
 intro L Cl Sp hmono hround I Mr M hI0 hR hCl
 obtain ⟨y_ws, y_Ms, rfl, v1_f, v2_f, y_3h, y_3r⟩ := hR
 replace hy := hI0.blk _ _ hy
 replace hm := hI0.blk _ _ hm
 obtain ⟨v1_a, v1_c, v1_b, v1_o, v1_e, v1_l, v1_m, v1_r⟩ := id v1_f
 obtain ⟨v2_a, v2_c, v2_b, v2_o, v2_e, v2_l, v2_m, v2_r⟩ := id v2_f
 subst v1_e; subst v2_e
 obtain ⟨y_3_a, y_3_c, y_3_e, y_3_l⟩ := y_3h.shape; subst y_3_e
 have y_3r_len := y_3r.1
 try simp only [List.length_set, List.length_append, List.length_cons, List.length_nil, List.length_take] at y_3r_len
 refine fn_of_run (fn := Tryd.f72) (args := [_, _, _]) (N := 56) Tryd.func72 rfl (by kernel_rfl) (Nat.le_of_ble_eq_true rfl) (fun F => ?_)
 show Run _ _ (c_shifts1 []) _ _ [(0, .func (.yield L) #[] #[]), (1, .pointer (some ⟨by_, 0, none⟩)), (2, .pointer (some ⟨bm, 0, none⟩))] _ _
 refine run_mem (M' := ((y, Obj.cells #[.slice v1_a Y.cars.length v1_c, .slice v2_a Y.room.length v2_c, .slice y_3_a y_ws.length y_3_c] 87 (0, 0)) :: (y_Ms ++ (M ++ F)))) (fun w h => by simpa only [List.append_assoc, List.cons_append, List.nil_append] using h) ?_
 refine rnm ?_
 have hq3 := hgood.le
 refine rqr ?_
 refine sd (det_load (v := .pointer (some ⟨y, 0, none⟩)) (x := (.tmp 1)) (T := 85) (d := 8) (ty := 85) (gd := none) (by kernel_rfl) rfl (by kernel_rfl) rfl (sees_held hy rfl)) ?_
 refine sp 3 [(11, .pointer (some ⟨y, 2, none⟩))] ?_
 refine sd (dlb 12 0 2 y (.slice y_3_a y_ws.length y_3_c)) ?_
 refine sp 2 [(14, .int .i64 (0)), (13, .int .i64 (↑(y_ws.length)))] ?_
 refine se ?_
 refine rb 0 ?_
 refine rl (fun mz a w => ∃ J0 : Imm, ∃ k : Nat, ∃ xs1 : List Shift, ∃ Mc1 : Seg, ∃ oM0_cy_2 : Seg, ∃ ow0_cy_2 : List Value, (I.le J0) ∧ (k ≤ Y.tracks.length) ∧ (xs1 ++ drawsY Y k = draws Y) ∧ (Cl xs1 J0 Mc1) ∧ (RowsV J0 ow0_cy_2 (Y.tracks)) ∧ (Own 22 1 valCell (.slice y_3_a y_ws.length y_3_c) (ow0_cy_2) oM0_cy_2) ∧ Slots 56 [(14, .int .i64 ↑k), (0, .func (.yield L) #[] #[]), (1, .pointer (some ⟨by_, 0, none⟩)), (2, .pointer (some ⟨bm, 0, none⟩)), (13, .int .i64 (↑(y_ws.length)))] a ∧ a.defers = [] ∧ St J0 ((y, Obj.cells #[.slice v1_a Y.cars.length v1_c, .slice v2_a Y.room.length v2_c, (.slice y_3_a y_ws.length y_3_c)] 87 (0, 0)) :: (oM0_cy_2 ++ (Mc1 ++ F))) w ∧ mz = Y.tracks.length - k) ?_ ?_
 ·intro a w hS hD hW
  exact ⟨_, I, 0, [], M, y_Ms, y_ws, Imm.le.refl _, Nat.zero_le _, rfl, hCl, y_3r, y_3h, hS.sub (.cons 14 rfl (.cons 0 rfl (.cons 1 rfl (.cons 2 rfl (.cons 13 rfl (.nil _)))))), hD, hW, rfl⟩
 ·rintro mz a w ⟨J0, k, xs1, Mc1, oM0_cy_2, ow0_cy_2, hJ0, hk, hx1, hCl, or0_cy_2, oh0_cy_2, hS, hD, hW, rfl⟩
  refine run_at hS hD hW ?_
  clear hS hD hW a w
  replace hy := hJ0.blk _ _ hy
  replace hm := hJ0.blk _ _ hm
  replace v1_f := v1_f.mono hJ0
  replace v2_f := v2_f.mono hJ0
  have or0_cy_2_len := or0_cy_2.1
  try simp only [List.length_set, List.length_append, List.length_cons, List.length_nil, List.length_take] at or0_cy_2_len
  refine rqr ?_
  refine sp 1 [(15, .bool (cmp .lss (↑k) (↑(y_ws.length))))] ?_
  refine se ?_
  refine rq ?_
  refine rc 15 rfl (fun h1 => ?_) (fun h1 => ?_)
  ·
   have h1_r := h1
   have h1 := lss_t h1
   refine rskip ?_
   refine pst_next ?_
   refine rq ?_
   refine rb 1 ?_
   refine rqr ?_
   refine sp 2 [(4, .int .i64 (↑k))] ?_
   refine sn ?_
   refine sd (det_load (v := .pointer (some ⟨y, 0, none⟩)) (x := (.tmp 1)) (T := 85) (d := 17) (ty := 85) (gd := none) (by kernel_rfl) rfl (by kernel_rfl) rfl (sees_held hy rfl)) ?_
   refine sp 3 [(20, .pointer (some ⟨y, 2, none⟩))] ?_
   refine sd (dlb 21 0 2 y (.slice y_3_a y_ws.length y_3_c)) ?_
   refine sp 2 [(23, .int .i64 (0)), (22, .int .i64 (↑(y_ws.length)))] ?_
   refine se ?_
   refine rb 2 ?_
   refine rl (fun mz a w => ∃ J1 : Imm, ∃ t : Nat, ∃ xs2 : List Shift, ∃ Mc2 : Seg, ∃ oM1_cy_2 : Seg, ∃ ow1_cy_2 : List Value, (J0.le J1) ∧ (t ≤ Y.tracks.length) ∧ (xs2 ++ (drawsF Y k t ++ drawsY Y (k + 1)) = draws Y) ∧ (Cl xs2 J1 Mc2) ∧ (RowsV J1 ow1_cy_2 (Y.tracks)) ∧ (Own 22 1 valCell (.slice y_3_a y_ws.length y_3_c) (ow1_cy_2) oM1_cy_2) ∧ Slots 56 [(23, .int .i64 ↑t), (0, .func (.yield L) #[] #[]), (1, .pointer (some ⟨by_, 0, none⟩)), (2, .pointer (some ⟨bm, 0, none⟩)), (4, .int .i64 (↑k)), (13, .int .i64 (↑(y_ws.length))), (14, .int .i64 (↑k)), (22, .int .i64 (↑(y_ws.length)))] a ∧ a.defers = [] ∧ St J1 ((y, Obj.cells #[.slice v1_a Y.cars.length v1_c, .slice v2_a Y.room.length v2_c, (.slice y_3_a y_ws.length y_3_c)] 87 (0, 0)) :: (oM1_cy_2 ++ (Mc2 ++ F))) w ∧ mz = Y.tracks.length - t) ?_ ?_
   ·intro a w hS hD hW
    exact ⟨_, J0, 0, xs1, Mc1, oM0_cy_2, ow0_cy_2, Imm.le.refl _, Nat.zero_le _, by rw [← hx1, drawsY_step (Y := Y) (f := k) (by omega)], hCl, or0_cy_2, oh0_cy_2, hS.sub (.cons 23 rfl (.cons 0 rfl (.cons 1 rfl (.cons 2 rfl (.cons 4 rfl (.cons 13 rfl (.cons 14 rfl (.cons 22 rfl (.nil _))))))))), hD, hW, rfl⟩
   ·rintro mz a w ⟨J1, t, xs2, Mc2, oM1_cy_2, ow1_cy_2, hJ1, ht, hx2, hCl, or1_cy_2, oh1_cy_2, hS, hD, hW, rfl⟩
    refine run_at hS hD hW ?_
    clear hS hD hW a w
    replace hy := hJ1.blk _ _ hy
    replace hm := hJ1.blk _ _ hm
    replace v1_f := v1_f.mono hJ1
    replace v2_f := v2_f.mono hJ1
    replace or0_cy_2 := or0_cy_2.mono hJ1
    have or1_cy_2_len := or1_cy_2.1
    try simp only [List.length_set, List.length_append, List.length_cons, List.length_nil, List.length_take] at or1_cy_2_len
    refine rqr ?_
    refine sp 1 [(24, .bool (cmp .lss (↑t) (↑(y_ws.length))))] ?_
    refine se ?_
    refine rq ?_
    refine rc 24 rfl (fun h2 => ?_) (fun h2 => ?_)
    ·
     have h2_r := h2
     have h2 := lss_t h2
     refine rskip ?_
     refine pst_next ?_
     refine rq ?_
     refine rb 3 ?_
     refine rqr ?_
     refine sp 2 [(5, .int .i64 (↑t))] ?_
     refine sn ?_
     refine sp 1 [(6, .int .i64 (1))] ?_
     refine se ?_
     refine rb 4 ?_
     refine rl (fun mz a w => ∃ J2 : Imm, ∃ j : Nat, ∃ xs3 : List Shift, ∃ Mc3 : Seg, ∃ oM2_cy_2 : Seg, ∃ ow2_cy_2 : List Value, (J1.le J2) ∧ (j ≤ (Y.tracks.getD (k) []).length) ∧ (xs3 ++ (drawsFT Y k t j ++ (drawsF Y k (t + 1) ++ drawsY Y (k + 1))) = draws Y) ∧ (Cl xs3 J2 Mc3) ∧ (RowsV J2 ow2_cy_2 (Y.tracks)) ∧ (Own 22 1 valCell (.slice y_3_a y_ws.length y_3_c) (ow2_cy_2) oM2_cy_2) ∧ Slots 56 [(6, .int .i64 (↑j + 1)), (0, .func (.yield L) #[] #[]), (1, .pointer (some ⟨by_, 0, none⟩)), (2, .pointer (some ⟨bm, 0, none⟩)), (4, .int .i64 (↑k)), (5, .int .i64 (↑t)), (13, .int .i64 (↑(y_ws.length))), (14, .int .i64 (↑k)), (22, .int .i64 (↑(y_ws.length))), (23, .int .i64 (↑t))] a ∧ a.defers = [] ∧ St J2 ((y, Obj.cells #[.slice v1_a Y.cars.length v1_c, .slice v2_a Y.room.length v2_c, (.slice y_3_a y_ws.length y_3_c)] 87 (0, 0)) :: (oM2_cy_2 ++ (Mc3 ++ F))) w ∧ mz = (Y.tracks.getD (k) []).length - j) ?_ ?_
     ·intro a w hS hD hW
      exact ⟨_, J1, 0, xs2, Mc2, oM1_cy_2, ow1_cy_2, Imm.le.refl _, Nat.zero_le _, by rw [← hx2, drawsF_step (Y := Y) (f := k) (t := t) (by omega), List.append_assoc], hCl, or1_cy_2, oh1_cy_2, hS.sub (.cons 6 rfl (.cons 0 rfl (.cons 1 rfl (.cons 2 rfl (.cons 4 rfl (.cons 5 rfl (.cons 13 rfl (.cons 14 rfl (.cons 22 rfl (.cons 23 rfl (.nil _))))))))))), hD, hW, rfl⟩
     ·rintro mz a w ⟨J2, j, xs3, Mc3, oM2_cy_2, ow2_cy_2, hJ2, hj, hx3, hCl, or2_cy_2, oh2_cy_2, hS, hD, hW, rfl⟩
      refine run_at hS hD hW ?_
      clear hS hD hW a w
      replace hy := hJ2.blk _ _ hy
      replace hm := hJ2.blk _ _ hm
      replace v1_f := v1_f.mono hJ2
      replace v2_f := v2_f.mono hJ2
      replace or0_cy_2 := or0_cy_2.mono hJ2
      replace or1_cy_2 := or1_cy_2.mono hJ2
      have or2_cy_2_len := or2_cy_2.1
      try simp only [List.length_set, List.length_append, List.length_cons, List.length_nil, List.length_take] at or2_cy_2_len
      refine rq ?_
      refine rqr ?_
      refine sp 1 [(26, .int .i64 (↑j + 1))] ?_
      refine sd (det_load (v := .pointer (some ⟨y, 0, none⟩)) (x := (.tmp 1)) (T := 85) (d := 27) (ty := 85) (gd := none) (by kernel_rfl) rfl (by kernel_rfl) rfl (sees_held hy rfl)) ?_
      refine sp 3 [(30, .pointer (some ⟨y, 2, none⟩))] ?_
      refine sd (dlb 31 0 2 y (.slice y_3_a y_ws.length y_3_c)) ?_
      refine sp 1 [(32, .int .i64 (↑k))] ?_
      obtain ⟨ob1, orr2⟩ := oh2_cy_2.row undef
      refine sd (di 33 1 (k) (fun _ => orr2.addr (by omega)) (n := y_ws.length) (hj := by omega)) ?_
      have r3_f := or2_cy_2.2 (k) (by omega)
      obtain ⟨r3_a, r3_c, r3_b, r3_o, r3_e, r3_l, r3_m, r3_r⟩ := id r3_f
      rw [r3_e] at r3_f
      refine sd (det_eq (dl 34 (orr2.get (k) (by omega) 0 (by decide) _ _ (fun x hx => by simp [hx]))) r3_e) ?_
      refine sp 2 [(36, .bool (cmp .leq (↑j + 1) (↑((Y.tracks.getD (k) []).length))))] ?_
      refine se ?_
      refine rc 36 rfl (fun h3 => ?_) (fun h3 => ?_)
      ·
       have h3_r := h3
       have h3 := leq_t h3
       refine rskip ?_
       refine pst_next ?_
       refine rq ?_
       refine rb 5 ?_
       refine rqr ?_
       refine sp 4 [(42, .agg #[.int .i64 (↑k), .int .i64 (↑t), .int .i64 (↑j + 1)])] ?_
       refine sS (sal 7 54 #[.int .i64 (0), .int .i64 (0), .int .i64 (0)] (fun b4 => ?_))
       refine sS (ss 0 0 b4 [.int .i64 (↑k), .int .i64 (↑t), .int .i64 (↑j + 1)] [.int .i64 (↑k), .int .i64 (↑t), .int .i64 (↑j + 1)] (_ :: _ :: _) (cs := [_, _, _]) rfl rfl ?_)
       refine sn ?_
       refine sd (det_load (v := .func (.func 63) #[] #[]) (x := (.tmp 2)) (T := 114) (d := 43) (ty := 114) (gd := none) (by kernel_rfl) rfl (by kernel_rfl) rfl (sees_held hm rfl)) ?_
       refine sd (det_load (v := .pointer (some ⟨y, 0, none⟩)) (x := (.tmp 1)) (T := 85) (d := 44) (ty := 85) (gd := none) (by kernel_rfl) rfl (by kernel_rfl) rfl (sees_held hy rfl)) ?_
       refine sd (dnb 45 0 0 b4 [.int .i64 (↑k), .int .i64 (↑t), .int .i64 (↑j + 1)]) ?_
       have hct13 := may_ct J2 (y) _ _ _ _ _ (Y) ((⟨↑k, ↑t, ↑j + 1⟩ : Shift)) v1_f v2_f oh2_cy_2 or2_cy_2 (by exact hgood.ok) (by exact hgood.small) (by exact hgood.len) (by exact hgood.le)
       refine sS (sc (some 46) (F := ((b4, Obj.cells #[.int .i64 (↑k), .int .i64 (↑t), .int .i64 (↑j + 1)] 54 (0, 0)) :: (Mc3 ++ F))) (hct13 :) ((List.Perm.swap _ _ _).trans (List.Perm.cons _ (List.perm_middle.symm))) (fun rv11 I6 rm12 hle7 hp8 => ?_))
       obtain ⟨hv9, hm10⟩ := hp8
       rw [hv9, hm10]; clear hv9 hm10
       replace hy := hle7.blk _ _ hy
       replace hm := hle7.blk _ _ hm
       replace v1_f := v1_f.mono hle7
       replace v2_f := v2_f.mono hle7
       replace or0_cy_2 := or0_cy_2.mono hle7
       replace or1_cy_2 := or1_cy_2.mono hle7
       replace hCl := hmono _ _ _ _ hle7 hCl
       replace or2_cy_2 := or2_cy_2.mono hle7
       refine seq_mem (M' := ((y, Obj.cells #[.slice v1_a Y.cars.length v1_c, .slice v2_a Y.room.length v2_c, .slice y_3_a y_ws.length y_3_c] 87 (0, 0)) :: (oM2_cy_2 ++ (b4, Obj.cells #[.int .i64 (↑k), .int .i64 (↑t), .int .i64 (↑j + 1)] 54 (0, 0)) :: (Mc3 ++ F)))) (fun w h => by simpa only [List.append_assoc, List.cons_append, List.nil_append] using h) ?_
       refine pm (M' := ((y, Obj.cells #[.slice v1_a Y.cars.length v1_c, .slice v2_a Y.room.length v2_c, .slice y_3_a y_ws.length y_3_c] 87 (0, 0)) :: (b4, Obj.cells #[.int .i64 (↑k), .int .i64 (↑t), .int .i64 (↑j + 1)] 54 (0, 0)) :: (oM2_cy_2 ++ (Mc3 ++ F)))) (List.Perm.cons _ List.perm_middle) ?_
       show Seq _ _ _ _ _ _ ((46, errV ((mayErr Y ((⟨↑k, ↑t, ↑j + 1⟩ : Shift))))) :: _) _ _
       refine sd (det_eqIface (x := (.tmp 46)) (T := 108) (T' := 108) (d := 47) (ty := 4) (gd := none) (by kernel_rfl) rfl (by kernel_rfl) rfl (isNI_err _)) ?_
       refine sp 1 [(48, .bool (decide ((mayErr Y ((⟨↑k, ↑t, ↑j + 1⟩ : Shift))) = 0)))] ?_
       refine seq_split 48 rfl (fun h4 => ?_) (fun h4 => ?_)
       ·
        have h4_b := h4
        have h4_b := dec_t h4_b
        refine sp 1 [(49, .func (.yield L) #[] #[])] ?_
        refine sd (dnb 50 1 0 b4 [.int .i64 (↑k), .int .i64 (↑t), .int .i64 (↑j + 1)]) ?_
        have hme : mayErr Y (mk3 k t (j + 1)) = 0 := h4_b
        have hpre : xs3 ++ [mk3 k t (j + 1)] <+: draws Y := ⟨_, by rw [← hx3, drawsFT_yes (by omega) hme]; simp; rfl⟩
        refine sS (stp_yield (d := some 51) (f := (.tmp 49)) (args := #[.tmp 50]) (tys := #[54]) (pre := (((y, Obj.cells #[.slice v1_a Y.cars.length v1_c, .slice v2_a Y.room.length v2_c, .slice y_3_a y_ws.length y_3_c] 87 (0, 0)) :: oM2_cy_2) ++ Mc3)) (F := ((b4, Obj.cells #[.int .i64 (↑k), .int .i64 (↑t), .int .i64 (↑j + 1)] 54 (0, 0)) :: F)) (ty := 4) (gd := (some (5, true))) (by kernel_rfl) (by kernel_rfl) rfl rfl (hround xs3 (mk3 k t (j + 1)) _ ((y, Obj.cells #[.slice v1_a Y.cars.length v1_c, .slice v2_a Y.room.length v2_c, .slice y_3_a y_ws.length y_3_c] 87 (0, 0)) :: oM2_cy_2) Mc3 hpre (Imm.le.trans (Imm.le.trans (Imm.le.trans (Imm.le.trans hI0 hJ0) hJ1) hJ2) hle7) ⟨_, _, rfl, v1_f, v2_f, oh2_cy_2, or2_cy_2⟩ hCl) (by simpa only [List.append_assoc, List.cons_append, List.nil_append] using (List.Perm.cons _ ((List.perm_middle.symm).trans (List.Perm.append_left _ (List.perm_middle.symm))))) (fun yv IY MY hIY hYP => ?_))
        rcases hYP with ⟨rfl, Mr4, Mc4, rfl, ⟨ws4, Ms4, rfl, q1, q2, q3, q4⟩, hCl4⟩ | ⟨rfl, hSp4⟩
        ·
         replace hy := hIY.blk _ _ hy
         replace hm := hIY.blk _ _ hm
         replace v1_f := v1_f.mono hIY
         replace v2_f := v2_f.mono hIY
         replace or0_cy_2 := or0_cy_2.mono hIY
         replace or1_cy_2 := or1_cy_2.mono hIY
         replace hCl := hmono _ _ _ _ hIY hCl
         replace or2_cy_2 := or2_cy_2.mono hIY
         replace hCl := hCl4
         have q4_len := q4.1
         try simp only [List.length_set, List.length_append, List.length_cons, List.length_nil, List.length_take] at q4_len
         refine seq_mem (M' := ((y, Obj.cells #[.slice v1_a Y.cars.length v1_c, .slice v2_a Y.room.length v2_c, .slice y_3_a y_ws.length y_3_c] 87 (0, 0)) :: (Ms4 ++ (Mc4 ++ (b4, Obj.cells #[.int .i64 (↑k), .int .i64 (↑t), .int .i64 (↑j + 1)] 54 (0, 0)) :: F)))) (fun w h => by simpa only [List.append_assoc, List.cons_append, List.nil_append] using h) ?_
         refine pm (M' := ((y, Obj.cells #[.slice v1_a Y.cars.length v1_c, .slice v2_a Y.room.length v2_c, .slice y_3_a y_ws.length y_3_c] 87 (0, 0)) :: (b4, Obj.cells #[.int .i64 (↑k), .int .i64 (↑t), .int .i64 (↑j + 1)] 54 (0, 0)) :: (Ms4 ++ (Mc4 ++ F)))) (List.Perm.cons _ ((List.Perm.append_left _ List.perm_middle).trans List.perm_middle)) ?_
         refine sp 2 [(53, .bool (!(true)))] ?_
         refine se ?_
         refine rcf 53 rfl ?_
         refine rskip ?_
         refine pst_normal_block ?_
         refine pst_next ?_
         refine rr ?_
         refine sp 1 [(37, .int .i64 (↑j + 1))] ?_
         refine sd (da 38 (↑j + 1) (1)) ?_
         refine sp 1 [(6, .int .i64 ((↑j + 1) + 1))] ?_
         refine ee ?_
         refine pst_back ((Y.tracks.getD (k) []).length - (j+1)) (by omega) ?_
         intro a w hS hD hW
         exact ⟨IY, j+1, xs3 ++ [mk3 k t (j + 1)], Mc4, Ms4, ws4, (Imm.le.trans (Imm.le.trans hJ2 hle7) hIY), by omega, by rw [← hx3, drawsFT_yes (by omega) hme]; simp, hCl, q4, q3, hS.sub (.consE 6 rfl rfl (.cons 0 rfl (.cons 1 rfl (.cons 2 rfl (.cons 4 rfl (.cons 5 rfl (.cons 13 rfl (.cons 14 rfl (.cons 22 rfl (.cons 23 rfl (.nil _))))))))))), hD, (hW.perm (List.Perm.swap _ _ _)).sub (List.Sublist.cons _ (List.Sublist.refl _)), rfl⟩
        ·
         replace hy := hIY.blk _ _ hy
         replace hm := hIY.blk _ _ hm
         replace v1_f := v1_f.mono hIY
         replace v2_f := v2_f.mono hIY
         replace or0_cy_2 := or0_cy_2.mono hIY
         replace or1_cy_2 := or1_cy_2.mono hIY
         replace hCl := hmono _ _ _ _ hIY hCl
         replace or2_cy_2 := or2_cy_2.mono hIY
         refine seq_mem (M' := ((MY ++ (b4, Obj.cells #[.int .i64 (↑k), .int .i64 (↑t), .int .i64 (↑j + 1)] 54 (0, 0)) :: F))) (fun w h => by simpa only [List.append_assoc, List.cons_append, List.nil_append] using h) ?_
         refine pm (M' := ((b4, Obj.cells #[.int .i64 (↑k), .int .i64 (↑t), .int .i64 (↑j + 1)] 54 (0, 0)) :: (MY ++ F))) List.perm_middle ?_
         refine sp 2 [(53, .bool (!(false)))] ?_
         refine se ?_
         refine rct 53 rfl ?_
         refine rret ?_
         refine (pst_ret_block (pst_ret_pass (pst_ret_pass (pst_ret_block (pst_ret_block (pst_ret_pass (pst_ret_pass (pst_ret_block (pst_ret_block (pst_ret_pass (pst_ret_pass (pst_ret_block ?_))))))))))))
         refine ppm (M' := ((MY ++ (b4, Obj.cells #[.int .i64 (↑k), .int .i64 (↑t), .int .i64 (↑j + 1)] 54 (0, 0)) :: F))) (List.perm_middle.symm) ?_
         refine pst_ret0 (MY) (by kernel_rfl) (List.Sublist.append_left (List.Sublist.cons _ (List.Sublist.refl _)) _) (Imm.le.trans (Imm.le.trans (Imm.le.trans (Imm.le.trans hJ0 hJ1) hJ2) hle7) hIY) ?_
         exact .inr ⟨_, hSp4⟩
       ·
        have h4_b := h4
        have h4_b := dec_f h4_b
        refine sp 5 [(53, .bool (false))] ?_
        refine se ?_
        refine rcf 53 rfl ?_
        refine rskip ?_
        refine pst_normal_block ?_
        refine pst_next ?_
        refine rr ?_
        refine sp 1 [(37, .int .i64 (↑j + 1))] ?_
        refine sd (da 38 (↑j + 1) (1)) ?_
        refine sp 1 [(6, .int .i64 ((↑j + 1) + 1))] ?_
        refine ee ?_
        refine pst_back ((Y.tracks.getD (k) []).length - (j+1)) (by omega) ?_
        intro a w hS hD hW
        exact ⟨I6, j+1, xs3, Mc3, oM2_cy_2, ow2_cy_2, (Imm.le.trans hJ2 hle7), by omega, by rw [← hx3, drawsFT_no (by omega) (show mayErr Y (mk3 k t (j + 1)) ≠ 0 from h4_b)], hCl, or2_cy_2, oh2_cy_2, hS.sub (.consE 6 rfl rfl (.cons 0 rfl (.cons 1 rfl (.cons 2 rfl (.cons 4 rfl (.cons 5 rfl (.cons 13 rfl (.cons 14 rfl (.cons 22 rfl (.cons 23 rfl (.nil _))))))))))), hD, (hW.perm (List.Perm.swap _ _ _)).sub (List.Sublist.cons _ (List.Sublist.refl _)), rfl⟩
      ·
       have h3_r := h3
       have h3 := leq_f h3
       refine rexit 4 ?_
       refine (pst_exit_pass (pst_exit_pass (pst_exit_block ?_)))
       refine pst_normal_block ?_
       refine pst_next ?_
       refine rr ?_
       refine sd (da 54 (↑t) (1)) ?_
       refine sp 1 [(23, .int .i64 (↑t + 1))] ?_
       refine ee ?_
       refine pst_back (Y.tracks.length - (t+1)) (by omega) ?_
       intro a w hS hD hW
       exact ⟨J2, t+1, xs3, Mc3, oM2_cy_2, ow2_cy_2, (Imm.le.trans hJ1 hJ2), by omega, by rw [← hx3, drawsFT_done (Y := Y) (f := k) (t := t) (k := j) (by omega), List.nil_append], hCl, or2_cy_2, oh2_cy_2, hS.sub (.consE 23 rfl rfl (.cons 0 rfl (.cons 1 rfl (.cons 2 rfl (.cons 4 rfl (.cons 13 rfl (.cons 14 rfl (.cons 22 rfl (.nil _))))))))), hD, hW, rfl⟩
    ·
     have h2_r := h2
     have h2 := lss_f h2
     refine rexit 2 ?_
     refine (pst_exit_pass (pst_exit_pass (pst_exit_block ?_)))
     refine pst_normal_block ?_
     refine pst_next ?_
     refine rr ?_
     refine sd (da 55 (↑k) (1)) ?_
     refine sp 1 [(14, .int .i64 (↑k + 1))] ?_
     refine ee ?_
     refine pst_back (Y.tracks.length - (k+1)) (by omega) ?_
     intro a w hS hD hW
     exact ⟨J1, k+1, xs2, Mc2, oM1_cy_2, ow1_cy_2, (Imm.le.trans hJ0 hJ1), by omega, by rw [← hx2, drawsF_done (Y := Y) (f := k) (t := t) (by omega), List.nil_append], hCl, or1_cy_2, oh1_cy_2, hS.sub (.consE 14 rfl rfl (.cons 0 rfl (.cons 1 rfl (.cons 2 rfl (.cons 13 rfl (.nil _)))))), hD, hW, rfl⟩
  ·
   have h1_r := h1
   have h1 := lss_f h1
   refine rexit 0 ?_
   refine (pst_exit_pass (pst_exit_pass (pst_exit_block ?_)))
   refine pst_end0 ([(y, Obj.cells #[.slice v1_a Y.cars.length v1_c, .slice v2_a Y.room.length v2_c, .slice y_3_a y_ws.length y_3_c] 87 (0, 0))] ++ (oM0_cy_2 ++ (Mc1))) (by kernel_rfl) (by simp only [List.append_assoc, List.nil_append, List.cons_append]; exact (List.Sublist.cons_cons _ (List.Sublist.append_left (List.Sublist.append_left (List.Sublist.refl _) _) _))) hJ0 ?_
   exact .inl ⟨(y, Obj.cells #[.slice v1_a Y.cars.length v1_c, .slice v2_a Y.room.length v2_c, .slice y_3_a y_ws.length y_3_c] 87 (0, 0)) :: oM0_cy_2, Mc1, rfl, ⟨_, _, rfl, v1_f, v2_f, oh0_cy_2, or0_cy_2⟩, (show xs1 = draws Y by rw [← hx1, drawsY_done (Y := Y) (f := k) (by omega), List.append_nil]) ▸ hCl⟩

end Go.Proofs.YtcaocbhbofejnaaDoor
namespace Go.Proofs.YtcaocbhbofejnaaDoor
open Go Go.Sl Go.Sh
set_option maxRecDepth 100000
end Go.Proofs.YtcaocbhbofejnaaDoor
namespace Go.Proofs.YtcaocbhbofejnaaDoor
open Go Go.Sl Go.Sh
set_option maxRecDepth 100000
end Go.Proofs.YtcaocbhbofejnaaDoor
namespace Go.Proofs.YtcaocbhbofejnaaDoor
open Go Go.Sl Go.Sh
set_option maxRecDepth 100000
noncomputable def c_ordered1 (p : List Nat) : Code := sub (bodyOf Tryd.f76) p
theorem ordered1_ct (I : Imm) (y : Nat) (v1 v2 v3 : Value) (y_ws : List Value) (y_Ms : Seg) (Y : Yard) (b : Nat) (a : Value) (order : List Int) (v1_f : IsCars I v1 Y.cars) (v2_f : IsInts I v2 Y.room) (y_3h : Own 22 1 valCell v3 y_ws y_Ms) (y_3r : RowsV I y_ws Y.tracks) (b_h : I.blk b = some (Obj.cells #[a] 22 (0, 0))) (a_f : IsInts I a order) (h0 : 0 < Y.tracks.length) : Ct Tryd.prog 76 #[.pointer (some ⟨y, 0, none⟩), .pointer (some ⟨b, 0, none⟩)] I ((y, Obj.cells #[v1, v2, v3] 87 (0, 0)) :: y_Ms) (fun v I' M' => v = .bool (decide (Y.tracks.getD 0 [] = order)) ∧ M' = ((y, Obj.cells #[v1, v2, v3] 87 (0, 0)) :: y_Ms)) := by
 obtain ⟨v1_a, v1_c, v1_b, v1_o, v1_e, v1_l, v1_m, v1_r⟩ := id v1_f
 obtain ⟨v2_a, v2_c, v2_b, v2_o, v2_e, v2_l, v2_m, v2_r⟩ := id v2_f
 subst v1_e; subst v2_e
 obtain ⟨y_3_a, y_3_c, y_3_e, y_3_l⟩ := y_3h.shape; subst y_3_e
 have y_3r_len := y_3r.1
 try simp only [List.length_set, List.length_append, List.length_cons, List.length_nil, List.length_take] at y_3r_len
 obtain ⟨a_a, a_c, a_b, a_o, a_e, a_l, a_m, a_r⟩ := id a_f
 subst a_e
 refine fn_of_run (fn := Tryd.f76) (args := [_, _]) (N := 13) Tryd.func76 rfl (by kernel_rfl) (Nat.le_of_ble_eq_true rfl) (fun F => ?_)
 show Run _ _ (c_ordered1 []) _ _ [(0, .pointer (some ⟨y, 0, none⟩)), (1, .pointer (some ⟨b, 0, none⟩))] _ _
 refine rnm ?_
 refine rqr ?_
 refine sp 1 [(3, .bool (false))] ?_
 refine se ?_
 refine rq ?_
 refine rd0 8 ?_
 refine ox 4 [(7, .pointer (some ⟨y, 2, none⟩))] ?_
 refine ofp_det (dlb 8 0 2 y (.slice y_3_a y_ws.length y_3_c)) ?_
 obtain ⟨ob1, orr2⟩ := y_3h.row undef
 refine ofp_det (di 9 1 (0) orr2.addr) ?_
 have r3_f := y_3r.2 (0) (by omega)
 obtain ⟨r3_a, r3_c, r3_b, r3_o, r3_e, r3_l, r3_m, r3_r⟩ := id r3_f
 rw [r3_e] at r3_f
 refine ofp_det (det_eq (dl 10 (orr2.get (0) (by omega) 0 (by decide) _ _ (fun x hx => by simp [hx]))) r3_e) ?_
 refine ofp_det (det_load (v := .slice a_a order.length a_c) (x := (.tmp 1)) (T := 22) (d := 11) (ty := 22) (gd := none) (by kernel_rfl) rfl (by kernel_rfl) rfl (sees_held b_h rfl)) ?_
 refine ofp_end0 ?_
 refine sd (dc 12 (fun I' hI => (slicesEqual_ct I' _ _ _ _ (r3_f.mono hI) (a_f.mono hI) :))) ?_
 refine sp 1 [(3, .bool (decide ((Y.tracks.getD (0) []) = order)))] ?_
 refine se ?_
 refine rret ?_
 refine pst_ret1 (t := 3) ([(y, Obj.cells #[.slice v1_a Y.cars.length v1_c, .slice v2_a Y.room.length v2_c, .slice y_3_a y_ws.length y_3_c] 87 (0, 0))] ++ (y_Ms)) (by kernel_rfl) rfl (by simp only [List.append_assoc, List.nil_append, List.cons_append]; exact (List.Sublist.cons_cons _ (List.Sublist.append_left (List.Sublist.refl _) _))) (Imm.le.refl _) ?_
 exact ⟨congrArg Value.bool (rfl), rfl⟩

noncomputable def c_Leave1 (p : List Nat) : Code := sub (bodyOf Tryd.f55) p
theorem Leave1_ct (I : Imm) (y : Nat) (v1 v2 v3 : Value) (y_ws : List Value) (y_Ms : Seg) (Y : Yard) (v1_f : IsCars I v1 Y.cars) (v2_f : IsInts I v2 Y.room) (y_3h : Own 22 1 valCell v3 y_ws y_Ms) (y_3r : RowsV I y_ws Y.tracks) (h0 : 0 < Y.tracks.length) : Ct Tryd.prog 55 #[.pointer (some ⟨y, 0, none⟩)] I ((y, Obj.cells #[v1, v2, v3] 87 (0, 0)) :: y_Ms) (fun v I' M' => v = .bool (decide (((Y.tracks.getD 0 []).length : Int) = (Y.cars.length : Int))) ∧ M' = ((y, Obj.cells #[v1, v2, v3] 87 (0, 0)) :: y_Ms)) := by
 obtain ⟨v1_a, v1_c, v1_b, v1_o, v1_e, v1_l, v1_m, v1_r⟩ := id v1_f
 obtain ⟨v2_a, v2_c, v2_b, v2_o, v2_e, v2_l, v2_m, v2_r⟩ := id v2_f
 subst v1_e; subst v2_e
 obtain ⟨y_3_a, y_3_c, y_3_e, y_3_l⟩ := y_3h.shape; subst y_3_e
 have y_3r_len := y_3r.1
 try simp only [List.length_set, List.length_append, List.length_cons, List.length_nil, List.length_take] at y_3r_len
 refine fn_of_run (fn := Tryd.f55) (args := [_]) (N := 18) Tryd.func55 rfl (by kernel_rfl) (Nat.le_of_ble_eq_true rfl) (fun F => ?_)
 show Run _ _ (c_Leave1 []) _ _ [(0, .pointer (some ⟨y, 0, none⟩))] _ _
 refine rnm ?_
 refine rqr ?_
 refine sp 1 [(2, .bool (false))] ?_
 refine se ?_
 refine rq ?_
 refine rd0 14 ?_
 refine ox 4 [(6, .pointer (some ⟨y, 2, none⟩))] ?_
 refine ofp_det (dlb 7 0 2 y (.slice y_3_a y_ws.length y_3_c)) ?_
 obtain ⟨ob1, orr2⟩ := y_3h.row undef
 refine ofp_det (di 8 1 (0) orr2.addr) ?_
 have r3_f := y_3r.2 (0) (by omega)
 obtain ⟨r3_a, r3_c, r3_b, r3_o, r3_e, r3_l, r3_m, r3_r⟩ := id r3_f
 rw [r3_e] at r3_f
 refine ofp_det (det_eq (dl 9 (orr2.get (0) (by omega) 0 (by decide) _ _ (fun x hx => by simp [hx]))) r3_e) ?_
 refine ox 5 [(14, .pointer (some ⟨y, 0, none⟩)), (10, .int .i64 (↑((Y.tracks.getD (0) []).length)))] ?_
 refine ofp_det (dlb 15 0 0 y (.slice v1_a Y.cars.length v1_c)) ?_
 refine ox 1 [(16, .int .i64 (↑(Y.cars.length)))] ?_
 refine ofp_end0 ?_
 refine sp 2 [(2, .bool (cmp .eql (↑((Y.tracks.getD (0) []).length)) (↑(Y.cars.length))))] ?_
 refine se ?_
 refine rret ?_
 refine pst_ret1 (t := 2) ([(y, Obj.cells #[.slice v1_a Y.cars.length v1_c, .slice v2_a Y.room.length v2_c, .slice y_3_a y_ws.length y_3_c] 87 (0, 0))] ++ (y_Ms)) (by kernel_rfl) rfl (by simp only [List.append_assoc, List.nil_append, List.cons_append]; exact (List.Sublist.cons_cons _ (List.Sublist.append_left (List.Sublist.refl _) _))) (Imm.le.refl _) ?_
 exact ⟨congrArg Value.bool (rfl), rfl⟩

noncomputable def c_Leave2 (p : List Nat) : Code := sub (bodyOf Tryd.f56) p
theorem Leave2_ct (I : Imm) (y : Nat) (v1 v2 v3 : Value) (y_ws : List Value) (y_Ms : Seg) (Y : Yard) (b : Nat) (a : Value) (cs : List Int) (v1_f : IsCars I v1 Y.cars) (v2_f : IsInts I v2 Y.room) (y_3h : Own 22 1 valCell v3 y_ws y_Ms) (y_3r : RowsV I y_ws Y.tracks) (b_h : I.blk b = some (Obj.cells #[a] 22 (0, 0))) (a_f : IsInts I a cs) (h0 : 0 < Y.tracks.length) (hle : cs.length ≤ (Y.tracks.getD 0 []).length) (hq : (Y.tracks.getD 0 []).length ≤ 1000000) : Ct Tryd.prog 56 #[.pointer (some ⟨y, 0, none⟩), .pointer (some ⟨b, 0, none⟩)] I ((y, Obj.cells #[v1, v2, v3] 87 (0, 0)) :: y_Ms) (fun v I' M' => v = .bool (lastP cs (Y.tracks.getD 0 [])) ∧ M' = ((y, Obj.cells #[v1, v2, v3] 87 (0, 0)) :: y_Ms)) := by
 obtain ⟨v1_a, v1_c, v1_b, v1_o, v1_e, v1_l, v1_m, v1_r⟩ := id v1_f
 obtain ⟨v2_a, v2_c, v2_b, v2_o, v2_e, v2_l, v2_m, v2_r⟩ := id v2_f
 subst v1_e; subst v2_e
 obtain ⟨y_3_a, y_3_c, y_3_e, y_3_l⟩ := y_3h.shape; subst y_3_e
 have y_3r_len := y_3r.1
 try simp only [List.length_set, List.length_append, List.length_cons, List.length_nil, List.length_take] at y_3r_len
 obtain ⟨a_a, a_c, a_b, a_o, a_e, a_l, a_m, a_r⟩ := id a_f
 subst a_e
 refine fn_of_run (fn := Tryd.f56) (args := [_, _]) (N := 35) Tryd.func56 rfl (by kernel_rfl) (Nat.le_of_ble_eq_true rfl) (fun F => ?_)
 show Run _ _ (c_Leave2 []) _ _ [(0, .pointer (some ⟨y, 0, none⟩)), (1, .pointer (some ⟨b, 0, none⟩))] _ _
 refine rnm ?_
 refine rqr ?_
 refine sp 1 [(3, .bool (false))] ?_
 refine se ?_
 refine rq ?_
 refine rq ?_
 refine rd0 21 ?_
 refine ox 4 [(9, .pointer (some ⟨y, 2, none⟩))] ?_
 refine ofp_det (dlb 10 0 2 y (.slice y_3_a y_ws.length y_3_c)) ?_
 obtain ⟨ob1, orr2⟩ := y_3h.row undef
 refine ofp_det (di 11 1 (0) orr2.addr) ?_
 have r3_f := y_3r.2 (0) (by omega)
 obtain ⟨r3_a, r3_c, r3_b, r3_o, r3_e, r3_l, r3_m, r3_r⟩ := id r3_f
 rw [r3_e] at r3_f
 refine ofp_det (det_eq (dl 12 (orr2.get (0) (by omega) 0 (by decide) _ _ (fun x hx => by simp [hx]))) r3_e) ?_
 refine ox 4 [(16, .pointer (some ⟨y, 2, none⟩))] ?_
 refine ofp_det (dlb 17 0 2 y (.slice y_3_a y_ws.length y_3_c)) ?_
 obtain ⟨ob4, orr5⟩ := y_3h.row undef
 refine ofp_det (di 18 1 (0) orr5.addr) ?_
 have r6_f := y_3r.2 (0) (by omega)
 obtain ⟨r6_a, r6_c, r6_b, r6_o, r6_e, r6_l, r6_m, r6_r⟩ := id r6_f
 rw [r6_e] at r6_f
 refine ofp_det (det_eq (dl 19 (orr5.get (0) (by omega) 0 (by decide) _ _ (fun x hx => by simp [hx]))) r6_e) ?_
 refine ox 1 [(20, .int .i64 (↑((Y.tracks.getD (0) []).length)))] ?_
 refine ofp_det (det_load (v := .slice a_a cs.length a_c) (x := (.tmp 1)) (T := 22) (d := 21) (ty := 22) (gd := none) (by kernel_rfl) rfl (by kernel_rfl) rfl (sees_held b_h rfl)) ?_
 refine ox 1 [(22, .int .i64 (↑(cs.length)))] ?_
 refine ofp_det (dsb 23 (↑((Y.tracks.getD (0) []).length)) (↑(cs.length))) ?_
 have s7_f := r3_f.cutLo ((Y.tracks.getD (0) []).length - cs.length) (by omega)
 obtain ⟨s7_a, s7_c, s7_b, s7_o, s7_e, s7_l, s7_m, s7_r⟩ := id s7_f
 rw [s7_e] at s7_f
 refine ofp_det (det_eq (det_slice (x := (.tmp 12)) (lo := (some (.tmp 23))) (hi := none) (T := 22) (e := 3) (sz := 1) ((Y.tracks.getD (0) []).length - cs.length) ((Y.tracks.getD (0) []).length) (d := 24) (ty := 22) (gd := none) (by kernel_rfl) rfl (by kernel_rfl) (by kernel_rfl) rfl (.inr ⟨_, .i64, rfl, (look_int rfl (by omega))⟩) (.inl ⟨rfl, rfl⟩) (by omega) (by omega)) s7_e) ?_
 refine ox 2 [(26, .int .i64 (0)), (25, .int .i64 (↑(((Y.tracks.getD (0) []).drop ((Y.tracks.getD (0) []).length - cs.length)).length)))] ?_
 refine ofp_end0 ?_
 refine se ?_
 refine rb 0 ?_
 refine rl (fun mz a w => ∃ k : Nat, (k ≤ ((Y.tracks.getD (0) []).drop ((Y.tracks.getD (0) []).length - cs.length)).length) ∧ (∀ j, j < k → ((Y.tracks.getD (0) []).drop ((Y.tracks.getD (0) []).length - cs.length)).getD j 0 ∈ cs) ∧ Slots 35 [(26, .int .i64 ↑k), (1, .pointer (some ⟨b, 0, none⟩)), (24, .slice s7_a ((Y.tracks.getD (0) []).drop ((Y.tracks.getD (0) []).length - cs.length)).length s7_c), (25, .int .i64 (↑(((Y.tracks.getD (0) []).drop ((Y.tracks.getD (0) []).length - cs.length)).length)))] a ∧ a.defers = [] ∧ St I ((y, Obj.cells #[.slice v1_a Y.cars.length v1_c, .slice v2_a Y.room.length v2_c, .slice y_3_a y_ws.length y_3_c] 87 (0, 0)) :: (y_Ms ++ F)) w ∧ mz = ((Y.tracks.getD (0) []).drop ((Y.tracks.getD (0) []).length - cs.length)).length - k) ?_ ?_
 ·intro a w hS hD hW
  exact ⟨_, 0, Nat.zero_le _, (fun j hj => by omega), hS.sub (.cons 26 rfl (.cons 1 rfl (.cons 24 rfl (.cons 25 rfl (.nil _))))), hD, hW, rfl⟩
 ·rintro mz a w ⟨k, hk, hin, hS, hD, hW, rfl⟩
  refine run_at hS hD hW ?_
  clear hS hD hW a w
  refine rqr ?_
  refine sp 1 [(27, .bool (cmp .lss (↑k) (↑(((Y.tracks.getD (0) []).drop ((Y.tracks.getD (0) []).length - cs.length)).length))))] ?_
  refine se ?_
  refine rq ?_
  refine rc 27 rfl (fun h1 => ?_) (fun h1 => ?_)
  ·
   have h1_r := h1
   have h1 := lss_t h1
   refine rskip ?_
   refine pst_next ?_
   refine rq ?_
   refine rb 1 ?_
   refine rqr ?_
   refine sd (di 28 1 (k) s7_r.addr) ?_
   refine sd (dl 29 (ints_get s7_r (k) (by omega))) ?_
   refine sp 1 [(5, .int .i64 (((Y.tracks.getD (0) []).drop ((Y.tracks.getD (0) []).length - cs.length)).getD (k) 0))] ?_
   refine sn ?_
   refine sd (det_load (v := .slice a_a cs.length a_c) (x := (.tmp 1)) (T := 22) (d := 30) (ty := 22) (gd := none) (by kernel_rfl) rfl (by kernel_rfl) rfl (sees_held b_h rfl)) ?_
   refine sp 1 [(31, .int .i64 (((Y.tracks.getD (0) []).drop ((Y.tracks.getD (0) []).length - cs.length)).getD (k) 0))] ?_
   refine sd (dc 32 (fun I' hI => (Contains_ct I' _ _ (((Y.tracks.getD (0) []).drop ((Y.tracks.getD (0) []).length - cs.length)).getD (k) 0) (a_f.mono hI) :))) ?_
   refine sp 1 [(33, .bool (!(decide ((((Y.tracks.getD (0) []).drop ((Y.tracks.getD (0) []).length - cs.length)).getD (k) 0) ∈ cs))))] ?_
   refine se ?_
   refine rc 33 rfl (fun h2 => ?_) (fun h2 => ?_)
   ·
    have h2_r := h2
    have h2 := not_t h2
    have h2 := dec_f h2
    refine rqr ?_
    refine sp 1 [(3, .bool (false))] ?_
    refine se ?_
    refine rret ?_
    refine (pst_ret_block (pst_ret_pass (pst_ret_pass (pst_ret_block (pst_ret_pass ?_)))))
    refine pst_ret1 (t := 3) ([(y, Obj.cells #[.slice v1_a Y.cars.length v1_c, .slice v2_a Y.room.length v2_c, .slice y_3_a y_ws.length y_3_c] 87 (0, 0))] ++ (y_Ms)) (by kernel_rfl) rfl (by simp only [List.append_assoc, List.nil_append, List.cons_append]; exact (List.Sublist.cons_cons _ (List.Sublist.append_left (List.Sublist.refl _) _))) (Imm.le.refl _) ?_
    exact ⟨congrArg Value.bool ((lastP_miss (k := k) (by omega) h2).symm), rfl⟩
   ·
    have h2_r := h2
    have h2 := not_f h2
    have h2 := dec_t h2
    refine rskip ?_
    refine pst_normal_block ?_
    refine pst_next ?_
    refine rr ?_
    refine sd (da 34 (↑k) (1)) ?_
    refine sp 1 [(26, .int .i64 (↑k + 1))] ?_
    refine ee ?_
    refine pst_back (((Y.tracks.getD (0) []).drop ((Y.tracks.getD (0) []).length - cs.length)).length - (k+1)) (by omega) ?_
    intro a w hS hD hW
    exact ⟨k+1, by omega, in_snoc hin h2, hS.sub (.consE 26 rfl rfl (.cons 1 rfl (.cons 24 rfl (.cons 25 rfl (.nil _))))), hD, hW, rfl⟩
  ·
   have h1_r := h1
   have h1 := lss_f h1
   refine rexit 0 ?_
   refine (pst_exit_pass (pst_exit_pass (pst_exit_block ?_)))
   refine pst_next ?_
   refine rqr ?_
   refine sp 1 [(3, .bool (true))] ?_
   refine se ?_
   refine rret ?_
   refine pst_ret1 (t := 3) ([(y, Obj.cells #[.slice v1_a Y.cars.length v1_c, .slice v2_a Y.room.length v2_c, .slice y_3_a y_ws.length y_3_c] 87 (0, 0))] ++ (y_Ms)) (by kernel_rfl) rfl (by simp only [List.append_assoc, List.nil_append, List.cons_append]; exact (List.Sublist.cons_cons _ (List.Sublist.append_left (List.Sublist.refl _) _))) (Imm.le.refl _) ?_
   exact ⟨congrArg Value.bool ((lastP_all (fun j hj => hin j (by omega))).symm), rfl⟩

noncomputable def c_ordered (p : List Nat) : Code := sub (bodyOf Tryd.f61) p
theorem ordered_ct (I : Imm) (a : Value) (order : List Int) (a_f : IsInts I a order) : Ct Tryd.prog 61 #[a] I ([]) (fun v I' M' => ∃ b : Nat, v = .func (.func 76) #[] #[.pointer (some ⟨b, 0, none⟩)] ∧ M' = [] ∧ (I'.blk b = some (Obj.cells #[a] 22 (0, 0)))) := by
 obtain ⟨a_a, a_c, a_b, a_o, a_e, a_l, a_m, a_r⟩ := id a_f
 subst a_e
 refine fn_of_run (fn := Tryd.f61) (args := [_]) (N := 4) Tryd.func61 rfl (by kernel_rfl) (Nat.le_of_ble_eq_true rfl) (fun F => ?_)
 show Run _ _ (c_ordered []) _ _ [(0, .slice a_a order.length a_c)] _ _
 refine rnm ?_
 refine rqr ?_
 refine sS (sb 1 22 #[.slice a_a order.length a_c] (fun b1 => ?_))
 refine sp 1 [(2, .nilFunc)] ?_
 refine sn ?_
 refine seq_hold (b := b1) (o := Obj.cells #[.slice a_a order.length a_c] 22 (0, 0)) (M0 := (F)) (List.Perm.refl _) (fun I3 hle4 hb5 => ?_)
 refine sp 2 [(2, .func (.func 76) #[] #[.pointer (some ⟨b1, 0, none⟩)])] ?_
 refine se ?_
 refine rret ?_
 refine pst_ret1 (t := 2) [] (by kernel_rfl) rfl (List.Sublist.refl _) hle4 ?_
 exact ⟨b1, rfl, rfl, hb5⟩


theorem goals_ordered {I : Imm} {A : Yard} {b : Nat} {a : Value} {order : List Int} (hb : I.blk b = some (Obj.cells #[a] 22 (0, 0))) (ha : IsInts I a order) (hA : 0 < A.tracks.length) :
  GoalsOk Tryd.prog 22 87 I A [.func (.func 76) #[] #[.pointer (some ⟨b, 0, none⟩)]] [orderedP order] := by
 refine ⟨rfl, fun i hi => ?_⟩
 obtain rfl : i = 0 := by simp at hi; omega
 refine ⟨76, [.pointer (some ⟨b, 0, none⟩)], rfl, by kernel_rfl, fun J y v1 v2 v3 Y ws Ms hle hk h1 h2 h3 h4 _ => ?_⟩
 exact ordered1_ct J y v1 v2 v3 ws Ms Y b a order h1 h2 h3 h4 (hle.blk _ _ hb) (ha.mono hle) (by rw [hk.len]; exact hA)
theorem goals_leave {I : Imm} {A : Yard} {b : Nat} {a : Value} {cs : List Int} (hb : I.blk b = some (Obj.cells #[a] 22 (0, 0))) (ha : IsInts I a cs) (hA : 0 < A.tracks.length) (hc : cs.length ≤ A.cars.length) (h5 : A.tracks.flatten.length ≤ 5) :
  GoalsOk Tryd.prog 22 87 I A [.func (.func 55) #[] #[], .func (.func 56) #[] #[.pointer (some ⟨b, 0, none⟩)]] [wholeP, fun Y => lastP cs (Y.tracks.getD 0 [])] := by
 refine ⟨rfl, fun i hi => ?_⟩
 match i, hi with
 | 0, _ =>
  refine ⟨55, [], rfl, by kernel_rfl, fun J y v1 v2 v3 Y ws Ms hle hk h1 h2 h3 h4 _ => ?_⟩
  exact Leave1_ct J y v1 v2 v3 ws Ms Y h1 h2 h3 h4 (by rw [hk.len]; exact hA)
 | 1, _ =>
  refine ⟨56, [.pointer (some ⟨b, 0, none⟩)], rfl, by kernel_rfl, fun J y v1 v2 v3 Y ws Ms hle hk h1 h2 h3 h4 hp => ?_⟩
  have hw := hp 0 (by omega)
  have hl : (Y.tracks.getD 0 []).length = Y.cars.length := by
   have := of_decide_eq_true hw
   omega
  have h0 : 0 < Y.tracks.length := by rw [hk.len]; exact hA
  have h6 := mem_le_flatten (getD_mem (d := []) h0)
  have h7 := hk.perm.length_eq
  exact Leave2_ct J y v1 v2 v3 ws Ms Y b a cs h1 h2 h3 h4 (hle.blk _ _ hb) (ha.mono hle) h0 (by rw [hl, hk.cars]; exact hc) (by omega)

noncomputable def c_all (p : List Nat) : Code := sub (bodyOf Tryd.f82) p
theorem all_ct (I : Imm) (y : Nat) (y_1 y_2 y_3 : Value) (y_ws : List Value) (y_Ms : Seg) (Y : Yard) (g : Value) (gs : List Value) (A : Yard) (ps : List (Yard → Bool)) (y_1f : IsCars I y_1 Y.cars) (y_2f : IsInts I y_2 Y.room) (y_3h : Own 22 1 valCell y_3 y_ws y_Ms) (y_3r : RowsV I y_ws Y.tracks) (g_f : IsVals I g gs) (hgo : GoalsOk Tryd.prog 22 87 I A gs ps) (hka : Kin A Y) : Ct Tryd.prog 82 #[.pointer (some ⟨y, 0, none⟩), g] I ([(y, Obj.cells #[y_1, y_2, y_3] 87 (0, 0))] ++ (y_Ms)) (fun v I' M' => v = .bool (allP ps Y) ∧ M' = [(y, Obj.cells #[y_1, y_2, y_3] 87 (0, 0))] ++ (y_Ms)) := by
 have y_1_f := y_1f
 obtain ⟨y_1_a, y_1_c, y_1_b, y_1_o, y_1_e, y_1_l, y_1_m, y_1_r⟩ := id y_1_f
 subst y_1_e
 have y_2_f := y_2f
 obtain ⟨y_2_a, y_2_c, y_2_b, y_2_o, y_2_e, y_2_l, y_2_m, y_2_r⟩ := id y_2_f
 subst y_2_e
 obtain ⟨y_3_a, y_3_c, y_3_e, y_3_l⟩ := y_3h.shape; subst y_3_e
 have y_3r_len := y_3r.1
 try simp only [List.length_set, List.length_append, List.length_cons, List.length_nil, List.length_take] at y_3r_len
 obtain ⟨g_a, g_c, g_b, g_o, g_e, g_l, g_m, g_r⟩ := id g_f
 subst g_e
 refine fn_of_run (fn := Tryd.f82) (args := [_, _]) (N := 18) Tryd.func82 rfl (by kernel_rfl) (Nat.le_of_ble_eq_true rfl) (fun F => ?_)
 show Run _ _ (c_all []) _ _ [(0, .pointer (some ⟨y, 0, none⟩)), (1, .slice g_a gs.length g_c)] _ _
 refine rnm ?_
 refine rqr ?_
 refine sp 1 [(4, .bool (false))] ?_
 refine se ?_
 refine rq ?_
 refine rqr ?_
 have hgl := hgo.1
 refine sp 3 [(9, .int .i64 (0)), (8, .int .i64 (↑(gs.length))), (7, .slice g_a gs.length g_c)] ?_
 refine se ?_
 refine rb 0 ?_
 refine rl (fun mz a w => ∃ J0 : Imm, ∃ k : Nat, (I.le J0) ∧ (k ≤ gs.length) ∧ (∀ j, j < k → (ps.getD j noGoal) Y = true) ∧ Slots 18 [(9, .int .i64 ↑k), (0, .pointer (some ⟨y, 0, none⟩)), (7, .slice g_a gs.length g_c), (8, .int .i64 (↑(gs.length)))] a ∧ a.defers = [] ∧ St J0 ((y, Obj.cells #[.slice y_1_a Y.cars.length y_1_c, .slice y_2_a Y.room.length y_2_c, .slice y_3_a y_ws.length y_3_c] 87 (0, 0)) :: (y_Ms ++ F)) w ∧ mz = gs.length - k) ?_ ?_
 ·intro a w hS hD hW
  exact ⟨_, I, 0, Imm.le.refl _, Nat.zero_le _, (fun j hj => by omega), hS.sub (.cons 9 rfl (.cons 0 rfl (.cons 7 rfl (.cons 8 rfl (.nil _))))), hD, hW, rfl⟩
 ·rintro mz a w ⟨J0, k, hJ0, hk, hbf, hS, hD, hW, rfl⟩
  refine run_at hS hD hW ?_
  clear hS hD hW a w
  replace y_1_f := y_1_f.mono hJ0
  replace y_2_f := y_2_f.mono hJ0
  replace y_3r := y_3r.mono hJ0
  replace g_r := g_r.mono hJ0
  replace hgo := hgo.mono hJ0
  refine rqr ?_
  refine sp 1 [(10, .bool (cmp .lss (↑k) (↑(gs.length))))] ?_
  refine se ?_
  refine rq ?_
  refine rc 10 rfl (fun h1 => ?_) (fun h1 => ?_)
  ·
   have h1_r := h1
   have h1 := lss_t h1
   refine rskip ?_
   refine pst_next ?_
   refine rq ?_
   refine rb 1 ?_
   refine rqr ?_
   refine sd (di 11 1 (k) g_r.addr) ?_
   refine sd (dl 12 (vals_get g_r (k) (by omega))) ?_
   refine sp 1 [(6, gs.getD (k) undef)] ?_
   refine sn ?_
   refine sp 2 [(14, .pointer (some ⟨y, 0, none⟩)), (13, gs.getD (k) undef)] ?_
   obtain ⟨gid, gcv, hge, hgc, hgt⟩ := hgo.2 k (by omega)
   refine seq_re 13 rfl hge ?_
   have hct4 := hgt J0 y (.slice y_1_a Y.cars.length y_1_c) (.slice y_2_a Y.room.length y_2_c) (.slice y_3_a y_ws.length y_3_c) Y y_ws y_Ms (Imm.le.refl _) hka y_1_f y_2_f y_3h y_3r hbf
   refine sS (stp_call (d := (some 15)) (f := (.tmp 13)) (fid := gid) (args := #[(.tmp 14)]) (tys := #[85]) (cv := gcv) (F := (F)) (ty := 4) (gd := none) (by kernel_rfl) rfl rfl rfl hgc rfl hct4 (by simpa only [List.append_assoc, List.cons_append, List.nil_append] using (List.Perm.refl _)) (fun rv5 I1 rm6 hle2 hp3 => ?_))
   obtain ⟨rfl, rfl⟩ := hp3
   refine seq_mem (M' := ((y, Obj.cells #[.slice y_1_a Y.cars.length y_1_c, .slice y_2_a Y.room.length y_2_c, .slice y_3_a y_ws.length y_3_c] 87 (0, 0)) :: (y_Ms ++ F))) (fun w h => by simpa only [List.append_assoc, List.cons_append, List.nil_append] using h) ?_
   refine nm ?_
   show Seq _ _ _ _ _ _ ((15, .bool ((ps.getD k noGoal) Y)) :: _) _ _
   refine sp 1 [(16, .bool (!((ps.getD k noGoal) Y)))] ?_
   refine se ?_
   refine rc 16 rfl (fun h2 => ?_) (fun h2 => ?_)
   ·
    have h2_r := h2
    have h2 := not_t h2
    refine rqr ?_
    refine sp 1 [(4, .bool (false))] ?_
    refine se ?_
    refine rret ?_
    refine (pst_ret_block (pst_ret_pass (pst_ret_pass (pst_ret_block (pst_ret_pass ?_)))))
    refine pst_ret1 (t := 4) ([(y, Obj.cells #[.slice y_1_a Y.cars.length y_1_c, .slice y_2_a Y.room.length y_2_c, .slice y_3_a y_ws.length y_3_c] 87 (0, 0))] ++ (y_Ms)) (by kernel_rfl) rfl (by simp only [List.append_assoc, List.nil_append, List.cons_append]; exact (List.Sublist.cons_cons _ (List.Sublist.append_left (List.Sublist.refl _) _))) (Imm.le.trans hJ0 hle2) ?_
    exact ⟨(congrArg Value.bool (allP_miss (k := k) (by omega) h2).symm), rfl⟩
   ·
    have h2_r := h2
    have h2 := not_f h2
    refine rskip ?_
    refine pst_normal_block ?_
    refine pst_next ?_
    refine rr ?_
    refine sd (da 17 (↑k) (1)) ?_
    refine sp 1 [(9, .int .i64 (↑k + 1))] ?_
    refine ee ?_
    refine pst_back (gs.length - (k+1)) (by omega) ?_
    intro a w hS hD hW
    exact ⟨I1, k+1, (Imm.le.trans hJ0 hle2), by omega, before_snoc hbf h2, hS.sub (.consE 9 rfl rfl (.cons 0 rfl (.cons 7 rfl (.cons 8 rfl (.nil _))))), hD, hW, rfl⟩
  ·
   have h1_r := h1
   have h1 := lss_f h1
   refine rexit 0 ?_
   refine (pst_exit_pass (pst_exit_pass (pst_exit_block ?_)))
   refine pst_next ?_
   refine rqr ?_
   refine sp 1 [(4, .bool (true))] ?_
   refine se ?_
   refine rret ?_
   refine pst_ret1 (t := 4) ([(y, Obj.cells #[.slice y_1_a Y.cars.length y_1_c, .slice y_2_a Y.room.length y_2_c, .slice y_3_a y_ws.length y_3_c] 87 (0, 0))] ++ (y_Ms)) (by kernel_rfl) rfl (by simp only [List.append_assoc, List.nil_append, List.cons_append]; exact (List.Sublist.cons_cons _ (List.Sublist.append_left (List.Sublist.refl _) _))) hJ0 ?_
   exact ⟨(congrArg Value.bool (allP_done (fun j hj => hbf j (by omega))).symm), rfl⟩

end Go.Proofs.YtcaocbhbofejnaaDoor

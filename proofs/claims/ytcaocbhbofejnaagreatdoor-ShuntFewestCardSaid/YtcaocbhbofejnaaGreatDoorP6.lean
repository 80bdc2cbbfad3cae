/- A part of the proof of the laws of this seat. -/
import Derived.Test.YtcaocbhbofejnaaGreatDoorP5
import Derived.Test.YtcaocbhbofejnaaGreatDoorP1
import Derived.Test.YtcaocbhbofejnaaGreatDoorP2
set_option linter.unusedVariables false
set_option linter.unusedSimpArgs false
namespace Go.Sh
open Go Go.Sl
theorem plain_len {goal : Yard → Bool} : ∀ (d : Nat) (Y : Yard) (l : List Shift), plain goal d Y = some l → (∀ m, m < d → plain goal m Y = none) → l.length = d := by
  intro d
  induction d with
  | zero =>
    intro Y l h _;simp only [plain] at h
    split at h
    · cases h; rfl
    · cases h
  | succ d ih =>
    intro Y l h hm;have hg : goal Y ≠ true := fun hg => by have := hm 0 (by omega); rw [LB hg] at this; cases this
    simp only [plain, if_neg hg] at h;obtain ⟨s, hs, h2⟩ := List.exists_of_findSome?_eq_some h;obtain ⟨l', hl', rfl⟩ := Option.map_eq_some_iff.1 h2;have := ih _ l' hl' (fun m hmd => plain_down (hm (m + 1) (by omega)) hs);simp [this]
theorem plain_play {goal : Yard → Bool} : ∀ (d : Nat) (Y : Yard) (l : List Shift), plain goal d Y = some l → ∃ Z, BM Y l = (Z, 0) ∧ goal Z = true ∧ Kin Y Z ∧ l.length ≤ d := by
  intro d
  induction d with
  | zero =>
    intro Y l h;simp only [plain] at h
    split at h
    · rename_i hg; cases h; exact ⟨Y, rfl, hg, Kin.refl Y, Nat.le_refl _⟩
    · cases h
  | succ d ih =>
    intro Y l h
    by_cases hg : goal Y = true
    · rw [LB hg] at h; cases h; exact ⟨Y, rfl, hg, Kin.refl Y, Nat.zero_le _⟩
    · simp only [plain, if_neg hg] at h
      obtain ⟨s, hs, h2⟩ := List.exists_of_findSome?_eq_some h;obtain ⟨l', hl', rfl⟩ := Option.map_eq_some_iff.1 h2;obtain ⟨Z, h3, h4, h5, h6⟩ := ih _ l' hl';have hm := DF hs;exact ⟨Z, by simp only [BM]; rw [if_pos hm]; exact h3, h4, (MQ hm).trans h5, by simp; omega⟩
theorem plain_some {goal : Yard → Bool} : ∀ (l : List Shift) (d : Nat) (Y Z : Yard), BM Y l = (Z, 0) → goal Z = true → l.length ≤ d → plain goal d Y ≠ none := by
  intro l
  induction l with
  | nil =>
    intro d Y Z h hg _;simp only [BM, Prod.mk.injEq, and_true] at h;subst h;rw [LB hg]; simp
  | cons s l ih =>
    intro d Y Z h hg hd;obtain ⟨d, rfl⟩ : ∃ e, d = e + 1 := ⟨d - 1, by simp at hd; omega⟩;simp only [BM] at h
    split at h
    · rename_i hm
      intro hn;simp only [plain] at hn
      split at hn
      · cases hn
      · have := List.findSome?_eq_none_iff.1 hn s (mem_draws.2 hm)
        have h2 := ih d _ Z h hg (by simpa using hd);simp only [Option.map_eq_none_iff] at this;exact h2 this
    · rename_i hm
      simp only [Prod.mk.injEq] at h;exact absurd h.2 hm
theorem OL {goal : Yard → Bool} {Y : Yard} {l : List Shift} (h : AV goal Y = some l) : ∃ Z, BM Y l = (Z, 0) ∧ goal Z = true ∧ Kin Y Z ∧ l.length ≤ 4 ∧ (∀ (l' : List Shift) (Z' : Yard), BM Y l' = (Z', 0) → goal Z' = true → l.length ≤ l'.length) := by
  unfold AV at h;obtain ⟨l₁, d, l₂, h1, h2, h3⟩ := List.findSome?_eq_some_iff.1 h
  have hd : d < 5 := by have : d ∈ List.range 5 := by rw [h1]; simp
                        simpa using this
  have hlow : ∀ m, m < d → plain goal m Y = none := fun m hm => by
    refine h3 m ?_;have hp : (List.range 5).Pairwise (· < ·) := List.pairwise_lt_range;have hm5 : m ∈ List.range 5 := by simp; omega
    rw [h1] at hm5 hp;rcases List.mem_append.1 hm5 with hx | hx
    · exact hx
    · have := (List.pairwise_append.1 hp).2.1
      rcases List.mem_cons.1 hx with e | hx
      · omega
      · have := List.rel_of_pairwise_cons this hx; omega
  obtain ⟨Z, g1, g2, g3, g4⟩ := plain_play d Y l h2;have hl := plain_len d Y l h2 hlow;refine ⟨Z, g1, g2, g3, by omega, fun l' Z' hp hg => ?_⟩;rcases Nat.lt_or_ge l'.length l.length with hlt | hge
  · exact absurd (hlow l'.length (by omega)) (plain_some l' _ Y Z' hp hg (Nat.le_refl _))
  · exact hge
theorem playFrom_kin : ∀ (l : List Shift) {Y Z : Yard}, BM Y l = (Z, 0) → Kin Y Z := by
  intro l
  induction l with
  | nil => intro Y Z h; simp only [BM, Prod.mk.injEq, and_true] at h; subst h; exact Kin.refl _
  | cons s l ih =>
    intro Y Z h;simp only [BM] at h
    split at h
    · rename_i hm; exact (MQ hm).trans (ih h)
    · rename_i hm; simp only [Prod.mk.injEq] at h; exact absurd h.2 hm
theorem NI {l : List Int} {n : Nat} (hn : l.Nodup) (hr : ∀ x ∈ l, 0 ≤ x ∧ x < (n : Int)) (hl : n ≤ l.length) : l.Perm (CY n) := by
  refine (List.perm_ext_iff_of_nodup hn ((GO _).imp fun hab => by omega)).2 fun x => ⟨fun hx => mem_wholeL.2 (hr x hx), fun hx => ?_⟩
  by_cases hm : x ∈ l
  · exact hm
  · have := HX (l := x :: l) (n := n) (List.nodup_cons.2 ⟨hm, hn⟩) (fun c hc => by
      rcases List.mem_cons.1 hc with rfl | hc
      · exact mem_wholeL.1 hx
      · exact hr c hc)
    simp only [List.length_cons] at this;omega
theorem Fine.whole_perm {Y : Yard} (f : Fine Y) : Y.tracks.flatten.Perm (CY Y.cars.length) :=
  NI f.nodup (fun x hx => IX f.ok x hx) f.all
theorem goO_fine {n : Nat} : ∀ (o pre : List Int), (pre ++ o).Nodup → (∀ c ∈ o, 0 ≤ c ∧ c < n) → goO n pre o = 0 := by
  intro o
  induction o with
  | nil => intro pre _ _; rfl
  | cons c r ih =>
    intro pre hn hr;simp only [goO];have h1 := hr c (by simp)
    rw [if_pos (by simp [inB]; omega), if_neg (fun hc => by
      have := (List.nodup_append.1 hn).2.2 c hc c (by simp)
      exact this rfl)]
    exact ih (pre ++ [c]) (by rw [List.append_assoc]; exact hn) (fun x hx => hr x (by simp [hx]))
theorem goL_fine {n : Nat} : ∀ (l : List Int) (pre : Option Int), (∀ x ∈ l, 0 ≤ x ∧ x < n) → Asc l → (∀ p, pre = some p → ∀ x ∈ l, p < x) → goL n pre l = 0 := by
  intro l
  induction l with
  | nil => intro pre _ _ _; rfl
  | cons c r ih =>
    intro pre hr ha hp;have h1 := hr c (by simp);simp only [goL];rw [if_pos (by simp [inB]; omega)];have hlow : tooLow pre c = false := by
      cases pre with
      | none => rfl
      | some p => have := hp p rfl c (by simp); simp [tooLow]; omega
    rw [hlow];simp only [Bool.false_eq_true, if_false];exact ih (some c) (fun x hx => hr x (by simp [hx])) (List.Pairwise.of_cons ha) (fun p hp' x hx => by cases hp'; exact List.rel_of_pairwise_cons ha hx)
theorem leaveE_len {Y : Yard} {leave : List Int} : (CK Y leave).1.length ≤ 4 := by
  unfold CK
  split
  · cases h : AV (DJ (JQ leave)) Y with
    | none => decide
    | some l => obtain ⟨_, _, _, _, h4, _⟩ := OL h; exact h4
  · exact Nat.zero_le _
def CO (Y : Yard) : Int :=
  if 5 < Y.cars.length then 6 else
  if Y.cars.all (fun c => decide (CT c = 0)) then
    (if Y.room.length = 0 then 7 else if 3 < Y.room.length then 6 else if Y.room.all (fun n => inB n 0 20) then 0 else 1)
  else 1
theorem checkErr_split (Y : Yard) : AH Y = if CO Y = 0 then DY Y else CO Y := by
  unfold AH CO
  by_cases h1 : 5 < Y.cars.length
  · rw [if_pos h1, if_pos h1, if_neg (by decide)]
  · rw [if_neg h1, if_neg h1]
    cases h2 : Y.cars.all (fun c => decide (CT c = 0)) with
    | false => simp
    | true =>
      simp only [if_true]
      by_cases h3 : Y.room.length = 0
      · rw [if_pos h3, if_pos h3, if_neg (by decide)]
      · rw [if_neg h3, if_neg h3]
        by_cases h4 : 3 < Y.room.length
        · rw [if_pos h4, if_pos h4, if_neg (by decide)]
        · rw [if_neg h4, if_neg h4]
          cases h5 : Y.room.all (fun n => inB n 0 20) <;> simp
section
variable {Y : Yard} {k : Nat}
theorem coachErr_many (h : 5 < Y.cars.length) : CO Y = 6 := by rw [CO, if_pos h]
theorem coachErr_car (h : ¬ 5 < Y.cars.length) (hk : k < Y.cars.length) (hc : CT (Y.cars.getD k AM) ≠ 0) : CO Y = 1 := by
  rw [CO, if_neg h, if_neg];intro hall;have := List.all_eq_true.1 hall _ (AL (d := AM) hk);exact hc (of_decide_eq_true this)
theorem coachErr_few (h : ¬ 5 < Y.cars.length) (hc : ∀ c ∈ Y.cars, CT c = 0) (h0 : Y.room.length = 0) : CO Y = 7 := by rw [CO, if_neg h, if_pos (KB hc), if_pos h0]
theorem coachErr_many2 (h : ¬ 5 < Y.cars.length) (hc : ∀ c ∈ Y.cars, CT c = 0) (h0 : 3 < Y.room.length) : CO Y = 6 := by rw [CO, if_neg h, if_pos (KB hc), if_neg (by omega), if_pos h0]
theorem coachErr_room (h : ¬ 5 < Y.cars.length) (hc : ∀ c ∈ Y.cars, CT c = 0) (h0 : ¬ Y.room.length = 0) (h1 : ¬ 3 < Y.room.length) (hk : k < Y.room.length) (hb : inB (Y.room.getD k 0) 0 20 = false) : CO Y = 1 := by
  rw [CO, if_neg h, if_pos (KB hc), if_neg h0, if_neg h1, if_neg];intro hall;have := List.all_eq_true.1 hall _ (AL (d := 0) hk);rw [hb] at this; cases this
theorem coachErr_ok (h : ¬ 5 < Y.cars.length) (hc : ∀ c ∈ Y.cars, CT c = 0) (h0 : ¬ Y.room.length = 0) (h1 : ¬ 3 < Y.room.length) (hm : ∀ n ∈ Y.room, inB n 0 20 = true) : CO Y = 0 := by
  rw [CO, if_neg h, if_pos (KB hc), if_neg h0, if_neg h1, if_pos (List.all_eq_true.2 hm)]
end
def cntG (cs : List Car) (g : Int) : Nat := (cs.filter fun c => decide (c.grp = g)).length
theorem cntG_succ {cs : List Car} {g : Int} {k : Nat} (hk : k < cs.length) : cntG (cs.take (k + 1)) g = cntG (cs.take k) g + if (cs.getD k AM).grp = g then 1 else 0 := by
  unfold cntG;rw [DE (d := AM) hk, List.filter_append, List.length_append]
  congr 1
  by_cases h : (cs.getD k AM).grp = g
  · rw [List.filter_cons, if_pos (decide_eq_true h), if_pos h]; rfl
  · rw [List.filter_cons, if_neg (by simp only [decide_eq_true_eq]; exact h), if_neg h]; rfl
def rowS (cs : List Car) (g : Int) (s : Nat × Nat) (c : Int) : Nat × Nat :=
  let row := if grp cs c = g then s.1 + 1 else 0
  (row, max s.2 row)
def rowT (cs : List Car) (g : Int) (most : Nat) (t : List Int) : Nat × Nat := t.foldl (rowS cs g) (0, most)
def mostTo (cs : List Car) (g : Int) (ts : List (List Int)) : Nat := ts.foldl (fun most t => (rowT cs g most t).2) 0
def FI (Y : Yard) (g : Int) : Bool := decide ((mostTo Y.cars g Y.tracks : Int) = (cntG Y.cars g : Int))
theorem rowT_succ {cs : List Car} {g : Int} {m : Nat} {t : List Int} {k : Nat} (hk : k < t.length) : rowT cs g m (t.take (k + 1)) = rowS cs g (rowT cs g m (t.take k)) (t.getD k 0) := by
  unfold rowT;rw [DE (d := 0) hk, List.foldl_append]; rfl
theorem mostTo_succ {cs : List Car} {g : Int} {ts : List (List Int)} {k : Nat} (hk : k < ts.length) : mostTo cs g (ts.take (k + 1)) = (rowT cs g (mostTo cs g (ts.take k)) (ts.getD k [])).2 := by
  unfold mostTo;rw [DE (d := []) hk, List.foldl_append]; rfl
theorem rowS_yes {cs : List Car} {g c : Int} {r m : Nat} (h : grp cs c = g) : rowS cs g (r, m) c = (r + 1, max m (r + 1)) := by simp only [rowS, if_pos h]
theorem rowS_no {cs : List Car} {g c : Int} {r m : Nat} (h : grp cs c ≠ g) : rowS cs g (r, m) c = (0, max m 0) := by simp only [rowS, if_neg h]
def refG (Y : Yard) : Int := if FI Y 1 && (FI Y 2 && FI Y 3) then 0 else 12
theorem refG_hit {Y : Yard} {g : Nat} (h1 : 1 ≤ g) (h3 : g ≤ 3) (h : FI Y ↑g = false) : refG Y = 12 := by
  unfold refG;rw [if_neg];intro hh;simp only [Bool.and_eq_true] at hh;have : g = 1 ∨ g = 2 ∨ g = 3 := by omega
  rcases this with rfl | rfl | rfl
  · have h2 := hh.1; rw [show ((1 : Int)) = ((1 : Nat) : Int) from rfl, h] at h2; cases h2
  · have h2 := hh.2.1; rw [show ((2 : Int)) = ((2 : Nat) : Int) from rfl, h] at h2; cases h2
  · have h2 := hh.2.2; rw [show ((3 : Int)) = ((3 : Nat) : Int) from rfl, h] at h2; cases h2
theorem refG_ok {Y : Yard} (h : ∀ g : Nat, 1 ≤ g → g < 4 → FI Y ↑g = true) : refG Y = 0 := by
  unfold refG;rw [if_pos];simp only [Bool.and_eq_true];exact ⟨h 1 (by omega) (by omega), h 2 (by omega) (by omega), h 3 (by omega) (by omega)⟩
def FG (Y : Yard) : Int :=
  if Y.tracks.length = Y.room.length then CL Y.cars (fun met => if met.length < Y.cars.length then 7 else refG Y) Y.tracks Y.room [] else 2
theorem met_snoc {met : List Int} {c : Int} (h : met.Nodup) (hc : ¬ c ∈ met) : (met ++ [c]).Nodup := List.nodup_append.2 ⟨h, by simp, fun a ha b hb => by simp at hb; subst hb; intro e; subst e; exact hc ha⟩
theorem met_in {met : List Int} {c : Int} {n : Nat} (h : ∀ x ∈ met, 0 ≤ x ∧ x < (n : Int)) (hc : 0 ≤ c ∧ c < (n : Int)) : ∀ x ∈ met ++ [c], 0 ≤ x ∧ x < (n : Int) := fun x hx => by
  rcases List.mem_append.1 hx with hx | hx
  · exact h x hx
  · simp at hx; subst hx; exact hc
def PX (Y : Yard) : Int := if CO Y = 0 then FG Y else CO Y
theorem coachErr_zero {Y : Yard} (h : CO Y = 0) : Small Y.cars ∧ Y.cars.length ≤ 5 := by
  unfold CO at h
  split at h
  · cases h
  · rename_i h1
    split at h
    · rename_i h2
      exact ⟨MD fun c hc => of_decide_eq_true (List.all_eq_true.1 h2 c hc), by omega⟩
    · cases h
theorem coupled_at {cs : List Car} {t : List Int} {j : Int} (h0 : 0 < j) (h1 : j ≤ ↑t.length - 1) : BT cs t j = (cmp .gtr ((cs.getD ((t.getD (j.toNat) 0).toNat) AM).grp) 0 && cmp .eql ((cs.getD ((t.getD (j.toNat) 0).toNat) AM).grp) ((cs.getD ((t.getD ((j - 1).toNat) 0).toNat) AM).grp)) := by
  have e : inB j 1 (↑t.length - 1) = true := by simp [inB]; omega
  simp only [BT, FD, cmp_gtr, cmp_eql, e, Bool.true_and];rfl
theorem coupled_zero {cs : List Car} {t : List Int} {j : Int} (h0 : j ≤ 0) : BT cs t j = false := by
  have e : inB j 1 (↑t.length - 1) = false := by simp [inB]; omega
  simp only [BT, e, Bool.false_and]
theorem mayErr_12 {Y : Yard} {s : Shift} {n : Nat} (hn : n = Y.tracks.length) (h : (!(inB s.frm 0 (↑n - 1)) || !(inB s.to 0 (↑n - 1))) = true) : BJ Y s = 3 := by
  cases h1 : inB s.frm 0 (↑n - 1) with
  | false => exact mayErr_1 hn h1
  | true =>
    rw [h1] at h;simp only [Bool.not_true, Bool.false_or] at h;exact mayErr_2 hn h1 (by simpa using h)
end Go.Sh
namespace Go.Proofs.YtcaocbhbofejnaaGreatDoor
open Go Go.Sl Go.Sh
set_option maxRecDepth 100000
noncomputable def c_between (p : List Nat) : Code := sub (AU Tryz.f87) p
theorem ET (I : Imm) (n : Int) (lo : Int) (hi : Int) : CtV Tryz.prog 87 #[vI n, vI lo, vI hi] I (.bool (inB n lo hi)) := by
 refine fr (args := [_, _, _]) (N := 15) Tryz.func87 (fun F => ?_);show Run _ _ (c_between []) _ _ [(0, vI (n)), (1, vI (lo)), (2, vI (hi))] _ _;refine rnm (rqr ?_);refine sp 1 [(6, .bool (false))] (se (rq ?_));refine EZ (fun a w => Slots 15 [(6, .bool ((cmp .leq (lo) (n)) && (cmp .leq (n) (hi))))] a ∧ a.defers = [] ∧ St I (F) w) ?_ ?_
 ·
  refine rr (sp 4 [(10, .bool (cmp .leq (lo) (n)))] ?_);refine BV 10 rfl (fun h1 => ?_) (fun h1 => ?_)
  ·
   have a0 := h1;have a0 := leq_t a0;refine sp 5 [(6, .bool (cmp .leq (n) (hi)))] (ee ?_);refine BD (fun a w hS hD hW => ⟨hS.sub (.consE 6 rfl (congrArg Value.bool (by simp only [h1, kA, kB, kC, kD, kE, kF, kG, kH, kI, kJ])) (.nil _)), hD, hW⟩)
  have a0 := h1;have a0 := leq_f a0;refine sp 5 [(6, .bool (false))] (ee ?_);refine BD (fun a w hS hD hW => ⟨hS.sub (.consE 6 rfl (congrArg Value.bool (by simp only [h1, kA, kB, kC, kD, kE, kF, kG, kH, kI, kJ])) (.nil _)), hD, hW⟩)
 rintro a w ⟨hS, hD, hW⟩
 refine AX hS hD hW ?_;clear hS hD hW a w;refine BP (AD (t := 6) [] (by kernel_rfl) rfl (TR _) (IR _) ?_);exact ⟨by simp [inB, cmp], rfl⟩
noncomputable def c_has (p : List Nat) : Code := sub (AU Tryz.f133) p
theorem has_ct (I : Imm) (a : Value) (xs : List Int) (n : Int) (a_f : AZ I a xs) : CtV Tryz.prog 133 #[a, vI n] I (.bool (decide (n ∈ xs))) := by
 obtain ⟨a0, a1, a6, a9, a5, a7, a8, a4⟩ := id a_f;subst a5;refine fr (args := [_, _]) (N := 18) Tryz.func133 (fun F => ?_);show Run _ _ (c_has []) _ _ [(0, vS a0 xs.length a1), (1, vI (n))] _ _;refine rnm (rqr ?_);refine sp 1 [(4, .bool (false))] (se (rq (rqr (sp 1 [(5, vI (0))] (se (rb 0 ?_))))));refine rl (fun mz a w => ∃ k : Nat, (k ≤ xs.length) ∧ (n ∉ xs.take k) ∧ Slots 18 [(5, vI ↑k), (0, vS a0 xs.length a1), (1, vI (n))] a ∧ a.defers = [] ∧ St I (F) w ∧ mz = xs.length - k) ?_ ?_
 ·intro a w hS hD hW;exact ⟨_, 0, Nat.zero_le _, by simp, hS.sub (.cons 5 rfl (.cons 0 rfl (.cons 1 rfl (.nil _)))), hD, hW, rfl⟩
 rintro mz a w ⟨k, hk, hn, hS, hD, hW, rfl⟩
 refine AX hS hD hW ?_;clear hS hD hW a w;refine rq (rqr (sp 4 [(9, .bool (cmp .lss (↑k) (↑(xs.length))))] (se (rc 9 rfl (fun h1 => ?_) (fun h1 => ?_)))))
 ·
  have a2 := h1;have h1 := BX h1;refine AK (NX (rq (rb 1 (rqr (sp 2 [(13, vI (↑k)), (12, vS a0 xs.length a1)] (sd (di 14 1 (k) a4.addr) (sd (dl 15 (BI a4 (k) (by omega))) (sp 2 [(17, .bool (cmp .eql (xs.getD (k) 0) (n)))] (se (rc 17 rfl (fun h2 => ?_) (fun h2 => ?_)))))))))))
  ·
   have a3 := h2;have h2 := CV h2;refine rqr (sp 1 [(4, .bool (true))] (se (BP ((RB (RP (RP (RB (RP (AD (t := 4) [] (by kernel_rfl) rfl (TR _) (IR _) ?_))))))))));exact ⟨congrArg Value.bool (decide_eq_true (h2 ▸ AL (by omega))).symm, rfl⟩
  have a3 := h2;have h2 := CU h2;refine AK (NB (NX (rr (sp 1 [(10, vI (↑k))] (sd (da 11 (↑k) (1)) (sp 1 [(5, vI (↑k + 1))] (ee ?_)))))));refine AG (xs.length - (k+1)) (by omega) ?_;intro a w hS hD hW;exact ⟨k+1, by omega, MV hn (by omega) (fun e => h2 e), hS.sub (.consE 5 rfl rfl (.cons 0 rfl (.cons 1 rfl (.nil _)))), hD, hW, rfl⟩
 have a2 := h1;have h1 := CB h1;refine CF 0 ((EP (EP (EB (NX (rqr (sp 1 [(4, .bool (false))] (se (BP (AD (t := 4) [] (by kernel_rfl) rfl (TR _) (IR _) ?_))))))))));exact ⟨congrArg Value.bool (decide_eq_false (fun hm => hn (by rw [CX (by omega)]; exact hm))).symm, rfl⟩
noncomputable def c_same (p : List Nat) : Code := sub (AU Tryz.f136) p
theorem same_ct (I : Imm) (a : Value) (xs : List Int) (b : Value) (ys : List Int) (a_f : AZ I a xs) (b_f : AZ I b ys) : CtV Tryz.prog 136 #[a, b] I (.bool (decide (xs = ys))) := by
 obtain ⟨a0, a1, b1, b4, a9, b2, b3, a7⟩ := id a_f;subst a9;obtain ⟨a2, a3, b5, b8, b0, b6, b7, a8⟩ := id b_f;subst b0;refine fr (args := [_, _]) (N := 26) Tryz.func136 (fun F => ?_);show Run _ _ (c_same []) _ _ [(0, vS a0 xs.length a1), (1, vS a2 ys.length a3)] _ _;refine rnm (rqr ?_);refine sp 1 [(4, .bool (false))] (se (rq (rqr (sp 5 [(10, .bool (!(cmp .eql (↑(xs.length)) (↑(ys.length)))))] (se (rc 10 rfl (fun h1 => ?_) (fun h1 => ?_)))))))
 ·
  have a4 := h1;have h1 := CU (CN h1);refine rqr (sp 1 [(4, .bool (false))] (se (BP ((RP (AD (t := 4) [] (by kernel_rfl) rfl (TR _) (IR _) ?_))))));exact ⟨by rw [decide_eq_false (fun e => h1 (by rw [e]))], rfl⟩
 have a4 := h1;have h1 := CV (CE h1);refine AK (NX (rq (rqr (sp 1 [(5, vI (0))] (se (rb 0 ?_))))));refine rl (fun mz a w => ∃ k : Nat, (k ≤ xs.length) ∧ (xs.length = ys.length) ∧ (xs.take k = ys.take k) ∧ Slots 26 [(5, vI ↑k), (0, vS a0 xs.length a1), (1, vS a2 ys.length a3)] a ∧ a.defers = [] ∧ St I (F) w ∧ mz = xs.length - k) ?_ ?_
 ·intro a w hS hD hW;exact ⟨_, 0, Nat.zero_le _, by omega, rfl, hS.sub (.cons 5 rfl (.cons 0 rfl (.cons 1 rfl (.nil _)))), hD, hW, rfl⟩
 rintro mz a w ⟨k, hk, hl, ht, hS, hD, hW, rfl⟩
 refine AX hS hD hW ?_;clear hS hD hW a w;refine rq (rqr (sp 4 [(14, .bool (cmp .lss (↑k) (↑(xs.length))))] (se (rc 14 rfl (fun h2 => ?_) (fun h2 => ?_)))))
 ·
  have a5 := h2;have h2 := BX h2;refine AK (NX (rq (rb 1 (rq ?_))));refine rd0 8 (ox 2 [(18, vI (↑k)), (17, vS a0 xs.length a1)] ?_);refine AB (di 19 1 (k) a7.addr) ?_;refine AB (dl 20 (BI a7 (k) (by omega))) (ox 2 [(22, vI (↑k)), (21, vS a2 ys.length a3)] ?_);refine AB (di 23 1 (k) a8.addr) ?_;refine AB (dl 24 (BI a8 (k) (by omega))) ?_;refine BC (sp 1 [(25, .bool (!(cmp .eql (xs.getD (k) 0) (ys.getD (k) 0))))] (se (rc 25 rfl (fun h3 => ?_) (fun h3 => ?_))))
  ·
   have a6 := h3;have h3 := CU (CN h3);refine rqr (sp 1 [(4, .bool (false))] (se (BP ((RB (RP (RP (RB (RP (AD (t := 4) [] (by kernel_rfl) rfl (TR _) (IR _) ?_))))))))));exact ⟨by rw [decide_eq_false (getD_ne hl h3)], rfl⟩
  have a6 := h3;have h3 := CV (CE h3);refine AK (NB (NX (rr (sp 1 [(15, vI (↑k))] (sd (da 16 (↑k) (1)) (sp 1 [(5, vI (↑k + 1))] (ee ?_)))))));refine AG (xs.length - (k+1)) (by omega) ?_;intro a w hS hD hW;exact ⟨k+1, by omega, hl, JB (d := 0) hl ht (by omega) h3, hS.sub (.consE 5 rfl rfl (.cons 0 rfl (.cons 1 rfl (.nil _)))), hD, hW, rfl⟩
 have a5 := h2;have h2 := CB h2;refine CF 0 ((EP (EP (EB (NX (rqr (sp 1 [(4, .bool (true))] (se (BP (AD (t := 4) [] (by kernel_rfl) rfl (TR _) (IR _) ?_))))))))));exact ⟨by rw [decide_eq_true (LH hl ht (by omega))], rfl⟩
noncomputable def c_length (p : List Nat) : Code := sub (AU Tryz.f114) p
theorem KH (I : Imm) (y : Value) (Y : Yard) (b : Value) (t : List Int) (y_f : IsYard I y Y) (b_f : AZ I b t) (ho : Ok Y.cars t) (hs : Small Y.cars) : CtV Tryz.prog 114 #[y, b] I (vI (lenOf Y.cars t)) := by
 obtain ⟨y1, y2, y3, d5, b3, b6, b8⟩ := id y_f;subst d5;obtain ⟨a0, a1, b0, b4, b2, c2, c3, a6⟩ := id b3;subst b2;obtain ⟨a2, a3, c4, c7, b5, c5, c6, c8⟩ := id b6;subst b5;obtain ⟨a4, a5, c9, d2, c0, b7, d0, d1, d3, d4⟩ := id b8;subst b7;obtain ⟨a7, a8, d6, d9, c1, d7, d8, b9⟩ := id b_f;subst c1;refine fr (args := [_, _]) (N := 25) Tryz.func114 (fun F => ?_);show Run _ _ (c_length []) _ _ [(0, .agg #[vS a0 Y.cars.length a1, vS a2 Y.room.length a3, vS a4 Y.tracks.length a5]), (1, vS a7 t.length a8)] _ _;refine rnm (rqr ?_);refine sS (sb 2 26 #[vS a0 Y.cars.length a1, vS a2 Y.room.length a3, vS a4 Y.tracks.length a5] (fun b1 => (sp 1 [(4, vI (0))] (sn (sp 1 [(5, vI (0))] (se (rq (rqr (sp 1 [(6, vI (0))] (se (rb 0 ?_)))))))))));refine rl (fun mz a w => ∃ k : Nat, (k ≤ t.length) ∧ Slots 25 [(5, vI (lenOf Y.cars (t.take k))), (6, vI ↑k), (1, vS a7 t.length a8), (2, vP b1 0), (4, vI (0))] a ∧ a.defers = [] ∧ St I ((bX b1 #[vS a0 Y.cars.length a1, vS a2 Y.room.length a3, vS a4 Y.tracks.length a5] 26) :: F) w ∧ mz = t.length - k) ?_ ?_
 ·intro a w hS hD hW;exact ⟨_, 0, Nat.zero_le _, hS.sub (.cons 5 rfl (.cons 6 rfl (.cons 1 rfl (.cons 2 rfl (.cons 4 rfl (.nil _)))))), hD, hW, rfl⟩
 rintro mz a w ⟨k, hk, hS, hD, hW, rfl⟩
 refine AX hS hD hW ?_;clear hS hD hW a w;refine rq (rqr (sp 4 [(10, .bool (cmp .lss (↑k) (↑(t.length))))] (se (rc 10 rfl (fun h1 => ?_) (fun h1 => ?_)))))
 ·
  have a9 := h1;have h1 := BX h1;refine AK (NX (rq (rb 1 ?_)));refine rd0 10 (ox 2 [(14, vP b1 0), (13, vI (lenOf Y.cars (t.take k)))] ?_);refine AB (dlb 15 0 0 b1 (vS a0 Y.cars.length a1)) (ox 2 [(17, vI (↑k)), (16, vS a7 t.length a8)] ?_);refine AB (di 18 1 (k) b9.addr) ?_;refine AB (dl 19 (BI b9 (k) (by omega))) ?_;have hc := ho.at k (by omega);refine AB (diI 20 6 (t.getD (k) 0) a6.addr) (ox 1 [(21, .pointer (some ⟨b0, b4 + ((t.getD (k) 0 : Int).toNat) * 6, none⟩))] ?_);refine AB (dl 22 (FA a6 ((t.getD (k) 0 : Int).toNat) (by omega) 0 (by decide) (v := vI ((Y.cars.getD ((t.getD (k) 0 : Int).toNat) AM).len)) rfl)) ?_;refine BC (sd (da 23 (lenOf Y.cars (t.take k)) ((Y.cars.getD ((t.getD (k) 0 : Int).toNat) AM).len) (hr := by have h1 := DU hs (t.take k); have h2 := hs.at (t.getD k 0); simp only [FD, LK] at h1 h2; omega)) (sp 1 [(5, vI ((lenOf Y.cars (t.take k)) + ((Y.cars.getD ((t.getD (k) 0 : Int).toNat) AM).len)))] (ee (NB (NX (rr (sp 1 [(11, vI (↑k))] (sd (da 12 (↑k) (1)) (sp 1 [(6, vI (↑k + 1))] (ee ?_))))))))));refine AG (t.length - (k+1)) (by omega) ?_;intro a w hS hD hW;exact ⟨k+1, by omega, hS.sub (.consE 5 rfl (congrArg (Value.int .i64) (NT (by omega)).symm) (.consE 6 rfl rfl (.cons 1 rfl (.cons 2 rfl (.cons 4 rfl (.nil _)))))), hD, hW, rfl⟩
 have a9 := h1;have h1 := CB h1;refine CF 0 ((EP (EP (EB (NX (rqr (sp 2 [(4, vI (lenOf Y.cars (t.take k)))] (se (BP (AD (t := 4) [] (by kernel_rfl) rfl (TC _ (TR _)) (IR _) ?_))))))))));exact ⟨by rw [CX (by omega)], rfl⟩
noncomputable def c_checkCoaches (p : List Nat) : Code := sub (AU Tryz.f98) p
theorem checkCoaches_ct (I : Imm) (y : Value) (Y : Yard) (y_f : IsYard I y Y) : CtV Tryz.prog 98 #[y] I (vI (CO Y)) := by
 obtain ⟨y1, y2, y3, f8, d7, d9, e1⟩ := id y_f;subst f8;obtain ⟨a4, a5, e4, e7, d6, e5, e6, c6⟩ := id d7;subst d6;obtain ⟨a2, a3, e8, f1, d8, e9, f0, c7⟩ := id d9;subst d8;obtain ⟨b2, b4, f2, f5, e3, e0, f3, f4, f6, f7⟩ := id e1;subst e0;refine fr (args := [_]) (N := 68) Tryz.func98 (fun F => ?_);show Run _ _ (c_checkCoaches []) _ _ [(0, .agg #[vS a4 Y.cars.length a5, vS a2 Y.room.length a3, vS b2 Y.tracks.length b4])] _ _;refine rnm (rqr ?_);refine sS (sb 1 26 #[vS a4 Y.cars.length a5, vS a2 Y.room.length a3, vS b2 Y.tracks.length b4] (fun b1 => (sp 1 [(2, vI (0))] (se (rq (rqr (sp 1 [(6, vP b1 0)] (sd (dlb 7 0 0 b1 (vS a4 Y.cars.length a5)) (sp 2 [(9, .bool (cmp .gtr (↑(Y.cars.length)) (5)))] (se (rc 9 rfl (fun h1 => ?_) (fun h1 => ?_))))))))))))
 ·
  have c8 := h1;have h1 := FL h1;refine rqr (sp 1 [(2, vI (6))] (se (BP ((RP (AD (t := 2) [] (by kernel_rfl) rfl (TC _ (TR _)) (IR _) ?_))))));exact ⟨congrArg (Value.int .i64) ((coachErr_many (by omega)).symm), rfl⟩
 have c8 := h1;have h1 := FT h1;refine AK (NX (rq (rqr (sp 1 [(3, vI (0))] (se (rb 0 ?_))))));refine rl (fun mz a w => ∃ k : Nat, (k ≤ Y.cars.length) ∧ (∀ c ∈ Y.cars.take k, CT c = 0) ∧ Slots 68 [(3, vI ↑k), (1, vP b1 0)] a ∧ a.defers = [] ∧ St I ((bX b1 #[vS a4 Y.cars.length a5, vS a2 Y.room.length a3, vS b2 Y.tracks.length b4] 26) :: F) w ∧ mz = Y.cars.length - k) ?_ ?_
 ·intro a w hS hD hW;exact ⟨_, 0, Nat.zero_le _, (fun c h => by simp at h), hS.sub (.cons 3 rfl (.cons 1 rfl (.nil _))), hD, hW, rfl⟩
 rintro mz a w ⟨k, hk, hc, hS, hD, hW, rfl⟩
 refine AX hS hD hW ?_;clear hS hD hW a w;refine rq (rqr (sp 2 [(11, vP b1 0), (10, vI (↑k))] (sd (dlb 12 0 0 b1 (vS a4 Y.cars.length a5)) (sp 2 [(14, .bool (cmp .lss (↑k) (↑(Y.cars.length))))] (se (rc 14 rfl (fun h2 => ?_) (fun h2 => ?_)))))))
 ·
  have c9 := h2;have h2 := BX h2;refine AK (NX (rq (rb 1 (rqr (sp 1 [(17, vP b1 0)] (sd (dlb 18 0 0 b1 (vS a4 Y.cars.length a5)) (sp 1 [(19, vI (↑k))] (sd (di 20 6 (k) c6.addr) (sd (CP (x := (.tmp 20)) (T := 56) (n := 6) (vs := [vI ((Y.cars.getD (k) AM).len), vI ((Y.cars.getD (k) AM).wt), vI ((Y.cars.getD (k) AM).brk), vI ((Y.cars.getD (k) AM).grp), .bool ((Y.cars.getD (k) AM).pipe), .bool ((Y.cars.getD (k) AM).heat)]) (d := 21) (ty := 56) (gd := none) (by kernel_rfl) rfl (by kernel_rfl) (by kernel_rfl) rfl rfl (MI c6 (k) (by omega))) (sS (sal 4 56 #[vI (0), vI (0), vI (0), vI (0), .bool (false), .bool (false)] (fun b3 => (sS (ss 0 0 b3 [vI ((Y.cars.getD (k) AM).len), vI ((Y.cars.getD (k) AM).wt), vI ((Y.cars.getD (k) AM).brk), vI ((Y.cars.getD (k) AM).grp), .bool ((Y.cars.getD (k) AM).pipe), .bool ((Y.cars.getD (k) AM).heat)] [vI ((Y.cars.getD (k) AM).len), vI ((Y.cars.getD (k) AM).wt), vI ((Y.cars.getD (k) AM).brk), vI ((Y.cars.getD (k) AM).grp), .bool ((Y.cars.getD (k) AM).pipe), .bool ((Y.cars.getD (k) AM).heat)] (_ :: _ :: _) (cs := [_, _, _, _, _, _]) rfl rfl (se (rq ?_))))))))))))))));refine EZ (fun a w => Slots 68 [(1, vP b1 0), (3, vI (↑k)), (45, .bool ((!(inB ((Y.cars.getD (k) AM).len) 1 4)) || ((!(inB ((Y.cars.getD (k) AM).wt) 1 60)) || ((!(inB ((Y.cars.getD (k) AM).brk) 0 ((Y.cars.getD (k) AM).wt))) || (!(inB ((Y.cars.getD (k) AM).grp) 0 3))))))] a ∧ a.defers = [] ∧ St I ((bX b3 #[vI ((Y.cars.getD (k) AM).len), vI ((Y.cars.getD (k) AM).wt), vI ((Y.cars.getD (k) AM).brk), vI ((Y.cars.getD (k) AM).grp), .bool ((Y.cars.getD (k) AM).pipe), .bool ((Y.cars.getD (k) AM).heat)] 56) :: (bX b1 #[vS a4 Y.cars.length a5, vS a2 Y.room.length a3, vS b2 Y.tracks.length b4] 26) :: F) w) ?_ ?_
  ·
   refine rr (sp 1 [(22, vP b3 0)] (sd (dlb 23 0 0 b3 (vI ((Y.cars.getD (k) AM).len))) (sd (dc 24 (fun I' hI => (ET I' ((Y.cars.getD (k) AM).len) (1) (4) :))) (sp 2 [(26, .bool (!(inB ((Y.cars.getD (k) AM).len) 1 4)))] ?_))));refine BV 26 rfl (fun h3 => ?_) (fun h3 => ?_)
   ·
    have a6 := h3;have a6 := CN a6;have b5 := IK a6;refine sp 19 [(45, .bool (true))] (ee ?_);refine BD (fun a w hS hD hW => ⟨hS.sub (.cons 1 rfl (.cons 3 rfl (.consE 45 rfl (congrArg Value.bool (by simp only [h3, kA, kB, kC, kD, kE, kF, kG, kH, kI, kJ])) (.nil _)))), hD, hW⟩)
   have a6 := h3;have a6 := CE a6;have b5 := DT a6;refine sp 1 [(27, vP b3 1)] (sd (dlb 28 0 1 b3 (vI ((Y.cars.getD (k) AM).wt))) (sd (dc 29 (fun I' hI => (ET I' ((Y.cars.getD (k) AM).wt) (1) (60) :))) (sp 3 [(32, .bool (!(inB ((Y.cars.getD (k) AM).wt) 1 60)))] ?_)));refine BV 32 rfl (fun h4 => ?_) (fun h4 => ?_)
   ·
    have a7 := h4;have a7 := CN a7;have b6 := IK a7;refine sp 13 [(45, .bool (true))] (ee ?_);refine BD (fun a w hS hD hW => ⟨hS.sub (.cons 1 rfl (.cons 3 rfl (.consE 45 rfl (congrArg Value.bool (by simp only [h3, h4, kA, kB, kC, kD, kE, kF, kG, kH, kI, kJ])) (.nil _)))), hD, hW⟩)
   have a7 := h4;have a7 := CE a7;have b6 := DT a7;refine sp 1 [(33, vP b3 2)] (sd (dlb 34 0 2 b3 (vI ((Y.cars.getD (k) AM).brk))) (sp 1 [(35, vP b3 1)] (sd (dlb 36 0 1 b3 (vI ((Y.cars.getD (k) AM).wt))) (sd (dc 37 (fun I' hI => (ET I' ((Y.cars.getD (k) AM).brk) (0) ((Y.cars.getD (k) AM).wt) :))) (sp 3 [(40, .bool (!(inB ((Y.cars.getD (k) AM).brk) 0 ((Y.cars.getD (k) AM).wt))))] ?_)))));refine BV 40 rfl (fun h5 => ?_) (fun h5 => ?_)
   ·
    have a8 := h5;have a8 := CN a8;have b7 := IK a8;refine sp 5 [(45, .bool (true))] (ee ?_);refine BD (fun a w hS hD hW => ⟨hS.sub (.cons 1 rfl (.cons 3 rfl (.consE 45 rfl (congrArg Value.bool (by simp only [h3, h4, h5, kA, kB, kC, kD, kE, kF, kG, kH, kI, kJ])) (.nil _)))), hD, hW⟩)
   have a8 := h5;have a8 := CE a8;have b7 := DT a8;refine sp 1 [(41, vP b3 3)] (sd (dlb 42 0 3 b3 (vI ((Y.cars.getD (k) AM).grp))) (sd (dc 43 (fun I' hI => (ET I' ((Y.cars.getD (k) AM).grp) (0) (3) :))) (sp 2 [(45, .bool (!(inB ((Y.cars.getD (k) AM).grp) 0 3)))] (ee ?_))));refine BD (fun a w hS hD hW => ⟨hS.sub (.cons 1 rfl (.cons 3 rfl (.consE 45 rfl (congrArg Value.bool (by simp only [h3, h4, h5, kA, kB, kC, kD, kE, kF, kG, kH, kI, kJ])) (.nil _)))), hD, hW⟩)
  rintro a w ⟨hS, hD, hW⟩
  refine AX hS hD hW ?_;clear hS hD hW a w;refine rc 45 rfl (fun h6 => ?_) (fun h6 => ?_)
  ·
   have c2 := h6;have d5 : CT (Y.cars.getD (k) AM) ≠ 0 := by rw [CT, nand4, c2]; decide
   refine rqr (sp 1 [(2, vI (1))] (se (BP ((RB (RP (RP (RB (RP (AD (t := 2) [] (by kernel_rfl) rfl (TC _ (TC _ (TR _))) (IR _) ?_))))))))));exact ⟨congrArg (Value.int .i64) ((coachErr_car (by omega) (by omega) d5).symm), rfl⟩
  have c2 := h6;obtain ⟨b8, d1⟩ := or_f h6;have b8 := CE b8;have d0 := DT b8;obtain ⟨a9, b9⟩ := or_f d1;have a9 := CE a9;have c5 := DT a9;obtain ⟨a0, a1⟩ := or_f b9;have a0 := CE a0;have c0 := DT a0;have a1 := CE a1;have c1 := DT a1;have d5 : CT (Y.cars.getD (k) AM) = 0 := by rw [CT, nand4, c2]; rfl
  refine AK (NB (NX (rr (sp 1 [(15, vI (↑k))] (sd (da 16 (↑k) (1)) (sp 1 [(3, vI (↑k + 1))] (ee ?_)))))));refine AG (Y.cars.length - (k+1)) (by omega) ?_;intro a w hS hD hW;exact ⟨k+1, by omega, MG hc (by omega) d5, hS.sub (.consE 3 rfl rfl (.cons 1 rfl (.nil _))), hD, (hW.perm (PR _)).sub (TC _ (TR _)), rfl⟩
 have c9 := h2;have h2 := CB h2;refine CF 0 ((EP (EP (EB (NX (rq (rqr (sp 1 [(46, vP b1 1)] (sd (dlb 47 0 1 b1 (vS a2 Y.room.length a3)) (sp 2 [(49, .bool (cmp .eql (↑(Y.room.length)) (0)))] (se (rc 49 rfl (fun h7 => ?_) (fun h7 => ?_)))))))))))))
 ·
  have d2 := h7;have h7 := CV h7;refine rqr (sp 1 [(2, vI (7))] (se (BP ((RP (AD (t := 2) [] (by kernel_rfl) rfl (TC _ (TR _)) (IR _) ?_))))));exact ⟨congrArg (Value.int .i64) ((coachErr_few (by omega) (GH hc (by omega)) (by omega)).symm), rfl⟩
 have d2 := h7;have h7 := CU h7;refine AK (NX (rq (rqr (sp 1 [(50, vP b1 1)] (sd (dlb 51 0 1 b1 (vS a2 Y.room.length a3)) (sp 2 [(53, .bool (cmp .gtr (↑(Y.room.length)) (3)))] (se (rc 53 rfl (fun h8 => ?_) (fun h8 => ?_)))))))))
 ·
  have d3 := h8;have h8 := FL h8;refine rqr (sp 1 [(2, vI (6))] (se (BP ((RP (AD (t := 2) [] (by kernel_rfl) rfl (TC _ (TR _)) (IR _) ?_))))));exact ⟨congrArg (Value.int .i64) ((coachErr_many2 (by omega) (GH hc (by omega)) (by omega)).symm), rfl⟩
 have d3 := h8;have h8 := FT h8;refine AK (NX (rq (rqr (sp 1 [(5, vI (0))] (se (rb 2 ?_))))));refine rl (fun mz a w => ∃ m : Nat, (m ≤ Y.room.length) ∧ (∀ c ∈ Y.room.take m, inB c 0 20 = true) ∧ Slots 68 [(5, vI ↑m), (1, vP b1 0)] a ∧ a.defers = [] ∧ St I ((bX b1 #[vS a4 Y.cars.length a5, vS a2 Y.room.length a3, vS b2 Y.tracks.length b4] 26) :: F) w ∧ mz = Y.room.length - m) ?_ ?_
 ·intro a w hS hD hW;exact ⟨_, 0, Nat.zero_le _, (fun x h => by simp at h), hS.sub (.cons 5 rfl (.cons 1 rfl (.nil _))), hD, hW, rfl⟩
 rintro mz a w ⟨m, hm, e2, hS, hD, hW, rfl⟩
 refine AX hS hD hW ?_;clear hS hD hW a w;refine rq (rqr (sp 2 [(55, vP b1 1), (54, vI (↑m))] (sd (dlb 56 0 1 b1 (vS a2 Y.room.length a3)) (sp 2 [(58, .bool (cmp .lss (↑m) (↑(Y.room.length))))] (se (rc 58 rfl (fun h9 => ?_) (fun h9 => ?_)))))))
 ·
  have d4 := h9;have h9 := BX h9;refine AK (NX (rq (rb 3 (rqr (sp 1 [(61, vP b1 1)] (sd (dlb 62 0 1 b1 (vS a2 Y.room.length a3)) (sp 1 [(63, vI (↑m))] (sd (di 64 1 (m) c7.addr) (sd (dl 65 (BI c7 (m) (by omega))) (sd (dc 66 (fun I' hI => (ET I' (Y.room.getD (m) 0) (0) (20) :))) (sp 1 [(67, .bool (!(inB (Y.room.getD (m) 0) 0 20)))] (se (rc 67 rfl (fun b0 => ?_) (fun b0 => ?_))))))))))))))
  ·
   have c4 := b0;have b0 := CN b0;have c3 := IK b0;refine rqr (sp 1 [(2, vI (1))] (se (BP ((RB (RP (RP (RB (RP (AD (t := 2) [] (by kernel_rfl) rfl (TC _ (TR _)) (IR _) ?_))))))))));exact ⟨congrArg (Value.int .i64) ((coachErr_room (by omega) (GH hc (by omega)) (by omega) (by omega) (by omega) b0).symm), rfl⟩
  have c4 := b0;have b0 := CE b0;have c3 := DT b0;refine AK (NB (NX (rr (sp 1 [(59, vI (↑m))] (sd (da 60 (↑m) (1)) (sp 1 [(5, vI (↑m + 1))] (ee ?_)))))));refine AG (Y.room.length - (m+1)) (by omega) ?_;intro a w hS hD hW;exact ⟨m+1, by omega, MG (d := 0) e2 (by omega) b0, hS.sub (.consE 5 rfl rfl (.cons 1 rfl (.nil _))), hD, hW, rfl⟩
 have d4 := h9;have h9 := CB h9;refine CF 2 ((EP (EP (EB (NX (rqr (sp 1 [(2, vI (0))] (se (BP (AD (t := 2) [] (by kernel_rfl) rfl (TC _ (TR _)) (IR _) ?_))))))))));exact ⟨congrArg (Value.int .i64) ((coachErr_ok (by omega) (GH hc (by omega)) (by omega) (by omega) (GH e2 (by omega))).symm), rfl⟩
noncomputable def c_together (p : List Nat) : Code := sub (AU Tryz.f139) p
theorem together_ct (I : Imm) (y : Value) (Y : Yard) (g : Int) (y_f : IsYard I y Y) (ho : OkAll Y.cars Y.tracks) : CtV Tryz.prog 139 #[y, vI g] I (.bool (FI Y g)) := by
 obtain ⟨y1, y2, y3, f7, c4, c6, c8⟩ := id y_f;subst f7;obtain ⟨a0, a1, b5, b6, c3, e6, e7, a7⟩ := id c4;subst c3;obtain ⟨a4, a5, e8, f1, c5, e9, f0, f2⟩ := id c6;subst c5;obtain ⟨a2, a3, f3, f6, d0, c7, f4, f5, a8, b7⟩ := id c8;subst c7;refine fr (args := [_, _]) (N := 68) Tryz.func139 (fun F => ?_);show Run _ _ (c_together []) _ _ [(0, .agg #[vS a0 Y.cars.length a1, vS a4 Y.room.length a5, vS a2 Y.tracks.length a3]), (1, vI (g))] _ _;refine rnm (rqr ?_);refine sS (sb 2 26 #[vS a0 Y.cars.length a1, vS a4 Y.room.length a5, vS a2 Y.tracks.length a3] (fun b1 => (sp 1 [(4, .bool (false))] (sn (sp 2 [(6, vI (0)), (5, vI (0))] (se (rq (rqr (sp 1 [(7, vI (0))] (se (rb 0 ?_)))))))))));refine rl (fun mz a w => ∃ k : Nat, ∃ al : Nat, (k ≤ Y.cars.length) ∧ (al = cntG (Y.cars.take k) g) ∧ (al ≤ k) ∧ Slots 68 [(5, vI ↑al), (7, vI ↑k), (1, vI (g)), (2, vP b1 0), (4, .bool (false)), (6, vI (0))] a ∧ a.defers = [] ∧ St I ((bX b1 #[vS a0 Y.cars.length a1, vS a4 Y.room.length a5, vS a2 Y.tracks.length a3] 26) :: F) w ∧ mz = Y.cars.length - k) ?_ ?_
 ·intro a w hS hD hW;exact ⟨_, 0, 0, Nat.zero_le _, rfl, Nat.le_refl _, hS.sub (.cons 5 rfl (.cons 7 rfl (.cons 1 rfl (.cons 2 rfl (.cons 4 rfl (.cons 6 rfl (.nil _))))))), hD, hW, rfl⟩
 rintro mz a w ⟨k, al, hk, ha, f8, hS, hD, hW, rfl⟩
 refine AX hS hD hW ?_;clear hS hD hW a w;refine rq (rqr (sp 2 [(12, vP b1 0), (11, vI (↑k))] (sd (dlb 13 0 0 b1 (vS a0 Y.cars.length a1)) (sp 2 [(15, .bool (cmp .lss (↑k) (↑(Y.cars.length))))] (se (rc 15 rfl (fun h1 => ?_) (fun h1 => ?_)))))))
 ·
  have b8 := h1;have h1 := BX h1;refine AK (NX (rq (rb 1 (rqr (sp 1 [(18, vP b1 0)] (sd (dlb 19 0 0 b1 (vS a0 Y.cars.length a1)) (sp 1 [(20, vI (↑k))] (sd (di 21 6 (k) a7.addr) (sp 1 [(22, .pointer (some ⟨b5, b6 + k * 6 + 3, none⟩))] (sd (dl 23 (FA a7 (k) (by omega) 3 (by decide) (v := vI ((Y.cars.getD (k) AM).grp)) rfl)) (sp 2 [(25, .bool (cmp .eql ((Y.cars.getD (k) AM).grp) (g)))] (se (rc 25 rfl (fun h2 => ?_) (fun h2 => ?_))))))))))))))
  ·
   have b9 := h2;have h2 := CV h2;refine rr (sp 1 [(26, vI (↑al))] (sd (da 27 (↑al) (1)) (sp 1 [(5, vI (↑al + 1))] (ee (NB (NX (rr (sp 1 [(16, vI (↑k))] (sd (da 17 (↑k) (1)) (sp 1 [(7, vI (↑k + 1))] (ee ?_)))))))))));refine AG (Y.cars.length - (k+1)) (by omega) ?_;intro a w hS hD hW;exact ⟨k+1, al+1, by omega, (by rw [cntG_succ (by omega), if_pos h2, ← ha]), by omega, hS.sub (.consE 5 rfl rfl (.consE 7 rfl rfl (.cons 1 rfl (.cons 2 rfl (.cons 4 rfl (.cons 6 rfl (.nil _))))))), hD, hW, rfl⟩
  have b9 := h2;have h2 := CU h2;refine AK (NB (NX (rr (sp 1 [(16, vI (↑k))] (sd (da 17 (↑k) (1)) (sp 1 [(7, vI (↑k + 1))] (ee ?_)))))));refine AG (Y.cars.length - (k+1)) (by omega) ?_;intro a w hS hD hW;exact ⟨k+1, al, by omega, (by rw [cntG_succ (by omega), if_neg h2, ← ha]; rfl), by omega, hS.sub (.consE 5 rfl rfl (.consE 7 rfl rfl (.cons 1 rfl (.cons 2 rfl (.cons 4 rfl (.cons 6 rfl (.nil _))))))), hD, hW, rfl⟩
 have b8 := h1;have h1 := CB h1;refine CF 0 ((EP (EP (EB (NX (rq (rqr (sp 1 [(8, vI (0))] (se (rb 2 ?_))))))))));refine rl (fun mz a w => ∃ i : Nat, ∃ m : Nat, (i ≤ Y.tracks.length) ∧ (m = mostTo Y.cars g (Y.tracks.take i)) ∧ (m ≤ 140737488355328) ∧ Slots 68 [(6, vI ↑m), (8, vI ↑i), (1, vI (g)), (2, vP b1 0), (4, .bool (false)), (5, vI (↑al))] a ∧ a.defers = [] ∧ St I ((bX b1 #[vS a0 Y.cars.length a1, vS a4 Y.room.length a5, vS a2 Y.tracks.length a3] 26) :: F) w ∧ mz = Y.tracks.length - i) ?_ ?_
 ·intro a w hS hD hW;exact ⟨_, 0, 0, Nat.zero_le _, rfl, Nat.zero_le _, hS.sub (.cons 6 rfl (.cons 8 rfl (.cons 1 rfl (.cons 2 rfl (.cons 4 rfl (.cons 5 rfl (.nil _))))))), hD, hW, rfl⟩
 rintro mz a w ⟨i, m, hi, c9, d1, hS, hD, hW, rfl⟩
 refine AX hS hD hW ?_;clear hS hD hW a w;refine rq (rqr (sp 2 [(29, vP b1 2), (28, vI (↑i))] (sd (dlb 30 0 2 b1 (vS a2 Y.tracks.length a3)) (sp 2 [(32, .bool (cmp .lss (↑i) (↑(Y.tracks.length))))] (se (rc 32 rfl (fun h3 => ?_) (fun h3 => ?_)))))))
 ·
  have c0 := h3;have h3 := BX h3;refine AK (NX (rq (rb 3 (rqr (sp 1 [(9, vI (0))] (sn (sp 1 [(10, vI (0))] (se (rb 4 ?_)))))))));refine rl (fun mz a w => ∃ j : Nat, ∃ r : Nat, ∃ m2 : Nat, (j ≤ (Y.tracks.getD (i) []).length) ∧ (rowT Y.cars g m ((Y.tracks.getD (i) []).take j) = (r, m2)) ∧ (r ≤ j) ∧ (m2 ≤ 140737488355328) ∧ Slots 68 [(6, vI ↑m2), (9, vI ↑r), (10, vI ↑j), (1, vI (g)), (2, vP b1 0), (4, .bool (false)), (5, vI (↑al)), (8, vI (↑i))] a ∧ a.defers = [] ∧ St I ((bX b1 #[vS a0 Y.cars.length a1, vS a4 Y.room.length a5, vS a2 Y.tracks.length a3] 26) :: F) w ∧ mz = (Y.tracks.getD (i) []).length - j) ?_ ?_
  ·intro a w hS hD hW;exact ⟨_, 0, 0, m, Nat.zero_le _, rfl, Nat.le_refl _, d1, hS.sub (.cons 6 rfl (.cons 9 rfl (.cons 10 rfl (.cons 1 rfl (.cons 2 rfl (.cons 4 rfl (.cons 5 rfl (.cons 8 rfl (.nil _))))))))), hD, hW, rfl⟩
  rintro mz a w ⟨j, r, m2, hj, a6, f9, d2, hS, hD, hW, rfl⟩
  refine AX hS hD hW ?_;clear hS hD hW a w;refine rq (rqr (sp 2 [(36, vP b1 2), (35, vI (↑j))] (sd (dlb 37 0 2 b1 (vS a2 Y.tracks.length a3)) (sp 1 [(38, vI (↑i))] (sd (di 39 1 (i) a8.addr) ?_)))));have b0 := b7 (i) (by omega);obtain ⟨d3, d5, d4, d8, a9, d6, d7, d9⟩ := id b0;rw [a9] at b0;refine sd (BB (dl 40 (BR a8 (i) (by omega))) a9) (sp 2 [(42, .bool (cmp .lss (↑j) (↑((Y.tracks.getD (i) []).length))))] (se (rc 42 rfl (fun h4 => ?_) (fun h4 => ?_))))
  ·
   have c1 := h4;have h4 := BX h4;refine AK (NX (rq (rb 5 (rq (rq ?_)))));refine rd0 14 (ox 1 [(45, vP b1 0)] ?_);refine AB (dlb 46 0 0 b1 (vS a0 Y.cars.length a1)) (ox 1 [(47, vP b1 2)] ?_);refine AB (dlb 48 0 2 b1 (vS a2 Y.tracks.length a3)) (ox 1 [(49, vI (↑i))] ?_);refine AB (di 50 1 (i) a8.addr) ?_;have b3 := b7 (i) (by omega);obtain ⟨e0, e2, e1, e5, b2, e3, e4, b4⟩ := id b3;rw [b2] at b3;refine AB (BB (dl 51 (BR a8 (i) (by omega))) b2) (ox 1 [(52, vI (↑j))] ?_);refine AB (di 53 1 (j) b4.addr) ?_;refine AB (dl 54 (BI b4 (j) (by omega))) ?_;have hc := (ho.at i (by omega)).at j (by omega);refine AB (diI 55 6 ((Y.tracks.getD (i) []).getD (j) 0) a7.addr) (ox 1 [(56, .pointer (some ⟨b5, b6 + (((Y.tracks.getD (i) []).getD (j) 0 : Int).toNat) * 6 + 3, none⟩))] ?_);refine AB (dl 57 (FA a7 (((Y.tracks.getD (i) []).getD (j) 0 : Int).toNat) (by omega) 3 (by decide) (v := vI ((Y.cars.getD (((Y.tracks.getD (i) []).getD (j) 0 : Int).toNat) AM).grp)) rfl)) (ox 1 [(58, vI (g))] ?_);refine BC (sp 1 [(59, .bool (cmp .eql ((Y.cars.getD (((Y.tracks.getD (i) []).getD (j) 0 : Int).toNat) AM).grp) (g)))] (se (rc 59 rfl (fun h5 => ?_) (fun h5 => ?_))))
   ·
    have c2 := h5;have h5 := CV h5;refine rr (sp 1 [(60, vI (↑r))] (sd (da 61 (↑r) (1)) (sp 1 [(9, vI (↑r + 1))] (se (rr (sp 3 [(64, vI ((if (↑m2 : Int) < (↑r + 1 : Int) then ↑r + 1 else ↑m2)))] (EO 64 rfl (show (vI ((if (↑m2 : Int) < (↑r + 1 : Int) then ↑r + 1 else ↑m2)) : Value) = vI (↑(max m2 (r + 1))) from congrArg (Value.int .i64) (by split <;> omega)) (sp 1 [(6, vI (↑(max m2 (r + 1))))] (ee (NB (NX (rr (sp 1 [(43, vI (↑j))] (sd (da 44 (↑j) (1)) (sp 1 [(10, vI (↑j + 1))] (ee ?_))))))))))))))));refine AG ((Y.tracks.getD (i) []).length - (j+1)) (by omega) ?_;intro a w hS hD hW;exact ⟨j+1, r + 1, max m2 (r + 1), by omega, (by rw [rowT_succ (by omega), a6]; exact rowS_yes h5), by omega, by omega, hS.sub (.consE 6 rfl rfl (.consE 9 rfl rfl (.consE 10 rfl rfl (.cons 1 rfl (.cons 2 rfl (.cons 4 rfl (.cons 5 rfl (.cons 8 rfl (.nil _))))))))), hD, hW, rfl⟩
   have c2 := h5;have h5 := CU h5;refine rr (sp 1 [(9, vI (0))] (se (rr (sp 3 [(64, vI ((if (↑m2 : Int) < (0 : Int) then 0 else ↑m2)))] (EO 64 rfl (show (vI ((if (↑m2 : Int) < (0 : Int) then 0 else ↑m2)) : Value) = vI (↑(max m2 0)) from congrArg (Value.int .i64) (by split <;> omega)) (sp 1 [(6, vI (↑(max m2 0)))] (ee (NB (NX (rr (sp 1 [(43, vI (↑j))] (sd (da 44 (↑j) (1)) (sp 1 [(10, vI (↑j + 1))] (ee ?_))))))))))))));refine AG ((Y.tracks.getD (i) []).length - (j+1)) (by omega) ?_;intro a w hS hD hW;exact ⟨j+1, 0, max m2 0, by omega, (by rw [rowT_succ (by omega), a6]; exact rowS_no h5), by omega, by omega, hS.sub (.consE 6 rfl rfl (.consE 9 rfl rfl (.consE 10 rfl rfl (.cons 1 rfl (.cons 2 rfl (.cons 4 rfl (.cons 5 rfl (.cons 8 rfl (.nil _))))))))), hD, hW, rfl⟩
  have c1 := h4;have h4 := CB h4;refine CF 4 ((EP (EP (EB (NB (NX (rr (sp 1 [(33, vI (↑i))] (sd (da 34 (↑i) (1)) (sp 1 [(8, vI (↑i + 1))] (ee ?_)))))))))));refine AG (Y.tracks.length - (i+1)) (by omega) ?_;intro a w hS hD hW;exact ⟨i+1, m2, by omega, (by rw [mostTo_succ (by omega), ← c9]; rw [CX (by omega)] at a6; rw [a6]), by omega, hS.sub (.consE 6 rfl rfl (.consE 8 rfl rfl (.cons 1 rfl (.cons 2 rfl (.cons 4 rfl (.cons 5 rfl (.nil _))))))), hD, hW, rfl⟩
 have c0 := h3;have h3 := CB h3;refine CF 2 ((EP (EP (EB (NX (rqr (sp 4 [(4, .bool (cmp .eql (↑m) (↑al)))] (se (BP (AD (t := 4) [] (by kernel_rfl) rfl (TC _ (TR _)) (IR _) ?_))))))))));exact ⟨congrArg Value.bool (by unfold FI cmp; rw [c9, CX (xs := Y.tracks) (k := i) (by omega), ha, CX (xs := Y.cars) (k := k) (by omega)]), rfl⟩
end Go.Proofs.YtcaocbhbofejnaaGreatDoor
namespace Go.Sl
open Go
theorem ct_own {α : Type} {E : TypeId} {sz : Nat} {cell : α → Nat → Value} {v : Value} {xs : List α} {Ms : Seg} {I : Imm} {P : Program} {f : FuncId} {args : Array Value} {u : Value} (dflt : α) (h : Own E sz cell v xs Ms) (hl : xs.length ≤ 140737488355328)
    (ct : ∀ J, I.le J → IsSl sz cell dflt J v xs → CtV P f args J u) : Ct P f args I Ms (fun r _ M' => r = u ∧ M' = Ms) := by
  intro F w st;obtain ⟨J, h1, h2, h3, h4⟩ := h.lend dflt hl st;refine (ct J h1 h2 F w h4).mono fun e w' ⟨r, I', M', he, hle, ⟨hr, hm⟩, st'⟩ => ?_
  subst hm;obtain ⟨K, k1, k2⟩ := St.thaw (h3.mono hle) (h1.trans hle) (by simpa using st');exact ⟨r, K, Ms, he, k1, ⟨hr, rfl⟩, k2⟩
end Go.Sl
namespace Go.Proofs.YtcaocbhbofejnaaGreatDoor
open Go Go.Sl Go.Sh
set_option maxRecDepth 100000
noncomputable def c_checkTracksR (p : List Nat) : Code := sub (AU Tryz.f99) p
theorem checkTracksR_ct (I : Imm) (y : Value) (Y : Yard) (y_f : IsYard I y Y) (hs : Small Y.cars) (h5 : Y.cars.length ≤ 5) : CtV Tryz.prog 99 #[y] I (vI (FG Y)) := by
 obtain ⟨y1, y2, y3, l5, a8, a9, b0⟩ := id y_f;subst l5;obtain ⟨a3, a4, k2, k5, f9, k3, k4, k6⟩ := id a8;subst f9;obtain ⟨a5, a6, k7, l0, g0, k8, k9, b9⟩ := id a9;subst g0;obtain ⟨a0, a1, l1, l4, i2, g1, l2, l3, a7, b5⟩ := id b0;subst g1;refine fr (args := [_]) (N := 81) Tryz.func99 (fun F => ?_);show Run _ _ (c_checkTracksR []) _ _ [(0, .agg #[vS a3 Y.cars.length a4, vS a5 Y.room.length a6, vS a0 Y.tracks.length a1])] _ _;refine rnm (rqr ?_);refine sS (sb 1 26 #[vS a3 Y.cars.length a4, vS a5 Y.room.length a6, vS a0 Y.tracks.length a1] (fun b1 => (sp 1 [(2, vI (0))] (se (rq (rqr (sp 1 [(8, vP b1 2)] (sd (dlb 9 0 2 b1 (vS a0 Y.tracks.length a1)) (sp 2 [(11, vP b1 1), (10, vI (↑(Y.tracks.length)))] (sd (dlb 12 0 1 b1 (vS a5 Y.room.length a6)) (sp 2 [(14, .bool (!(cmp .eql (↑(Y.tracks.length)) (↑(Y.room.length)))))] (se (rc 14 rfl (fun h1 => ?_) (fun h1 => ?_))))))))))))))
 ·
  have e8 := h1;have h1 := CU (CN h1);refine rqr (sp 1 [(2, vI (2))] (se (BP ((RP (AD (t := 2) [] (by kernel_rfl) rfl (TC _ (TR _)) (IR _) ?_))))));exact ⟨congrArg (Value.int .i64) (by rw [FG, if_neg (by omega)]), rfl⟩
 have e8 := h1;have h1 := CV (CE h1);refine AK (NX (rqr (sp 1 [(3, vN)] (se (rq (rqr (sp 1 [(4, vI (0))] (se (rb 0 ?_)))))))));refine rl (fun mz a w => ∃ J0 : Imm, ∃ k : Nat, ∃ b7 : List Int, ∃ c1 : Value, ∃ b8 : Seg, (I.le J0) ∧ (k ≤ Y.tracks.length) ∧ (CL Y.cars (fun b7 => if b7.length < Y.cars.length then 7 else refG Y) Y.tracks Y.room [] = CL Y.cars (fun b7 => if b7.length < Y.cars.length then 7 else refG Y) (Y.tracks.drop k) (Y.room.drop k) b7) ∧ (OkAll Y.cars (Y.tracks.take k)) ∧ (b7.Nodup) ∧ (∀ x ∈ b7, 0 ≤ x ∧ x < (Y.cars.length : Int)) ∧ (Own 3 1 AR c1 (b7) b8) ∧ Slots 81 [(3, c1), (4, vI ↑k), (1, vP b1 0)] a ∧ a.defers = [] ∧ St J0 ((bX b1 #[vS a3 Y.cars.length a4, vS a5 Y.room.length a6, vS a0 Y.tracks.length a1] 26) :: (b8 ++ F)) w ∧ mz = Y.tracks.length - k) ?_ ?_
 ·intro a w hS hD hW;exact ⟨_, I, 0, [], (vN), [], IR _, Nat.zero_le _, rfl, OkAll.nil, List.nodup_nil, (fun x hx => by simp at hx), (Own.nil _ _ _), hS.sub (.cons 3 rfl (.cons 4 rfl (.cons 1 rfl (.nil _)))), hD, hW, rfl⟩
 rintro mz a w ⟨J0, k, b7, c1, b8, hJ0, hk, hr, g4, i5, i3, d1, hS, hD, hW, rfl⟩
 refine AX hS hD hW ?_;clear hS hD hW a w;replace a8 := a8.mono hJ0;replace a9 := a9.mono hJ0;replace b9 := b9.mono hJ0;replace b0 := b0.mono hJ0;replace a7 := a7.mono hJ0;replace b5 := fun i hi => (b5 i hi).mono hJ0
 obtain ⟨c7, c8, c9, e6⟩ := d1.shape; subst c9;refine rq (rqr (sp 2 [(16, vP b1 2), (15, vI (↑k))] (sd (dlb 17 0 2 b1 (vS a0 Y.tracks.length a1)) (sp 2 [(19, .bool (cmp .lss (↑k) (↑(Y.tracks.length))))] (se (rc 19 rfl (fun h2 => ?_) (fun h2 => ?_)))))))
 ·
  have e9 := h2;have h2 := BX h2;refine AK (NX (rq (rb 1 (rq (rqr (sp 1 [(5, vI (0))] (se (rb 2 ?_))))))));refine rl (fun mz a w => ∃ J1 : Imm, ∃ j : Nat, ∃ a2 : List Int, ∃ c2 : Value, ∃ b2 : Seg, (J0.le J1) ∧ (j ≤ (Y.tracks.getD (k) []).length) ∧ (CL Y.cars (fun b7 => if b7.length < Y.cars.length then 7 else refG Y) Y.tracks Y.room [] = DK Y.cars.length (fun met' => if lenOf Y.cars (Y.tracks.getD (k) []) > Y.room.getD k 0 then 9 else CL Y.cars (fun b7 => if b7.length < Y.cars.length then 7 else refG Y) (Y.tracks.drop (k + 1)) (Y.room.drop (k + 1)) met') ((Y.tracks.getD (k) []).drop j) a2) ∧ (Ok Y.cars ((Y.tracks.getD (k) []).take j)) ∧ (a2.Nodup) ∧ (∀ x ∈ a2, 0 ≤ x ∧ x < (Y.cars.length : Int)) ∧ (Own 3 1 AR c2 (a2) b2) ∧ Slots 81 [(3, c2), (5, vI ↑j), (1, vP b1 0), (4, vI (↑k))] a ∧ a.defers = [] ∧ St J1 ((bX b1 #[vS a3 Y.cars.length a4, vS a5 Y.room.length a6, vS a0 Y.tracks.length a1] 26) :: (b2 ++ F)) w ∧ mz = (Y.tracks.getD (k) []).length - j) ?_ ?_
  ·intro a w hS hD hW;exact ⟨_, J0, 0, b7, vS c7 b7.length c8, b8, IR _, Nat.zero_le _, hr.trans (MN (by omega)), Ok.nil, i5, i3, d1, hS.sub (.cons 3 rfl (.cons 5 rfl (.cons 1 rfl (.cons 4 rfl (.nil _))))), hD, hW, rfl⟩
  rintro mz a w ⟨J1, j, a2, c2, b2, hJ1, hj, d7, c6, c5, c4, c0, hS, hD, hW, rfl⟩
  refine AX hS hD hW ?_;clear hS hD hW a w;replace a8 := a8.mono hJ1;replace a9 := a9.mono hJ1;replace b9 := b9.mono hJ1;replace b0 := b0.mono hJ1;replace a7 := a7.mono hJ1;replace b5 := fun i hi => (b5 i hi).mono hJ1
  obtain ⟨b3, b4, d0, e7⟩ := c0.shape; subst d0;refine rq (rqr (sp 2 [(23, vP b1 2), (22, vI (↑j))] (sd (dlb 24 0 2 b1 (vS a0 Y.tracks.length a1)) (sp 1 [(25, vI (↑k))] (sd (di 26 1 (k) a7.addr) ?_)))));have e2 := b5 (k) (by omega);obtain ⟨i9, j1, j0, j4, e1, j2, j3, j5⟩ := id e2;rw [e1] at e2;refine sd (BB (dl 27 (BR a7 (k) (by omega))) e1) (sp 2 [(29, .bool (cmp .lss (↑j) (↑((Y.tracks.getD (k) []).length))))] (se (rc 29 rfl (fun h3 => ?_) (fun h3 => ?_))))
  ·
   have f0 := h3;have h3 := BX h3;refine AK (NX (rq (rb 3 (rqr (sp 1 [(32, vP b1 2)] (sd (dlb 33 0 2 b1 (vS a0 Y.tracks.length a1)) (sp 1 [(34, vI (↑k))] (sd (di 35 1 (k) a7.addr) ?_))))))));have e4 := b5 (k) (by omega);obtain ⟨j6, j8, j7, k1, e3, j9, k0, e5⟩ := id e4;rw [e3] at e4;refine sd (BB (dl 36 (BR a7 (k) (by omega))) e3) (sp 1 [(37, vI (↑j))] (sd (di 38 1 (j) e5.addr) (sd (dl 39 (BI e5 (j) (by omega))) (sp 1 [(6, vI ((Y.tracks.getD (k) []).getD (j) 0))] (se (rq (rqr (sp 2 [(41, vP b1 0), (40, vI ((Y.tracks.getD (k) []).getD (j) 0))] (sd (dlb 42 0 0 b1 (vS a3 Y.cars.length a4)) (sp 1 [(43, vI (↑(Y.cars.length)))] (sd (dsb 44 (↑(Y.cars.length)) (1)) (sd (dc 45 (fun I' hI => (ET I' ((Y.tracks.getD (k) []).getD (j) 0) (0) ((↑(Y.cars.length)) - 1) :))) (sp 1 [(46, .bool (!(inB ((Y.tracks.getD (k) []).getD (j) 0) 0 ((↑(Y.cars.length)) - 1))))] (se (rc 46 rfl (fun h4 => ?_) (fun h4 => ?_))))))))))))))))
   ·
    have f2 := h4;have h4 := CN h4;have f1 := IK h4;refine rqr (sp 1 [(2, vI (3))] (se (BP ((RP (RB (RP (RP (RB (RP (RB (RP (RP (RB (RP (AD (t := 2) [] (by kernel_rfl) rfl (TC _ (TT (TR _) (TB _ _))) (IT hJ0 hJ1) ?_))))))))))))))));exact ⟨congrArg (Value.int .i64) (by rw [FG, if_pos (by omega)]; exact (d7.trans (goTrack_bad (by omega) h4)).symm), rfl⟩
   have f2 := h4;have h4 := CE h4;have f1 := DT h4;have g3 := h4;refine AK (NX (rq (rqr ?_)));have i4 := HX c5 c4;refine sp 2 [(48, vI ((Y.tracks.getD (k) []).getD (j) 0)), (47, vS b3 a2.length b4)] ?_;have d4 := ct_own (I := J1) 0 c0 (by omega) (fun I' hI hs_l => (has_ct I' _ _ ((Y.tracks.getD (k) []).getD (j) 0) hs_l :));refine sS (sc (some 49) (F := ((bX b1 #[vS a3 Y.cars.length a4, vS a5 Y.room.length a6, vS a0 Y.tracks.length a1] 26) :: F)) (d4 :) (PM.symm) (fun l8 I5 l7 b6 i7 => ?_));obtain ⟨d8, d5⟩ := i7;rw [d8, d5]; clear d8 d5;replace a8 := a8.mono b6;replace a9 := a9.mono b6;replace b9 := b9.mono b6;replace b0 := b0.mono b6;replace a7 := a7.mono b6;replace b5 := fun i hi => (b5 i hi).mono b6
   refine pm (M' := ((bX b1 #[vS a3 Y.cars.length a4, vS a5 Y.room.length a6, vS a0 Y.tracks.length a1] 26) :: (b2 ++ F))) PM ?_;show Seq _ _ _ _ _ _ ((49, .bool (decide (((Y.tracks.getD (k) []).getD (j) 0) ∈ a2))) :: _) _ _;refine se (rc 49 rfl (fun h5 => ?_) (fun h5 => ?_))
   ·
    have f3 := h5;have h5 := JU h5;refine rqr (sp 1 [(2, vI (4))] (se (BP ((RP (RB (RP (RP (RB (RP (RB (RP (RP (RB (RP (AD (t := 2) [] (by kernel_rfl) rfl (TC _ (TT (TR _) (TB _ _))) (IT (IT hJ0 hJ1) b6) ?_))))))))))))))));exact ⟨congrArg (Value.int .i64) (by rw [FG, if_pos (by omega)]; exact (d7.trans (MM (by omega) g3 h5)).symm), rfl⟩
   have f3 := h5;have h5 := LQ h5;have g2 := h5;refine AK (NX (rr (sp 2 [(51, vI ((Y.tracks.getD (k) []).getD (j) 0)), (50, vS b3 a2.length b4)] (sS (sbs 52 3 1 #[vI ((Y.tracks.getD (k) []).getD (j) 0)] (fun l6 => (sS (AO (d := 53) (x := (.tmp 50)) (y := (.tmp 52)) (T := 23) (T' := 23) (E := 3) (E' := 3) (sz := 1) (bs := 8) (z := vI (0)) (cell := AR) (xs := a2) (ys := [((Y.tracks.getD (k) []).getD (j) 0 : Int)]) (Ms := b2) (ty := 23) (gd := none) (by kernel_rfl) rfl (by kernel_rfl) (by kernel_rfl) (by kernel_rfl) (by kernel_rfl) (by kernel_rfl) (by decide) (by kernel_rfl) rfl rfl (c0) (PU (PM.symm)) (BU _) (CW 0 rfl rfl) (by first | omega | (have i4 := HX c5 c4; simp only [LC, LN]; omega)) (fun l9 d3 d6 => (AW (M' := ((bX b1 #[vS a3 Y.cars.length a4, vS a5 Y.room.length a6, vS a0 Y.tracks.length a1] 26) :: (d3 ++ F))) (fun w h => (h.perm (PW PM)).sub (TC _ (TR _))) ?_))))))))));obtain ⟨d9, e0, f8, i8⟩ := d6.shape;subst f8;refine sp 1 [(3, vS d9 (a2 ++ ([((Y.tracks.getD (k) []).getD (j) 0 : Int)])).length e0)] (ee (NB (NX (rr (sp 1 [(30, vI (↑j))] (sd (da 31 (↑j) (1)) (sp 1 [(5, vI (↑j + 1))] (ee ?_))))))));refine AG ((Y.tracks.getD (k) []).length - (j+1)) (by omega) ?_;intro a w hS hD hW;exact ⟨I5, j+1, a2 ++ ([((Y.tracks.getD (k) []).getD (j) 0 : Int)]), vS d9 (a2 ++ ([((Y.tracks.getD (k) []).getD (j) 0 : Int)])).length e0, d3, (IT hJ1 b6), by omega, d7.trans (ON (by omega) g3 g2), c6.snoc (c := 0) (by omega) (by omega), met_snoc c5 g2, met_in c4 (by omega), d6, hS.sub (.consE 3 rfl rfl (.consE 5 rfl rfl (.cons 1 rfl (.cons 4 rfl (.nil _))))), hD, hW, rfl⟩
  have f0 := h3;have h3 := CB h3;refine CF 2 ((EP (EP (EB (NX (rq ?_))))));refine rd0 12 ?_;refine AB (dnb 54 0 0 b1 [vS a3 Y.cars.length a4, vS a5 Y.room.length a6, vS a0 Y.tracks.length a1]) (ox 1 [(55, vP b1 2)] ?_);refine AB (dlb 56 0 2 b1 (vS a0 Y.tracks.length a1)) (ox 1 [(57, vI (↑k))] ?_);refine AB (di 58 1 (k) a7.addr) ?_;have c3 := b5 (k) (by omega);obtain ⟨g6, g8, g7, i0, d2, g9, h0, i1⟩ := id c3;rw [d2] at c3;refine AB (BB (dl 59 (BR a7 (k) (by omega))) d2) ?_;have i6 := c6.all (by omega);refine AB (dc 60 (fun I' hI => (KH I' _ (Y) _ _ ((BE a8 a9 b0).mono hI) (c3.mono hI) (by exact c6.all (by omega)) (by assumption) :))) (ox 1 [(61, vP b1 1)] ?_);refine AB (dlb 62 0 1 b1 (vS a5 Y.room.length a6)) (ox 1 [(63, vI (↑k))] ?_);refine AB (di 64 1 (k) b9.addr) ?_;refine AB (dl 65 (BI b9 (k) (by omega))) ?_;refine BC (sp 1 [(66, .bool (cmp .gtr ((lenOf Y.cars (Y.tracks.getD (k) []))) (Y.room.getD (k) 0)))] (se (rc 66 rfl (fun h6 => ?_) (fun h6 => ?_))))
  ·
   have f4 := h6;have h6 := FL h6;refine rqr (sp 1 [(2, vI (9))] (se (BP ((RB (RP (RP (RB (RP (AD (t := 2) [] (by kernel_rfl) rfl (TC _ (TT (TR _) (TB _ _))) (IT hJ0 hJ1) ?_))))))))));exact ⟨congrArg (Value.int .i64) (by rw [FG, if_pos (by omega)]; exact (d7.trans ((IE (by omega)).trans (if_pos (by omega)))).symm), rfl⟩
  have f4 := h6;have h6 := FT h6;refine AK (NB (NX (rr (sp 1 [(20, vI (↑k))] (sd (da 21 (↑k) (1)) (sp 1 [(4, vI (↑k + 1))] (ee ?_)))))));refine AG (Y.tracks.length - (k+1)) (by omega) ?_;intro a w hS hD hW;exact ⟨J1, k+1, a2, vS b3 a2.length b4, b2, (IT hJ0 hJ1), by omega, d7.trans ((IE (by omega)).trans (if_neg (by omega))), g4.snoc (by omega) (c6.all (by omega)), c5, c4, c0, hS.sub (.consE 3 rfl rfl (.consE 4 rfl rfl (.cons 1 rfl (.nil _)))), hD, hW, rfl⟩
 have e9 := h2;have h2 := CB h2;refine CF 0 ((EP (EP (EB (NX (rq (rqr (sp 3 [(69, vP b1 0), (68, vI (↑(b7.length)))] (sd (dlb 70 0 0 b1 (vS a3 Y.cars.length a4)) (sp 2 [(72, .bool (cmp .lss (↑(b7.length)) (↑(Y.cars.length))))] (se (rc 72 rfl (fun h7 => ?_) (fun h7 => ?_)))))))))))))
 ·
  have f5 := h7;have h7 := BX h7;refine rqr (sp 1 [(2, vI (7))] (se (BP ((RP (AD (t := 2) [] (by kernel_rfl) rfl (TC _ (TT (TR _) (TB _ _))) hJ0 ?_))))));exact ⟨congrArg (Value.int .i64) (by rw [FG, if_pos (by omega)]; exact (hr.trans ((GI (by omega)).trans (if_pos (by omega)))).symm), rfl⟩
 have f5 := h7;have h7 := CB h7;refine AK (NX (rq (rqr (sp 1 [(7, vI (1))] (se (rb 4 ?_))))));refine rl (fun mz a w => ∃ J2 : Imm, ∃ q : Nat, (J0.le J2) ∧ (1 ≤ q ∧ q ≤ 4) ∧ (∀ g : Nat, 1 ≤ g → g < q → FI Y ↑g = true) ∧ Slots 81 [(7, vI ↑q), (1, vP b1 0)] a ∧ a.defers = [] ∧ St J2 ((bX b1 #[vS a3 Y.cars.length a4, vS a5 Y.room.length a6, vS a0 Y.tracks.length a1] 26) :: (b8 ++ F)) w ∧ mz = 4 - q) ?_ ?_
 ·intro a w hS hD hW;exact ⟨_, J0, 1, IR _, by omega, (fun g h1 h2 => by omega), hS.sub (.cons 7 rfl (.cons 1 rfl (.nil _))), hD, hW, rfl⟩
 rintro mz a w ⟨J2, q, hJ2, hq, g5, hS, hD, hW, rfl⟩
 refine AX hS hD hW ?_;clear hS hD hW a w;replace a8 := a8.mono hJ2;replace a9 := a9.mono hJ2;replace b0 := b0.mono hJ2;refine rq (rqr (sp 2 [(74, .bool (cmp .leq (↑q) (3)))] (se (rc 74 rfl (fun h8 => ?_) (fun h8 => ?_)))))
 ·
  have f6 := h8;have h8 := leq_t h8;refine AK (NX (rq (rb 5 (rqr ?_))));have ho := g4.all (by omega);refine sd (dnb 77 0 0 b1 [vS a3 Y.cars.length a4, vS a5 Y.room.length a6, vS a0 Y.tracks.length a1]) (sp 1 [(78, vI (↑q))] (sd (dc 79 (fun I' hI => (together_ct I' _ (Y) (↑q) ((BE a8 a9 b0).mono hI) (by assumption) :))) (sp 1 [(80, .bool (!(FI Y ↑q)))] (se (rc 80 rfl (fun h9 => ?_) (fun h9 => ?_))))))
  ·
   have f7 := h9;have h9 := CN h9;refine rqr (sp 1 [(2, vI (12))] (se (BP ((RB (RP (RP (RB (RP (AD (t := 2) [] (by kernel_rfl) rfl (TC _ (TT (TR _) (TB _ _))) (IT hJ0 hJ2) ?_))))))))));exact ⟨congrArg (Value.int .i64) (by rw [FG, if_pos (by omega)]; exact (hr.trans ((GI (by omega)).trans ((if_neg (by omega)).trans (refG_hit (by omega) (by omega) h9)))).symm), rfl⟩
  have f7 := h9;have h9 := CE h9;refine AK (NB (NX (rr (sp 1 [(75, vI (↑q))] (sd (da 76 (↑q) (1)) (sp 1 [(7, vI (↑q + 1))] (ee ?_)))))));refine AG (4 - (q+1)) (by omega) ?_;intro a w hS hD hW;exact ⟨J2, q+1, hJ2, by omega, (fun g h1 h2 => if h : g < q then g5 g h1 h else (show q = g by omega) ▸ h9), hS.sub (.consE 7 rfl rfl (.cons 1 rfl (.nil _))), hD, hW, rfl⟩
 have f6 := h8;have h8 := leq_f h8;refine CF 4 ((EP (EP (EB (NX (rqr (sp 1 [(2, vI (0))] (se (BP (AD (t := 2) [] (by kernel_rfl) rfl (TC _ (TT (TR _) (TB _ _))) (IT hJ0 hJ2) ?_))))))))));exact ⟨congrArg (Value.int .i64) (by rw [FG, if_pos (by omega)]; exact (hr.trans ((GI (by omega)).trans ((if_neg (by omega)).trans (refG_ok (fun g h1 h2 => g5 g h1 (by omega)))))).symm), rfl⟩
end Go.Proofs.YtcaocbhbofejnaaGreatDoor
namespace Go.Sh
open Go Go.Sl
def stG (cs : List Car) (g : Int) : Bool → List Int → Nat
  | _, [] => 0
  | p, c :: r => (if grp cs c = g ∧ p = false then 1 else 0) + stG cs g (decide (grp cs c = g)) r
def sumG (cs : List Car) (g : Int) : List (List Int) → Nat
  | [] => 0
  | t :: ts => stG cs g false t + sumG cs g ts
def inN (g : Int) (met : List Int) : Nat := if g ∈ met then 1 else 0
def LI (cs : List Car) (g : Int) (t : List Int) (k : Nat) : Bool := decide (0 < k) && decide (grp cs (t.getD (k - 1) 0) = g)
theorem goG_st {cs : List Car} {ts : List (List Int)} {t : List Int} (ih : ∀ met, goGs cs ts met = 0 ↔ ∀ g, 0 < g → inN g met + sumG cs g ts ≤ 1) : ∀ (m k : Nat) (met : List Int), k + m = t.length →
    (∀ g, 0 < g → LI cs g t k = true → g ∈ met) →
    (goG cs t (goGs cs ts) k (t.drop k) met = 0 ↔ ∀ g, 0 < g → inN g met + stG cs g (LI cs g t k) (t.drop k) + sumG cs g ts ≤ 1) := by
  intro m
  induction m with
  | zero =>
    intro k met hk _;rw [goG_done (by omega), ih, CM (by omega)];simp only [stG, Nat.add_zero]
  | succ m ihm =>
    intro k met hk hp;have hlt : k < t.length := by omega
    have hcons : t.drop k = t.getD k 0 :: t.drop (k + 1) := BL hlt;have hpk : ∀ g, LI cs g t (k + 1) = decide (grp cs (t.getD k 0) = g) := fun g => by simp [LI]
    by_cases hb : (decide (0 < grp cs (t.getD k 0)) && (decide (grp cs (t.getD k 0) ∈ met) && !(BT cs t ↑k))) = true
    · rw [goG_hit hlt hb]
      simp only [Bool.and_eq_true, decide_eq_true_eq, Bool.not_eq_true'] at hb;refine ⟨(fun h => by cases h), fun h => ?_⟩
      exfalso
      have h1 := h _ hb.1;have hnp : LI cs (grp cs (t.getD k 0)) t k = false := by
        cases hq : LI cs (grp cs (t.getD k 0)) t k with
        | false => rfl
        | true =>
          simp only [LI, Bool.and_eq_true, decide_eq_true_eq] at hq;rw [NL hlt hb.1 hq.1 hq.2] at hb;cases hb.2.2
      rw [hcons, hnp] at h1;have e1 : inN (grp cs (t.getD k 0)) met = 1 := if_pos hb.2.1;have e2 : ∀ r, stG cs (grp cs (t.getD k 0)) false (t.getD k 0 :: r) = 1 + stG cs (grp cs (t.getD k 0)) (decide (grp cs (t.getD k 0) = grp cs (t.getD k 0))) r := fun r => by
        show (if _ then 1 else 0) + _ = _;rw [if_pos ⟨rfl, rfl⟩]
      rw [e1, e2] at h1;omega
    · have hb' := Bool.eq_false_iff.2 hb
      rw [goG_miss hlt hb', ihm (k + 1) _ (by omega) ?_]
      · refine forall_congr' fun g => forall_congr' fun hg => ?_
        rw [hpk, hcons];have hst : stG cs g (LI cs g t k) (t.getD k 0 :: t.drop (k + 1)) = (if grp cs (t.getD k 0) = g ∧ LI cs g t k = false then 1 else 0) + stG cs g (decide (grp cs (t.getD k 0) = g)) (t.drop (k + 1)) := rfl;rw [hst];have hin : inN g (if grp cs (t.getD k 0) ∈ met then met else met ++ [grp cs (t.getD k 0)]) = inN g met + (if grp cs (t.getD k 0) = g ∧ LI cs g t k = false then 1 else 0) := by
          by_cases e : grp cs (t.getD k 0) = g
          · cases hq : LI cs g t k with
            | true =>
              have hm := hp g hg hq;rw [e, if_pos hm, if_neg (by simp)]; rfl
            | false =>
              have hnm : g ∉ met := fun hm => by
                have hc : BT cs t ↑k = false := by
                  cases hc : BT cs t ↑k with
                  | false => rfl
                  | true =>
                    obtain ⟨c1, c2, c3⟩ := coupled_to hlt hc;have : LI cs g t k = true := by
                      simp only [LI, Bool.and_eq_true, decide_eq_true_eq];exact ⟨c1, c3.symm.trans e⟩
                    rw [hq] at this; cases this
                rw [e, hc] at hb;simp [hg, hm] at hb
              rw [e, if_neg hnm];simp [inN, hnm]
          · have e' : ¬ g = grp cs (t.getD k 0) := fun h => e h.symm
            by_cases hG : grp cs (t.getD k 0) ∈ met
            · rw [if_pos hG, if_neg (fun hh => e hh.1)]; rfl
            · rw [if_neg hG, if_neg (fun hh => e hh.1), Nat.add_zero]
              unfold inN;simp only [List.mem_append, List.mem_singleton, e', or_false]
        rw [hin]
        generalize stG cs g (decide (grp cs (t.getD k 0) = g)) (t.drop (k + 1)) = S
        constructor <;> intro h <;> omega
      · intro g hg hq
        rw [hpk] at hq;have e := of_decide_eq_true hq;subst e
        split
        · assumption
        · simp
theorem goGs_st {cs : List Car} : ∀ (ts : List (List Int)) (met : List Int), goGs cs ts met = 0 ↔ ∀ g, 0 < g → inN g met + sumG cs g ts ≤ 1 := by
  intro ts
  induction ts with
  | nil =>
    intro met;refine ⟨fun _ g _ => ?_, fun _ => rfl⟩;unfold inN sumG; split <;> omega
  | cons t ts ih =>
    intro met;have h := goG_st (cs := cs) (ts := ts) (t := t) ih t.length 0 met (by omega) (fun g _ h => by simp [LI] at h);rw [List.drop_zero] at h;show goG cs t (goGs cs ts) 0 t met = 0 ↔ _;rw [h];refine forall_congr' fun g => forall_congr' fun hg => ?_
    have e : LI cs g t 0 = false := by simp [LI]
    rw [e];show _ ↔ inN g met + (stG cs g false t + sumG cs g ts) ≤ 1
    constructor <;> intro h <;> omega
theorem groups_sum {Y : Yard} : DC Y = 0 ↔ ∀ g, 0 < g → sumG Y.cars g Y.tracks ≤ 1 := by
  unfold DC;rw [goGs_st];refine forall_congr' fun g => forall_congr' fun _ => ?_
  have e : inN g [] = 0 := by simp [inN]
  rw [e, Nat.zero_add]
def JG (prev : Bool) (row most c n : Nat) : Prop :=
  (n = 0 → row = 0 ∧ most = 0 ∧ c = 0 ∧ prev = false) ∧ (n = 1 → most = c ∧ 0 < c ∧ row = if prev = true then c else 0) ∧ (2 ≤ n → most < c ∧ row < c)
theorem JG_reset {prev : Bool} {row most c n : Nat} (h : JG prev row most c n) : JG false 0 most c n := by
  obtain ⟨h0, h1, h2⟩ := h;refine ⟨fun h => ?_, fun h => ?_, fun h => ?_⟩
  · have := h0 h; exact ⟨rfl, this.2.1, this.2.2.1, rfl⟩
  · have := h1 h; exact ⟨this.1, this.2.1, by simp⟩
  · have := h2 h; omega
theorem JG_step {prev : Bool} {row most c n : Nat} (x : Bool) (h : JG prev row most c n) :
    JG x (if x = true then row + 1 else 0) (max most (if x = true then row + 1 else 0)) (c + if x = true then 1 else 0) (n + if x = true ∧ prev = false then 1 else 0) := by
  cases x with
  | false =>
    show JG false 0 (max most 0) (c + 0) (n + 0);rw [Nat.max_zero]; exact JG_reset h
  | true =>
    obtain ⟨h0, h1, h2⟩ := h;cases prev with
    | false =>
      show JG true (row + 1) (max most (row + 1)) (c + 1) (n + 1);refine ⟨fun hn => by omega, fun hn => ?_, fun hn => ?_⟩
      · have := h0 (by omega); rw [if_pos rfl]; omega
      · rcases Nat.lt_or_ge n 2 with h | h
        · have := h1 (by omega); rw [if_neg (by decide)] at this; omega
        · have := h2 h; omega
    | true =>
      show JG true (row + 1) (max most (row + 1)) (c + 1) (n + 0);refine ⟨fun hn => ?_, fun hn => ?_, fun hn => ?_⟩
      · have := (h0 (by omega)).2.2.2; cases this
      · have := h1 (by omega); rw [if_pos rfl] at this ⊢; omega
      · have := h2 (by omega); omega
def cntT (cs : List Car) (g : Int) : List Int → Nat
  | [] => 0
  | c :: r => (if grp cs c = g then 1 else 0) + cntT cs g r
theorem cntT_append (cs : List Car) (g : Int) (a b : List Int) : cntT cs g (a ++ b) = cntT cs g a + cntT cs g b := by
  induction a with
  | nil => simp [cntT]
  | cons c a ih => simp only [List.cons_append, cntT, ih]; omega
theorem JG_fold {cs : List Car} {g : Int} : ∀ (t : List Int) (prev : Bool) (s : Nat × Nat) (c n : Nat), JG prev s.1 s.2 c n →
    ∃ prev', JG prev' (t.foldl (rowS cs g) s).1 (t.foldl (rowS cs g) s).2 (c + cntT cs g t) (n + stG cs g prev t) := by
  intro t
  induction t with
  | nil => intro prev s c n h; exact ⟨prev, h⟩
  | cons x t ih =>
    intro prev s c n h;have h1 := JG_step (decide (grp cs x = g)) h;have e1 : rowS cs g s x = ((if decide (grp cs x = g) = true then s.1 + 1 else 0), max s.2 (if decide (grp cs x = g) = true then s.1 + 1 else 0)) := by simp [rowS]
    have h2 := ih (decide (grp cs x = g)) (rowS cs g s x) (c + if decide (grp cs x = g) = true then 1 else 0) (n + if decide (grp cs x = g) = true ∧ prev = false then 1 else 0) (by rw [e1]; exact h1);obtain ⟨p, hp⟩ := h2;refine ⟨p, ?_⟩;have e2 : c + cntT cs g (x :: t) = c + (if decide (grp cs x = g) = true then 1 else 0) + cntT cs g t := by
      simp only [cntT, decide_eq_true_eq]; omega
    have e3 : n + stG cs g prev (x :: t) = n + (if decide (grp cs x = g) = true ∧ prev = false then 1 else 0) + stG cs g (decide (grp cs x = g)) t := by
      simp only [stG, decide_eq_true_eq]; omega
    rw [e2, e3];exact hp
theorem JG_all {cs : List Car} {g : Int} : ∀ (ts : List (List Int)) (most c n : Nat), JG false 0 most c n →
    JG false 0 (ts.foldl (fun most t => (rowT cs g most t).2) most) (c + cntT cs g ts.flatten) (n + sumG cs g ts) := by
  intro ts
  induction ts with
  | nil => intro most c n h; exact h
  | cons t ts ih =>
    intro most c n h;obtain ⟨p, hp⟩ := JG_fold t false (0, most) c n h;have := ih (rowT cs g most t).2 _ _ (JG_reset hp);have e2 : c + cntT cs g (t :: ts).flatten = c + cntT cs g t + cntT cs g ts.flatten := by rw [List.flatten_cons, cntT_append]; omega
    have e3 : n + sumG cs g (t :: ts) = n + stG cs g false t + sumG cs g ts := by show n + (_ + _) = _; omega
    rw [e2, e3];exact this
theorem cntT_filter (cs : List Car) (g : Int) (t : List Int) : cntT cs g t = (t.filter fun c => decide (grp cs c = g)).length := by
  induction t with
  | nil => rfl
  | cons c t ih =>
    simp only [cntT, ih]
    by_cases h : grp cs c = g
    · rw [if_pos h, List.filter_cons, if_pos (decide_eq_true h), List.length_cons]; omega
    · rw [if_neg h, List.filter_cons, if_neg (by simpa using h)]; omega
theorem cntT_perm {cs : List Car} {g : Int} {a b : List Int} (h : a.Perm b) : cntT cs g a = cntT cs g b := by
  rw [cntT_filter, cntT_filter]; exact (h.filter _).length_eq
theorem cntT_whole {cs : List Car} {g : Int} : ∀ k, k ≤ cs.length → cntT cs g (CY k) = cntG (cs.take k) g := by
  intro k
  induction k with
  | zero => intro _; simp [CY, cntT, cntG]
  | succ k ih =>
    intro hk;rw [JP, cntT_append, ih (by omega), cntG_succ (by omega)];simp only [cntT, grp, FD, Int.toNat_natCast, Nat.add_zero]; rfl
theorem GE {Y : Yard} (hp : Y.tracks.flatten.Perm (CY Y.cars.length)) (g : Int) : FI Y g = true ↔ sumG Y.cars g Y.tracks ≤ 1 := by
  have h := JG_all (cs := Y.cars) (g := g) Y.tracks 0 0 0 ⟨fun _ => ⟨rfl, rfl, rfl, rfl⟩, fun h => by omega, fun h => by omega⟩;rw [Nat.zero_add, Nat.zero_add, cntT_perm hp, cntT_whole _ (Nat.le_refl _), List.take_length] at h;unfold FI;rw [decide_eq_true_eq];have e : mostTo Y.cars g Y.tracks = Y.tracks.foldl (fun most t => (rowT Y.cars g most t).2) 0 := rfl;rw [e];obtain ⟨h0, h1, h2⟩ := h;omega
theorem goG_012 {cs : List Car} {t : List Int} {fin : List Int → Int} (hf : ∀ m, fin m = 0 ∨ fin m = 12) : ∀ (l : List Int) (k : Nat) (met : List Int), goG cs t fin k l met = 0 ∨ goG cs t fin k l met = 12 := by
  intro l
  induction l with
  | nil => intro k met; exact hf met
  | cons c r ih =>
    intro k met;simp only [goG]
    split
    · exact .inr rfl
    · exact ih _ _
theorem goGs_012 {cs : List Car} : ∀ (ts : List (List Int)) (met : List Int), goGs cs ts met = 0 ∨ goGs cs ts met = 12 := by
  intro ts
  induction ts with
  | nil => intro met; exact .inl rfl
  | cons t r ih => intro met; exact goG_012 ih _ _ _
theorem sumG_none {cs : List Car} {g : Int} (h : ∀ c, grp cs c ≠ g) : ∀ ts, sumG cs g ts = 0 := by
  have h1 : ∀ (t : List Int) (p : Bool), stG cs g p t = 0 := by
    intro t
    induction t with
    | nil => intro p; rfl
    | cons c t ih => intro p; simp only [stG, ih, h c, false_and, if_false]
  intro ts
  induction ts with
  | nil => rfl
  | cons t ts ih => simp only [sumG, ih, h1]
theorem refG_eq {Y : Yard} (hp : Y.tracks.flatten.Perm (CY Y.cars.length)) (hg : ∀ c ∈ Y.cars, 0 ≤ c.grp ∧ c.grp ≤ 3) : refG Y = DC Y := by
  have h3 : ∀ c, grp Y.cars c ≤ 3 := fun c => by
    unfold grp FD
    by_cases hc : c.toNat < Y.cars.length
    · exact (hg _ (AL (d := AM) hc)).2
    · simp [List.getD, List.getElem?_eq_none (Nat.le_of_not_lt hc), AM]
  have hr : refG Y = 0 ∨ refG Y = 12 := by unfold refG; split <;> simp
  have hs : DC Y = 0 ∨ DC Y = 12 := goGs_012 _ _;have hi : refG Y = 0 ↔ DC Y = 0 := by
    rw [groups_sum]
    constructor
    · intro h g hg0
      unfold refG at h
      split at h
      · rename_i hh
        simp only [Bool.and_eq_true] at hh
        by_cases hg3 : g ≤ 3
        · have : g = 1 ∨ g = 2 ∨ g = 3 := by omega
          rcases this with rfl | rfl | rfl
          · exact (GE hp 1).1 hh.1
          · exact (GE hp 2).1 hh.2.1
          · exact (GE hp 3).1 hh.2.2
        · rw [sumG_none (fun c => by have := h3 c; omega)]; omega
      · cases h
    · intro h
      unfold refG;rw [if_pos];simp only [Bool.and_eq_true];exact ⟨(GE hp 1).2 (h 1 (by omega)), (GE hp 2).2 (h 2 (by omega)), (GE hp 3).2 (h 3 (by omega))⟩
  rcases hr with a | a <;> rcases hs with b | b
  · rw [a, b]
  · rw [hi.1 a] at b; cases b
  · rw [hi.2 b] at a; cases a
  · rw [a, b]
theorem goTrack_congr {n : Nat} {f1 f2 : List Int → Int} : ∀ (t met : List Int), met.Nodup → ((∀ c ∈ t, 0 ≤ c ∧ c < n) → (met ++ t).Nodup → f1 (met ++ t) = f2 (met ++ t)) → DK n f1 t met = DK n f2 t met := by
  intro t
  induction t with
  | nil => intro met hn h; have := h (fun c hc => by simp at hc) (by simpa using hn); simpa [DK] using this
  | cons c r ih =>
    intro met hn h;simp only [DK]
    split
    · rename_i h1
      split
      · rfl
      · rename_i h2
        refine ih (met ++ [c]) (met_snoc hn h2) fun g1 g2 => ?_
        rw [List.append_assoc] at g2 ⊢;refine h (fun x hx => ?_) g2;have := DT h1;rcases List.mem_cons.1 hx with rfl | hx
        · omega
        · exact g1 x hx
    · rfl
theorem goTracks_congr {cs : List Car} {f1 f2 : List Int → Int} : ∀ (ts : List (List Int)) (rm met : List Int), met.Nodup → (OkAll cs ts → (met ++ ts.flatten).Nodup → f1 (met ++ ts.flatten) = f2 (met ++ ts.flatten)) → CL cs f1 ts rm met = CL cs f2 ts rm met := by
  intro ts
  induction ts with
  | nil => intro rm met hn h; have := h OkAll.nil (by simpa using hn); simpa [CL] using this
  | cons t r ih =>
    intro rm met hn h;simp only [CL];refine goTrack_congr t met hn fun g1 g2 => ?_
    split
    · rfl
    · refine ih rm.tail (met ++ t) g2 fun k1 k2 => ?_
      rw [List.append_assoc] at k2 ⊢
      have := h (fun x hx => by
        rcases List.mem_cons.1 hx with rfl | hx
        · exact g1
        · exact k1 x hx) (by simpa using k2)
      simpa using this
theorem refCheck_eq (Y : Yard) : PX Y = AH Y := by
  rw [checkErr_split];unfold PX
  by_cases h : CO Y = 0
  · rw [if_pos h, if_pos h]
    unfold FG DY
    split
    · refine goTracks_congr _ _ _ (by simp) fun g1 g2 => ?_
      simp only [List.nil_append] at g2 ⊢
      split
      · rfl
      · rename_i hl
        refine refG_eq (NI g2 (fun x hx => IX g1 x hx) (by omega)) fun c hc => ?_
        unfold CO at h
        split at h
        · cases h
        · split at h
          · rename_i h2
            exact (carOk_range (of_decide_eq_true (List.all_eq_true.1 h2 c hc))).2.2.2
          · cases h
    · rfl
  · rw [if_neg h, if_neg h]
def lastB (cs : List Car) (g : Int) : Bool → List Int → Bool
  | p, [] => p
  | _, c :: r => lastB cs g (decide (grp cs c = g)) r
theorem stG_append {cs : List Car} {g : Int} : ∀ (a b : List Int) (p : Bool), stG cs g p (a ++ b) = stG cs g p a + stG cs g (lastB cs g p a) b := by
  intro a
  induction a with
  | nil => intro b p; simp [stG, lastB]
  | cons c a ih => intro b p; simp only [List.cons_append, stG, lastB, ih]; omega
theorem lastB_at {cs : List Car} {g : Int} : ∀ (a : List Int) (p : Bool), 0 < a.length → lastB cs g p a = decide (grp cs (a.getD (a.length - 1) 0) = g) := by
  intro a
  induction a with
  | nil => intro p h; simp at h
  | cons c a ih =>
    intro p _;cases a with
    | nil => simp [lastB]
    | cons d r =>
      show lastB cs g (decide (grp cs c = g)) (d :: r) = _;rw [ih _ (by simp)];simp
theorem stG_tf {cs : List Car} {g : Int} (b : List Int) : stG cs g false b = stG cs g true b + if 0 < b.length ∧ grp cs (b.getD 0 0) = g then 1 else 0 := by
  cases b with
  | nil => simp [stG]
  | cons c r =>
    simp only [stG, List.length_cons, List.getD_cons_zero]
    by_cases h : grp cs c = g <;> simp [h] <;> omega
theorem stG_le {cs : List Car} {g : Int} (p : Bool) (b : List Int) : stG cs g p b ≤ stG cs g false b := by
  cases p with
  | false => exact Nat.le_refl _
  | true => rw [stG_tf b]; omega
theorem stG_app_le {cs : List Car} {g : Int} (a b : List Int) : stG cs g false (a ++ b) ≤ stG cs g false a + stG cs g false b := by
  rw [stG_append]; have := stG_le (cs := cs) (g := g) (lastB cs g false a) b; omega
theorem stG_cut {cs : List Car} {g : Int} {A : List Int} {n : Nat} (h : 0 < n → n < A.length → ¬ (grp cs (A.getD (n - 1) 0) = g ∧ grp cs (A.getD n 0) = g)) :
    stG cs g false A = stG cs g false (A.take n) + stG cs g false (A.drop n) := by
  have e : stG cs g false A = stG cs g false (A.take n ++ A.drop n) := by rw [List.take_append_drop]
  rw [e, stG_append]
  congr 1
  by_cases hn : 0 < n ∧ n < A.length
  · have hl : (A.take n).length = n := by rw [List.length_take]; omega
    rw [lastB_at _ _ (by omega), hl];have e1 : (A.take n).getD (n - 1) 0 = A.getD (n - 1) 0 := by simp only [List.getD, List.getElem?_take]; rw [if_pos (by omega)]
    rw [e1]
    by_cases hq : grp cs (A.getD (n - 1) 0) = g
    · have h2 : ¬ grp cs (A.getD n 0) = g := fun hh => h hn.1 hn.2 ⟨hq, hh⟩
      rw [decide_eq_true hq, stG_tf (A.drop n)];have e2 : (A.drop n).getD 0 0 = A.getD n 0 := by simp [List.getD]
      rw [e2, if_neg (fun hh => h2 hh.2)]; omega
    · rw [decide_eq_false hq]
  · by_cases h0 : n = 0
    · subst h0; simp [lastB]
    · rw [CM (by omega)]; simp [stG]
theorem sumG_set {cs : List Car} {g : Int} (X : List Int) : ∀ (ts : List (List Int)) (i : Nat), i < ts.length → sumG cs g (ts.set i X) + stG cs g false (ts.getD i []) = sumG cs g ts + stG cs g false X := by
  intro ts
  induction ts with
  | nil => intro i h; simp at h
  | cons t ts ih =>
    intro i h;cases i with
    | zero => simp only [List.set_cons_zero, sumG, List.getD_cons_zero]; omega
    | succ i => simp only [List.set_cons_succ, sumG, List.getD_cons_succ]; have := ih i (by simpa using h); omega
theorem free_cut {Y : Yard} {s : Shift} (m : MayOk Y s) (g : Int) (hg : 0 < g) : 0 < (EX Y s).toNat → (EX Y s).toNat < (trk Y s.frm).length → ¬ (grp Y.cars ((trk Y s.frm).getD ((EX Y s).toNat - 1) 0) = g ∧ grp Y.cars ((trk Y s.frm).getD (EX Y s).toNat 0) = g) := fun h1 h2 hh => by
  have hf := m.free;have e : EX Y s = ↑(EX Y s).toNat := by omega
  rw [e, NL h2 (by rw [hh.2]; exact hg) h1 (hh.1.trans hh.2.symm)] at hf;cases hf
theorem moved_trk {Y : Yard} {s : Shift} (m : MayOk Y s) : trk (moved Y s) s.frm = (trk Y s.frm).take (EX Y s).toNat ∧ trk (moved Y s) s.to = trk Y s.to ++ (trk Y s.frm).drop (EX Y s).toNat := by
  have hf := m.frm; have ht := m.to; have hne := m.ne;have hne' : s.frm.toNat ≠ s.to.toNat := by omega
  constructor
  · simp only [trk, moved, List.getD]
    rw [List.getElem?_set_self (by rw [List.length_set]; omega)]; rfl
  · simp only [trk, moved, List.getD]
    rw [List.getElem?_set_ne hne', List.getElem?_set_self (by omega)]; rfl
theorem moved_other {Y : Yard} {s : Shift} {k : Nat} (h1 : k ≠ s.frm.toNat) (h2 : k ≠ s.to.toNat) : (moved Y s).tracks.getD k [] = Y.tracks.getD k [] := by
  simp only [moved, List.getD];rw [List.getElem?_set_ne (Ne.symm h1), List.getElem?_set_ne (Ne.symm h2)]
theorem lenOf_cut (cs : List Car) (A : List Int) (n : Nat) : lenOf cs A = lenOf cs (A.take n) + lenOf cs (A.drop n) := by
  rw [← KG, List.take_append_drop]
theorem moved_sum {Y : Yard} {s : Shift} (m : MayOk Y s) (g : Int) (hg : 0 < g) : sumG Y.cars g (moved Y s).tracks ≤ sumG Y.cars g Y.tracks := by
  have hf := m.frm; have ht := m.to; have hne := m.ne;have hne' : s.to.toNat ≠ s.frm.toNat := by omega
  have hc := stG_cut (cs := Y.cars) (g := g) (A := trk Y s.frm) (n := (EX Y s).toNat) (free_cut m g hg);have ha := stG_app_le (cs := Y.cars) (g := g) (trk Y s.to) ((trk Y s.frm).drop (EX Y s).toNat);have s1 := sumG_set (cs := Y.cars) (g := g) (trk Y s.to ++ (trk Y s.frm).drop (EX Y s).toNat) Y.tracks s.to.toNat (by omega);have s2 := sumG_set (cs := Y.cars) (g := g) ((trk Y s.frm).take (EX Y s).toNat) (Y.tracks.set s.to.toNat (trk Y s.to ++ (trk Y s.frm).drop (EX Y s).toNat)) s.frm.toNat (by rw [List.length_set]; omega);have e2 : (Y.tracks.set s.to.toNat (trk Y s.to ++ (trk Y s.frm).drop (EX Y s).toNat)).getD s.frm.toNat [] = trk Y s.frm := by
    simp only [trk, List.getD];rw [List.getElem?_set_ne hne']
  rw [e2] at s2;have e1 : Y.tracks.getD s.to.toNat [] = trk Y s.to := rfl;rw [e1] at s1;show sumG Y.cars g ((Y.tracks.set s.to.toNat _).set s.frm.toNat _) ≤ _;omega
theorem Fine.mv {Y : Yard} {s : Shift} (f : Fine Y) (h : BJ Y s = 0) : Fine (moved Y s) := by
  have m := mayOk h;have k := MQ h;have gd := f.good.moved h;have hf := m.frm; have ht := m.to; have hne := m.ne;have sm := f.good.small;refine ⟨f.cars, f.carOk, f.room1, f.room3, f.roomOk, by rw [k.len]; exact f.len, gd.ok, k.perm.nodup_iff.2 f.nodup, fun i hi => ?_, by rw [k.perm.length_eq]; exact f.all, ?_⟩
  · rw [k.len] at hi
    have t1 := moved_trk m;have e0 : (moved Y s).cars = Y.cars := rfl;have e9 : (moved Y s).room = Y.room := rfl;rw [e0, e9]
    by_cases h1 : i = s.frm.toNat
    · subst h1
      have e : (moved Y s).tracks.getD s.frm.toNat [] = _ := t1.1;rw [e];have h2 := f.fits s.frm.toNat hi;have h3 := lenOf_cut Y.cars (trk Y s.frm) (EX Y s).toNat;have h4 := DU sm ((trk Y s.frm).drop (EX Y s).toNat);have e5 : Y.tracks.getD s.frm.toNat [] = trk Y s.frm := rfl;rw [e5] at h2;omega
    · by_cases h2 : i = s.to.toNat
      · subst h2
        have e : (moved Y s).tracks.getD s.to.toNat [] = _ := t1.2;rw [e, KG];have := m.fits;omega
      · rw [moved_other h1 h2]; exact f.fits i hi
  · rw [groups_sum]
    intro g hg;have h1 := groups_sum.1 f.groups g hg;have h2 := moved_sum m g hg;exact Nat.le_trans h2 h1
theorem playFrom_app : ∀ (a : List Shift) (b : List Shift) {Y Z : Yard}, BM Y a = (Z, 0) → BM Y (a ++ b) = BM Z b := by
  intro a
  induction a with
  | nil => intro b Y Z h; simp only [BM, Prod.mk.injEq, and_true] at h; subst h; rfl
  | cons s a ih =>
    intro b Y Z h;simp only [List.cons_append, BM] at h ⊢
    by_cases hm : BJ Y s = 0
    · rw [if_pos hm] at h ⊢; exact ih b h
    · rw [if_neg hm] at h
      simp only [Prod.mk.injEq] at h;exact absurd h.2 hm
theorem OT {Y : Yard} {s : Shift} (h : BJ Y s = 0) : BM Y [s] = (moved Y s, 0) := by simp only [BM]; rw [if_pos h]
theorem playFrom_fine : ∀ (l : List Shift) {Y X : Yard}, Fine Y → BM Y l = (X, 0) → Fine X := by
  intro l
  induction l with
  | nil => intro Y X f h; simp only [BM, Prod.mk.injEq, and_true] at h; subst h; exact f
  | cons s l ih =>
    intro Y X f h;simp only [BM] at h
    by_cases hm : BJ Y s = 0
    · rw [if_pos hm] at h; exact ih (f.mv hm) h
    · rw [if_neg hm] at h; simp only [Prod.mk.injEq] at h; exact absurd h.2 hm
theorem LF {Y X : Yard} {l : List Shift} (h : Valid Y) (hp : BM Y l = (X, 0)) : BN Y l = (X, 0) ∧ Valid X ∧ Kin Y X := by
  exact ⟨(FF h).trans hp, (playFrom_fine l h.fine hp).valid, playFrom_kin l hp⟩
end Go.Sh
namespace Go.Proofs.YtcaocbhbofejnaaGreatDoor
open Go Go.Sl Go.Sh
set_option maxRecDepth 100000
noncomputable def c_CheckR (p : List Nat) : Code := sub (AU Tryz.f44) p
theorem JZ (I : Imm) (y : Value) (Y : Yard) (y_f : IsYard I y Y) : CtV Tryz.prog 44 #[y] I (vI (AH Y)) := by
 obtain ⟨y1, y2, y3, d1, a6, a7, a8⟩ := id y_f;subst d1;obtain ⟨a0, a1, b5, b8, b0, b6, b7, b9⟩ := id a6;subst b0;obtain ⟨a2, a3, c0, c3, b2, c1, c2, c4⟩ := id a7;subst b2;obtain ⟨a4, a5, c5, c8, b4, b3, c6, c7, c9, d0⟩ := id a8;subst b3;refine fr (args := [_]) (N := 11) Tryz.func44 (fun F => ?_);show Run _ _ (c_CheckR []) _ _ [(0, .agg #[vS a0 Y.cars.length a1, vS a2 Y.room.length a3, vS a4 Y.tracks.length a5])] _ _;refine rnm (rqr ?_);refine sS (sb 1 26 #[vS a0 Y.cars.length a1, vS a2 Y.room.length a3, vS a4 Y.tracks.length a5] (fun b1 => (sp 1 [(2, vI (0))] (se (rq (rqr (sd (dnb 4 0 0 b1 [vS a0 Y.cars.length a1, vS a2 Y.room.length a3, vS a4 Y.tracks.length a5]) (sd (dc 5 (fun I' hI => (checkCoaches_ct I' _ (Y) ((BE a6 a7 a8).mono hI) :))) (sp 1 [(3, vI ((CO Y)))] (sn (sp 2 [(7, .bool (!(cmp .eql ((CO Y)) (0))))] (se (rc 7 rfl (fun h1 => ?_) (fun h1 => ?_))))))))))))))
 ·
  have a9 := h1;have h1 := CU (CN h1);refine rqr (sp 2 [(2, vI ((CO Y)))] (se (BP ((RP (AD (t := 2) [] (by kernel_rfl) rfl (TC _ (TR _)) (IR _) ?_))))));exact ⟨congrArg (Value.int .i64) (Eq.trans (b := PX Y) (if_neg (by omega)).symm (refCheck_eq Y)), rfl⟩
 have a9 := h1;have h1 := CV (CE h1);refine AK (NX (rqr (sd (dnb 9 0 0 b1 [vS a0 Y.cars.length a1, vS a2 Y.room.length a3, vS a4 Y.tracks.length a5]) ?_)));have hz := coachErr_zero (show CO Y = 0 by omega);refine sd (dc 10 (fun I' hI => (checkTracksR_ct I' _ (Y) ((BE a6 a7 a8).mono hI) (by exact hz.1) (by exact hz.2) :))) (sp 1 [(2, vI ((FG Y)))] (se (BP (AD (t := 2) [] (by kernel_rfl) rfl (TC _ (TR _)) (IR _) ?_))));exact ⟨congrArg (Value.int .i64) (Eq.trans (b := PX Y) (if_pos (by omega)).symm (refCheck_eq Y)), rfl⟩
noncomputable def c_checkDraw (p : List Nat) : Code := sub (AU Tryz.f97) p
set_option maxHeartbeats 2000000 in
theorem KC (I : Imm) (y : Value) (Y : Yard) (s : Shift) (y_f : IsYard I y Y) (ho : OkAll Y.cars Y.tracks) (hs : Small Y.cars) (hl : Y.room.length = Y.tracks.length) (hq : ∀ t ∈ Y.tracks, t.length ≤ 1000000) : CtV Tryz.prog 97 #[y, .agg #[vI s.frm, vI s.to, vI s.many]] I (vI (BJ Y s)) := by
 obtain ⟨y1, y2, y3, k8, b4, b5, b6⟩ := id y_f;subst k8;obtain ⟨a2, a3, e0, e1, e8, j8, j9, c1⟩ := id b4;subst e8;obtain ⟨a4, a5, k0, k3, e9, k1, k2, c2⟩ := id b5;subst e9;obtain ⟨a0, a1, k4, k7, f1, f0, k5, k6, a9, d1⟩ := id b6;subst f0;refine fr (args := [_, _]) (N := 102) Tryz.func97 (fun F => ?_);show Run _ _ (c_checkDraw []) _ _ [(0, .agg #[vS a2 Y.cars.length a3, vS a4 Y.room.length a5, vS a0 Y.tracks.length a1]), (1, .agg #[vI (s.frm), vI (s.to), vI (s.many)])] _ _;refine rnm (rqr ?_);refine sS (sb 2 26 #[vS a2 Y.cars.length a3, vS a4 Y.room.length a5, vS a0 Y.tracks.length a1] (fun b1 => (sS (sb 3 52 #[vI (s.frm), vI (s.to), vI (s.many)] (fun b3 => (sp 1 [(4, vI (0))] (se (rq (rq ?_)))))))));refine EZ (fun a w => Slots 102 [(2, vP b1 0), (3, vP b3 0), (4, vI (0)), (25, .bool ((!(inB s.frm 0 ((↑(Y.tracks.length)) - 1))) || (!(inB s.to 0 ((↑(Y.tracks.length)) - 1)))))] a ∧ a.defers = [] ∧ St I ((bX b3 #[vI (s.frm), vI (s.to), vI (s.many)] 52) :: (bX b1 #[vS a2 Y.cars.length a3, vS a4 Y.room.length a5, vS a0 Y.tracks.length a1] 26) :: F) w) ?_ ?_
 ·
  refine rr (sp 1 [(8, vP b3 0)] (sd (dlb 9 0 0 b3 (vI (s.frm))) (sp 1 [(10, vP b1 2)] (sd (dlb 11 1 2 b1 (vS a0 Y.tracks.length a1)) (sp 1 [(12, vI (↑(Y.tracks.length)))] (sd (dsb 13 (↑(Y.tracks.length)) (1)) (sd (dc 14 (fun I' hI => (ET I' (s.frm) (0) ((↑(Y.tracks.length)) - 1) :))) (sp 2 [(16, .bool (!(inB s.frm 0 ((↑(Y.tracks.length)) - 1))))] ?_))))))));refine BV 16 rfl (fun h1 => ?_) (fun h1 => ?_)
  ·
   have a6 := h1;have a6 := CN a6;have c4 := IK a6;refine sp 9 [(25, .bool (true))] (ee ?_);refine BD (fun a w hS hD hW => ⟨hS.sub (.cons 2 rfl (.cons 3 rfl (.cons 4 rfl (.consE 25 rfl (congrArg Value.bool (by simp only [h1, kA, kB, kC, kD, kE, kF, kG, kH, kI, kJ])) (.nil _))))), hD, hW⟩)
  have a6 := h1;have a6 := CE a6;have c4 := DT a6;refine sp 1 [(17, vP b3 1)] (sd (dlb 18 0 1 b3 (vI (s.to))) (sp 1 [(19, vP b1 2)] (sd (dlb 20 1 2 b1 (vS a0 Y.tracks.length a1)) (sp 1 [(21, vI (↑(Y.tracks.length)))] (sd (dsb 22 (↑(Y.tracks.length)) (1)) (sd (dc 23 (fun I' hI => (ET I' (s.to) (0) ((↑(Y.tracks.length)) - 1) :))) (sp 2 [(25, .bool (!(inB s.to 0 ((↑(Y.tracks.length)) - 1))))] (ee ?_))))))));refine BD (fun a w hS hD hW => ⟨hS.sub (.cons 2 rfl (.cons 3 rfl (.cons 4 rfl (.consE 25 rfl (congrArg Value.bool (by simp only [h1, kA, kB, kC, kD, kE, kF, kG, kH, kI, kJ])) (.nil _))))), hD, hW⟩)
 rintro a w ⟨hS, hD, hW⟩
 refine AX hS hD hW ?_;clear hS hD hW a w;refine rc 25 rfl (fun h2 => ?_) (fun h2 => ?_)
 ·
  have d2 := h2;refine rqr (sp 1 [(4, vI (3))] (se (BP ((RP (AD (t := 4) [] (by kernel_rfl) rfl (TC _ (TC _ (TR _))) (IR _) ?_))))));exact ⟨congrArg (Value.int .i64) (mayErr_12 rfl d2).symm, rfl⟩
 have d2 := h2;obtain ⟨b7, b8⟩ := or_f h2;have b7 := CE b7;have e2 := DT b7;have b8 := CE b8;have e3 := DT b8;have g1 := b7;have g2 := b8;refine AK (NX (rq (rqr (sp 1 [(26, vP b3 0)] (sd (dlb 27 0 0 b3 (vI (s.frm))) (sp 1 [(28, vP b3 1)] (sd (dlb 29 0 1 b3 (vI (s.to))) (sp 1 [(30, .bool (cmp .eql (s.frm) (s.to)))] (se (rc 30 rfl (fun h3 => ?_) (fun h3 => ?_)))))))))))
 ·
  have e4 := h3;have h3 := CV h3;refine rqr (sp 1 [(4, vI (4))] (se (BP ((RP (AD (t := 4) [] (by kernel_rfl) rfl (TC _ (TC _ (TR _))) (IR _) ?_))))));exact ⟨congrArg (Value.int .i64) (mayErr_3 rfl g1 g2 h3).symm, rfl⟩
 have e4 := h3;have h3 := CU h3;have g3 := h3;refine AK (NX (rq (rqr (sp 1 [(31, vP b3 2)] (sd (dlb 32 0 2 b3 (vI (s.many))) (sp 1 [(33, .bool (cmp .lss (s.many) (1)))] (se (rc 33 rfl (fun h4 => ?_) (fun h4 => ?_)))))))))
 ·
  have e5 := h4;have h4 := BX h4;refine rqr (sp 1 [(4, vI (7))] (se (BP ((RP (AD (t := 4) [] (by kernel_rfl) rfl (TC _ (TC _ (TR _))) (IR _) ?_))))));exact ⟨congrArg (Value.int .i64) (mayErr_4 rfl g1 g2 g3 (by omega)).symm, rfl⟩
 have e5 := h4;have h4 := CB h4;refine AK (NX (rqr (sp 1 [(34, vP b1 2)] (sd (dlb 35 1 2 b1 (vS a0 Y.tracks.length a1)) (sp 1 [(36, vP b3 0)] (sd (dlb 37 0 0 b3 (vI (s.frm))) ?_))))));have k9 := DT g1; have l0 := DT g2;refine sd (diI 38 1 (s.frm) a9.addr) ?_;have b9 := d1 ((s.frm : Int).toNat) (by omega);obtain ⟨a7, a8, f3, f6, d5, f4, f5, c0⟩ := id b9;rw [d5] at b9;refine sd (BB (dl 39 (BR a9 ((s.frm : Int).toNat) (by omega))) d5) (sp 1 [(5, vS a7 (Y.tracks.getD ((s.frm : Int).toNat) []).length a8)] (se (rq (rqr (sp 1 [(40, vP b3 2)] (sd (dlb 41 0 2 b3 (vI (s.many))) (sp 3 [(44, .bool (cmp .gtr (s.many) (↑((Y.tracks.getD ((s.frm : Int).toNat) []).length))))] (se (rc 44 rfl (fun h5 => ?_) (fun h5 => ?_))))))))))
 ·
  have e6 := h5;have h5 := FL h5;refine rqr (sp 1 [(4, vI (6))] (se (BP ((RP (AD (t := 4) [] (by kernel_rfl) rfl (TC _ (TC _ (TR _))) (IR _) ?_))))));exact ⟨congrArg (Value.int .i64) (mayErr_5 rfl g1 g2 g3 (by omega) h5).symm, rfl⟩
 have e6 := h5;have h5 := FT h5;have g5 := h5;refine AK (NX (rq (rqr (sp 3 [(47, vP b3 2), (46, vI (↑((Y.tracks.getD ((s.frm : Int).toNat) []).length)))] (sd (dlb 48 0 2 b3 (vI (s.many))) (sd (dsb 49 (↑((Y.tracks.getD ((s.frm : Int).toNat) []).length)) (s.many)) (sp 1 [(6, vI ((↑((Y.tracks.getD ((s.frm : Int).toNat) []).length)) - s.many))] (sn (sp 2 [(51, .bool (cmp .gtr ((↑((Y.tracks.getD ((s.frm : Int).toNat) []).length)) - s.many) (0)))] (se (rc 51 rfl (fun h6 => ?_) (fun h6 => ?_))))))))))))
 ·
  have e7 := h6;have h6 := FL h6;refine rq ?_;refine rd0 6 (ox 1 [(52, vP b1 0)] ?_);refine AB (dlb 53 1 0 b1 (vS a2 Y.cars.length a3)) (ox 2 [(55, vI ((↑((Y.tracks.getD ((s.frm : Int).toNat) []).length)) - s.many)), (54, vS a7 (Y.tracks.getD ((s.frm : Int).toNat) []).length a8)] ?_);refine AB (diI 56 1 ((↑((Y.tracks.getD ((s.frm : Int).toNat) []).length)) - s.many) c0.addr) ?_;refine AB (dl 57 (BI c0 (((↑((Y.tracks.getD ((s.frm : Int).toNat) []).length)) - s.many : Int).toNat) (by omega))) ?_;refine BC ?_;have l1 := (ho.at s.frm.toNat (by omega)).at ((↑((Y.tracks.getD ((s.frm).toNat) []).length) : Int) - s.many).toNat (by omega);refine sd (diI 58 6 ((Y.tracks.getD ((s.frm : Int).toNat) []).getD (((↑((Y.tracks.getD ((s.frm : Int).toNat) []).length)) - s.many : Int).toNat) 0) c1.addr) (sp 1 [(59, .pointer (some ⟨e0, e1 + (((Y.tracks.getD ((s.frm : Int).toNat) []).getD (((↑((Y.tracks.getD ((s.frm : Int).toNat) []).length)) - s.many : Int).toNat) 0 : Int).toNat) * 6 + 3, none⟩))] (sd (dl 60 (FA c1 (((Y.tracks.getD ((s.frm : Int).toNat) []).getD (((↑((Y.tracks.getD ((s.frm : Int).toNat) []).length)) - s.many : Int).toNat) 0 : Int).toNat) (by omega) 3 (by decide) (v := vI ((Y.cars.getD (((Y.tracks.getD ((s.frm : Int).toNat) []).getD (((↑((Y.tracks.getD ((s.frm : Int).toNat) []).length)) - s.many : Int).toNat) 0 : Int).toNat) AM).grp)) rfl)) (sp 1 [(7, vI ((Y.cars.getD (((Y.tracks.getD ((s.frm : Int).toNat) []).getD (((↑((Y.tracks.getD ((s.frm : Int).toNat) []).length)) - s.many : Int).toNat) 0 : Int).toNat) AM).grp))] (se (rq ?_)))));refine EZ (fun a w => Slots 102 [(2, vP b1 0), (3, vP b3 0), (4, vI (0)), (5, vS a7 (Y.tracks.getD ((s.frm : Int).toNat) []).length a8), (76, .bool ((cmp .gtr ((Y.cars.getD (((Y.tracks.getD ((s.frm : Int).toNat) []).getD (((↑((Y.tracks.getD ((s.frm : Int).toNat) []).length)) - s.many : Int).toNat) 0 : Int).toNat) AM).grp) (0)) && (cmp .eql ((Y.cars.getD (((Y.tracks.getD ((s.frm : Int).toNat) []).getD (((↑((Y.tracks.getD ((s.frm : Int).toNat) []).length)) - s.many : Int).toNat) 0 : Int).toNat) AM).grp) ((Y.cars.getD (((Y.tracks.getD ((s.frm : Int).toNat) []).getD ((((↑((Y.tracks.getD ((s.frm : Int).toNat) []).length)) - s.many) - 1 : Int).toNat) 0 : Int).toNat) AM).grp))))] a ∧ a.defers = [] ∧ St I ((bX b3 #[vI (s.frm), vI (s.to), vI (s.many)] 52) :: (bX b1 #[vS a2 Y.cars.length a3, vS a4 Y.room.length a5, vS a0 Y.tracks.length a1] 26) :: F) w) ?_ ?_
  ·
   refine rd0 14 (ox 3 [(63, .bool (cmp .gtr ((Y.cars.getD (((Y.tracks.getD ((s.frm : Int).toNat) []).getD (((↑((Y.tracks.getD ((s.frm : Int).toNat) []).length)) - s.many : Int).toNat) 0 : Int).toNat) AM).grp) (0)))] ?_);refine HC 63 (fun h7 => ?_) (fun h7 => ?_)
   ·
    have b2 := h7;have b2 := FL b2;refine ox 2 [(65, vP b1 0), (64, vI ((Y.cars.getD (((Y.tracks.getD ((s.frm : Int).toNat) []).getD (((↑((Y.tracks.getD ((s.frm : Int).toNat) []).length)) - s.many : Int).toNat) 0 : Int).toNat) AM).grp))] ?_;refine AB (dlb 66 1 0 b1 (vS a2 Y.cars.length a3)) (ox 2 [(68, vI ((↑((Y.tracks.getD ((s.frm : Int).toNat) []).length)) - s.many)), (67, vS a7 (Y.tracks.getD ((s.frm : Int).toNat) []).length a8)] ?_);refine AB (dsb 69 ((↑((Y.tracks.getD ((s.frm : Int).toNat) []).length)) - s.many) (1)) ?_;refine AB (diI 70 1 (((↑((Y.tracks.getD ((s.frm : Int).toNat) []).length)) - s.many) - 1) c0.addr) ?_;refine AB (dl 71 (BI c0 ((((↑((Y.tracks.getD ((s.frm : Int).toNat) []).length)) - s.many) - 1 : Int).toNat) (by omega))) ?_;have f2 := (ho.at s.frm.toNat (by omega)).at ((↑(Y.tracks.getD ((s.frm).toNat) []).length : Int) - s.many - 1).toNat (by omega);refine AB (diI 72 6 ((Y.tracks.getD ((s.frm : Int).toNat) []).getD ((((↑((Y.tracks.getD ((s.frm : Int).toNat) []).length)) - s.many) - 1 : Int).toNat) 0) c1.addr) (ox 1 [(73, .pointer (some ⟨e0, e1 + (((Y.tracks.getD ((s.frm : Int).toNat) []).getD ((((↑((Y.tracks.getD ((s.frm : Int).toNat) []).length)) - s.many) - 1 : Int).toNat) 0 : Int).toNat) * 6 + 3, none⟩))] ?_);refine AB (dl 74 (FA c1 (((Y.tracks.getD ((s.frm : Int).toNat) []).getD ((((↑((Y.tracks.getD ((s.frm : Int).toNat) []).length)) - s.many) - 1 : Int).toNat) 0 : Int).toNat) (by omega) 3 (by decide) (v := vI ((Y.cars.getD (((Y.tracks.getD ((s.frm : Int).toNat) []).getD ((((↑((Y.tracks.getD ((s.frm : Int).toNat) []).length)) - s.many) - 1 : Int).toNat) 0 : Int).toNat) AM).grp)) rfl)) ?_;refine BC (sp 2 [(76, .bool (cmp .eql ((Y.cars.getD (((Y.tracks.getD ((s.frm : Int).toNat) []).getD (((↑((Y.tracks.getD ((s.frm : Int).toNat) []).length)) - s.many : Int).toNat) 0 : Int).toNat) AM).grp) ((Y.cars.getD (((Y.tracks.getD ((s.frm : Int).toNat) []).getD ((((↑((Y.tracks.getD ((s.frm : Int).toNat) []).length)) - s.many) - 1 : Int).toNat) 0 : Int).toNat) AM).grp)))] (ee ?_));refine BD (fun a w hS hD hW => ⟨hS.sub (.cons 2 rfl (.cons 3 rfl (.cons 4 rfl (.cons 5 rfl (.consE 76 rfl (congrArg Value.bool (by simp only [h7, kA, kB, kC, kD, kE, kF, kG, kH, kI, kJ])) (.nil _)))))), hD, hW⟩)
   have b2 := h7;have b2 := FT b2;refine ox 11 [(74, undef), (64, undef)] ?_;refine BC (sp 2 [(76, .bool (false))] (ee ?_));refine BD (fun a w hS hD hW => ⟨hS.sub (.cons 2 rfl (.cons 3 rfl (.cons 4 rfl (.cons 5 rfl (.consE 76 rfl (congrArg Value.bool (by simp only [h7, kA, kB, kC, kD, kE, kF, kG, kH, kI, kJ])) (.nil _)))))), hD, hW⟩)
  rintro a w ⟨hS, hD, hW⟩
  refine AX hS hD hW ?_;clear hS hD hW a w;refine rc 76 rfl (fun h8 => ?_) (fun h8 => ?_)
  ·
   have c5 := h8;obtain ⟨d3, d4⟩ := and_t h8;have d3 := FL d3;have d4 := CV d4;have gc : BT Y.cars (trk Y s.frm) (EX Y s) = true := (coupled_at (by show 0 < (↑(Y.tracks.getD ((s.frm).toNat) []).length : Int) - s.many; omega) (by show (↑(Y.tracks.getD ((s.frm).toNat) []).length : Int) - s.many ≤ ↑(Y.tracks.getD ((s.frm).toNat) []).length - 1; omega)).trans c5;refine rqr (sp 1 [(4, vI (9))] (se (BP ((RP (AD (t := 4) [] (by kernel_rfl) rfl (TC _ (TC _ (TR _))) (IR _) ?_))))));exact ⟨congrArg (Value.int .i64) (MS rfl g1 g2 g3 (by omega) (Int.not_lt.2 g5) (by rw [gc, Bool.true_or])).symm, rfl⟩
  have c5 := h8;have gc : BT Y.cars (trk Y s.frm) (EX Y s) = false := (coupled_at (by show 0 < (↑(Y.tracks.getD ((s.frm).toNat) []).length : Int) - s.many; omega) (by show (↑(Y.tracks.getD ((s.frm).toNat) []).length : Int) - s.many ≤ ↑(Y.tracks.getD ((s.frm).toNat) []).length - 1; omega)).trans c5;refine AK (NX (rq (rq ?_)));refine rd0 24 ?_;refine AB (dnb 77 1 0 b1 [vS a2 Y.cars.length a3, vS a4 Y.room.length a5, vS a0 Y.tracks.length a1]) (ox 1 [(78, vP b1 2)] ?_);refine AB (dlb 79 1 2 b1 (vS a0 Y.tracks.length a1)) (ox 1 [(80, vP b3 1)] ?_);refine AB (dlb 81 0 1 b3 (vI (s.to))) ?_;refine AB (diI 82 1 (s.to) a9.addr) ?_;have c7 := d1 ((s.to : Int).toNat) (by omega);obtain ⟨f7, f9, f8, g6, d6, g0, g4, g7⟩ := id c7;rw [d6] at c7;refine AB (BB (dl 83 (BR a9 ((s.to : Int).toNat) (by omega))) d6) ?_;refine AB (dc 84 (fun I' hI => (KH I' _ (Y) _ _ ((BE b4 b5 b6).mono hI) (c7.mono hI) (by exact ho.at s.to.toNat (by omega)) (by assumption) :))) ?_;refine AB (dnb 85 1 0 b1 [vS a2 Y.cars.length a3, vS a4 Y.room.length a5, vS a0 Y.tracks.length a1]) (ox 4 [(89, vP b3 2), (88, vI (↑((Y.tracks.getD ((s.frm : Int).toNat) []).length))), (86, vS a7 (Y.tracks.getD ((s.frm : Int).toNat) []).length a8)] ?_);refine AB (dlb 90 0 2 b3 (vI (s.many))) ?_;refine AB (dsb 91 (↑((Y.tracks.getD ((s.frm : Int).toNat) []).length)) (s.many)) ?_;have c9 := b9.cutLo (((↑((Y.tracks.getD ((s.frm).toNat) []).length) : Int) - s.many).toNat) (by omega);obtain ⟨i4, i6, i5, i9, d8, i7, i8, j0⟩ := id c9;rw [d8] at c9;refine AB (BB (DB (x := (.tmp 86)) (lo := (some (.tmp 91))) (hi := none) (T := 23) (e := 3) (sz := 1) (((↑((Y.tracks.getD ((s.frm).toNat) []).length) : Int) - s.many).toNat) ((Y.tracks.getD ((s.frm : Int).toNat) []).length) (d := 92) (ty := 23) (gd := none) (by kernel_rfl) rfl (by kernel_rfl) (by kernel_rfl) rfl (.inr ⟨_, .i64, rfl, (GK rfl (by omega))⟩) (.inl ⟨rfl, rfl⟩) (by omega) (by omega)) d8) ?_;refine AB (dc 93 (fun I' hI => (KH I' _ (Y) _ _ ((BE b4 b5 b6).mono hI) (c9.mono hI) (by exact (ho.at s.frm.toNat (by omega)).drop _) (by assumption) :))) ?_;refine AB (da 94 ((lenOf Y.cars (Y.tracks.getD ((s.to : Int).toNat) []))) ((lenOf Y.cars ((Y.tracks.getD ((s.frm : Int).toNat) []).drop (((↑((Y.tracks.getD ((s.frm).toNat) []).length) : Int) - s.many).toNat)))) (hr := by have q1 := DU hs ((Y.tracks.getD ((s.frm).toNat) []).drop ((↑((Y.tracks.getD ((s.frm).toNat) []).length) : Int) - s.many).toNat); have q2 := DU hs (Y.tracks.getD s.to.toNat []); have q3 := hq _ (AL (d := []) (xs := Y.tracks) (k := s.frm.toNat) (by omega)); have q4 := hq _ (AL (d := []) (xs := Y.tracks) (k := s.to.toNat) (by omega)); simp only [LD] at q1; omega)) (ox 1 [(95, vP b1 1)] ?_);refine AB (dlb 96 1 1 b1 (vS a4 Y.room.length a5)) (ox 1 [(97, vP b3 1)] ?_);refine AB (dlb 98 0 1 b3 (vI (s.to))) ?_;refine AB (diI 99 1 (s.to) c2.addr) ?_;refine AB (dl 100 (BI c2 ((s.to : Int).toNat) (by omega))) ?_;refine BC (sp 1 [(101, .bool (cmp .gtr (((lenOf Y.cars (Y.tracks.getD ((s.to : Int).toNat) []))) + ((lenOf Y.cars ((Y.tracks.getD ((s.frm : Int).toNat) []).drop (((↑((Y.tracks.getD ((s.frm).toNat) []).length) : Int) - s.many).toNat))))) (Y.room.getD ((s.to : Int).toNat) 0)))] (se (rc 101 rfl (fun h9 => ?_) (fun h9 => ?_))))
  ·
   have c6 := h9;have h9 := FL h9;refine rqr (sp 1 [(4, vI (9))] (se (BP ((RP (AD (t := 4) [] (by kernel_rfl) rfl (TC _ (TC _ (TR _))) (IR _) ?_))))));exact ⟨congrArg (Value.int .i64) (MS rfl g1 g2 g3 (by omega) (Int.not_lt.2 g5) (by rw [gc, Bool.false_or, Int.add_comm]; exact c6)).symm, rfl⟩
  have c6 := h9;have h9 := FT h9;refine AK (NX (rqr (sp 1 [(4, vI (0))] (se (BP (AD (t := 4) [] (by kernel_rfl) rfl (TC _ (TC _ (TR _))) (IR _) ?_))))));exact ⟨congrArg (Value.int .i64) (PQ rfl g1 g2 g3 (by omega) (Int.not_lt.2 g5) (by rw [gc, Bool.false_or, Int.add_comm]; exact c6)).symm, rfl⟩
 have e7 := h6;have h6 := FT h6;have gc : BT Y.cars (trk Y s.frm) (EX Y s) = false := coupled_zero (by show (↑(Y.tracks.getD ((s.frm).toNat) []).length : Int) - s.many ≤ 0; omega);refine AK (NX (rq (rq ?_)));refine rd0 24 ?_;refine AB (dnb 77 1 0 b1 [vS a2 Y.cars.length a3, vS a4 Y.room.length a5, vS a0 Y.tracks.length a1]) (ox 1 [(78, vP b1 2)] ?_);refine AB (dlb 79 1 2 b1 (vS a0 Y.tracks.length a1)) (ox 1 [(80, vP b3 1)] ?_);refine AB (dlb 81 0 1 b3 (vI (s.to))) ?_;refine AB (diI 82 1 (s.to) a9.addr) ?_;have c8 := d1 ((s.to : Int).toNat) (by omega);obtain ⟨g8, h0, g9, i2, d7, i0, i1, i3⟩ := id c8;rw [d7] at c8;refine AB (BB (dl 83 (BR a9 ((s.to : Int).toNat) (by omega))) d7) ?_;refine AB (dc 84 (fun I' hI => (KH I' _ (Y) _ _ ((BE b4 b5 b6).mono hI) (c8.mono hI) (by exact ho.at s.to.toNat (by omega)) (by assumption) :))) ?_;refine AB (dnb 85 1 0 b1 [vS a2 Y.cars.length a3, vS a4 Y.room.length a5, vS a0 Y.tracks.length a1]) (ox 4 [(89, vP b3 2), (88, vI (↑((Y.tracks.getD ((s.frm : Int).toNat) []).length))), (86, vS a7 (Y.tracks.getD ((s.frm : Int).toNat) []).length a8)] ?_);refine AB (dlb 90 0 2 b3 (vI (s.many))) ?_;refine AB (dsb 91 (↑((Y.tracks.getD ((s.frm : Int).toNat) []).length)) (s.many)) ?_;have d0 := b9.cutLo (((↑((Y.tracks.getD ((s.frm).toNat) []).length) : Int) - s.many).toNat) (by omega);obtain ⟨j1, j3, j2, j6, d9, j4, j5, j7⟩ := id d0;rw [d9] at d0;refine AB (BB (DB (x := (.tmp 86)) (lo := (some (.tmp 91))) (hi := none) (T := 23) (e := 3) (sz := 1) (((↑((Y.tracks.getD ((s.frm).toNat) []).length) : Int) - s.many).toNat) ((Y.tracks.getD ((s.frm : Int).toNat) []).length) (d := 92) (ty := 23) (gd := none) (by kernel_rfl) rfl (by kernel_rfl) (by kernel_rfl) rfl (.inr ⟨_, .i64, rfl, (GK rfl (by omega))⟩) (.inl ⟨rfl, rfl⟩) (by omega) (by omega)) d9) ?_;refine AB (dc 93 (fun I' hI => (KH I' _ (Y) _ _ ((BE b4 b5 b6).mono hI) (d0.mono hI) (by exact (ho.at s.frm.toNat (by omega)).drop _) (by assumption) :))) ?_;refine AB (da 94 ((lenOf Y.cars (Y.tracks.getD ((s.to : Int).toNat) []))) ((lenOf Y.cars ((Y.tracks.getD ((s.frm : Int).toNat) []).drop (((↑((Y.tracks.getD ((s.frm).toNat) []).length) : Int) - s.many).toNat)))) (hr := by have q1 := DU hs ((Y.tracks.getD ((s.frm).toNat) []).drop ((↑((Y.tracks.getD ((s.frm).toNat) []).length) : Int) - s.many).toNat); have q2 := DU hs (Y.tracks.getD s.to.toNat []); have q3 := hq _ (AL (d := []) (xs := Y.tracks) (k := s.frm.toNat) (by omega)); have q4 := hq _ (AL (d := []) (xs := Y.tracks) (k := s.to.toNat) (by omega)); simp only [LD] at q1; omega)) (ox 1 [(95, vP b1 1)] ?_);refine AB (dlb 96 1 1 b1 (vS a4 Y.room.length a5)) (ox 1 [(97, vP b3 1)] ?_);refine AB (dlb 98 0 1 b3 (vI (s.to))) ?_;refine AB (diI 99 1 (s.to) c2.addr) ?_;refine AB (dl 100 (BI c2 ((s.to : Int).toNat) (by omega))) ?_;refine BC (sp 1 [(101, .bool (cmp .gtr (((lenOf Y.cars (Y.tracks.getD ((s.to : Int).toNat) []))) + ((lenOf Y.cars ((Y.tracks.getD ((s.frm : Int).toNat) []).drop (((↑((Y.tracks.getD ((s.frm).toNat) []).length) : Int) - s.many).toNat))))) (Y.room.getD ((s.to : Int).toNat) 0)))] (se (rc 101 rfl (fun c3 => ?_) (fun c3 => ?_))))
 ·
  have b0 := c3;have c3 := FL c3;refine rqr (sp 1 [(4, vI (9))] (se (BP ((RP (AD (t := 4) [] (by kernel_rfl) rfl (TC _ (TC _ (TR _))) (IR _) ?_))))));exact ⟨congrArg (Value.int .i64) (MS rfl g1 g2 g3 (by omega) (Int.not_lt.2 g5) (by rw [gc, Bool.false_or, Int.add_comm]; exact b0)).symm, rfl⟩
 have b0 := c3;have c3 := FT c3;refine AK (NX (rqr (sp 1 [(4, vI (0))] (se (BP (AD (t := 4) [] (by kernel_rfl) rfl (TC _ (TC _ (TR _))) (IR _) ?_))))));exact ⟨congrArg (Value.int .i64) (PQ rfl g1 g2 g3 (by omega) (Int.not_lt.2 g5) (by rw [gc, Bool.false_or, Int.add_comm]; exact b0)).symm, rfl⟩
end Go.Proofs.YtcaocbhbofejnaaGreatDoor
namespace Go.Sl
open Go
section
variable {ρ : Option Nat} {P : Program} {N : Nat} {ops : Array Oper} {i : Nat} {l : Sl} {I : Imm} {M : Seg} {ty : TypeId} {gd : Option (Nat × Bool)} {K : Sl → Imm → Seg → Prop}
end
inductive FpOk (ops : Array Oper) (i : Nat) (M : Seg) : List (Nat × Seg) → Prop
  | nil : FpOk ops i M []
  | wait {k : Nat} {R : Seg} {fp : List (Nat × Seg)} : wt ops i k = true → FpOk ops i M fp → FpOk ops i M ((k, R) :: fp)
  | none {k : Nat} {fp : List (Nat × Seg)} : FpOk ops i M fp → FpOk ops i M ((k, []) :: fp)
  | part {k : Nat} {R Sx : Seg} {fp : List (Nat × Seg)} : M.Perm (R ++ Sx) → FpOk ops i M fp → FpOk ops i M ((k, R) :: fp)
theorem FpOk.all {ops : Array Oper} {i : Nat} {M : Seg} {fp : List (Nat × Seg)} (h : FpOk ops i M fp) : ∀ p ∈ fp, wt ops i p.1 = true ∨ ∃ Sx, M.Perm (p.2 ++ Sx) := by
  induction h with
  | nil => intro p hp; simp at hp
  | wait h _ ih =>
    intro p hp;rcases List.mem_cons.1 hp with rfl | hp
    · exact .inl h
    · exact ih p hp
  | none _ ih =>
    intro p hp;rcases List.mem_cons.1 hp with rfl | hp
    · exact .inr ⟨M, List.Perm.refl _⟩
    · exact ih p hp
  | part h _ ih =>
    intro p hp;rcases List.mem_cons.1 hp with rfl | hp
    · exact .inr ⟨_, h⟩
    · exact ih p hp
section
variable {P : Program} {N : Nat} {ops : Array Oper} {als : List Nat} {al : List (Nat × Nat × Fresh)} {L0 : Sl} {F0 : Seg} {Kf : Sl → Imm → Seg → Prop} {fp : List (Nat × Seg)} {rest : List (Nat × Bool)} {i d : Nat} {v : Value} {l : Sl} {I : Imm} {M M' : Seg}
def lkB (d : Nat) (v : Value) (L0 : Sl) : Prop := match EH d L0 with | some u => v = u | none => True
theorem lkOk {L0 : Sl} {d : Nat} {v : Value} (h : lkB d v L0) : ∀ u, EH d L0 = some u → v = u := fun u hu => by
  unfold lkB at h; rw [hu] at h; exact h
theorem DW (h : Det P N ops i l I M d v) (next : OFPX P N ops als F0 Kf al L0 ((i, M) :: fp) rest ((d, v) :: l) I M) (hL : lkB d v L0 := by first | exact trivial | exact rfl) : OFPX P N ops als F0 Kf al L0 fp ((i, true) :: rest) l I M := ⟨d, v, M, [], h, by simp, lkOk hL, next⟩
theorem DH (h : Det P N ops i l I [] d v) (next : OFPX P N ops als F0 Kf al L0 ((i, []) :: fp) rest ((d, v) :: l) I M) (hL : lkB d v L0 := by first | exact trivial | exact rfl) : OFPX P N ops als F0 Kf al L0 fp ((i, true) :: rest) l I M := ⟨d, v, [], M, h, by simp, lkOk hL, next⟩
theorem JM {Rx Sx : Seg} (hp : M.Perm (Rx ++ Sx)) (h : Det P N ops i l I Rx d v) (next : OFPX P N ops als F0 Kf al L0 ((i, Rx) :: fp) rest ((d, v) :: l) I M) (hL : lkB d v L0 := by first | exact trivial | exact rfl) : OFPX P N ops als F0 Kf al L0 fp ((i, true) :: rest) l I M := ⟨d, v, Rx, Sx, h, hp, lkOk hL, next⟩
theorem ofx_al {E : TypeId} (ha : CH al i = some (d, .sl E)) (next : ∀ b, OFPX P N ops als F0 Kf al L0 fp rest ((d, .slice (some ⟨b, 0, none⟩) 0 0) :: l) I ((b, Obj.cells #[] E (0, 0)) :: M)) : OFPX P N ops als F0 Kf al L0 fp ((i, false) :: rest) l I M := by
  unfold OFPX; rw [ha]; exact next
theorem ofx_ac {T : TypeId} {cs : Array Value} (ha : CH al i = some (d, .cl T cs)) (next : ∀ b, OFPX P N ops als F0 Kf al L0 fp rest ((d, .pointer (some ⟨b, 0, none⟩)) :: l) I ((b, Obj.cells cs T (0, 0)) :: M)) : OFPX P N ops als F0 Kf al L0 fp ((i, false) :: rest) l I M := by
  unfold OFPX; rw [ha]; exact next
theorem ofx_bs {T : TypeId} {n : Nat} {cs : Array Value} (ha : CH al i = some (d, .bs T n cs)) (next : ∀ b, OFPX P N ops als F0 Kf al L0 fp rest ((d, .slice (some ⟨b, 0, none⟩) n n) :: l) I ((b, Obj.cells cs T (0, 0)) :: M)) : OFPX P N ops als F0 Kf al L0 fp ((i, false) :: rest) l I M := by
  unfold OFPX; rw [ha]; exact next
def dsB (ops : Array Oper) (i : Nat) (L0 : Sl) : Bool := match DR ops i with | some d => (EH d L0).isNone | none => true
theorem dsB_nil (ops : Array Oper) (i : Nat) : dsB ops i [] = true := by unfold dsB; split <;> rfl
theorem dsB_spec {L0 : Sl} (h : dsB ops i L0 = true) : ∀ d, DR ops i = some d → EH d L0 = none := fun d hd => by
  unfold dsB at h; rw [hd] at h; simpa using h
def knB (ops : Array Oper) (als : List Nat) (al : List (Nat × Nat × Fresh)) (rest : List (Nat × Bool)) : Bool := als.all fun j => (CH al j).isSome || rest.any fun x => !x.2 && (wt ops j x.1 && !(isAl als x.1))
theorem knB_spec (h : knB ops als al rest = true) : Known ops als al rest := fun j hj => by
  obtain ⟨k, hk, e⟩ := List.any_eq_true.1 (show (als.any fun k => Nat.beq k j) = true from hj);obtain rfl := Nat.eq_of_beq_eq_true e;have := List.all_eq_true.1 h k hk;simp only [Bool.or_eq_true, List.any_eq_true, Bool.and_eq_true, Bool.not_eq_true'] at this;rcases this with h1 | ⟨⟨a, b⟩, h2, h3, h4, h5⟩
  · exact .inl (Option.isSome_iff_exists.1 h1)
  · simp only at h3 h4 h5
    subst h3;exact .inr ⟨a, h2, h4, h5⟩
theorem HE {Mx : Seg → Seg} (ha : CH al i = none) (hp : ∀ F, (Mx F).Perm (M ++ F))
    (h : ∀ F, Stp P N ops i l I (Mx F) fun l' I' M' => ∃ M1 al' L0', M'.Perm (M1 ++ F) ∧ FpOk ops i M1 fp ∧ Ext P N ops als al L0 al' L0' l' ∧ knB ops als al' rest = true ∧ OFPX P N ops als F0 Kf al' L0' fp rest l' I' M1) (hS : dsB ops i L0 = true := by first | exact dsB_nil _ _ | kernel_rfl) : OFPX P N ops als F0 Kf al L0 fp ((i, false) :: rest) l I M := by
  unfold OFPX; rw [ha];refine ⟨dsB_spec hS, ?_⟩;exact fun F _ => Stp.perm (hp F).symm (Stp.mono (h F) fun l' I' M' ⟨M1, al', L0', a, b, e, k, c⟩ => ⟨M1, al', L0', a, b.all, e, knB_spec k, c⟩)
theorem LO {F M1 : Seg} (hp : M'.Perm (M1 ++ F)) (hf : FpOk ops i M1 fp) (next : OFPX P N ops als F0 Kf al L0 fp rest l I M1) (hk : knB ops als al rest = true := by kernel_rfl) : ∃ M1 al' L0', M'.Perm (M1 ++ F) ∧ FpOk ops i M1 fp ∧ Ext P N ops als al L0 al' L0' l ∧ knB ops als al' rest = true ∧ OFPX P N ops als F0 Kf al' L0' fp rest l I M1 := ⟨M1, al, L0, hp, hf, .inl ⟨rfl, rfl⟩, hk, next⟩
def asB (als : List Nat) (al : List (Nat × Nat × Fresh)) : Bool := al.all fun x => isAl als x.1
theorem alFind_in : ∀ (al : List (Nat × Nat × Fresh)) {i d : Nat} {E : Fresh}, CH al i = some (d, E) → (i, d, E) ∈ al := by
  intro al
  induction al with
  | nil => intro i d E h; cases h
  | cons x r ih =>
    intro i d E h;unfold CH at h;cases hb : Nat.beq x.1 i with
    | true =>
      rw [hb] at h;simp only [cond_true, Option.some.injEq] at h;have e := Nat.eq_of_beq_eq_true hb;rcases x with ⟨x1, x2⟩
      simp only at h e;subst h e;exact List.mem_cons_self
    | false =>
      rw [hb] at h;exact List.mem_cons_of_mem _ (ih h)
theorem asB_spec (h : asB als al = true) : ∀ i d E, CH al i = some (d, E) → isAl als i = true := fun i d E hi => List.all_eq_true.1 h _ (alFind_in al hi)
theorem ofx_nxE {F M1 : Seg} (t : Nat) (v : Value) (j d : Nat) (E : Fresh) (hp : M'.Perm (M1 ++ F)) (hf : FpOk ops i M1 fp) (hA : ∀ i' d' E', CH ((j, d, E) :: al) i' = some (d', E') → AlOk P N ops ((t, v) :: L0) i' d' E') (hv : EH t l = some v)
    (next : OFPX P N ops als F0 Kf ((j, d, E) :: al) ((t, v) :: L0) fp rest l I M1) (hj : (CH al j).isNone = true := by kernel_rfl) (hs : asB als ((j, d, E) :: al) = true := by kernel_rfl) (hk : knB ops als ((j, d, E) :: al) rest = true := by kernel_rfl) :
    ∃ M1 al' L0', M'.Perm (M1 ++ F) ∧ FpOk ops i M1 fp ∧ Ext P N ops als al L0 al' L0' l ∧ knB ops als al' rest = true ∧ OFPX P N ops als F0 Kf al' L0' fp rest l I M1 := by
  refine ⟨M1, (j, d, E) :: al, (t, v) :: L0, hp, hf, .inr ⟨fun i' d' E' h => ?_, fun i' d' E' h => ⟨hA i' d' E' h, asB_spec hs i' d' E' h⟩, fun u w h => ?_⟩, hk, next⟩
  · unfold CH
    cases hb : Nat.beq j i' with
    | true =>
      have e := Nat.eq_of_beq_eq_true hb;rw [e, h] at hj; cases hj
    | false => exact h
  · unfold EH at h
    cases hb : Nat.beq t u with
    | true =>
      have e := Nat.eq_of_beq_eq_true hb;rw [hb] at h;simp only [cond_true, Option.some.injEq] at h;rw [← e, ← h]; exact .inl hv
    | false =>
      rw [hb] at h;exact .inr h
theorem ofx_end (h : Kf l I M) : OFPX P N ops als F0 Kf al L0 fp [] l I M := h
def noLooks (ops : Array Oper) (i : Nat) : Bool := match ops[i]? with | some o => (o.looksAt ops).isEmpty | none => false
theorem OR (h2 : noLooks ops i = true) (t : Nat) : DV ops i t = false := by
  unfold noLooks at h2;unfold DV;cases ho : ops[i]? with
  | none => rfl
  | some o =>
    rw [ho] at h2;simp only [List.isEmpty_iff] at h2;simp [h2]
def supB (ops : Array Oper) (i : Nat) (L0 : Sl) : Bool := match ops[i]? with
  | some o => (o.looksAt ops).all fun t => (EH t L0).isSome && (List.range ops.size).all fun k => !(dstB ops k t) || wt ops i k
  | none => false
theorem supB_spec {L0 : Sl} (h : supB ops i L0 = true) : ∀ t, DV ops i t = true → ∃ u, EH t L0 = some u ∧ ∀ k, DR ops k = some t → wt ops i k = true := fun t ht => by
  unfold supB at h;unfold DV at ht;cases ho : ops[i]? with
  | none => rw [ho] at h; cases h
  | some o =>
    rw [ho] at h ht;simp only [List.all_eq_true, Bool.and_eq_true, List.any_eq_true, Bool.or_eq_true, Bool.not_eq_true'] at h ht;obtain ⟨u, hu, e⟩ := ht;obtain rfl := Nat.eq_of_beq_eq_true e;obtain ⟨h1, h2⟩ := h u hu;obtain ⟨v, hv⟩ := Option.isSome_iff_exists.1 h1;refine ⟨v, hv, fun k hk => ?_⟩;rcases h2 k (List.mem_range.2 (OJ hk)) with h3 | h3
    · rw [NN hk] at h3; cases h3
    · exact h3
theorem alOk_of {E : TypeId} (h1 : DR ops i = some d) (h2 : noLooks ops i = true) (h3 : bsAt P N ops [] i = some (d, E, 0, #[])) : AlOk P N ops [] i d (.sl E) :=
  ⟨h1, rfl, (fun t ht => by rw [OR h2] at ht; cases ht), fun I M => sbs d E 0 #[] (fun b => ⟨b, rfl, rfl, rfl⟩) h3⟩
theorem alOk_cl {T : TypeId} {cs : Array Value} (h1 : DR ops i = some d) (h2 : noLooks ops i = true) (h3 : alAt P N ops [] i = some (d, T, cs)) : AlOk P N ops [] i d (.cl T cs) :=
  ⟨h1, rfl, (fun t ht => by rw [OR h2] at ht; cases ht), fun I M => sal d T cs (fun b => ⟨b, rfl, rfl, rfl⟩) h3⟩
theorem KT {L0 : Sl} {T : TypeId} {n : Nat} {cs : Array Value} (h1 : DR ops i = some d) (h0 : EH d L0 = none) (h2 : supB ops i L0 = true) (h3 : bsAt P N ops L0 i = some (d, T, n, cs)) : AlOk P N ops L0 i d (.bs T n cs) :=
  ⟨h1, h0, supB_spec h2, fun I M => sbs d T n cs (fun b => ⟨b, rfl, rfl, rfl⟩) h3⟩
theorem hA_nil : ∀ i d E, CH [] i = some (d, E) → AlOk P N ops L0 i d E := fun _ _ _ h => by cases h
theorem JI {E : Fresh} (h : AlOk P N ops L0 i d E) (r : ∀ i d E, CH al i = some (d, E) → AlOk P N ops L0 i d E) : ∀ i' d' E', CH ((i, d, E) :: al) i' = some (d', E') → AlOk P N ops L0 i' d' E' := fun i' d' E' h' => by
  unfold CH at h';cases hb : Nat.beq i i' with
  | true =>
    have e := Nat.eq_of_beq_eq_true hb;rw [hb] at h';simp only [cond_true, Option.some.injEq, Prod.mk.injEq] at h';obtain ⟨rfl, rfl⟩ := h';exact e ▸ h
  | false =>
    rw [hb] at h';exact r i' d' E' h'
end
def alInjS (ops : Array Oper) (als : List Nat) : Bool := als.all fun i => als.all fun j => Nat.beq i j || !(match DR ops i, DR ops j with | some a, some b => Nat.beq a b | _, _ => false)
theorem alInjS_spec {ops : Array Oper} {als : List Nat} (h : alInjS ops als = true) : ∀ i j d, isAl als i = true → isAl als j = true → DR ops i = some d → DR ops j = some d → i = j := fun i j d hi hj h1 h2 => by
  obtain ⟨k, hk, e⟩ := List.any_eq_true.1 (show (als.any fun k => Nat.beq k i) = true from hi);obtain rfl := Nat.eq_of_beq_eq_true e;obtain ⟨k', hk', e'⟩ := List.any_eq_true.1 (show (als.any fun k => Nat.beq k j) = true from hj);obtain rfl := Nat.eq_of_beq_eq_true e';have := List.all_eq_true.1 (List.all_eq_true.1 h _ hk) _ hk';rw [h1, h2] at this;simp only [Nat.beq_refl, Bool.not_true, Bool.or_false] at this;exact Nat.eq_of_beq_eq_true this
section
variable {ρ : Option Nat} {P : Program} {N : Nat} {Q : Exit → Act → World → Prop} {ds : List Deferred} {C : List Nat → Code} {p : List Nat} {l : Sl} {I : Imm} {M0 M F0 : Seg}
theorem rdX (al : List (Nat × Nat × Fresh)) (n0 : Nat) (order : List (Nat × Bool)) (hM : M0.Perm (M ++ F0)) (hA : ∀ i d E, CH al i = some (d, E) → AlOk P N (FO (C p)) [] i d E) (h : OFPX P N (FO (C p)) (al.map Prod.fst) F0 (fun l I M => Seq (ρ := ρ) P N (FO (C p)) Q ds n0 l I (M ++ F0)) al [] [] order l I M) (hI : (alInjS (FO (C p)) (al.map Prod.fst) && (asB (al.map Prod.fst) al && knB (FO (C p)) (al.map Prod.fst) al order)) = true := by kernel_rfl)
    (hm : P.follows .mixedOrders = true := by kernel_rfl) (hc : NS (C p) = true := by kernel_rfl) (hok : okAllX (al.map Prod.fst) (FO (C p)) n0 order = true := by kernel_rfl) : Run (ρ := ρ) P N (C p) Q ds l I M0 := by
  obtain ⟨id, hid⟩ := IF hc;simp only [Bool.and_eq_true] at hI;exact fun a w hS hD hW => run_drawX _ al n0 order hm hid hok hA (asB_spec hI.2.1) (knB_spec hI.2.2) (alInjS_spec hI.1) (fun _ _ h => by cases h) h a w hS hD (hW.perm hM)
def regB (ops : Array Oper) (L0 : Sl) : Bool := L0.all fun x => (List.range ops.size).any fun k => dstB ops k x.1
theorem look_mem : ∀ (L : Sl) {t : Nat} {u : Value}, EH t L = some u → ∃ x ∈ L, x.1 = t := by
  intro L
  induction L with
  | nil => intro t u h; cases h
  | cons x r ih =>
    intro t u h;rcases x with ⟨k, v⟩
    unfold EH at h;cases hb : Nat.beq k t with
    | true => exact ⟨_, List.mem_cons_self, Nat.eq_of_beq_eq_true hb⟩
    | false =>
      rw [hb] at h;obtain ⟨y, hy, e⟩ := ih h;exact ⟨y, List.mem_cons_of_mem _ hy, e⟩
theorem regB_spec {ops : Array Oper} {L0 : Sl} (h : regB ops L0 = true) : ∀ t u, EH t L0 = some u → ∃ k, DR ops k = some t := fun t u ht => by
  obtain ⟨x, hx, rfl⟩ := look_mem L0 ht;obtain ⟨k, _, hk⟩ := List.any_eq_true.1 (List.all_eq_true.1 h x hx);refine ⟨k, ?_⟩;unfold dstB at hk;unfold DR;cases ho : ops[k]? with
  | none => rw [ho] at hk; cases hk
  | some o =>
    rw [ho] at hk;simp only at hk;cases hd : o.dst with
    | none => rw [hd] at hk; cases hk
    | some d =>
      rw [hd] at hk;simp only at hk;rw [Nat.eq_of_beq_eq_true hk] at hd
      simpa using hd
theorem rdY (L0 : Sl) (als : List Nat) (al : List (Nat × Nat × Fresh)) (n0 : Nat) (order : List (Nat × Bool)) (hM : M0.Perm (M ++ F0)) (hA : ∀ i d E, CH al i = some (d, E) → AlOk P N (FO (C p)) L0 i d E) (h : OFPX P N (FO (C p)) als F0 (fun l I M => Seq (ρ := ρ) P N (FO (C p)) Q ds n0 l I (M ++ F0)) al L0 [] order l I M) (hI : (alInjS (FO (C p)) als && (asB als al && knB (FO (C p)) als al order)) = true := by kernel_rfl)
    (hm : P.follows .mixedOrders = true := by kernel_rfl) (hc : NS (C p) = true := by kernel_rfl) (hok : okAllX als (FO (C p)) n0 order = true := by kernel_rfl) (hr : regB (FO (C p)) L0 = true := by kernel_rfl) : Run (ρ := ρ) P N (C p) Q ds l I M0 := by
  obtain ⟨id, hid⟩ := IF hc;simp only [Bool.and_eq_true] at hI;exact fun a w hS hD hW => run_drawX _ al n0 order hm hid hok hA (asB_spec hI.2.1) (knB_spec hI.2.2) (alInjS_spec hI.1) (fun t u ht => .inl (regB_spec hr t u ht)) h a w hS hD (hW.perm hM)
end
end Go.Sl
namespace Go.Sh
open Go Go.Sl
def Rev {α : Type} (d : α) (xs zs : List α) (k : Nat) : Prop := zs.length = xs.length ∧ ∀ p, p < xs.length → zs.getD p d = if p < k ∨ xs.length - k ≤ p then xs.getD (xs.length - 1 - p) d else xs.getD p d
theorem Rev.start {α : Type} (d : α) (xs : List α) : Rev d xs xs 0 := ⟨rfl, fun p hp => by rw [if_neg (by omega)]⟩
theorem getD_set {α : Type} {d z : α} {xs : List α} {j p : Nat} (hj : j < xs.length) : (xs.set j z).getD p d = if p = j then z else xs.getD p d := by
  simp only [List.getD]
  by_cases e : j = p
  · subst e; rw [List.getElem?_set_self hj, if_pos rfl]; rfl
  · rw [List.getElem?_set_ne e, if_neg (Ne.symm e)]
theorem Rev.step {α : Type} {d : α} {xs zs : List α} {k j : Nat} (h : Rev d xs zs k) (hj : j = xs.length - 1 - k) (hk : k < j) : Rev d xs ((zs.set k (zs.getD j d)).set j (zs.getD k d)) (k + 1) := by
  obtain ⟨h1, h2⟩ := h;refine ⟨by simp [h1], fun p hp => ?_⟩;rw [getD_set (by rw [List.length_set]; omega), getD_set (by omega)]
  by_cases e1 : p = j
  · subst e1
    rw [if_pos rfl, if_pos (by omega), h2 k (by omega), if_neg (by omega)]
    congr 1; omega
  · rw [if_neg e1]
    by_cases e2 : p = k
    · subst e2
      rw [if_pos rfl, if_pos (by omega), h2 j (by omega), if_neg (by omega), hj]
    · rw [if_neg e2, h2 p hp]
      by_cases e3 : p < k ∨ xs.length - k ≤ p
      · rw [if_pos e3, if_pos (by omega)]
      · rw [if_neg e3, if_neg (by omega)]
theorem Rev.done {α : Type} {d : α} {xs zs : List α} {k : Nat} (h : Rev d xs zs k) (hk : xs.length - 1 - k ≤ k) : zs = xs.reverse := by
  obtain ⟨h1, h2⟩ := h;refine list_eq (d := d) (by simp [h1]) fun p hp => ?_
  rw [h1] at hp;have e : xs.reverse.getD p d = xs.getD (xs.length - 1 - p) d := by
    simp only [List.getD];rw [List.getElem?_reverse hp]
  rw [e, h2 p hp]
  by_cases e3 : p < k ∨ xs.length - k ≤ p
  · rw [if_pos e3]
  · rw [if_neg e3]
    congr 1; omega
end Go.Sh
namespace Go.Sl
open Go
end Go.Sl
namespace Go.Sh
open Go Go.Sl
section
variable {Y : Yard} {s : Shift} {k : Nat}
theorem moved_len : (moved Y s).tracks.length = Y.tracks.length := by simp [moved]
theorem moved_row_f (hf : 0 ≤ s.frm ∧ s.frm < Y.tracks.length) (hk : (k : Int) = s.frm) : (moved Y s).tracks.getD k [] = (Y.tracks.getD s.frm.toNat []).take (EX Y s).toNat := by
  have e : k = s.frm.toNat := by omega
  subst e;simp only [moved, trk, List.getD];rw [List.getElem?_set_self (by rw [List.length_set]; omega)]; rfl
theorem moved_row_t (ht : 0 ≤ s.to ∧ s.to < Y.tracks.length) (h1 : ¬ (k : Int) = s.frm) (hf : 0 ≤ s.frm) (hk : (k : Int) = s.to) : (moved Y s).tracks.getD k [] = Y.tracks.getD k [] ++ (Y.tracks.getD s.frm.toNat []).drop (EX Y s).toNat := by
  have e : k = s.to.toNat := by omega
  subst e;simp only [moved, trk, List.getD];rw [List.getElem?_set_ne (by omega), List.getElem?_set_self (by omega)]; rfl
theorem moved_row_o (hf : 0 ≤ s.frm) (ht : 0 ≤ s.to) (h1 : ¬ (k : Int) = s.frm) (h2 : ¬ (k : Int) = s.to) : (moved Y s).tracks.getD k [] = Y.tracks.getD k [] := moved_other (by omega) (by omega)
end
theorem draws_go_yes {Y : Yard} {l1 r : List Shift} {f t k : Nat} (h : l1 ++ (EE Y f t k ++ r) = draws Y) (hk : k < (Y.tracks.getD f []).length) (hm : BJ Y (mk3 f t (k + 1)) = 0) : (l1 ++ [mk3 f t (k + 1)]) ++ (EE Y f t (k + 1) ++ r) = draws Y := by
  rw [← h, HO hk hm]; simp
theorem draws_go_no {Y : Yard} {l1 r : List Shift} {f t k : Nat} (h : l1 ++ (EE Y f t k ++ r) = draws Y) (hk : k < (Y.tracks.getD f []).length) (hm : BJ Y (mk3 f t (k + 1)) ≠ 0) : l1 ++ (EE Y f t (k + 1) ++ r) = draws Y := by
  rw [← h, NM hk hm]
theorem OU {Y : Yard} {s : Shift} (h : Valid Y) (hm : BJ Y s ≠ 0) : BN Y [s] = (AF, BJ Y s) := by
  rw [FF h]; simp only [BM]; rw [if_neg hm]
theorem MC {Y : Yard} {s : Shift} (h : Valid Y) (hm : BJ Y s = 0) : BN Y [s] = (moved Y s, 0) := (FF h).trans (OT hm)
theorem play_snoc {Y Z : Yard} {l : List Shift} {s : Shift} (h : BM Y l = (Z, 0)) (hv : Valid Z) (hm : BJ Z s = 0) : BM Y (l ++ [s]) = ((BN Z [s]).1, 0) := by
  rw [playFrom_app l [s] h, OT hm, MC hv hm]
theorem ridden_next {Y Z : Yard} {l : List Shift} {s : Shift} (hY : Valid Y) (h : BM Y l = (Z, 0)) (hs : s ∈ (FS Z).1) : BJ Z s = 0 ∧ BM Y (l ++ [s]) = ((BN Z [s]).1, 0) ∧ Valid (BN Z [s]).1 := by
  obtain ⟨_, hv, _⟩ := LF hY h;rw [MK hv] at hs;have hm := DF hs;have h2 := play_snoc h hv hm;exact ⟨hm, h2, (LF hY h2).2.1⟩
theorem yard_ext {A B : Yard} (h1 : A.cars = B.cars) (h2 : A.room = B.room) (h3 : A.tracks = B.tracks) : A = B := by
  rcases A with ⟨a, b, c⟩; rcases B with ⟨a', b', c'⟩
  simp only at h1 h2 h3;rw [h1, h2, h3]
end Go.Sh
namespace Go.Proofs.YtcaocbhbofejnaaGreatDoor
open Go Go.Sl Go.Sh
set_option maxRecDepth 100000
noncomputable def c_drawn (p : List Nat) : Code := sub (AU Tryz.f89) p
theorem drawn_ct (I : Imm) (y : Value) (Y : Yard) (s : Shift) (y_f : IsYard I y Y) (hf : 0 ≤ s.frm ∧ s.frm < Y.tracks.length) (ht : 0 ≤ s.to ∧ s.to < Y.tracks.length) (hm : 0 ≤ s.many ∧ s.many ≤ (Y.tracks.getD s.frm.toNat []).length) (hq : ∀ t ∈ Y.tracks, t.length ≤ 1000000) (h3 : Y.tracks.length ≤ 1000000) : Ct Tryz.prog 89 #[y, .agg #[vI s.frm, vI s.to, vI s.many]] I ([]) (fun v I' M' => ∃ u : Value, v = u ∧ M' = [] ∧ IsYard I' u (moved Y s)) := by
 obtain ⟨y1, y2, y3, u3, b2, b4, o0⟩ := id y_f;subst u3;obtain ⟨a5, a6, s9, t2, n7, t0, t1, t3⟩ := id b2;subst n7;obtain ⟨a7, a8, t4, t7, n8, t5, t6, t8⟩ := id b4;subst n8;obtain ⟨a9, b0, t9, u2, r1, n9, u0, u1, b6, c0⟩ := id o0;subst n9;refine fr (args := [_, _]) (N := 71) Tryz.func89 (fun F => ?_);show Run _ _ (c_drawn []) _ _ [(0, .agg #[vS a5 Y.cars.length a6, vS a7 Y.room.length a8, vS a9 Y.tracks.length b0]), (1, .agg #[vI (s.frm), vI (s.to), vI (s.many)])] _ _;refine rnm (rqr ?_);refine sS (sb 2 26 #[vS a5 Y.cars.length a6, vS a7 Y.room.length a8, vS a9 Y.tracks.length b0] (fun b1 => (sS (sb 3 52 #[vI (s.frm), vI (s.to), vI (s.many)] (fun b3 => (sS (sal 4 26 #[vN, vN, vN] (fun b5 => (sn (sp 1 [(5, vN)] (sn (sp 1 [(9, vP b1 2)] (sd (dlb 10 2 2 b1 (vS a9 Y.tracks.length b0)) (sp 1 [(11, vP b3 0)] (sd (dlb 12 1 0 b3 (vI (s.frm))) (sd (diI 13 1 (s.frm) b6.addr) ?_))))))))))))))));have c4 := c0 ((s.frm : Int).toNat) (by omega);obtain ⟨e4, e5, s4, s7, i0, s5, s6, s8⟩ := id c4;rw [i0] at c4;refine sd (BB (dl 14 (BR b6 ((s.frm : Int).toNat) (by omega))) i0) (sp 1 [(6, vS e4 (Y.tracks.getD ((s.frm : Int).toNat) []).length e5)] (sn (sp 3 [(17, vP b3 2), (16, vI (↑((Y.tracks.getD ((s.frm : Int).toNat) []).length)))] (sd (dlb 18 1 2 b3 (vI (s.many))) (sd (dsb 19 (↑((Y.tracks.getD ((s.frm : Int).toNat) []).length)) (s.many)) (sp 1 [(7, vI ((↑((Y.tracks.getD ((s.frm : Int).toNat) []).length)) - s.many))] (se (rq (rqr (sp 1 [(8, vI (0))] (se (rb 0 ?_))))))))))));refine rl (fun mz a w => ∃ J0 : Imm, ∃ k : Nat, ∃ d7 : Value, ∃ a1 : Seg, ∃ a0 : List Value, (I.le J0) ∧ (k ≤ Y.tracks.length) ∧ (RowsV J0 a0 ((moved Y s).tracks.take k)) ∧ (Own 23 1 AN d7 (a0) a1) ∧ Slots 71 [(5, d7), (8, vI ↑k), (2, vP b1 0), (3, vP b3 0), (4, vP b5 0), (6, vS e4 (Y.tracks.getD ((s.frm : Int).toNat) []).length e5), (7, vI ((↑((Y.tracks.getD ((s.frm : Int).toNat) []).length)) - s.many))] a ∧ a.defers = [] ∧ St J0 ((bX b5 #[vN, vN, vN] 26) :: (bX b3 #[vI (s.frm), vI (s.to), vI (s.many)] 52) :: (bX b1 #[vS a5 Y.cars.length a6, vS a7 Y.room.length a8, vS a9 Y.tracks.length b0] 26) :: (a1 ++ F)) w ∧ mz = Y.tracks.length - k) ?_ ?_
 ·intro a w hS hD hW;exact ⟨_, I, 0, (vN), [], [], IR _, Nat.zero_le _, (RowsV.nil _), (Own.nil _ _ _), hS.sub (.cons 5 rfl (.cons 8 rfl (.cons 2 rfl (.cons 3 rfl (.cons 4 rfl (.cons 6 rfl (.cons 7 rfl (.nil _)))))))), hD, hW, rfl⟩
 rintro mz a w ⟨J0, k, d7, a1, a0, hJ0, hk, a4, c3, hS, hD, hW, rfl⟩
 refine AX hS hD hW ?_;clear hS hD hW a w;replace b2 := b2.mono hJ0;replace b4 := b4.mono hJ0;replace b6 := b6.mono hJ0;replace c0 := fun i hi => (c0 i hi).mono hJ0
 replace c4 := c4.mono hJ0;obtain ⟨a2, a3, e3, i2⟩ := c3.shape; subst e3;have d1 := a4.1
 try simp only [LS, LA, LC, LN, LK] at d1
 refine rq (rqr (sp 2 [(21, vP b1 2), (20, vI (↑k))] (sd (dlb 22 2 2 b1 (vS a9 Y.tracks.length b0)) (sp 2 [(24, .bool (cmp .lss (↑k) (↑(Y.tracks.length))))] (se (rc 24 rfl (fun h1 => ?_) (fun h1 => ?_)))))))
 ·
  have m2 := h1;have h1 := BX h1;refine AK (NX (rq (rb 1 (rqr (sp 1 [(27, vI (↑k))] (se (rb 2 (rqr (sp 1 [(39, vP b3 0)] (sd (dlb 40 1 0 b3 (vI (s.frm))) (sp 2 [(38, .bool (cmp .eql (↑k) (s.frm)))] (se (rc 38 rfl (fun h2 => ?_) (fun h2 => ?_))))))))))))))
  ·
   have m3 := h2;have h2 := CV h2;have qf := hq _ (AL (d := []) (xs := Y.tracks) (k := s.frm.toNat) (by omega));refine rr (sp 1 [(42, vS a2 a0.length a3)] (sS (sbs 43 3 0 #[] (fun b8 => (sp 2 [(45, vI ((↑((Y.tracks.getD ((s.frm : Int).toNat) []).length)) - s.many)), (44, vS e4 (Y.tracks.getD ((s.frm : Int).toNat) []).length e5)] ?_)))));have e0 := c4.cutHi (((↑((Y.tracks.getD ((s.frm).toNat) []).length) : Int) - s.many).toNat) (by omega);obtain ⟨p6, p8, p7, q1, e8, p9, q0, q2⟩ := id e0;rw [e8] at e0;refine sd (BB (DB (x := (.tmp 44)) (lo := none) (hi := (some (.tmp 45))) (T := 23) (e := 3) (sz := 1) (0) (((↑((Y.tracks.getD ((s.frm).toNat) []).length) : Int) - s.many).toNat) (d := 46) (ty := 23) (gd := none) (by kernel_rfl) rfl (by kernel_rfl) (by kernel_rfl) rfl (.inl ⟨rfl, rfl⟩) (.inr ⟨_, .i64, rfl, (GK rfl (by omega))⟩) (by omega) (by omega)) e8) ?_;have m5 : Own 3 1 AR (vS (some ⟨b8, 0, none⟩) 0 0) ([] : List Int) [(bX b8 #[] 3)] := Own.lit rfl rfl;refine sS (AO (d := 47) (x := (.tmp 43)) (y := (.tmp 46)) (T := 23) (T' := 23) (E := 3) (E' := 3) (sz := 1) (bs := 8) (z := vI (0)) (cell := AR) (xs := ([] : List Int)) (ys := (Y.tracks.getD ((s.frm : Int).toNat) []).take (((↑((Y.tracks.getD ((s.frm).toNat) []).length) : Int) - s.many).toNat)) (Ms := [(bX b8 #[] 3)]) (ty := 23) (gd := none) (by kernel_rfl) rfl (by kernel_rfl) (by kernel_rfl) (by kernel_rfl) (by kernel_rfl) (by kernel_rfl) (by decide) (by kernel_rfl) rfl rfl (m5) (PR _) (BU _) e0.src (by first | omega | (simp only [LC, LN, LA, LK, LD]; omega)) (fun u5 i3 f5 => ?_));rw [NA] at f5;refine pm (M' := ((bX b5 #[vN, vN, vN] 26) :: (bX b3 #[vI (s.frm), vI (s.to), vI (s.many)] 52) :: (bX b1 #[vS a5 Y.cars.length a6, vS a7 Y.room.length a8, vS a9 Y.tracks.length b0] 26) :: (i3 ++ (a1 ++ F)))) (PW (PW PM)) ?_;obtain ⟨c7, c9, n0, r7⟩ := f5.shape;subst n0;refine sS (sbs 48 23 1 #[vS c7 ((Y.tracks.getD ((s.frm : Int).toNat) []).take (((↑((Y.tracks.getD ((s.frm).toNat) []).length) : Int) - s.many).toNat)).length c9] (fun r5 => (sfz (A := ((bX r5 #[vS c7 ((Y.tracks.getD ((s.frm : Int).toNat) []).take (((↑((Y.tracks.getD ((s.frm).toNat) []).length) : Int) - s.many).toNat)).length c9] 23) :: (bX b5 #[vN, vN, vN] 26) :: (bX b3 #[vI (s.frm), vI (s.to), vI (s.many)] 52) :: (bX b1 #[vS a5 Y.cars.length a6, vS a7 Y.room.length a8, vS a9 Y.tracks.length b0] 26) :: (a1 ++ F))) 0 f5 (PU (PU (PU (PM.symm)))) (fun r2 b7 d3 => ?_))));replace b2 := b2.mono b7;replace b4 := b4.mono b7;replace b6 := b6.mono b7;replace c0 := fun i hi => (c0 i hi).mono b7
   replace c4 := c4.mono b7;replace a4 := a4.mono b7;obtain ⟨j4, j6, j5, j9, f1, j7, j8, k0⟩ := id d3;cases f1;refine sS (AO (d := 49) (x := (.tmp 42)) (y := (.tmp 48)) (T := 24) (T' := 24) (E := 23) (E' := 23) (sz := 1) (bs := 24) (z := vN) (cell := AN) (xs := a0) (ys := [(vS c7 ((Y.tracks.getD ((s.frm : Int).toNat) []).take (((↑((Y.tracks.getD ((s.frm).toNat) []).length) : Int) - s.many).toNat)).length c9 : Value)]) (Ms := a1) (ty := 24) (gd := none) (by kernel_rfl) rfl (by kernel_rfl) (by kernel_rfl) (by kernel_rfl) (by kernel_rfl) (by kernel_rfl) (by decide) (by kernel_rfl) rfl rfl (c3) (PU (PU (PU (PM.symm)))) (DL rfl) (CW 0 rfl rfl) (by first | omega | (have hq := a4.1; simp only [LC, LN, LA, LK, LD] at hq ⊢; omega)) (fun u6 f9 g4 => (AW (M' := ((bX b5 #[vN, vN, vN] 26) :: (bX b3 #[vI (s.frm), vI (s.to), vI (s.many)] 52) :: (bX b1 #[vS a5 Y.cars.length a6, vS a7 Y.room.length a8, vS a9 Y.tracks.length b0] 26) :: (f9 ++ F))) (fun w h => (h.perm (PW (PW (PW PM)))).sub (TC _ (TR _))) ?_)));obtain ⟨g8, h4, n1, r8⟩ := g4.shape;subst n1;have h7 := (a4).snoc d3;refine sp 1 [(5, vS g8 (a0 ++ ([(vS c7 ((Y.tracks.getD ((s.frm : Int).toNat) []).take (((↑((Y.tracks.getD ((s.frm).toNat) []).length) : Int) - s.many).toNat)).length c9 : Value)])).length h4)] (ee (NB (NB (NX (rr (sp 1 [(25, vI (↑k))] (sd (da 26 (↑k) (1)) (sp 1 [(8, vI (↑k + 1))] (ee ?_)))))))));refine AG (Y.tracks.length - (k+1)) (by omega) ?_;intro a w hS hD hW;exact ⟨r2, k+1, vS g8 (a0 ++ ([(vS c7 ((Y.tracks.getD ((s.frm : Int).toNat) []).take (((↑((Y.tracks.getD ((s.frm).toNat) []).length) : Int) - s.many).toNat)).length c9 : Value)])).length h4, f9, a0 ++ ([(vS c7 ((Y.tracks.getD ((s.frm : Int).toNat) []).take (((↑((Y.tracks.getD ((s.frm).toNat) []).length) : Int) - s.many).toNat)).length c9 : Value)]), (IT hJ0 b7), by omega, (by rw [DE (d := []) (xs := (moved Y s).tracks) (k := k) (by rw [moved_len]; omega), moved_row_f hf h2]; exact h7), g4, hS.sub (.consE 5 rfl rfl (.consE 8 rfl rfl (.cons 2 rfl (.cons 3 rfl (.cons 4 rfl (.cons 6 rfl (.cons 7 rfl (.nil _)))))))), hD, hW, rfl⟩
  have m3 := h2;have h2 := CU h2;refine rqr (sp 1 [(51, vP b3 1)] (sd (dlb 52 1 1 b3 (vI (s.to))) (sp 2 [(50, .bool (cmp .eql (↑k) (s.to)))] (se (rc 50 rfl (fun h3 => ?_) (fun h3 => ?_))))))
  ·
   have m4 := h3;have h3 := CV h3;have qf := hq _ (AL (d := []) (xs := Y.tracks) (k := s.frm.toNat) (by omega));have qk := hq _ (AL (d := []) (xs := Y.tracks) (k := k) (by omega));have q5 : (Y.tracks.getD (k) [] ++ (Y.tracks.getD ((s.frm).toNat) []).drop ((↑((Y.tracks.getD ((s.frm).toNat) []).length) : Int) - s.many).toNat).length ≤ 2000000 := by (simp only [LA, LD]; omega)
   refine rd 13 [(0, true), (2, true), (3, true), (4, true), (5, true), (6, true), (8, true), (9, true), (10, true), (1, false), (7, false), (11, false), (12, false)] ((bX b5 #[vN, vN, vN] 26) :: (bX b3 #[vI (s.frm), vI (s.to), vI (s.many)] 52) :: (bX b1 #[vS a5 Y.cars.length a6, vS a7 Y.room.length a8, vS a9 Y.tracks.length b0] 26) :: []) ((a1 ++ F)) (ox 2 [(56, vP b1 2), (54, vS a2 a0.length a3)] ?_);refine AB (dlb 57 2 2 b1 (vS a9 Y.tracks.length b0)) (ox 1 [(58, vI (↑k))] ?_);refine AB (di 59 1 (k) b6.addr) ?_;have d8 := c0 (k) (by omega);obtain ⟨o2, o4, o3, o7, e6, o5, o6, o8⟩ := id d8;rw [e6] at d8;refine AB (BB (dl 60 (BR b6 (k) (by omega))) e6) (ox 2 [(63, vI ((↑((Y.tracks.getD ((s.frm : Int).toNat) []).length)) - s.many)), (62, vS e4 (Y.tracks.getD ((s.frm : Int).toNat) []).length e5)] ?_);have e1 := c4.cutLo (((↑((Y.tracks.getD ((s.frm).toNat) []).length) : Int) - s.many).toNat) (by omega);obtain ⟨q3, q6, q4, q9, e9, q7, q8, r0⟩ := id e1;rw [e9] at e1;refine AB (BB (DB (x := (.tmp 62)) (lo := (some (.tmp 63))) (hi := none) (T := 23) (e := 3) (sz := 1) (((↑((Y.tracks.getD ((s.frm).toNat) []).length) : Int) - s.many).toNat) ((Y.tracks.getD ((s.frm : Int).toNat) []).length) (d := 64) (ty := 23) (gd := none) (by kernel_rfl) rfl (by kernel_rfl) (by kernel_rfl) rfl (.inr ⟨_, .i64, rfl, (GK rfl (by omega))⟩) (.inl ⟨rfl, rfl⟩) (by omega) (by omega)) e9) ?_;refine BW (sbs 55 3 0 #[] (fun f8 => ?_));refine AQ (S' := ((bX f8 #[] 3) :: (a1 ++ F))) ((PS _ _ _).trans (PC _ ((PS _ _ _).trans (PC _ (PS _ _ _))))) ?_;have m6 : Own 3 1 AR (vS (some ⟨f8, 0, none⟩) 0 0) ([] : List Int) [(bX f8 #[] 3)] := Own.lit rfl rfl;refine BW (AO (d := 61) (x := (.tmp 55)) (y := (.tmp 60)) (T := 23) (T' := 23) (E := 3) (E' := 3) (sz := 1) (bs := 8) (z := vI (0)) (cell := AR) (xs := ([] : List Int)) (ys := Y.tracks.getD (k) []) (Ms := [(bX f8 #[] 3)]) (ty := 23) (gd := none) (by kernel_rfl) rfl (by kernel_rfl) (by kernel_rfl) (by kernel_rfl) (by kernel_rfl) (by kernel_rfl) (by decide) (by kernel_rfl) rfl rfl (m6) (show List.Perm ((bX b5 #[vN, vN, vN] 26) :: (bX b3 #[vI (s.frm), vI (s.to), vI (s.many)] 52) :: (bX b1 #[vS a5 Y.cars.length a6, vS a7 Y.room.length a8, vS a9 Y.tracks.length b0] 26) :: (bX f8 #[] 3) :: (a1 ++ F)) ((bX f8 #[] 3) :: (bX b5 #[vN, vN, vN] 26) :: (bX b3 #[vI (s.frm), vI (s.to), vI (s.many)] 52) :: (bX b1 #[vS a5 Y.cars.length a6, vS a7 Y.room.length a8, vS a9 Y.tracks.length b0] 26) :: (a1 ++ F)) from ((PC _ ((PC _ (PS _ _ _)).trans (PS _ _ _))).trans (PS _ _ _))) (BU _) d8.src (by first | omega | (simp only [LC, LN, LA, LK, LD]; omega)) (fun u7 e2 f6 => ?_));rw [NA] at f6;refine AQ (S' := ((e2 ++ (a1 ++ F)))) (PW (PW PM)) ?_;obtain ⟨m8, m9, n2, r9⟩ := f6.shape;subst n2;show OFP _ _ _ _ _ _ ((61, vS m8 (Y.tracks.getD (k) []).length m9) :: _) _ _;refine BW (AO (d := 65) (x := (.tmp 61)) (y := (.tmp 64)) (T := 23) (T' := 23) (E := 3) (E' := 3) (sz := 1) (bs := 8) (z := vI (0)) (cell := AR) (xs := Y.tracks.getD (k) []) (ys := (Y.tracks.getD ((s.frm : Int).toNat) []).drop (((↑((Y.tracks.getD ((s.frm).toNat) []).length) : Int) - s.many).toNat)) (Ms := e2) (ty := 23) (gd := none) (by kernel_rfl) rfl (by kernel_rfl) (by kernel_rfl) (by kernel_rfl) (by kernel_rfl) (by kernel_rfl) (by decide) (by kernel_rfl) rfl rfl (f6) (show List.Perm ((bX b5 #[vN, vN, vN] 26) :: (bX b3 #[vI (s.frm), vI (s.to), vI (s.many)] 52) :: (bX b1 #[vS a5 Y.cars.length a6, vS a7 Y.room.length a8, vS a9 Y.tracks.length b0] 26) :: (e2 ++ (a1 ++ F))) ((e2 ++ (bX b5 #[vN, vN, vN] 26) :: (bX b3 #[vI (s.frm), vI (s.to), vI (s.many)] 52) :: (bX b1 #[vS a5 Y.cars.length a6, vS a7 Y.room.length a8, vS a9 Y.tracks.length b0] 26) :: (a1 ++ F))) from (PU (PU (PM.symm)))) (BU _) e1.src (by first | omega | (simp only [LC, LN, LA, LK, LD]; omega)) (fun u8 g0 g5 => ?_));refine AQ (S' := ((g0 ++ (a1 ++ F)))) (PW (PW PM)) ?_;obtain ⟨c1, c2, n3, s0⟩ := g5.shape;subst n3;show OFP _ _ _ _ _ _ ((65, vS c1 ((Y.tracks.getD (k) []) ++ ((Y.tracks.getD ((s.frm : Int).toNat) []).drop (((↑((Y.tracks.getD ((s.frm).toNat) []).length) : Int) - s.many).toNat))).length c2) :: _) _ _;refine BW (sbs 66 23 1 #[vS c1 ((Y.tracks.getD (k) []) ++ ((Y.tracks.getD ((s.frm : Int).toNat) []).drop (((↑((Y.tracks.getD ((s.frm).toNat) []).length) : Int) - s.many).toNat))).length c2] (fun o1 => ?_));refine AQ (S' := ((bX o1 #[vS c1 ((Y.tracks.getD (k) []) ++ ((Y.tracks.getD ((s.frm : Int).toNat) []).drop (((↑((Y.tracks.getD ((s.frm).toNat) []).length) : Int) - s.many).toNat))).length c2] 23) :: (g0 ++ (a1 ++ F)))) ((PS _ _ _).trans (PC _ ((PS _ _ _).trans (PC _ (PS _ _ _))))) ?_;refine EL (nm (nm ?_));refine sfz (A := ((bX b5 #[vN, vN, vN] 26) :: (bX b3 #[vI (s.frm), vI (s.to), vI (s.many)] 52) :: (bX b1 #[vS a5 Y.cars.length a6, vS a7 Y.room.length a8, vS a9 Y.tracks.length b0] 26) :: (bX o1 #[vS c1 ((Y.tracks.getD (k) []) ++ ((Y.tracks.getD ((s.frm : Int).toNat) []).drop (((↑((Y.tracks.getD ((s.frm).toNat) []).length) : Int) - s.many).toNat))).length c2] 23) :: (a1 ++ F))) 0 g5 (PU (PU (PU (PM.symm)))) (fun r3 b9 d4 => ?_);replace b2 := b2.mono b9;replace b4 := b4.mono b9;replace b6 := b6.mono b9;replace c0 := fun i hi => (c0 i hi).mono b9
   replace a4 := a4.mono b9;obtain ⟨k1, k3, k2, k6, f2, k4, k5, k7⟩ := id d4;cases f2;refine sS (AO (d := 67) (x := (.tmp 54)) (y := (.tmp 66)) (T := 24) (T' := 24) (E := 23) (E' := 23) (sz := 1) (bs := 24) (z := vN) (cell := AN) (xs := a0) (ys := [(vS c1 ((Y.tracks.getD (k) []) ++ ((Y.tracks.getD ((s.frm : Int).toNat) []).drop (((↑((Y.tracks.getD ((s.frm).toNat) []).length) : Int) - s.many).toNat))).length c2 : Value)]) (Ms := a1) (ty := 24) (gd := none) (by kernel_rfl) rfl (by kernel_rfl) (by kernel_rfl) (by kernel_rfl) (by kernel_rfl) (by kernel_rfl) (by decide) (by kernel_rfl) rfl rfl (c3) (PU (PU (PU (PM.symm)))) (DL rfl) (CW 3 rfl rfl) (by first | omega | (have hq := a4.1; simp only [LC, LN, LA, LK, LD] at hq ⊢; omega)) (fun u9 g1 g6 => (AW (M' := ((bX b5 #[vN, vN, vN] 26) :: (bX b3 #[vI (s.frm), vI (s.to), vI (s.many)] 52) :: (bX b1 #[vS a5 Y.cars.length a6, vS a7 Y.room.length a8, vS a9 Y.tracks.length b0] 26) :: (g1 ++ F))) (fun w h => (h.perm (((PA _ ((PC _ ((PC _ (PS _ _ _)).trans (PS _ _ _))).trans (PS _ _ _))).trans PM).trans (PC _ (PW (PW PM))))).sub (TC _ (TR _))) ?_)));obtain ⟨g9, h5, n4, s1⟩ := g6.shape;subst n4;have h8 := (a4).snoc d4;refine sp 1 [(5, vS g9 (a0 ++ ([(vS c1 ((Y.tracks.getD (k) []) ++ ((Y.tracks.getD ((s.frm : Int).toNat) []).drop (((↑((Y.tracks.getD ((s.frm).toNat) []).length) : Int) - s.many).toNat))).length c2 : Value)])).length h5)] (ee (NB (NB (NX (rr (sp 1 [(25, vI (↑k))] (sd (da 26 (↑k) (1)) (sp 1 [(8, vI (↑k + 1))] (ee ?_)))))))));refine AG (Y.tracks.length - (k+1)) (by omega) ?_;intro a w hS hD hW;exact ⟨r3, k+1, vS g9 (a0 ++ ([(vS c1 ((Y.tracks.getD (k) []) ++ ((Y.tracks.getD ((s.frm : Int).toNat) []).drop (((↑((Y.tracks.getD ((s.frm).toNat) []).length) : Int) - s.many).toNat))).length c2 : Value)])).length h5, g1, a0 ++ ([(vS c1 ((Y.tracks.getD (k) []) ++ ((Y.tracks.getD ((s.frm : Int).toNat) []).drop (((↑((Y.tracks.getD ((s.frm).toNat) []).length) : Int) - s.many).toNat))).length c2 : Value)]), (IT hJ0 b9), by omega, (by rw [DE (d := []) (xs := (moved Y s).tracks) (k := k) (by rw [moved_len]; omega), moved_row_t ht h2 hf.1 h3]; exact h8), g6, hS.sub (.consE 5 rfl rfl (.consE 8 rfl rfl (.cons 2 rfl (.cons 3 rfl (.cons 4 rfl (.cons 6 rfl (.cons 7 rfl (.nil _)))))))), hD, hW, rfl⟩
  have m4 := h3;have h3 := CU h3;have qk := hq _ (AL (d := []) (xs := Y.tracks) (k := k) (by omega));refine rr (sp 1 [(28, vS a2 a0.length a3)] (sS (sbs 29 3 0 #[] (fun i5 => (sp 1 [(30, vP b1 2)] (sd (dlb 31 3 2 b1 (vS a9 Y.tracks.length b0)) (sp 1 [(32, vI (↑k))] (sd (di 33 1 (k) b6.addr) ?_))))))));have d9 := c0 (k) (by omega);obtain ⟨o9, p1, p0, p4, e7, p2, p3, p5⟩ := id d9;rw [e7] at d9;refine sd (BB (dl 34 (BR b6 (k) (by omega))) e7) ?_;have m7 : Own 3 1 AR (vS (some ⟨i5, 0, none⟩) 0 0) ([] : List Int) [(bX i5 #[] 3)] := Own.lit rfl rfl;refine sS (AO (d := 35) (x := (.tmp 29)) (y := (.tmp 34)) (T := 23) (T' := 23) (E := 3) (E' := 3) (sz := 1) (bs := 8) (z := vI (0)) (cell := AR) (xs := ([] : List Int)) (ys := Y.tracks.getD (k) []) (Ms := [(bX i5 #[] 3)]) (ty := 23) (gd := none) (by kernel_rfl) rfl (by kernel_rfl) (by kernel_rfl) (by kernel_rfl) (by kernel_rfl) (by kernel_rfl) (by decide) (by kernel_rfl) rfl rfl (m7) (PR _) (BU _) d9.src (by first | omega | (simp only [LC, LN, LA, LK, LD]; omega)) (fun v0 i4 f7 => ?_));rw [NA] at f7;refine pm (M' := ((bX b5 #[vN, vN, vN] 26) :: (bX b3 #[vI (s.frm), vI (s.to), vI (s.many)] 52) :: (bX b1 #[vS a5 Y.cars.length a6, vS a7 Y.room.length a8, vS a9 Y.tracks.length b0] 26) :: (i4 ++ (a1 ++ F)))) (PW (PW PM)) ?_;obtain ⟨c8, d0, n5, s2⟩ := f7.shape;subst n5;refine sS (sbs 36 23 1 #[vS c8 (Y.tracks.getD (k) []).length d0] (fun r6 => (sfz (A := ((bX r6 #[vS c8 (Y.tracks.getD (k) []).length d0] 23) :: (bX b5 #[vN, vN, vN] 26) :: (bX b3 #[vI (s.frm), vI (s.to), vI (s.many)] 52) :: (bX b1 #[vS a5 Y.cars.length a6, vS a7 Y.room.length a8, vS a9 Y.tracks.length b0] 26) :: (a1 ++ F))) 0 f7 (PU (PU (PU (PM.symm)))) (fun r4 c5 d5 => ?_))));replace b2 := b2.mono c5;replace b4 := b4.mono c5;replace a4 := a4.mono c5;obtain ⟨k8, l0, k9, l3, f3, l1, l2, l4⟩ := id d5;cases f3;refine sS (AO (d := 37) (x := (.tmp 28)) (y := (.tmp 36)) (T := 24) (T' := 24) (E := 23) (E' := 23) (sz := 1) (bs := 24) (z := vN) (cell := AN) (xs := a0) (ys := [(vS c8 (Y.tracks.getD (k) []).length d0 : Value)]) (Ms := a1) (ty := 24) (gd := none) (by kernel_rfl) rfl (by kernel_rfl) (by kernel_rfl) (by kernel_rfl) (by kernel_rfl) (by kernel_rfl) (by decide) (by kernel_rfl) rfl rfl (c3) (PU (PU (PU (PM.symm)))) (DL rfl) (CW 0 rfl rfl) (by first | omega | (have hq := a4.1; simp only [LC, LN, LA, LK, LD] at hq ⊢; omega)) (fun v1 g2 g7 => (AW (M' := ((bX b5 #[vN, vN, vN] 26) :: (bX b3 #[vI (s.frm), vI (s.to), vI (s.many)] 52) :: (bX b1 #[vS a5 Y.cars.length a6, vS a7 Y.room.length a8, vS a9 Y.tracks.length b0] 26) :: (g2 ++ F))) (fun w h => (h.perm (PW (PW (PW PM)))).sub (TC _ (TR _))) ?_)));obtain ⟨h0, h6, n6, s3⟩ := g7.shape;subst n6;have h9 := (a4).snoc d5;refine sp 1 [(5, vS h0 (a0 ++ ([(vS c8 (Y.tracks.getD (k) []).length d0 : Value)])).length h6)] (ee (NB (NB (NX (rr (sp 1 [(25, vI (↑k))] (sd (da 26 (↑k) (1)) (sp 1 [(8, vI (↑k + 1))] (ee ?_)))))))));refine AG (Y.tracks.length - (k+1)) (by omega) ?_;intro a w hS hD hW;exact ⟨r4, k+1, vS h0 (a0 ++ ([(vS c8 (Y.tracks.getD (k) []).length d0 : Value)])).length h6, g2, a0 ++ ([(vS c8 (Y.tracks.getD (k) []).length d0 : Value)]), (IT hJ0 c5), by omega, (by rw [DE (d := []) (xs := (moved Y s).tracks) (k := k) (by rw [moved_len]; omega), moved_row_o hf.1 ht.1 h2 h3]; exact h9), g7, hS.sub (.consE 5 rfl rfl (.consE 8 rfl rfl (.cons 2 rfl (.cons 3 rfl (.cons 4 rfl (.cons 6 rfl (.cons 7 rfl (.nil _)))))))), hD, hW, rfl⟩
 have m2 := h1;have h1 := CB h1;refine CF 0 ((EP (EP (EB (NX (rqr (sfz (A := ((bX b5 #[vN, vN, vN] 26) :: (bX b3 #[vI (s.frm), vI (s.to), vI (s.many)] 52) :: (bX b1 #[vS a5 Y.cars.length a6, vS a7 Y.room.length a8, vS a9 Y.tracks.length b0] 26) :: F)) undef c3 (PU (PU (PM.symm))) (fun u4 c6 d6 => ?_))))))));replace b2 := b2.mono c6;replace b4 := b4.mono c6;replace a4 := a4.mono c6;obtain ⟨l5, l7, l6, m0, f4, l8, l9, m1⟩ := id d6;cases f4;have d2 := a4.isRows d6;have g3 := a4.1;obtain ⟨i6, i8, i7, j1, i1, f0, i9, j0, j2, j3⟩ := id d2
 injection f0 with fr49_e1 fr49_e2 fr49_e3; subst fr49_e1; subst fr49_e3
 refine sp 2 [(69, vP b1 2), (68, vS a2 a0.length a3)] (sS (ss 2 2 b1 [vS a2 a0.length a3] [vS a5 Y.cars.length a6, vS a7 Y.room.length a8, vS a2 a0.length a3] (_ :: _ :: _ :: _) (cs := [_, _, _]) rfl rfl (sn (sd (dnb 70 2 0 b1 [vS a5 Y.cars.length a6, vS a7 Y.room.length a8, vS a2 a0.length a3]) (sS (ss 0 0 b5 [vS a5 Y.cars.length a6, vS a7 Y.room.length a8, vS a2 a0.length a3] [vS a5 Y.cars.length a6, vS a7 Y.room.length a8, vS a2 a0.length a3] (_ :: _ :: _ :: _) (cs := [_, _, _]) rfl rfl (se (BP (GM (t := 4) (T := 26) (n := 3) [] (by kernel_rfl) rfl (by kernel_rfl) rfl (CD (n := 3) (cs := #[vS a5 Y.cars.length a6, vS a7 Y.room.length a8, vS a2 a0.length a3]) (b := b5) (off := 0) (T := 26) (fz := (0, 0)) (vs := [vS a5 Y.cars.length a6, vS a7 Y.room.length a8, vS a2 a0.length a3]) (by simp) rfl) (.inl ⟨by kernel_rfl, rfl⟩) (TC _ (TC _ (TC _ (TR _)))) (IT hJ0 c6) ?_)))))))));exact ⟨_, rfl, rfl, ((show (⟨Y.cars, Y.room, (moved Y s).tracks.take k⟩ : Yard) = moved Y s from by rw [CX (by rw [moved_len]; omega)]; rfl) ▸ (BE b2 b4 d2))⟩
noncomputable def c_copiedR (p : List Nat) : Code := sub (AU Tryz.f96) p
theorem copiedR_ct (I : Imm) (y : Value) (Y : Yard) (y_f : IsYard I y Y) (h1 : Y.cars.length ≤ 1000000) (h2 : Y.room.length ≤ 1000000) (h3 : Y.tracks.length ≤ 1000000) (h4 : ∀ x ∈ Y.tracks, x.length ≤ 1000000) : Ct Tryz.prog 96 #[y] I ([]) (fun v I' M' => ∃ u : Value, v = u ∧ M' = [] ∧ IsYard I' u (Y)) := by
 obtain ⟨y1, y2, y3, n9, f6, f7, k9⟩ := id y_f;subst n9;obtain ⟨b4, b6, m5, m8, k6, m6, m7, m9⟩ := id f6;subst k6;obtain ⟨a9, b0, n0, n3, k7, n1, n2, n4⟩ := id f7;subst k7;obtain ⟨a7, a8, n5, n8, l8, k8, n6, n7, d5, e9⟩ := id k9;subst k8;refine fr (args := [_]) (N := 36) Tryz.func96 (fun F => ?_);show Run _ _ (c_copiedR []) _ _ [(0, .agg #[vS b4 Y.cars.length b6, vS a9 Y.room.length b0, vS a7 Y.tracks.length a8])] _ _;refine rnm (rqr ?_);refine sS (sb 1 26 #[vS b4 Y.cars.length b6, vS a9 Y.room.length b0, vS a7 Y.tracks.length a8] (fun b1 => (sS (sal 2 26 #[vN, vN, vN] (fun b3 => (se (rq ?_)))))));refine rdX (M := ((bX b3 #[vN, vN, vN] 26) :: (bX b1 #[vS b4 Y.cars.length b6, vS a9 Y.room.length b0, vS a7 Y.tracks.length a8] 26) :: [])) (F0 := F) [(4, 9, .sl 3)] 9 [(1, true), (2, true), (5, true), (6, true), (0, false), (3, false), (8, true), (4, false), (7, false)] (by simp only [AA, CA, NA, List.append_nil]; exact PR _) (JI (alOk_of (ops := FO (c_copiedR [1, 0])) (i := 4) (d := 9) (by kernel_rfl) (by kernel_rfl) (by kernel_rfl)) hA_nil) ?_;refine DH (DM (d := 6) (v := vP b1 0) (by kernel_rfl)) ?_;refine JM (Rx := ((bX b1 #[vS b4 Y.cars.length b6, vS a9 Y.room.length b0, vS a7 Y.tracks.length a8] 26) :: [])) (PS _ _ _) (dlb 7 0 0 b1 (vS b4 Y.cars.length b6)) ?_;refine DH (DM (d := 10) (v := vP b1 1) (by kernel_rfl)) ?_;refine JM (Rx := ((bX b1 #[vS b4 Y.cars.length b6, vS a9 Y.room.length b0, vS a7 Y.tracks.length a8] 26) :: [])) (PS _ _ _) (dlb 11 0 1 b1 (vS a9 Y.room.length b0)) ?_;refine HE (Mx := fun FX => ((bX b3 #[vN, vN, vN] 26) :: (bX b1 #[vS b4 Y.cars.length b6, vS a9 Y.room.length b0, vS a7 Y.tracks.length a8] 26) :: FX)) rfl (fun FX => by simp only [AA, CA, NA, List.append_nil]; exact PR _) (fun FX => ?_);refine id (sbs 5 56 0 #[] (fun b5 => ?_));refine LO (M1 := ((bX b5 #[] 56) :: (bX b3 #[vN, vN, vN] 26) :: (bX b1 #[vS b4 Y.cars.length b6, vS a9 Y.room.length b0, vS a7 Y.tracks.length a8] 26) :: [])) (by exact (PR _)) (.part ((PC _ (PS _ _ _)).trans (PS _ _ _)) (.none (.part ((PC _ (PS _ _ _)).trans (PS _ _ _)) (.none .nil)))) ?_;refine HE (Mx := fun FX => ((bX b5 #[] 56) :: (bX b3 #[vN, vN, vN] 26) :: (bX b1 #[vS b4 Y.cars.length b6, vS a9 Y.room.length b0, vS a7 Y.tracks.length a8] 26) :: FX)) rfl (fun FX => by simp only [AA, CA, NA, List.append_nil]; exact PR _) (fun FX => ?_);have m0 : Own 56 6 CZ (vS (some ⟨b5, 0, none⟩) 0 0) ([] : List Car) [(bX b5 #[] 56)] := Own.lit rfl rfl;refine id (AO (d := 8) (x := (.tmp 5)) (y := (.tmp 7)) (T := 22) (T' := 22) (E := 56) (E' := 56) (sz := 6) (bs := 40) (z := .agg #[vI (0), vI (0), vI (0), vI (0), .bool (false), .bool (false)]) (cell := CZ) (xs := ([] : List Car)) (ys := Y.cars) (Ms := [(bX b5 #[] 56)]) (ty := 22) (gd := none) (by kernel_rfl) rfl (by kernel_rfl) (by kernel_rfl) (by kernel_rfl) (by kernel_rfl) (by kernel_rfl) (by decide) (by kernel_rfl) rfl rfl (m0) (PR _) (DX _) f6.src (by first | omega | (simp only [LC, LN, LA, LK, LD]; omega)) (fun v8 c9 k2 => ?_));rw [NA] at k2;refine LO (M1 := ((bX b3 #[vN, vN, vN] 26) :: (bX b1 #[vS b4 Y.cars.length b6, vS a9 Y.room.length b0, vS a7 Y.tracks.length a8] 26) :: (c9 ++ []))) (by simp only [AA, CA, NA, List.append_nil]; exact (PW PM)) (.part (PS _ _ _) (.none (.wait (by kernel_rfl) (.wait (by kernel_rfl) .nil)))) ?_;obtain ⟨c1, c2, m1, o3⟩ := k2.shape;subst m1;show OFPX _ _ _ _ _ _ _ _ _ _ ((8, vS c1 Y.cars.length c2) :: _) _ _;refine DH (DM (d := 13) (v := vP b1 0) (by kernel_rfl)) ?_;refine ofx_al rfl (fun b9 => ?_);refine HE (Mx := fun FX => ((bX b9 #[] 3) :: (bX b3 #[vN, vN, vN] 26) :: (bX b1 #[vS b4 Y.cars.length b6, vS a9 Y.room.length b0, vS a7 Y.tracks.length a8] 26) :: (c9 ++ FX))) rfl (fun FX => by simp only [AA, CA, NA, List.append_nil]; exact PR _) (fun FX => ?_);have k0 : Own 3 1 AR (vS (some ⟨b9, 0, none⟩) 0 0) ([] : List Int) [(bX b9 #[] 3)] := Own.lit rfl rfl;refine id (AO (d := 12) (x := (.tmp 9)) (y := (.tmp 11)) (T := 23) (T' := 23) (E := 3) (E' := 3) (sz := 1) (bs := 8) (z := vI (0)) (cell := AR) (xs := ([] : List Int)) (ys := Y.room) (Ms := [(bX b9 #[] 3)]) (ty := 23) (gd := none) (by kernel_rfl) rfl (by kernel_rfl) (by kernel_rfl) (by kernel_rfl) (by kernel_rfl) (by kernel_rfl) (by decide) (by kernel_rfl) rfl rfl (k0) (PR _) (BU _) f7.src (by first | omega | (simp only [LC, LN, LA, LK, LD]; omega)) (fun o4 b7 e4 => ?_));rw [NA] at e4;refine LO (M1 := ((bX b3 #[vN, vN, vN] 26) :: (bX b1 #[vS b4 Y.cars.length b6, vS a9 Y.room.length b0, vS a7 Y.tracks.length a8] 26) :: (b7 ++ (c9 ++ [])))) (by simp only [AA, CA, NA, List.append_nil]; exact (PW PM)) (.none (.wait (by kernel_rfl) (.wait (by kernel_rfl) (.wait (by kernel_rfl) (.wait (by kernel_rfl) .nil))))) ?_;obtain ⟨a5, a6, k3, m2⟩ := e4.shape;subst k3;show OFPX _ _ _ _ _ _ _ _ _ _ ((12, vS a5 Y.room.length a6) :: _) _ _;refine ofx_end (AW (M' := ((bX b3 #[vN, vN, vN] 26) :: (bX b1 #[vS b4 Y.cars.length b6, vS a9 Y.room.length b0, vS a7 Y.tracks.length a8] 26) :: (b7 ++ (c9 ++ F)))) (fun w h => by simpa only [AA, CA, NA, List.append_nil] using h) (nm ?_));refine sS (ss 1 0 b1 [vS c1 Y.cars.length c2] [vS c1 Y.cars.length c2, vS a9 Y.room.length b0, vS a7 Y.tracks.length a8] (_ :: _ :: _) (cs := [_, _, _]) rfl rfl (sp 1 [(14, vP b1 1)] (sS (ss 1 1 b1 [vS a5 Y.room.length a6] [vS c1 Y.cars.length c2, vS a5 Y.room.length a6, vS a7 Y.tracks.length a8] (_ :: _ :: _) (cs := [_, _, _]) rfl rfl (sn (sp 1 [(15, vP b1 2)] (sd (dlb 16 1 2 b1 (vS a7 Y.tracks.length a8)) (sp 1 [(3, vS a7 Y.tracks.length a8)] (sn (sp 1 [(17, vP b1 2)] (sS (ss 1 2 b1 [vN] [vS c1 Y.cars.length c2, vS a5 Y.room.length a6, vN] (_ :: _ :: _) (cs := [_, _, _]) rfl rfl (se (rq (rqr (sp 1 [(4, vI (0))] (se (rb 0 ?_))))))))))))))))));refine rl (fun mz a w => ∃ J0 : Imm, ∃ k : Nat, ∃ c0 : Value, ∃ a3 : Seg, ∃ a0 : List Value, (I.le J0) ∧ (k ≤ Y.tracks.length) ∧ (RowsV J0 a0 (Y.tracks.take k)) ∧ (Own 23 1 AN c0 (a0) a3) ∧ Slots 36 [(4, vI ↑k), (1, vP b1 0), (2, vP b3 0), (3, vS a7 Y.tracks.length a8)] a ∧ a.defers = [] ∧ St J0 ((bX b3 #[vN, vN, vN] 26) :: (bX b1 #[vS c1 Y.cars.length c2, vS a5 Y.room.length a6, c0] 26) :: (b7 ++ (c9 ++ (a3 ++ F)))) w ∧ mz = Y.tracks.length - k) ?_ ?_
 ·intro a w hS hD hW;exact ⟨_, I, 0, (vN), [], [], IR _, Nat.zero_le _, (RowsV.nil _), (Own.nil _ _ _), hS.sub (.cons 4 rfl (.cons 1 rfl (.cons 2 rfl (.cons 3 rfl (.nil _))))), hD, hW, rfl⟩
 rintro mz a w ⟨J0, k, c0, a3, a0, hJ0, hk, a4, b8, hS, hD, hW, rfl⟩
 refine AX hS hD hW ?_;clear hS hD hW a w;replace d5 := d5.mono hJ0;replace e9 := fun i hi => (e9 i hi).mono hJ0
 obtain ⟨a1, a2, c7, e8⟩ := b8.shape; subst c7;have c6 := a4.1
 try simp only [LS, LA, LC, LN, LK] at c6
 refine rq (rqr (sp 4 [(21, .bool (cmp .lss (↑k) (↑(Y.tracks.length))))] (se (rc 21 rfl (fun h1 => ?_) (fun h1 => ?_)))))
 ·
  have j9 := h1;have h1 := BX h1;refine AK (NX (rq (rb 1 ?_)));have qk := h4 _ (AL (d := []) (xs := Y.tracks) (k := k) (by omega));refine rd 9 [(0, true), (1, true), (3, true), (4, true), (5, true), (6, true), (2, false), (7, false), (8, false)] ((bX b3 #[vN, vN, vN] 26) :: (bX b1 #[vS c1 Y.cars.length c2, vS a5 Y.room.length a6, vS a1 a0.length a2] 26) :: []) ((b7 ++ (c9 ++ (a3 ++ F)))) (ox 1 [(24, vP b1 2)] ?_);refine AB (dlb 25 1 2 b1 (vS a1 a0.length a2)) (ox 2 [(28, vI (↑k)), (27, vS a7 Y.tracks.length a8)] ?_);refine AB (di 29 1 (k) d5.addr) ?_;have d4 := e9 (k) (by omega);obtain ⟨l1, l3, l2, l6, d8, l4, l5, l7⟩ := id d4;rw [d8] at d4;refine AB (BB (dl 30 (BR d5 (k) (by omega))) d8) ?_;refine BW (sbs 26 3 0 #[] (fun f0 => ?_));refine AQ (S' := ((bX f0 #[] 3) :: (b7 ++ (c9 ++ (a3 ++ F))))) ((PS _ _ _).trans (PC _ (PS _ _ _))) ?_;have k1 : Own 3 1 AR (vS (some ⟨f0, 0, none⟩) 0 0) ([] : List Int) [(bX f0 #[] 3)] := Own.lit rfl rfl;refine BW (AO (d := 31) (x := (.tmp 26)) (y := (.tmp 30)) (T := 23) (T' := 23) (E := 3) (E' := 3) (sz := 1) (bs := 8) (z := vI (0)) (cell := AR) (xs := ([] : List Int)) (ys := Y.tracks.getD (k) []) (Ms := [(bX f0 #[] 3)]) (ty := 23) (gd := none) (by kernel_rfl) rfl (by kernel_rfl) (by kernel_rfl) (by kernel_rfl) (by kernel_rfl) (by kernel_rfl) (by decide) (by kernel_rfl) rfl rfl (k1) (show List.Perm ((bX b3 #[vN, vN, vN] 26) :: (bX b1 #[vS c1 Y.cars.length c2, vS a5 Y.room.length a6, vS a1 a0.length a2] 26) :: (bX f0 #[] 3) :: (b7 ++ (c9 ++ (a3 ++ F)))) ((bX f0 #[] 3) :: (bX b3 #[vN, vN, vN] 26) :: (bX b1 #[vS c1 Y.cars.length c2, vS a5 Y.room.length a6, vS a1 a0.length a2] 26) :: (b7 ++ (c9 ++ (a3 ++ F)))) from ((PC _ (PS _ _ _)).trans (PS _ _ _))) (BU _) d4.src (by first | omega | (simp only [LC, LN, LA, LK, LD]; omega)) (fun o5 f1 e5 => ?_));rw [NA] at e5;refine AQ (S' := ((f1 ++ (b7 ++ (c9 ++ (a3 ++ F)))))) (PW PM) ?_;obtain ⟨c4, c5, k4, m3⟩ := e5.shape;subst k4;show OFP _ _ _ _ _ _ ((31, vS c4 (Y.tracks.getD (k) []).length c5) :: _) _ _;refine BW (sbs 32 23 1 #[vS c4 (Y.tracks.getD (k) []).length c5] (fun l0 => ?_));refine AQ (S' := ((bX l0 #[vS c4 (Y.tracks.getD (k) []).length c5] 23) :: (f1 ++ (b7 ++ (c9 ++ (a3 ++ F)))))) ((PS _ _ _).trans (PC _ (PS _ _ _))) ?_;refine EL (nm (nm ?_));refine sfz (A := ((bX b3 #[vN, vN, vN] 26) :: (bX b1 #[vS c1 Y.cars.length c2, vS a5 Y.room.length a6, vS a1 a0.length a2] 26) :: (bX l0 #[vS c4 (Y.tracks.getD (k) []).length c5] 23) :: (b7 ++ (c9 ++ (a3 ++ F))))) 0 e5 (PU (PU (PM.symm))) (fun l9 d6 d1 => ?_);replace a4 := a4.mono d6;obtain ⟨g7, g9, g8, h6, e0, h0, h5, h7⟩ := id d1;cases e0;refine sS (AO (d := 33) (x := (.tmp 25)) (y := (.tmp 32)) (T := 24) (T' := 24) (E := 23) (E' := 23) (sz := 1) (bs := 24) (z := vN) (cell := AN) (xs := a0) (ys := [(vS c4 (Y.tracks.getD (k) []).length c5 : Value)]) (Ms := a3) (ty := 24) (gd := none) (by kernel_rfl) rfl (by kernel_rfl) (by kernel_rfl) (by kernel_rfl) (by kernel_rfl) (by kernel_rfl) (by decide) (by kernel_rfl) rfl rfl (b8) (PU (PU (PU (PV (PO _ _ _))))) (DL rfl) (CW 2 rfl rfl) (by first | omega | (have hq := a4.1; simp only [LC, LN, LA, LK, LD] at hq ⊢; omega)) (fun o6 f2 f4 => (AW (M' := ((bX b3 #[vN, vN, vN] 26) :: (bX b1 #[vS c1 Y.cars.length c2, vS a5 Y.room.length a6, vS a1 a0.length a2] 26) :: (f2 ++ (b7 ++ (c9 ++ F))))) (fun w h => (h.perm (((PA _ ((PC _ (PS _ _ _)).trans (PS _ _ _))).trans PM).trans (PC _ (PW PM)))).sub (TC _ (TR _))) ?_)));obtain ⟨e6, e7, k5, m4⟩ := f4.shape;subst k5;have f5 := (a4).snoc d1;refine sp 1 [(34, vP b1 2)] (sS (ss 1 2 b1 [vS e6 (a0 ++ ([(vS c4 (Y.tracks.getD (k) []).length c5 : Value)])).length e7] [vS c1 Y.cars.length c2, vS a5 Y.room.length a6, vS e6 (a0 ++ ([(vS c4 (Y.tracks.getD (k) []).length c5 : Value)])).length e7] (_ :: _ :: _) (cs := [_, _, _]) rfl rfl (ee (NB (NX (rr (sp 1 [(22, vI (↑k))] (sd (da 23 (↑k) (1)) (sp 1 [(4, vI (↑k + 1))] (ee ?_))))))))));refine AG (Y.tracks.length - (k+1)) (by omega) ?_;intro a w hS hD hW;exact ⟨l9, k+1, vS e6 (a0 ++ ([(vS c4 (Y.tracks.getD (k) []).length c5 : Value)])).length e7, f2, a0 ++ ([(vS c4 (Y.tracks.getD (k) []).length c5 : Value)]), (IT hJ0 d6), by omega, ((DE (d := []) (xs := Y.tracks) (k := k) (by omega)).symm ▸ f5), f4, hS.sub (.consE 4 rfl rfl (.cons 1 rfl (.cons 2 rfl (.cons 3 rfl (.nil _))))), hD, hW.perm (PC _ (PC _ ((PO _ _ _).trans (PA _ (PO _ _ _))))), rfl⟩
 have j9 := h1;have h1 := CB h1;refine CF 0 ((EP (EP (EB (NX (rqr (sfz (A := ((bX b3 #[vN, vN, vN] 26) :: (bX b1 #[vS c1 Y.cars.length c2, vS a5 Y.room.length a6, vS a1 a0.length a2] 26) :: (b7 ++ (a3 ++ F)))) AM k2 (PU (PU (PO _ _ _))) (fun o0 d7 b2 => ?_))))))));replace a4 := a4.mono d7;obtain ⟨h8, i0, h9, i3, e1, i1, i2, i4⟩ := id b2;cases e1;refine sfz (A := ((bX b3 #[vN, vN, vN] 26) :: (bX b1 #[vS c1 Y.cars.length c2, vS a5 Y.room.length a6, vS a1 a0.length a2] 26) :: (a3 ++ F))) 0 e4 (PU (PM.symm)) (fun o1 d3 c3 => ?_);replace a4 := a4.mono d3;replace b2 := b2.mono d3;obtain ⟨i5, i7, i6, j0, e2, i8, i9, j1⟩ := id c3;cases e2;refine sfz (A := ((bX b3 #[vN, vN, vN] 26) :: (bX b1 #[vS c1 Y.cars.length c2, vS a5 Y.room.length a6, vS a1 a0.length a2] 26) :: F)) undef b8 (PU (PM.symm)) (fun o2 c8 d2 => ?_);replace a4 := a4.mono c8;replace b2 := b2.mono c8;replace c3 := c3.mono c8;obtain ⟨j2, j4, j3, j7, e3, j5, j6, j8⟩ := id d2;cases e3;have d0 := a4.isRows d2;have f3 := a4.1;obtain ⟨f9, g1, g0, g4, f8, d9, g2, g3, g5, g6⟩ := id d0
 injection d9 with fr34_e1 fr34_e2 fr34_e3; subst fr34_e1; subst fr34_e3
 refine sd (dnb 35 1 0 b1 [vS c1 Y.cars.length c2, vS a5 Y.room.length a6, vS a1 a0.length a2]) (sS (ss 0 0 b3 [vS c1 Y.cars.length c2, vS a5 Y.room.length a6, vS a1 a0.length a2] [vS c1 Y.cars.length c2, vS a5 Y.room.length a6, vS a1 a0.length a2] (_ :: _ :: _) (cs := [_, _, _]) rfl rfl (se (BP (GM (t := 2) (T := 26) (n := 3) [] (by kernel_rfl) rfl (by kernel_rfl) rfl (CD (n := 3) (cs := #[vS c1 Y.cars.length c2, vS a5 Y.room.length a6, vS a1 a0.length a2]) (b := b3) (off := 0) (T := 26) (fz := (0, 0)) (vs := [vS c1 Y.cars.length c2, vS a5 Y.room.length a6, vS a1 a0.length a2]) (by simp) rfl) (.inl ⟨by kernel_rfl, rfl⟩) (TC _ (TC _ (TR _))) (IT (IT (IT hJ0 d7) d3) c8) ?_)))));exact ⟨_, rfl, rfl, ((show (⟨Y.cars, Y.room, Y.tracks.take k⟩ : Yard) = Y from by rw [CX (by omega)]) ▸ (BE b2 c3 d0))⟩
noncomputable def c_DrawR (p : List Nat) : Code := sub (AU Tryz.f51) p
theorem DrawR_ct (I : Imm) (y : Value) (Y : Yard) (s : Shift) (y_f : IsYard I y Y) : Ct Tryz.prog 51 #[y, .agg #[vI s.frm, vI s.to, vI s.many]] I ([]) (fun v I' M' => ∃ u0 : Value, v = .tuple #[u0, vI ((BN Y [s]).2)] ∧ M' = [] ∧ IsYard I' u0 ((BN Y [s]).1)) := by
 obtain ⟨y1, y2, y3, m0, b9, c0, c1⟩ := id y_f;subst m0;obtain ⟨a7, a8, k4, k7, i8, k5, k6, k8⟩ := id b9;subst i8;obtain ⟨a9, b0, k9, l2, i9, l0, l1, l3⟩ := id c0;subst i9;obtain ⟨b2, b4, l4, l7, j2, j0, l5, l6, l8, l9⟩ := id c1;subst j0;refine fr (args := [_, _]) (N := 25) Tryz.func51 (fun F => ?_);show Run _ _ (c_DrawR []) _ _ [(0, .agg #[vS a7 Y.cars.length a8, vS a9 Y.room.length b0, vS b2 Y.tracks.length b4]), (1, .agg #[vI (s.frm), vI (s.to), vI (s.many)])] _ _;refine rnm (rqr ?_);refine sS (sb 2 26 #[vS a7 Y.cars.length a8, vS a9 Y.room.length b0, vS b2 Y.tracks.length b4] (fun b1 => (sS (sb 3 52 #[vI (s.frm), vI (s.to), vI (s.many)] (fun b3 => (sS (sal 4 26 #[vN, vN, vN] (fun b5 => (sp 1 [(5, vI (0))] (se (rq (rqr (sd (dnb 8 2 0 b1 [vS a7 Y.cars.length a8, vS a9 Y.room.length b0, vS b2 Y.tracks.length b4]) (sd (dc 9 (fun I' hI => (JZ I' _ (Y) ((BE b9 c0 c1).mono hI) :))) (sp 1 [(6, vI ((AH Y)))] (sn (sp 2 [(11, .bool (!(cmp .eql ((AH Y)) (0))))] (se (rc 11 rfl (fun h1 => ?_) (fun h1 => ?_))))))))))))))))))))
 ·
  have e8 := h1;have h1 := CU (CN h1);refine rqr (sp 2 [(13, vI ((AH Y))), (12, .agg #[vN, vN, vN])] (sS (ss 0 0 b5 [vN, vN, vN] [vN, vN, vN] (_ :: _ :: _ :: _) (cs := [_, _, _]) rfl rfl (sp 1 [(5, vI ((AH Y)))] (se (BP ((RP (EW (t := 4) (u := 5) (T := 26) (n := 3) [] (by kernel_rfl) rfl (by kernel_rfl) rfl (CD (n := 3) (cs := #[vN, vN, vN]) (b := b5) (off := 0) (T := 26) (fz := (0, 0)) (vs := [vN, vN, vN]) (by simp) rfl) (.inl ⟨by kernel_rfl, rfl⟩) rfl (TC _ (TC _ (TC _ (TR _)))) (IR _) ?_)))))))));exact ⟨_, (congrArg (fun n => Value.tuple #[_, vI n]) (show AH Y = _ from (congrArg Prod.snd (LE h1)).symm)), rfl, ((show AF = _ from (congrArg Prod.fst (LE h1)).symm) ▸ (BE (IsSl.nil _) (IsSl.nil _) (IsRows.nil _)))⟩
 have e8 := h1;have h1 := CV (CE h1);refine AK (NX (rq (rqr ?_)));have hv : Valid Y := by (show AH Y = 0; omega)
 have j1 := hv.fine; have a0 := hv.good; have m2 := hv.lens; have m3 := j1.len; have m4 := j1.room3; have m6 := a0.le;refine sd (dnb 14 2 0 b1 [vS a7 Y.cars.length a8, vS a9 Y.room.length b0, vS b2 Y.tracks.length b4]) (sd (dnb 15 1 0 b3 [vI (s.frm), vI (s.to), vI (s.many)]) (sd (dc 16 (fun I' hI => (KC I' _ (Y) (s) ((BE b9 c0 c1).mono hI) (by exact a0.ok) (by exact a0.small) (by exact a0.len) (by exact a0.le) :))) (sp 1 [(7, vI ((BJ Y s)))] (sn (sp 2 [(18, .bool (!(cmp .eql ((BJ Y s)) (0))))] (se (rc 18 rfl (fun h2 => ?_) (fun h2 => ?_))))))))
 ·
  have e9 := h2;have h2 := CU (CN h2);refine rqr (sp 2 [(20, vI ((BJ Y s))), (19, .agg #[vN, vN, vN])] (sS (ss 0 0 b5 [vN, vN, vN] [vN, vN, vN] (_ :: _ :: _ :: _) (cs := [_, _, _]) rfl rfl (sp 1 [(5, vI ((BJ Y s)))] (se (BP ((RP (EW (t := 4) (u := 5) (T := 26) (n := 3) [] (by kernel_rfl) rfl (by kernel_rfl) rfl (CD (n := 3) (cs := #[vN, vN, vN]) (b := b5) (off := 0) (T := 26) (fz := (0, 0)) (vs := [vN, vN, vN]) (by simp) rfl) (.inl ⟨by kernel_rfl, rfl⟩) rfl (TC _ (TC _ (TC _ (TR _)))) (IR _) ?_)))))))));exact ⟨_, (congrArg (fun n => Value.tuple #[_, vI n]) (show BJ Y s = _ from (congrArg Prod.snd (OU hv h2)).symm)), rfl, ((show AF = _ from (congrArg Prod.fst (OU hv h2)).symm) ▸ (BE (IsSl.nil _) (IsSl.nil _) (IsRows.nil _)))⟩
 have e9 := h2;have h2 := CV (CE h2);refine AK (NX (rq ?_));refine rd 3 [(0, true), (2, true), (1, false)] ((bX b5 #[vN, vN, vN] 26) :: (bX b3 #[vI (s.frm), vI (s.to), vI (s.many)] 52) :: (bX b1 #[vS a7 Y.cars.length a8, vS a9 Y.room.length b0, vS b2 Y.tracks.length b4] 26) :: []) (F) ?_;have hm : BJ Y s = 0 := by omega
 have m5 := JA hm;refine AB (dnb 21 2 0 b1 [vS a7 Y.cars.length a8, vS a9 Y.room.length b0, vS b2 Y.tracks.length b4]) ?_;refine AB (dnb 23 1 0 b3 [vI (s.frm), vI (s.to), vI (s.many)]) ?_;refine BW (sc (some 22) (F := ((bX b5 #[vN, vN, vN] 26) :: (bX b3 #[vI (s.frm), vI (s.to), vI (s.many)] 52) :: (bX b1 #[vS a7 Y.cars.length a8, vS a9 Y.room.length b0, vS b2 Y.tracks.length b4] 26) :: F)) (copiedR_ct _ _ (Y) (BE b9 c0 c1) (by first | assumption | omega) (by first | assumption | omega) (by first | assumption | omega) (by first | assumption | omega) :) (PR _) (fun j6 I7 j4 f0 j3 => ?_));obtain ⟨m7, e1, d9, f2⟩ := j3;rw [e1, d9]; clear e1 d9;have c2 := f2;obtain ⟨j8, j9, k0, e3, c6, d0, d4⟩ := id c2;subst e3;obtain ⟨c3, c4, f4, f7, c5, f5, f6, f8⟩ := id c6;subst c5;obtain ⟨c7, c8, f9, g2, c9, g0, g1, g3⟩ := id d0;subst c9;obtain ⟨d1, d2, g4, g7, e6, d3, g5, g6, g8, g9⟩ := id d4;subst d3;refine AQ (S' := (F)) (PR _) ?_;show OFP _ _ _ _ _ _ ((22, .agg #[vS c3 Y.cars.length c4, vS c7 Y.room.length c8, vS d1 Y.tracks.length d2]) :: _) _ _;refine EL (nm (nm ?_));refine sS (sc (some 24) (drawn_ct _ _ (Y) (s) c2 (by omega) (by omega) (by omega) (by exact a0.le) (by omega) :) (.refl _) (fun j7 m1 j5 d8 f1 => ?_));obtain ⟨m8, e2, e0, f3⟩ := f1;rw [e2, e0]; clear e2 e0;have e5 := f3;obtain ⟨k1, k2, k3, e4, b6, b7, b8⟩ := id e5;subst e4;obtain ⟨a1, a2, h0, h5, d5, h3, h4, h6⟩ := id b6;subst d5;obtain ⟨a3, a4, h7, i0, d6, h8, h9, i1⟩ := id b7;subst d6;obtain ⟨a5, a6, i2, i5, e7, d7, i3, i4, i6, i7⟩ := id b8;subst d7;refine nm ?_;refine sS (ss 0 0 b5 [vS a1 ((moved Y s).cars).length a2, vS a3 ((moved Y s).room).length a4, vS a5 ((moved Y s).tracks).length a6] [vS a1 ((moved Y s).cars).length a2, vS a3 ((moved Y s).room).length a4, vS a5 ((moved Y s).tracks).length a6] (_ :: _ :: _ :: _) (cs := [_, _, _]) rfl rfl (sp 1 [(5, vI (0))] (se (BP (EW (t := 4) (u := 5) (T := 26) (n := 3) [] (by kernel_rfl) rfl (by kernel_rfl) rfl (CD (n := 3) (cs := #[vS a1 ((moved Y s).cars).length a2, vS a3 ((moved Y s).room).length a4, vS a5 ((moved Y s).tracks).length a6]) (b := b5) (off := 0) (T := 26) (fz := (0, 0)) (vs := [vS a1 ((moved Y s).cars).length a2, vS a3 ((moved Y s).room).length a4, vS a5 ((moved Y s).tracks).length a6]) (by simp) rfl) (.inl ⟨by kernel_rfl, rfl⟩) rfl (TC _ (TC _ (TC _ (TR _)))) (IT f0 d8) ?_)))));exact ⟨_, (congrArg (fun n => Value.tuple #[_, vI n]) (show 0 = _ from (congrArg Prod.snd (MC hv hm)).symm)), rfl, ((show moved Y s = _ from (congrArg Prod.fst (MC hv hm)).symm) ▸ (BE b6 b7 b8))⟩
noncomputable def c_drawsR (p : List Nat) : Code := sub (AU Tryz.f88) p
theorem drawsR_ct (I : Imm) (y : Value) (Y : Yard) (y_f : IsYard I y Y) (hgood : GoodY Y) (h3 : Y.tracks.length ≤ 3) : Ct Tryz.prog 88 #[y] I ([]) (fun v I' M' => ∃ u : Value, v = u ∧ M' = [] ∧ IA I' u (draws Y)) := by
 obtain ⟨y1, y2, y3, j0, d2, d3, d4⟩ := id y_f;subst j0;obtain ⟨a6, a7, h6, h9, f1, h7, h8, i0⟩ := id d2;subst f1;obtain ⟨a8, a9, i1, i4, f2, i2, i3, i5⟩ := id d3;subst f2;obtain ⟨a0, a1, i6, i9, g2, f3, i7, i8, d5, f4⟩ := id d4;subst f3;refine fr (args := [_]) (N := 45) Tryz.func88 (fun F => ?_);show Run _ _ (c_drawsR []) _ _ [(0, .agg #[vS a6 Y.cars.length a7, vS a8 Y.room.length a9, vS a0 Y.tracks.length a1])] _ _;refine rnm ?_;have j2 := hgood.le; have j1 := PL hgood h3;refine rqr (sS (sb 1 26 #[vS a6 Y.cars.length a7, vS a8 Y.room.length a9, vS a0 Y.tracks.length a1] (fun b1 => (sp 1 [(2, vN)] (sn (sp 1 [(3, vN)] (se (rq (rqr (sp 1 [(4, vI (0))] (se (rb 0 ?_))))))))))));refine rl (fun mz a w => ∃ k : Nat, ∃ l1 : List Shift, ∃ c2 : Value, ∃ b0 : Seg, (k ≤ Y.tracks.length) ∧ (l1 ++ GQ Y k = draws Y) ∧ (Own 52 3 BQ c2 (l1) b0) ∧ Slots 45 [(3, c2), (4, vI ↑k), (1, vP b1 0), (2, vN)] a ∧ a.defers = [] ∧ St I ((bX b1 #[vS a6 Y.cars.length a7, vS a8 Y.room.length a9, vS a0 Y.tracks.length a1] 26) :: (b0 ++ F)) w ∧ mz = Y.tracks.length - k) ?_ ?_
 ·intro a w hS hD hW;exact ⟨_, 0, [], (vN), [], Nat.zero_le _, rfl, (Own.nil _ _ _), hS.sub (.cons 3 rfl (.cons 4 rfl (.cons 1 rfl (.cons 2 rfl (.nil _))))), hD, hW, rfl⟩
 rintro mz a w ⟨k, l1, c2, b0, hk, f8, c0, hS, hD, hW, rfl⟩
 refine AX hS hD hW ?_;clear hS hD hW a w;obtain ⟨b3, b5, c5, d7⟩ := c0.shape; subst c5;refine rq (rqr (sp 2 [(9, vP b1 2), (8, vI (↑k))] (sd (dlb 10 0 2 b1 (vS a0 Y.tracks.length a1)) (sp 2 [(12, .bool (cmp .lss (↑k) (↑(Y.tracks.length))))] (se (rc 12 rfl (fun h1 => ?_) (fun h1 => ?_)))))))
 ·
  have e7 := h1;have h1 := BX h1;refine AK (NX (rq (rb 1 (rqr (sp 1 [(5, vI (0))] (se (rb 2 ?_)))))));refine rl (fun mz a w => ∃ t : Nat, ∃ l2 : List Shift, ∃ c3 : Value, ∃ a5 : Seg, (t ≤ Y.tracks.length) ∧ (l2 ++ (GP Y k t ++ GQ Y (k + 1)) = draws Y) ∧ (Own 52 3 BQ c3 (l2) a5) ∧ Slots 45 [(3, c3), (5, vI ↑t), (1, vP b1 0), (2, vN), (4, vI (↑k))] a ∧ a.defers = [] ∧ St I ((bX b1 #[vS a6 Y.cars.length a7, vS a8 Y.room.length a9, vS a0 Y.tracks.length a1] 26) :: (a5 ++ F)) w ∧ mz = Y.tracks.length - t) ?_ ?_
  ·intro a w hS hD hW;exact ⟨_, 0, l1, vS b3 l1.length b5, b0, Nat.zero_le _, by rw [← f8, LW (Y := Y) (f := k) (by omega)], c0, hS.sub (.cons 3 rfl (.cons 5 rfl (.cons 1 rfl (.cons 2 rfl (.cons 4 rfl (.nil _)))))), hD, hW, rfl⟩
  rintro mz a w ⟨t, l2, c3, a5, ht, f9, c1, hS, hD, hW, rfl⟩
  refine AX hS hD hW ?_;clear hS hD hW a w;obtain ⟨b7, b8, c6, d8⟩ := c1.shape; subst c6;refine rq (rqr (sp 2 [(16, vP b1 2), (15, vI (↑t))] (sd (dlb 17 0 2 b1 (vS a0 Y.tracks.length a1)) (sp 2 [(19, .bool (cmp .lss (↑t) (↑(Y.tracks.length))))] (se (rc 19 rfl (fun h2 => ?_) (fun h2 => ?_)))))))
  ·
   have e8 := h2;have h2 := BX h2;refine AK (NX (rq (rb 3 (rqr (sp 1 [(6, vI (1))] (se (rb 4 ?_)))))));refine rl (fun mz a w => ∃ j : Nat, ∃ l3 : List Shift, ∃ c4 : Value, ∃ a2 : Seg, (j ≤ (Y.tracks.getD (k) []).length) ∧ (l3 ++ (EE Y k t j ++ (GP Y k (t + 1) ++ GQ Y (k + 1))) = draws Y) ∧ (Own 52 3 BQ c4 (l3) a2) ∧ Slots 45 [(3, c4), (6, vI (↑j + 1)), (1, vP b1 0), (2, vN), (4, vI (↑k)), (5, vI (↑t))] a ∧ a.defers = [] ∧ St I ((bX b1 #[vS a6 Y.cars.length a7, vS a8 Y.room.length a9, vS a0 Y.tracks.length a1] 26) :: (a2 ++ F)) w ∧ mz = (Y.tracks.getD (k) []).length - j) ?_ ?_
   ·intro a w hS hD hW;exact ⟨_, 0, l2, vS b7 l2.length b8, a5, Nat.zero_le _, by rw [← f9, LU (Y := Y) (f := k) (t := t) (by omega), AA], c1, hS.sub (.cons 3 rfl (.cons 6 rfl (.cons 1 rfl (.cons 2 rfl (.cons 4 rfl (.cons 5 rfl (.nil _))))))), hD, hW, rfl⟩
   rintro mz a w ⟨j, l3, c4, a2, hj, d6, b2, hS, hD, hW, rfl⟩
   refine AX hS hD hW ?_;clear hS hD hW a w;obtain ⟨a3, a4, c7, d9⟩ := b2.shape; subst c7;refine rq (rqr (sp 2 [(23, vP b1 2), (22, vI (↑j + 1))] (sd (dlb 24 0 2 b1 (vS a0 Y.tracks.length a1)) (sp 1 [(25, vI (↑k))] (sd (di 26 1 (k) d5.addr) ?_)))));have d1 := f4 (k) (by omega);obtain ⟨g5, g7, g6, h0, d0, g8, g9, h5⟩ := id d1;rw [d0] at d1;refine sd (BB (dl 27 (BR d5 (k) (by omega))) d0) (sp 2 [(29, .bool (cmp .leq (↑j + 1) (↑((Y.tracks.getD (k) []).length))))] (se (rc 29 rfl (fun h3 => ?_) (fun h3 => ?_))))
   ·
    have e9 := h3;have h3 := leq_t h3;refine AK (NX (rq (rb 5 (rqr (sp 4 [(35, .agg #[vI (↑k), vI (↑t), vI (↑j + 1)])] (sS (sal 7 52 #[vI (0), vI (0), vI (0)] (fun b4 => (sS (ss 0 0 b4 [vI (↑k), vI (↑t), vI (↑j + 1)] [vI (↑k), vI (↑t), vI (↑j + 1)] (_ :: _ :: _) (cs := [_, _, _]) rfl rfl (sn (sd (dnb 36 1 0 b1 [vS a6 Y.cars.length a7, vS a8 Y.room.length a9, vS a0 Y.tracks.length a1]) (sd (dnb 37 0 0 b4 [vI (↑k), vI (↑t), vI (↑j + 1)]) (sd (dc 38 (fun I' hI => (KC I' _ (Y) ((⟨↑k, ↑t, ↑j + 1⟩ : Shift)) ((BE d2 d3 d4).mono hI) (by exact hgood.ok) (by exact hgood.small) (by exact hgood.len) (by exact hgood.le) :))) (sp 1 [(39, .bool (cmp .eql ((BJ Y ((⟨↑k, ↑t, ↑j + 1⟩ : Shift)))) (0)))] (se (rc 39 rfl (fun h4 => ?_) (fun h4 => ?_))))))))))))))))))
    ·
     have f0 := h4;have h4 := CV h4;refine rr (sp 1 [(40, vS a3 l3.length a4)] (sd (dnb 41 0 0 b4 [vI (↑k), vI (↑t), vI (↑j + 1)]) (sS (sbs 42 52 1 #[vI (↑k), vI (↑t), vI (↑j + 1)] (fun b6 => (sS (AO (d := 43) (x := (.tmp 40)) (y := (.tmp 42)) (T := 45) (T' := 45) (E := 52) (E' := 52) (sz := 3) (bs := 24) (z := .agg #[vI (0), vI (0), vI (0)]) (cell := BQ) (xs := l3) (ys := [(⟨↑k, ↑t, ↑j + 1⟩ : Shift)]) (Ms := a2) (ty := 45) (gd := none) (by kernel_rfl) rfl (by kernel_rfl) (by kernel_rfl) (by kernel_rfl) (by kernel_rfl) (by kernel_rfl) (by decide) (by kernel_rfl) rfl rfl (b2) (PU (PU (PM.symm))) (HH _) (CW 0 rfl rfl) (by first | omega | (have hq := congrArg List.length d6; simp only [LA] at hq; simp only [LC, LN, LA]; omega)) (fun v8 f5 f7 => (AW (M' := ((bX b4 #[vI (↑k), vI (↑t), vI (↑j + 1)] 52) :: (bX b1 #[vS a6 Y.cars.length a7, vS a8 Y.room.length a9, vS a0 Y.tracks.length a1] 26) :: (f5 ++ F))) (fun w h => (h.perm (PW (PW PM))).sub (TC _ (TR _))) ?_)))))))));obtain ⟨g0, g1, g4, j3⟩ := f7.shape;subst g4;refine sp 1 [(3, vS g0 (l3 ++ ([(⟨↑k, ↑t, ↑j + 1⟩ : Shift)])).length g1)] (ee (NB (NX (rr (sp 1 [(30, vI (↑j + 1))] (sd (da 31 (↑j + 1) (1)) (sp 1 [(6, vI ((↑j + 1) + 1))] (ee ?_))))))));refine AG ((Y.tracks.getD (k) []).length - (j+1)) (by omega) ?_;intro a w hS hD hW;exact ⟨j+1, l3 ++ [mk3 k t (j + 1)], vS g0 (l3 ++ ([(⟨↑k, ↑t, ↑j + 1⟩ : Shift)])).length g1, f5, by omega, draws_go_yes d6 (by omega) h4, f7, hS.sub (.consE 3 rfl rfl (.consE 6 rfl rfl (.cons 1 rfl (.cons 2 rfl (.cons 4 rfl (.cons 5 rfl (.nil _))))))), hD, (hW.perm (PR _)).sub (TC _ (TR _)), rfl⟩
    have f0 := h4;have h4 := CU h4;refine AK (NB (NX (rr (sp 1 [(30, vI (↑j + 1))] (sd (da 31 (↑j + 1) (1)) (sp 1 [(6, vI ((↑j + 1) + 1))] (ee ?_)))))));refine AG ((Y.tracks.getD (k) []).length - (j+1)) (by omega) ?_;intro a w hS hD hW;exact ⟨j+1, l3, vS a3 l3.length a4, a2, by omega, draws_go_no d6 (by omega) h4, b2, hS.sub (.consE 3 rfl rfl (.consE 6 rfl rfl (.cons 1 rfl (.cons 2 rfl (.cons 4 rfl (.cons 5 rfl (.nil _))))))), hD, (hW.perm (PR _)).sub (TC _ (TR _)), rfl⟩
   have e9 := h3;have h3 := leq_f h3;refine CF 4 ((EP (EP (EB (NB (NX (rr (sp 1 [(20, vI (↑t))] (sd (da 21 (↑t) (1)) (sp 1 [(5, vI (↑t + 1))] (ee ?_)))))))))));refine AG (Y.tracks.length - (t+1)) (by omega) ?_;intro a w hS hD hW;exact ⟨t+1, l3, vS a3 l3.length a4, a2, by omega, by rw [← d6, KF (Y := Y) (f := k) (t := t) (k := j) (by omega), NA], b2, hS.sub (.consE 3 rfl rfl (.consE 5 rfl rfl (.cons 1 rfl (.cons 2 rfl (.cons 4 rfl (.nil _)))))), hD, hW, rfl⟩
  have e8 := h2;have h2 := CB h2;refine CF 2 ((EP (EP (EB (NB (NX (rr (sp 1 [(13, vI (↑k))] (sd (da 14 (↑k) (1)) (sp 1 [(4, vI (↑k + 1))] (ee ?_)))))))))));refine AG (Y.tracks.length - (k+1)) (by omega) ?_;intro a w hS hD hW;exact ⟨k+1, l2, vS b7 l2.length b8, a5, by omega, by rw [← f9, LT (Y := Y) (f := k) (t := t) (by omega), NA], c1, hS.sub (.consE 3 rfl rfl (.consE 4 rfl rfl (.cons 1 rfl (.cons 2 rfl (.nil _))))), hD, hW, rfl⟩
 have e7 := h1;have h1 := CB h1;refine CF 0 ((EP (EP (EB (NX (rqr ?_))))));have f6 : l1 = draws Y := by rw [← f8, LV (Y := Y) (f := k) (by omega), List.append_nil]
 have g3 := congrArg List.length f6;refine sfz (A := ((bX b1 #[vS a6 Y.cars.length a7, vS a8 Y.room.length a9, vS a0 Y.tracks.length a1] 26) :: F)) AE c0 (PM.symm) (fun I9 c9 b9 => ?_);obtain ⟨e0, e2, e1, e5, c8, e3, e4, e6⟩ := id b9;cases c8;refine sp 2 [(2, vS b3 l1.length b5)] (se (BP (AD (t := 2) [] (by kernel_rfl) rfl (TC _ (TR _)) c9 ?_)));exact ⟨_, rfl, rfl, (f6 ▸ b9)⟩
noncomputable def c_DrawsR (p : List Nat) : Code := sub (AU Tryz.f53) p
theorem DrawsR_ct (I : Imm) (y : Value) (Y : Yard) (y_f : IsYard I y Y) : Ct Tryz.prog 53 #[y] I ([]) (fun v I' M' => ∃ u0 : Value, v = .tuple #[u0, vI ((FS Y).2)] ∧ M' = [] ∧ IA I' u0 ((FS Y).1)) := by
 obtain ⟨y1, y2, y3, e9, a6, a7, a8⟩ := id y_f;subst e9;obtain ⟨a0, a1, d3, d6, b7, d4, d5, d7⟩ := id a6;subst b7;obtain ⟨a2, a3, d8, e1, b8, d9, e0, e2⟩ := id a7;subst b8;obtain ⟨a4, a5, e3, e6, c3, b9, e4, e5, e7, e8⟩ := id a8;subst b9;refine fr (args := [_]) (N := 12) Tryz.func53 (fun F => ?_);show Run _ _ (c_DrawsR []) _ _ [(0, .agg #[vS a0 Y.cars.length a1, vS a2 Y.room.length a3, vS a4 Y.tracks.length a5])] _ _;refine rnm (rqr ?_);refine sS (sb 1 26 #[vS a0 Y.cars.length a1, vS a2 Y.room.length a3, vS a4 Y.tracks.length a5] (fun b1 => (sp 2 [(3, vI (0)), (2, vN)] (se (rq (rqr (sd (dnb 5 0 0 b1 [vS a0 Y.cars.length a1, vS a2 Y.room.length a3, vS a4 Y.tracks.length a5]) (sd (dc 6 (fun I' hI => (JZ I' _ (Y) ((BE a6 a7 a8).mono hI) :))) (sp 1 [(4, vI ((AH Y)))] (sn (sp 2 [(8, .bool (!(cmp .eql ((AH Y)) (0))))] (se (rc 8 rfl (fun h1 => ?_) (fun h1 => ?_))))))))))))))
 ·
  have b2 := h1;have h1 := CU (CN h1);refine rqr (sp 3 [(3, vI ((AH Y))), (2, vN)] (se (BP ((RP (CG (t := 2) (u := 3) [] (by kernel_rfl) rfl rfl (TC _ (TR _)) (IR _) ?_))))));exact ⟨_, (congrArg (fun n => Value.tuple #[_, vI n]) (show AH Y = _ from (congrArg Prod.snd (drawsE_bad h1)).symm)), rfl, ((show [] = _ from (congrArg Prod.fst (drawsE_bad h1)).symm) ▸ (IsSl.nil _))⟩
 have b2 := h1;have h1 := CV (CE h1);refine AK (NX (rqr ?_));have hv : Valid Y := by (show AH Y = 0; omega)
 have c0 := hv.fine; have a9 := hv.good; have f0 := hv.lens; have f1 := c0.len; have f2 := c0.room3; have f3 := a9.le;refine sd (dnb 10 0 0 b1 [vS a0 Y.cars.length a1, vS a2 Y.room.length a3, vS a4 Y.tracks.length a5]) (sS (sc (some 11) (drawsR_ct _ _ (Y) (BE a6 a7 a8) (by assumption) (by omega) :) (.refl _) (fun c7 I3 c6 b3 c4 => ?_)));obtain ⟨u8, c2, c1, c5⟩ := c4;rw [c2, c1]; clear c2 c1;have b0 := c5;obtain ⟨b4, b5, c8, d1, b6, c9, d0, d2⟩ := id b0;subst b6;refine nm ?_;refine sp 2 [(3, vI (0)), (2, vS b4 (draws Y).length b5)] (se (BP (CG (t := 2) (u := 3) [] (by kernel_rfl) rfl rfl (TC _ (TR _)) b3 ?_)));exact ⟨_, (congrArg (fun n => Value.tuple #[_, vI n]) (show 0 = _ from (congrArg Prod.snd (MK hv)).symm)), rfl, ((show draws Y = _ from (congrArg Prod.fst (MK hv)).symm) ▸ b0)⟩
noncomputable def c_EqualYards (p : List Nat) : Code := sub (AU Tryz.f31) p
theorem EqualYards_ct (I : Imm) (a : Value) (A : Yard) (b : Value) (B : Yard) (a_f : IsYard I a A) (b_f : IsYard I b B) : CtV Tryz.prog 31 #[a, b] I (.bool (decide (A = B))) := by
 obtain ⟨a1, a2, a3, g0, d0, c3, c4⟩ := id a_f;subst g0;obtain ⟨a0, a4, e5, e8, c9, e6, e7, c2⟩ := id d0;subst c9;obtain ⟨a7, a8, e9, f2, d1, f0, f1, f3⟩ := id c3;subst d1;obtain ⟨a9, b0, f4, f7, e1, d2, f5, f6, f8, f9⟩ := id c4;subst d2;obtain ⟨b1, b2, b3, i1, d4, c6, c7⟩ := id b_f;subst i1;obtain ⟨a5, a6, g1, g4, d3, g2, g3, c5⟩ := id d4;subst d3;obtain ⟨b4, b5, g5, g8, d5, g6, g7, g9⟩ := id c6;subst d5;obtain ⟨b6, b7, h0, h8, e2, d6, h6, h7, h9, i0⟩ := id c7;subst d6;refine fr (args := [_, _]) (N := 47) Tryz.func31 (fun F => ?_);show Run _ _ (c_EqualYards []) _ _ [(0, .agg #[vS a0 A.cars.length a4, vS a7 A.room.length a8, vS a9 A.tracks.length b0]), (1, .agg #[vS a5 B.cars.length a6, vS b4 B.room.length b5, vS b6 B.tracks.length b7])] _ _;refine rnm (rqr ?_);refine sS (sb 2 26 #[vS a0 A.cars.length a4, vS a7 A.room.length a8, vS a9 A.tracks.length b0] (fun b1 => (sS (sb 3 26 #[vS a5 B.cars.length a6, vS b4 B.room.length b5, vS b6 B.tracks.length b7] (fun b3 => (sp 1 [(4, .bool (false))] (se (rq (rq ?_)))))))));refine EZ (fun a w => Slots 47 [(2, vP b1 0), (3, vP b3 0), (4, .bool (false)), (28, .bool ((!(cmp .eql (↑(A.cars.length)) (↑(B.cars.length)))) || ((!(decide (A.room = B.room))) || (!(decide (A.tracks = B.tracks))))))] a ∧ a.defers = [] ∧ St I ((bX b3 #[vS a5 B.cars.length a6, vS b4 B.room.length b5, vS b6 B.tracks.length b7] 26) :: (bX b1 #[vS a0 A.cars.length a4, vS a7 A.room.length a8, vS a9 A.tracks.length b0] 26) :: F) w) ?_ ?_
 ·
  refine rr (sp 1 [(6, vP b1 0)] (sd (dlb 7 1 0 b1 (vS a0 A.cars.length a4)) (sp 2 [(9, vP b3 0), (8, vI (↑(A.cars.length)))] (sd (dlb 10 0 0 b3 (vS a5 B.cars.length a6)) (sp 3 [(13, .bool (!(cmp .eql (↑(A.cars.length)) (↑(B.cars.length)))))] ?_)))));refine BV 13 rfl (fun h1 => ?_) (fun h1 => ?_)
  ·
   have b8 := h1;have b8 := CU (CN b8);refine sp 15 [(28, .bool (true))] (ee ?_);refine BD (fun a w hS hD hW => ⟨hS.sub (.cons 2 rfl (.cons 3 rfl (.cons 4 rfl (.consE 28 rfl (congrArg Value.bool (by simp only [h1, kA, kB, kC, kD, kE, kF, kG, kH, kI, kJ])) (.nil _))))), hD, hW⟩)
  have b8 := h1;have b8 := CV (CE b8);refine sp 1 [(14, vP b1 1)] (sd (dlb 15 1 1 b1 (vS a7 A.room.length a8)) (sp 1 [(16, vP b3 1)] (sd (dlb 17 0 1 b3 (vS b4 B.room.length b5)) (sd (dc 18 (fun I' hI => (GC I' _ _ _ _ (c3.mono hI) (c6.mono hI) :))) (sp 3 [(21, .bool (!(decide (A.room = B.room))))] ?_)))));refine BV 21 rfl (fun h2 => ?_) (fun h2 => ?_)
  ·
   have b9 := h2;have b9 := LQ (CN b9);refine sp 7 [(28, .bool (true))] (ee ?_);refine BD (fun a w hS hD hW => ⟨hS.sub (.cons 2 rfl (.cons 3 rfl (.cons 4 rfl (.consE 28 rfl (congrArg Value.bool (by simp only [h1, h2, kA, kB, kC, kD, kE, kF, kG, kH, kI, kJ])) (.nil _))))), hD, hW⟩)
  have b9 := h2;have b9 := JU (CE b9);refine sp 1 [(22, vP b1 2)] (sd (dlb 23 1 2 b1 (vS a9 A.tracks.length b0)) (sp 1 [(24, vP b3 2)] (sd (dlb 25 0 2 b3 (vS b6 B.tracks.length b7)) (sd (dc 26 (fun I' hI => (OG I' _ _ _ _ (c4.mono hI) (c7.mono hI) :))) (sp 2 [(28, .bool (!(decide (A.tracks = B.tracks))))] (ee ?_))))));refine BD (fun a w hS hD hW => ⟨hS.sub (.cons 2 rfl (.cons 3 rfl (.cons 4 rfl (.consE 28 rfl (congrArg Value.bool (by simp only [h1, h2, kA, kB, kC, kD, kE, kF, kG, kH, kI, kJ])) (.nil _))))), hD, hW⟩)
 rintro a w ⟨hS, hD, hW⟩
 refine AX hS hD hW ?_;clear hS hD hW a w;refine rc 28 rfl (fun h3 => ?_) (fun h3 => ?_)
 ·
  have d8 := h3;refine rqr (sp 1 [(4, .bool (false))] (se (BP ((RP (AD (t := 4) [] (by kernel_rfl) rfl (TC _ (TC _ (TR _))) (IR _) ?_))))));exact ⟨congrArg Value.bool (decide_eq_false (fun e => by subst e; simp [cmp] at h3)).symm, rfl⟩
 have d8 := h3;obtain ⟨c8, d7⟩ := or_f h3;have c8 := CV (CE c8);obtain ⟨c0, c1⟩ := or_f d7;have c0 := JU (CE c0);have c1 := JU (CE c1);refine AK (NX (rq (rqr (sp 1 [(5, vI (0))] (se (rb 0 ?_))))));refine rl (fun mz a w => ∃ k : Nat, (k ≤ A.cars.length) ∧ (A.cars.length = B.cars.length) ∧ (A.cars.take k = B.cars.take k) ∧ (A.room = B.room) ∧ (A.tracks = B.tracks) ∧ Slots 47 [(5, vI ↑k), (2, vP b1 0), (3, vP b3 0)] a ∧ a.defers = [] ∧ St I ((bX b3 #[vS a5 B.cars.length a6, vS b4 B.room.length b5, vS b6 B.tracks.length b7] 26) :: (bX b1 #[vS a0 A.cars.length a4, vS a7 A.room.length a8, vS a9 A.tracks.length b0] 26) :: F) w ∧ mz = A.cars.length - k) ?_ ?_
 ·intro a w hS hD hW;exact ⟨_, 0, Nat.zero_le _, (by omega), rfl, (by assumption), (by assumption), hS.sub (.cons 5 rfl (.cons 2 rfl (.cons 3 rfl (.nil _)))), hD, hW, rfl⟩
 rintro mz a w ⟨k, hk, hl, ht, e3, e4, hS, hD, hW, rfl⟩
 refine AX hS hD hW ?_;clear hS hD hW a w;refine rq (rqr (sp 2 [(30, vP b1 0), (29, vI (↑k))] (sd (dlb 31 1 0 b1 (vS a0 A.cars.length a4)) (sp 2 [(33, .bool (cmp .lss (↑k) (↑(A.cars.length))))] (se (rc 33 rfl (fun h4 => ?_) (fun h4 => ?_)))))))
 ·
  have d9 := h4;have h4 := BX h4;refine AK (NX (rq (rb 1 (rq ?_))));refine rd0 10 (ox 1 [(36, vP b1 0)] ?_);refine AB (dlb 37 1 0 b1 (vS a0 A.cars.length a4)) (ox 1 [(38, vI (↑k))] ?_);refine AB (di 39 6 (k) c2.addr) ?_;refine AB (CP (x := (.tmp 39)) (T := 56) (n := 6) (vs := [vI ((A.cars.getD (k) AM).len), vI ((A.cars.getD (k) AM).wt), vI ((A.cars.getD (k) AM).brk), vI ((A.cars.getD (k) AM).grp), .bool ((A.cars.getD (k) AM).pipe), .bool ((A.cars.getD (k) AM).heat)]) (d := 40) (ty := 56) (gd := none) (by kernel_rfl) rfl (by kernel_rfl) (by kernel_rfl) rfl rfl (MI c2 (k) (by omega))) (ox 1 [(41, vP b3 0)] ?_);refine AB (dlb 42 0 0 b3 (vS a5 B.cars.length a6)) (ox 1 [(43, vI (↑k))] ?_);refine AB (di 44 6 (k) c5.addr) ?_;refine AB (CP (x := (.tmp 44)) (T := 56) (n := 6) (vs := [vI ((B.cars.getD (k) AM).len), vI ((B.cars.getD (k) AM).wt), vI ((B.cars.getD (k) AM).brk), vI ((B.cars.getD (k) AM).grp), .bool ((B.cars.getD (k) AM).pipe), .bool ((B.cars.getD (k) AM).heat)]) (d := 45) (ty := 56) (gd := none) (by kernel_rfl) rfl (by kernel_rfl) (by kernel_rfl) rfl rfl (MI c5 (k) (by omega))) ?_;refine BC (sd (det_neqAgg (L := [(0, .i .i64), (1, .i .i64), (2, .i .i64), (3, .i .i64), (4, .b), (5, .b)]) (x := (.tmp 40)) (y := (.tmp 45)) (T := 56) (T' := 56) (d := 46) (ty := 4) (gd := none) (by kernel_rfl) rfl (by kernel_rfl) rfl rfl rfl (eqCar (A.cars.getD (k) AM) (B.cars.getD (k) AM))) (se (rc 46 rfl (fun h5 => ?_) (fun h5 => ?_))))
  ·
   have e0 := h5;have h5 := LQ (CN h5);refine rqr (sp 1 [(4, .bool (false))] (se (BP ((RB (RP (RP (RB (RP (AD (t := 4) [] (by kernel_rfl) rfl (TC _ (TC _ (TR _))) (IR _) ?_))))))))));exact ⟨congrArg Value.bool (decide_eq_false (fun e => h5 (by rw [e]))).symm, rfl⟩
  have e0 := h5;have h5 := JU (CE h5);refine AK (NB (NX (rr (sp 1 [(34, vI (↑k))] (sd (da 35 (↑k) (1)) (sp 1 [(5, vI (↑k + 1))] (ee ?_)))))));refine AG (A.cars.length - (k+1)) (by omega) ?_;intro a w hS hD hW;exact ⟨k+1, by omega, hl, JB (d := AM) hl ht (by omega) h5, e3, e4, hS.sub (.consE 5 rfl rfl (.cons 2 rfl (.cons 3 rfl (.nil _)))), hD, hW, rfl⟩
 have d9 := h4;have h4 := CB h4;refine CF 0 ((EP (EP (EB (NX (rqr (sp 1 [(4, .bool (true))] (se (BP (AD (t := 4) [] (by kernel_rfl) rfl (TC _ (TC _ (TR _))) (IR _) ?_))))))))));exact ⟨congrArg Value.bool (decide_eq_true (yard_ext (LH hl ht (by omega)) e3 e4)).symm, rfl⟩
noncomputable def c_ridden (p : List Nat) : Code := sub (AU Tryz.f32) p
theorem ridden_ct (I : Imm) (p : Nat) (p_s : Int) (y : Value) (Y : Yard) (most : Int) (y_f : IsYard I y Y) (hv : Valid Y) (hmo : 0 ≤ most ∧ most ≤ 1000) : Ct Tryz.prog 32 #[vP p 0, y, vI most] I ([(bX p #[.int .u64 (p_s)] 95)]) (fun v I' M' => ∃ p_t : Int, ∃ l : List Shift, ∃ Z : Yard, ∃ u : Value, ∃ Ms : Seg, v = u ∧ M' = [(bX p #[.int .u64 (p_t)] 95)] ++ (Ms) ∧ (BM Y l = (Z, 0)) ∧ ((↑l.length : Int) ≤ most) ∧ Own 52 3 BQ u (l) Ms) := by
 obtain ⟨y1, y2, y3, q6, d7, e0, e3⟩ := id y_f;subst q6;obtain ⟨d5, d6, p0, p3, j9, p1, p2, p4⟩ := id d7;subst j9;obtain ⟨d8, d9, p5, p8, k0, p6, p7, p9⟩ := id e0;subst k0;obtain ⟨e1, e2, q0, q3, l3, k1, q1, q2, q4, q5⟩ := id e3;subst k1;refine fr (args := [_, _, _]) (N := 47) Tryz.func32 (fun F => ?_);show Run _ _ (c_ridden []) _ _ [(0, vP p 0), (1, .agg #[vS d5 Y.cars.length d6, vS d8 Y.room.length d9, vS e1 Y.tracks.length e2]), (2, vI (most))] _ _;refine rnm (rqr ?_);refine sS (sb 4 26 #[vS d5 Y.cars.length d6, vS d8 Y.room.length d9, vS e1 Y.tracks.length e2] (fun b1 => (sp 1 [(6, vN)] (sn (sp 1 [(7, vN)] (se (rq (rqr (sp 2 [(13, vI (most)), (12, vP p 0)] (sS (sc (some 14) (F := ((bX b1 #[vS d5 Y.cars.length d6, vS d8 Y.room.length d9, vS e1 Y.tracks.length e2] 26) :: F)) (OZ _ (p) (p_s) (most) (by omega) :) (PS _ _ _) (fun o4 I3 o0 c6 n1 => ?_))))))))))));obtain ⟨j2, n9, k8, k6, n7⟩ := n1;rw [k8, k6]; clear k8 k6;replace d7 := d7.mono c6;replace e0 := e0.mono c6;replace e3 := e3.mono c6;refine nm ?_;refine sp 1 [(8, vI (↑n9))] (se (rb 0 ?_));refine rl (fun mz a w => ∃ J0 : Imm, ∃ k : Nat, ∃ l : List Shift, ∃ Z : Yard, ∃ s : Int, ∃ k2 : Value, ∃ k3 : Value, ∃ k4 : Value, ∃ c7 : Value, ∃ a0 : Seg, (I3.le J0) ∧ ((↑(l.length + k) : Int) ≤ most ∨ k = 0 ∧ (↑l.length : Int) ≤ most) ∧ (BM Y l = (Z, 0)) ∧ (ED J0 k2 Z.cars) ∧ (AZ J0 k3 Z.room) ∧ (IsRows J0 k4 Z.tracks) ∧ (Own 52 3 BQ c7 (l) a0) ∧ Slots 47 [(7, c7), (8, vI ↑k), (0, vP p 0), (4, vP b1 0)] a ∧ a.defers = [] ∧ St J0 ((bX p #[.int .u64 (s)] 95) :: (bX b1 #[k2, k3, k4] 26) :: (a0 ++ F)) w ∧ mz = k + 1) ?_ ?_
 ·intro a w hS hD hW;exact ⟨_, I3, n9, [], Y, j2, (vS d5 Y.cars.length d6), (vS d8 Y.room.length d9), (vS e1 Y.tracks.length e2), (vN), [], IR _, by simp only [LN]; omega, rfl, d7, e0, e3, (Own.nil _ _ _), hS.sub (.cons 7 rfl (.cons 8 rfl (.cons 0 rfl (.cons 4 rfl (.nil _))))), hD, hW, rfl⟩
 rintro mz a w ⟨J0, k, l, Z, s, k2, k3, k4, c7, a0, hJ0, r1, g5, a7, a8, a9, c2, hS, hD, hW, rfl⟩
 refine AX hS hD hW ?_;clear hS hD hW a w;obtain ⟨b0, b2, d1, g6⟩ := c2.shape; subst d1;obtain ⟨b6, b7, l4, l7, g1, l5, l6, l8⟩ := id a7;subst g1;obtain ⟨b8, b9, l9, m2, g2, m0, m1, m3⟩ := id a8;subst g2;obtain ⟨c0, c1, m4, m7, k5, g3, m5, m6, m8, m9⟩ := id a9;subst g3;obtain ⟨r2, j0, r5⟩ := LF hv g5;have k9 := j0.fine; have n4 := j0.good; have n3 := MK j0;have r3 := k9.len; have r4 := k9.room3; have n5 := PL n4 (by omega);refine rq (rqr (sp 2 [(16, .bool (cmp .gtr (↑k) (0)))] (se (rc 16 rfl (fun h1 => ?_) (fun h1 => ?_)))))
 ·
  have i5 := h1;have h1 := FL h1;refine AK (NX (rq (rb 1 (rqr (sd (dnb 20 1 0 b1 [vS b6 Z.cars.length b7, vS b8 Z.room.length b9, vS c0 Z.tracks.length c1]) ?_)))))
  skip
  refine sS (sc (some 21) (DrawsR_ct _ _ (Z) (BE a7 a8 a9) :) (.refl _) (fun o5 q7 o1 b4 i7 => ?_));obtain ⟨o8, f5, f1, j3⟩ := i7;rw [f5, f1]; clear f5 f1;replace a7 := a7.mono b4;replace a8 := a8.mono b4;replace a9 := a9.mono b4;have e6 := j3;obtain ⟨c8, c9, j5, j8, e5, j6, j7, b3⟩ := id e6;subst e5;refine nm ?_;have r0 : (FS Z).1.length ≤ 45 := by rw [n3]; exact n5
  refine sp 5 [(9, vS c8 ((FS Z).1).length c9)] (se (rq (rqr (sp 3 [(26, .bool (cmp .eql (↑(((FS Z).1).length)) (0)))] (se (rc 26 rfl (fun h2 => ?_) (fun h2 => ?_)))))))
  ·
   have i6 := h2;have h2 := CV h2;refine rqr (sp 2 [(6, vS b0 l.length b2)] (se (BP ((RP (RB (RP (RP (RB (RP (ppm (M' := ((bX p #[.int .u64 (s)] 95) :: (a0 ++ (bX b1 #[vS b6 Z.cars.length b7, vS b8 Z.room.length b9, vS c0 Z.tracks.length c1] 26) :: F))) (PC _ (PM.symm)) (AD (t := 6) ([(bX p #[.int .u64 (s)] 95)] ++ (a0)) (by kernel_rfl) rfl (by simp only [AA, NA, CA]; exact (TK _ (TA (TC _ (TR _)) _))) (IT (IT c6 hJ0) b4) ?_))))))))))));exact ⟨_, _, Z, _, _, rfl, rfl, g5, by omega, c2⟩
  have i6 := h2;have h2 := CU h2;refine AK (NX (rqr (sp 4 [(31, vI (↑(((FS Z).1).length))), (29, vP p 0), (28, vS c8 ((FS Z).1).length c9)] (sd (dsb 32 (↑(((FS Z).1).length)) (1)) (sS (sc (some 33) (F := ((bX b1 #[vS b6 Z.cars.length b7, vS b8 Z.room.length b9, vS c0 Z.tracks.length c1] 26) :: (a0 ++ F))) (OZ _ (p) (s) ((↑(((FS Z).1).length)) - 1) (by omega) :) (.refl _) (fun o6 q8 o2 b5 i8 => ?_)))))));obtain ⟨e4, d0, f6, f2, n8⟩ := i8;rw [f6, f2]; clear f6 f2;replace a7 := a7.mono b5;replace a8 := a8.mono b5;replace a9 := a9.mono b5;replace b3 := b3.mono b5;refine nm ?_;refine sd (di 34 3 (d0) b3.addr) (sd (CP (x := (.tmp 34)) (T := 52) (n := 3) (vs := [vI ((((FS Z).1).getD (d0) AE).frm), vI ((((FS Z).1).getD (d0) AE).to), vI ((((FS Z).1).getD (d0) AE).many)]) (d := 35) (ty := 52) (gd := none) (by kernel_rfl) rfl (by kernel_rfl) (by kernel_rfl) rfl rfl (FH b3 (d0) (by omega))) ?_);have k7 : ((FS Z).1).getD (d0) AE ∈ (FS Z).1 := AL (by omega);obtain ⟨sdr, hsd⟩ : ∃ sdr, sdr = ((FS Z).1).getD (d0) AE := ⟨_, rfl⟩;rw [← hsd] at k7;have n2 := ridden_next hv g5 k7;refine EO 35 rfl (show (.agg #[vI ((((FS Z).1).getD (d0) AE).frm), vI ((((FS Z).1).getD (d0) AE).to), vI ((((FS Z).1).getD (d0) AE).many)] : Value) = .agg #[vI (sdr.frm), vI (sdr.to), vI (sdr.many)] from by rw [hsd]) (sS (sal 11 52 #[vI (0), vI (0), vI (0)] (fun g4 => (sS (ss 0 0 g4 [vI (sdr.frm), vI (sdr.to), vI (sdr.many)] [vI (sdr.frm), vI (sdr.to), vI (sdr.many)] (_ :: _ :: _ :: _) (cs := [_, _, _]) rfl rfl (sn (sd (dnb 37 2 0 b1 [vS b6 Z.cars.length b7, vS b8 Z.room.length b9, vS c0 Z.tracks.length c1]) (sd (dnb 38 0 0 g4 [vI (sdr.frm), vI (sdr.to), vI (sdr.many)]) (sS (sc (some 39) (DrawR_ct _ _ (Z) (sdr) (BE a7 a8 a9) :) (.refl _) (fun o7 n0 o3 f0 i9 => ?_)))))))))));obtain ⟨o9, f7, f3, j4⟩ := i9;rw [f7, f3]; clear f7 f3;have e8 := j4;obtain ⟨l0, l1, l2, e7, c3, c4, c5⟩ := id e8;subst e7;obtain ⟨a1, a2, g7, h0, d2, g8, g9, h3⟩ := id c3;subst d2;obtain ⟨a3, a4, h4, h7, d3, h5, h6, h8⟩ := id c4;subst d3;obtain ⟨a5, a6, h9, i2, g0, d4, i0, i1, i3, i4⟩ := id c5;subst d4;refine nm ?_;refine sp 3 [(40, .agg #[vS a1 (((BN Z [sdr]).1).cars).length a2, vS a3 (((BN Z [sdr]).1).room).length a4, vS a5 (((BN Z [sdr]).1).tracks).length a6])] (sS (ss 2 0 b1 [vS a1 (((BN Z [sdr]).1).cars).length a2, vS a3 (((BN Z [sdr]).1).room).length a4, vS a5 (((BN Z [sdr]).1).tracks).length a6] [vS a1 (((BN Z [sdr]).1).cars).length a2, vS a3 (((BN Z [sdr]).1).room).length a4, vS a5 (((BN Z [sdr]).1).tracks).length a6] (_ :: _ :: _ :: _) (cs := [_, _, _]) rfl rfl (se (rr (sp 1 [(42, vS b0 l.length b2)] (sd (dnb 43 0 0 g4 [vI (sdr.frm), vI (sdr.to), vI (sdr.many)]) (sS (sbs 44 52 1 #[vI (sdr.frm), vI (sdr.to), vI (sdr.many)] (fun q9 => (sS (AO (d := 45) (x := (.tmp 42)) (y := (.tmp 44)) (T := 45) (T' := 45) (E := 52) (E' := 52) (sz := 3) (bs := 24) (z := .agg #[vI (0), vI (0), vI (0)]) (cell := BQ) (xs := l) (ys := [sdr]) (Ms := a0) (ty := 45) (gd := none) (by kernel_rfl) rfl (by kernel_rfl) (by kernel_rfl) (by kernel_rfl) (by kernel_rfl) (by kernel_rfl) (by decide) (by kernel_rfl) rfl rfl (c2) (PU (PU (PU (PM.symm)))) (HH _) (CW 0 rfl rfl) (by first | omega | (simp only [LC, LN, LA, LK, LD]; omega)) (fun r6 e9 f4 => (AW (M' := ((bX g4 #[vI (sdr.frm), vI (sdr.to), vI (sdr.many)] 52) :: (bX p #[.int .u64 (e4)] 95) :: (bX b1 #[vS a1 (((BN Z [sdr]).1).cars).length a2, vS a3 (((BN Z [sdr]).1).room).length a4, vS a5 (((BN Z [sdr]).1).tracks).length a6] 26) :: (e9 ++ F))) (fun w h => (h.perm (PW (PW (PW PM)))).sub (TC _ (TR _))) ?_)))))))))))));obtain ⟨f8, f9, j1, n6⟩ := f4.shape;subst j1;refine sp 1 [(7, vS f8 (l ++ ([sdr])).length f9)] (ee (NB (NX (rr (sp 1 [(17, vI (↑k))] (sd (dsb 18 (↑k) (1)) (sp 1 [(8, vI (↑k - 1))] (ee ?_))))))));refine AG (k - 1 + 1) (by omega) ?_;intro a w hS hD hW;exact ⟨n0, k - 1, l ++ ([sdr]), (BN Z [sdr]).1, e4, (vS a1 (((BN Z [sdr]).1).cars).length a2), (vS a3 (((BN Z [sdr]).1).room).length a4), (vS a5 (((BN Z [sdr]).1).tracks).length a6), vS f8 (l ++ ([sdr])).length f9, e9, (IT (IT (IT hJ0 b4) b5) f0), by (simp only [LA, LC, LN]; omega), n2.2.1, c3, c4, c5, f4, hS.sub (.consE 7 rfl rfl (.consE 8 rfl (congrArg (Value.int .i64) (by omega)) (.cons 0 rfl (.cons 4 rfl (.nil _))))), hD, (hW.perm (PR _)).sub (TC _ (TR _)), rfl⟩
 have i5 := h1;have h1 := FT h1;refine CF 0 ((EP (EP (EB (NX (rqr (sp 2 [(6, vS b0 l.length b2)] (se (BP (ppm (M' := ((bX p #[.int .u64 (s)] 95) :: (a0 ++ (bX b1 #[vS b6 Z.cars.length b7, vS b8 Z.room.length b9, vS c0 Z.tracks.length c1] 26) :: F))) (PC _ (PM.symm)) (AD (t := 6) ([(bX p #[.int .u64 (s)] 95)] ++ (a0)) (by kernel_rfl) rfl (by simp only [AA, NA, CA]; exact (TK _ (TA (TC _ (TR _)) _))) (IT c6 hJ0) ?_)))))))))));exact ⟨_, _, Z, _, _, rfl, rfl, g5, by omega, c2⟩
end Go.Proofs.YtcaocbhbofejnaaGreatDoor

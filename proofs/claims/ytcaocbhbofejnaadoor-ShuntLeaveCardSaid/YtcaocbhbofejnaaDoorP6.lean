/- A part of the proof of the laws of this seat. -/
import Derived.Test.YtcaocbhbofejnaaDoorP5
set_option linter.unusedVariables false
set_option linter.unusedSimpArgs false
namespace Go.Sl
open Go
theorem IsRows.split {I : Imm} {v : Value} {xss : List (List Int)} (h : IsRows I v xss) : ∃ vs : List Value, IsVals I v vs ∧ RowsV I vs xss := by
  obtain ⟨a, c, b, o, f, h1, h2, h3, h4, h5⟩ := h
  have hl : ((List.range xss.length).map f).length = xss.length := by simp
  have hg : ∀ i, i < xss.length → ((List.range xss.length).map f).getD i undef = f i := fun i hi => by simp [List.getD, hi]
  refine ⟨(List.range xss.length).map f, ⟨a, c, b, o, by rw [hl]; exact h1, by rw [hl]; exact h2, by rw [hl]; exact h3, ?_⟩, hl, fun i hi => by rw [hg i hi]; exact h5 i hi⟩
  rw [hl]
  refine ⟨h4.addr, fun i hi g hg2 => ?_⟩
  have := h4.get i hi g hg2
  show ICell I _ (((List.range xss.length).map f).getD i undef)
  rw [hg i hi]
  exact this
theorem RowsV.take {I : Imm} {vs : List Value} {xss : List (List Int)} (h : RowsV I vs xss) (k : Nat) : RowsV I (vs.take k) (xss.take k) := by
  refine ⟨by simp [h.1], fun i hi => ?_⟩
  have hi2 : i < k ∧ i < xss.length := by rw [List.length_take] at hi; omega
  have := h.2 i hi2.2
  simp only [List.getD] at this ⊢
  rw [List.getElem?_take_of_lt hi2.1, List.getElem?_take_of_lt hi2.1]
  exact this
theorem RowsV.drop {I : Imm} {vs : List Value} {xss : List (List Int)} (h : RowsV I vs xss) (k : Nat) : RowsV I (vs.drop k) (xss.drop k) := by
  refine ⟨by simp [h.1], fun i hi => ?_⟩
  have hi2 : k + i < xss.length := by simp at hi; omega
  have := h.2 (k + i) hi2
  simp only [List.getD] at this ⊢
  rw [List.getElem?_drop, List.getElem?_drop]
  exact this
theorem RowsV.append {I : Imm} {vs ws : List Value} {xss yss : List (List Int)} (h : RowsV I vs xss) (k : RowsV I ws yss) : RowsV I (vs ++ ws) (xss ++ yss) := by
  have h1 := h.1
  refine ⟨by simp [h.1, k.1], fun i hi => ?_⟩
  simp only [List.length_append] at hi
  by_cases e : i < xss.length
  · have := h.2 i e
    simp only [List.getD] at this ⊢
    rw [List.getElem?_append_left (by omega), List.getElem?_append_left e]
    exact this
  · have := k.2 (i - xss.length) (by omega)
    simp only [List.getD] at this ⊢
    rw [List.getElem?_append_right (by omega), List.getElem?_append_right (by omega), h1]
    exact this
end Go.Sl
namespace Go.Sh
open Go Go.Sl

section
variable {xs ys : List Int} {k : Nat}
end
def wholeL (n : Nat) : List Int := (List.range n).map fun i : Nat => (i : Int)
theorem wholeL_succ (n : Nat) : wholeL (n + 1) = wholeL n ++ [(n : Int)] := by simp [wholeL, List.range_succ]
theorem wholeL_length (n : Nat) : (wholeL n).length = n := by simp [wholeL]
section
variable {o l : List Int} {k : Nat}
theorem all_next (hk : k < o.length) (h : o.getD k 0 ∈ l) : ((o.drop k).all fun c => decide (c ∈ l)) = ((o.drop (k + 1)).all fun c => decide (c ∈ l)) := by
  rw [drop_cons (d := 0) hk]; simp only [List.all_cons, decide_eq_true h, Bool.true_and]
theorem all_miss (hk : k < o.length) (h : ¬ o.getD k 0 ∈ l) : ((o.drop k).all fun c => decide (c ∈ l)) = false := by
  rw [drop_cons (d := 0) hk]; simp only [List.all_cons, decide_eq_false h, Bool.false_and]
theorem all_end (hk : o.length ≤ k) : ((o.drop k).all fun c => decide (c ∈ l)) = true := by rw [drop_done hk]; rfl
end

section
variable {α β : Type}
def ordFrom (f : α → β → β) (d : α) (bl : List α) (rec : List α → List β) (k : Nat) : List β := (List.range' k (bl.length - k)).flatMap fun i => (rec (bl.eraseIdx i)).map (f (bl.getD i d))
def ordN (f : α → β → β) (d : α) (z : β) : Nat → List α → List β
  | 0, _ => [z]
  | n + 1, bl => ordFrom f d bl (ordN f d z n) 0
variable {f : α → β → β} {d : α} {bl : List α} {rec : List α → List β} {k : Nat}
theorem ordFrom_go (hk : k < bl.length) : ordFrom f d bl rec k = (rec (bl.eraseIdx k)).map (f (bl.getD k d)) ++ ordFrom f d bl rec (k + 1) := by
  unfold ordFrom; rw [range_cons hk]; simp
theorem ordFrom_done (hk : bl.length ≤ k) : ordFrom f d bl rec k = [] := by
  unfold ordFrom; rw [show bl.length - k = 0 by omega]; rfl
theorem map_step {xs : List β} {g : β → β} {j : Nat} {b : β} (hj : j < xs.length) : (xs.drop j).map g = g (xs.getD j b) :: (xs.drop (j + 1)).map g := by
  rw [drop_cons (d := b) hj]; rfl
theorem map_end {xs : List β} {g : β → β} {j : Nat} (hj : xs.length ≤ j) : (xs.drop j).map g = [] := by rw [drop_done hj]; rfl
theorem erase_take {k : Nat} : bl.take k ++ bl.drop (k + 1) = bl.eraseIdx k := (List.eraseIdx_eq_take_drop_succ ..).symm
theorem erase_len {n : Nat} (hk : k < bl.length) (h : bl.length = n + 1) : (bl.eraseIdx k).length = n := by rw [List.length_eraseIdx, if_pos hk]; omega
theorem ordN_count : ∀ (n : Nat) (bl : List α) {z : β}, bl.length = n → (ordN f d z n bl).length = fact n := by
  intro n
  induction n with
  | zero => intro bl z _; rfl
  | succ n ih =>
    intro bl z h
    simp only [ordN, ordFrom, List.length_flatMap, List.length_map]
    have e : (List.range' 0 (bl.length - 0)).map (fun i => (ordN f d z n (bl.eraseIdx i)).length) = (List.range' 0 (bl.length - 0)).map fun _ => fact n := by
      refine List.map_congr_left fun i hi => ?_
      have := List.mem_range'_1.1 hi
      exact ih _ (erase_len (by omega) h)
    rw [e, List.map_const', List.sum_replicate_nat, List.length_range', h]
    simp [fact]
end
def rowsN : Nat → List (List Int) → List (List Int) := ordN (fun b r => b ++ r) [] []
def ordersN : Nat → List Int → List (List Int) := ordN (fun b r => b :: r) 0 []
theorem fact_le5 {n : Nat} (h : n ≤ 5) : fact n ≤ 120 := by
  match n, h with
  | 0, _ | 1, _ | 2, _ | 3, _ | 4, _ | 5, _ => decide
theorem rowsN_len {m : Nat} : ∀ (n : Nat) (bl : List (List Int)), bl.length = n → (∀ b ∈ bl, b.length ≤ m) → ∀ x ∈ rowsN n bl, x.length ≤ m * n := by
  intro n
  induction n with
  | zero => intro bl _ _ x hx; simp [rowsN, ordN] at hx; subst hx; simp
  | succ n ih =>
    intro bl h hb x hx
    simp only [rowsN, ordN, ordFrom, List.mem_flatMap, List.mem_map] at hx
    obtain ⟨i, hi, y, hy, rfl⟩ := hx
    have hi := List.mem_range'_1.1 hi
    have h1 := ih _ (erase_len (by omega) h) (fun b hb2 => hb b (List.mem_of_mem_eraseIdx hb2)) y hy
    have h2 := hb _ (getD_mem (d := []) (xs := bl) (k := i) (by omega))
    rw [List.length_append, Nat.mul_succ]; omega
theorem ordersN_len : ∀ (n : Nat) (bl : List Int), bl.length = n → ∀ x ∈ ordersN n bl, x.length = n := by
  intro n
  induction n with
  | zero => intro bl _ x hx; simp [ordersN, ordN] at hx; subst hx; rfl
  | succ n ih =>
    intro bl h x hx
    simp only [ordersN, ordN, ordFrom, List.mem_flatMap, List.mem_map] at hx
    obtain ⟨i, hi, y, hy, rfl⟩ := hx
    have hi := List.mem_range'_1.1 hi
    have h1 := ih _ (erase_len (by omega) h) y hy
    simp [h1]

def exYard : Yard := ⟨[⟨2, 30, 25, 0, true, false⟩, ⟨1, 20, 10, 0, false, true⟩, ⟨2, 40, 30, 1, true, true⟩, ⟨1, 10, 0, 1, false, true⟩], [10, 3, 2], [[0, 1, 2, 3], [], []]⟩
def exFour : List Shift := [⟨0, 1, 2⟩, ⟨0, 2, 1⟩, ⟨1, 0, 2⟩, ⟨2, 0, 1⟩]
theorem coupled_raw {cs : List Car} {t : List Int} {k : Nat} (hk : k < t.length) : coupled cs t ↑k = (decide (0 < (k : Int)) && (decide (0 < (carAt cs (t.getD k 0)).grp) && decide ((carAt cs (t.getD k 0)).grp = (carAt cs (t.getD ((k : Int) - 1).toNat 0)).grp))) := by
  unfold coupled inB
  have e1 : (↑k : Int).toNat = k := by omega
  rw [e1, Bool.and_assoc]
  have e3 : (decide ((1 : Int) ≤ ↑k) && decide ((↑k : Int) ≤ ↑t.length - 1)) = decide (0 < (k : Int)) := by
    by_cases h : 0 < (k : Int)
    · have h1 : (1 : Int) ≤ ↑k := by omega
      have h2 : (↑k : Int) ≤ ↑t.length - 1 := by omega
      rw [decide_eq_true h, decide_eq_true h1, decide_eq_true h2]; rfl
    · have h1 : ¬ (1 : Int) ≤ ↑k := by omega
      rw [decide_eq_false h, decide_eq_false h1]; rfl
  rw [e3]
end Go.Sh
namespace Go.Sl
open Go
theorem RowsV.one {I : Imm} {vs : List Value} {xss : List (List Int)} (h : RowsV I vs xss) : vs.all oneCell = true := by
  rw [List.all_eq_true]
  intro v hv
  obtain ⟨i, hi, rfl⟩ := List.mem_iff_getElem.1 hv
  have := h.2 i (h.1 ▸ hi)
  obtain ⟨a, c, b, o, e, _⟩ := this
  rw [List.getD, List.getElem?_eq_getElem hi] at e
  simp only [Option.getD_some] at e
  rw [e]; rfl
end Go.Sl
namespace Go.Proofs.YtcaocbhbofejnaaDoor
open Go Go.Sl Go.Sh
set_option maxRecDepth 100000
noncomputable def c_whole (p : List Nat) : Code := sub (bodyOf Tryd.f26) p
theorem whole_ct (I : Imm) (n : Nat) (hn : n ≤ 1000000) : Ct Tryd.prog 26 #[.int .i64 ↑n] I ([]) (fun v I' M' => ∃ u : Value, ∃ Ms : Seg, v = u ∧ M' = Ms ∧ Own 3 1 intCell u (wholeL n) Ms) := by
 refine fn_of_run (fn := Tryd.f26) (args := [_]) (N := 15) Tryd.func26 rfl (by kernel_rfl) (Nat.le_of_ble_eq_true rfl) (fun F => ?_)
 show Run _ _ (c_whole []) _ _ [(0, .int .i64 (↑n))] _ _
 refine rnm ?_
 refine rqr ?_
 refine sp 1 [(2, .slice none 0 0)] ?_
 refine sn ?_
 refine sp 1 [(3, .slice none 0 0)] ?_
 refine se ?_
 refine rq ?_
 refine rqr ?_
 refine sp 1 [(4, .int .i64 (0))] ?_
 refine se ?_
 refine rb 0 ?_
 refine rl (fun mz a w => ∃ k : Nat, ∃ ov0_3 : Value, ∃ oM0_3 : Seg, (k ≤ n) ∧ (Own 3 1 intCell ov0_3 (wholeL k) oM0_3) ∧ Slots 15 [(3, ov0_3), (4, .int .i64 ↑k), (0, .int .i64 (↑n)), (2, .slice none 0 0)] a ∧ a.defers = [] ∧ St I ((oM0_3 ++ F)) w ∧ mz = n - k) ?_ ?_
 ·intro a w hS hD hW
  exact ⟨_, 0, (.slice none 0 0), [], Nat.zero_le _, (Own.nil _ _ _), hS.sub (.cons 3 rfl (.cons 4 rfl (.cons 0 rfl (.cons 2 rfl (.nil _))))), hD, hW, rfl⟩
 ·rintro mz a w ⟨k, ov0_3, oM0_3, hk, oh0_3, hS, hD, hW, rfl⟩
  refine run_at hS hD hW ?_
  clear hS hD hW a w
  obtain ⟨ov0_3_a, ov0_3_c, ov0_3_e, ov0_3_l⟩ := oh0_3.shape; subst ov0_3_e
  refine rq ?_
  refine rqr ?_
  refine sp 3 [(7, .bool (cmp .lss (↑k) (↑n)))] ?_
  refine se ?_
  refine rc 7 rfl (fun h1 => ?_) (fun h1 => ?_)
  ·
   have h1_r := h1
   have h1 := lss_t h1
   refine rskip ?_
   refine pst_next ?_
   refine rq ?_
   refine rb 1 ?_
   refine rr ?_
   refine sp 2 [(11, .int .i64 (↑k)), (10, .slice ov0_3_a (wholeL k).length ov0_3_c)] ?_
   refine sS (sbs 12 3 1 #[.int .i64 (↑k)] (fun b1 => ?_))
   refine sS (stp_append (d := 13) (x := (.tmp 10)) (y := (.tmp 12)) (T := 22) (T' := 22) (E := 3) (E' := 3) (sz := 1) (bs := 8) (z := .int .i64 (0)) (cell := intCell) (xs := wholeL k) (ys := [(↑k : Int)]) (Ms := oM0_3) (ty := 22) (gd := none) (by kernel_rfl) rfl (by kernel_rfl) (by kernel_rfl) (by kernel_rfl) (by kernel_rfl) (by kernel_rfl) (by decide) (by kernel_rfl) rfl rfl (oh0_3) (List.perm_middle.symm) (one_intCell _) (src_atS 0 rfl rfl) (by first | omega | (have hq := wholeL_length k; simp only [List.length_cons, List.length_nil]; omega)) (fun v3 Ms3 ho3 => ?_))
   refine seq_mem (M' := ((Ms3 ++ F))) (fun w h => (h.perm List.perm_middle).sub (List.Sublist.cons _ (List.Sublist.refl _))) ?_
   obtain ⟨oa3, oc3, oe3, ol3⟩ := ho3.shape
   subst oe3
   show Seq _ _ _ _ _ _ ((13, .slice oa3 ((wholeL k) ++ ([(↑k : Int)])).length oc3) :: _) _ _
   refine sp 1 [(3, .slice oa3 ((wholeL k) ++ ([(↑k : Int)])).length oc3)] ?_
   refine ee ?_
   refine pst_normal_block ?_
   refine pst_next ?_
   refine rr ?_
   refine sp 1 [(8, .int .i64 (↑k))] ?_
   refine sd (da 9 (↑k) (1)) ?_
   refine sp 1 [(4, .int .i64 (↑k + 1))] ?_
   refine ee ?_
   refine pst_back (n - (k+1)) (by omega) ?_
   intro a w hS hD hW
   exact ⟨k+1, .slice oa3 ((wholeL k) ++ ([(↑k : Int)])).length oc3, Ms3, by omega, ((wholeL_succ k).symm ▸ ho3), hS.sub (.consE 3 rfl rfl (.consE 4 rfl rfl (.cons 0 rfl (.cons 2 rfl (.nil _))))), hD, hW, rfl⟩
  ·
   have h1_r := h1
   have h1 := lss_f h1
   refine rexit 0 ?_
   refine (pst_exit_pass (pst_exit_pass (pst_exit_block ?_)))
   refine pst_next ?_
   refine rqr ?_
   refine sp 2 [(2, .slice ov0_3_a (wholeL k).length ov0_3_c)] ?_
   refine se ?_
   refine rret ?_
   refine pst_ret1 (t := 2) (oM0_3) (by kernel_rfl) rfl (List.Sublist.append_left (List.Sublist.refl _) _) (Imm.le.refl _) ?_
   exact ⟨_, _, rfl, rfl, ((show wholeL k = wholeL n from by rw [show k = n by omega]) ▸ oh0_3)⟩

noncomputable def c_last (p : List Nat) : Code := sub (bodyOf Tryd.f27) p
theorem last_ct (I : Imm) (a : Value) (o : List Int) (b : Value) (l : List Int) (a_f : IsInts I a o) (b_f : IsInts I b l) (hl : l.length ≤ o.length) : CtV Tryd.prog 27 #[a, b] I (.bool (lastP l o)) := by
 obtain ⟨a_a, a_c, a_b, a_o, a_e, a_l, a_m, a_r⟩ := id a_f
 subst a_e
 obtain ⟨b_a, b_c, b_b, b_o, b_e, b_l, b_m, b_r⟩ := id b_f
 subst b_e
 refine fn_of_run (fn := Tryd.f27) (args := [_, _]) (N := 24) Tryd.func27 rfl (by kernel_rfl) (Nat.le_of_ble_eq_true rfl) (fun F => ?_)
 show Run _ _ (c_last []) _ _ [(0, .slice a_a o.length a_c), (1, .slice b_a l.length b_c)] _ _
 refine rnm ?_
 refine rqr ?_
 refine sp 1 [(4, .bool (false))] ?_
 refine se ?_
 refine rq ?_
 refine rqr ?_
 refine sp 4 [(9, .int .i64 (↑(l.length))), (7, .int .i64 (↑(o.length)))] ?_
 refine sd (dsb 10 (↑(o.length)) (↑(l.length))) ?_
 refine seq_re 10 rfl (show (.int .i64 ((↑(o.length)) - (↑(l.length))) : Value) = .int .i64 (↑(o.length - l.length)) from congrArg (Value.int .i64) (by omega)) ?_
 refine sp 1 [(5, .int .i64 (↑(o.length - l.length)))] ?_
 refine se ?_
 refine rb 0 ?_
 refine rl (fun mz a w => ∃ k : Nat, (k ≤ o.length) ∧ (lastP l o = (o.drop k).all fun c => decide (c ∈ l)) ∧ Slots 24 [(5, .int .i64 ↑k), (0, .slice a_a o.length a_c), (1, .slice b_a l.length b_c)] a ∧ a.defers = [] ∧ St I (F) w ∧ mz = o.length - k) ?_ ?_
 ·intro a w hS hD hW
  exact ⟨_, o.length - l.length, Nat.sub_le _ _, rfl, hS.sub (.cons 5 rfl (.cons 0 rfl (.cons 1 rfl (.nil _)))), hD, hW, rfl⟩
 ·rintro mz a w ⟨k, hk, hr, hS, hD, hW, rfl⟩
  refine run_at hS hD hW ?_
  clear hS hD hW a w
  refine rq ?_
  refine rqr ?_
  refine sp 4 [(14, .bool (cmp .lss (↑k) (↑(o.length))))] ?_
  refine se ?_
  refine rc 14 rfl (fun h1 => ?_) (fun h1 => ?_)
  ·
   have h1_r := h1
   have h1 := lss_t h1
   refine rskip ?_
   refine pst_next ?_
   refine rq ?_
   refine rb 1 ?_
   refine rqr ?_
   refine sp 3 [(19, .int .i64 (↑k)), (18, .slice a_a o.length a_c), (17, .slice b_a l.length b_c)] ?_
   refine sd (di 20 1 (k) a_r.addr) ?_
   refine sd (dl 21 (ints_get a_r (k) (by omega))) ?_
   refine sd (dc 22 (fun I' hI => (Seat_ct I' _ _ (o.getD (k) 0) (b_f.mono hI) :))) ?_
   refine sp 1 [(23, .bool (cmp .lss ((seat l (o.getD (k) 0))) (0)))] ?_
   refine se ?_
   refine rc 23 rfl (fun h2 => ?_) (fun h2 => ?_)
   ·
    have h2_r := h2
    have h2 := lss_t h2
    refine rqr ?_
    refine sp 1 [(4, .bool (false))] ?_
    refine se ?_
    refine rret ?_
    refine (pst_ret_block (pst_ret_pass (pst_ret_pass (pst_ret_block (pst_ret_pass ?_)))))
    refine pst_ret1 (t := 4) [] (by kernel_rfl) rfl (List.Sublist.refl _) (Imm.le.refl _) ?_
    exact ⟨congrArg Value.bool (show false = lastP l o from (hr.trans (all_miss (by omega) (fun hm => by unfold seat at h2; rw [if_pos hm] at h2; omega))).symm), rfl⟩
   ·
    have h2_r := h2
    have h2 := lss_f h2
    refine rskip ?_
    refine pst_normal_block ?_
    refine pst_next ?_
    refine rr ?_
    refine sp 1 [(15, .int .i64 (↑k))] ?_
    refine sd (da 16 (↑k) (1)) ?_
    refine sp 1 [(5, .int .i64 (↑k + 1))] ?_
    refine ee ?_
    refine pst_back (o.length - (k+1)) (by omega) ?_
    intro a w hS hD hW
    exact ⟨k+1, by omega, hr.trans (all_next (by omega) (by unfold seat at h2; split at h2 <;> first | assumption | omega)), hS.sub (.consE 5 rfl rfl (.cons 0 rfl (.cons 1 rfl (.nil _)))), hD, hW, rfl⟩
  ·
   have h1_r := h1
   have h1 := lss_f h1
   refine rexit 0 ?_
   refine (pst_exit_pass (pst_exit_pass (pst_exit_block ?_)))
   refine pst_next ?_
   refine rqr ?_
   refine sp 1 [(4, .bool (true))] ?_
   refine se ?_
   refine rret ?_
   refine pst_ret1 (t := 4) [] (by kernel_rfl) rfl (List.Sublist.refl _) (Imm.le.refl _) ?_
   exact ⟨congrArg Value.bool (show true = lastP l o from (hr.trans (all_end (by omega))).symm), rfl⟩

end Go.Proofs.YtcaocbhbofejnaaDoor
namespace Go.Proofs.YtcaocbhbofejnaaDoor
open Go Go.Sl Go.Sh
set_option maxRecDepth 100000
noncomputable def c_drawl (p : List Nat) : Code := sub (bodyOf Tryd.f44) p
theorem drawl_ct (I : Imm) (f : Int) (t : Int) (m : Int) : Ct Tryd.prog 44 #[.int .i64 f, .int .i64 t, .int .i64 m] I ([]) (fun v I' M' => v = .agg #[.int .i64 ((⟨f, t, m⟩ : Shift)).frm, .int .i64 ((⟨f, t, m⟩ : Shift)).to, .int .i64 ((⟨f, t, m⟩ : Shift)).many] ∧ M' = []) := by
 refine fn_of_run (fn := Tryd.f44) (args := [_, _, _]) (N := 11) Tryd.func44 rfl (by kernel_rfl) (Nat.le_of_ble_eq_true rfl) (fun F => ?_)
 show Run _ _ (c_drawl []) _ _ [(0, .int .i64 (f)), (1, .int .i64 (t)), (2, .int .i64 (m))] _ _
 refine rnm ?_
 refine rqr ?_
 refine sS (sal 6 54 #[.int .i64 (0), .int .i64 (0), .int .i64 (0)] (fun b1 => ?_))
 refine sn ?_
 refine sp 4 [(10, .agg #[.int .i64 (f), .int .i64 (t), .int .i64 (m)])] ?_
 refine sS (ss 0 0 b1 [.int .i64 (f), .int .i64 (t), .int .i64 (m)] [.int .i64 (f), .int .i64 (t), .int .i64 (m)] (_ :: _) (cs := [_, _, _]) rfl rfl ?_)
 refine se ?_
 refine rret ?_
 refine pst_retC1 (t := 6) (T := 54) (n := 3) [] (by kernel_rfl) rfl (by kernel_rfl) rfl (seesN_mem (n := 3) (cs := #[.int .i64 (f), .int .i64 (t), .int .i64 (m)]) (b := b1) (off := 0) (T := 54) (fz := (0, 0)) (vs := [.int .i64 (f), .int .i64 (t), .int .i64 (m)]) (by simp) rfl) (.inl ⟨by kernel_rfl, rfl⟩) (List.Sublist.cons _ (List.Sublist.refl _)) (Imm.le.refl _) ?_
 exact ⟨rfl, rfl⟩

noncomputable def c_four (p : List Nat) : Code := sub (bodyOf Tryd.f47) p
theorem four_ct (I : Imm) : Ct Tryd.prog 47 #[] I ([]) (fun v I' M' => ∃ u : Value, ∃ Ms : Seg, v = u ∧ M' = Ms ∧ Own 54 3 shiftCell u (exFour) Ms) := by
 refine fn_of_run (fn := Tryd.f47) (args := []) (N := 6) Tryd.func47 rfl (by kernel_rfl) (Nat.le_of_ble_eq_true rfl) (fun F => ?_)
 show Run _ _ (c_four []) _ _ [] _ _
 refine rnm ?_
 refine rqr ?_
 refine sp 1 [(0, .slice none 0 0)] ?_
 refine sn ?_
 refine sS (sc (some 1) (F := (F)) (drawl_ct _ (0) (1) (2) :) (.refl _) (fun rv6 I1 rm7 hle2 hp3 => ?_))
 obtain ⟨hv4, hm5⟩ := hp3
 rw [hv4, hm5]; clear hv4 hm5
 refine nm ?_
 show Seq _ _ _ _ _ _ ((1, .agg #[.int .i64 (((⟨0, 1, 2⟩ : Shift)).frm), .int .i64 (((⟨0, 1, 2⟩ : Shift)).to), .int .i64 (((⟨0, 1, 2⟩ : Shift)).many)]) :: _) _ _
 refine sS (sc (some 2) (F := (F)) (drawl_ct _ (0) (2) (1) :) (.refl _) (fun rv13 I8 rm14 hle9 hp10 => ?_))
 obtain ⟨hv11, hm12⟩ := hp10
 rw [hv11, hm12]; clear hv11 hm12
 refine nm ?_
 show Seq _ _ _ _ _ _ ((2, .agg #[.int .i64 (((⟨0, 2, 1⟩ : Shift)).frm), .int .i64 (((⟨0, 2, 1⟩ : Shift)).to), .int .i64 (((⟨0, 2, 1⟩ : Shift)).many)]) :: _) _ _
 refine sS (sc (some 3) (F := (F)) (drawl_ct _ (1) (0) (2) :) (.refl _) (fun rv20 I15 rm21 hle16 hp17 => ?_))
 obtain ⟨hv18, hm19⟩ := hp17
 rw [hv18, hm19]; clear hv18 hm19
 refine nm ?_
 show Seq _ _ _ _ _ _ ((3, .agg #[.int .i64 (((⟨1, 0, 2⟩ : Shift)).frm), .int .i64 (((⟨1, 0, 2⟩ : Shift)).to), .int .i64 (((⟨1, 0, 2⟩ : Shift)).many)]) :: _) _ _
 refine sS (sc (some 4) (F := (F)) (drawl_ct _ (2) (0) (1) :) (.refl _) (fun rv27 I22 rm28 hle23 hp24 => ?_))
 obtain ⟨hv25, hm26⟩ := hp24
 rw [hv25, hm26]; clear hv25 hm26
 refine nm ?_
 show Seq _ _ _ _ _ _ ((4, .agg #[.int .i64 (((⟨2, 0, 1⟩ : Shift)).frm), .int .i64 (((⟨2, 0, 1⟩ : Shift)).to), .int .i64 (((⟨2, 0, 1⟩ : Shift)).many)]) :: _) _ _
 refine sS (sbs 5 54 4 #[.int .i64 (((⟨0, 1, 2⟩ : Shift)).frm), .int .i64 (((⟨0, 1, 2⟩ : Shift)).to), .int .i64 (((⟨0, 1, 2⟩ : Shift)).many), .int .i64 (((⟨0, 2, 1⟩ : Shift)).frm), .int .i64 (((⟨0, 2, 1⟩ : Shift)).to), .int .i64 (((⟨0, 2, 1⟩ : Shift)).many), .int .i64 (((⟨1, 0, 2⟩ : Shift)).frm), .int .i64 (((⟨1, 0, 2⟩ : Shift)).to), .int .i64 (((⟨1, 0, 2⟩ : Shift)).many), .int .i64 (((⟨2, 0, 1⟩ : Shift)).frm), .int .i64 (((⟨2, 0, 1⟩ : Shift)).to), .int .i64 (((⟨2, 0, 1⟩ : Shift)).many)] (fun b29 => ?_))
 refine pm (M' := (([(b29, Obj.cells #[.int .i64 (((⟨0, 1, 2⟩ : Shift)).frm), .int .i64 (((⟨0, 1, 2⟩ : Shift)).to), .int .i64 (((⟨0, 1, 2⟩ : Shift)).many), .int .i64 (((⟨0, 2, 1⟩ : Shift)).frm), .int .i64 (((⟨0, 2, 1⟩ : Shift)).to), .int .i64 (((⟨0, 2, 1⟩ : Shift)).many), .int .i64 (((⟨1, 0, 2⟩ : Shift)).frm), .int .i64 (((⟨1, 0, 2⟩ : Shift)).to), .int .i64 (((⟨1, 0, 2⟩ : Shift)).many), .int .i64 (((⟨2, 0, 1⟩ : Shift)).frm), .int .i64 (((⟨2, 0, 1⟩ : Shift)).to), .int .i64 (((⟨2, 0, 1⟩ : Shift)).many)] 54 (0, 0))] ++ F))) (List.Perm.refl _) ?_
 have ho31 : Own 54 3 shiftCell (.slice (some ⟨b29, 0, none⟩) 4 4) ([(⟨0, 1, 2⟩ : Shift), (⟨0, 2, 1⟩ : Shift), (⟨1, 0, 2⟩ : Shift), (⟨2, 0, 1⟩ : Shift)] : List Shift) [(b29, Obj.cells #[.int .i64 (((⟨0, 1, 2⟩ : Shift)).frm), .int .i64 (((⟨0, 1, 2⟩ : Shift)).to), .int .i64 (((⟨0, 1, 2⟩ : Shift)).many), .int .i64 (((⟨0, 2, 1⟩ : Shift)).frm), .int .i64 (((⟨0, 2, 1⟩ : Shift)).to), .int .i64 (((⟨0, 2, 1⟩ : Shift)).many), .int .i64 (((⟨1, 0, 2⟩ : Shift)).frm), .int .i64 (((⟨1, 0, 2⟩ : Shift)).to), .int .i64 (((⟨1, 0, 2⟩ : Shift)).many), .int .i64 (((⟨2, 0, 1⟩ : Shift)).frm), .int .i64 (((⟨2, 0, 1⟩ : Shift)).to), .int .i64 (((⟨2, 0, 1⟩ : Shift)).many)] 54 (0, 0))] := Own.lit rfl rfl
 refine sp 1 [(0, .slice (some ⟨b29, 0, none⟩) 4 4)] ?_
 refine se ?_
 refine rret ?_
 refine pst_ret1 (t := 0) ([(b29, Obj.cells #[.int .i64 (((⟨0, 1, 2⟩ : Shift)).frm), .int .i64 (((⟨0, 1, 2⟩ : Shift)).to), .int .i64 (((⟨0, 1, 2⟩ : Shift)).many), .int .i64 (((⟨0, 2, 1⟩ : Shift)).frm), .int .i64 (((⟨0, 2, 1⟩ : Shift)).to), .int .i64 (((⟨0, 2, 1⟩ : Shift)).many), .int .i64 (((⟨1, 0, 2⟩ : Shift)).frm), .int .i64 (((⟨1, 0, 2⟩ : Shift)).to), .int .i64 (((⟨1, 0, 2⟩ : Shift)).many), .int .i64 (((⟨2, 0, 1⟩ : Shift)).frm), .int .i64 (((⟨2, 0, 1⟩ : Shift)).to), .int .i64 (((⟨2, 0, 1⟩ : Shift)).many)] 54 (0, 0))]) (by kernel_rfl) rfl (List.Sublist.cons_cons _ (List.Sublist.refl _)) (Imm.le.trans (Imm.le.trans (Imm.le.trans hle2 hle9) hle16) hle23) ?_
 exact ⟨_, _, rfl, rfl, ho31⟩

noncomputable def c_yard (p : List Nat) : Code := sub (bodyOf Tryd.f43) p
theorem yard_ct (I : Imm) : Ct Tryd.prog 43 #[] I ([]) (fun v I' M' => ∃ u_0 : Value, ∃ Ms_0 : Seg, ∃ u_1 : Value, ∃ Ms_1 : Seg, ∃ u_2 : Value, ∃ ws_2 : List Value, ∃ Ms_2 : Seg, v = .agg #[u_0, u_1, u_2] ∧ M' = Ms_0 ++ (Ms_1 ++ (Ms_2)) ∧ Own 40 6 carCell u_0 ((exYard).cars) Ms_0 ∧ Own 3 1 intCell u_1 ((exYard).room) Ms_1 ∧ Own 22 1 valCell u_2 ws_2 Ms_2 ∧ RowsV I' ws_2 ((exYard).tracks)) := by
 refine fn_of_run (fn := Tryd.f43) (args := []) (N := 10) Tryd.func43 rfl (by kernel_rfl) (Nat.le_of_ble_eq_true rfl) (fun F => ?_)
 show Run _ _ (c_yard []) _ _ [] _ _
 refine rnm ?_
 refine rqr ?_
 refine sS (sal 0 26 #[.slice none 0 0, .slice none 0 0, .slice none 0 0] (fun b1 => ?_))
 refine sn ?_
 refine sp 4 [(4, .agg #[.int .i64 (1), .int .i64 (10), .int .i64 (0), .int .i64 (1), .bool (false), .bool (true)]), (3, .agg #[.int .i64 (2), .int .i64 (40), .int .i64 (30), .int .i64 (1), .bool (true), .bool (true)]), (2, .agg #[.int .i64 (1), .int .i64 (20), .int .i64 (10), .int .i64 (0), .bool (false), .bool (true)]), (1, .agg #[.int .i64 (2), .int .i64 (30), .int .i64 (25), .int .i64 (0), .bool (true), .bool (false)])] ?_
 refine sS (sbs 5 40 4 #[.int .i64 (2), .int .i64 (30), .int .i64 (25), .int .i64 (0), .bool (true), .bool (false), .int .i64 (1), .int .i64 (20), .int .i64 (10), .int .i64 (0), .bool (false), .bool (true), .int .i64 (2), .int .i64 (40), .int .i64 (30), .int .i64 (1), .bool (true), .bool (true), .int .i64 (1), .int .i64 (10), .int .i64 (0), .int .i64 (1), .bool (false), .bool (true)] (fun b3 => ?_))
 refine sS (sbs 6 3 3 #[.int .i64 (10), .int .i64 (3), .int .i64 (2)] (fun b5 => ?_))
 refine sS (sbs 7 3 4 #[.int .i64 (0), .int .i64 (1), .int .i64 (2), .int .i64 (3)] (fun b7 => ?_))
 refine pm (M' := ((b5, Obj.cells #[.int .i64 (10), .int .i64 (3), .int .i64 (2)] 3 (0, 0)) :: (b3, Obj.cells #[.int .i64 (2), .int .i64 (30), .int .i64 (25), .int .i64 (0), .bool (true), .bool (false), .int .i64 (1), .int .i64 (20), .int .i64 (10), .int .i64 (0), .bool (false), .bool (true), .int .i64 (2), .int .i64 (40), .int .i64 (30), .int .i64 (1), .bool (true), .bool (true), .int .i64 (1), .int .i64 (10), .int .i64 (0), .int .i64 (1), .bool (false), .bool (true)] 40 (0, 0)) :: (b1, Obj.cells #[.slice none 0 0, .slice none 0 0, .slice none 0 0] 26 (0, 0)) :: ([(b7, Obj.cells #[.int .i64 (0), .int .i64 (1), .int .i64 (2), .int .i64 (3)] 3 (0, 0))] ++ F))) ((List.Perm.swap _ _ _).trans (List.Perm.cons _ ((List.Perm.swap _ _ _).trans (List.Perm.cons _ (List.Perm.swap _ _ _))))) ?_
 have ho9 : Own 3 1 intCell (.slice (some ⟨b7, 0, none⟩) 4 4) ([(0 : Int), (1 : Int), (2 : Int), (3 : Int)] : List Int) [(b7, Obj.cells #[.int .i64 (0), .int .i64 (1), .int .i64 (2), .int .i64 (3)] 3 (0, 0))] := Own.lit rfl rfl
 refine sfz (A := ((b5, Obj.cells #[.int .i64 (10), .int .i64 (3), .int .i64 (2)] 3 (0, 0)) :: (b3, Obj.cells #[.int .i64 (2), .int .i64 (30), .int .i64 (25), .int .i64 (0), .bool (true), .bool (false), .int .i64 (1), .int .i64 (20), .int .i64 (10), .int .i64 (0), .bool (false), .bool (true), .int .i64 (2), .int .i64 (40), .int .i64 (30), .int .i64 (1), .bool (true), .bool (true), .int .i64 (1), .int .i64 (10), .int .i64 (0), .int .i64 (1), .bool (false), .bool (true)] 40 (0, 0)) :: (b1, Obj.cells #[.slice none 0 0, .slice none 0 0, .slice none 0 0] 26 (0, 0)) :: F)) 0 ho9 ((List.Perm.cons _ ((List.Perm.cons _ (List.perm_middle.symm)).trans (List.perm_middle.symm))).trans (List.perm_middle.symm)) (fun I10 hle11 fz12_f => ?_)
 obtain ⟨fz12_a, fz12_c, fz12_b, fz12_o, fz12_e, fz12_l, fz12_m, fz12_r⟩ := id fz12_f
 cases fz12_e
 refine sS (sbs 8 22 3 #[.slice (some ⟨b7, 0, none⟩) 4 4, .slice none 0 0, .slice none 0 0] (fun b13 => ?_))
 refine pm (M' := ((b13, Obj.cells #[.slice (some ⟨b7, 0, none⟩) 4 4, .slice none 0 0, .slice none 0 0] 22 (0, 0)) :: (b5, Obj.cells #[.int .i64 (10), .int .i64 (3), .int .i64 (2)] 3 (0, 0)) :: (b1, Obj.cells #[.slice none 0 0, .slice none 0 0, .slice none 0 0] 26 (0, 0)) :: ([(b3, Obj.cells #[.int .i64 (2), .int .i64 (30), .int .i64 (25), .int .i64 (0), .bool (true), .bool (false), .int .i64 (1), .int .i64 (20), .int .i64 (10), .int .i64 (0), .bool (false), .bool (true), .int .i64 (2), .int .i64 (40), .int .i64 (30), .int .i64 (1), .bool (true), .bool (true), .int .i64 (1), .int .i64 (10), .int .i64 (0), .int .i64 (1), .bool (false), .bool (true)] 40 (0, 0))] ++ F))) (List.Perm.cons _ (List.Perm.cons _ (List.Perm.swap _ _ _))) ?_
 have ho15 : Own 40 6 carCell (.slice (some ⟨b3, 0, none⟩) 4 4) ([(⟨2, 30, 25, 0, true, false⟩ : Car), (⟨1, 20, 10, 0, false, true⟩ : Car), (⟨2, 40, 30, 1, true, true⟩ : Car), (⟨1, 10, 0, 1, false, true⟩ : Car)] : List Car) [(b3, Obj.cells #[.int .i64 (2), .int .i64 (30), .int .i64 (25), .int .i64 (0), .bool (true), .bool (false), .int .i64 (1), .int .i64 (20), .int .i64 (10), .int .i64 (0), .bool (false), .bool (true), .int .i64 (2), .int .i64 (40), .int .i64 (30), .int .i64 (1), .bool (true), .bool (true), .int .i64 (1), .int .i64 (10), .int .i64 (0), .int .i64 (1), .bool (false), .bool (true)] 40 (0, 0))] := Own.lit rfl rfl
 refine pm (M' := ((b13, Obj.cells #[.slice (some ⟨b7, 0, none⟩) 4 4, .slice none 0 0, .slice none 0 0] 22 (0, 0)) :: (b1, Obj.cells #[.slice none 0 0, .slice none 0 0, .slice none 0 0] 26 (0, 0)) :: ([(b5, Obj.cells #[.int .i64 (10), .int .i64 (3), .int .i64 (2)] 3 (0, 0))] ++ ([(b3, Obj.cells #[.int .i64 (2), .int .i64 (30), .int .i64 (25), .int .i64 (0), .bool (true), .bool (false), .int .i64 (1), .int .i64 (20), .int .i64 (10), .int .i64 (0), .bool (false), .bool (true), .int .i64 (2), .int .i64 (40), .int .i64 (30), .int .i64 (1), .bool (true), .bool (true), .int .i64 (1), .int .i64 (10), .int .i64 (0), .int .i64 (1), .bool (false), .bool (true)] 40 (0, 0))] ++ F)))) (List.Perm.cons _ (List.Perm.swap _ _ _)) ?_
 have ho16 : Own 3 1 intCell (.slice (some ⟨b5, 0, none⟩) 3 3) ([(10 : Int), (3 : Int), (2 : Int)] : List Int) [(b5, Obj.cells #[.int .i64 (10), .int .i64 (3), .int .i64 (2)] 3 (0, 0))] := Own.lit rfl rfl
 refine pm (M' := ((b1, Obj.cells #[.slice none 0 0, .slice none 0 0, .slice none 0 0] 26 (0, 0)) :: ([(b13, Obj.cells #[.slice (some ⟨b7, 0, none⟩) 4 4, .slice none 0 0, .slice none 0 0] 22 (0, 0))] ++ ([(b5, Obj.cells #[.int .i64 (10), .int .i64 (3), .int .i64 (2)] 3 (0, 0))] ++ ([(b3, Obj.cells #[.int .i64 (2), .int .i64 (30), .int .i64 (25), .int .i64 (0), .bool (true), .bool (false), .int .i64 (1), .int .i64 (20), .int .i64 (10), .int .i64 (0), .bool (false), .bool (true), .int .i64 (2), .int .i64 (40), .int .i64 (30), .int .i64 (1), .bool (true), .bool (true), .int .i64 (1), .int .i64 (10), .int .i64 (0), .int .i64 (1), .bool (false), .bool (true)] 40 (0, 0))] ++ F))))) (List.Perm.swap _ _ _) ?_
 have ho17 : Own 22 1 valCell (.slice (some ⟨b13, 0, none⟩) 3 3) ([(.slice (some ⟨b7, 0, none⟩) 4 4 : Value), (.slice none 0 0 : Value), (.slice none 0 0 : Value)] : List Value) [(b13, Obj.cells #[.slice (some ⟨b7, 0, none⟩) 4 4, .slice none 0 0, .slice none 0 0] 22 (0, 0))] := Own.lit rfl rfl
 have orw18 := ((((RowsV.nil I10).snoc fz12_f).snoc (IsSl.nil _)).snoc (IsSl.nil _))
 simp only [List.nil_append, List.cons_append] at orw18
 refine sp 1 [(9, .agg #[.slice (some ⟨b3, 0, none⟩) 4 4, .slice (some ⟨b5, 0, none⟩) 3 3, .slice (some ⟨b13, 0, none⟩) 3 3])] ?_
 refine sS (ss 0 0 b1 [.slice (some ⟨b3, 0, none⟩) 4 4, .slice (some ⟨b5, 0, none⟩) 3 3, .slice (some ⟨b13, 0, none⟩) 3 3] [.slice (some ⟨b3, 0, none⟩) 4 4, .slice (some ⟨b5, 0, none⟩) 3 3, .slice (some ⟨b13, 0, none⟩) 3 3] (_ :: _) (cs := [_, _, _]) rfl rfl ?_)
 refine se ?_
 refine rret ?_
 refine ppm (M' := (([(b3, Obj.cells #[.int .i64 (2), .int .i64 (30), .int .i64 (25), .int .i64 (0), .bool (true), .bool (false), .int .i64 (1), .int .i64 (20), .int .i64 (10), .int .i64 (0), .bool (false), .bool (true), .int .i64 (2), .int .i64 (40), .int .i64 (30), .int .i64 (1), .bool (true), .bool (true), .int .i64 (1), .int .i64 (10), .int .i64 (0), .int .i64 (1), .bool (false), .bool (true)] 40 (0, 0))] ++ ([(b5, Obj.cells #[.int .i64 (10), .int .i64 (3), .int .i64 (2)] 3 (0, 0))] ++ ([(b13, Obj.cells #[.slice (some ⟨b7, 0, none⟩) 4 4, .slice none 0 0, .slice none 0 0] 22 (0, 0))] ++ (b1, Obj.cells #[.slice (some ⟨b3, 0, none⟩) 4 4, .slice (some ⟨b5, 0, none⟩) 3 3, .slice (some ⟨b13, 0, none⟩) 3 3] 26 (0, 0)) :: F))))) (((List.Perm.cons _ ((List.Perm.append_left _ (List.perm_append_comm_assoc _ _ _)).trans (List.perm_append_comm_assoc _ _ _))).trans (List.perm_middle.symm)).trans (List.Perm.append_left _ (((List.Perm.cons _ (List.perm_append_comm_assoc _ _ _)).trans (List.perm_middle.symm)).trans (List.Perm.append_left _ (List.perm_middle.symm))))) ?_
 refine pst_retC1 (t := 0) (T := 26) (n := 3) ([(b3, Obj.cells #[.int .i64 (2), .int .i64 (30), .int .i64 (25), .int .i64 (0), .bool (true), .bool (false), .int .i64 (1), .int .i64 (20), .int .i64 (10), .int .i64 (0), .bool (false), .bool (true), .int .i64 (2), .int .i64 (40), .int .i64 (30), .int .i64 (1), .bool (true), .bool (true), .int .i64 (1), .int .i64 (10), .int .i64 (0), .int .i64 (1), .bool (false), .bool (true)] 40 (0, 0))] ++ ([(b5, Obj.cells #[.int .i64 (10), .int .i64 (3), .int .i64 (2)] 3 (0, 0))] ++ ([(b13, Obj.cells #[.slice (some ⟨b7, 0, none⟩) 4 4, .slice none 0 0, .slice none 0 0] 22 (0, 0))]))) (by kernel_rfl) rfl (by kernel_rfl) rfl (seesN_mem (n := 3) (cs := #[.slice (some ⟨b3, 0, none⟩) 4 4, .slice (some ⟨b5, 0, none⟩) 3 3, .slice (some ⟨b13, 0, none⟩) 3 3]) (b := b1) (off := 0) (T := 26) (fz := (0, 0)) (vs := [.slice (some ⟨b3, 0, none⟩) 4 4, .slice (some ⟨b5, 0, none⟩) 3 3, .slice (some ⟨b13, 0, none⟩) 3 3]) (by simp) rfl) (.inl ⟨by kernel_rfl, rfl⟩) (by simp only [List.append_assoc, List.nil_append, List.cons_append]; exact (List.Sublist.cons_cons _ (List.Sublist.cons_cons _ (List.Sublist.cons_cons _ (List.Sublist.cons _ (List.Sublist.refl _)))))) hle11 ?_
 exact ⟨_, _, _, _, _, _, _, rfl, rfl, ho15, ho16, ho17, orw18⟩

end Go.Proofs.YtcaocbhbofejnaaDoor
namespace Go.Proofs.YtcaocbhbofejnaaDoor
open Go Go.Sl Go.Sh
set_option maxRecDepth 100000
def RowsAt (m : Nat) : Prop := ∀ (I : Imm) (b : Value) (bl : List (List Int)) (n : Nat) (b_f : IsRows I b bl) (hn : bl.length = n) (h5 : n ≤ 5) (hel : ∀ x ∈ bl, x.length ≤ 5), n = m → Ct Tryd.prog 10 #[b] I ([]) (fun v I' M' => ∃ u : Value, ∃ ws : List Value, ∃ Ms : Seg, v = u ∧ M' = Ms ∧ Own 22 1 valCell u ws Ms ∧ RowsV I' ws (rowsN n bl))
noncomputable def c_Rows (p : List Nat) : Code := sub (bodyOf Tryd.f10) p
set_option maxHeartbeats 1000000 in
theorem rows_of (I : Imm) (b : Value) (bl : List (List Int)) (n : Nat) (b_f : IsRows I b bl) (hn : bl.length = n) (h5 : n ≤ 5) (hel : ∀ x ∈ bl, x.length ≤ 5) (ht : ∀ m, m + 1 = n → RowsAt m) : Ct Tryd.prog 10 #[b] I ([]) (fun v I' M' => ∃ u : Value, ∃ ws : List Value, ∃ Ms : Seg, v = u ∧ M' = Ms ∧ Own 22 1 valCell u ws Ms ∧ RowsV I' ws (rowsN n bl)) := by
 obtain ⟨bvs, bw_f, hrw⟩ := IsRows.split b_f
 obtain ⟨bw_a, bw_c, bw_b, bw_o, bw_e, bw_l, bw_m, bw_r⟩ := id bw_f
 subst bw_e
 have hrw_len := hrw.1
 try simp only [List.length_set, List.length_append, List.length_cons, List.length_nil, List.length_take] at hrw_len
 refine fn_of_run (fn := Tryd.f10) (args := [_]) (N := 49) Tryd.func10 rfl (by kernel_rfl) (Nat.le_of_ble_eq_true rfl) (fun F => ?_)
 show Run _ _ (c_Rows []) _ _ [(0, .slice bw_a bvs.length bw_c)] _ _
 refine rnm ?_
 refine rqr ?_
 refine sp 1 [(2, .slice none 0 0)] ?_
 refine se ?_
 refine rq ?_
 refine rqr ?_
 refine sp 3 [(9, .bool (cmp .eql (↑(bvs.length)) (0)))] ?_
 refine se ?_
 refine rc 9 rfl (fun h1 => ?_) (fun h1 => ?_)
 ·
  have h1_r := h1
  have h1 := eql_t h1
  have hn0 : n = 0 := by omega
  refine rqr ?_
  refine sS (sbs 10 22 1 #[.slice none 0 0] (fun b1 => ?_))
  refine pm (M' := (([(b1, Obj.cells #[.slice none 0 0] 22 (0, 0))] ++ F))) (List.Perm.refl _) ?_
  have ho3 : Own 22 1 valCell (.slice (some ⟨b1, 0, none⟩) 1 1) ([(.slice none 0 0 : Value)] : List Value) [(b1, Obj.cells #[.slice none 0 0] 22 (0, 0))] := Own.lit rfl rfl
  have orw4 := ((RowsV.nil I).snoc (IsSl.nil _))
  simp only [List.nil_append, List.cons_append] at orw4
  refine sp 1 [(2, .slice (some ⟨b1, 0, none⟩) 1 1)] ?_
  refine se ?_
  refine rret ?_
  refine (pst_ret_pass ?_)
  refine pst_ret1 (t := 2) ([(b1, Obj.cells #[.slice none 0 0] 22 (0, 0))]) (by kernel_rfl) rfl (List.Sublist.cons_cons _ (List.Sublist.refl _)) (Imm.le.refl _) ?_
  exact ⟨_, _, _, rfl, rfl, ho3, ((show [[]] = rowsN n bl from by rw [hn0]; rfl) ▸ orw4)⟩
 ·
  have h1_r := h1
  have h1 := eql_f h1
  obtain ⟨m, hnm⟩ : ∃ m, n = m + 1 := ⟨n - 1, by omega⟩
  have hs := ht m (by omega)
  have hct := ordN_count (f := fun b r => b ++ r) (d := []) (z := []) (m + 1) bl (by omega)
  have hf5 := fact_le5 (n := m + 1) (by omega)
  have hcl : (rowsN (m + 1) bl).length ≤ 120 := by (show (ordN _ _ _ _ _).length ≤ 120); omega
  refine rskip ?_
  refine pst_next ?_
  refine rqr ?_
  refine sp 1 [(3, .slice none 0 0)] ?_
  refine se ?_
  refine rq ?_
  refine rqr ?_
  refine sp 1 [(4, .int .i64 (0))] ?_
  refine se ?_
  refine rb 0 ?_
  refine rl (fun mz a w => ∃ J0 : Imm, ∃ k : Nat, ∃ out : List (List Int), ∃ ov0_3 : Value, ∃ oM0_3 : Seg, ∃ ow0_3 : List Value, (I.le J0) ∧ (k ≤ bl.length) ∧ (rowsN (m + 1) bl = out ++ ordFrom (fun b r => b ++ r) [] bl (rowsN m) k) ∧ (RowsV J0 ow0_3 (out)) ∧ (Own 22 1 valCell ov0_3 (ow0_3) oM0_3) ∧ Slots 49 [(3, ov0_3), (4, .int .i64 ↑k), (0, .slice bw_a bvs.length bw_c), (2, .slice none 0 0)] a ∧ a.defers = [] ∧ St J0 ((oM0_3 ++ F)) w ∧ mz = bl.length - k) ?_ ?_
  ·intro a w hS hD hW
   exact ⟨_, I, 0, [], (.slice none 0 0), [], [], Imm.le.refl _, Nat.zero_le _, rfl, (RowsV.nil _), (Own.nil _ _ _), hS.sub (.cons 3 rfl (.cons 4 rfl (.cons 0 rfl (.cons 2 rfl (.nil _))))), hD, hW, rfl⟩
  ·rintro mz a w ⟨J0, k, out, ov0_3, oM0_3, ow0_3, hJ0, hk, hr, or0_3, oh0_3, hS, hD, hW, rfl⟩
   refine run_at hS hD hW ?_
   clear hS hD hW a w
   replace bw_f := bw_f.mono hJ0
   replace bw_r := bw_r.mono hJ0
   replace hrw := hrw.mono hJ0
   obtain ⟨ov0_3_a, ov0_3_c, ov0_3_e, ov0_3_l⟩ := oh0_3.shape; subst ov0_3_e
   have or0_3_len := or0_3.1
   try simp only [List.length_set, List.length_append, List.length_cons, List.length_nil, List.length_take] at or0_3_len
   refine rq ?_
   refine rqr ?_
   refine sp 4 [(14, .bool (cmp .lss (↑k) (↑(bvs.length))))] ?_
   refine se ?_
   refine rc 14 rfl (fun h2 => ?_) (fun h2 => ?_)
   ·
    have h2_r := h2
    have h2 := lss_t h2
    refine rskip ?_
    refine pst_next ?_
    refine rq ?_
    refine rb 1 ?_
    refine rq ?_
    refine rd 9 [(1, true), (2, true), (3, true), (5, true), (6, true), (7, true), (8, true), (0, false), (4, false)] ([]) ((oM0_3 ++ F)) ?_
    refine ox 2 [(19, .int .i64 (↑k)), (18, .slice bw_a bvs.length bw_c)] ?_
    have s5_f := bw_f.cutHi (k) (by omega)
    obtain ⟨s5_a, s5_c, s5_b, s5_o, s5_e, s5_l, s5_m, s5_r⟩ := id s5_f
    rw [s5_e] at s5_f
    have orw6 := hrw.take (k)
    have orw6_len := orw6.1
    try simp only [List.length_set, List.length_append, List.length_cons, List.length_nil, List.length_take] at orw6_len
    refine ofp_det (det_eq (det_slice (x := (.tmp 18)) (lo := none) (hi := (some (.tmp 19))) (T := 24) (e := 22) (sz := 1) (0) (k) (d := 20) (ty := 24) (gd := none) (by kernel_rfl) rfl (by kernel_rfl) (by kernel_rfl) rfl (.inl ⟨rfl, rfl⟩) (.inr ⟨_, .i64, rfl, rfl⟩) (by omega) (by omega)) s5_e) ?_
    refine ox 2 [(23, .int .i64 (↑k)), (22, .slice bw_a bvs.length bw_c)] ?_
    refine ofp_det (da 24 (↑k) (1)) ?_
    have s7_f := bw_f.cutLo (k + 1) (by omega)
    obtain ⟨s7_a, s7_c, s7_b, s7_o, s7_e, s7_l, s7_m, s7_r⟩ := id s7_f
    rw [s7_e] at s7_f
    have orw8 := hrw.drop (k + 1)
    have orw8_len := orw8.1
    try simp only [List.length_set, List.length_append, List.length_cons, List.length_nil, List.length_take] at orw8_len
    refine ofp_det (det_eq (det_slice (x := (.tmp 22)) (lo := (some (.tmp 24))) (hi := none) (T := 24) (e := 22) (sz := 1) (k + 1) (bvs.length) (d := 25) (ty := 24) (gd := none) (by kernel_rfl) rfl (by kernel_rfl) (by kernel_rfl) rfl (.inr ⟨_, .i64, rfl, rfl⟩) (.inl ⟨rfl, rfl⟩) (by omega) (by omega)) s7_e) ?_
    refine ofp_stp (sbs 17 22 0 #[] (fun b9 => ?_))
    refine ofp_settle (S' := ((b9, Obj.cells #[] 22 (0, 0)) :: (oM0_3 ++ F))) (List.Perm.refl _) ?_
    have ho11 : Own 22 1 valCell (.slice (some ⟨b9, 0, none⟩) 0 0) ([] : List Value) [(b9, Obj.cells #[] 22 (0, 0))] := Own.lit rfl rfl
    refine ofp_stp (stp_append (d := 21) (x := (.tmp 17)) (y := (.tmp 20)) (T := 24) (T' := 24) (E := 22) (E' := 22) (sz := 1) (bs := 24) (z := .slice none 0 0) (cell := valCell) (xs := ([] : List Value)) (ys := bvs.take (k)) (Ms := [(b9, Obj.cells #[] 22 (0, 0))]) (ty := 24) (gd := none) (by kernel_rfl) rfl (by kernel_rfl) (by kernel_rfl) (by kernel_rfl) (by kernel_rfl) (by kernel_rfl) (by decide) (by kernel_rfl) rfl rfl (ho11) (List.Perm.refl _) (one_valCell orw6.one) s5_f.src (by first | omega | (simp only [List.length_cons, List.length_nil, List.length_append, List.length_take, List.length_drop]; omega)) (fun v12 Ms12 ho12 => ?_))
    rw [List.nil_append] at ho12
    refine ofp_settle (S' := ((Ms12 ++ (oM0_3 ++ F)))) (List.Perm.refl _) ?_
    obtain ⟨oa12, oc12, oe12, ol12⟩ := ho12.shape
    subst oe12
    show OFP _ _ _ _ _ _ ((21, .slice oa12 (bvs.take (k)).length oc12) :: _) _ _
    have orw13 := (RowsV.nil _).append orw6
    simp only [List.nil_append] at orw13
    refine ofp_end ?_
    refine nm ?_
    refine nm ?_
    refine sS (stp_append (d := 26) (x := (.tmp 21)) (y := (.tmp 25)) (T := 24) (T' := 24) (E := 22) (E' := 22) (sz := 1) (bs := 24) (z := .slice none 0 0) (cell := valCell) (xs := bvs.take (k)) (ys := bvs.drop (k + 1)) (Ms := Ms12) (ty := 24) (gd := none) (by kernel_rfl) rfl (by kernel_rfl) (by kernel_rfl) (by kernel_rfl) (by kernel_rfl) (by kernel_rfl) (by decide) (by kernel_rfl) rfl rfl (ho12) (List.Perm.refl _) (one_valCell orw8.one) s7_f.src (by first | omega | (have hq := orw13.1; simp only [List.length_cons, List.length_nil, List.length_append, List.length_take, List.length_drop] at hq ⊢; omega)) (fun v14 Ms14 ho14 => ?_))
    refine nm ?_
    obtain ⟨oa14, oc14, oe14, ol14⟩ := ho14.shape
    subst oe14
    show Seq _ _ _ _ _ _ ((26, .slice oa14 ((bvs.take (k)) ++ (bvs.drop (k + 1))).length oc14) :: _) _ _
    have orw15 := (orw13).append orw8
    refine sfz undef ho14 (.refl _) (fun I16 hle17 fz18_f => ?_)
    replace bw_r := bw_r.mono hle17
    replace hrw := hrw.mono hle17
    replace or0_3 := or0_3.mono hle17
    replace orw15 := orw15.mono hle17
    obtain ⟨fz18_a, fz18_c, fz18_b, fz18_o, fz18_e, fz18_l, fz18_m, fz18_r⟩ := id fz18_f
    cases fz18_e
    have fr19_f := orw15.isRows fz18_f
    have fr19_len := orw15.1
    obtain ⟨fr19_a, fr19_c, fr19_b, fr19_o, fr19_vs, fr19_e, fr19_l, fr19_m, fr19_r, fr19_w⟩ := id fr19_f
    injection fr19_e with fr19_e1 fr19_e2 fr19_e3; subst fr19_e1; subst fr19_e3
    have hct32 := hs I16 _ _ (m) fr19_f (by rw [erase_take]; exact erase_len (by omega) (by omega)) (by omega) (by rw [erase_take]; exact fun x hx => hel x (List.mem_of_mem_eraseIdx hx)) (by rfl)
    refine sS (sc (some 27) (F := ((oM0_3 ++ F))) (hct32 :) (.refl _) (fun rv30 I20 rm31 hle21 hp22 => ?_))
    obtain ⟨u25, ws26, Ms27, hv23, hm24, qh28, qr29⟩ := hp22
    rw [hv23, hm24]; clear hv23 hm24
    replace bw_r := bw_r.mono hle21
    replace hrw := hrw.mono hle21
    replace or0_3 := or0_3.mono hle21
    obtain ⟨u25_a, u25_c, u25_e, u25_l⟩ := qh28.shape
    subst u25_e
    have qr29_len := qr29.1
    try simp only [List.length_set, List.length_append, List.length_cons, List.length_nil, List.length_take] at qr29_len
    refine nm ?_
    show Seq _ _ _ _ _ _ ((27, .slice u25_a ws26.length u25_c) :: _) _ _
    rw [erase_take] at qr29
    have qr29_len := qr29.1
    try simp only [List.length_set, List.length_append, List.length_cons, List.length_nil, List.length_take] at qr29_len
    have hrl := qr29.1
    have hrc := ordN_count (f := fun b r => b ++ r) (d := []) (z := []) m (bl.eraseIdx k) (erase_len (k := k) (by omega) (by omega))
    have hrf := fact_le5 (n := m) (by omega)
    have hrd : (rowsN m (bl.eraseIdx k)).length ≤ 120 := by (show (ordN _ _ _ _ _).length ≤ 120); omega
    refine sp 1 [(5, .slice u25_a ws26.length u25_c)] ?_
    refine sn ?_
    refine sp 1 [(6, .int .i64 (0))] ?_
    refine se ?_
    refine rb 2 ?_
    refine rl (fun mz a w => ∃ J1 : Imm, ∃ j : Nat, ∃ out2 : List (List Int), ∃ ov1_3 : Value, ∃ oM1_3 : Seg, ∃ ow1_3 : List Value, (I20.le J1) ∧ (j ≤ (rowsN m (bl.eraseIdx k)).length) ∧ (rowsN (m + 1) bl = out2 ++ (((rowsN m (bl.eraseIdx k)).drop j).map (fun r => bl.getD k [] ++ r) ++ ordFrom (fun b r => b ++ r) [] bl (rowsN m) (k + 1))) ∧ (RowsV J1 ow1_3 (out2)) ∧ (Own 22 1 valCell ov1_3 (ow1_3) oM1_3) ∧ Slots 49 [(3, ov1_3), (6, .int .i64 ↑j), (0, .slice bw_a bvs.length bw_c), (2, .slice none 0 0), (4, .int .i64 (↑k)), (5, .slice u25_a ws26.length u25_c)] a ∧ a.defers = [] ∧ St J1 ((Ms27 ++ (oM1_3 ++ F))) w ∧ mz = (rowsN m (bl.eraseIdx k)).length - j) ?_ ?_
    ·intro a w hS hD hW
     exact ⟨_, I20, 0, out, .slice ov0_3_a ow0_3.length ov0_3_c, oM0_3, ow0_3, Imm.le.refl _, Nat.zero_le _, hr.trans (by rw [ordFrom_go (by omega), List.drop_zero]), or0_3, oh0_3, hS.sub (.cons 3 rfl (.cons 6 rfl (.cons 0 rfl (.cons 2 rfl (.cons 4 rfl (.cons 5 rfl (.nil _))))))), hD, hW, rfl⟩
    ·rintro mz a w ⟨J1, j, out2, ov1_3, oM1_3, ow1_3, hJ1, hj, hr2, or1_3, oh1_3, hS, hD, hW, rfl⟩
     refine run_at hS hD hW ?_
     clear hS hD hW a w
     replace bw_r := bw_r.mono hJ1
     replace hrw := hrw.mono hJ1
     replace or0_3 := or0_3.mono hJ1
     replace qr29 := qr29.mono hJ1
     obtain ⟨ov1_3_a, ov1_3_c, ov1_3_e, ov1_3_l⟩ := oh1_3.shape; subst ov1_3_e
     have or1_3_len := or1_3.1
     try simp only [List.length_set, List.length_append, List.length_cons, List.length_nil, List.length_take] at or1_3_len
     refine rq ?_
     refine rqr ?_
     refine sp 4 [(31, .bool (cmp .lss (↑j) (↑(ws26.length))))] ?_
     refine se ?_
     refine rc 31 rfl (fun h3 => ?_) (fun h3 => ?_)
     ·
      have h3_r := h3
      have h3 := lss_t h3
      refine rskip ?_
      refine pst_next ?_
      refine rq ?_
      refine rb 3 ?_
      have hel1 := hel _ (getD_mem (d := []) (xs := bl) (k := k) (by omega))
      have hel2 := rowsN_len (m := 5) m (bl.eraseIdx k) (erase_len (k := k) (by omega) (by omega)) (fun x hx => hel x (List.mem_of_mem_eraseIdx hx)) _ (getD_mem (d := []) (xs := (rowsN m (bl.eraseIdx k))) (k := j) (by omega))
      have hln := congrArg List.length hr2
      rw [map_step (b := []) (by omega)] at hln
      simp only [List.length_append, List.length_cons] at hln
      refine rd 13 [(0, true), (2, true), (3, true), (4, true), (5, true), (7, true), (8, true), (9, true), (10, true), (1, false), (6, false), (11, false), (12, false)] (Ms27) ((oM1_3 ++ F)) ?_
      refine ox 3 [(37, .int .i64 (↑k)), (36, .slice bw_a bvs.length bw_c), (34, .slice ov1_3_a ow1_3.length ov1_3_c)] ?_
      refine ofp_det (di 38 1 (k) bw_r.addr) ?_
      have r33_f := hrw.2 (k) (by omega)
      obtain ⟨r33_a, r33_c, r33_b, r33_o, r33_e, r33_l, r33_m, r33_r⟩ := id r33_f
      rw [r33_e] at r33_f
      refine ofp_det (det_eq (dl 39 (vals_get bw_r (k) (by omega))) r33_e) ?_
      refine ox 2 [(42, .int .i64 (↑j)), (41, .slice u25_a ws26.length u25_c)] ?_
      obtain ⟨ob34, orr35⟩ := qh28.row undef
      refine ofp_det (di 43 1 (j) orr35.addr) ?_
      have r36_f := qr29.2 (j) (by omega)
      obtain ⟨r36_a, r36_c, r36_b, r36_o, r36_e, r36_l, r36_m, r36_r⟩ := id r36_f
      rw [r36_e] at r36_f
      refine ofp_det (det_eq (dl 44 (orr35.get (j) (by omega) 0 (by decide) _ _ (fun x hx => by simp [hx]))) r36_e) ?_
      refine ofp_stp (sbs 35 3 0 #[] (fun b37 => ?_))
      refine ofp_settle (S' := ((b37, Obj.cells #[] 3 (0, 0)) :: (oM1_3 ++ F))) (List.perm_middle.symm) ?_
      have ho39 : Own 3 1 intCell (.slice (some ⟨b37, 0, none⟩) 0 0) ([] : List Int) [(b37, Obj.cells #[] 3 (0, 0))] := Own.lit rfl rfl
      refine ofp_stp (stp_append (d := 40) (x := (.tmp 35)) (y := (.tmp 39)) (T := 22) (T' := 22) (E := 3) (E' := 3) (sz := 1) (bs := 8) (z := .int .i64 (0)) (cell := intCell) (xs := ([] : List Int)) (ys := bl.getD (k) []) (Ms := [(b37, Obj.cells #[] 3 (0, 0))]) (ty := 22) (gd := none) (by kernel_rfl) rfl (by kernel_rfl) (by kernel_rfl) (by kernel_rfl) (by kernel_rfl) (by kernel_rfl) (by decide) (by kernel_rfl) rfl rfl (ho39) List.perm_middle (one_intCell _) r33_f.src (by first | omega | (simp only [List.length_cons, List.length_nil, List.length_append, List.length_take, List.length_drop]; omega)) (fun v40 Ms40 ho40 => ?_))
      rw [List.nil_append] at ho40
      refine ofp_settle (S' := ((Ms40 ++ (oM1_3 ++ F)))) (List.perm_append_comm_assoc _ _ _) ?_
      obtain ⟨oa40, oc40, oe40, ol40⟩ := ho40.shape
      subst oe40
      show OFP _ _ _ _ _ _ ((40, .slice oa40 (bl.getD (k) []).length oc40) :: _) _ _
      refine ofp_stp (stp_append (d := 45) (x := (.tmp 40)) (y := (.tmp 44)) (T := 22) (T' := 22) (E := 3) (E' := 3) (sz := 1) (bs := 8) (z := .int .i64 (0)) (cell := intCell) (xs := bl.getD (k) []) (ys := ((rowsN m (bl.eraseIdx k))).getD (j) []) (Ms := Ms40) (ty := 22) (gd := none) (by kernel_rfl) rfl (by kernel_rfl) (by kernel_rfl) (by kernel_rfl) (by kernel_rfl) (by kernel_rfl) (by decide) (by kernel_rfl) rfl rfl (ho40) (List.perm_append_comm_assoc _ _ _) (one_intCell _) r36_f.src (by first | omega | (simp only [List.length_cons, List.length_nil, List.length_append, List.length_take, List.length_drop]; omega)) (fun v41 Ms41 ho41 => ?_))
      refine ofp_settle (S' := ((Ms41 ++ (oM1_3 ++ F)))) (List.perm_append_comm_assoc _ _ _) ?_
      obtain ⟨oa41, oc41, oe41, ol41⟩ := ho41.shape
      subst oe41
      show OFP _ _ _ _ _ _ ((45, .slice oa41 ((bl.getD (k) []) ++ (((rowsN m (bl.eraseIdx k))).getD (j) [])).length oc41) :: _) _ _
      refine ofp_stp (sbs 46 22 1 #[.slice oa41 ((bl.getD (k) []) ++ (((rowsN m (bl.eraseIdx k))).getD (j) [])).length oc41] (fun b42 => ?_))
      refine ofp_settle (S' := ((b42, Obj.cells #[.slice oa41 ((bl.getD (k) []) ++ (((rowsN m (bl.eraseIdx k))).getD (j) [])).length oc41] 22 (0, 0)) :: (Ms41 ++ (oM1_3 ++ F)))) (List.perm_middle.symm) ?_
      refine ofp_end ?_
      refine nm ?_
      refine pm (M' := ((b42, Obj.cells #[.slice oa41 ((bl.getD (k) []) ++ (((rowsN m (bl.eraseIdx k))).getD (j) [])).length oc41] 22 (0, 0)) :: (Ms27 ++ (Ms41 ++ (oM1_3 ++ F))))) List.perm_middle ?_
      refine sfz (A := ((b42, Obj.cells #[.slice oa41 ((bl.getD (k) []) ++ (((rowsN m (bl.eraseIdx k))).getD (j) [])).length oc41] 22 (0, 0)) :: (Ms27 ++ (oM1_3 ++ F)))) 0 ho41 ((List.Perm.cons _ (List.perm_append_comm_assoc _ _ _)).trans (List.perm_middle.symm)) (fun I44 hle45 fz46_f => ?_)
      replace or0_3 := or0_3.mono hle45
      replace or1_3 := or1_3.mono hle45
      obtain ⟨fz46_a, fz46_c, fz46_b, fz46_o, fz46_e, fz46_l, fz46_m, fz46_r⟩ := id fz46_f
      cases fz46_e
      refine sS (stp_append (d := 47) (x := (.tmp 34)) (y := (.tmp 46)) (T := 24) (T' := 24) (E := 22) (E' := 22) (sz := 1) (bs := 24) (z := .slice none 0 0) (cell := valCell) (xs := ow1_3) (ys := [(.slice oa41 ((bl.getD (k) []) ++ (((rowsN m (bl.eraseIdx k))).getD (j) [])).length oc41 : Value)]) (Ms := oM1_3) (ty := 24) (gd := none) (by kernel_rfl) rfl (by kernel_rfl) (by kernel_rfl) (by kernel_rfl) (by kernel_rfl) (by kernel_rfl) (by decide) (by kernel_rfl) rfl rfl (oh1_3) ((List.Perm.cons _ (List.perm_append_comm_assoc _ _ _)).trans (List.perm_middle.symm)) (one_valCell rfl) (src_atS 0 rfl rfl) (by first | omega | (have hq := or1_3.1; simp only [List.length_cons, List.length_nil, List.length_append, List.length_take, List.length_drop] at hq ⊢; omega)) (fun v47 Ms47 ho47 => ?_))
      refine seq_mem (M' := ((Ms47 ++ (Ms27 ++ F)))) (fun w h => (h.perm List.perm_middle).sub (List.Sublist.cons _ (List.Sublist.refl _))) ?_
      obtain ⟨oa47, oc47, oe47, ol47⟩ := ho47.shape
      subst oe47
      show Seq _ _ _ _ _ _ ((47, .slice oa47 (ow1_3 ++ ([(.slice oa41 ((bl.getD (k) []) ++ (((rowsN m (bl.eraseIdx k))).getD (j) [])).length oc41 : Value)])).length oc47) :: _) _ _
      have orw48 := (or1_3).snoc fz46_f
      refine sp 1 [(3, .slice oa47 (ow1_3 ++ ([(.slice oa41 ((bl.getD (k) []) ++ (((rowsN m (bl.eraseIdx k))).getD (j) [])).length oc41 : Value)])).length oc47)] ?_
      refine ee ?_
      refine pst_normal_block ?_
      refine pst_next ?_
      refine rr ?_
      refine sp 1 [(32, .int .i64 (↑j))] ?_
      refine sd (da 33 (↑j) (1)) ?_
      refine sp 1 [(6, .int .i64 (↑j + 1))] ?_
      refine ee ?_
      refine pst_back ((rowsN m (bl.eraseIdx k)).length - (j+1)) (by omega) ?_
      intro a w hS hD hW
      exact ⟨I44, j+1, out2 ++ [(bl.getD (k) []) ++ (((rowsN m (bl.eraseIdx k))).getD (j) [])], .slice oa47 (ow1_3 ++ ([(.slice oa41 ((bl.getD (k) []) ++ (((rowsN m (bl.eraseIdx k))).getD (j) [])).length oc41 : Value)])).length oc47, Ms47, ow1_3 ++ ([(.slice oa41 ((bl.getD (k) []) ++ (((rowsN m (bl.eraseIdx k))).getD (j) [])).length oc41 : Value)]), (Imm.le.trans hJ1 hle45), by omega, hr2.trans (by rw [map_step (b := []) (by omega)]; simp only [List.append_assoc, List.cons_append, List.nil_append]), orw48, ho47, hS.sub (.consE 3 rfl rfl (.consE 6 rfl rfl (.cons 0 rfl (.cons 2 rfl (.cons 4 rfl (.cons 5 rfl (.nil _))))))), hD, hW.perm (List.perm_append_comm_assoc _ _ _), rfl⟩
     ·
      have h3_r := h3
      have h3 := lss_f h3
      refine rexit 2 ?_
      refine (pst_exit_pass (pst_exit_pass (pst_exit_block ?_)))
      refine pst_normal_block ?_
      refine pst_next ?_
      refine rr ?_
      refine sp 1 [(15, .int .i64 (↑k))] ?_
      refine sd (da 16 (↑k) (1)) ?_
      refine sp 1 [(4, .int .i64 (↑k + 1))] ?_
      refine ee ?_
      refine pst_back (bl.length - (k+1)) (by omega) ?_
      intro a w hS hD hW
      exact ⟨J1, k+1, out2, .slice ov1_3_a ow1_3.length ov1_3_c, oM1_3, ow1_3, (Imm.le.trans (Imm.le.trans (Imm.le.trans hJ0 hle17) hle21) hJ1), by omega, hr2.trans (by rw [map_end (by omega), List.nil_append]), or1_3, oh1_3, hS.sub (.consE 3 rfl rfl (.consE 4 rfl rfl (.cons 0 rfl (.cons 2 rfl (.nil _))))), hD, (hW.perm (List.Perm.refl _)).sub (List.Sublist.trans (List.Sublist.refl _) (List.sublist_append_right _ _)), rfl⟩
   ·
    have h2_r := h2
    have h2 := lss_f h2
    refine rexit 0 ?_
    refine (pst_exit_pass (pst_exit_pass (pst_exit_block ?_)))
    refine pst_next ?_
    refine rqr ?_
    refine sp 2 [(2, .slice ov0_3_a ow0_3.length ov0_3_c)] ?_
    refine se ?_
    refine rret ?_
    refine pst_ret1 (t := 2) (oM0_3) (by kernel_rfl) rfl (List.Sublist.append_left (List.Sublist.refl _) _) hJ0 ?_
    exact ⟨_, _, _, rfl, rfl, oh0_3, ((show out = rowsN n bl from by rw [hnm, hr, ordFrom_done (by omega), List.append_nil]) ▸ or0_3)⟩

theorem rows_all (n : Nat) : RowsAt n := by
 induction n with
 | zero => intro I b bl n b_f hn h5 hel hdn; exact rows_of I b bl n b_f hn h5 hel (fun m hm => by omega)
 | succ m ih => intro I b bl n b_f hn h5 hel hdn; exact rows_of I b bl n b_f hn h5 hel (fun k hk => (show m = k by omega) ▸ ih)
theorem rows_ct (I : Imm) (b : Value) (bl : List (List Int)) (n : Nat) (b_f : IsRows I b bl) (hn : bl.length = n) (h5 : n ≤ 5) (hel : ∀ x ∈ bl, x.length ≤ 5) : Ct Tryd.prog 10 #[b] I ([]) (fun v I' M' => ∃ u : Value, ∃ ws : List Value, ∃ Ms : Seg, v = u ∧ M' = Ms ∧ Own 22 1 valCell u ws Ms ∧ RowsV I' ws (rowsN n bl)) := rows_all n I b bl n b_f hn h5 hel rfl
def OrdersAt (m : Nat) : Prop := ∀ (I : Imm) (b : Value) (bl : List Int) (n : Nat) (b_f : IsInts I b bl) (hn : bl.length = n) (h5 : n ≤ 5), n = m → Ct Tryd.prog 25 #[b] I ([]) (fun v I' M' => ∃ u : Value, ∃ ws : List Value, ∃ Ms : Seg, v = u ∧ M' = Ms ∧ Own 22 1 valCell u ws Ms ∧ RowsV I' ws (ordersN n bl))
noncomputable def c_Orders (p : List Nat) : Code := sub (bodyOf Tryd.f25) p
set_option maxHeartbeats 1000000 in
theorem orders_of (I : Imm) (b : Value) (bl : List Int) (n : Nat) (b_f : IsInts I b bl) (hn : bl.length = n) (h5 : n ≤ 5) (ht : ∀ m, m + 1 = n → OrdersAt m) : Ct Tryd.prog 25 #[b] I ([]) (fun v I' M' => ∃ u : Value, ∃ ws : List Value, ∃ Ms : Seg, v = u ∧ M' = Ms ∧ Own 22 1 valCell u ws Ms ∧ RowsV I' ws (ordersN n bl)) := by
 obtain ⟨b_a, b_c, b_b, b_o, b_e, b_l, b_m, b_r⟩ := id b_f
 subst b_e
 refine fn_of_run (fn := Tryd.f25) (args := [_]) (N := 48) Tryd.func25 rfl (by kernel_rfl) (Nat.le_of_ble_eq_true rfl) (fun F => ?_)
 show Run _ _ (c_Orders []) _ _ [(0, .slice b_a bl.length b_c)] _ _
 refine rnm ?_
 refine rqr ?_
 refine sp 1 [(2, .slice none 0 0)] ?_
 refine se ?_
 refine rq ?_
 refine rqr ?_
 refine sp 3 [(9, .bool (cmp .eql (↑(bl.length)) (0)))] ?_
 refine se ?_
 refine rc 9 rfl (fun h1 => ?_) (fun h1 => ?_)
 ·
  have h1_r := h1
  have h1 := eql_t h1
  have hn0 : n = 0 := by omega
  refine rqr ?_
  refine sS (sbs 10 22 1 #[.slice none 0 0] (fun b1 => ?_))
  refine pm (M' := (([(b1, Obj.cells #[.slice none 0 0] 22 (0, 0))] ++ F))) (List.Perm.refl _) ?_
  have ho3 : Own 22 1 valCell (.slice (some ⟨b1, 0, none⟩) 1 1) ([(.slice none 0 0 : Value)] : List Value) [(b1, Obj.cells #[.slice none 0 0] 22 (0, 0))] := Own.lit rfl rfl
  have orw4 := ((RowsV.nil I).snoc (IsSl.nil _))
  simp only [List.nil_append, List.cons_append] at orw4
  refine sp 1 [(2, .slice (some ⟨b1, 0, none⟩) 1 1)] ?_
  refine se ?_
  refine rret ?_
  refine (pst_ret_pass ?_)
  refine pst_ret1 (t := 2) ([(b1, Obj.cells #[.slice none 0 0] 22 (0, 0))]) (by kernel_rfl) rfl (List.Sublist.cons_cons _ (List.Sublist.refl _)) (Imm.le.refl _) ?_
  exact ⟨_, _, _, rfl, rfl, ho3, ((show [[]] = ordersN n bl from by rw [hn0]; rfl) ▸ orw4)⟩
 ·
  have h1_r := h1
  have h1 := eql_f h1
  obtain ⟨m, hnm⟩ : ∃ m, n = m + 1 := ⟨n - 1, by omega⟩
  have hs := ht m (by omega)
  have hct := ordN_count (f := fun b r => b :: r) (d := 0) (z := []) (m + 1) bl (by omega)
  have hf5 := fact_le5 (n := m + 1) (by omega)
  have hcl : (ordersN (m + 1) bl).length ≤ 120 := by (show (ordN _ _ _ _ _).length ≤ 120); omega
  refine rskip ?_
  refine pst_next ?_
  refine rqr ?_
  refine sp 1 [(3, .slice none 0 0)] ?_
  refine se ?_
  refine rq ?_
  refine rqr ?_
  refine sp 1 [(4, .int .i64 (0))] ?_
  refine se ?_
  refine rb 0 ?_
  refine rl (fun mz a w => ∃ J0 : Imm, ∃ k : Nat, ∃ out : List (List Int), ∃ ov0_3 : Value, ∃ oM0_3 : Seg, ∃ ow0_3 : List Value, (I.le J0) ∧ (k ≤ bl.length) ∧ (ordersN (m + 1) bl = out ++ ordFrom (fun b r => b :: r) 0 bl (ordersN m) k) ∧ (RowsV J0 ow0_3 (out)) ∧ (Own 22 1 valCell ov0_3 (ow0_3) oM0_3) ∧ Slots 48 [(3, ov0_3), (4, .int .i64 ↑k), (0, .slice b_a bl.length b_c), (2, .slice none 0 0)] a ∧ a.defers = [] ∧ St J0 ((oM0_3 ++ F)) w ∧ mz = bl.length - k) ?_ ?_
  ·intro a w hS hD hW
   exact ⟨_, I, 0, [], (.slice none 0 0), [], [], Imm.le.refl _, Nat.zero_le _, rfl, (RowsV.nil _), (Own.nil _ _ _), hS.sub (.cons 3 rfl (.cons 4 rfl (.cons 0 rfl (.cons 2 rfl (.nil _))))), hD, hW, rfl⟩
  ·rintro mz a w ⟨J0, k, out, ov0_3, oM0_3, ow0_3, hJ0, hk, hr, or0_3, oh0_3, hS, hD, hW, rfl⟩
   refine run_at hS hD hW ?_
   clear hS hD hW a w
   replace b_f := b_f.mono hJ0
   replace b_r := b_r.mono hJ0
   obtain ⟨ov0_3_a, ov0_3_c, ov0_3_e, ov0_3_l⟩ := oh0_3.shape; subst ov0_3_e
   have or0_3_len := or0_3.1
   try simp only [List.length_set, List.length_append, List.length_cons, List.length_nil, List.length_take] at or0_3_len
   refine rq ?_
   refine rqr ?_
   refine sp 4 [(14, .bool (cmp .lss (↑k) (↑(bl.length))))] ?_
   refine se ?_
   refine rc 14 rfl (fun h2 => ?_) (fun h2 => ?_)
   ·
    have h2_r := h2
    have h2 := lss_t h2
    refine rskip ?_
    refine pst_next ?_
    refine rq ?_
    refine rb 1 ?_
    refine rq ?_
    refine rd 9 [(1, true), (2, true), (3, true), (5, true), (6, true), (7, true), (8, true), (0, false), (4, false)] ([]) ((oM0_3 ++ F)) ?_
    refine ox 2 [(19, .int .i64 (↑k)), (18, .slice b_a bl.length b_c)] ?_
    have s5_f := b_f.cutHi (k) (by omega)
    obtain ⟨s5_a, s5_c, s5_b, s5_o, s5_e, s5_l, s5_m, s5_r⟩ := id s5_f
    rw [s5_e] at s5_f
    refine ofp_det (det_eq (det_slice (x := (.tmp 18)) (lo := none) (hi := (some (.tmp 19))) (T := 22) (e := 3) (sz := 1) (0) (k) (d := 20) (ty := 22) (gd := none) (by kernel_rfl) rfl (by kernel_rfl) (by kernel_rfl) rfl (.inl ⟨rfl, rfl⟩) (.inr ⟨_, .i64, rfl, rfl⟩) (by omega) (by omega)) s5_e) ?_
    refine ox 2 [(23, .int .i64 (↑k)), (22, .slice b_a bl.length b_c)] ?_
    refine ofp_det (da 24 (↑k) (1)) ?_
    have s6_f := b_f.cutLo (k + 1) (by omega)
    obtain ⟨s6_a, s6_c, s6_b, s6_o, s6_e, s6_l, s6_m, s6_r⟩ := id s6_f
    rw [s6_e] at s6_f
    refine ofp_det (det_eq (det_slice (x := (.tmp 22)) (lo := (some (.tmp 24))) (hi := none) (T := 22) (e := 3) (sz := 1) (k + 1) (bl.length) (d := 25) (ty := 22) (gd := none) (by kernel_rfl) rfl (by kernel_rfl) (by kernel_rfl) rfl (.inr ⟨_, .i64, rfl, rfl⟩) (.inl ⟨rfl, rfl⟩) (by omega) (by omega)) s6_e) ?_
    refine ofp_stp (sbs 17 3 0 #[] (fun b7 => ?_))
    refine ofp_settle (S' := ((b7, Obj.cells #[] 3 (0, 0)) :: (oM0_3 ++ F))) (List.Perm.refl _) ?_
    have ho9 : Own 3 1 intCell (.slice (some ⟨b7, 0, none⟩) 0 0) ([] : List Int) [(b7, Obj.cells #[] 3 (0, 0))] := Own.lit rfl rfl
    refine ofp_stp (stp_append (d := 21) (x := (.tmp 17)) (y := (.tmp 20)) (T := 22) (T' := 22) (E := 3) (E' := 3) (sz := 1) (bs := 8) (z := .int .i64 (0)) (cell := intCell) (xs := ([] : List Int)) (ys := bl.take (k)) (Ms := [(b7, Obj.cells #[] 3 (0, 0))]) (ty := 22) (gd := none) (by kernel_rfl) rfl (by kernel_rfl) (by kernel_rfl) (by kernel_rfl) (by kernel_rfl) (by kernel_rfl) (by decide) (by kernel_rfl) rfl rfl (ho9) (List.Perm.refl _) (one_intCell _) s5_f.src (by first | omega | (simp only [List.length_cons, List.length_nil, List.length_append, List.length_take, List.length_drop]; omega)) (fun v10 Ms10 ho10 => ?_))
    rw [List.nil_append] at ho10
    refine ofp_settle (S' := ((Ms10 ++ (oM0_3 ++ F)))) (List.Perm.refl _) ?_
    obtain ⟨oa10, oc10, oe10, ol10⟩ := ho10.shape
    subst oe10
    show OFP _ _ _ _ _ _ ((21, .slice oa10 (bl.take (k)).length oc10) :: _) _ _
    refine ofp_end ?_
    refine nm ?_
    refine nm ?_
    refine sS (stp_append (d := 26) (x := (.tmp 21)) (y := (.tmp 25)) (T := 22) (T' := 22) (E := 3) (E' := 3) (sz := 1) (bs := 8) (z := .int .i64 (0)) (cell := intCell) (xs := bl.take (k)) (ys := bl.drop (k + 1)) (Ms := Ms10) (ty := 22) (gd := none) (by kernel_rfl) rfl (by kernel_rfl) (by kernel_rfl) (by kernel_rfl) (by kernel_rfl) (by kernel_rfl) (by decide) (by kernel_rfl) rfl rfl (ho10) (List.Perm.refl _) (one_intCell _) s6_f.src (by first | omega | (simp only [List.length_cons, List.length_nil, List.length_append, List.length_take, List.length_drop]; omega)) (fun v11 Ms11 ho11 => ?_))
    refine nm ?_
    obtain ⟨oa11, oc11, oe11, ol11⟩ := ho11.shape
    subst oe11
    show Seq _ _ _ _ _ _ ((26, .slice oa11 ((bl.take (k)) ++ (bl.drop (k + 1))).length oc11) :: _) _ _
    refine sfz 0 ho11 (.refl _) (fun I12 hle13 fz14_f => ?_)
    replace b_r := b_r.mono hle13
    replace or0_3 := or0_3.mono hle13
    obtain ⟨fz14_a, fz14_c, fz14_b, fz14_o, fz14_e, fz14_l, fz14_m, fz14_r⟩ := id fz14_f
    cases fz14_e
    have hct27 := hs I12 _ _ (m) fz14_f (by rw [erase_take]; exact erase_len (by omega) (by omega)) (by omega) (by rfl)
    refine sS (sc (some 27) (F := ((oM0_3 ++ F))) (hct27 :) (.refl _) (fun rv25 I15 rm26 hle16 hp17 => ?_))
    obtain ⟨u20, ws21, Ms22, hv18, hm19, qh23, qr24⟩ := hp17
    rw [hv18, hm19]; clear hv18 hm19
    replace b_r := b_r.mono hle16
    replace or0_3 := or0_3.mono hle16
    obtain ⟨u20_a, u20_c, u20_e, u20_l⟩ := qh23.shape
    subst u20_e
    have qr24_len := qr24.1
    try simp only [List.length_set, List.length_append, List.length_cons, List.length_nil, List.length_take] at qr24_len
    refine nm ?_
    show Seq _ _ _ _ _ _ ((27, .slice u20_a ws21.length u20_c) :: _) _ _
    rw [erase_take] at qr24
    have qr24_len := qr24.1
    try simp only [List.length_set, List.length_append, List.length_cons, List.length_nil, List.length_take] at qr24_len
    have hrl := qr24.1
    have hrc := ordN_count (f := fun b r => b :: r) (d := 0) (z := []) m (bl.eraseIdx k) (erase_len (k := k) (by omega) (by omega))
    have hrf := fact_le5 (n := m) (by omega)
    have hrd : (ordersN m (bl.eraseIdx k)).length ≤ 120 := by (show (ordN _ _ _ _ _).length ≤ 120); omega
    refine sp 1 [(5, .slice u20_a ws21.length u20_c)] ?_
    refine sn ?_
    refine sp 1 [(6, .int .i64 (0))] ?_
    refine se ?_
    refine rb 2 ?_
    refine rl (fun mz a w => ∃ J1 : Imm, ∃ j : Nat, ∃ out2 : List (List Int), ∃ ov1_3 : Value, ∃ oM1_3 : Seg, ∃ ow1_3 : List Value, (I15.le J1) ∧ (j ≤ (ordersN m (bl.eraseIdx k)).length) ∧ (ordersN (m + 1) bl = out2 ++ (((ordersN m (bl.eraseIdx k)).drop j).map (fun r => bl.getD k 0 :: r) ++ ordFrom (fun b r => b :: r) 0 bl (ordersN m) (k + 1))) ∧ (RowsV J1 ow1_3 (out2)) ∧ (Own 22 1 valCell ov1_3 (ow1_3) oM1_3) ∧ Slots 48 [(3, ov1_3), (6, .int .i64 ↑j), (0, .slice b_a bl.length b_c), (2, .slice none 0 0), (4, .int .i64 (↑k)), (5, .slice u20_a ws21.length u20_c)] a ∧ a.defers = [] ∧ St J1 ((Ms22 ++ (oM1_3 ++ F))) w ∧ mz = (ordersN m (bl.eraseIdx k)).length - j) ?_ ?_
    ·intro a w hS hD hW
     exact ⟨_, I15, 0, out, .slice ov0_3_a ow0_3.length ov0_3_c, oM0_3, ow0_3, Imm.le.refl _, Nat.zero_le _, hr.trans (by rw [ordFrom_go (by omega), List.drop_zero]), or0_3, oh0_3, hS.sub (.cons 3 rfl (.cons 6 rfl (.cons 0 rfl (.cons 2 rfl (.cons 4 rfl (.cons 5 rfl (.nil _))))))), hD, hW, rfl⟩
    ·rintro mz a w ⟨J1, j, out2, ov1_3, oM1_3, ow1_3, hJ1, hj, hr2, or1_3, oh1_3, hS, hD, hW, rfl⟩
     refine run_at hS hD hW ?_
     clear hS hD hW a w
     replace b_r := b_r.mono hJ1
     replace or0_3 := or0_3.mono hJ1
     replace qr24 := qr24.mono hJ1
     obtain ⟨ov1_3_a, ov1_3_c, ov1_3_e, ov1_3_l⟩ := oh1_3.shape; subst ov1_3_e
     have or1_3_len := or1_3.1
     try simp only [List.length_set, List.length_append, List.length_cons, List.length_nil, List.length_take] at or1_3_len
     refine rq ?_
     refine rqr ?_
     refine sp 4 [(31, .bool (cmp .lss (↑j) (↑(ws21.length))))] ?_
     refine se ?_
     refine rc 31 rfl (fun h3 => ?_) (fun h3 => ?_)
     ·
      have h3_r := h3
      have h3 := lss_t h3
      refine rskip ?_
      refine pst_next ?_
      refine rq ?_
      refine rb 3 ?_
      have hel2 := ordersN_len m (bl.eraseIdx k) (erase_len (k := k) (by omega) (by omega)) _ (getD_mem (d := []) (xs := (ordersN m (bl.eraseIdx k))) (k := j) (by omega))
      have hln := congrArg List.length hr2
      rw [map_step (b := []) (by omega)] at hln
      simp only [List.length_append, List.length_cons] at hln
      refine rd 12 [(0, true), (1, true), (2, true), (3, true), (4, true), (6, true), (7, true), (8, true), (9, true), (5, false), (10, false), (11, false)] (Ms22) ((oM1_3 ++ F)) ?_
      refine ox 3 [(36, .int .i64 (↑k)), (35, .slice b_a bl.length b_c), (34, .slice ov1_3_a ow1_3.length ov1_3_c)] ?_
      refine ofp_det (di 37 1 (k) b_r.addr) ?_
      refine ofp_det (dl 38 (ints_get b_r (k) (by omega))) ?_
      refine ox 2 [(41, .int .i64 (↑j)), (40, .slice u20_a ws21.length u20_c)] ?_
      obtain ⟨ob28, orr29⟩ := qh23.row undef
      refine ofp_det (di 42 1 (j) orr29.addr) ?_
      have r30_f := qr24.2 (j) (by omega)
      obtain ⟨r30_a, r30_c, r30_b, r30_o, r30_e, r30_l, r30_m, r30_r⟩ := id r30_f
      rw [r30_e] at r30_f
      refine ofp_det (det_eq (dl 43 (orr29.get (j) (by omega) 0 (by decide) _ _ (fun x hx => by simp [hx]))) r30_e) ?_
      refine ofp_stp (sbs 39 3 1 #[.int .i64 (bl.getD (k) 0)] (fun b31 => ?_))
      refine ofp_settle (S' := ((b31, Obj.cells #[.int .i64 (bl.getD (k) 0)] 3 (0, 0)) :: (oM1_3 ++ F))) (List.perm_middle.symm) ?_
      have ho33 : Own 3 1 intCell (.slice (some ⟨b31, 0, none⟩) 1 1) ([(bl.getD (k) 0 : Int)] : List Int) [(b31, Obj.cells #[.int .i64 (bl.getD (k) 0)] 3 (0, 0))] := Own.lit rfl rfl
      refine ofp_stp (stp_append (d := 44) (x := (.tmp 39)) (y := (.tmp 43)) (T := 22) (T' := 22) (E := 3) (E' := 3) (sz := 1) (bs := 8) (z := .int .i64 (0)) (cell := intCell) (xs := ([(bl.getD (k) 0 : Int)] : List Int)) (ys := ((ordersN m (bl.eraseIdx k))).getD (j) []) (Ms := [(b31, Obj.cells #[.int .i64 (bl.getD (k) 0)] 3 (0, 0))]) (ty := 22) (gd := none) (by kernel_rfl) rfl (by kernel_rfl) (by kernel_rfl) (by kernel_rfl) (by kernel_rfl) (by kernel_rfl) (by decide) (by kernel_rfl) rfl rfl (ho33) List.perm_middle (one_intCell _) r30_f.src (by first | omega | (simp only [List.length_cons, List.length_nil, List.length_append, List.length_take, List.length_drop]; omega)) (fun v34 Ms34 ho34 => ?_))
      refine ofp_settle (S' := ((Ms34 ++ (oM1_3 ++ F)))) (List.perm_append_comm_assoc _ _ _) ?_
      obtain ⟨oa34, oc34, oe34, ol34⟩ := ho34.shape
      subst oe34
      show OFP _ _ _ _ _ _ ((44, .slice oa34 ((([(bl.getD (k) 0 : Int)] : List Int)) ++ (((ordersN m (bl.eraseIdx k))).getD (j) [])).length oc34) :: _) _ _
      refine ofp_stp (sbs 45 22 1 #[.slice oa34 ((([(bl.getD (k) 0 : Int)] : List Int)) ++ (((ordersN m (bl.eraseIdx k))).getD (j) [])).length oc34] (fun b35 => ?_))
      refine ofp_settle (S' := ((b35, Obj.cells #[.slice oa34 ((([(bl.getD (k) 0 : Int)] : List Int)) ++ (((ordersN m (bl.eraseIdx k))).getD (j) [])).length oc34] 22 (0, 0)) :: (Ms34 ++ (oM1_3 ++ F)))) (List.perm_middle.symm) ?_
      refine ofp_end ?_
      refine seq_mem (M' := ((Ms22 ++ (b35, Obj.cells #[.slice oa34 ((([(bl.getD (k) 0 : Int)] : List Int)) ++ (((ordersN m (bl.eraseIdx k))).getD (j) [])).length oc34] 22 (0, 0)) :: (Ms34 ++ (oM1_3 ++ F))))) (fun w h => h) ?_
      refine pm (M' := ((b35, Obj.cells #[.slice oa34 ((([(bl.getD (k) 0 : Int)] : List Int)) ++ (((ordersN m (bl.eraseIdx k))).getD (j) [])).length oc34] 22 (0, 0)) :: (Ms22 ++ (Ms34 ++ (oM1_3 ++ F))))) List.perm_middle ?_
      refine sfz (A := ((b35, Obj.cells #[.slice oa34 ((([(bl.getD (k) 0 : Int)] : List Int)) ++ (((ordersN m (bl.eraseIdx k))).getD (j) [])).length oc34] 22 (0, 0)) :: (Ms22 ++ (oM1_3 ++ F)))) 0 ho34 ((List.Perm.cons _ (List.perm_append_comm_assoc _ _ _)).trans (List.perm_middle.symm)) (fun I37 hle38 fz39_f => ?_)
      replace or0_3 := or0_3.mono hle38
      replace or1_3 := or1_3.mono hle38
      obtain ⟨fz39_a, fz39_c, fz39_b, fz39_o, fz39_e, fz39_l, fz39_m, fz39_r⟩ := id fz39_f
      cases fz39_e
      refine sS (stp_append (d := 46) (x := (.tmp 34)) (y := (.tmp 45)) (T := 24) (T' := 24) (E := 22) (E' := 22) (sz := 1) (bs := 24) (z := .slice none 0 0) (cell := valCell) (xs := ow1_3) (ys := [(.slice oa34 ((([(bl.getD (k) 0 : Int)] : List Int)) ++ (((ordersN m (bl.eraseIdx k))).getD (j) [])).length oc34 : Value)]) (Ms := oM1_3) (ty := 24) (gd := none) (by kernel_rfl) rfl (by kernel_rfl) (by kernel_rfl) (by kernel_rfl) (by kernel_rfl) (by kernel_rfl) (by decide) (by kernel_rfl) rfl rfl (oh1_3) ((List.Perm.cons _ (List.perm_append_comm_assoc _ _ _)).trans (List.perm_middle.symm)) (one_valCell rfl) (src_atS 0 rfl rfl) (by first | omega | (have hq := or1_3.1; simp only [List.length_cons, List.length_nil, List.length_append, List.length_take, List.length_drop] at hq ⊢; omega)) (fun v40 Ms40 ho40 => ?_))
      refine seq_mem (M' := ((Ms40 ++ (Ms22 ++ F)))) (fun w h => (h.perm List.perm_middle).sub (List.Sublist.cons _ (List.Sublist.refl _))) ?_
      obtain ⟨oa40, oc40, oe40, ol40⟩ := ho40.shape
      subst oe40
      show Seq _ _ _ _ _ _ ((46, .slice oa40 (ow1_3 ++ ([(.slice oa34 ((([(bl.getD (k) 0 : Int)] : List Int)) ++ (((ordersN m (bl.eraseIdx k))).getD (j) [])).length oc34 : Value)])).length oc40) :: _) _ _
      have orw41 := (or1_3).snoc fz39_f
      refine sp 1 [(3, .slice oa40 (ow1_3 ++ ([(.slice oa34 ((([(bl.getD (k) 0 : Int)] : List Int)) ++ (((ordersN m (bl.eraseIdx k))).getD (j) [])).length oc34 : Value)])).length oc40)] ?_
      refine ee ?_
      refine pst_normal_block ?_
      refine pst_next ?_
      refine rr ?_
      refine sp 1 [(32, .int .i64 (↑j))] ?_
      refine sd (da 33 (↑j) (1)) ?_
      refine sp 1 [(6, .int .i64 (↑j + 1))] ?_
      refine ee ?_
      refine pst_back ((ordersN m (bl.eraseIdx k)).length - (j+1)) (by omega) ?_
      intro a w hS hD hW
      exact ⟨I37, j+1, out2 ++ [(([(bl.getD (k) 0 : Int)] : List Int)) ++ (((ordersN m (bl.eraseIdx k))).getD (j) [])], .slice oa40 (ow1_3 ++ ([(.slice oa34 ((([(bl.getD (k) 0 : Int)] : List Int)) ++ (((ordersN m (bl.eraseIdx k))).getD (j) [])).length oc34 : Value)])).length oc40, Ms40, ow1_3 ++ ([(.slice oa34 ((([(bl.getD (k) 0 : Int)] : List Int)) ++ (((ordersN m (bl.eraseIdx k))).getD (j) [])).length oc34 : Value)]), (Imm.le.trans hJ1 hle38), by omega, hr2.trans (by rw [map_step (b := []) (by omega)]; simp only [List.append_assoc, List.cons_append, List.nil_append]), orw41, ho40, hS.sub (.consE 3 rfl rfl (.consE 6 rfl rfl (.cons 0 rfl (.cons 2 rfl (.cons 4 rfl (.cons 5 rfl (.nil _))))))), hD, hW.perm (List.perm_append_comm_assoc _ _ _), rfl⟩
     ·
      have h3_r := h3
      have h3 := lss_f h3
      refine rexit 2 ?_
      refine (pst_exit_pass (pst_exit_pass (pst_exit_block ?_)))
      refine pst_normal_block ?_
      refine pst_next ?_
      refine rr ?_
      refine sp 1 [(15, .int .i64 (↑k))] ?_
      refine sd (da 16 (↑k) (1)) ?_
      refine sp 1 [(4, .int .i64 (↑k + 1))] ?_
      refine ee ?_
      refine pst_back (bl.length - (k+1)) (by omega) ?_
      intro a w hS hD hW
      exact ⟨J1, k+1, out2, .slice ov1_3_a ow1_3.length ov1_3_c, oM1_3, ow1_3, (Imm.le.trans (Imm.le.trans (Imm.le.trans hJ0 hle13) hle16) hJ1), by omega, hr2.trans (by rw [map_end (by omega), List.nil_append]), or1_3, oh1_3, hS.sub (.consE 3 rfl rfl (.consE 4 rfl rfl (.cons 0 rfl (.cons 2 rfl (.nil _))))), hD, (hW.perm (List.Perm.refl _)).sub (List.Sublist.trans (List.Sublist.refl _) (List.sublist_append_right _ _)), rfl⟩
   ·
    have h2_r := h2
    have h2 := lss_f h2
    refine rexit 0 ?_
    refine (pst_exit_pass (pst_exit_pass (pst_exit_block ?_)))
    refine pst_next ?_
    refine rqr ?_
    refine sp 2 [(2, .slice ov0_3_a ow0_3.length ov0_3_c)] ?_
    refine se ?_
    refine rret ?_
    refine pst_ret1 (t := 2) (oM0_3) (by kernel_rfl) rfl (List.Sublist.append_left (List.Sublist.refl _) _) hJ0 ?_
    exact ⟨_, _, _, rfl, rfl, oh0_3, ((show out = ordersN n bl from by rw [hnm, hr, ordFrom_done (by omega), List.append_nil]) ▸ or0_3)⟩

theorem orders_all (n : Nat) : OrdersAt n := by
 induction n with
 | zero => intro I b bl n b_f hn h5 hdn; exact orders_of I b bl n b_f hn h5 (fun m hm => by omega)
 | succ m ih => intro I b bl n b_f hn h5 hdn; exact orders_of I b bl n b_f hn h5 (fun k hk => (show m = k by omega) ▸ ih)
theorem orders_ct (I : Imm) (b : Value) (bl : List Int) (n : Nat) (b_f : IsInts I b bl) (hn : bl.length = n) (h5 : n ≤ 5) : Ct Tryd.prog 25 #[b] I ([]) (fun v I' M' => ∃ u : Value, ∃ ws : List Value, ∃ Ms : Seg, v = u ∧ M' = Ms ∧ Own 22 1 valCell u ws Ms ∧ RowsV I' ws (ordersN n bl)) := orders_all n I b bl n b_f hn h5 rfl
end Go.Proofs.YtcaocbhbofejnaaDoor
namespace Go.Proofs.YtcaocbhbofejnaaDoor
open Go Go.Sl Go.Sh
set_option maxRecDepth 100000
noncomputable def c_Blocks (p : List Nat) : Code := sub (bodyOf Tryd.f11) p
theorem Blocks_ct (I : Imm) (y : Value) (Y : Yard) (y_f : IsYard I y Y) (ho : Ok Y.cars (Y.tracks.getD (0) [])) (h1 : 0 < Y.tracks.length) (hl : (Y.tracks.getD (0) []).length ≤ 1000000) : Ct Tryd.prog 11 #[y] I ([]) (fun v I' M' => ∃ u : Value, ∃ ws : List Value, ∃ Ms : Seg, v = u ∧ M' = Ms ∧ Own 22 1 valCell u ws Ms ∧ RowsV I' ws (blocksOf Y.cars (Y.tracks.getD (0) []))) := by
 obtain ⟨y1, y2, y3, y_e, y1_f, y2_f, y3_f⟩ := id y_f
 subst y_e
 obtain ⟨y1_a, y1_c, y1_b, y1_o, y1_e, y1_l, y1_m, y1_r⟩ := id y1_f
 subst y1_e
 obtain ⟨y2_a, y2_c, y2_b, y2_o, y2_e, y2_l, y2_m, y2_r⟩ := id y2_f
 subst y2_e
 obtain ⟨y3_a, y3_c, y3_b, y3_o, y3_vs, y3_e, y3_l, y3_m, y3_r, y3_w⟩ := id y3_f
 subst y3_e
 refine fn_of_run (fn := Tryd.f11) (args := [_]) (N := 72) Tryd.func11 rfl (by kernel_rfl) (Nat.le_of_ble_eq_true rfl) (fun F => ?_)
 show Run _ _ (c_Blocks []) _ _ [(0, .agg #[.slice y1_a Y.cars.length y1_c, .slice y2_a Y.room.length y2_c, .slice y3_a Y.tracks.length y3_c])] _ _
 refine rnm ?_
 refine rqr ?_
 refine sS (sb 1 26 #[.slice y1_a Y.cars.length y1_c, .slice y2_a Y.room.length y2_c, .slice y3_a Y.tracks.length y3_c] (fun b1 => ?_))
 refine sp 1 [(2, .slice none 0 0)] ?_
 refine sn ?_
 refine sp 1 [(3, .slice none 0 0)] ?_
 refine se ?_
 refine rq ?_
 refine rqr ?_
 refine sp 1 [(4, .int .i64 (0))] ?_
 refine se ?_
 refine rb 0 ?_
 refine rl (fun mz a w => ∃ k : Nat, ∃ bv : Value, ∃ vs : List Value, ∃ bM : Seg, ∃ eM : Seg, (k ≤ (Y.tracks.getD (0) []).length) ∧ (Own 22 1 valCell bv vs bM) ∧ (OwnEach 3 vs (blocksTo Y.cars (Y.tracks.getD (0) []) k) eM) ∧ Slots 72 [(3, bv), (4, .int .i64 ↑k), (1, .pointer (some ⟨b1, 0, none⟩)), (2, .slice none 0 0)] a ∧ a.defers = [] ∧ St I ((b1, Obj.cells #[.slice y1_a Y.cars.length y1_c, .slice y2_a Y.room.length y2_c, .slice y3_a Y.tracks.length y3_c] 26 (0, 0)) :: (bM ++ (eM ++ F))) w ∧ mz = (Y.tracks.getD (0) []).length - k) ?_ ?_
 ·intro a w hS hD hW
  exact ⟨_, 0, (.slice none 0 0), [], [], [], Nat.zero_le _, Own.nil _ _ _, OwnEach.nil, hS.sub (.cons 3 rfl (.cons 4 rfl (.cons 1 rfl (.cons 2 rfl (.nil _))))), hD, hW, rfl⟩
 ·rintro mz a w ⟨k, bv, vs, bM, eM, hk, bo, hea, hS, hD, hW, rfl⟩
  refine run_at hS hD hW ?_
  clear hS hD hW a w
  obtain ⟨bv_a, bv_c, bv_e, bv_l⟩ := bo.shape; subst bv_e
  have hbl := hea.length
  have hbt := blocksTo_len Y.cars (Y.tracks.getD (0) []) k
  refine rq ?_
  refine rqr ?_
  refine sp 2 [(8, .pointer (some ⟨b1, 2, none⟩)), (7, .int .i64 (↑k))] ?_
  refine sd (dlb 9 0 2 b1 (.slice y3_a Y.tracks.length y3_c)) ?_
  refine sd (di 10 1 (0) y3_r.addr) ?_
  have r3_f := y3_w (0) (by omega)
  obtain ⟨r3_a, r3_c, r3_b, r3_o, r3_e, r3_l, r3_m, r3_r⟩ := id r3_f
  rw [r3_e] at r3_f
  refine sd (det_eq (dl 11 (rows_get y3_r (0) (by omega))) r3_e) ?_
  refine sp 2 [(13, .bool (cmp .lss (↑k) (↑((Y.tracks.getD (0) []).length))))] ?_
  refine se ?_
  refine rc 13 rfl (fun h1 => ?_) (fun h1 => ?_)
  ·
   have h1_r := h1
   have h1 := lss_t h1
   refine rskip ?_
   refine pst_next ?_
   refine rq ?_
   refine rb 1 ?_
   refine rqr ?_
   refine sp 1 [(16, .pointer (some ⟨b1, 2, none⟩))] ?_
   refine sd (dlb 17 0 2 b1 (.slice y3_a Y.tracks.length y3_c)) ?_
   refine sd (di 18 1 (0) y3_r.addr) ?_
   have r4_f := y3_w (0) (by omega)
   obtain ⟨r4_a, r4_c, r4_b, r4_o, r4_e, r4_l, r4_m, r4_r⟩ := id r4_f
   rw [r4_e] at r4_f
   refine sd (det_eq (dl 19 (rows_get y3_r (0) (by omega))) r4_e) ?_
   refine sp 1 [(20, .int .i64 (↑k))] ?_
   refine sd (di 21 1 (k) r4_r.addr) ?_
   refine sd (dl 22 (ints_get r4_r (k) (by omega))) ?_
   refine sp 1 [(5, .int .i64 ((Y.tracks.getD (0) []).getD (k) 0))] ?_
   refine sn ?_
   have hc := ho.at k (by omega)
   refine sp 1 [(23, .pointer (some ⟨b1, 0, none⟩))] ?_
   refine sd (dlb 24 0 0 b1 (.slice y1_a Y.cars.length y1_c)) ?_
   refine sp 1 [(25, .int .i64 ((Y.tracks.getD (0) []).getD (k) 0))] ?_
   refine sd (diI 26 6 ((Y.tracks.getD (0) []).getD (k) 0) y1_r.addr) ?_
   refine sp 1 [(27, .pointer (some ⟨y1_b, y1_o + (((Y.tracks.getD (0) []).getD (k) 0 : Int).toNat) * 6 + 3, none⟩))] ?_
   refine sd (dl 28 (cars_get y1_r (((Y.tracks.getD (0) []).getD (k) 0 : Int).toNat) (by omega) 3 (by decide) (v := .int .i64 ((Y.cars.getD (((Y.tracks.getD (0) []).getD (k) 0 : Int).toNat) noCar).grp)) rfl)) ?_
   refine sp 1 [(6, .int .i64 ((Y.cars.getD (((Y.tracks.getD (0) []).getD (k) 0 : Int).toNat) noCar).grp))] ?_
   refine se ?_
   refine rq ?_
   refine run_cut (fun a w => Slots 72 [(1, .pointer (some ⟨b1, 0, none⟩)), (2, .slice none 0 0), (3, .slice bv_a vs.length bv_c), (4, .int .i64 (↑k)), (5, .int .i64 ((Y.tracks.getD (0) []).getD (k) 0)), (51, .bool ((cmp .gtr (↑k) (0)) && ((cmp .gtr ((Y.cars.getD (((Y.tracks.getD (0) []).getD (k) 0 : Int).toNat) noCar).grp) (0)) && (cmp .eql ((Y.cars.getD (((Y.tracks.getD (0) []).getD (k) 0 : Int).toNat) noCar).grp) ((Y.cars.getD (((Y.tracks.getD (0) []).getD ((↑k - 1 : Int).toNat) 0 : Int).toNat) noCar).grp)))))] a ∧ a.defers = [] ∧ St I ((b1, Obj.cells #[.slice y1_a Y.cars.length y1_c, .slice y2_a Y.room.length y2_c, .slice y3_a Y.tracks.length y3_c] 26 (0, 0)) :: (bM ++ (eM ++ F))) w) ?_ ?_
   ·
    refine rd0 21 ?_
    refine ox 3 [(31, .bool (cmp .gtr (↑k) (0)))] ?_
    refine ofp_split 31 (fun h2 => ?_) (fun h2 => ?_)
    ·
     have h2_b := h2
     have h2_b := gtr_t h2_b
     refine ox 4 [(35, .bool (cmp .gtr ((Y.cars.getD (((Y.tracks.getD (0) []).getD (k) 0 : Int).toNat) noCar).grp) (0)))] ?_
     refine ofp_split 35 (fun h3 => ?_) (fun h3 => ?_)
     ·
      have h3_b := h3
      have h3_b := gtr_t h3_b
      refine ox 2 [(37, .pointer (some ⟨b1, 0, none⟩)), (36, .int .i64 ((Y.cars.getD (((Y.tracks.getD (0) []).getD (k) 0 : Int).toNat) noCar).grp))] ?_
      refine ofp_det (dlb 38 0 0 b1 (.slice y1_a Y.cars.length y1_c)) ?_
      refine ox 1 [(39, .pointer (some ⟨b1, 2, none⟩))] ?_
      refine ofp_det (dlb 40 0 2 b1 (.slice y3_a Y.tracks.length y3_c)) ?_
      refine ofp_det (di 41 1 (0) y3_r.addr) ?_
      have r5_f := y3_w (0) (by omega)
      obtain ⟨r5_a, r5_c, r5_b, r5_o, r5_e, r5_l, r5_m, r5_r⟩ := id r5_f
      rw [r5_e] at r5_f
      refine ofp_det (det_eq (dl 42 (rows_get y3_r (0) (by omega))) r5_e) ?_
      refine ox 1 [(43, .int .i64 (↑k))] ?_
      refine ofp_det (dsb 44 (↑k) (1)) ?_
      refine ofp_det (diI 45 1 (↑k - 1) r5_r.addr) ?_
      refine ofp_det (dl 46 (ints_get r5_r ((↑k - 1 : Int).toNat) (by omega))) ?_
      have hc2 := ho.at ((↑k : Int) - 1).toNat (by omega)
      refine ofp_det (diI 47 6 ((Y.tracks.getD (0) []).getD ((↑k - 1 : Int).toNat) 0) y1_r.addr) ?_
      refine ox 1 [(48, .pointer (some ⟨y1_b, y1_o + (((Y.tracks.getD (0) []).getD ((↑k - 1 : Int).toNat) 0 : Int).toNat) * 6 + 3, none⟩))] ?_
      refine ofp_det (dl 49 (cars_get y1_r (((Y.tracks.getD (0) []).getD ((↑k - 1 : Int).toNat) 0 : Int).toNat) (by omega) 3 (by decide) (v := .int .i64 ((Y.cars.getD (((Y.tracks.getD (0) []).getD ((↑k - 1 : Int).toNat) 0 : Int).toNat) noCar).grp)) rfl)) ?_
      refine ofp_end0 ?_
      refine sp 2 [(51, .bool (cmp .eql ((Y.cars.getD (((Y.tracks.getD (0) []).getD (k) 0 : Int).toNat) noCar).grp) ((Y.cars.getD (((Y.tracks.getD (0) []).getD ((↑k - 1 : Int).toNat) 0 : Int).toNat) noCar).grp)))] ?_
      refine ee ?_
      refine pst_meet (fun a w hS hD hW => ⟨hS.sub (.cons 1 rfl (.cons 2 rfl (.cons 3 rfl (.cons 4 rfl (.cons 5 rfl (.consE 51 rfl (congrArg Value.bool (by simp only [h2, h3, Bool.true_and, Bool.false_and, Bool.and_true, Bool.and_false, Bool.true_or, Bool.false_or, Bool.or_true, Bool.or_false, cond_true, cond_false])) (.nil _))))))), hD, hW⟩)
     ·
      have h3_b := h3
      have h3_b := gtr_f h3_b
      refine ox 14 [(49, undef), (36, undef)] ?_
      refine ofp_end0 ?_
      refine sp 2 [(51, .bool (false))] ?_
      refine ee ?_
      refine pst_meet (fun a w hS hD hW => ⟨hS.sub (.cons 1 rfl (.cons 2 rfl (.cons 3 rfl (.cons 4 rfl (.cons 5 rfl (.consE 51 rfl (congrArg Value.bool (by simp only [h2, h3, Bool.true_and, Bool.false_and, Bool.and_true, Bool.and_false, Bool.true_or, Bool.false_or, Bool.or_true, Bool.or_false, cond_true, cond_false])) (.nil _))))))), hD, hW⟩)
    ·
     have h2_b := h2
     have h2_b := gtr_f h2_b
     refine ox 18 [(49, undef), (36, undef), (35, .bool (false))] ?_
     refine ofp_end0 ?_
     refine sp 2 [(51, .bool (false))] ?_
     refine ee ?_
     refine pst_meet (fun a w hS hD hW => ⟨hS.sub (.cons 1 rfl (.cons 2 rfl (.cons 3 rfl (.cons 4 rfl (.cons 5 rfl (.consE 51 rfl (congrArg Value.bool (by simp only [h2, Bool.true_and, Bool.false_and, Bool.and_true, Bool.and_false, Bool.true_or, Bool.false_or, Bool.or_true, Bool.or_false, cond_true, cond_false])) (.nil _))))))), hD, hW⟩)
   ·rintro a w ⟨hS, hD, hW⟩
    refine run_at hS hD hW ?_
    clear hS hD hW a w
    refine rc 51 rfl (fun h4 => ?_) (fun h4 => ?_)
    ·
     have h4_r := h4
     obtain ⟨h4_1, h4_2⟩ := and_t h4
     have h4_1 := gtr_t h4_1
     obtain ⟨h4_2_1, h4_2_2⟩ := and_t h4_2
     have h4_2_1 := gtr_t h4_2_1
     have h4_2_2 := eql_t h4_2_2
     have hcp : coupled Y.cars (Y.tracks.getD (0) []) ↑k = true := (coupled_raw (by omega)).trans (by have hh := h4_r; simp only [cmp_gtr, cmp_eql] at hh; exact hh)
     have hcq := coupled_pos hcp
     have hb2 := hbt.2.1 (by omega)
     have hel := hbt.2.2 _ (getD_mem (d := []) (xs := blocksTo Y.cars (Y.tracks.getD (0) []) k) (k := ((↑(vs.length)) - 1 : Int).toNat) (by omega))
     obtain ⟨eMs6, eR6, eo6, ep6, ek6⟩ := OwnEach.pull hea (((↑(vs.length)) - 1 : Int).toNat) (by omega)
     obtain ⟨ev6_a, ev6_c, ev6_e, ev6_l⟩ := eo6.shape
     rw [ev6_e] at eo6
     refine rn_mem (M' := ((eMs6 ++ (eR6 ++ (b1, Obj.cells #[.slice y1_a Y.cars.length y1_c, .slice y2_a Y.room.length y2_c, .slice y3_a Y.tracks.length y3_c] 26 (0, 0)) :: (bM ++ F))))) (fun w h => ?_) ?_
     ·have h2 := h.perm ((List.Perm.cons _ (List.perm_append_comm_assoc _ _ _)).trans (List.perm_middle.symm))
      have h3 := St.permL (A' := eMs6 ++ eR6) (A := eM) (by simpa only [List.append_assoc, List.append_nil] using ep6) (by simpa only [List.append_assoc] using h2)
      simpa only [List.append_assoc] using h3
     refine rn_mem (M' := ((b1, Obj.cells #[.slice y1_a Y.cars.length y1_c, .slice y2_a Y.room.length y2_c, .slice y3_a Y.tracks.length y3_c] 26 (0, 0)) :: (eMs6 ++ (eR6 ++ (bM ++ F))))) (fun w h => h.perm ((List.Perm.append_left _ List.perm_middle).trans List.perm_middle)) ?_
     refine rr ?_
     refine sp 3 [(54, .int .i64 (↑(vs.length))), (52, .slice bv_a vs.length bv_c)] ?_
     refine sd (dsb 55 (↑(vs.length)) (1)) ?_
     refine sp 3 [(58, .int .i64 (↑(vs.length))), (56, .slice bv_a vs.length bv_c)] ?_
     refine sd (dsb 59 (↑(vs.length)) (1)) ?_
     obtain ⟨ob7, orr8⟩ := bo.row undef
     refine sd (diI 60 1 ((↑(vs.length)) - 1) orr8.addr) ?_
     refine sd (det_eq (det_load (x := (.tmp 60)) (T := 22) (d := 61) (ty := 22) (gd := none) (by kernel_rfl) rfl (by kernel_rfl) rfl (orr8.get (((↑(vs.length)) - 1 : Int).toNat) (by omega) 0 (by decide) _ _ (fun x hx => by simp [hx]))) ev6_e) ?_
     refine sp 1 [(62, .int .i64 ((Y.tracks.getD (0) []).getD (k) 0))] ?_
     refine sS (sbs 63 3 1 #[.int .i64 ((Y.tracks.getD (0) []).getD (k) 0)] (fun b9 => ?_))
     refine sS (stp_append (d := 64) (x := (.tmp 61)) (y := (.tmp 63)) (T := 22) (T' := 22) (E := 3) (E' := 3) (sz := 1) (bs := 8) (z := .int .i64 (0)) (cell := intCell) (xs := (blocksTo Y.cars (Y.tracks.getD (0) []) k).getD (((↑(vs.length)) - 1 : Int).toNat) []) (ys := [((Y.tracks.getD (0) []).getD (k) 0 : Int)]) (Ms := eMs6) (ty := 22) (gd := none) (by kernel_rfl) rfl (by kernel_rfl) (by kernel_rfl) (by kernel_rfl) (by kernel_rfl) (by kernel_rfl) (by decide) (by kernel_rfl) rfl rfl (eo6) ((List.Perm.cons _ (List.perm_middle.symm)).trans (List.perm_middle.symm)) (one_intCell _) (src_atS 0 rfl rfl) (by first | omega | (simp only [List.length_cons, List.length_nil, List.length_append, List.length_take, List.length_drop]; omega)) (fun v11 Ms11 ho11 => ?_))
     refine seq_mem (M' := ((b1, Obj.cells #[.slice y1_a Y.cars.length y1_c, .slice y2_a Y.room.length y2_c, .slice y3_a Y.tracks.length y3_c] 26 (0, 0)) :: (Ms11 ++ (eR6 ++ (bM ++ F))))) (fun w h => (h.perm (List.perm_middle.trans (List.Perm.cons _ List.perm_middle))).sub (List.Sublist.cons _ (List.Sublist.refl _))) ?_
     obtain ⟨oa11, oc11, oe11, ol11⟩ := ho11.shape
     subst oe11
     show Seq _ _ _ _ _ _ ((64, .slice oa11 (((blocksTo Y.cars (Y.tracks.getD (0) []) k).getD (((↑(vs.length)) - 1 : Int).toNat) []) ++ ([((Y.tracks.getD (0) []).getD (k) 0 : Int)])).length oc11) :: _) _ _
     obtain ⟨ob12, orr13⟩ := bo.row undef
     refine sd (diI 65 1 ((↑(vs.length)) - 1) orr13.addr) ?_
     refine sS (stp_storeOwn (T := 22) (x := (.tmp 65)) (y := (.tmp 64)) (rc := fun i f => valCell ((vs).getD i undef) f) undef (((↑(vs.length)) - 1 : Int).toNat) 0 ((.slice oa11 (((blocksTo Y.cars (Y.tracks.getD (0) []) k).getD (((↑(vs.length)) - 1 : Int).toNat) []) ++ ([((Y.tracks.getD (0) []).getD (k) 0 : Int)])).length oc11 : Value)) (ty := 0) (gd := none) (by kernel_rfl) rfl bo orr13 (by omega) (by decide) rfl rfl (by kernel_rfl) rfl rfl (by intro f hf; match f, hf with | 0, _ => rfl) ((List.Perm.cons _ ((List.Perm.append_left _ (List.perm_append_comm_assoc _ _ _)).trans (List.perm_append_comm_assoc _ _ _))).trans (List.perm_middle.symm)) (fun Ms14 ho14 => ?_))
     refine pm (M' := ((b1, Obj.cells #[.slice y1_a Y.cars.length y1_c, .slice y2_a Y.room.length y2_c, .slice y3_a Y.tracks.length y3_c] 26 (0, 0)) :: (Ms14 ++ (Ms11 ++ (eR6 ++ F))))) List.perm_middle ?_
     obtain ⟨eM14, hea14, ep14⟩ := ek6 _ _ _ ho11
     refine seq_mem (I' := I) (M' := ((eM14 ++ (b1, Obj.cells #[.slice y1_a Y.cars.length y1_c, .slice y2_a Y.room.length y2_c, .slice y3_a Y.tracks.length y3_c] 26 (0, 0)) :: (Ms14 ++ F)))) (fun w h => ?_) ?_
     ·have h2 := h.perm (((List.Perm.cons _ (List.perm_append_comm_assoc _ _ _)).trans (List.perm_middle.symm)).trans (List.Perm.append_left _ ((List.Perm.cons _ (List.perm_append_comm_assoc _ _ _)).trans (List.perm_middle.symm))))
      simp only [← List.append_assoc] at h2
      have h3 := St.permL (A' := eM14) (A := Ms11 ++ eR6) (by simpa only [List.append_assoc, List.append_nil] using ep14.symm) (by simpa only [List.append_assoc] using h2)
      simpa only [List.append_assoc] using h3
     refine pm (M' := ((b1, Obj.cells #[.slice y1_a Y.cars.length y1_c, .slice y2_a Y.room.length y2_c, .slice y3_a Y.tracks.length y3_c] 26 (0, 0)) :: (eM14 ++ (Ms14 ++ F)))) List.perm_middle ?_
     refine ee ?_
     refine pst_normal_block ?_
     refine pst_next ?_
     refine rr ?_
     refine sp 1 [(14, .int .i64 (↑k))] ?_
     refine sd (da 15 (↑k) (1)) ?_
     refine sp 1 [(4, .int .i64 (↑k + 1))] ?_
     refine ee ?_
     refine pst_back ((Y.tracks.getD (0) []).length - (k+1)) (by omega) ?_
     intro a w hS hD hW
     exact ⟨k+1, (.slice bv_a vs.length bv_c), vs.set (((↑(vs.length)) - 1 : Int).toNat) ((.slice oa11 (((blocksTo Y.cars (Y.tracks.getD (0) []) k).getD (((↑(vs.length)) - 1 : Int).toNat) []) ++ ([((Y.tracks.getD (0) []).getD (k) 0 : Int)])).length oc11 : Value)), Ms14, eM14, by omega, ho14, (by rw [blocksTo_yesI (i := ((↑(vs.length)) - 1 : Int).toNat) hcp (by omega)]; exact hea14), hS.sub (.consE 3 rfl rfl (.consE 4 rfl rfl (.cons 1 rfl (.cons 2 rfl (.nil _))))), hD, hW.perm (List.Perm.cons _ (List.perm_append_comm_assoc _ _ _)), rfl⟩
    ·
     have h4_r := h4
     have hcp : coupled Y.cars (Y.tracks.getD (0) []) ↑k = false := (coupled_raw (by omega)).trans (by have hh := h4_r; simp only [cmp_gtr, cmp_eql] at hh; exact hh)
     refine rr ?_
     refine sp 2 [(67, .int .i64 ((Y.tracks.getD (0) []).getD (k) 0)), (66, .slice bv_a vs.length bv_c)] ?_
     refine sS (sbs 68 3 1 #[.int .i64 ((Y.tracks.getD (0) []).getD (k) 0)] (fun b15 => ?_))
     refine sS (sbs 69 22 1 #[.slice (some ⟨b15, 0, none⟩) 1 1] (fun b17 => ?_))
     refine pm (M' := ((b17, Obj.cells #[.slice (some ⟨b15, 0, none⟩) 1 1] 22 (0, 0)) :: (b1, Obj.cells #[.slice y1_a Y.cars.length y1_c, .slice y2_a Y.room.length y2_c, .slice y3_a Y.tracks.length y3_c] 26 (0, 0)) :: ([(b15, Obj.cells #[.int .i64 ((Y.tracks.getD (0) []).getD (k) 0)] 3 (0, 0))] ++ (bM ++ (eM ++ F))))) (List.Perm.cons _ (List.Perm.swap _ _ _)) ?_
     have ho19 : Own 3 1 intCell (.slice (some ⟨b15, 0, none⟩) 1 1) ([((Y.tracks.getD (0) []).getD (k) 0 : Int)] : List Int) [(b15, Obj.cells #[.int .i64 ((Y.tracks.getD (0) []).getD (k) 0)] 3 (0, 0))] := Own.lit rfl rfl
     refine sS (stp_append (d := 70) (x := (.tmp 66)) (y := (.tmp 69)) (T := 24) (T' := 24) (E := 22) (E' := 22) (sz := 1) (bs := 24) (z := .slice none 0 0) (cell := valCell) (xs := vs) (ys := [(.slice (some ⟨b15, 0, none⟩) 1 1 : Value)]) (Ms := bM) (ty := 24) (gd := none) (by kernel_rfl) rfl (by kernel_rfl) (by kernel_rfl) (by kernel_rfl) (by kernel_rfl) (by kernel_rfl) (by decide) (by kernel_rfl) rfl rfl (bo) ((List.Perm.cons _ ((List.Perm.cons _ (List.perm_append_comm_assoc _ _ _)).trans (List.perm_middle.symm))).trans (List.perm_middle.symm)) (one_valCell rfl) (src_atS 0 rfl rfl) (by first | omega | (simp only [List.length_cons, List.length_nil, List.length_append, List.length_take, List.length_drop]; omega)) (fun v20 Ms20 ho20 => ?_))
     refine seq_mem (M' := ((b1, Obj.cells #[.slice y1_a Y.cars.length y1_c, .slice y2_a Y.room.length y2_c, .slice y3_a Y.tracks.length y3_c] 26 (0, 0)) :: (Ms20 ++ ([(b15, Obj.cells #[.int .i64 ((Y.tracks.getD (0) []).getD (k) 0)] 3 (0, 0))] ++ (eM ++ F))))) (fun w h => (h.perm (List.perm_middle.trans (List.Perm.cons _ List.perm_middle))).sub (List.Sublist.cons _ (List.Sublist.refl _))) ?_
     obtain ⟨oa20, oc20, oe20, ol20⟩ := ho20.shape
     subst oe20
     show Seq _ _ _ _ _ _ ((70, .slice oa20 (vs ++ ([(.slice (some ⟨b15, 0, none⟩) 1 1 : Value)])).length oc20) :: _) _ _
     have hea20 := OwnEach.snoc hea ho19
     obtain ⟨eM20, heM20_d⟩ : ∃ X, X = eM ++ [(b15, Obj.cells #[.int .i64 ((Y.tracks.getD (0) []).getD (k) 0)] 3 (0, 0))] := ⟨_, rfl⟩; rw [← heM20_d] at hea20
     refine seq_mem (I' := I) (M' := ((eM20 ++ (b1, Obj.cells #[.slice y1_a Y.cars.length y1_c, .slice y2_a Y.room.length y2_c, .slice y3_a Y.tracks.length y3_c] 26 (0, 0)) :: (Ms20 ++ F)))) (fun w h => ?_) ?_
     ·have h2 := h.perm (((List.Perm.cons _ ((List.Perm.append_left _ (List.perm_append_comm_assoc _ _ _)).trans (List.perm_append_comm_assoc _ _ _))).trans (List.perm_middle.symm)).trans (List.Perm.append_left _ ((List.Perm.cons _ (List.perm_append_comm_assoc _ _ _)).trans (List.perm_middle.symm))))
      simp only [← List.append_assoc] at h2
      have h3 := St.permL (A' := eM20) (A := eM ++ [(b15, Obj.cells #[.int .i64 ((Y.tracks.getD (0) []).getD (k) 0)] 3 (0, 0))]) (by simpa only [List.append_assoc, List.append_nil] using (heM20_d ▸ List.Perm.refl _)) (by simpa only [List.append_assoc] using h2)
      simpa only [List.append_assoc] using h3
     refine pm (M' := ((b1, Obj.cells #[.slice y1_a Y.cars.length y1_c, .slice y2_a Y.room.length y2_c, .slice y3_a Y.tracks.length y3_c] 26 (0, 0)) :: (eM20 ++ (Ms20 ++ F)))) List.perm_middle ?_
     refine sp 1 [(3, .slice oa20 (vs ++ ([(.slice (some ⟨b15, 0, none⟩) 1 1 : Value)])).length oc20)] ?_
     refine ee ?_
     refine pst_normal_block ?_
     refine pst_next ?_
     refine rr ?_
     refine sp 1 [(14, .int .i64 (↑k))] ?_
     refine sd (da 15 (↑k) (1)) ?_
     refine sp 1 [(4, .int .i64 (↑k + 1))] ?_
     refine ee ?_
     refine pst_back ((Y.tracks.getD (0) []).length - (k+1)) (by omega) ?_
     intro a w hS hD hW
     exact ⟨k+1, (.slice oa20 (vs ++ ([(.slice (some ⟨b15, 0, none⟩) 1 1 : Value)])).length oc20), vs ++ ([(.slice (some ⟨b15, 0, none⟩) 1 1 : Value)]), Ms20, eM20, by omega, ho20, (by rw [blocksTo_no hcp]; exact hea20), hS.sub (.consE 3 rfl rfl (.consE 4 rfl rfl (.cons 1 rfl (.cons 2 rfl (.nil _))))), hD, hW.perm (List.Perm.cons _ (List.perm_append_comm_assoc _ _ _)), rfl⟩
  ·
   have h1_r := h1
   have h1 := lss_f h1
   refine rexit 0 ?_
   refine (pst_exit_pass (pst_exit_pass (pst_exit_block ?_)))
   refine pst_next ?_
   refine rq ?_
   have hkk : k = (Y.tracks.getD (0) []).length := by omega
   have hbt2 := (blocksTo_len Y.cars (Y.tracks.getD (0) []) k).2.2
   refine rn_freezeEach (B := ((b1, Obj.cells #[.slice y1_a Y.cars.length y1_c, .slice y2_a Y.room.length y2_c, .slice y3_a Y.tracks.length y3_c] 26 (0, 0)) :: (bM ++ F))) hea (by intro xs hx; have := hbt2 xs hx; omega) ((List.Perm.cons _ (List.perm_append_comm_assoc _ _ _)).trans (List.perm_middle.symm)) (List.Perm.refl _) (fun I21 hle22 orw23 => ?_)
   have orw23_len := orw23.1
   try simp only [List.length_set, List.length_append, List.length_cons, List.length_nil, List.length_take] at orw23_len
   refine rr ?_
   refine sp 2 [(2, .slice bv_a vs.length bv_c)] ?_
   refine se ?_
   refine rret ?_
   refine ppm (M' := ((bM ++ (b1, Obj.cells #[.slice y1_a Y.cars.length y1_c, .slice y2_a Y.room.length y2_c, .slice y3_a Y.tracks.length y3_c] 26 (0, 0)) :: F))) (List.perm_middle.symm) ?_
   refine pst_ret1 (t := 2) (bM) (by kernel_rfl) rfl (List.Sublist.append_left (List.Sublist.cons _ (List.Sublist.refl _)) _) hle22 ?_
   exact ⟨_, _, _, rfl, rfl, bo, ((show blocksTo Y.cars (Y.tracks.getD (0) []) k = blocksOf Y.cars (Y.tracks.getD (0) []) from by rw [hkk]; rfl) ▸ orw23)⟩

end Go.Proofs.YtcaocbhbofejnaaDoor
namespace Go.Sh
open Go Go.Sl
set_option maxRecDepth 100000
theorem ex_warm : warmE exYard = ([0, 2, 3, 1], 1, 0) := by decide +kernel
theorem ex_reach : reachE exYard 3 = (4, 0) := by decide +kernel
theorem ex_draw : (play exYard [⟨0, 1, 2⟩]).2 = 0 ∧ (play exYard [⟨0, 1, 2⟩]).1.tracks = [[0, 1], [2, 3], []] := by decide +kernel
theorem ex_fewest : (fewestE exYard [0, 2, 3, 1]).1 = exFour ∧ (fewestE exYard [0, 2, 3, 1]).2 = 0 := by decide +kernel
theorem ex_lacks : (lacksE exYard [1, 2, 3, 0]).1 = [1, 2] ∧ (lacksE exYard [1, 2, 3, 0]).2 = 0 := by decide +kernel
end Go.Sh
namespace Go.Proofs.YtcaocbhbofejnaaDoor
open Go Go.Sl Go.Sh
set_option maxRecDepth 100000
noncomputable def c_shunting (p : List Nat) : Code := sub (bodyOf Tryd.f16) p
set_option maxHeartbeats 2000000 in
theorem shunting_ct (I : Imm) (hG : Glob I) : Ct Tryd.prog 16 #[] I ([]) (fun v I' M' => v = .bool (true) ∧ M' = []) := by
 refine fn_of_run (fn := Tryd.f16) (args := []) (N := 90) Tryd.func16 rfl (by kernel_rfl) (Nat.le_of_ble_eq_true rfl) (fun F => ?_)
 show Run _ _ (c_shunting []) _ _ [] _ _
 refine rnm ?_
 have hx1 : exYard.tracks.length = 3 := rfl
 have hx2 : exYard.cars.length = 4 := rfl
 have hx3 : exYard.room.length = 3 := rfl
 refine rqr ?_
 refine sp 1 [(0, .bool (false))] ?_
 refine sn ?_
 have hct19 := yard_ct I
 refine sS (sc (some 13) (F := (F)) (hct19 :) (.refl _) (fun rv17 I1 rm18 hle2 hp3 => ?_))
 obtain ⟨u_06, Ms_07, u_18, Ms_19, u_210, ws_211, Ms_212, hv4, hm5, qh13, qh14, qh15, qr16⟩ := hp3
 rw [hv4, hm5]; clear hv4 hm5
 replace hG := hG.mono hle2
 obtain ⟨u_06_a, u_06_c, u_06_e, u_06_l⟩ := qh13.shape
 subst u_06_e
 obtain ⟨u_18_a, u_18_c, u_18_e, u_18_l⟩ := qh14.shape
 subst u_18_e
 obtain ⟨u_210_a, u_210_c, u_210_e, u_210_l⟩ := qh15.shape
 subst u_210_e
 have qr16_len := qr16.1
 try simp only [List.length_set, List.length_append, List.length_cons, List.length_nil, List.length_take] at qr16_len
 refine seq_mem (M' := ((Ms_07 ++ (Ms_19 ++ (Ms_212 ++ F))))) (fun w h => by simpa only [List.append_assoc, List.cons_append, List.nil_append] using h) ?_
 refine nm ?_
 show Seq _ _ _ _ _ _ ((13, .agg #[.slice u_06_a exYard.cars.length u_06_c, .slice u_18_a exYard.room.length u_18_c, .slice u_210_a ws_211.length u_210_c]) :: _) _ _
 have hct27 := drawl_ct I1 (0) (1) (2)
 refine sS (sc (some 14) (F := ((Ms_07 ++ (Ms_19 ++ (Ms_212 ++ F))))) (hct27 :) (.refl _) (fun rv25 I20 rm26 hle21 hp22 => ?_))
 obtain ⟨hv23, hm24⟩ := hp22
 rw [hv23, hm24]; clear hv23 hm24
 replace hG := hG.mono hle21
 replace qr16 := qr16.mono hle21
 refine nm ?_
 show Seq _ _ _ _ _ _ ((14, .agg #[.int .i64 (((⟨0, 1, 2⟩ : Shift)).frm), .int .i64 (((⟨0, 1, 2⟩ : Shift)).to), .int .i64 (((⟨0, 1, 2⟩ : Shift)).many)]) :: _) _ _
 refine sfz noCar qh13 (.refl _) (fun I28 hle29 fz30_f => ?_)
 replace hG := hG.mono hle29
 replace qr16 := qr16.mono hle29
 obtain ⟨fz30_a, fz30_c, fz30_b, fz30_o, fz30_e, fz30_l, fz30_m, fz30_r⟩ := id fz30_f
 cases fz30_e
 refine sfz 0 qh14 (.refl _) (fun I31 hle32 fz33_f => ?_)
 replace hG := hG.mono hle32
 replace qr16 := qr16.mono hle32
 replace fz30_f := fz30_f.mono hle32
 obtain ⟨fz33_a, fz33_c, fz33_b, fz33_o, fz33_e, fz33_l, fz33_m, fz33_r⟩ := id fz33_f
 cases fz33_e
 refine sfz undef qh15 (.refl _) (fun I34 hle35 fz36_f => ?_)
 replace hG := hG.mono hle35
 replace qr16 := qr16.mono hle35
 replace fz30_f := fz30_f.mono hle35
 replace fz33_f := fz33_f.mono hle35
 obtain ⟨fz36_a, fz36_c, fz36_b, fz36_o, fz36_e, fz36_l, fz36_m, fz36_r⟩ := id fz36_f
 cases fz36_e
 have fr37_f := qr16.isRows fz36_f
 have fr37_len := qr16.1
 obtain ⟨fr37_a, fr37_c, fr37_b, fr37_o, fr37_vs, fr37_e, fr37_l, fr37_m, fr37_r, fr37_w⟩ := id fr37_f
 injection fr37_e with fr37_e1 fr37_e2 fr37_e3; subst fr37_e1; subst fr37_e3
 have hct47 := Draw_ct I34 _ (exYard) ((⟨0, 1, 2⟩ : Shift)) (mkYard fz30_f fz33_f fr37_f) (by first | exact hG | exact hG.mono hI)
 refine sS (sc (some 15) (F := (F)) (hct47 :) (.refl _) (fun rv45 I38 rm46 hle39 hp40 => ?_))
 obtain ⟨u043, hv41, hm42, qf44⟩ := hp40
 rw [hv41, hm42]; clear hv41 hm42
 replace hG := hG.mono hle39
 have u043_f := qf44
 obtain ⟨u0431, u0432, u0433, u043_e, u0431_f, u0432_f, u0433_f⟩ := id u043_f
 subst u043_e
 obtain ⟨u0431_a, u0431_c, u0431_b, u0431_o, u0431_e, u0431_l, u0431_m, u0431_r⟩ := id u0431_f
 subst u0431_e
 obtain ⟨u0432_a, u0432_c, u0432_b, u0432_o, u0432_e, u0432_l, u0432_m, u0432_r⟩ := id u0432_f
 subst u0432_e
 obtain ⟨u0433_a, u0433_c, u0433_b, u0433_o, u0433_vs, u0433_e, u0433_l, u0433_m, u0433_r, u0433_w⟩ := id u0433_f
 subst u0433_e
 refine nm ?_
 show Seq _ _ _ _ _ _ ((15, .tuple #[.agg #[.slice u0431_a (((play exYard [((⟨0, 1, 2⟩ : Shift))]).1).cars).length u0431_c, .slice u0432_a (((play exYard [((⟨0, 1, 2⟩ : Shift))]).1).room).length u0432_c, .slice u0433_a (((play exYard [((⟨0, 1, 2⟩ : Shift))]).1).tracks).length u0433_c], .int .i64 (((play exYard [((⟨0, 1, 2⟩ : Shift))]).2))]) :: _) _ _
 refine sp 3 [(17, .int .i64 (((play exYard [((⟨0, 1, 2⟩ : Shift))]).2))), (16, .agg #[.slice u0431_a (((play exYard [((⟨0, 1, 2⟩ : Shift))]).1).cars).length u0431_c, .slice u0432_a (((play exYard [((⟨0, 1, 2⟩ : Shift))]).1).room).length u0432_c, .slice u0433_a (((play exYard [((⟨0, 1, 2⟩ : Shift))]).1).tracks).length u0433_c])] ?_
 refine sS (sal 1 26 #[.slice none 0 0, .slice none 0 0, .slice none 0 0] (fun b48 => ?_))
 refine sS (ss 0 0 b48 [.slice u0431_a (((play exYard [((⟨0, 1, 2⟩ : Shift))]).1).cars).length u0431_c, .slice u0432_a (((play exYard [((⟨0, 1, 2⟩ : Shift))]).1).room).length u0432_c, .slice u0433_a (((play exYard [((⟨0, 1, 2⟩ : Shift))]).1).tracks).length u0433_c] [.slice u0431_a (((play exYard [((⟨0, 1, 2⟩ : Shift))]).1).cars).length u0431_c, .slice u0432_a (((play exYard [((⟨0, 1, 2⟩ : Shift))]).1).room).length u0432_c, .slice u0433_a (((play exYard [((⟨0, 1, 2⟩ : Shift))]).1).tracks).length u0433_c] (_ :: _) (cs := [_, _, _]) rfl rfl ?_)
 refine sp 1 [(2, .int .i64 (((play exYard [((⟨0, 1, 2⟩ : Shift))]).2)))] ?_
 refine seq_re 2 rfl (show (.int .i64 (((play exYard [((⟨0, 1, 2⟩ : Shift))]).2)) : Value) = .int .i64 (0) from congrArg (Value.int .i64) (ex_draw.1)) ?_
 refine sn ?_
 have hct68 := yard_ct I38
 refine sS (sc (some 19) (F := ((b48, Obj.cells #[.slice u0431_a (((play exYard [((⟨0, 1, 2⟩ : Shift))]).1).cars).length u0431_c, .slice u0432_a (((play exYard [((⟨0, 1, 2⟩ : Shift))]).1).room).length u0432_c, .slice u0433_a (((play exYard [((⟨0, 1, 2⟩ : Shift))]).1).tracks).length u0433_c] 26 (0, 0)) :: F)) (hct68 :) (.refl _) (fun rv66 I50 rm67 hle51 hp52 => ?_))
 obtain ⟨u_055, Ms_056, u_157, Ms_158, u_259, ws_260, Ms_261, hv53, hm54, qh62, qh63, qh64, qr65⟩ := hp52
 rw [hv53, hm54]; clear hv53 hm54
 replace hG := hG.mono hle51
 replace u0433_f := u0433_f.mono hle51
 obtain ⟨u_055_a, u_055_c, u_055_e, u_055_l⟩ := qh62.shape
 subst u_055_e
 obtain ⟨u_157_a, u_157_c, u_157_e, u_157_l⟩ := qh63.shape
 subst u_157_e
 obtain ⟨u_259_a, u_259_c, u_259_e, u_259_l⟩ := qh64.shape
 subst u_259_e
 have qr65_len := qr65.1
 try simp only [List.length_set, List.length_append, List.length_cons, List.length_nil, List.length_take] at qr65_len
 refine seq_mem (M' := ((Ms_056 ++ (Ms_158 ++ (Ms_261 ++ (b48, Obj.cells #[.slice u0431_a (((play exYard [((⟨0, 1, 2⟩ : Shift))]).1).cars).length u0431_c, .slice u0432_a (((play exYard [((⟨0, 1, 2⟩ : Shift))]).1).room).length u0432_c, .slice u0433_a (((play exYard [((⟨0, 1, 2⟩ : Shift))]).1).tracks).length u0433_c] 26 (0, 0)) :: F))))) (fun w h => by simpa only [List.append_assoc, List.cons_append, List.nil_append] using h) ?_
 refine pm (M' := ((b48, Obj.cells #[.slice u0431_a (((play exYard [((⟨0, 1, 2⟩ : Shift))]).1).cars).length u0431_c, .slice u0432_a (((play exYard [((⟨0, 1, 2⟩ : Shift))]).1).room).length u0432_c, .slice u0433_a (((play exYard [((⟨0, 1, 2⟩ : Shift))]).1).tracks).length u0433_c] 26 (0, 0)) :: (Ms_056 ++ (Ms_158 ++ (Ms_261 ++ F))))) ((List.Perm.append_left _ ((List.Perm.append_left _ List.perm_middle).trans List.perm_middle)).trans List.perm_middle) ?_
 show Seq _ _ _ _ _ _ ((19, .agg #[.slice u_055_a exYard.cars.length u_055_c, .slice u_157_a exYard.room.length u_157_c, .slice u_259_a ws_260.length u_259_c]) :: _) _ _
 refine sS (sbs 20 3 4 #[.int .i64 (0), .int .i64 (2), .int .i64 (3), .int .i64 (1)] (fun b69 => ?_))
 refine sfz (A := ((b69, Obj.cells #[.int .i64 (0), .int .i64 (2), .int .i64 (3), .int .i64 (1)] 3 (0, 0)) :: (b48, Obj.cells #[.slice u0431_a (((play exYard [((⟨0, 1, 2⟩ : Shift))]).1).cars).length u0431_c, .slice u0432_a (((play exYard [((⟨0, 1, 2⟩ : Shift))]).1).room).length u0432_c, .slice u0433_a (((play exYard [((⟨0, 1, 2⟩ : Shift))]).1).tracks).length u0433_c] 26 (0, 0)) :: (Ms_158 ++ (Ms_261 ++ F)))) noCar qh62 ((List.Perm.cons _ (List.perm_middle.symm)).trans (List.perm_middle.symm)) (fun I71 hle72 fz73_f => ?_)
 replace hG := hG.mono hle72
 replace u0433_f := u0433_f.mono hle72
 replace qr65 := qr65.mono hle72
 obtain ⟨fz73_a, fz73_c, fz73_b, fz73_o, fz73_e, fz73_l, fz73_m, fz73_r⟩ := id fz73_f
 cases fz73_e
 refine sfz (A := ((b69, Obj.cells #[.int .i64 (0), .int .i64 (2), .int .i64 (3), .int .i64 (1)] 3 (0, 0)) :: (b48, Obj.cells #[.slice u0431_a (((play exYard [((⟨0, 1, 2⟩ : Shift))]).1).cars).length u0431_c, .slice u0432_a (((play exYard [((⟨0, 1, 2⟩ : Shift))]).1).room).length u0432_c, .slice u0433_a (((play exYard [((⟨0, 1, 2⟩ : Shift))]).1).tracks).length u0433_c] 26 (0, 0)) :: (Ms_261 ++ F))) 0 qh63 ((List.Perm.cons _ (List.perm_middle.symm)).trans (List.perm_middle.symm)) (fun I74 hle75 fz76_f => ?_)
 replace hG := hG.mono hle75
 replace u0433_f := u0433_f.mono hle75
 replace qr65 := qr65.mono hle75
 replace fz73_f := fz73_f.mono hle75
 obtain ⟨fz76_a, fz76_c, fz76_b, fz76_o, fz76_e, fz76_l, fz76_m, fz76_r⟩ := id fz76_f
 cases fz76_e
 refine sfz (A := ((b69, Obj.cells #[.int .i64 (0), .int .i64 (2), .int .i64 (3), .int .i64 (1)] 3 (0, 0)) :: (b48, Obj.cells #[.slice u0431_a (((play exYard [((⟨0, 1, 2⟩ : Shift))]).1).cars).length u0431_c, .slice u0432_a (((play exYard [((⟨0, 1, 2⟩ : Shift))]).1).room).length u0432_c, .slice u0433_a (((play exYard [((⟨0, 1, 2⟩ : Shift))]).1).tracks).length u0433_c] 26 (0, 0)) :: F)) undef qh64 ((List.Perm.cons _ (List.perm_middle.symm)).trans (List.perm_middle.symm)) (fun I77 hle78 fz79_f => ?_)
 replace hG := hG.mono hle78
 replace u0433_f := u0433_f.mono hle78
 replace qr65 := qr65.mono hle78
 replace fz73_f := fz73_f.mono hle78
 replace fz76_f := fz76_f.mono hle78
 obtain ⟨fz79_a, fz79_c, fz79_b, fz79_o, fz79_e, fz79_l, fz79_m, fz79_r⟩ := id fz79_f
 cases fz79_e
 have fr80_f := qr65.isRows fz79_f
 have fr80_len := qr65.1
 obtain ⟨fr80_a, fr80_c, fr80_b, fr80_o, fr80_vs, fr80_e, fr80_l, fr80_m, fr80_r, fr80_w⟩ := id fr80_f
 injection fr80_e with fr80_e1 fr80_e2 fr80_e3; subst fr80_e1; subst fr80_e3
 refine pm (M' := ((b48, Obj.cells #[.slice u0431_a (((play exYard [((⟨0, 1, 2⟩ : Shift))]).1).cars).length u0431_c, .slice u0432_a (((play exYard [((⟨0, 1, 2⟩ : Shift))]).1).room).length u0432_c, .slice u0433_a (((play exYard [((⟨0, 1, 2⟩ : Shift))]).1).tracks).length u0433_c] 26 (0, 0)) :: ([(b69, Obj.cells #[.int .i64 (0), .int .i64 (2), .int .i64 (3), .int .i64 (1)] 3 (0, 0))] ++ F))) (List.Perm.swap _ _ _) ?_
 have ho81 : Own 3 1 intCell (.slice (some ⟨b69, 0, none⟩) 4 4) ([(0 : Int), (2 : Int), (3 : Int), (1 : Int)] : List Int) [(b69, Obj.cells #[.int .i64 (0), .int .i64 (2), .int .i64 (3), .int .i64 (1)] 3 (0, 0))] := Own.lit rfl rfl
 refine sfz (A := ((b48, Obj.cells #[.slice u0431_a (((play exYard [((⟨0, 1, 2⟩ : Shift))]).1).cars).length u0431_c, .slice u0432_a (((play exYard [((⟨0, 1, 2⟩ : Shift))]).1).room).length u0432_c, .slice u0433_a (((play exYard [((⟨0, 1, 2⟩ : Shift))]).1).tracks).length u0433_c] 26 (0, 0)) :: F)) 0 ho81 (List.perm_middle.symm) (fun I82 hle83 fz84_f => ?_)
 replace hG := hG.mono hle83
 replace u0433_f := u0433_f.mono hle83
 replace fz73_f := fz73_f.mono hle83
 replace fz76_f := fz76_f.mono hle83
 replace fr80_f := fr80_f.mono hle83
 obtain ⟨fz84_a, fz84_c, fz84_b, fz84_o, fz84_e, fz84_l, fz84_m, fz84_r⟩ := id fz84_f
 cases fz84_e
 have hct95 := Fewest_ct I82 _ (exYard) _ _ (mkYard fz73_f fz76_f fr80_f) fz84_f (by first | exact hG | exact hG.mono hI)
 refine sS (sc (some 21) (F := ((b48, Obj.cells #[.slice u0431_a (((play exYard [((⟨0, 1, 2⟩ : Shift))]).1).cars).length u0431_c, .slice u0432_a (((play exYard [((⟨0, 1, 2⟩ : Shift))]).1).room).length u0432_c, .slice u0433_a (((play exYard [((⟨0, 1, 2⟩ : Shift))]).1).tracks).length u0433_c] 26 (0, 0)) :: F)) (hct95 :) (.refl _) (fun rv93 I85 rm94 hle86 hp87 => ?_))
 obtain ⟨u090, Ms091, hv88, hm89, qh92⟩ := hp87
 rw [hv88, hm89]; clear hv88 hm89
 replace hG := hG.mono hle86
 replace u0433_f := u0433_f.mono hle86
 obtain ⟨u090_a, u090_c, u090_e, u090_l⟩ := qh92.shape
 subst u090_e
 refine pm (M' := ((b48, Obj.cells #[.slice u0431_a (((play exYard [((⟨0, 1, 2⟩ : Shift))]).1).cars).length u0431_c, .slice u0432_a (((play exYard [((⟨0, 1, 2⟩ : Shift))]).1).room).length u0432_c, .slice u0433_a (((play exYard [((⟨0, 1, 2⟩ : Shift))]).1).tracks).length u0433_c] 26 (0, 0)) :: (Ms091 ++ F))) List.perm_middle ?_
 show Seq _ _ _ _ _ _ ((21, .tuple #[.slice u090_a ((fewestE exYard (([(0 : Int), (2 : Int), (3 : Int), (1 : Int)] : List Int))).1).length u090_c, .int .i64 (((fewestE exYard (([(0 : Int), (2 : Int), (3 : Int), (1 : Int)] : List Int))).2))]) :: _) _ _
 refine sp 5 [(4, .int .i64 (((fewestE exYard (([(0 : Int), (2 : Int), (3 : Int), (1 : Int)] : List Int))).2))), (3, .slice u090_a ((fewestE exYard (([(0 : Int), (2 : Int), (3 : Int), (1 : Int)] : List Int))).1).length u090_c)] ?_
 refine seq_re 4 rfl (show (.int .i64 (((fewestE exYard (([(0 : Int), (2 : Int), (3 : Int), (1 : Int)] : List Int))).2)) : Value) = .int .i64 (0) from congrArg (Value.int .i64) (ex_fewest.2)) ?_
 refine sn ?_
 have hct114 := yard_ct I85
 refine sS (sc (some 25) (F := ((b48, Obj.cells #[.slice u0431_a (((play exYard [((⟨0, 1, 2⟩ : Shift))]).1).cars).length u0431_c, .slice u0432_a (((play exYard [((⟨0, 1, 2⟩ : Shift))]).1).room).length u0432_c, .slice u0433_a (((play exYard [((⟨0, 1, 2⟩ : Shift))]).1).tracks).length u0433_c] 26 (0, 0)) :: (Ms091 ++ F))) (hct114 :) (.refl _) (fun rv112 I96 rm113 hle97 hp98 => ?_))
 obtain ⟨u_0101, Ms_0102, u_1103, Ms_1104, u_2105, ws_2106, Ms_2107, hv99, hm100, qh108, qh109, qh110, qr111⟩ := hp98
 rw [hv99, hm100]; clear hv99 hm100
 replace hG := hG.mono hle97
 replace u0433_f := u0433_f.mono hle97
 obtain ⟨u_0101_a, u_0101_c, u_0101_e, u_0101_l⟩ := qh108.shape
 subst u_0101_e
 obtain ⟨u_1103_a, u_1103_c, u_1103_e, u_1103_l⟩ := qh109.shape
 subst u_1103_e
 obtain ⟨u_2105_a, u_2105_c, u_2105_e, u_2105_l⟩ := qh110.shape
 subst u_2105_e
 have qr111_len := qr111.1
 try simp only [List.length_set, List.length_append, List.length_cons, List.length_nil, List.length_take] at qr111_len
 refine seq_mem (M' := ((Ms_0102 ++ (Ms_1104 ++ (Ms_2107 ++ (b48, Obj.cells #[.slice u0431_a (((play exYard [((⟨0, 1, 2⟩ : Shift))]).1).cars).length u0431_c, .slice u0432_a (((play exYard [((⟨0, 1, 2⟩ : Shift))]).1).room).length u0432_c, .slice u0433_a (((play exYard [((⟨0, 1, 2⟩ : Shift))]).1).tracks).length u0433_c] 26 (0, 0)) :: (Ms091 ++ F)))))) (fun w h => by simpa only [List.append_assoc, List.cons_append, List.nil_append] using h) ?_
 refine pm (M' := ((b48, Obj.cells #[.slice u0431_a (((play exYard [((⟨0, 1, 2⟩ : Shift))]).1).cars).length u0431_c, .slice u0432_a (((play exYard [((⟨0, 1, 2⟩ : Shift))]).1).room).length u0432_c, .slice u0433_a (((play exYard [((⟨0, 1, 2⟩ : Shift))]).1).tracks).length u0433_c] 26 (0, 0)) :: (Ms_0102 ++ (Ms_1104 ++ (Ms_2107 ++ (Ms091 ++ F)))))) ((List.Perm.append_left _ ((List.Perm.append_left _ List.perm_middle).trans List.perm_middle)).trans List.perm_middle) ?_
 show Seq _ _ _ _ _ _ ((25, .agg #[.slice u_0101_a exYard.cars.length u_0101_c, .slice u_1103_a exYard.room.length u_1103_c, .slice u_2105_a ws_2106.length u_2105_c]) :: _) _ _
 refine sS (sbs 26 3 4 #[.int .i64 (1), .int .i64 (2), .int .i64 (3), .int .i64 (0)] (fun b115 => ?_))
 refine sfz (A := ((b115, Obj.cells #[.int .i64 (1), .int .i64 (2), .int .i64 (3), .int .i64 (0)] 3 (0, 0)) :: (b48, Obj.cells #[.slice u0431_a (((play exYard [((⟨0, 1, 2⟩ : Shift))]).1).cars).length u0431_c, .slice u0432_a (((play exYard [((⟨0, 1, 2⟩ : Shift))]).1).room).length u0432_c, .slice u0433_a (((play exYard [((⟨0, 1, 2⟩ : Shift))]).1).tracks).length u0433_c] 26 (0, 0)) :: (Ms_1104 ++ (Ms_2107 ++ (Ms091 ++ F))))) noCar qh108 ((List.Perm.cons _ (List.perm_middle.symm)).trans (List.perm_middle.symm)) (fun I117 hle118 fz119_f => ?_)
 replace hG := hG.mono hle118
 replace u0433_f := u0433_f.mono hle118
 replace qr111 := qr111.mono hle118
 obtain ⟨fz119_a, fz119_c, fz119_b, fz119_o, fz119_e, fz119_l, fz119_m, fz119_r⟩ := id fz119_f
 cases fz119_e
 refine sfz (A := ((b115, Obj.cells #[.int .i64 (1), .int .i64 (2), .int .i64 (3), .int .i64 (0)] 3 (0, 0)) :: (b48, Obj.cells #[.slice u0431_a (((play exYard [((⟨0, 1, 2⟩ : Shift))]).1).cars).length u0431_c, .slice u0432_a (((play exYard [((⟨0, 1, 2⟩ : Shift))]).1).room).length u0432_c, .slice u0433_a (((play exYard [((⟨0, 1, 2⟩ : Shift))]).1).tracks).length u0433_c] 26 (0, 0)) :: (Ms_2107 ++ (Ms091 ++ F)))) 0 qh109 ((List.Perm.cons _ (List.perm_middle.symm)).trans (List.perm_middle.symm)) (fun I120 hle121 fz122_f => ?_)
 replace hG := hG.mono hle121
 replace u0433_f := u0433_f.mono hle121
 replace qr111 := qr111.mono hle121
 replace fz119_f := fz119_f.mono hle121
 obtain ⟨fz122_a, fz122_c, fz122_b, fz122_o, fz122_e, fz122_l, fz122_m, fz122_r⟩ := id fz122_f
 cases fz122_e
 refine sfz (A := ((b115, Obj.cells #[.int .i64 (1), .int .i64 (2), .int .i64 (3), .int .i64 (0)] 3 (0, 0)) :: (b48, Obj.cells #[.slice u0431_a (((play exYard [((⟨0, 1, 2⟩ : Shift))]).1).cars).length u0431_c, .slice u0432_a (((play exYard [((⟨0, 1, 2⟩ : Shift))]).1).room).length u0432_c, .slice u0433_a (((play exYard [((⟨0, 1, 2⟩ : Shift))]).1).tracks).length u0433_c] 26 (0, 0)) :: (Ms091 ++ F))) undef qh110 ((List.Perm.cons _ (List.perm_middle.symm)).trans (List.perm_middle.symm)) (fun I123 hle124 fz125_f => ?_)
 replace hG := hG.mono hle124
 replace u0433_f := u0433_f.mono hle124
 replace qr111 := qr111.mono hle124
 replace fz119_f := fz119_f.mono hle124
 replace fz122_f := fz122_f.mono hle124
 obtain ⟨fz125_a, fz125_c, fz125_b, fz125_o, fz125_e, fz125_l, fz125_m, fz125_r⟩ := id fz125_f
 cases fz125_e
 have fr126_f := qr111.isRows fz125_f
 have fr126_len := qr111.1
 obtain ⟨fr126_a, fr126_c, fr126_b, fr126_o, fr126_vs, fr126_e, fr126_l, fr126_m, fr126_r, fr126_w⟩ := id fr126_f
 injection fr126_e with fr126_e1 fr126_e2 fr126_e3; subst fr126_e1; subst fr126_e3
 refine pm (M' := ((b48, Obj.cells #[.slice u0431_a (((play exYard [((⟨0, 1, 2⟩ : Shift))]).1).cars).length u0431_c, .slice u0432_a (((play exYard [((⟨0, 1, 2⟩ : Shift))]).1).room).length u0432_c, .slice u0433_a (((play exYard [((⟨0, 1, 2⟩ : Shift))]).1).tracks).length u0433_c] 26 (0, 0)) :: ([(b115, Obj.cells #[.int .i64 (1), .int .i64 (2), .int .i64 (3), .int .i64 (0)] 3 (0, 0))] ++ (Ms091 ++ F)))) (List.Perm.swap _ _ _) ?_
 have ho127 : Own 3 1 intCell (.slice (some ⟨b115, 0, none⟩) 4 4) ([(1 : Int), (2 : Int), (3 : Int), (0 : Int)] : List Int) [(b115, Obj.cells #[.int .i64 (1), .int .i64 (2), .int .i64 (3), .int .i64 (0)] 3 (0, 0))] := Own.lit rfl rfl
 refine sfz (A := ((b48, Obj.cells #[.slice u0431_a (((play exYard [((⟨0, 1, 2⟩ : Shift))]).1).cars).length u0431_c, .slice u0432_a (((play exYard [((⟨0, 1, 2⟩ : Shift))]).1).room).length u0432_c, .slice u0433_a (((play exYard [((⟨0, 1, 2⟩ : Shift))]).1).tracks).length u0433_c] 26 (0, 0)) :: (Ms091 ++ F))) 0 ho127 (List.perm_middle.symm) (fun I128 hle129 fz130_f => ?_)
 replace hG := hG.mono hle129
 replace u0433_f := u0433_f.mono hle129
 replace fz119_f := fz119_f.mono hle129
 replace fz122_f := fz122_f.mono hle129
 replace fr126_f := fr126_f.mono hle129
 obtain ⟨fz130_a, fz130_c, fz130_b, fz130_o, fz130_e, fz130_l, fz130_m, fz130_r⟩ := id fz130_f
 cases fz130_e
 have hct141 := Lacks_ct I128 _ (exYard) _ _ (mkYard fz119_f fz122_f fr126_f) fz130_f (by first | exact hG | exact hG.mono hI)
 refine sS (sc (some 27) (F := ((b48, Obj.cells #[.slice u0431_a (((play exYard [((⟨0, 1, 2⟩ : Shift))]).1).cars).length u0431_c, .slice u0432_a (((play exYard [((⟨0, 1, 2⟩ : Shift))]).1).room).length u0432_c, .slice u0433_a (((play exYard [((⟨0, 1, 2⟩ : Shift))]).1).tracks).length u0433_c] 26 (0, 0)) :: (Ms091 ++ F))) (hct141 :) (.refl _) (fun rv139 I131 rm140 hle132 hp133 => ?_))
 obtain ⟨u0136, Ms0137, hv134, hm135, qh138⟩ := hp133
 rw [hv134, hm135]; clear hv134 hm135
 replace hG := hG.mono hle132
 replace u0433_f := u0433_f.mono hle132
 obtain ⟨u0136_a, u0136_c, u0136_e, u0136_l⟩ := qh138.shape
 subst u0136_e
 refine pm (M' := ((b48, Obj.cells #[.slice u0431_a (((play exYard [((⟨0, 1, 2⟩ : Shift))]).1).cars).length u0431_c, .slice u0432_a (((play exYard [((⟨0, 1, 2⟩ : Shift))]).1).room).length u0432_c, .slice u0433_a (((play exYard [((⟨0, 1, 2⟩ : Shift))]).1).tracks).length u0433_c] 26 (0, 0)) :: (Ms0137 ++ (Ms091 ++ F)))) List.perm_middle ?_
 show Seq _ _ _ _ _ _ ((27, .tuple #[.slice u0136_a ((lacksE exYard (([(1 : Int), (2 : Int), (3 : Int), (0 : Int)] : List Int))).1).length u0136_c, .int .i64 (((lacksE exYard (([(1 : Int), (2 : Int), (3 : Int), (0 : Int)] : List Int))).2))]) :: _) _ _
 refine sp 5 [(6, .int .i64 (((lacksE exYard (([(1 : Int), (2 : Int), (3 : Int), (0 : Int)] : List Int))).2))), (5, .slice u0136_a ((lacksE exYard (([(1 : Int), (2 : Int), (3 : Int), (0 : Int)] : List Int))).1).length u0136_c)] ?_
 refine seq_re 6 rfl (show (.int .i64 (((lacksE exYard (([(1 : Int), (2 : Int), (3 : Int), (0 : Int)] : List Int))).2)) : Value) = .int .i64 (0) from congrArg (Value.int .i64) (ex_lacks.2)) ?_
 refine sn ?_
 have hct160 := yard_ct I131
 refine sS (sc (some 31) (F := ((b48, Obj.cells #[.slice u0431_a (((play exYard [((⟨0, 1, 2⟩ : Shift))]).1).cars).length u0431_c, .slice u0432_a (((play exYard [((⟨0, 1, 2⟩ : Shift))]).1).room).length u0432_c, .slice u0433_a (((play exYard [((⟨0, 1, 2⟩ : Shift))]).1).tracks).length u0433_c] 26 (0, 0)) :: (Ms0137 ++ (Ms091 ++ F)))) (hct160 :) (.refl _) (fun rv158 I142 rm159 hle143 hp144 => ?_))
 obtain ⟨u_0147, Ms_0148, u_1149, Ms_1150, u_2151, ws_2152, Ms_2153, hv145, hm146, qh154, qh155, qh156, qr157⟩ := hp144
 rw [hv145, hm146]; clear hv145 hm146
 replace hG := hG.mono hle143
 replace u0433_f := u0433_f.mono hle143
 obtain ⟨u_0147_a, u_0147_c, u_0147_e, u_0147_l⟩ := qh154.shape
 subst u_0147_e
 obtain ⟨u_1149_a, u_1149_c, u_1149_e, u_1149_l⟩ := qh155.shape
 subst u_1149_e
 obtain ⟨u_2151_a, u_2151_c, u_2151_e, u_2151_l⟩ := qh156.shape
 subst u_2151_e
 have qr157_len := qr157.1
 try simp only [List.length_set, List.length_append, List.length_cons, List.length_nil, List.length_take] at qr157_len
 refine seq_mem (M' := ((Ms_0148 ++ (Ms_1150 ++ (Ms_2153 ++ (b48, Obj.cells #[.slice u0431_a (((play exYard [((⟨0, 1, 2⟩ : Shift))]).1).cars).length u0431_c, .slice u0432_a (((play exYard [((⟨0, 1, 2⟩ : Shift))]).1).room).length u0432_c, .slice u0433_a (((play exYard [((⟨0, 1, 2⟩ : Shift))]).1).tracks).length u0433_c] 26 (0, 0)) :: (Ms0137 ++ (Ms091 ++ F))))))) (fun w h => by simpa only [List.append_assoc, List.cons_append, List.nil_append] using h) ?_
 refine pm (M' := ((b48, Obj.cells #[.slice u0431_a (((play exYard [((⟨0, 1, 2⟩ : Shift))]).1).cars).length u0431_c, .slice u0432_a (((play exYard [((⟨0, 1, 2⟩ : Shift))]).1).room).length u0432_c, .slice u0433_a (((play exYard [((⟨0, 1, 2⟩ : Shift))]).1).tracks).length u0433_c] 26 (0, 0)) :: (Ms_0148 ++ (Ms_1150 ++ (Ms_2153 ++ (Ms0137 ++ (Ms091 ++ F))))))) ((List.Perm.append_left _ ((List.Perm.append_left _ List.perm_middle).trans List.perm_middle)).trans List.perm_middle) ?_
 show Seq _ _ _ _ _ _ ((31, .agg #[.slice u_0147_a exYard.cars.length u_0147_c, .slice u_1149_a exYard.room.length u_1149_c, .slice u_2151_a ws_2152.length u_2151_c]) :: _) _ _
 refine sfz (A := ((b48, Obj.cells #[.slice u0431_a (((play exYard [((⟨0, 1, 2⟩ : Shift))]).1).cars).length u0431_c, .slice u0432_a (((play exYard [((⟨0, 1, 2⟩ : Shift))]).1).room).length u0432_c, .slice u0433_a (((play exYard [((⟨0, 1, 2⟩ : Shift))]).1).tracks).length u0433_c] 26 (0, 0)) :: (Ms_1150 ++ (Ms_2153 ++ (Ms0137 ++ (Ms091 ++ F)))))) noCar qh154 (List.perm_middle.symm) (fun I161 hle162 fz163_f => ?_)
 replace hG := hG.mono hle162
 replace u0433_f := u0433_f.mono hle162
 replace qr157 := qr157.mono hle162
 obtain ⟨fz163_a, fz163_c, fz163_b, fz163_o, fz163_e, fz163_l, fz163_m, fz163_r⟩ := id fz163_f
 cases fz163_e
 refine sfz (A := ((b48, Obj.cells #[.slice u0431_a (((play exYard [((⟨0, 1, 2⟩ : Shift))]).1).cars).length u0431_c, .slice u0432_a (((play exYard [((⟨0, 1, 2⟩ : Shift))]).1).room).length u0432_c, .slice u0433_a (((play exYard [((⟨0, 1, 2⟩ : Shift))]).1).tracks).length u0433_c] 26 (0, 0)) :: (Ms_2153 ++ (Ms0137 ++ (Ms091 ++ F))))) 0 qh155 (List.perm_middle.symm) (fun I164 hle165 fz166_f => ?_)
 replace hG := hG.mono hle165
 replace u0433_f := u0433_f.mono hle165
 replace qr157 := qr157.mono hle165
 replace fz163_f := fz163_f.mono hle165
 obtain ⟨fz166_a, fz166_c, fz166_b, fz166_o, fz166_e, fz166_l, fz166_m, fz166_r⟩ := id fz166_f
 cases fz166_e
 refine sfz (A := ((b48, Obj.cells #[.slice u0431_a (((play exYard [((⟨0, 1, 2⟩ : Shift))]).1).cars).length u0431_c, .slice u0432_a (((play exYard [((⟨0, 1, 2⟩ : Shift))]).1).room).length u0432_c, .slice u0433_a (((play exYard [((⟨0, 1, 2⟩ : Shift))]).1).tracks).length u0433_c] 26 (0, 0)) :: (Ms0137 ++ (Ms091 ++ F)))) undef qh156 (List.perm_middle.symm) (fun I167 hle168 fz169_f => ?_)
 replace hG := hG.mono hle168
 replace u0433_f := u0433_f.mono hle168
 replace qr157 := qr157.mono hle168
 replace fz163_f := fz163_f.mono hle168
 replace fz166_f := fz166_f.mono hle168
 obtain ⟨fz169_a, fz169_c, fz169_b, fz169_o, fz169_e, fz169_l, fz169_m, fz169_r⟩ := id fz169_f
 cases fz169_e
 have fr170_f := qr157.isRows fz169_f
 have fr170_len := qr157.1
 obtain ⟨fr170_a, fr170_c, fr170_b, fr170_o, fr170_vs, fr170_e, fr170_l, fr170_m, fr170_r, fr170_w⟩ := id fr170_f
 injection fr170_e with fr170_e1 fr170_e2 fr170_e3; subst fr170_e1; subst fr170_e3
 have hct178 := Reach_ct I167 _ (exYard) (3) (mkYard fz163_f fz166_f fr170_f) (by first | exact hG | exact hG.mono hI)
 refine sS (sc (some 32) (F := ((b48, Obj.cells #[.slice u0431_a (((play exYard [((⟨0, 1, 2⟩ : Shift))]).1).cars).length u0431_c, .slice u0432_a (((play exYard [((⟨0, 1, 2⟩ : Shift))]).1).room).length u0432_c, .slice u0433_a (((play exYard [((⟨0, 1, 2⟩ : Shift))]).1).tracks).length u0433_c] 26 (0, 0)) :: (Ms0137 ++ (Ms091 ++ F)))) (hct178 :) (.refl _) (fun rv176 I171 rm177 hle172 hp173 => ?_))
 obtain ⟨hv174, hm175⟩ := hp173
 rw [hv174, hm175]; clear hv174 hm175
 replace u0433_f := u0433_f.mono hle172
 refine nm ?_
 show Seq _ _ _ _ _ _ ((32, .tuple #[.int .i64 (((reachE exYard 3).1)), .int .i64 (((reachE exYard 3).2))]) :: _) _ _
 refine sp 5 [(8, .int .i64 (((reachE exYard 3).2))), (7, .int .i64 (((reachE exYard 3).1)))] ?_
 refine seq_re 7 rfl (show (.int .i64 (((reachE exYard 3).1)) : Value) = .int .i64 (4) from congrArg (Value.int .i64) (congrArg Prod.fst ex_reach)) ?_
 refine seq_re 8 rfl (show (.int .i64 (((reachE exYard 3).2)) : Value) = .int .i64 (0) from congrArg (Value.int .i64) (congrArg Prod.snd ex_reach)) ?_
 refine sn ?_
 have hct197 := yard_ct I171
 refine sS (sc (some 36) (F := ((b48, Obj.cells #[.slice u0431_a (((play exYard [((⟨0, 1, 2⟩ : Shift))]).1).cars).length u0431_c, .slice u0432_a (((play exYard [((⟨0, 1, 2⟩ : Shift))]).1).room).length u0432_c, .slice u0433_a (((play exYard [((⟨0, 1, 2⟩ : Shift))]).1).tracks).length u0433_c] 26 (0, 0)) :: (Ms0137 ++ (Ms091 ++ F)))) (hct197 :) (.refl _) (fun rv195 I179 rm196 hle180 hp181 => ?_))
 obtain ⟨u_0184, Ms_0185, u_1186, Ms_1187, u_2188, ws_2189, Ms_2190, hv182, hm183, qh191, qh192, qh193, qr194⟩ := hp181
 rw [hv182, hm183]; clear hv182 hm183
 replace u0433_f := u0433_f.mono hle180
 obtain ⟨u_0184_a, u_0184_c, u_0184_e, u_0184_l⟩ := qh191.shape
 subst u_0184_e
 obtain ⟨u_1186_a, u_1186_c, u_1186_e, u_1186_l⟩ := qh192.shape
 subst u_1186_e
 obtain ⟨u_2188_a, u_2188_c, u_2188_e, u_2188_l⟩ := qh193.shape
 subst u_2188_e
 have qr194_len := qr194.1
 try simp only [List.length_set, List.length_append, List.length_cons, List.length_nil, List.length_take] at qr194_len
 refine seq_mem (M' := ((Ms_0185 ++ (Ms_1187 ++ (Ms_2190 ++ (b48, Obj.cells #[.slice u0431_a (((play exYard [((⟨0, 1, 2⟩ : Shift))]).1).cars).length u0431_c, .slice u0432_a (((play exYard [((⟨0, 1, 2⟩ : Shift))]).1).room).length u0432_c, .slice u0433_a (((play exYard [((⟨0, 1, 2⟩ : Shift))]).1).tracks).length u0433_c] 26 (0, 0)) :: (Ms0137 ++ (Ms091 ++ F))))))) (fun w h => by simpa only [List.append_assoc, List.cons_append, List.nil_append] using h) ?_
 refine pm (M' := ((b48, Obj.cells #[.slice u0431_a (((play exYard [((⟨0, 1, 2⟩ : Shift))]).1).cars).length u0431_c, .slice u0432_a (((play exYard [((⟨0, 1, 2⟩ : Shift))]).1).room).length u0432_c, .slice u0433_a (((play exYard [((⟨0, 1, 2⟩ : Shift))]).1).tracks).length u0433_c] 26 (0, 0)) :: (Ms_0185 ++ (Ms_1187 ++ (Ms_2190 ++ (Ms0137 ++ (Ms091 ++ F))))))) ((List.Perm.append_left _ ((List.Perm.append_left _ List.perm_middle).trans List.perm_middle)).trans List.perm_middle) ?_
 show Seq _ _ _ _ _ _ ((36, .agg #[.slice u_0184_a exYard.cars.length u_0184_c, .slice u_1186_a exYard.room.length u_1186_c, .slice u_2188_a ws_2189.length u_2188_c]) :: _) _ _
 refine sfz (A := ((b48, Obj.cells #[.slice u0431_a (((play exYard [((⟨0, 1, 2⟩ : Shift))]).1).cars).length u0431_c, .slice u0432_a (((play exYard [((⟨0, 1, 2⟩ : Shift))]).1).room).length u0432_c, .slice u0433_a (((play exYard [((⟨0, 1, 2⟩ : Shift))]).1).tracks).length u0433_c] 26 (0, 0)) :: (Ms_1187 ++ (Ms_2190 ++ (Ms0137 ++ (Ms091 ++ F)))))) noCar qh191 (List.perm_middle.symm) (fun I198 hle199 fz200_f => ?_)
 replace u0433_f := u0433_f.mono hle199
 replace qr194 := qr194.mono hle199
 obtain ⟨fz200_a, fz200_c, fz200_b, fz200_o, fz200_e, fz200_l, fz200_m, fz200_r⟩ := id fz200_f
 cases fz200_e
 refine sfz (A := ((b48, Obj.cells #[.slice u0431_a (((play exYard [((⟨0, 1, 2⟩ : Shift))]).1).cars).length u0431_c, .slice u0432_a (((play exYard [((⟨0, 1, 2⟩ : Shift))]).1).room).length u0432_c, .slice u0433_a (((play exYard [((⟨0, 1, 2⟩ : Shift))]).1).tracks).length u0433_c] 26 (0, 0)) :: (Ms_2190 ++ (Ms0137 ++ (Ms091 ++ F))))) 0 qh192 (List.perm_middle.symm) (fun I201 hle202 fz203_f => ?_)
 replace u0433_f := u0433_f.mono hle202
 replace qr194 := qr194.mono hle202
 replace fz200_f := fz200_f.mono hle202
 obtain ⟨fz203_a, fz203_c, fz203_b, fz203_o, fz203_e, fz203_l, fz203_m, fz203_r⟩ := id fz203_f
 cases fz203_e
 refine sfz (A := ((b48, Obj.cells #[.slice u0431_a (((play exYard [((⟨0, 1, 2⟩ : Shift))]).1).cars).length u0431_c, .slice u0432_a (((play exYard [((⟨0, 1, 2⟩ : Shift))]).1).room).length u0432_c, .slice u0433_a (((play exYard [((⟨0, 1, 2⟩ : Shift))]).1).tracks).length u0433_c] 26 (0, 0)) :: (Ms0137 ++ (Ms091 ++ F)))) undef qh193 (List.perm_middle.symm) (fun I204 hle205 fz206_f => ?_)
 replace u0433_f := u0433_f.mono hle205
 replace qr194 := qr194.mono hle205
 replace fz200_f := fz200_f.mono hle205
 replace fz203_f := fz203_f.mono hle205
 obtain ⟨fz206_a, fz206_c, fz206_b, fz206_o, fz206_e, fz206_l, fz206_m, fz206_r⟩ := id fz206_f
 cases fz206_e
 have fr207_f := qr194.isRows fz206_f
 have fr207_len := qr194.1
 obtain ⟨fr207_a, fr207_c, fr207_b, fr207_o, fr207_vs, fr207_e, fr207_l, fr207_m, fr207_r, fr207_w⟩ := id fr207_f
 injection fr207_e with fr207_e1 fr207_e2 fr207_e3; subst fr207_e1; subst fr207_e3
 have hct217 := Warm_ct I204 _ (exYard) (mkYard fz200_f fz203_f fr207_f)
 refine sS (sc (some 37) (F := ((b48, Obj.cells #[.slice u0431_a (((play exYard [((⟨0, 1, 2⟩ : Shift))]).1).cars).length u0431_c, .slice u0432_a (((play exYard [((⟨0, 1, 2⟩ : Shift))]).1).room).length u0432_c, .slice u0433_a (((play exYard [((⟨0, 1, 2⟩ : Shift))]).1).tracks).length u0433_c] 26 (0, 0)) :: (Ms0137 ++ (Ms091 ++ F)))) (hct217 :) (.refl _) (fun rv215 I208 rm216 hle209 hp210 => ?_))
 obtain ⟨u0213, hv211, hm212, qf214⟩ := hp210
 rw [hv211, hm212]; clear hv211 hm212
 replace u0433_f := u0433_f.mono hle209
 have u0213_f := qf214
 obtain ⟨u0213_a, u0213_c, u0213_b, u0213_o, u0213_e, u0213_l, u0213_m, u0213_r⟩ := id u0213_f
 subst u0213_e
 refine nm ?_
 show Seq _ _ _ _ _ _ ((37, .tuple #[.slice u0213_a ((warmE exYard).1).length u0213_c, .int .i64 (((warmE exYard).2.1)), .int .i64 (((warmE exYard).2.2))]) :: _) _ _
 refine sp 7 [(11, .int .i64 (((warmE exYard).2.2))), (10, .int .i64 (((warmE exYard).2.1))), (9, .slice u0213_a ((warmE exYard).1).length u0213_c)] ?_
 refine seq_re 10 rfl (show (.int .i64 (((warmE exYard).2.1)) : Value) = .int .i64 (1) from congrArg (Value.int .i64) (congrArg (fun p => p.2.1) ex_warm)) ?_
 refine seq_re 11 rfl (show (.int .i64 (((warmE exYard).2.2)) : Value) = .int .i64 (0) from congrArg (Value.int .i64) (congrArg (fun p => p.2.2) ex_warm)) ?_
 refine sn ?_
 refine sp 1 [(41, .int .i64 (0))] ?_
 refine sd (dcm 42 .eql (0) (0) true (by rfl)) ?_
 refine sp 2 [(44, .int .i64 (0)), (43, .bool (true))] ?_
 refine sd (dcm 45 .eql (0) (0) true (by rfl)) ?_
 refine sp 3 [(48, .int .i64 (0)), (47, .bool (true))] ?_
 refine sd (dcm 49 .eql (0) (0) true (by rfl)) ?_
 refine sp 3 [(52, .int .i64 (0)), (51, .bool (true))] ?_
 refine sd (dcm 53 .eql (0) (0) true (by rfl)) ?_
 refine sp 3 [(56, .int .i64 (0)), (55, .bool (true))] ?_
 refine sd (dcm 57 .eql (0) (0) true (by rfl)) ?_
 refine sp 3 [(60, .int .i64 (4)), (59, .bool (true))] ?_
 refine sd (dcm 61 .eql (4) (4) true (by rfl)) ?_
 refine sp 3 [(64, .int .i64 (1)), (63, .bool (true))] ?_
 refine sd (dcm 65 .eql (1) (1) true (by rfl)) ?_
 refine sp 3 [(68, .pointer (some ⟨b48, 2, none⟩)), (67, .bool (true))] ?_
 refine sd (dlb 69 0 2 b48 (.slice u0433_a (((play exYard [((⟨0, 1, 2⟩ : Shift))]).1).tracks).length u0433_c)) ?_
 refine sS (sbs 70 3 2 #[.int .i64 (0), .int .i64 (1)] (fun b218 => ?_))
 refine sS (sbs 71 3 2 #[.int .i64 (2), .int .i64 (3)] (fun b220 => ?_))
 refine pm (M' := ((b220, Obj.cells #[.int .i64 (2), .int .i64 (3)] 3 (0, 0)) :: (b48, Obj.cells #[.slice u0431_a (((play exYard [((⟨0, 1, 2⟩ : Shift))]).1).cars).length u0431_c, .slice u0432_a (((play exYard [((⟨0, 1, 2⟩ : Shift))]).1).room).length u0432_c, .slice u0433_a (((play exYard [((⟨0, 1, 2⟩ : Shift))]).1).tracks).length u0433_c] 26 (0, 0)) :: ([(b218, Obj.cells #[.int .i64 (0), .int .i64 (1)] 3 (0, 0))] ++ (Ms0137 ++ (Ms091 ++ F))))) (List.Perm.cons _ (List.Perm.swap _ _ _)) ?_
 have ho222 : Own 3 1 intCell (.slice (some ⟨b218, 0, none⟩) 2 2) ([(0 : Int), (1 : Int)] : List Int) [(b218, Obj.cells #[.int .i64 (0), .int .i64 (1)] 3 (0, 0))] := Own.lit rfl rfl
 refine sfz (A := ((b220, Obj.cells #[.int .i64 (2), .int .i64 (3)] 3 (0, 0)) :: (b48, Obj.cells #[.slice u0431_a (((play exYard [((⟨0, 1, 2⟩ : Shift))]).1).cars).length u0431_c, .slice u0432_a (((play exYard [((⟨0, 1, 2⟩ : Shift))]).1).room).length u0432_c, .slice u0433_a (((play exYard [((⟨0, 1, 2⟩ : Shift))]).1).tracks).length u0433_c] 26 (0, 0)) :: (Ms0137 ++ (Ms091 ++ F)))) 0 ho222 ((List.Perm.cons _ (List.perm_middle.symm)).trans (List.perm_middle.symm)) (fun I223 hle224 fz225_f => ?_)
 replace u0433_f := u0433_f.mono hle224
 replace u0213_f := u0213_f.mono hle224
 obtain ⟨fz225_a, fz225_c, fz225_b, fz225_o, fz225_e, fz225_l, fz225_m, fz225_r⟩ := id fz225_f
 cases fz225_e
 refine pm (M' := ((b48, Obj.cells #[.slice u0431_a (((play exYard [((⟨0, 1, 2⟩ : Shift))]).1).cars).length u0431_c, .slice u0432_a (((play exYard [((⟨0, 1, 2⟩ : Shift))]).1).room).length u0432_c, .slice u0433_a (((play exYard [((⟨0, 1, 2⟩ : Shift))]).1).tracks).length u0433_c] 26 (0, 0)) :: ([(b220, Obj.cells #[.int .i64 (2), .int .i64 (3)] 3 (0, 0))] ++ (Ms0137 ++ (Ms091 ++ F))))) (List.Perm.swap _ _ _) ?_
 have ho226 : Own 3 1 intCell (.slice (some ⟨b220, 0, none⟩) 2 2) ([(2 : Int), (3 : Int)] : List Int) [(b220, Obj.cells #[.int .i64 (2), .int .i64 (3)] 3 (0, 0))] := Own.lit rfl rfl
 refine sfz (A := ((b48, Obj.cells #[.slice u0431_a (((play exYard [((⟨0, 1, 2⟩ : Shift))]).1).cars).length u0431_c, .slice u0432_a (((play exYard [((⟨0, 1, 2⟩ : Shift))]).1).room).length u0432_c, .slice u0433_a (((play exYard [((⟨0, 1, 2⟩ : Shift))]).1).tracks).length u0433_c] 26 (0, 0)) :: (Ms0137 ++ (Ms091 ++ F)))) 0 ho226 (List.perm_middle.symm) (fun I227 hle228 fz229_f => ?_)
 replace u0433_f := u0433_f.mono hle228
 replace u0213_f := u0213_f.mono hle228
 replace fz225_f := fz225_f.mono hle228
 obtain ⟨fz229_a, fz229_c, fz229_b, fz229_o, fz229_e, fz229_l, fz229_m, fz229_r⟩ := id fz229_f
 cases fz229_e
 refine sS (sbs 72 22 3 #[.slice (some ⟨b218, 0, none⟩) 2 2, .slice (some ⟨b220, 0, none⟩) 2 2, .slice none 0 0] (fun b230 => ?_))
 refine pm (M' := ((b48, Obj.cells #[.slice u0431_a (((play exYard [((⟨0, 1, 2⟩ : Shift))]).1).cars).length u0431_c, .slice u0432_a (((play exYard [((⟨0, 1, 2⟩ : Shift))]).1).room).length u0432_c, .slice u0433_a (((play exYard [((⟨0, 1, 2⟩ : Shift))]).1).tracks).length u0433_c] 26 (0, 0)) :: ([(b230, Obj.cells #[.slice (some ⟨b218, 0, none⟩) 2 2, .slice (some ⟨b220, 0, none⟩) 2 2, .slice none 0 0] 22 (0, 0))] ++ (Ms0137 ++ (Ms091 ++ F))))) (List.Perm.swap _ _ _) ?_
 have ho232 : Own 22 1 valCell (.slice (some ⟨b230, 0, none⟩) 3 3) ([(.slice (some ⟨b218, 0, none⟩) 2 2 : Value), (.slice (some ⟨b220, 0, none⟩) 2 2 : Value), (.slice none 0 0 : Value)] : List Value) [(b230, Obj.cells #[.slice (some ⟨b218, 0, none⟩) 2 2, .slice (some ⟨b220, 0, none⟩) 2 2, .slice none 0 0] 22 (0, 0))] := Own.lit rfl rfl
 have orw233 := ((((RowsV.nil I227).snoc fz225_f).snoc fz229_f).snoc (IsSl.nil _))
 simp only [List.nil_append, List.cons_append] at orw233
 refine sfz (A := ((b48, Obj.cells #[.slice u0431_a (((play exYard [((⟨0, 1, 2⟩ : Shift))]).1).cars).length u0431_c, .slice u0432_a (((play exYard [((⟨0, 1, 2⟩ : Shift))]).1).room).length u0432_c, .slice u0433_a (((play exYard [((⟨0, 1, 2⟩ : Shift))]).1).tracks).length u0433_c] 26 (0, 0)) :: (Ms0137 ++ (Ms091 ++ F)))) undef ho232 (List.perm_middle.symm) (fun I234 hle235 fz236_f => ?_)
 replace u0433_f := u0433_f.mono hle235
 replace u0213_f := u0213_f.mono hle235
 replace orw233 := orw233.mono hle235
 obtain ⟨fz236_a, fz236_c, fz236_b, fz236_o, fz236_e, fz236_l, fz236_m, fz236_r⟩ := id fz236_f
 cases fz236_e
 have fr237_f := orw233.isRows fz236_f
 have fr237_len := orw233.1
 obtain ⟨fr237_a, fr237_c, fr237_b, fr237_o, fr237_vs, fr237_e, fr237_l, fr237_m, fr237_r, fr237_w⟩ := id fr237_f
 injection fr237_e with fr237_e1 fr237_e2 fr237_e3; subst fr237_e1; subst fr237_e3
 refine sd (dc 73 (fun I' hI => (EqualRows_ct I' _ _ _ _ (u0433_f.mono hI) (fr237_f.mono hI) :))) ?_
 refine seq_re 73 rfl (show (.bool (decide ((((play exYard [((⟨0, 1, 2⟩ : Shift))]).1).tracks) = ([([(0 : Int), (1 : Int)] : List Int), ([(2 : Int), (3 : Int)] : List Int), []]))) : Value) = .bool (true) from congrArg Value.bool (decide_eq_true (ex_draw.2))) ?_
 refine sp 3 [(76, .slice u090_a ((fewestE exYard (([(0 : Int), (2 : Int), (3 : Int), (1 : Int)] : List Int))).1).length u090_c), (75, .bool (true))] ?_
 have hct248 := four_ct I234
 refine sS (sc (some 77) (F := ((b48, Obj.cells #[.slice u0431_a (((play exYard [((⟨0, 1, 2⟩ : Shift))]).1).cars).length u0431_c, .slice u0432_a (((play exYard [((⟨0, 1, 2⟩ : Shift))]).1).room).length u0432_c, .slice u0433_a (((play exYard [((⟨0, 1, 2⟩ : Shift))]).1).tracks).length u0433_c] 26 (0, 0)) :: (Ms0137 ++ (Ms091 ++ F)))) (hct248 :) (.refl _) (fun rv246 I238 rm247 hle239 hp240 => ?_))
 obtain ⟨u243, Ms244, hv241, hm242, qh245⟩ := hp240
 rw [hv241, hm242]; clear hv241 hm242
 replace u0213_f := u0213_f.mono hle239
 obtain ⟨u243_a, u243_c, u243_e, u243_l⟩ := qh245.shape
 subst u243_e
 refine pm (M' := ((b48, Obj.cells #[.slice u0431_a (((play exYard [((⟨0, 1, 2⟩ : Shift))]).1).cars).length u0431_c, .slice u0432_a (((play exYard [((⟨0, 1, 2⟩ : Shift))]).1).room).length u0432_c, .slice u0433_a (((play exYard [((⟨0, 1, 2⟩ : Shift))]).1).tracks).length u0433_c] 26 (0, 0)) :: (Ms244 ++ (Ms0137 ++ (Ms091 ++ F))))) List.perm_middle ?_
 show Seq _ _ _ _ _ _ ((77, .slice u243_a exFour.length u243_c) :: _) _ _
 have hfl : ((fewestE exYard [0, 2, 3, 1]).1).length ≤ 4 := by rw [ex_fewest.1]; decide
 refine sfz (A := ((b48, Obj.cells #[.slice u0431_a (((play exYard [((⟨0, 1, 2⟩ : Shift))]).1).cars).length u0431_c, .slice u0432_a (((play exYard [((⟨0, 1, 2⟩ : Shift))]).1).room).length u0432_c, .slice u0433_a (((play exYard [((⟨0, 1, 2⟩ : Shift))]).1).tracks).length u0433_c] 26 (0, 0)) :: (Ms244 ++ (Ms0137 ++ F)))) noShift qh92 ((List.Perm.cons _ ((List.Perm.append_left _ (List.perm_append_comm_assoc _ _ _)).trans (List.perm_append_comm_assoc _ _ _))).trans (List.perm_middle.symm)) (fun I249 hle250 fz251_f => ?_)
 replace u0213_f := u0213_f.mono hle250
 obtain ⟨fz251_a, fz251_c, fz251_b, fz251_o, fz251_e, fz251_l, fz251_m, fz251_r⟩ := id fz251_f
 cases fz251_e
 refine sfz (A := ((b48, Obj.cells #[.slice u0431_a (((play exYard [((⟨0, 1, 2⟩ : Shift))]).1).cars).length u0431_c, .slice u0432_a (((play exYard [((⟨0, 1, 2⟩ : Shift))]).1).room).length u0432_c, .slice u0433_a (((play exYard [((⟨0, 1, 2⟩ : Shift))]).1).tracks).length u0433_c] 26 (0, 0)) :: (Ms0137 ++ F))) noShift qh245 (List.perm_middle.symm) (fun I252 hle253 fz254_f => ?_)
 replace u0213_f := u0213_f.mono hle253
 replace fz251_f := fz251_f.mono hle253
 obtain ⟨fz254_a, fz254_c, fz254_b, fz254_o, fz254_e, fz254_l, fz254_m, fz254_r⟩ := id fz254_f
 cases fz254_e
 refine sd (dc 78 (fun I' hI => (EqualShifts_ct I' _ _ _ _ (fz251_f.mono hI) (fz254_f.mono hI) :))) ?_
 refine seq_re 78 rfl (show (.bool (decide (((fewestE exYard (([(0 : Int), (2 : Int), (3 : Int), (1 : Int)] : List Int))).1) = exFour)) : Value) = .bool (true) from congrArg Value.bool (decide_eq_true (ex_fewest.1))) ?_
 refine sp 3 [(81, .slice u0136_a ((lacksE exYard (([(1 : Int), (2 : Int), (3 : Int), (0 : Int)] : List Int))).1).length u0136_c), (80, .bool (true))] ?_
 refine sS (sbs 82 3 2 #[.int .i64 (1), .int .i64 (2)] (fun b255 => ?_))
 have hll : ((lacksE exYard [1, 2, 3, 0]).1).length ≤ 4 := by rw [ex_lacks.1]; decide
 refine sfz (A := ((b255, Obj.cells #[.int .i64 (1), .int .i64 (2)] 3 (0, 0)) :: (b48, Obj.cells #[.slice u0431_a (((play exYard [((⟨0, 1, 2⟩ : Shift))]).1).cars).length u0431_c, .slice u0432_a (((play exYard [((⟨0, 1, 2⟩ : Shift))]).1).room).length u0432_c, .slice u0433_a (((play exYard [((⟨0, 1, 2⟩ : Shift))]).1).tracks).length u0433_c] 26 (0, 0)) :: F)) 0 qh138 ((List.Perm.cons _ (List.perm_middle.symm)).trans (List.perm_middle.symm)) (fun I257 hle258 fz259_f => ?_)
 replace u0213_f := u0213_f.mono hle258
 obtain ⟨fz259_a, fz259_c, fz259_b, fz259_o, fz259_e, fz259_l, fz259_m, fz259_r⟩ := id fz259_f
 cases fz259_e
 refine pm (M' := ((b48, Obj.cells #[.slice u0431_a (((play exYard [((⟨0, 1, 2⟩ : Shift))]).1).cars).length u0431_c, .slice u0432_a (((play exYard [((⟨0, 1, 2⟩ : Shift))]).1).room).length u0432_c, .slice u0433_a (((play exYard [((⟨0, 1, 2⟩ : Shift))]).1).tracks).length u0433_c] 26 (0, 0)) :: ([(b255, Obj.cells #[.int .i64 (1), .int .i64 (2)] 3 (0, 0))] ++ F))) (List.Perm.swap _ _ _) ?_
 have ho260 : Own 3 1 intCell (.slice (some ⟨b255, 0, none⟩) 2 2) ([(1 : Int), (2 : Int)] : List Int) [(b255, Obj.cells #[.int .i64 (1), .int .i64 (2)] 3 (0, 0))] := Own.lit rfl rfl
 refine sfz (A := ((b48, Obj.cells #[.slice u0431_a (((play exYard [((⟨0, 1, 2⟩ : Shift))]).1).cars).length u0431_c, .slice u0432_a (((play exYard [((⟨0, 1, 2⟩ : Shift))]).1).room).length u0432_c, .slice u0433_a (((play exYard [((⟨0, 1, 2⟩ : Shift))]).1).tracks).length u0433_c] 26 (0, 0)) :: F)) 0 ho260 (List.perm_middle.symm) (fun I261 hle262 fz263_f => ?_)
 replace u0213_f := u0213_f.mono hle262
 replace fz259_f := fz259_f.mono hle262
 obtain ⟨fz263_a, fz263_c, fz263_b, fz263_o, fz263_e, fz263_l, fz263_m, fz263_r⟩ := id fz263_f
 cases fz263_e
 refine sd (dc 83 (fun I' hI => (EqualInts_ct I' _ _ _ _ (fz259_f.mono hI) (fz263_f.mono hI) :))) ?_
 refine seq_re 83 rfl (show (.bool (decide (((lacksE exYard (([(1 : Int), (2 : Int), (3 : Int), (0 : Int)] : List Int))).1) = (([(1 : Int), (2 : Int)] : List Int)))) : Value) = .bool (true) from congrArg Value.bool (decide_eq_true (ex_lacks.1))) ?_
 refine sp 3 [(86, .slice u0213_a ((warmE exYard).1).length u0213_c), (85, .bool (true))] ?_
 refine sS (sbs 87 3 4 #[.int .i64 (0), .int .i64 (2), .int .i64 (3), .int .i64 (1)] (fun b264 => ?_))
 refine pm (M' := ((b48, Obj.cells #[.slice u0431_a (((play exYard [((⟨0, 1, 2⟩ : Shift))]).1).cars).length u0431_c, .slice u0432_a (((play exYard [((⟨0, 1, 2⟩ : Shift))]).1).room).length u0432_c, .slice u0433_a (((play exYard [((⟨0, 1, 2⟩ : Shift))]).1).tracks).length u0433_c] 26 (0, 0)) :: ([(b264, Obj.cells #[.int .i64 (0), .int .i64 (2), .int .i64 (3), .int .i64 (1)] 3 (0, 0))] ++ F))) (List.Perm.swap _ _ _) ?_
 have ho266 : Own 3 1 intCell (.slice (some ⟨b264, 0, none⟩) 4 4) ([(0 : Int), (2 : Int), (3 : Int), (1 : Int)] : List Int) [(b264, Obj.cells #[.int .i64 (0), .int .i64 (2), .int .i64 (3), .int .i64 (1)] 3 (0, 0))] := Own.lit rfl rfl
 refine sfz (A := ((b48, Obj.cells #[.slice u0431_a (((play exYard [((⟨0, 1, 2⟩ : Shift))]).1).cars).length u0431_c, .slice u0432_a (((play exYard [((⟨0, 1, 2⟩ : Shift))]).1).room).length u0432_c, .slice u0433_a (((play exYard [((⟨0, 1, 2⟩ : Shift))]).1).tracks).length u0433_c] 26 (0, 0)) :: F)) 0 ho266 (List.perm_middle.symm) (fun I267 hle268 fz269_f => ?_)
 replace u0213_f := u0213_f.mono hle268
 obtain ⟨fz269_a, fz269_c, fz269_b, fz269_o, fz269_e, fz269_l, fz269_m, fz269_r⟩ := id fz269_f
 cases fz269_e
 refine sd (dc 88 (fun I' hI => (EqualInts_ct I' _ _ _ _ (u0213_f.mono hI) (fz269_f.mono hI) :))) ?_
 refine seq_re 88 rfl (show (.bool (decide (((warmE exYard).1) = (([(0 : Int), (2 : Int), (3 : Int), (1 : Int)] : List Int)))) : Value) = .bool (true) from congrArg Value.bool (decide_eq_true (congrArg Prod.fst ex_warm))) ?_
 refine sp 2 [(0, .bool (true))] ?_
 refine se ?_
 refine rret ?_
 refine pst_ret1 (t := 0) [] (by kernel_rfl) rfl (List.Sublist.cons _ (List.Sublist.refl _)) (Imm.le.trans (Imm.le.trans (Imm.le.trans (Imm.le.trans (Imm.le.trans (Imm.le.trans (Imm.le.trans (Imm.le.trans (Imm.le.trans (Imm.le.trans (Imm.le.trans (Imm.le.trans (Imm.le.trans (Imm.le.trans (Imm.le.trans (Imm.le.trans (Imm.le.trans (Imm.le.trans (Imm.le.trans (Imm.le.trans (Imm.le.trans (Imm.le.trans (Imm.le.trans (Imm.le.trans (Imm.le.trans (Imm.le.trans (Imm.le.trans (Imm.le.trans (Imm.le.trans (Imm.le.trans (Imm.le.trans (Imm.le.trans (Imm.le.trans (Imm.le.trans (Imm.le.trans (Imm.le.trans hle2 hle21) hle29) hle32) hle35) hle39) hle51) hle72) hle75) hle78) hle83) hle86) hle97) hle118) hle121) hle124) hle129) hle132) hle143) hle162) hle165) hle168) hle172) hle180) hle199) hle202) hle205) hle209) hle224) hle228) hle235) hle239) hle250) hle253) hle258) hle262) hle268) ?_
 exact ⟨rfl, rfl⟩

end Go.Proofs.YtcaocbhbofejnaaDoor
namespace Go.Sl
open Go
section
variable {P : Program} {N : Nat} {ops : Array Oper} {i : Nat} {l : Sl} {I : Imm} {R M : Seg} {ty : TypeId} {gd : Option (Nat × Bool)} {K : Sl → Imm → Seg → Prop} {d : Nat}
theorem stp_makeSlice {x : Operand} {T E bs n : Nat} {z zv : Value} (hop : opAt ops N i = some (some d, .makeSlice T x x, ty, gd)) (hg : gval ops l gd = some true)
    (hT : tyElem P T = some E) (hsz : tySize P E = some 1) (hz : tyZero P E = some z) (hzc : z.cells = #[zv]) (hb : tyBytes P E = some bs) (hbs : 1 ≤ bs ∧ bs ≤ 256)
    (hx : oval l x = some (.int .i64 (n : Int))) (hn : 0 < n ∧ n ≤ 1000000)
    (next : ∀ b, K ((d, .slice (some ⟨b, 0, none⟩) n n) :: l) I ((b, Obj.cells (List.replicate n zv).toArray E (0, 0)) :: M)) : Stp P N ops i l I M K := by
  have hinfo : ∃ inf, P.info? E = some inf ∧ inf.bytes = bs := by
    unfold tyBytes at hb
    cases hi : P.info? E with
    | none => rw [hi] at hb; cases hb
    | some inf => rw [hi] at hb; exact ⟨inf, rfl, by simpa using hb⟩
  obtain ⟨inf, hinf, hbytes⟩ := hinfo
  refine stp_of_wpL hop hg (known2 hx hx) ?_
  show wpL P (Instr.makeSlice T (rho l x) (rho l x) >>= fun x => pure (Next.value x)) _ I M
  refine wpL_val ?_
  rw [rho_of hx]
  have hw : IntKind.i64.wrap (n : Int) = (n : Int) := wrap64_id ⟨by omega, by omega⟩
  have hbig : ¬ ((inf.bytes : Int) * (n : Int) > 2 ^ 48) := by
    have h1 : inf.bytes * n ≤ 256 * 1000000 := Nat.mul_le_mul (by omega) hn.2
    have h2 : ((inf.bytes * n : Nat) : Int) ≤ ((256 * 1000000 : Nat) : Int) := Int.ofNat_le.2 h1
    rw [Int.natCast_mul] at h2
    omega
  unfold Instr.makeSlice
  rw [wpL_bind, wpL_underlying (tyElem_spec hT)]
  show wpL P (pure (n : Int) >>= _) _ I M
  rw [wpL_bind, wpL_pure]
  show wpL P (pure (n : Int) >>= _) _ I M
  rw [wpL_bind, wpL_pure, wpL_bind, wpL_typeInfo hinf]
  simp only [hw]
  have hc : (decide ((n : Int) < 0) || decide ((inf.bytes : Int) * (n : Int) > 2 ^ 48) || decide ((n : Int) < 0) || decide ((n : Int) > (n : Int))) = false := by
    rw [decide_eq_false (show ¬ (n : Int) < 0 by omega), decide_eq_false hbig, decide_eq_false (show ¬ (n : Int) > n by omega)]; rfl
  rw [if_neg (by rw [hc]; simp)]
  rw [wpL_bind]
  have hask : ∀ (n : Nat) (Q : Unit → Seg → Prop), Q () M → wpL P (askRoom n) Q I M := fun n Q hq => by
    unfold askRoom
    split <;> exact hq
  refine hask _ _ ?_
  rw [wpL_bind, wpL_sizeOf hsz]
  simp only [Int.toNat_natCast, Nat.mul_one]
  rw [if_neg (show ¬ n = 0 by omega), wpL_bind, wpL_zeroValue hz, wpL_bind, wpL_pure, wpL_bind]
  intro b
  refine ⟨_, .inl rfl, ?_⟩
  have e : (Array.range n).map (fun k => z.cells[k % z.cells.size]!) = (List.replicate n zv).toArray := by
    rw [hzc]
    apply Array.ext
    · simp
    · intro i h1 h2
      simp [Nat.mod_one]
  rw [e]
  exact next b
end
theorem encL_vals (vs : List Value) : encL 1 valCell vs = vs := by
  induction vs with
  | nil => rfl
  | cons v r ih =>
    have : encL 1 valCell (v :: r) = [v] ++ encL 1 valCell r := by simp [encL, valCell]
    rw [this, ih]; rfl
theorem Own.made {E : TypeId} {b n : Nat} (z : Value) : Own E 1 valCell (.slice (some ⟨b, 0, none⟩) n n) (List.replicate n z) [(b, Obj.cells (List.replicate n z).toArray E (0, 0))] :=
  .inr ⟨b, n, [], by simp, by simp, by rw [encL_vals]; simp, by simp [encL_vals]⟩

structure Lent (I J : Imm) (Ms : Seg) : Prop where
  free : ∀ b o, (b, o) ∈ Ms → I.blk b = none
  held : ∀ b o, (b, o) ∈ Ms → J.blk b = some o
  nodup : (Ms.map Prod.fst).Nodup
theorem Lent.mono {I J K : Imm} {Ms : Seg} (h : Lent I J Ms) (le : J.le K) : Lent I K Ms := ⟨h.free, fun b o hm => le.blk _ _ (h.held b o hm), h.nodup⟩
section
variable {ρ : Option Nat} {P : Program} {N : Nat} {ds : List Deferred} {l : Sl} {I : Imm} {M A B Ms : Seg} {Q : Exit → Act → World → Prop} {c : Code}
end
end Go.Sl
namespace Go.Sh
open Go Go.Sl

def gAt (cs : List Car) (i : Nat) : Int := (cs.getD i noCar).grp
structure CarsInv (cs : List Car) (g l : Int) : Prop where
  ok : ∀ c ∈ cs, carErr c = 0 ∧ c.len ≤ 3
  le : ∀ i, i < cs.length → gAt cs i ≤ g
  run : ∀ i j, i ≤ j → j < cs.length → gAt cs i = gAt cs j → gAt cs i ≠ 0 → ∀ m, i ≤ m → m ≤ j → gAt cs m = gAt cs i
  g0 : 0 ≤ g ∧ g ≤ 3
  l0 : 0 ≤ l ∧ l ≤ 2
  last : 0 < l → 1 ≤ g ∧ (0 < cs.length → gAt cs (cs.length - 1) = g ∨ ∀ i, i < cs.length → gAt cs i < g)
theorem CarsInv.nil : CarsInv [] 0 0 := ⟨fun c h => by simp at h, fun i h => by simp at h, fun i j _ h => by simp at h, by omega, by omega, fun h => by omega⟩
theorem CarsInv.group {cs : List Car} {g l l' : Int} (h : CarsInv cs g l) (hg : g < 3) (hl : 1 ≤ l' ∧ l' ≤ 2) : CarsInv cs (g + 1) l' := by
  have := h.g0
  refine ⟨h.ok, fun i hi => by have := h.le i hi; omega, h.run, by omega, by omega, fun _ => ⟨by omega, fun _ => .inr fun i hi => by have := h.le i hi; omega⟩⟩
theorem gAt_append {cs : List Car} {c : Car} {i : Nat} : gAt (cs ++ [c]) i = if i < cs.length then gAt cs i else if i = cs.length then c.grp else 0 := by
  unfold gAt
  simp only [List.getD]
  split
  · rename_i h; rw [List.getElem?_append_left h]
  · rename_i h
    rw [List.getElem?_append_right (by omega)]
    split
    · rename_i h2; simp [h2]
    · rename_i h2
      have : 1 ≤ i - cs.length := by omega
      cases hh : i - cs.length with
      | zero => omega
      | succ n => simp [noCar]
theorem CarsInv.snoc {cs : List Car} {g l : Int} (h : CarsInv cs g l) {c : Car} (hc : carErr c = 0 ∧ c.len ≤ 3) (hg : (0 < l → c.grp = g) ∧ (¬ 0 < l → c.grp = 0)) : CarsInv (cs ++ [c]) g (if 0 < l then l - 1 else l) := by
  have hg0 := h.g0; have hl0 := h.l0
  have hle : c.grp ≤ g := by by_cases hl : 0 < l; exact Int.le_of_eq (hg.1 hl); rw [hg.2 hl]; omega
  refine ⟨fun x hx => ?_, fun i hi => ?_, ?_, hg0, by split <;> omega, fun hl => ?_⟩
  · rcases List.mem_append.1 hx with hx | hx
    · exact h.ok x hx
    · simp at hx; subst hx; exact hc
  · rw [gAt_append]
    split
    · rename_i h1; exact h.le i h1
    · split
      · exact hle
      · omega
  · intro i j hij hj e h0 m him hmj
    simp only [List.length_append, List.length_cons, List.length_nil] at hj
    have A : ∀ x, x < cs.length → gAt (cs ++ [c]) x = gAt cs x := fun x hx => by rw [gAt_append, if_pos hx]
    have B : gAt (cs ++ [c]) cs.length = c.grp := by rw [gAt_append, if_neg (by omega), if_pos rfl]
    by_cases hj1 : j < cs.length
    · rw [A i (by omega)] at e h0 ⊢
      rw [A j hj1] at e
      rw [A m (by omega)]
      exact h.run i j hij hj1 e h0 m him hmj
    · have hj2 : j = cs.length := by omega
      subst hj2
      rw [B] at e
      by_cases hi1 : i < cs.length
      · rw [A i hi1] at e h0 ⊢
        by_cases hm1 : m < cs.length
        · rw [A m hm1]
          by_cases hl : 0 < l
          · have hcg := hg.1 hl
            rcases (h.last hl).2 (by omega) with hla | hla
            · exact h.run i (cs.length - 1) (by omega) (by omega) (by rw [hla]; omega) h0 m him (by omega)
            · have := hla i hi1; omega
          · have := hg.2 hl; omega
        · have hm2 : m = cs.length := by omega
          subst hm2
          rw [B]; exact e.symm
      · have hi2 : i = cs.length := by omega
        have hm2 : m = i := by omega
        rw [hm2]
  · have hl1 : 0 < l := by
      by_cases h1 : 0 < l
      · exact h1
      · rw [if_neg h1] at hl; exact hl
    have := h.last hl1
    refine ⟨this.1, fun _ => .inl ?_⟩
    have e : (cs ++ [c]).length - 1 = cs.length := by simp
    rw [e, gAt_append, if_neg (by omega), if_pos rfl]
    exact hg.1 hl1

structure Placed (cs : List Car) (T k a : Nat) (ts : List (List Int)) : Prop where
  len : ts.length = T
  a0 : a < T
  perm : ts.flatten.Perm (wholeL k)
  ex : ∃ tr : Nat → Nat, (∀ i, i < T → ts.getD i [] = (wholeL k).filter fun c => decide (tr c.toNat = i)) ∧ (∀ c, c < k → tr c < T) ∧ (∀ c, c + 1 < k → gAt cs (c + 1) ≠ 0 → gAt cs (c + 1) = gAt cs c → tr (c + 1) = tr c) ∧ (0 < k → tr (k - 1) = a)
theorem mem_wholeL {n : Nat} {c : Int} : c ∈ wholeL n ↔ 0 ≤ c ∧ c < n := by
  unfold wholeL
  simp only [List.mem_map, List.mem_range]
  constructor
  · rintro ⟨i, hi, rfl⟩; omega
  · intro h; exact ⟨c.toNat, by omega, by omega⟩
theorem Placed.start {cs : List Car} {T : Nat} (hT : 0 < T) : Placed cs T 0 0 (List.replicate T []) := by
  refine ⟨by simp, hT, by simp [wholeL], fun _ => 0, fun i hi => ?_, fun c h => by omega, fun c h => by omega, fun h => by omega⟩
  simp [wholeL, List.getD, hi]
theorem flatten_set_snoc : ∀ (ts : List (List Int)) (a : Nat) (x : Int), a < ts.length → (ts.set a (ts.getD a [] ++ [x])).flatten.Perm (ts.flatten ++ [x]) := by
  intro ts
  induction ts with
  | nil => intro a x h; simp at h
  | cons t r ih =>
    intro a x h
    cases a with
    | zero =>
      simp only [List.set_cons_zero, List.getD_cons_zero, List.flatten_cons, List.append_assoc]
      exact List.Perm.append_left t List.perm_append_comm
    | succ a =>
      simp only [List.set_cons_succ, List.getD_cons_succ, List.flatten_cons, List.append_assoc]
      exact List.Perm.append_left t (ih a x (by simpa using h))
theorem Placed.put {cs : List Car} {T k a a2 : Nat} {ts : List (List Int)} (h : Placed cs T k a ts) (h2 : a2 < T) (hs : k ≠ 0 → gAt cs k ≠ 0 → gAt cs k = gAt cs (k - 1) → a2 = a) :
    Placed cs T (k + 1) a2 (ts.set a2 (ts.getD a2 [] ++ [(k : Int)])) := by
  obtain ⟨tr, t1, t2, t3, t4⟩ := h.ex
  have hl := h.len
  refine ⟨by rw [List.length_set]; exact hl, h2, ?_, fun c => if c = k then a2 else tr c, fun i hi => ?_, fun c hc => ?_, fun c hc h0 he => ?_, fun _ => ?_⟩
  · rw [wholeL_succ]
    exact (flatten_set_snoc ts a2 k (by omega)).trans (List.Perm.append_right _ h.perm)
  · have hf : (wholeL k).filter (fun c => decide ((if c.toNat = k then a2 else tr c.toNat) = i)) = ts.getD i [] := by
      rw [t1 i hi]
      refine List.filter_congr fun c hc => ?_
      have := mem_wholeL.1 hc
      rw [if_neg (by omega)]
    rw [wholeL_succ, List.filter_append, hf]
    by_cases e : a2 = i
    · subst e
      simp [List.getD, List.getElem?_set, hl, hi]
    · simp [List.getD, List.getElem?_set, e]
  · show (if c = k then a2 else tr c) < T
    split
    · exact h2
    · exact t2 c (by omega)
  · show (if c + 1 = k then a2 else tr (c + 1)) = (if c = k then a2 else tr c)
    by_cases e1 : c + 1 = k
    · have e3 : ¬ c = k := by omega
      rw [if_pos e1, if_neg e3]
      have := hs (by omega) (by rw [← e1]; exact h0) (by rw [← e1]; exact he)
      rw [this, ← t4 (by omega), ← e1]; rfl
    · have e3 : ¬ c = k := by omega
      rw [if_neg e1, if_neg e3]
      exact t3 c (by omega) h0 he
  · simp
theorem sorted_prev {l : List Int} (hs : l.Pairwise (· < ·)) {j : Nat} (hj : j < l.length) (hm : l.getD j 0 - 1 ∈ l) : 0 < j ∧ l.getD (j - 1) 0 = l.getD j 0 - 1 := by
  obtain ⟨m, hm1, hm2⟩ := List.mem_iff_getElem.1 hm
  have hlt : ∀ (x y : Nat) (hx : x < l.length) (hy : y < l.length), x < y → l.getD x 0 < l.getD y 0 := fun x y hx hy h => by
    have := List.pairwise_iff_getElem.1 hs x y hx hy h
    simpa [List.getD, hx, hy] using this
  have e : l.getD m 0 = l.getD j 0 - 1 := by simpa [List.getD, hm1] using hm2
  have h1 : m < j := by
    rcases Nat.lt_trichotomy m j with h | h | h
    · exact h
    · subst h; omega
    · have := hlt j m hj hm1 h; omega
  rcases Nat.lt_or_ge m (j - 1) with h2 | h2
  · have a := hlt m (j - 1) hm1 (by omega) h2
    have b := hlt (j - 1) j (by omega) hj (by omega)
    omega
  · have : m = j - 1 := by omega
    subst this
    exact ⟨by omega, e⟩
theorem wholeL_sorted (n : Nat) : (wholeL n).Pairwise (· < ·) := by
  unfold wholeL
  rw [List.pairwise_map]
  exact List.pairwise_lt_range.imp fun h => by omega
theorem Placed.groups {cs : List Car} {T a : Nat} {ts : List (List Int)} {g l : Int} (h : Placed cs T cs.length a ts) (hc : CarsInv cs g l) : GrpFrom cs ts [] := by
  obtain ⟨tr, t1, t2, t3, t4⟩ := h.ex
  have hmem : ∀ i, i < T → ∀ c, c ∈ ts.getD i [] ↔ (0 ≤ c ∧ c < cs.length) ∧ tr c.toNat = i := fun i hi c => by
    rw [t1 i hi, List.mem_filter, mem_wholeL, decide_eq_true_eq]
  have hgrp : ∀ c : Int, grp cs c = gAt cs c.toNat := fun c => rfl
  have hrun : ∀ n x : Nat, x + n < cs.length → gAt cs x ≠ 0 → gAt cs x = gAt cs (x + n) → tr (x + n) = tr x := by
    intro n
    induction n with
    | zero => intro x _ _ _; rfl
    | succ n ih =>
      intro x hx h0 e
      have e1 : gAt cs (x + n) = gAt cs x := hc.run x (x + (n + 1)) (by omega) hx e h0 (x + n) (by omega) (by omega)
      have := ih x (by omega) h0 e1.symm
      rw [← this]
      exact t3 (x + n) (by omega) (by rw [show x + n + 1 = x + (n + 1) by omega, ← e]; exact h0) (by rw [show x + n + 1 = x + (n + 1) by omega, ← e, e1])
  have hrun2 : ∀ x y : Nat, x < cs.length → y < cs.length → gAt cs x ≠ 0 → gAt cs x = gAt cs y → tr x = tr y := fun x y hx hy h0 e => by
    rcases Nat.le_total x y with hxy | hxy
    · have := hrun (y - x) x (by omega) h0 (by rw [show x + (y - x) = y by omega]; exact e)
      rw [show x + (y - x) = y by omega] at this
      exact this.symm
    · have := hrun (x - y) y (by omega) (by rw [← e]; exact h0) (by rw [show y + (x - y) = x by omega]; exact e.symm)
      rw [show y + (x - y) = x by omega] at this
      exact this
  intro i j hi hj h0 hm
  rw [h.len] at hi
  have hcm : (ts.getD i []).getD j 0 ∈ ts.getD i [] := getD_mem hj
  obtain ⟨⟨c0, c1⟩, c2⟩ := (hmem i hi _).1 hcm
  generalize hcc : (ts.getD i []).getD j 0 = c at hcm c0 c1 c2 h0 hm
  rcases hm with hm | ⟨c', hc', e⟩
  · simp at hm
  · rw [hgrp, hgrp] at e
    rw [hgrp] at h0
    have hs : (ts.getD i []).Pairwise (· < ·) := by rw [t1 i hi]; exact (wholeL_sorted _).sublist List.filter_sublist
    have hc2 : (0 ≤ c' ∧ c' < cs.length) ∧ (tr c'.toNat < i ∨ c' ∈ (ts.getD i []).take j) := by
      rcases List.mem_append.1 hc' with hx | hx
      · obtain ⟨t, ht, hx⟩ := List.mem_flatten.1 hx
        obtain ⟨m, hm1, hm2⟩ := List.mem_iff_getElem.1 ht
        have hm3 : m < i ∧ m < ts.length := by rw [List.length_take] at hm1; omega
        have e3 : ts.getD m [] = t := by rw [← hm2]; simp [List.getD, hm3.2]
        rw [← e3] at hx
        obtain ⟨hb, ht2⟩ := (hmem m (by rw [← h.len]; exact hm3.2) _).1 hx
        exact ⟨hb, .inl (by omega)⟩
      · exact ⟨((hmem i hi _).1 (List.mem_of_mem_take hx)).1, .inr hx⟩
    obtain ⟨⟨d0, d1⟩, hd⟩ := hc2
    have htr := hrun2 c.toNat c'.toNat (by omega) (by omega) (by omega) e.symm
    rcases hd with hd | hd
    · omega
    · obtain ⟨m, hm1, hm2⟩ := List.mem_iff_getElem.1 hd
      have hm3 : m < j ∧ m < (ts.getD i []).length := by rw [List.length_take] at hm1; omega
      have hlt : c' < c := by
        have h1 := List.pairwise_iff_getElem.1 hs m j hm3.2 hj hm3.1
        have e1 : c' = (ts.getD i [])[m] := by rw [← hm2]; simp
        have e2 : c = (ts.getD i [])[j] := by rw [← hcc, List.getD, List.getElem?_eq_getElem hj]; rfl
        rw [e1, e2]; exact h1
      have e4 : gAt cs (c.toNat - 1) = gAt cs c'.toNat := hc.run c'.toNat c.toNat (by omega) (by omega) e (by omega) (c.toNat - 1) (by omega) (by omega)
      have e5 : tr (c.toNat - 1) = i := by
        have := hrun2 (c.toNat - 1) c.toNat (by omega) (by omega) (by omega) (by omega)
        omega
      have hin : c - 1 ∈ ts.getD i [] := (hmem i hi _).2 ⟨by omega, by rw [show (c - 1).toNat = c.toNat - 1 by omega]; exact e5⟩
      have hp := sorted_prev hs hj (by rw [hcc]; exact hin)
      rw [hcc] at hp
      unfold coupled
      have e6 : ((j : Int) - 1).toNat = j - 1 := by omega
      rw [show (↑j : Int).toNat = j by omega, e6, hp.2, hcc]
      have e7 : inB ↑j 1 (↑(ts.getD i []).length - 1) = true := by simp only [inB, Bool.and_eq_true, decide_eq_true_eq]; omega
      rw [e7]
      have e8 : (carAt cs c).grp = (carAt cs (c - 1)).grp := by
        show gAt cs c.toNat = gAt cs (c - 1).toNat
        rw [show (c - 1).toNat = c.toNat - 1 by omega]; omega
      rw [decide_eq_true (show 0 < (carAt cs c).grp from h0), decide_eq_true e8]; rfl

structure Roomy (cs : List Car) (ts : List (List Int)) (k : Nat) (rm : List Int) : Prop where
  len : rm.length = k
  ok : ∀ n ∈ rm, 0 ≤ n ∧ n ≤ 20
  fits : ∀ i, i < k → lenOf cs (ts.getD i []) ≤ rm.getD i 0
theorem Roomy.nil (cs : List Car) (ts : List (List Int)) : Roomy cs ts 0 [] := ⟨rfl, fun n h => by simp at h, fun i h => by omega⟩
theorem Roomy.snoc {cs : List Car} {ts : List (List Int)} {k : Nat} {rm : List Int} (h : Roomy cs ts k rm) {n : Int} (hn : 0 ≤ n ∧ n ≤ 20) (hf : lenOf cs (ts.getD k []) ≤ n) : Roomy cs ts (k + 1) (rm ++ [n]) := by
  have hl := h.len
  refine ⟨by simp [hl], fun x hx => ?_, fun i hi => ?_⟩
  · rcases List.mem_append.1 hx with hx | hx
    · exact h.ok x hx
    · simp at hx; subst hx; exact hn
  · by_cases e : i < k
    · have := h.fits i e
      have e2 : (rm ++ [n]).getD i 0 = rm.getD i 0 := by simp only [List.getD]; rw [List.getElem?_append_left (by omega)]
      rw [e2]; exact this
    · have : i = k := by omega
      subst this
      have e2 : (rm ++ [n]).getD i 0 = n := by simp only [List.getD]; rw [List.getElem?_append_right (by omega), hl]; simp
      rw [e2]; exact hf
theorem carAt_len {cs : List Car} {g l : Int} (h : CarsInv cs g l) (c : Int) : 0 ≤ (carAt cs c).len ∧ (carAt cs c).len ≤ 3 := by
  unfold carAt
  by_cases hc : c.toNat < cs.length
  · have h1 := h.ok _ (getD_mem (d := noCar) hc)
    have := carOk_range h1.1
    omega
  · simp [List.getD, List.getElem?_eq_none (Nat.le_of_not_lt hc), noCar]
theorem lenOf_3 {cs : List Car} {g l : Int} (h : CarsInv cs g l) (t : List Int) : 0 ≤ lenOf cs t ∧ lenOf cs t ≤ 3 * t.length := by
  induction t with
  | nil => simp [lenOf]
  | cons c t ih =>
    have := carAt_len h c
    simp only [lenOf, List.map_cons, List.sum_cons, List.length_cons] at ih ⊢
    omega
theorem Placed.tracks {cs : List Car} {T k a : Nat} {ts : List (List Int)} (h : Placed cs T k a ts) : ts.flatten.length = k := by rw [h.perm.length_eq, wholeL_length]
theorem Placed.tlen {cs : List Car} {T k a : Nat} {ts : List (List Int)} (h : Placed cs T k a ts) (i : Nat) : (ts.getD i []).length ≤ k := by
  by_cases hi : i < ts.length
  · have := mem_le_flatten (getD_mem (d := []) hi)
    rw [h.tracks] at this; exact this
  · simp [List.getD, List.getElem?_eq_none (Nat.le_of_not_lt hi)]
theorem drawn_valid {cs : List Car} {T a : Nat} {ts : List (List Int)} {rm : List Int} {g l : Int} (hc : CarsInv cs g l) (hp : Placed cs T cs.length a ts) (hr : Roomy cs ts T rm) (h5 : cs.length ≤ 5) (h3 : T ≤ 3) : Valid ⟨cs, rm, ts⟩ := by
  have hT := hp.a0
  refine Fine.valid ⟨h5, fun c hx => (hc.ok c hx).1, by show 0 < rm.length; rw [hr.len]; omega, by show rm.length ≤ 3; rw [hr.len]; exact h3, fun n hn => ?_, by show ts.length = rm.length; rw [hr.len, hp.len], fun t ht c hc2 => ?_, ?_, fun k hk => hr.fits k (by rw [← hp.len]; exact hk), by show cs.length ≤ ts.flatten.length; rw [hp.tracks]; exact Nat.le_refl _, groups_iff.2 (hp.groups hc)⟩
  · have := hr.ok n hn; simp [inB]; omega
  · have : c ∈ wholeL cs.length := hp.perm.mem_iff.1 (List.mem_flatten.2 ⟨t, ht, hc2⟩)
    exact mem_wholeL.1 this
  · show ts.flatten.Nodup
    exact (hp.perm.nodup_iff).2 ((wholeL_sorted _).imp fun h e => by omega)
end Go.Sh
namespace Go.Sh
open Go Go.Sl
theorem carErr_mk {a b c d : Int} {p h : Bool} (h1 : 1 ≤ a ∧ a ≤ 3) (h2 : 1 ≤ b ∧ b ≤ 60) (h3 : 0 ≤ c ∧ c ≤ b) (h4 : 0 ≤ d ∧ d ≤ 3) : carErr ⟨a, b, c, d, p, h⟩ = 0 ∧ a ≤ 3 := by
  refine ⟨?_, h1.2⟩
  unfold carErr
  rw [if_pos]
  simp only [inB, Bool.and_eq_true, decide_eq_true_eq]
  omega
theorem Placed.tl {cs : List Car} {T k a : Nat} {ts : List (List Int)} (h : Placed cs T k a ts) : ∀ t ∈ ts, t.length ≤ k := fun t ht => by
  have := mem_le_flatten ht
  rw [h.tracks] at this; exact this
theorem Placed.okAll {cs : List Car} {T a : Nat} {ts : List (List Int)} (h : Placed cs T cs.length a ts) : OkAll cs ts := fun t ht c hc =>
  mem_wholeL.1 (h.perm.mem_iff.1 (List.mem_flatten.2 ⟨t, ht, hc⟩))
end Go.Sh

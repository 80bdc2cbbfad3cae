/- A part of the proof of the laws of this seat. -/
import Derived.Test.YtcaocbhbofejnaaDoorP4
import Derived.Test.YtcaocbhbofejnaaDoorP0
import Derived.Test.YtcaocbhbofejnaaDoorP3
set_option linter.unusedVariables false
set_option linter.unusedSimpArgs false
namespace Go.Proofs.YtcaocbhbofejnaaDoor
open Go Go.Sl Go.Sh
set_option maxRecDepth 100000
noncomputable def c_Grow (p : List Nat) : Code := sub (bodyOf Tryd.f66) p
theorem Grow_ct (I : Imm) (n : Nat) (hn : n ≤ 1000000) : Ct Tryd.prog 66 #[.slice none 0 0, .int .i64 ↑n] I [] (fun v I' M' => ∃ Ms, M' = Ms ∧ Own 3 1 intCell v ([] : List Int) Ms) := by
 refine fn_of_run (fn := Tryd.f66) (args := [_, _]) (N := 27) Tryd.func66 rfl (by kernel_rfl) (Nat.le_of_ble_eq_true rfl) (fun F => ?_)
 show Run _ _ (c_Grow []) _ _ [(0, .slice none 0 0), (1, .int .i64 (↑n))] _ _
 refine rnm ?_
 refine rqr ?_
 refine sp 1 [(4, .slice none 0 0)] ?_
 refine se ?_
 refine rq ?_
 refine rqr ?_
 refine sp 2 [(6, .bool (cmp .lss (↑n) (0)))] ?_
 refine se ?_
 refine rc 6 rfl (fun h1 => ?_) (fun h1 => ?_)
 ·
  have h1_r := h1
  have h1 := lss_t h1
  exfalso; omega
 ·
  have h1_r := h1
  have h1 := lss_f h1
  refine rskip ?_
  refine pst_next ?_
  refine rq ?_
  refine rqr ?_
  refine sp 5 [(12, .int .i64 (0)), (10, .int .i64 (0)), (8, .int .i64 (↑n))] ?_
  refine sd (dsb 13 (0) (0)) ?_
  refine sd (dsb 14 (↑n) (0 - 0)) ?_
  refine seq_re 14 rfl (show (.int .i64 (↑n - (0 - 0)) : Value) = .int .i64 (↑n) from congrArg (Value.int .i64) (by omega)) ?_
  refine sp 1 [(1, .int .i64 (↑n))] ?_
  refine sn ?_
  refine sp 2 [(16, .bool (cmp .gtr (↑n) (0)))] ?_
  refine se ?_
  refine rc 16 rfl (fun h2 => ?_) (fun h2 => ?_)
  ·
   have h2_r := h2
   have h2 := gtr_t h2
   refine rr ?_
   refine sp 3 [(19, .int .i64 (0)), (17, .slice none 0 0)] ?_
   refine sd (det_eq (det_slice (x := .tmp 17) (lo := none) (hi := some (.tmp 19)) (T := 22) (e := 3) (sz := 1) 0 0 (d := 20) (ty := 22) (gd := none) (by kernel_rfl) rfl (by kernel_rfl) (by kernel_rfl) rfl (.inl ⟨rfl, rfl⟩) (.inr ⟨_, .i64, rfl, rfl⟩) (Nat.le_refl _) (Nat.le_refl _)) (show _ = Value.slice none 0 0 from rfl)) ?_
   refine sp 1 [(21, .int .i64 (↑n))] ?_
   refine sS (stp_appendN (x := .tmp 20) (y := .tmp 21) (T := 22) (T' := 3) (E := 3) (bs := 8) (n := n) (z := .int .i64 0) (d := 22) (ty := 22) (gd := none) (by kernel_rfl) rfl (by kernel_rfl) (by kernel_rfl) (by kernel_rfl) rfl (by kernel_rfl) (by decide) (by kernel_rfl) rfl rfl ⟨by omega, hn⟩ (fun gb nc zs hnc hzs => ?_))
   show Seq _ _ _ _ _ _ ((22, .slice (some ⟨gb, 0, none⟩) n nc) :: _) _ _
   refine sp 2 [(24, .int .i64 (0))] ?_
   refine sd (det_eq (det_slice (x := .tmp 22) (lo := none) (hi := some (.tmp 24)) (T := 22) (e := 3) (sz := 1) 0 0 (d := 25) (ty := 22) (gd := none) (by kernel_rfl) rfl (by kernel_rfl) (by kernel_rfl) rfl (.inl ⟨rfl, rfl⟩) (.inr ⟨_, .i64, rfl, rfl⟩) (Nat.le_refl _) (Nat.zero_le _)) (show _ = Value.slice (some ⟨gb, 0, none⟩) 0 nc by simp [addr_add])) ?_
   have hoG : Own 3 1 intCell (.slice (some ⟨gb, 0, none⟩) 0 nc) ([] : List Int) [(gb, Obj.cells (List.toArray zs) 3 (0, 0))] := Own.empty hzs
   refine seq_mem (M' := (([(gb, Obj.cells (List.toArray zs) 3 (0, 0))] ++ F))) (fun w h => h) ?_
   refine sp 1 [(0, .slice (some ⟨gb, 0, none⟩) 0 nc)] ?_
   refine sn ?_
   refine sp 2 [(4, .slice (some ⟨gb, 0, none⟩) 0 nc)] ?_
   refine se ?_
   refine rret ?_
   refine pst_ret1 (t := 4) ([(gb, Obj.cells (List.toArray zs) 3 (0, 0))]) (by kernel_rfl) rfl (List.Sublist.cons_cons _ (List.Sublist.refl _)) (Imm.le.refl _) ?_
   exact ⟨_, rfl, hoG⟩
  ·
   have h2_r := h2
   have h2 := gtr_f h2
   refine rskip ?_
   refine pst_next ?_
   refine rqr ?_
   refine sp 2 [(4, .slice none 0 0)] ?_
   refine se ?_
   refine rret ?_
   refine pst_ret1 (t := 4) ([]) (by kernel_rfl) rfl (List.Sublist.refl _) (Imm.le.refl _) ?_
   exact ⟨[], rfl, Own.nil _ _ _⟩

noncomputable def c_Concat (p : List Nat) : Code := sub (bodyOf Tryd.f36) p
theorem Concat_ct (I : Imm) (s : Value) (xss : List (List Int)) (s_f : IsRows I s xss) (hl : xss.flatten.length ≤ 1000000) : Ct Tryd.prog 36 #[s] I ([]) (fun v I' M' => ∃ u : Value, ∃ Ms : Seg, v = u ∧ M' = Ms ∧ Own 3 1 intCell u (xss.flatten) Ms) := by
 obtain ⟨s_a, s_c, s_b, s_o, s_vs, s_e, s_l, s_m, s_r, s_w⟩ := id s_f
 subst s_e
 refine fn_of_run (fn := Tryd.f36) (args := [_]) (N := 36) Tryd.func36 rfl (by kernel_rfl) (Nat.le_of_ble_eq_true rfl) (fun F => ?_)
 show Run _ _ (c_Concat []) _ _ [(0, .slice s_a xss.length s_c)] _ _
 refine rnm ?_
 refine rqr ?_
 refine sp 1 [(2, .slice none 0 0)] ?_
 refine sn ?_
 refine sp 1 [(3, .int .i64 (0))] ?_
 refine se ?_
 refine rq ?_
 refine rqr ?_
 refine sp 3 [(11, .int .i64 (0)), (10, .int .i64 (↑(xss.length))), (9, .slice s_a xss.length s_c)] ?_
 refine se ?_
 refine rb 0 ?_
 refine rl (fun mz a w => ∃ k : Nat, (k ≤ xss.length) ∧ Slots 36 [(3, .int .i64 (↑(xss.take k).flatten.length)), (11, .int .i64 ↑k), (0, .slice s_a xss.length s_c), (2, .slice none 0 0), (9, .slice s_a xss.length s_c), (10, .int .i64 (↑(xss.length)))] a ∧ a.defers = [] ∧ St I (F) w ∧ mz = xss.length - k) ?_ ?_
 ·intro a w hS hD hW
  exact ⟨_, 0, Nat.zero_le _, hS.sub (.cons 3 rfl (.cons 11 rfl (.cons 0 rfl (.cons 2 rfl (.cons 9 rfl (.cons 10 rfl (.nil _))))))), hD, hW, rfl⟩
 ·rintro mz a w ⟨k, hk, hS, hD, hW, rfl⟩
  refine run_at hS hD hW ?_
  clear hS hD hW a w
  refine rqr ?_
  refine sp 1 [(12, .bool (cmp .lss (↑k) (↑(xss.length))))] ?_
  refine se ?_
  refine rq ?_
  refine rc 12 rfl (fun h1 => ?_) (fun h1 => ?_)
  ·
   have h1_r := h1
   have h1 := lss_t h1
   refine rskip ?_
   refine pst_next ?_
   refine rq ?_
   refine rb 1 ?_
   refine rqr ?_
   refine sd (di 13 1 (k) s_r.addr) ?_
   have r1_f := s_w (k) (by omega)
   obtain ⟨r1_a, r1_c, r1_b, r1_o, r1_e, r1_l, r1_m, r1_r⟩ := id r1_f
   rw [r1_e] at r1_f
   refine sd (det_eq (dl 14 (rows_get s_r (k) (by omega))) r1_e) ?_
   refine sp 1 [(5, .slice r1_a (xss.getD (k) []).length r1_c)] ?_
   refine sn ?_
   refine sp 3 [(17, .int .i64 (↑((xss.getD (k) []).length))), (15, .int .i64 (↑(xss.take k).flatten.length))] ?_
   refine sd (da 18 (↑(xss.take k).flatten.length) (↑((xss.getD (k) []).length)) (hr := by have hq := flat_le xss k (by omega); omega)) ?_
   refine sp 1 [(3, .int .i64 ((↑(xss.take k).flatten.length) + (↑((xss.getD (k) []).length))))] ?_
   refine sn ?_
   refine sp 2 [(20, .bool (cmp .lss ((↑(xss.take k).flatten.length) + (↑((xss.getD (k) []).length))) (0)))] ?_
   refine se ?_
   refine rc 20 rfl (fun h2 => ?_) (fun h2 => ?_)
   ·
    have h2_r := h2
    have h2 := lss_t h2
    exfalso; omega
   ·
    have h2_r := h2
    have h2 := lss_f h2
    refine rskip ?_
    refine pst_normal_block ?_
    refine pst_next ?_
    refine rr ?_
    refine sd (da 22 (↑k) (1)) ?_
    refine sp 1 [(11, .int .i64 (↑k + 1))] ?_
    refine ee ?_
    refine pst_back (xss.length - (k+1)) (by omega) ?_
    intro a w hS hD hW
    exact ⟨k+1, by omega, hS.sub (.consE 3 rfl (congrArg (Value.int .i64) (flat_succ (by omega)).symm) (.consE 11 rfl rfl (.cons 0 rfl (.cons 2 rfl (.cons 9 rfl (.cons 10 rfl (.nil _))))))), hD, hW, rfl⟩
  ·
   have h1_r := h1
   have h1 := lss_f h1
   refine rexit 0 ?_
   refine (pst_exit_pass (pst_exit_pass (pst_exit_block ?_)))
   refine pst_next ?_
   refine rqr ?_
   refine sp 1 [(23, .int .i64 (↑(xss.take k).flatten.length))] ?_
   have hfl : (xss.take k).flatten = xss.flatten := by rw [take_done (by omega)]
   rw [hfl]
   have hct5 := Grow_ct I xss.flatten.length hl
   refine sS (stp_call (d := (some 24)) (f := (.func 66)) (fid := 66) (args := #[(.const (.slice none 0 0)), (.tmp 23)]) (tys := #[22, 3]) (cv := []) (F := (F)) (ty := 22) (gd := none) (by kernel_rfl) rfl rfl rfl (by kernel_rfl) rfl hct5 (List.Perm.refl _) (fun rv6 I2 rm7 hle3 hp4 => ?_))
   obtain ⟨gMs, hgm, gown⟩ := hp4
   replace s_r := s_r.mono hle3
   replace s_w := fun i hi => (s_w i hi).mono hle3
   rw [hgm]; clear hgm
   obtain ⟨rv_a, rv_c, rv_e, rv_l⟩ := gown.shape; subst rv_e
   refine nm ?_
   show Seq _ _ _ _ _ _ ((24, .slice rv_a (([] : List Int)).length rv_c) :: _) _ _
   refine sp 1 [(6, .slice rv_a (([] : List Int)).length rv_c)] ?_
   refine se ?_
   refine rq ?_
   refine rqr ?_
   refine sp 3 [(27, .int .i64 (0)), (26, .int .i64 (↑(xss.length))), (25, .slice s_a xss.length s_c)] ?_
   refine se ?_
   refine rb 2 ?_
   refine rl (fun mz a w => ∃ J1 : Imm, ∃ j : Nat, ∃ ov1_6 : Value, ∃ oM1_6 : Seg, (I2.le J1) ∧ (j ≤ xss.length) ∧ (Own 3 1 intCell ov1_6 ((xss.take j).flatten) oM1_6) ∧ Slots 36 [(6, ov1_6), (27, .int .i64 ↑j), (2, .slice none 0 0), (25, .slice s_a xss.length s_c), (26, .int .i64 (↑(xss.length)))] a ∧ a.defers = [] ∧ St J1 ((oM1_6 ++ F)) w ∧ mz = xss.length - j) ?_ ?_
   ·intro a w hS hD hW
    exact ⟨_, I2, 0, .slice rv_a (([] : List Int)).length rv_c, gMs, Imm.le.refl _, Nat.zero_le _, gown, hS.sub (.cons 6 rfl (.cons 27 rfl (.cons 2 rfl (.cons 25 rfl (.cons 26 rfl (.nil _)))))), hD, hW, rfl⟩
   ·rintro mz a w ⟨J1, j, ov1_6, oM1_6, hJ1, hj, oh1_6, hS, hD, hW, rfl⟩
    refine run_at hS hD hW ?_
    clear hS hD hW a w
    replace s_r := s_r.mono hJ1
    replace s_w := fun i hi => (s_w i hi).mono hJ1
    obtain ⟨ov1_6_a, ov1_6_c, ov1_6_e, ov1_6_l⟩ := oh1_6.shape; subst ov1_6_e
    refine rqr ?_
    refine sp 1 [(28, .bool (cmp .lss (↑j) (↑(xss.length))))] ?_
    refine se ?_
    refine rq ?_
    refine rc 28 rfl (fun h3 => ?_) (fun h3 => ?_)
    ·
     have h3_r := h3
     have h3 := lss_t h3
     refine rskip ?_
     refine pst_next ?_
     refine rq ?_
     refine rb 3 ?_
     refine rqr ?_
     refine sd (di 29 1 (j) s_r.addr) ?_
     have r8_f := s_w (j) (by omega)
     obtain ⟨r8_a, r8_c, r8_b, r8_o, r8_e, r8_l, r8_m, r8_r⟩ := id r8_f
     rw [r8_e] at r8_f
     refine sd (det_eq (dl 30 (rows_get s_r (j) (by omega))) r8_e) ?_
     refine sp 1 [(8, .slice r8_a (xss.getD (j) []).length r8_c)] ?_
     refine se ?_
     refine rr ?_
     refine sp 2 [(32, .slice r8_a (xss.getD (j) []).length r8_c), (31, .slice ov1_6_a ((xss.take j).flatten).length ov1_6_c)] ?_
     refine sS (stp_append (d := 33) (x := (.tmp 31)) (y := (.tmp 32)) (T := 22) (T' := 22) (E := 3) (E' := 3) (sz := 1) (bs := 8) (z := .int .i64 (0)) (cell := intCell) (xs := (xss.take j).flatten) (ys := xss.getD (j) []) (Ms := oM1_6) (ty := 22) (gd := none) (by kernel_rfl) rfl (by kernel_rfl) (by kernel_rfl) (by kernel_rfl) (by kernel_rfl) (by kernel_rfl) (by decide) (by kernel_rfl) rfl rfl (oh1_6) (List.Perm.refl _) (one_intCell _) r8_f.src (by first | omega | (have hq := flat_le xss j (by omega); omega)) (fun v9 Ms9 ho9 => ?_))
     refine nm ?_
     obtain ⟨oa9, oc9, oe9, ol9⟩ := ho9.shape
     subst oe9
     show Seq _ _ _ _ _ _ ((33, .slice oa9 (((xss.take j).flatten) ++ (xss.getD (j) [])).length oc9) :: _) _ _
     refine sp 1 [(6, .slice oa9 (((xss.take j).flatten) ++ (xss.getD (j) [])).length oc9)] ?_
     refine ee ?_
     refine pst_normal_block ?_
     refine pst_next ?_
     refine rr ?_
     refine sd (da 34 (↑j) (1)) ?_
     refine sp 1 [(27, .int .i64 (↑j + 1))] ?_
     refine ee ?_
     refine pst_back (xss.length - (j+1)) (by omega) ?_
     intro a w hS hD hW
     exact ⟨J1, j+1, .slice oa9 (((xss.take j).flatten) ++ (xss.getD (j) [])).length oc9, Ms9, hJ1, by omega, ((flat_take (xss := xss) (k := j) (by omega)).symm ▸ ho9), hS.sub (.consE 6 rfl rfl (.consE 27 rfl rfl (.cons 2 rfl (.cons 25 rfl (.cons 26 rfl (.nil _)))))), hD, hW, rfl⟩
    ·
     have h3_r := h3
     have h3 := lss_f h3
     refine rexit 2 ?_
     refine (pst_exit_pass (pst_exit_pass (pst_exit_block ?_)))
     refine pst_next ?_
     refine rqr ?_
     refine sp 2 [(2, .slice ov1_6_a ((xss.take j).flatten).length ov1_6_c)] ?_
     refine se ?_
     refine rret ?_
     refine pst_ret1 (t := 2) (oM1_6) (by kernel_rfl) rfl (List.Sublist.append_left (List.Sublist.refl _) _) (Imm.le.trans hle3 hJ1) ?_
     exact ⟨_, _, rfl, rfl, ((show (xss.take j).flatten = xss.flatten from by rw [take_done (by omega)]) ▸ oh1_6)⟩

end Go.Proofs.YtcaocbhbofejnaaDoor
namespace Go.Proofs.YtcaocbhbofejnaaDoor
open Go Go.Sl Go.Sh
set_option maxRecDepth 100000
def GrowAt (n : Nat) : Prop := ∀ (I : Imm) (bg : Value) (begun : List Int) (r : Nat) (es : Array MapEntry) (cl : Nat) (us : List Int) (b2 b3 b4 : Nat) (blv : Value) (bl : List (List Int)) (ov : Value) (ows : List Value) (oMs : Seg) (os : List (List Int)) (hb2 : I.blk b2 = some (Obj.cells #[blv] 24 (0, 0))) (hb4 : I.blk b4 = some (Obj.cells #[.func (.func 35) #[] #[.pointer (some ⟨b2, 0, none⟩), .pointer (some ⟨b3, 0, none⟩), .pointer (some ⟨b4, 0, none⟩)]] 70 (0, 0))) (blv_f : IsRows I blv bl) (bg_f : IsInts I bg begun) (his : MapIs encI es (trues us)) (oo : Own 22 1 valCell ov ows oMs) (orr : RowsV I ows os) (hn : us.length + n = bl.length) (hb5 : bl.length ≤ 5) (hbl : ∀ b ∈ bl, b.length ≤ 5) (hbb : begun.length ≤ 5 * us.length) (hos : os.length + (growM bl n begun us).length ≤ 1000000), Ct Tryd.prog 35 #[bg, .map (some r), .pointer (some ⟨b2, 0, none⟩), .pointer (some ⟨b3, 0, none⟩), .pointer (some ⟨b4, 0, none⟩)] I ((r, Obj.map es cl) :: (b3, Obj.cells #[ov] 24 (0, 0)) :: oMs) (fun v I' M' => ∃ (es' : Array MapEntry) (cl' : Nat) (ov' : Value) (ows' : List Value) (oMs' : Seg), v = .tuple #[] ∧ M' = (r, Obj.map es' cl') :: (b3, Obj.cells #[ov'] 24 (0, 0)) :: oMs' ∧ MapIs encI es' (trues us) ∧ Own 22 1 valCell ov' ows' oMs' ∧ RowsV I' ows' (os ++ growM bl n begun us))
noncomputable def c_Warm1 (p : List Nat) : Code := sub (bodyOf Tryd.f35) p
set_option maxHeartbeats 1000000 in
theorem grow_of (n : Nat) (ihn : ∀ m, m + 1 = n → GrowAt m) (I : Imm) (bg : Value) (begun : List Int) (r : Nat) (es : Array MapEntry) (cl : Nat) (us : List Int) (b2 b3 b4 : Nat) (blv : Value) (bl : List (List Int)) (ov : Value) (ows : List Value) (oMs : Seg) (os : List (List Int)) (hb2 : I.blk b2 = some (Obj.cells #[blv] 24 (0, 0))) (hb4 : I.blk b4 = some (Obj.cells #[.func (.func 35) #[] #[.pointer (some ⟨b2, 0, none⟩), .pointer (some ⟨b3, 0, none⟩), .pointer (some ⟨b4, 0, none⟩)]] 70 (0, 0))) (blv_f : IsRows I blv bl) (bg_f : IsInts I bg begun) (his : MapIs encI es (trues us)) (oo : Own 22 1 valCell ov ows oMs) (orr : RowsV I ows os) (hn : us.length + n = bl.length) (hb5 : bl.length ≤ 5) (hbl : ∀ b ∈ bl, b.length ≤ 5) (hbb : begun.length ≤ 5 * us.length) (hos : os.length + (growM bl n begun us).length ≤ 1000000) : Ct Tryd.prog 35 #[bg, .map (some r), .pointer (some ⟨b2, 0, none⟩), .pointer (some ⟨b3, 0, none⟩), .pointer (some ⟨b4, 0, none⟩)] I ((r, Obj.map es cl) :: (b3, Obj.cells #[ov] 24 (0, 0)) :: oMs) (fun v I' M' => ∃ (es' : Array MapEntry) (cl' : Nat) (ov' : Value) (ows' : List Value) (oMs' : Seg), v = .tuple #[] ∧ M' = (r, Obj.map es' cl') :: (b3, Obj.cells #[ov'] 24 (0, 0)) :: oMs' ∧ MapIs encI es' (trues us) ∧ Own 22 1 valCell ov' ows' oMs' ∧ RowsV I' ows' (os ++ growM bl n begun us)) := by
 obtain ⟨bg_a, bg_c, bg_b, bg_o, bg_e, bg_l, bg_m, bg_r⟩ := id bg_f
 subst bg_e
 obtain ⟨blv_a, blv_c, blv_b, blv_o, blv_vs, blv_e, blv_l, blv_m, blv_r, blv_w⟩ := id blv_f
 subst blv_e
 obtain ⟨ov_a, ov_c, ov_e, ov_l⟩ := oo.shape; subst ov_e
 have orr_len := orr.1
 try simp only [List.length_set, List.length_append, List.length_cons, List.length_nil, List.length_take] at orr_len
 refine fn_of_run (fn := Tryd.f35) (args := [_, _, _, _, _]) (N := 40) Tryd.func35 rfl (by kernel_rfl) (Nat.le_of_ble_eq_true rfl) (fun F => ?_)
 show Run _ _ (c_Warm1 []) _ _ [(0, .slice bg_a begun.length bg_c), (1, .map (some r)), (2, .pointer (some ⟨b2, 0, none⟩)), (3, .pointer (some ⟨b3, 0, none⟩)), (4, .pointer (some ⟨b4, 0, none⟩))] _ _
 refine run_mem (M' := ((r, Obj.map es cl) :: (b3, Obj.cells #[.slice ov_a ows.length ov_c] 24 (0, 0)) :: (oMs ++ F))) (fun w h => by simpa only [List.append_assoc, List.cons_append, List.nil_append] using h) ?_
 refine rnm ?_
 refine rq ?_
 refine rqr ?_
 refine sp 1 [(9, .map (some r))] ?_
 refine sd (det_eq (det_len_map (x := (.tmp 9)) (T := 71) (K := 3) (E := 4) (d := 10) (ty := 3) (gd := none) (by kernel_rfl) rfl (by kernel_rfl) rfl (.inl (List.mem_of_getElem? (i := 0) rfl))) (congrArg (fun n : Nat => Value.int .i64 ↑n) ((MapIs.size his).trans (trues_length _)))) ?_
 refine sd (det_load (v := .slice blv_a bl.length blv_c) (x := (.tmp 2)) (T := 24) (d := 11) (ty := 24) (gd := none) (by kernel_rfl) rfl (by kernel_rfl) rfl (sees_held hb2 rfl)) ?_
 refine sp 2 [(13, .bool (cmp .eql (↑(us.length)) (↑(bl.length))))] ?_
 refine se ?_
 refine rc 13 rfl (fun h1 => ?_) (fun h1 => ?_)
 ·
  have h1_r := h1
  have h1 := eql_t h1
  have hn0 : n = 0 := by omega
  refine rqr ?_
  refine sd (dlb 14 1 0 b3 (.slice ov_a ows.length ov_c)) ?_
  refine sp 1 [(15, .slice bg_a begun.length bg_c)] ?_
  refine sS (sbs 16 22 1 #[.slice bg_a begun.length bg_c] (fun b1 => ?_))
  refine sS (stp_append (d := 17) (x := (.tmp 14)) (y := (.tmp 16)) (T := 24) (T' := 24) (E := 22) (E' := 22) (sz := 1) (bs := 24) (z := .slice none 0 0) (cell := valCell) (xs := ows) (ys := [(.slice bg_a begun.length bg_c : Value)]) (Ms := oMs) (ty := 24) (gd := none) (by kernel_rfl) rfl (by kernel_rfl) (by kernel_rfl) (by kernel_rfl) (by kernel_rfl) (by kernel_rfl) (by decide) (by kernel_rfl) rfl rfl (oo) ((List.Perm.cons _ ((List.Perm.cons _ (List.perm_middle.symm)).trans (List.perm_middle.symm))).trans (List.perm_middle.symm)) (one_valCell rfl) (src_atS 0 rfl rfl) (by first | omega | (have hq := orr_len; have hq2 : (growM bl n begun us).length = 1 := (by rw [hn0]; rfl); simp only [List.length_cons, List.length_nil]; omega)) (fun v3 Ms3 ho3 => ?_))
  refine seq_mem (M' := ((r, Obj.map es cl) :: (b3, Obj.cells #[.slice ov_a ows.length ov_c] 24 (0, 0)) :: (Ms3 ++ F))) (fun w h => (h.perm (List.perm_middle.trans (List.Perm.cons _ (List.perm_middle.trans (List.Perm.cons _ List.perm_middle))))).sub (List.Sublist.cons _ (List.Sublist.refl _))) ?_
  obtain ⟨oa3, oc3, oe3, ol3⟩ := ho3.shape
  subst oe3
  show Seq _ _ _ _ _ _ ((17, .slice oa3 (ows ++ ([(.slice bg_a begun.length bg_c : Value)])).length oc3) :: _) _ _
  have orw4 := (orr).snoc bg_f
  refine sS (ss 1 0 b3 [.slice oa3 (ows ++ ([(.slice bg_a begun.length bg_c : Value)])).length oc3] [.slice oa3 (ows ++ ([(.slice bg_a begun.length bg_c : Value)])).length oc3] (_ :: _ :: _) (cs := [_]) rfl rfl ?_)
  refine se ?_
  refine rret ?_
  refine (pst_ret_pass ?_)
  refine pst_ret0 ([(r, Obj.map es cl)] ++ ([(b3, Obj.cells #[.slice oa3 (ows ++ ([(.slice bg_a begun.length bg_c : Value)])).length oc3] 24 (0, 0))] ++ (Ms3))) (by kernel_rfl) (by simp only [List.append_assoc, List.nil_append, List.cons_append]; exact (List.Sublist.cons_cons _ (List.Sublist.cons_cons _ (List.Sublist.append_left (List.Sublist.refl _) _)))) (Imm.le.refl _) ?_
  exact ⟨_, _, _, _, _, rfl, rfl, his, ho3, (show os ++ [begun] = os ++ growM bl n begun us from by rw [hn0]; rfl) ▸ orw4⟩
 ·
  have h1_r := h1
  have h1 := eql_f h1
  obtain ⟨m, hnm⟩ : ∃ m, n = m + 1 := ⟨n - 1, by omega⟩
  have ih := ihn m (by omega)
  refine rskip ?_
  refine pst_next ?_
  refine rqr ?_
  refine sd (det_load (v := .slice blv_a bl.length blv_c) (x := (.tmp 2)) (T := 24) (d := 18) (ty := 24) (gd := none) (by kernel_rfl) rfl (by kernel_rfl) rfl (sees_held hb2 rfl)) ?_
  refine sp 2 [(20, .int .i64 (0)), (19, .int .i64 (↑(bl.length)))] ?_
  refine se ?_
  refine rb 0 ?_
  refine rl (fun mz a w => ∃ J0 : Imm, ∃ k : Nat, ∃ os1 : List (List Int), ∃ ov1 : Value, ∃ ows1 : List Value, ∃ oM1 : Seg, ∃ es1 : Array MapEntry, ∃ cl1 : Nat, (I.le J0) ∧ (k ≤ bl.length) ∧ (os ++ growM bl n begun us = os1 ++ growFrom bl (growM bl m) begun us k) ∧ (MapIs encI es1 (trues us)) ∧ (Own 22 1 valCell ov1 ows1 oM1) ∧ (RowsV J0 ows1 os1) ∧ Slots 40 [(20, .int .i64 ↑k), (0, .slice bg_a begun.length bg_c), (1, .map (some r)), (4, .pointer (some ⟨b4, 0, none⟩)), (18, .slice blv_a bl.length blv_c), (19, .int .i64 (↑(bl.length)))] a ∧ a.defers = [] ∧ St J0 ((r, Obj.map es1 cl1) :: (b3, Obj.cells #[ov1] 24 (0, 0)) :: (oM1 ++ F)) w ∧ mz = bl.length - k) ?_ ?_
  ·intro a w hS hD hW
   exact ⟨_, I, 0, os, .slice ov_a ows.length ov_c, ows, oMs, es, cl, Imm.le.refl _, Nat.zero_le _, by rw [hnm]; rfl, his, oo, orr, hS.sub (.cons 20 rfl (.cons 0 rfl (.cons 1 rfl (.cons 4 rfl (.cons 18 rfl (.cons 19 rfl (.nil _))))))), hD, hW, rfl⟩
  ·rintro mz a w ⟨J0, k, os1, ov1, ows1, oM1, es1, cl1, hJ0, hk, hr, his1, oo1, or1, hS, hD, hW, rfl⟩
   refine run_at hS hD hW ?_
   clear hS hD hW a w
   replace hb2 := hJ0.blk _ _ hb2
   replace hb4 := hJ0.blk _ _ hb4
   replace bg_f := bg_f.mono hJ0
   replace blv_f := blv_f.mono hJ0
   replace blv_r := blv_r.mono hJ0
   replace blv_w := fun i hi => (blv_w i hi).mono hJ0
   obtain ⟨o1_a, o1_c, o1_e, o1_l⟩ := oo1.shape; subst o1_e
   have or1_len := or1.1
   try simp only [List.length_set, List.length_append, List.length_cons, List.length_nil, List.length_take] at or1_len
   refine rqr ?_
   refine sp 1 [(21, .bool (cmp .lss (↑k) (↑(bl.length))))] ?_
   refine se ?_
   refine rq ?_
   refine rc 21 rfl (fun h2 => ?_) (fun h2 => ?_)
   ·
    have h2_r := h2
    have h2 := lss_t h2
    refine rskip ?_
    refine pst_next ?_
    refine rq ?_
    refine rb 1 ?_
    refine rqr ?_
    refine sp 1 [(22, .int .i64 (↑k))] ?_
    refine sd (di 23 1 (k) blv_r.addr) ?_
    have r5_f := blv_w (k) (by omega)
    obtain ⟨r5_a, r5_c, r5_b, r5_o, r5_e, r5_l, r5_m, r5_r⟩ := id r5_f
    rw [r5_e] at r5_f
    refine sd (det_eq (dl 24 (rows_get blv_r (k) (by omega))) r5_e) ?_
    refine sp 2 [(8, .slice r5_a (bl.getD (k) []).length r5_c), (7, .int .i64 (↑k))] ?_
    refine se ?_
    refine rq ?_
    refine rqr ?_
    refine sp 2 [(26, .int .i64 (↑k)), (25, .map (some r))] ?_
    refine sd (det_lookup (x := (.tmp 25)) (y := (.tmp 26)) (T := 71) (kt := 3) (et := 4) (k := (↑k : Int)) (kvs := trues (us)) (z := .bool false) (d := 27) (ty := 4) (gd := none) (by kernel_rfl) rfl (by kernel_rfl) (keyOk_int (tyI64_spec (by kernel_rfl))) rfl rfl (by kernel_rfl) (.inl (List.mem_of_getElem? (i := 0) rfl)) his1 (getKv_trues _ _)) ?_
    refine se ?_
    refine rc 27 rfl (fun h3 => ?_) (fun h3 => ?_)
    ·
     have h3_r := h3
     have h3 := dec_t h3
     refine rexit 1 ?_
     refine (pst_exit_pass (pst_exit_block ?_))
     refine pst_next ?_
     refine rr ?_
     refine sd (da 39 (↑k) (1)) ?_
     refine sp 1 [(20, .int .i64 (↑k + 1))] ?_
     refine ee ?_
     refine pst_back (bl.length - (k+1)) (by omega) ?_
     intro a w hS hD hW
     exact ⟨J0, k+1, os1, (.slice o1_a ows1.length o1_c), ows1, oM1, es1, cl1, hJ0, by omega, hr.trans (by rw [growFrom_skip (by omega) h3]), his1, oo1, or1, hS.sub (.consE 20 rfl rfl (.cons 0 rfl (.cons 1 rfl (.cons 4 rfl (.cons 18 rfl (.cons 19 rfl (.nil _))))))), hD, hW, rfl⟩
    ·
     have h3_r := h3
     have h3 := dec_f h3
     refine rskip ?_
     refine pst_next ?_
     refine rqr ?_
     refine sp 2 [(29, .int .i64 (↑k)), (28, .map (some r))] ?_
     refine sS (stp_mapUpdate (x := (.tmp 28)) (y := (.tmp 29)) (u := (.const (.bool true))) (T := 71) (kt := 3) (et := 4) (k := (↑k : Int)) (kvs := trues (us)) 0 (ty := 0) (gd := none) (by kernel_rfl) rfl (by kernel_rfl) (keyOk_int (tyI64_spec (by kernel_rfl))) rfl rfl rfl rfl his1 (fun es6 cl6 his6 => ?_))
     rw [upd_trues] at his6
     rw [if_neg h3] at his6
     refine nm ?_
     refine se ?_
     refine rq ?_
     have hbk := hbl _ (getD_mem (d := []) (xs := bl) (k := k) (by omega))
     have hfl : [begun, bl.getD (k) []].flatten.length ≤ 1000000 := by simp only [List.flatten_cons, List.flatten_nil, List.length_append, List.length_nil]; omega
     refine rd 6 [(0, true), (1, true), (2, true), (5, true), (3, false), (4, false)] ((r, Obj.map es6 cl6) :: (b3, Obj.cells #[.slice o1_a ows1.length o1_c] 24 (0, 0)) :: []) ((oM1 ++ F)) ?_
     refine ofp_det (det_load (v := .func (.func 35) #[] #[.pointer (some ⟨b2, 0, none⟩), .pointer (some ⟨b3, 0, none⟩), .pointer (some ⟨b4, 0, none⟩)]) (x := (.tmp 4)) (T := 70) (d := 30) (ty := 70) (gd := none) (by kernel_rfl) rfl (by kernel_rfl) rfl (sees_held hb4 rfl)) ?_
     refine ox 3 [(35, .map (some r)), (32, .slice r5_a (bl.getD (k) []).length r5_c), (31, .slice bg_a begun.length bg_c)] ?_
     refine ofp_stpH (sbs 33 22 2 #[.slice bg_a begun.length bg_c, .slice r5_a (bl.getD (k) []).length r5_c] (fun b7 => ?_))
     refine hk_mem (M' := ((r, Obj.map es6 cl6) :: (b3, Obj.cells #[.slice o1_a ows1.length o1_c] 24 (0, 0)) :: ([(b7, Obj.cells #[.slice bg_a begun.length bg_c, .slice r5_a (bl.getD (k) []).length r5_c] 22 (0, 0))] ++ (oM1 ++ F)))) (fun w h => h.perm ((List.Perm.swap _ _ _).trans (List.Perm.cons _ (List.Perm.swap _ _ _)))) ?_
     have ho9 : Own 22 1 valCell (.slice (some ⟨b7, 0, none⟩) 2 2) ([(.slice bg_a begun.length bg_c : Value), (.slice r5_a (bl.getD (k) []).length r5_c : Value)] : List Value) [(b7, Obj.cells #[.slice bg_a begun.length bg_c, .slice r5_a (bl.getD (k) []).length r5_c] 22 (0, 0))] := Own.lit rfl rfl
     have orw10 := (((RowsV.nil J0).snoc bg_f).snoc r5_f)
     simp only [List.nil_append, List.cons_append] at orw10
     refine hk_freeze (B := ((r, Obj.map es6 cl6) :: (b3, Obj.cells #[.slice o1_a ows1.length o1_c] 24 (0, 0)) :: (oM1 ++ F))) undef ho9 (by first | omega | (simp only [List.length_set, List.length_cons, List.length_nil, List.length_append, List.length_take, List.length_drop] <;> omega) | decide) ((List.Perm.cons _ (List.perm_middle.symm)).trans (List.perm_middle.symm)) (List.Perm.refl _) (fun I11 hle12 fz13_f => ?_)
     replace hb2 := hle12.blk _ _ hb2
     replace hb4 := hle12.blk _ _ hb4
     replace blv_f := blv_f.mono hle12
     replace or1 := or1.mono hle12
     replace orw10 := orw10.mono hle12
     obtain ⟨fz13_a, fz13_c, fz13_b, fz13_o, fz13_e, fz13_l, fz13_m, fz13_r⟩ := id fz13_f
     cases fz13_e
     have fr14_f := orw10.isRows fz13_f
     have fr14_len := orw10.1
     obtain ⟨fr14_a, fr14_c, fr14_b, fr14_o, fr14_vs, fr14_e, fr14_l, fr14_m, fr14_r, fr14_w⟩ := id fr14_f
     injection fr14_e with fr14_e1 fr14_e2 fr14_e3; subst fr14_e1; subst fr14_e3
     refine hk_done ?_
     refine ofp_settle (S' := ((oM1 ++ F))) (List.Perm.refl _) ?_
     have hct25 := Concat_ct I11 _ _ fr14_f (by have hbk := hbl _ (getD_mem (d := []) (xs := bl) (k := k) (by omega)); simp only [List.flatten_cons, List.flatten_nil, List.length_append, List.length_nil]; omega)
     refine ofp_stpH (sc (some 34) (F := ((r, Obj.map es6 cl6) :: (b3, Obj.cells #[.slice o1_a ows1.length o1_c] 24 (0, 0)) :: (oM1 ++ F))) (hct25 :) (List.Perm.refl _) (fun rv23 I15 rm24 hle16 hp17 => ?_))
     obtain ⟨u20, Ms21, hv18, hm19, qh22⟩ := hp17
     rw [hv18, hm19]; clear hv18 hm19
     replace hb2 := hle16.blk _ _ hb2
     replace hb4 := hle16.blk _ _ hb4
     replace blv_f := blv_f.mono hle16
     replace or1 := or1.mono hle16
     obtain ⟨u20_a, u20_c, u20_e, u20_l⟩ := qh22.shape
     subst u20_e
     refine hk_mem (M' := ((Ms21 ++ (r, Obj.map es6 cl6) :: (b3, Obj.cells #[.slice o1_a ows1.length o1_c] 24 (0, 0)) :: (oM1 ++ F)))) (fun w h => by simpa only [List.append_assoc, List.cons_append, List.nil_append] using h) ?_
     refine hk_freeze (B := ((r, Obj.map es6 cl6) :: (b3, Obj.cells #[.slice o1_a ows1.length o1_c] 24 (0, 0)) :: (oM1 ++ F))) 0 qh22 (by first | omega | (simp only [List.length_set, List.length_cons, List.length_nil, List.length_append, List.length_take, List.length_drop] <;> omega) | decide) (List.Perm.refl _) (List.Perm.refl _) (fun I26 hle27 fz28_f => ?_)
     replace hb2 := hle27.blk _ _ hb2
     replace hb4 := hle27.blk _ _ hb4
     replace blv_f := blv_f.mono hle27
     replace or1 := or1.mono hle27
     obtain ⟨fz28_a, fz28_c, fz28_b, fz28_o, fz28_e, fz28_l, fz28_m, fz28_r⟩ := id fz28_f
     cases fz28_e
     refine hk_done ?_
     refine ofp_settle (S' := ((oM1 ++ F))) (List.Perm.refl _) ?_
     show OFP _ _ _ _ _ _ ((34, .slice u20_a (([begun, bl.getD (k) []]).flatten).length u20_c) :: _) _ _
     refine ofp_end ?_
     refine nm ?_
     refine nm ?_
     have hlen := congrArg List.length hr
     rw [growFrom_go (by omega) h3] at hlen; simp only [List.length_append] at hlen
     have hbk := hbl _ (getD_mem (d := []) (xs := bl) (k := k) (by omega))
     have hct32 := ih I26 _ (([begun, bl.getD (k) []]).flatten) r es6 cl6 (us ++ [(k : Int)]) b2 b3 b4 _ bl _ _ _ os1 hb2 hb4 blv_f fz28_f his6 oo1 or1 (by simp only [List.length_append, List.length_cons, List.length_nil]; omega) hb5 hbl (by simp only [List.length_append, List.length_cons, List.length_nil, List.flatten_cons, List.flatten_nil]; omega) (by simp only [List.flatten_cons, List.flatten_nil, List.append_nil]; omega)
     refine sS (stp_call (d := (some 36)) (f := (.tmp 30)) (fid := 35) (args := #[(.tmp 34), (.tmp 35)]) (tys := #[22, 71]) (cv := [.pointer (some ⟨b2, 0, none⟩), .pointer (some ⟨b3, 0, none⟩), .pointer (some ⟨b4, 0, none⟩)]) (F := (F)) (ty := 0) (gd := none) (by kernel_rfl) rfl rfl rfl (by kernel_rfl) rfl hct32 (by simpa only [List.append_assoc, List.cons_append, List.nil_append] using (List.Perm.refl _)) (fun rv33 I29 rm34 hle30 hp31 => ?_))
     obtain ⟨ges, gcl, gov, gows, goM, rfl, hgm, ghis, goo, gor⟩ := hp31
     replace hb2 := hle30.blk _ _ hb2
     replace hb4 := hle30.blk _ _ hb4
     replace or1 := or1.mono hle30
     rw [hgm]; clear hgm
     obtain ⟨gv_a, gv_c, gv_e, gv_l⟩ := goo.shape; subst gv_e
     have gor_len := gor.1
     try simp only [List.length_set, List.length_append, List.length_cons, List.length_nil, List.length_take] at gor_len
     refine seq_mem (M' := ((r, Obj.map ges gcl) :: (b3, Obj.cells #[.slice gv_a gows.length gv_c] 24 (0, 0)) :: (goM ++ F))) (fun w h => by simpa only [List.append_assoc, List.cons_append, List.nil_append] using h) ?_
     refine nm ?_
     show Seq _ _ _ _ _ _ ((36, .tuple #[]) :: _) _ _
     refine se ?_
     refine rr ?_
     refine sp 2 [(38, .int .i64 (↑k)), (37, .map (some r))] ?_
     refine sS (stp_delete (x := (.tmp 37)) (y := (.tmp 38)) (T := 71) (T' := 3) (kt := 3) (et := 4) (k := (↑k : Int)) (kvs := trues (us ++ [(k : Int)])) 0 (ty := 0) (gd := none) (by kernel_rfl) rfl (by kernel_rfl) (keyOk_int (tyI64_spec (by kernel_rfl))) rfl rfl rfl ghis (fun es35 cl35 his35 => ?_))
     rw [del_trues] at his35
     rw [erase_snoc h3] at his35
     refine nm ?_
     refine ee ?_
     refine pst_normal_block ?_
     refine pst_next ?_
     refine rr ?_
     refine sd (da 39 (↑k) (1)) ?_
     refine sp 1 [(20, .int .i64 (↑k + 1))] ?_
     refine ee ?_
     refine pst_back (bl.length - (k+1)) (by omega) ?_
     intro a w hS hD hW
     exact ⟨I29, k+1, os1 ++ growM bl m (([begun, bl.getD (k) []]).flatten) (us ++ [(k : Int)]), (.slice gv_a gows.length gv_c), gows, goM, es35, cl35, (Imm.le.trans (Imm.le.trans (Imm.le.trans (Imm.le.trans hJ0 hle12) hle16) hle27) hle30), by omega, hr.trans (by rw [growFrom_go (by omega) h3]; simp only [List.flatten_cons, List.flatten_nil, List.append_nil, List.append_assoc]), his35, goo, gor, hS.sub (.consE 20 rfl rfl (.cons 0 rfl (.cons 1 rfl (.cons 4 rfl (.cons 18 rfl (.cons 19 rfl (.nil _))))))), hD, hW, rfl⟩
   ·
    have h2_r := h2
    have h2 := lss_f h2
    refine rexit 0 ?_
    refine (pst_exit_pass (pst_exit_pass (pst_exit_block ?_)))
    refine pst_end0 ([(r, Obj.map es1 cl1)] ++ ([(b3, Obj.cells #[.slice o1_a ows1.length o1_c] 24 (0, 0))] ++ (oM1))) (by kernel_rfl) (by simp only [List.append_assoc, List.nil_append, List.cons_append]; exact (List.Sublist.cons_cons _ (List.Sublist.cons_cons _ (List.Sublist.append_left (List.Sublist.refl _) _)))) hJ0 ?_
    exact ⟨_, _, _, _, _, rfl, rfl, his1, oo1, (show os1 = os ++ growM bl n begun us from (hr.trans (by rw [growFrom_done (by omega), List.append_nil])).symm) ▸ or1⟩

theorem grow_all (n : Nat) : GrowAt n := by
 induction n with
 | zero => intro I bg begun r es cl us b2 b3 b4 blv bl ov ows oMs os hb2 hb4 blv_f bg_f his oo orr hn hb5 hbl hbb hos; exact grow_of 0 (fun m h => by omega) I bg begun r es cl us b2 b3 b4 blv bl ov ows oMs os hb2 hb4 blv_f bg_f his oo orr hn hb5 hbl hbb hos
 | succ n ih => intro I bg begun r es cl us b2 b3 b4 blv bl ov ows oMs os hb2 hb4 blv_f bg_f his oo orr hn hb5 hbl hbb hos; exact grow_of (n + 1) (fun m h => (show n = m by omega) ▸ ih) I bg begun r es cl us b2 b3 b4 blv bl ov ows oMs os hb2 hb4 blv_f bg_f his oo orr hn hb5 hbl hbb hos
end Go.Proofs.YtcaocbhbofejnaaDoor
namespace Go.Proofs.YtcaocbhbofejnaaDoor
open Go Go.Sl Go.Sh
set_option maxRecDepth 100000
noncomputable def c_Warm2 (p : List Nat) : Code := sub (bodyOf Tryd.f38) p
theorem Warm2_ct (I : Imm) (lv : Value) (l : List Int) (yb : Nat) (v1 v2 v3 : Value) (Y : Yard) (hyb : I.blk yb = some (Obj.cells #[v1, v2, v3] 26 (0, 0))) (v1_f : IsCars I v1 Y.cars) (v2_f : IsInts I v2 Y.room) (v3_f : IsRows I v3 Y.tracks) (lv_f : IsInts I lv l) (ho : Ok Y.cars l) (hl : l.length ≤ 1000000) : CtV Tryd.prog 38 #[lv, .pointer (some ⟨yb, 0, none⟩)] I (.int .i64 ↑(coldOf Y.cars l).length) := by
 obtain ⟨v1_a, v1_c, v1_b, v1_o, v1_e, v1_l, v1_m, v1_r⟩ := id v1_f
 subst v1_e
 obtain ⟨v2_a, v2_c, v2_b, v2_o, v2_e, v2_l, v2_m, v2_r⟩ := id v2_f
 subst v2_e
 obtain ⟨v3_a, v3_c, v3_b, v3_o, v3_vs, v3_e, v3_l, v3_m, v3_r, v3_w⟩ := id v3_f
 subst v3_e
 obtain ⟨lv_a, lv_c, lv_b, lv_o, lv_e, lv_l, lv_m, lv_r⟩ := id lv_f
 subst lv_e
 refine fn_of_run (fn := Tryd.f38) (args := [_, _]) (N := 8) Tryd.func38 rfl (by kernel_rfl) (Nat.le_of_ble_eq_true rfl) (fun F => ?_)
 show Run _ _ (c_Warm2 []) _ _ [(0, .slice lv_a l.length lv_c), (1, .pointer (some ⟨yb, 0, none⟩))] _ _
 refine rnm ?_
 refine rqr ?_
 refine sp 1 [(3, .int .i64 (0))] ?_
 refine sn ?_
 refine sd (det_loadN (x := (.tmp 1)) (T := 26) (n := 3) (vs := [.slice v1_a Y.cars.length v1_c, .slice v2_a Y.room.length v2_c, .slice v3_a Y.tracks.length v3_c]) (d := 4) (ty := 26) (gd := none) (by kernel_rfl) rfl (by kernel_rfl) (by kernel_rfl) rfl rfl (seesN_held (n := 3) hyb rfl)) ?_
 refine sp 1 [(5, .slice lv_a l.length lv_c)] ?_
 refine sS (sc (some 6) (F := (F)) (cold_ct _ _ (Y) _ _ (mkYard v1_f v2_f v3_f) lv_f (by exact ho) (by exact hl) :) (.refl _) (fun rv9 I1 rm10 hle2 hp3 => ?_))
 obtain ⟨u6, Ms7, hv4, hm5, qh8⟩ := hp3
 rw [hv4, hm5]; clear hv4 hm5
 replace hyb := hle2.blk _ _ hyb
 obtain ⟨u6_a, u6_c, u6_e, u6_l⟩ := qh8.shape
 subst u6_e
 refine nm ?_
 show Seq _ _ _ _ _ _ ((6, .slice u6_a (coldOf Y.cars l).length u6_c) :: _) _ _
 refine sp 2 [(3, .int .i64 (↑((coldOf Y.cars l).length)))] ?_
 refine se ?_
 refine rret ?_
 refine pst_ret1 (t := 3) [] (by kernel_rfl) rfl (List.Sublist.trans (List.Sublist.refl _) (List.sublist_append_right _ _)) hle2 ?_
 exact ⟨rfl, rfl⟩

noncomputable def c_least1 (p : List Nat) : Code := sub (bodyOf Tryd.f68) p
theorem least1_ct (I : Imm) (av bv : Value) (xs ys : List Int) (yb : Nat) (v1 v2 v3 : Value) (Y : Yard) (hyb : I.blk yb = some (Obj.cells #[v1, v2, v3] 26 (0, 0))) (v1_f : IsCars I v1 Y.cars) (v2_f : IsInts I v2 Y.room) (v3_f : IsRows I v3 Y.tracks) (nb2 nb3 : Nat) (hnb2 : I.blk nb2 = some (Obj.cells #[.func (.func 38) #[] #[.pointer (some ⟨yb, 0, none⟩)]] 75 (0, 0))) (hnb3 : I.blk nb3 = some (Obj.cells #[.func (.func 40) #[] #[]] 76 (0, 0))) (av_f : IsInts I av xs) (bv_f : IsInts I bv ys) (hox : Ok Y.cars xs) (hoy : Ok Y.cars ys) (hlx : xs.length ≤ 1000000) (hly : ys.length ≤ 1000000) : CtV Tryd.prog 68 #[av, bv, .pointer (some ⟨nb2, 0, none⟩), .pointer (some ⟨nb3, 0, none⟩)] I (.int .i64 (warmCmp Y.cars xs ys)) := by
 obtain ⟨v1_a, v1_c, v1_b, v1_o, v1_e, v1_l, v1_m, v1_r⟩ := id v1_f
 subst v1_e
 obtain ⟨v2_a, v2_c, v2_b, v2_o, v2_e, v2_l, v2_m, v2_r⟩ := id v2_f
 subst v2_e
 obtain ⟨v3_a, v3_c, v3_b, v3_o, v3_vs, v3_e, v3_l, v3_m, v3_r, v3_w⟩ := id v3_f
 subst v3_e
 obtain ⟨av_a, av_c, av_b, av_o, av_e, av_l, av_m, av_r⟩ := id av_f
 obtain ⟨bv_a, bv_c, bv_b, bv_o, bv_e, bv_l, bv_m, bv_r⟩ := id bv_f
 subst av_e; subst bv_e
 refine fn_of_run (fn := Tryd.f68) (args := [_, _, _, _]) (N := 22) Tryd.func68 rfl (by kernel_rfl) (Nat.le_of_ble_eq_true rfl) (fun F => ?_)
 show Run _ _ (c_least1 []) _ _ [(0, .slice av_a xs.length av_c), (1, .slice bv_a ys.length bv_c), (2, .pointer (some ⟨nb2, 0, none⟩)), (3, .pointer (some ⟨nb3, 0, none⟩))] _ _
 refine rnm ?_
 refine rqr ?_
 refine sp 1 [(6, .int .i64 (0))] ?_
 refine se ?_
 refine rq ?_
 refine rq ?_
 refine rd0 5 ?_
 refine ofp_det (det_load (v := .func (.func 38) #[] #[.pointer (some ⟨yb, 0, none⟩)]) (x := (.tmp 2)) (T := 75) (d := 8) (ty := 75) (gd := none) (by kernel_rfl) rfl (by kernel_rfl) rfl (sees_held hnb2 rfl)) ?_
 refine ox 1 [(9, .slice av_a xs.length av_c)] ?_
 refine ofp_det (dc 10 (fun I' hI => Warm2_ct I' _ _ yb _ _ _ Y (hI.blk _ _ hyb) (v1_f.mono hI) (v2_f.mono hI) (v3_f.mono hI) (av_f.mono hI) (by first | exact hox | exact hoy) (by omega))) ?_
 refine ofp_det (det_load (v := .func (.func 38) #[] #[.pointer (some ⟨yb, 0, none⟩)]) (x := (.tmp 2)) (T := 75) (d := 11) (ty := 75) (gd := none) (by kernel_rfl) rfl (by kernel_rfl) rfl (sees_held hnb2 rfl)) ?_
 refine ox 1 [(12, .slice bv_a ys.length bv_c)] ?_
 refine ofp_end0 ?_
 refine sd (dc 13 (fun I' hI => Warm2_ct I' _ _ yb _ _ _ Y (hI.blk _ _ hyb) (v1_f.mono hI) (v2_f.mono hI) (v3_f.mono hI) (bv_f.mono hI) (by first | exact hox | exact hoy) (by omega))) ?_
 refine sd (dsb 14 (↑(coldOf Y.cars xs).length) (↑(coldOf Y.cars ys).length) (hr := by have q1 := coldOf_le Y.cars xs; have q2 := coldOf_le Y.cars ys; omega)) ?_
 refine sp 1 [(7, .int .i64 ((↑(coldOf Y.cars xs).length) - (↑(coldOf Y.cars ys).length)))] ?_
 refine sn ?_
 refine sp 2 [(16, .bool (!(cmp .eql ((↑(coldOf Y.cars xs).length) - (↑(coldOf Y.cars ys).length)) (0))))] ?_
 refine se ?_
 refine rc 16 rfl (fun h1 => ?_) (fun h1 => ?_)
 ·
  have h1_r := h1
  have h1 := not_t h1
  have h1 := eql_f h1
  refine rqr ?_
  refine sp 2 [(6, .int .i64 ((↑(coldOf Y.cars xs).length) - (↑(coldOf Y.cars ys).length)))] ?_
  refine se ?_
  refine rret ?_
  refine (pst_ret_pass ?_)
  refine pst_ret1 (t := 6) [] (by kernel_rfl) rfl (List.Sublist.refl _) (Imm.le.refl _) ?_
  exact ⟨congrArg (Value.int .i64) (show _ = warmCmp Y.cars xs ys from (if_neg h1).symm), rfl⟩
 ·
  have h1_r := h1
  have h1 := not_f h1
  have h1 := eql_t h1
  refine rskip ?_
  refine pst_next ?_
  refine rqr ?_
  refine sd (det_load (v := .func (.func 40) #[] #[]) (x := (.tmp 3)) (T := 76) (d := 18) (ty := 76) (gd := none) (by kernel_rfl) rfl (by kernel_rfl) rfl (sees_held hnb3 rfl)) ?_
  refine sp 2 [(20, .slice bv_a ys.length bv_c), (19, .slice av_a xs.length av_c)] ?_
  refine sd (dc 21 (fun I' hI => (cmpL_ct I' _ _ _ _ (av_f.mono hI) (bv_f.mono hI) :))) ?_
  refine sp 1 [(6, .int .i64 ((cmpL xs ys)))] ?_
  refine se ?_
  refine rret ?_
  refine pst_ret1 (t := 6) [] (by kernel_rfl) rfl (List.Sublist.refl _) (Imm.le.refl _) ?_
  exact ⟨congrArg (Value.int .i64) (show _ = warmCmp Y.cars xs ys from (if_pos h1).symm), rfl⟩

noncomputable def c_MinFunc (p : List Nat) : Code := sub (bodyOf Tryd.f67) p
theorem MinFunc_ct (I : Imm) (sv : Value) (l : List (List Int)) (fid : FuncId) (cv : List Value) (f : List Int → List Int → Int) (hcl : callable Tryd.prog fid = true) (sv_f : IsRows I sv l) (hl : 0 < l.length) (hl2 : l.length ≤ 1000000) (hc : ∀ J xs ys a b, I.le J → xs ∈ l → ys ∈ l → IsInts J a xs → IsInts J b ys → CtV Tryd.prog fid (a :: b :: cv).toArray J (.int .i64 (f xs ys))) : Ct Tryd.prog 67 #[sv, .func (.func fid) #[] cv.toArray] I [] (fun v I' M' => M' = [] ∧ IsInts I' v (minF f (l.drop 1) (l.getD 0 []))) := by
 obtain ⟨sv_a, sv_c, sv_b, sv_o, sv_vs, sv_e, sv_l, sv_m, sv_r, sv_w⟩ := id sv_f
 subst sv_e
 refine fn_of_run (fn := Tryd.f67) (args := [_, _]) (N := 33) Tryd.func67 rfl (by kernel_rfl) (Nat.le_of_ble_eq_true rfl) (fun F => ?_)
 show Run _ _ (c_MinFunc []) _ _ [(0, .slice sv_a l.length sv_c), (1, .func (.func fid) #[] cv.toArray)] _ _
 refine rnm ?_
 refine rqr ?_
 refine sp 1 [(4, .slice none 0 0)] ?_
 refine se ?_
 refine rq ?_
 refine rqr ?_
 refine sp 3 [(9, .bool (cmp .lss (↑(l.length)) (1)))] ?_
 refine se ?_
 refine rc 9 rfl (fun h1 => ?_) (fun h1 => ?_)
 ·
  have h1_r := h1
  have h1 := lss_t h1
  exfalso; omega
 ·
  have h1_r := h1
  have h1 := lss_f h1
  refine rskip ?_
  refine pst_next ?_
  refine rqr ?_
  refine sp 1 [(11, .slice sv_a l.length sv_c)] ?_
  refine sd (di 12 1 (0) sv_r.addr) ?_
  have r1_f := sv_w (0) (by omega)
  obtain ⟨r1_a, r1_c, r1_b, r1_o, r1_e, r1_l, r1_m, r1_r⟩ := id r1_f
  rw [r1_e] at r1_f
  refine sd (det_eq (dl 13 (rows_get sv_r (0) (by omega))) r1_e) ?_
  refine sp 1 [(5, .slice r1_a (l.getD (0) []).length r1_c)] ?_
  refine se ?_
  refine rq ?_
  refine rqr ?_
  refine sp 1 [(6, .int .i64 (1))] ?_
  refine se ?_
  refine rb 0 ?_
  refine rl (fun mz a w => ∃ k : Nat, ∃ mv : Value, ∃ mm : List Int, (1 ≤ k) ∧ (k ≤ l.length) ∧ (IsInts I mv mm) ∧ (mm ∈ l) ∧ (minF f (l.drop 1) (l.getD 0 []) = minF f (l.drop k) mm) ∧ Slots 33 [(5, mv), (6, .int .i64 (↑k)), (0, .slice sv_a l.length sv_c), (1, .func (.func fid) #[] cv.toArray), (4, .slice none 0 0)] a ∧ a.defers = [] ∧ St I (F) w ∧ mz = l.length - k) ?_ ?_
  ·intro a w hS hD hW
   exact ⟨_, 1, (.slice r1_a (l.getD (0) []).length r1_c), l.getD 0 [], Nat.le_refl _, by omega, r1_f, getD_mem hl, rfl, hS.sub (.cons 5 rfl (.cons 6 rfl (.cons 0 rfl (.cons 1 rfl (.cons 4 rfl (.nil _)))))), hD, hW, rfl⟩
  ·rintro mz a w ⟨k, mv, mm, hk1, hk, mv_f, hmm, hr, hS, hD, hW, rfl⟩
   refine run_at hS hD hW ?_
   clear hS hD hW a w
   obtain ⟨mv_a, mv_c, mv_b, mv_o, mv_e, mv_l, mv_m, mv_r⟩ := id mv_f
   subst mv_e
   refine rq ?_
   refine rqr ?_
   refine sp 4 [(17, .bool (cmp .lss (↑k) (↑(l.length))))] ?_
   refine se ?_
   refine rc 17 rfl (fun h2 => ?_) (fun h2 => ?_)
   ·
    have h2_r := h2
    have h2 := lss_t h2
    refine rskip ?_
    refine pst_next ?_
    refine rq ?_
    refine rb 1 ?_
    refine rqr ?_
    refine sp 3 [(22, .int .i64 (↑k)), (21, .slice sv_a l.length sv_c), (20, .func (.func fid) #[] cv.toArray)] ?_
    refine sd (di 23 1 (k) sv_r.addr) ?_
    have r2_f := sv_w (k) (by omega)
    obtain ⟨r2_a, r2_c, r2_b, r2_o, r2_e, r2_l, r2_m, r2_r⟩ := id r2_f
    rw [r2_e] at r2_f
    refine sd (det_eq (dl 24 (rows_get sv_r (k) (by omega))) r2_e) ?_
    refine sp 1 [(25, .slice mv_a mm.length mv_c)] ?_
    refine sd (det_call (f := .tmp 20) (fid := fid) (args := #[.tmp 24, .tmp 25]) (tys := #[22, 22]) (cv := cv) (v := .int .i64 (f (l.getD (k) []) mm)) (d := 26) (ty := 3) (gd := none) (by kernel_rfl) rfl rfl rfl hcl rfl (fun I' hI => hc I' _ _ _ _ hI (getD_mem (by omega)) hmm (r2_f.mono hI) (mv_f.mono hI))) ?_
    refine sp 1 [(27, .bool (cmp .lss (f (l.getD (k) []) mm) (0)))] ?_
    refine se ?_
    refine rc 27 rfl (fun h3 => ?_) (fun h3 => ?_)
    ·
     have h3_r := h3
     have h3 := lss_t h3
     refine rr ?_
     refine sp 2 [(29, .int .i64 (↑k)), (28, .slice sv_a l.length sv_c)] ?_
     refine sd (di 30 1 (k) sv_r.addr) ?_
     have r3_f := sv_w (k) (by omega)
     obtain ⟨r3_a, r3_c, r3_b, r3_o, r3_e, r3_l, r3_m, r3_r⟩ := id r3_f
     rw [r3_e] at r3_f
     refine sd (det_eq (dl 31 (rows_get sv_r (k) (by omega))) r3_e) ?_
     refine sp 1 [(5, .slice r3_a (l.getD (k) []).length r3_c)] ?_
     refine ee ?_
     refine pst_normal_block ?_
     refine pst_next ?_
     refine rr ?_
     refine sp 1 [(18, .int .i64 (↑k))] ?_
     refine sd (da 19 (↑k) (1)) ?_
     refine sp 1 [(6, .int .i64 (↑k + 1))] ?_
     refine ee ?_
     refine pst_back (l.length - (k+1)) (by omega) ?_
     intro a w hS hD hW
     exact ⟨k+1, (.slice r3_a (l.getD (k) []).length r3_c), l.getD (k) [], by omega, by omega, r3_f, getD_mem (by omega), hr.trans (minF_take (by omega) h3), hS.sub (.consE 5 rfl rfl (.consE 6 rfl rfl (.cons 0 rfl (.cons 1 rfl (.cons 4 rfl (.nil _)))))), hD, hW, rfl⟩
    ·
     have h3_r := h3
     have h3 := lss_f h3
     refine rskip ?_
     refine pst_normal_block ?_
     refine pst_next ?_
     refine rr ?_
     refine sp 1 [(18, .int .i64 (↑k))] ?_
     refine sd (da 19 (↑k) (1)) ?_
     refine sp 1 [(6, .int .i64 (↑k + 1))] ?_
     refine ee ?_
     refine pst_back (l.length - (k+1)) (by omega) ?_
     intro a w hS hD hW
     exact ⟨k+1, (.slice mv_a mm.length mv_c), mm, by omega, by omega, mv_f, hmm, hr.trans (minF_leave (by omega) (by omega)), hS.sub (.consE 5 rfl rfl (.consE 6 rfl rfl (.cons 0 rfl (.cons 1 rfl (.cons 4 rfl (.nil _)))))), hD, hW, rfl⟩
   ·
    have h2_r := h2
    have h2 := lss_f h2
    refine rexit 0 ?_
    refine (pst_exit_pass (pst_exit_pass (pst_exit_block ?_)))
    refine pst_next ?_
    refine rqr ?_
    refine sp 2 [(4, .slice mv_a mm.length mv_c)] ?_
    refine se ?_
    refine rret ?_
    refine pst_ret1 (t := 4) [] (by kernel_rfl) rfl (List.Sublist.refl _) (Imm.le.refl _) ?_
    exact ⟨rfl, (show mm = _ from (hr.trans (minF_done (by omega))).symm) ▸ mv_f⟩

noncomputable def c_least (p : List Nat) : Code := sub (bodyOf Tryd.f37) p
theorem least_ct (I : Imm) (sv : Value) (l : List (List Int)) (yb : Nat) (v1 v2 v3 : Value) (Y : Yard) (hyb : I.blk yb = some (Obj.cells #[v1, v2, v3] 26 (0, 0))) (v1_f : IsCars I v1 Y.cars) (v2_f : IsInts I v2 Y.room) (v3_f : IsRows I v3 Y.tracks) (sv_f : IsRows I sv l) (hl : 0 < l.length) (hl2 : l.length ≤ 1000000) (hok : ∀ xs ∈ l, Ok Y.cars xs ∧ xs.length ≤ 1000000) : Ct Tryd.prog 37 #[sv, .func (.func 38) #[] #[.pointer (some ⟨yb, 0, none⟩)], .func (.func 40) #[] #[]] I [] (fun v I' M' => M' = [] ∧ IsInts I' v (minF (warmCmp Y.cars) (l.drop 1) (l.getD 0 []))) := by
 obtain ⟨v1_a, v1_c, v1_b, v1_o, v1_e, v1_l, v1_m, v1_r⟩ := id v1_f
 subst v1_e
 obtain ⟨v2_a, v2_c, v2_b, v2_o, v2_e, v2_l, v2_m, v2_r⟩ := id v2_f
 subst v2_e
 obtain ⟨v3_a, v3_c, v3_b, v3_o, v3_vs, v3_e, v3_l, v3_m, v3_r, v3_w⟩ := id v3_f
 subst v3_e
 obtain ⟨sv_a, sv_c, sv_b, sv_o, sv_vs, sv_e, sv_l, sv_m, sv_r, sv_w⟩ := id sv_f
 subst sv_e
 refine fn_of_run (fn := Tryd.f37) (args := [_, _, _]) (N := 10) Tryd.func37 rfl (by kernel_rfl) (Nat.le_of_ble_eq_true rfl) (fun F => ?_)
 show Run _ _ (c_least []) _ _ [(0, .slice sv_a l.length sv_c), (1, .func (.func 38) #[] #[.pointer (some ⟨yb, 0, none⟩)]), (2, .func (.func 40) #[] #[])] _ _
 refine rnm ?_
 refine rqr ?_
 refine sS (sb 4 75 #[.func (.func 38) #[] #[.pointer (some ⟨yb, 0, none⟩)]] (fun b1 => ?_))
 refine sS (sb 5 76 #[.func (.func 40) #[] #[]] (fun b3 => ?_))
 refine sp 1 [(6, .slice none 0 0)] ?_
 refine sn ?_
 refine seq_hold (b := b1) (o := Obj.cells #[.func (.func 38) #[] #[.pointer (some ⟨yb, 0, none⟩)]] 75 (0, 0)) (M0 := ((b3, Obj.cells #[.func (.func 40) #[] #[]] 76 (0, 0)) :: F)) (List.Perm.swap _ _ _) (fun I5 hle6 hb7 => ?_)
 replace v1_f := v1_f.mono hle6
 replace v2_f := v2_f.mono hle6
 replace v3_f := v3_f.mono hle6
 replace hyb := hle6.blk _ _ hyb
 replace sv_f := sv_f.mono hle6
 refine seq_hold (b := b3) (o := Obj.cells #[.func (.func 40) #[] #[]] 76 (0, 0)) (M0 := (F)) (List.Perm.refl _) (fun I8 hle9 hb10 => ?_)
 replace v1_f := v1_f.mono hle9
 replace v2_f := v2_f.mono hle9
 replace v3_f := v3_f.mono hle9
 replace hyb := hle9.blk _ _ hyb
 replace sv_f := sv_f.mono hle9
 replace hb7 := hle9.blk _ _ hb7
 refine sp 2 [(8, .func (.func 68) #[] #[.pointer (some ⟨b1, 0, none⟩), .pointer (some ⟨b3, 0, none⟩)]), (7, .slice sv_a l.length sv_c)] ?_
 have hcc : ∀ J xs ys a b, I8.le J → xs ∈ l → ys ∈ l → IsInts J a xs → IsInts J b ys → CtV Tryd.prog 68 (a :: b :: [.pointer (some ⟨b1, 0, none⟩), .pointer (some ⟨b3, 0, none⟩)]).toArray J (.int .i64 (warmCmp Y.cars xs ys)) := fun J xs ys a b hJ h1 h2 h3 h4 => least1_ct J a b xs ys yb _ _ _ Y (hJ.blk _ _ hyb) (v1_f.mono hJ) (v2_f.mono hJ) (v3_f.mono hJ) b1 b3 (hJ.blk _ _ hb7) (hJ.blk _ _ hb10) h3 h4 (hok xs h1).1 (hok ys h2).1 (hok xs h1).2 (hok ys h2).2
 have hct14 := MinFunc_ct I8 _ l 68 [.pointer (some ⟨b1, 0, none⟩), .pointer (some ⟨b3, 0, none⟩)] (warmCmp Y.cars) (by kernel_rfl) sv_f hl hl2 hcc
 refine sS (stp_call (d := (some 9)) (f := (.func 67)) (fid := 67) (args := #[(.tmp 7), (.tmp 8)]) (tys := #[24, 76]) (cv := []) (F := (F)) (ty := 22) (gd := none) (by kernel_rfl) rfl rfl rfl (by kernel_rfl) rfl hct14 (List.Perm.refl _) (fun rv15 I11 rm16 hle12 hp13 => ?_))
 obtain ⟨hgm, rv_f⟩ := hp13
 replace hyb := hle12.blk _ _ hyb
 replace hb7 := hle12.blk _ _ hb7
 replace hb10 := hle12.blk _ _ hb10
 subst hgm
 obtain ⟨rv_a, rv_c, rv_b, rv_o, rv_e, rv_l, rv_m, rv_r⟩ := id rv_f
 subst rv_e
 refine nm ?_
 show Seq _ _ _ _ _ _ ((9, .slice rv_a (minF (warmCmp Y.cars) (l.drop 1) (l.getD 0 [])).length rv_c) :: _) _ _
 refine sp 1 [(6, .slice rv_a (minF (warmCmp Y.cars) (l.drop 1) (l.getD 0 [])).length rv_c)] ?_
 refine se ?_
 refine rret ?_
 refine pst_ret1 (t := 6) [] (by kernel_rfl) rfl (List.Sublist.refl _) (Imm.le.trans (Imm.le.trans hle6 hle9) hle12) ?_
 exact ⟨rfl, rv_f⟩

end Go.Proofs.YtcaocbhbofejnaaDoor
namespace Go.Sl
open Go
theorem St.permL {I : Imm} {A A' B : Seg} {w : World} (h : A.Perm A') (st : St I (A ++ B) w) : St I (A' ++ B) w := st.perm (List.Perm.append_right _ h)
section
variable {ρ : Option Nat} {P : Program} {N : Nat} {ds : List Deferred} {l : Sl} {I : Imm} {M A B eM : Seg} {Q : Exit → Act → World → Prop} {E : TypeId} {vs : List Value} {xss : List (List Int)}
theorem rn_freezeEach {c : Code} (h : OwnEach E vs xss eM) (hl : ∀ xs ∈ xss, xs.length ≤ 1000000) (hM : M.Perm (eM ++ A)) (hA : A.Perm B)
    (next : ∀ J, I.le J → RowsV J vs xss → Run (ρ := ρ) P N c Q ds l J B) : Run (ρ := ρ) P N c Q ds l I M := fun a w hS hD hW => by
  obtain ⟨J, h1, h2, h3⟩ := h.freeze (fun xs hx => by have := hl xs hx; omega) (hW.perm hM)
  exact next J h1 h2 a w hS hD (h3.perm hA)
end
end Go.Sl
namespace Go.Sh
open Go Go.Sl
theorem blocksTo_yesI {cs : List Car} {t : List Int} {k i : Nat} (h : coupled cs t ↑k = true) (hi : i = (blocksTo cs t k).length - 1) : blocksTo cs t (k + 1) = (blocksTo cs t k).set i ((blocksTo cs t k).getD i [] ++ [t.getD k 0]) := by
  subst hi; exact blocksTo_yes h
theorem blocksTo_mem {cs : List Car} {t : List Int} {p : Int → Prop} (ht : ∀ x ∈ t, p x) : ∀ k, k ≤ t.length → ∀ b ∈ blocksTo cs t k, ∀ x ∈ b, p x := by
  intro k
  induction k with
  | zero => intro _ b hb; simp [blocksTo] at hb
  | succ k ih =>
    intro hk b hb x hx
    have ih := ih (by omega)
    have hm : t.getD k 0 ∈ t := getD_mem (by omega)
    simp only [blocksTo, stepB] at hb
    split at hb
    · rename_i hc
      have hp := coupled_pos hc
      rcases List.mem_or_eq_of_mem_set hb with hb | e
      · exact ih b hb x hx
      · subst e
        rcases List.mem_append.1 hx with hx | hx
        · have hm : (blocksTo cs t k).getD ((blocksTo cs t k).length - 1) [] ∈ blocksTo cs t k := getD_mem (by have := (blocksTo_len cs t k).2.1 (by omega); omega)
          exact ih _ hm x hx
        · simp at hx; subst hx; exact ht _ hm
    · rcases List.mem_append.1 hb with hb | hb
      · exact ih b hb x hx
      · simp at hb; subst hb; simp at hx; subst hx; exact ht _ hm
theorem blocksTo_flat {cs : List Car} {t : List Int} : ∀ k, k ≤ t.length → (blocksTo cs t k).flatten = t.take k := by
  intro k
  induction k with
  | zero => intro _; simp [blocksTo]
  | succ k ih =>
    intro hk
    have ih := ih (by omega)
    rw [take_snoc (d := 0) (by omega), ← ih]
    simp only [blocksTo, stepB]
    split
    · rename_i hc
      have hp := coupled_pos hc
      have hl := (blocksTo_len cs t k).2.1 (by omega)
      obtain ⟨ys, y, e⟩ : ∃ ys y, blocksTo cs t k = ys ++ [y] := by
        rcases List.eq_nil_or_concat (blocksTo cs t k) with h | ⟨ys, y, h⟩
        · rw [h] at hl; simp at hl
        · exact ⟨ys, y, by rw [h, List.concat_eq_append]⟩
      rw [e]
      have e2 : (ys ++ [y]).length - 1 = ys.length := by simp
      rw [e2, List.set_append_right _ _ (Nat.le_refl _)]
      simp [List.getD]
    · simp
theorem growM_mem {bl : List (List Int)} {p : Int → Prop} (hb : ∀ b ∈ bl, ∀ x ∈ b, p x) : ∀ (n : Nat) (begun us : List Int), (∀ x ∈ begun, p x) → ∀ l ∈ growM bl n begun us, ∀ x ∈ l, p x := by
  intro n
  induction n with
  | zero => intro begun us h l hl x hx; simp [growM] at hl; subst hl; exact h x hx
  | succ n ih =>
    intro begun us h l hl x hx
    simp only [growM, growFrom, List.mem_flatMap] at hl
    obtain ⟨i, hi, hl⟩ := hl
    split at hl
    · simp at hl
    · refine ih _ _ (fun y hy => ?_) l hl x hx
      rcases List.mem_append.1 hy with hy | hy
      · exact h y hy
      · by_cases hi2 : i < bl.length
        · exact hb _ (getD_mem hi2) y hy
        · simp [List.getD, List.getElem?_eq_none (Nat.le_of_not_lt hi2)] at hy
theorem growM_len {bl : List (List Int)} {m : Nat} (hb : ∀ b ∈ bl, b.length ≤ m) : ∀ (n : Nat) (begun us : List Int), ∀ l ∈ growM bl n begun us, l.length ≤ begun.length + m * n := by
  intro n
  induction n with
  | zero => intro begun us l hl; simp [growM] at hl; subst hl; simp
  | succ n ih =>
    intro begun us l hl
    simp only [growM, growFrom, List.mem_flatMap] at hl
    obtain ⟨i, hi, hl⟩ := hl
    split at hl
    · simp at hl
    · have h1 := ih _ _ l hl
      have h2 : (bl.getD i []).length ≤ m := by
        by_cases hi2 : i < bl.length
        · exact hb _ (getD_mem hi2)
        · simp [List.getD, List.getElem?_eq_none (Nat.le_of_not_lt hi2)]
      rw [List.length_append] at h1
      rw [Nat.mul_succ]; omega
theorem flatMap_leAll {α β : Type} (f : α → List β) (m : Nat) (h : ∀ x, (f x).length ≤ m) : ∀ l : List α, (l.flatMap f).length ≤ l.length * m := by
  intro l
  induction l with
  | nil => simp
  | cons x r ih => have := h x; simp only [List.flatMap_cons, List.length_append, List.length_cons, Nat.succ_mul]; omega
theorem growM_count {bl : List (List Int)} : ∀ (n : Nat) (begun us : List Int), (growM bl n begun us).length ≤ bl.length ^ n := by
  intro n
  induction n with
  | zero => intro begun us; simp [growM]
  | succ n ih =>
    intro begun us
    simp only [growM, growFrom]
    refine Nat.le_trans (flatMap_leAll _ (bl.length ^ n) (fun i => ?_) _) (by simp [Nat.pow_succ, Nat.mul_comm])
    split
    · simp
    · exact ih _ _
theorem pigeon {us : List Int} {n : Nat} (h : us.length < n) : ∃ i : Nat, i < n ∧ ¬ (i : Int) ∈ us := by
  rcases Classical.em (∃ i : Nat, i < n ∧ ¬ (i : Int) ∈ us) with h1 | h1
  · exact h1
  · exfalso
    have hs : (List.range n).map (fun k : Nat => (k : Int)) ⊆ us := fun c hc => by
      obtain ⟨k, hk, rfl⟩ := List.mem_map.1 hc
      rcases Classical.em ((k : Int) ∈ us) with h2 | h2
      · exact h2
      · exact absurd ⟨k, List.mem_range.1 hk, h2⟩ h1
    have hn : ((List.range n).map (fun k : Nat => (k : Int))).Nodup := by
      refine List.pairwise_map.2 ((List.nodup_range (n := n)).imp (fun hab e => hab (by exact_mod_cast e)))
    have := hn.length_le_of_subset hs
    simp at this; omega
theorem growM_pos {bl : List (List Int)} : ∀ (n : Nat) (begun us : List Int), us.length + n ≤ bl.length → 0 < (growM bl n begun us).length := by
  intro n
  induction n with
  | zero => intro begun us _; simp [growM]
  | succ n ih =>
    intro begun us h
    obtain ⟨i, hi, hu⟩ := pigeon (us := us) (n := bl.length) (by omega)
    have h1 := ih (begun ++ bl.getD i []) (us ++ [(i : Int)]) (by simp; omega)
    obtain ⟨x, hx⟩ := List.exists_mem_of_length_pos h1
    refine List.length_pos_of_mem (a := x) ?_
    simp only [growM, growFrom, List.mem_flatMap]
    exact ⟨i, List.mem_range'_1.2 ⟨Nat.zero_le _, by omega⟩, by rw [if_neg hu]; exact hx⟩
structure WarmOk (Y : Yard) : Prop where
  tl : (trk Y 0).length ≤ 5
  ok : Ok Y.cars (trk Y 0)
  bl : (blocksOf Y.cars (trk Y 0)).length ≤ 5
  each : ∀ b ∈ blocksOf Y.cars (trk Y 0), b.length ≤ 5
  many : (growM (blocksOf Y.cars (trk Y 0)) (blocksOf Y.cars (trk Y 0)).length [] []).length ≤ 3125
  some : 0 < (growM (blocksOf Y.cars (trk Y 0)) (blocksOf Y.cars (trk Y 0)).length [] []).length
  okAll : ∀ xs ∈ growM (blocksOf Y.cars (trk Y 0)) (blocksOf Y.cars (trk Y 0)).length [] [], Ok Y.cars xs ∧ xs.length ≤ 1000000
theorem Fine.warm {Y : Yard} (h : Fine Y) : WarmOk Y := by
  have hr := h.room1; have hl := h.len
  have ho : Ok Y.cars (trk Y 0) := h.ok.at 0 (by omega)
  have ht : (trk Y 0).length ≤ 5 := by
    have := (List.sublist_flatten_of_mem (getD_mem (d := []) (xs := Y.tracks) (k := 0) (by omega))).length_le
    exact Nat.le_trans this h.sum
  obtain ⟨b1, b2, b3⟩ := blocksTo_len Y.cars (trk Y 0) (trk Y 0).length
  have hb1 : (blocksOf Y.cars (trk Y 0)).length ≤ 5 := Nat.le_trans b1 ht
  have hb3 : ∀ b ∈ blocksOf Y.cars (trk Y 0), b.length ≤ 5 := fun b hb => Nat.le_trans (b3 b hb) ht
  refine ⟨ht, ho, hb1, hb3, ?_, growM_pos _ _ _ (by simp), fun xs hx => ⟨fun c hc => growM_mem (p := fun c => 0 ≤ c ∧ c < Y.cars.length) (blocksTo_mem (fun x hx => ho x hx) _ (Nat.le_refl _)) _ _ _ (fun x hx => by simp at hx) xs hx c hc, ?_⟩⟩
  · refine Nat.le_trans (growM_count _ _ _) ?_
    match (blocksOf Y.cars (trk Y 0)).length, hb1 with
    | 0, _ | 1, _ | 2, _ | 3, _ | 4, _ | 5, _ => decide
  · have := growM_len hb3 _ _ _ xs hx
    simp at this; omega
theorem warmE_bad {Y : Yard} (h : checkErr Y ≠ 0) : warmE Y = ([], 0, checkErr Y) := if_neg h
theorem warmE_ok {Y : Yard} (h : Valid Y) : warmE Y = (let os := growM (blocksOf Y.cars (trk Y 0)) (blocksOf Y.cars (trk Y 0)).length [] []
     let m := minF (warmCmp Y.cars) (os.drop 1) (os.getD 0 [])
     (m, ((coldOf Y.cars m).length : Int), 0)) := if_pos h
theorem minF_mem {f : List Int → List Int → Int} : ∀ (l : List (List Int)) (m : List Int), minF f l m = m ∨ minF f l m ∈ l := by
  intro l
  induction l with
  | nil => intro m; exact .inl rfl
  | cons x r ih =>
    intro m
    simp only [minF]
    split
    · rcases ih x with h | h
      · exact .inr (by rw [h]; simp)
      · exact .inr (by simp [h])
    · rcases ih m with h | h
      · exact .inl h
      · exact .inr (by simp [h])
theorem minF_in {f : List Int → List Int → Int} {l : List (List Int)} (h : 0 < l.length) : minF f (l.drop 1) (l.getD 0 []) ∈ l := by
  cases l with
  | nil => simp at h
  | cons x r => rcases minF_mem (f := f) r x with h | h <;> simp [h]
end Go.Sh
namespace Go.Proofs.YtcaocbhbofejnaaDoor
open Go Go.Sl Go.Sh
set_option maxRecDepth 100000
noncomputable def c_Warm (p : List Nat) : Code := sub (bodyOf Tryd.f9) p
theorem Warm_ct (I : Imm) (y : Value) (Y : Yard) (y_f : IsYard I y Y) : Ct Tryd.prog 9 #[y] I ([]) (fun v I' M' => ∃ u0 : Value, v = .tuple #[u0, .int .i64 ((warmE Y).2.1), .int .i64 ((warmE Y).2.2)] ∧ M' = [] ∧ IsInts I' u0 ((warmE Y).1)) := by
 obtain ⟨y1, y2, y3, y_e, y1_f, y2_f, y3_f⟩ := id y_f
 subst y_e
 obtain ⟨y1_a, y1_c, y1_b, y1_o, y1_e, y1_l, y1_m, y1_r⟩ := id y1_f
 subst y1_e
 obtain ⟨y2_a, y2_c, y2_b, y2_o, y2_e, y2_l, y2_m, y2_r⟩ := id y2_f
 subst y2_e
 obtain ⟨y3_a, y3_c, y3_b, y3_o, y3_vs, y3_e, y3_l, y3_m, y3_r, y3_w⟩ := id y3_f
 subst y3_e
 refine fn_of_run (fn := Tryd.f9) (args := [_]) (N := 65) Tryd.func9 rfl (by kernel_rfl) (Nat.le_of_ble_eq_true rfl) (fun F => ?_)
 show Run _ _ (c_Warm []) _ _ [(0, .agg #[.slice y1_a Y.cars.length y1_c, .slice y2_a Y.room.length y2_c, .slice y3_a Y.tracks.length y3_c])] _ _
 refine rnm ?_
 refine rqr ?_
 refine sS (sb 1 26 #[.slice y1_a Y.cars.length y1_c, .slice y2_a Y.room.length y2_c, .slice y3_a Y.tracks.length y3_c] (fun b1 => ?_))
 refine sp 3 [(4, .int .i64 (0)), (3, .int .i64 (0)), (2, .slice none 0 0)] ?_
 refine se ?_
 refine rq ?_
 refine rqr ?_
 refine sd (dnb 12 0 0 b1 [.slice y1_a Y.cars.length y1_c, .slice y2_a Y.room.length y2_c, .slice y3_a Y.tracks.length y3_c]) ?_
 refine sd (dc 13 (fun I' hI => (Check_ct I' _ (Y) ((mkYard y1_f y2_f y3_f).mono hI) :))) ?_
 refine sp 1 [(5, .int .i64 ((checkErr Y)))] ?_
 refine sn ?_
 refine sp 2 [(15, .bool (!(cmp .eql ((checkErr Y)) (0))))] ?_
 refine se ?_
 refine rc 15 rfl (fun h1 => ?_) (fun h1 => ?_)
 ·
  have h1_r := h1
  have h1 := not_t h1
  have h1 := eql_f h1
  refine rqr ?_
  refine sp 4 [(4, .int .i64 ((checkErr Y))), (3, .int .i64 (0)), (2, .slice none 0 0)] ?_
  refine se ?_
  refine rret ?_
  refine (pst_ret_pass ?_)
  refine pst_ret3 (t := 2) (u := 3) (r := 4) [] (by kernel_rfl) rfl rfl rfl (List.Sublist.cons _ (List.Sublist.refl _)) (Imm.le.refl _) ?_
  exact ⟨_, (congrArg (fun p : List Int × Int × Int => Value.tuple #[.slice none 0 0, .int .i64 p.2.1, .int .i64 p.2.2]) (warmE_bad h1).symm), rfl, ((show [] = (warmE Y).1 from (congrArg Prod.fst (warmE_bad h1)).symm) ▸ (IsSl.nil _))⟩
 ·
  have h1_r := h1
  have h1 := not_f h1
  have h1 := eql_t h1
  refine rskip ?_
  refine pst_next ?_
  refine rqr ?_
  refine sS (sal 6 24 #[.slice none 0 0] (fun b3 => ?_))
  refine se ?_
  refine rq ?_
  have hvl : Valid Y := by (show checkErr Y = 0; omega)
  have hfa := hvl.fine
  have hf1 := hfa.room1; have hf2 := hfa.len
  have hwo := hfa.warm
  have hw1 : (Y.tracks.getD (0) []).length ≤ 5 := hwo.tl
  have hw2 : Ok Y.cars (Y.tracks.getD (0) []) := hwo.ok
  have hw3 : (blocksOf Y.cars (Y.tracks.getD (0) [])).length ≤ 5 := hwo.bl
  have hw4 : ∀ b ∈ blocksOf Y.cars (Y.tracks.getD (0) []), b.length ≤ 5 := hwo.each
  have hw5 : (growM (blocksOf Y.cars (Y.tracks.getD (0) [])) (blocksOf Y.cars (Y.tracks.getD (0) [])).length [] []).length ≤ 3125 := hwo.many
  have hw6 : 0 < (growM (blocksOf Y.cars (Y.tracks.getD (0) [])) (blocksOf Y.cars (Y.tracks.getD (0) [])).length [] []).length := hwo.some
  have hw7 : ∀ xs ∈ growM (blocksOf Y.cars (Y.tracks.getD (0) [])) (blocksOf Y.cars (Y.tracks.getD (0) [])).length [] [], Ok Y.cars xs ∧ xs.length ≤ 1000000 := hwo.okAll
  refine rr ?_
  refine sp 1 [(17, .pointer (some ⟨b1, 2, none⟩))] ?_
  refine sd (dlb 18 1 2 b1 (.slice y3_a Y.tracks.length y3_c)) ?_
  refine sd (di 19 1 (0) y3_r.addr) ?_
  have r5_f := y3_w (0) (by omega)
  obtain ⟨r5_a, r5_c, r5_b, r5_o, r5_e, r5_l, r5_m, r5_r⟩ := id r5_f
  rw [r5_e] at r5_f
  refine sd (det_eq (dl 20 (rows_get y3_r (0) (by omega))) r5_e) ?_
  refine sp 1 [(7, .slice r5_a (Y.tracks.getD (0) []).length r5_c)] ?_
  refine se ?_
  refine rq ?_
  refine rqr ?_
  refine sp 3 [(23, .int .i64 (0)), (22, .int .i64 (↑((Y.tracks.getD (0) []).length))), (21, .slice r5_a (Y.tracks.getD (0) []).length r5_c)] ?_
  refine se ?_
  refine rb 0 ?_
  refine rl (fun mz a w => ∃ k : Nat, ∃ bv : Value, ∃ vs : List Value, ∃ bM : Seg, ∃ eM : Seg, (k ≤ (Y.tracks.getD (0) []).length) ∧ (Own 22 1 valCell bv vs bM) ∧ (OwnEach 3 vs (blocksTo Y.cars (Y.tracks.getD (0) []) k) eM) ∧ Slots 65 [(23, .int .i64 ↑k), (1, .pointer (some ⟨b1, 0, none⟩)), (2, .slice none 0 0), (3, .int .i64 (0)), (4, .int .i64 (0)), (6, .pointer (some ⟨b3, 0, none⟩)), (7, .slice r5_a (Y.tracks.getD (0) []).length r5_c), (21, .slice r5_a (Y.tracks.getD (0) []).length r5_c), (22, .int .i64 (↑((Y.tracks.getD (0) []).length)))] a ∧ a.defers = [] ∧ St I ((b3, Obj.cells #[bv] 24 (0, 0)) :: (b1, Obj.cells #[.slice y1_a Y.cars.length y1_c, .slice y2_a Y.room.length y2_c, .slice y3_a Y.tracks.length y3_c] 26 (0, 0)) :: (bM ++ (eM ++ F))) w ∧ mz = (Y.tracks.getD (0) []).length - k) ?_ ?_
  ·intro a w hS hD hW
   exact ⟨_, 0, (.slice none 0 0), [], [], [], Nat.zero_le _, Own.nil _ _ _, OwnEach.nil, hS.sub (.cons 23 rfl (.cons 1 rfl (.cons 2 rfl (.cons 3 rfl (.cons 4 rfl (.cons 6 rfl (.cons 7 rfl (.cons 21 rfl (.cons 22 rfl (.nil _)))))))))), hD, hW, rfl⟩
  ·rintro mz a w ⟨k, bv, vs, bM, eM, hk, bo, hea, hS, hD, hW, rfl⟩
   refine run_at hS hD hW ?_
   clear hS hD hW a w
   obtain ⟨bv_a, bv_c, bv_e, bv_l⟩ := bo.shape; subst bv_e
   have hbl := hea.length
   have hbt := blocksTo_len Y.cars (Y.tracks.getD (0) []) k
   refine rqr ?_
   refine sp 1 [(24, .bool (cmp .lss (↑k) (↑((Y.tracks.getD (0) []).length))))] ?_
   refine se ?_
   refine rq ?_
   refine rc 24 rfl (fun h2 => ?_) (fun h2 => ?_)
   ·
    have h2_r := h2
    have h2 := lss_t h2
    refine rskip ?_
    refine pst_next ?_
    refine rq ?_
    refine rb 1 ?_
    refine rqr ?_
    refine sp 1 [(25, .int .i64 (↑k))] ?_
    refine sd (di 26 1 (k) r5_r.addr) ?_
    refine sd (dl 27 (ints_get r5_r (k) (by omega))) ?_
    refine sp 2 [(9, .int .i64 ((Y.tracks.getD (0) []).getD (k) 0)), (8, .int .i64 (↑k))] ?_
    refine se ?_
    refine rq ?_
    refine rqr ?_
    refine sp 2 [(29, .pointer (some ⟨b1, 0, none⟩)), (28, .slice r5_a (Y.tracks.getD (0) []).length r5_c)] ?_
    refine sd (dlb 30 1 0 b1 (.slice y1_a Y.cars.length y1_c)) ?_
    refine sp 1 [(31, .int .i64 (↑k))] ?_
    refine sd (dc 32 (fun I' hI => (coupled_ct I' _ _ _ _ (↑k) (r5_f.mono hI) (y1_f.mono hI) (by assumption) :))) ?_
    refine se ?_
    refine rc 32 rfl (fun h3 => ?_) (fun h3 => ?_)
    ·
     have h3_r := h3
     refine rq ?_
     have hcp := coupled_pos h3
     have hb2 := hbt.2.1 (by omega)
     have hel := hbt.2.2 _ (getD_mem (d := []) (xs := blocksTo Y.cars (Y.tracks.getD (0) []) k) (k := ((↑(vs.length)) - 1 : Int).toNat) (by omega))
     obtain ⟨eMs6, eR6, eo6, ep6, ek6⟩ := OwnEach.pull hea (((↑(vs.length)) - 1 : Int).toNat) (by omega)
     obtain ⟨ev6_a, ev6_c, ev6_e, ev6_l⟩ := eo6.shape
     rw [ev6_e] at eo6
     refine rn_mem (M' := ((eMs6 ++ (eR6 ++ (b3, Obj.cells #[.slice bv_a vs.length bv_c] 24 (0, 0)) :: (b1, Obj.cells #[.slice y1_a Y.cars.length y1_c, .slice y2_a Y.room.length y2_c, .slice y3_a Y.tracks.length y3_c] 26 (0, 0)) :: (bM ++ F))))) (fun w h => ?_) ?_
     ·have h2 := h.perm ((List.Perm.cons _ ((List.Perm.cons _ (List.perm_append_comm_assoc _ _ _)).trans (List.perm_middle.symm))).trans (List.perm_middle.symm))
      have h3 := St.permL (A' := eMs6 ++ eR6) (A := eM) (by simpa only [List.append_assoc, List.append_nil] using ep6) (by simpa only [List.append_assoc] using h2)
      simpa only [List.append_assoc] using h3
     refine rn_mem (M' := ((b3, Obj.cells #[.slice bv_a vs.length bv_c] 24 (0, 0)) :: (b1, Obj.cells #[.slice y1_a Y.cars.length y1_c, .slice y2_a Y.room.length y2_c, .slice y3_a Y.tracks.length y3_c] 26 (0, 0)) :: (eMs6 ++ (eR6 ++ (bM ++ F))))) (fun w h => h.perm (((List.Perm.append_left _ List.perm_middle).trans List.perm_middle).trans (List.Perm.cons _ ((List.Perm.append_left _ List.perm_middle).trans List.perm_middle)))) ?_
     refine rpm (M' := ((b3, Obj.cells #[.slice bv_a vs.length bv_c] 24 (0, 0)) :: (b1, Obj.cells #[.slice y1_a Y.cars.length y1_c, .slice y2_a Y.room.length y2_c, .slice y3_a Y.tracks.length y3_c] 26 (0, 0)) :: (bM ++ (eMs6 ++ (eR6 ++ F))))) (List.Perm.cons _ (List.Perm.cons _ ((List.Perm.append_left _ (List.perm_append_comm_assoc _ _ _)).trans (List.perm_append_comm_assoc _ _ _)))) ?_
     refine rd 13 [(0, true), (1, true), (2, true), (3, true), (4, true), (5, true), (6, true), (7, true), (8, true), (9, true), (10, true), (11, false), (12, false)] ((b3, Obj.cells #[.slice bv_a vs.length bv_c] 24 (0, 0)) :: (b1, Obj.cells #[.slice y1_a Y.cars.length y1_c, .slice y2_a Y.room.length y2_c, .slice y3_a Y.tracks.length y3_c] 26 (0, 0)) :: bM) ((eMs6 ++ (eR6 ++ F))) ?_
     refine ofp_det (dlb 33 0 0 b3 (.slice bv_a vs.length bv_c)) ?_
     refine ofp_det (dlb 34 0 0 b3 (.slice bv_a vs.length bv_c)) ?_
     refine ox 1 [(35, .int .i64 (↑(vs.length)))] ?_
     refine ofp_det (dsb 36 (↑(vs.length)) (1)) ?_
     refine ofp_det (dlb 37 0 0 b3 (.slice bv_a vs.length bv_c)) ?_
     refine ofp_det (dlb 38 0 0 b3 (.slice bv_a vs.length bv_c)) ?_
     refine ox 1 [(39, .int .i64 (↑(vs.length)))] ?_
     refine ofp_det (dsb 40 (↑(vs.length)) (1)) ?_
     obtain ⟨ob7, orr8⟩ := bo.row undef
     refine ofp_det (diI 41 1 ((↑(vs.length)) - 1) orr8.addr) ?_
     refine ofp_det (det_eq (det_load (x := (.tmp 41)) (T := 22) (d := 42) (ty := 22) (gd := none) (by kernel_rfl) rfl (by kernel_rfl) rfl (orr8.get (((↑(vs.length)) - 1 : Int).toNat) (by omega) 0 (by decide) _ _ (fun x hx => by simp [hx]))) ev6_e) ?_
     refine ox 1 [(43, .int .i64 ((Y.tracks.getD (0) []).getD (k) 0))] ?_
     refine ofp_stp (sbs 44 3 1 #[.int .i64 ((Y.tracks.getD (0) []).getD (k) 0)] (fun b9 => ?_))
     refine ofp_settle (S' := ((b9, Obj.cells #[.int .i64 ((Y.tracks.getD (0) []).getD (k) 0)] 3 (0, 0)) :: (eMs6 ++ (eR6 ++ F)))) ((List.Perm.swap _ _ _).trans (List.Perm.cons _ ((List.Perm.swap _ _ _).trans (List.Perm.cons _ (List.perm_middle.symm))))) ?_
     refine ofp_stp (stp_append (d := 45) (x := (.tmp 42)) (y := (.tmp 44)) (T := 22) (T' := 22) (E := 3) (E' := 3) (sz := 1) (bs := 8) (z := .int .i64 (0)) (cell := intCell) (xs := (blocksTo Y.cars (Y.tracks.getD (0) []) k).getD (((↑(vs.length)) - 1 : Int).toNat) []) (ys := [((Y.tracks.getD (0) []).getD (k) 0 : Int)]) (Ms := eMs6) (ty := 22) (gd := none) (by kernel_rfl) rfl (by kernel_rfl) (by kernel_rfl) (by kernel_rfl) (by kernel_rfl) (by kernel_rfl) (by decide) (by kernel_rfl) rfl rfl (eo6) (((List.Perm.cons _ ((List.Perm.cons _ ((List.Perm.append_left _ (List.perm_middle.symm)).trans (List.perm_append_comm_assoc _ _ _))).trans (List.perm_middle.symm))).trans (List.perm_middle.symm)).trans (List.Perm.append_left _ (List.Perm.cons _ (List.Perm.cons _ List.perm_middle)))) (one_intCell _) (src_atS 2 rfl rfl) (by first | omega | (simp only [List.length_cons, List.length_nil, List.length_append, List.length_take, List.length_drop]; omega)) (fun v11 Ms11 ho11 => ?_))
     refine ofp_settle (S' := ((b9, Obj.cells #[.int .i64 ((Y.tracks.getD (0) []).getD (k) 0)] 3 (0, 0)) :: (Ms11 ++ (eR6 ++ F)))) (List.perm_middle.trans (List.Perm.cons _ (List.perm_middle.trans (List.Perm.cons _ (((List.Perm.append_left _ (List.perm_middle.symm)).trans (List.perm_append_comm_assoc _ _ _)).trans (List.Perm.append_left _ List.perm_middle)))))) ?_
     obtain ⟨oa11, oc11, oe11, ol11⟩ := ho11.shape
     subst oe11
     show OFP _ _ _ _ _ _ ((45, .slice oa11 (((blocksTo Y.cars (Y.tracks.getD (0) []) k).getD (((↑(vs.length)) - 1 : Int).toNat) []) ++ ([((Y.tracks.getD (0) []).getD (k) 0 : Int)])).length oc11) :: _) _ _
     refine ofp_end ?_
     refine nm ?_
     refine pm (M' := ((b3, Obj.cells #[.slice bv_a vs.length bv_c] 24 (0, 0)) :: (b1, Obj.cells #[.slice y1_a Y.cars.length y1_c, .slice y2_a Y.room.length y2_c, .slice y3_a Y.tracks.length y3_c] 26 (0, 0)) :: (b9, Obj.cells #[.int .i64 ((Y.tracks.getD (0) []).getD (k) 0)] 3 (0, 0)) :: (bM ++ (Ms11 ++ (eR6 ++ F))))) (List.Perm.cons _ (List.Perm.cons _ List.perm_middle)) ?_
     obtain ⟨ob12, orr13⟩ := bo.row undef
     refine sd (diI 46 1 ((↑(vs.length)) - 1) orr13.addr) ?_
     refine sS (stp_storeOwn (T := 22) (x := (.tmp 46)) (y := (.tmp 45)) (rc := fun i f => valCell ((vs).getD i undef) f) undef (((↑(vs.length)) - 1 : Int).toNat) 0 ((.slice oa11 (((blocksTo Y.cars (Y.tracks.getD (0) []) k).getD (((↑(vs.length)) - 1 : Int).toNat) []) ++ ([((Y.tracks.getD (0) []).getD (k) 0 : Int)])).length oc11 : Value)) (ty := 0) (gd := none) (by kernel_rfl) rfl bo orr13 (by omega) (by decide) rfl rfl (by kernel_rfl) rfl rfl (by intro f hf; match f, hf with | 0, _ => rfl) ((List.Perm.cons _ ((List.Perm.cons _ (List.perm_middle.symm)).trans (List.perm_middle.symm))).trans (List.perm_middle.symm)) (fun Ms14 ho14 => ?_))
     refine pm (M' := ((b3, Obj.cells #[.slice bv_a vs.length bv_c] 24 (0, 0)) :: (b1, Obj.cells #[.slice y1_a Y.cars.length y1_c, .slice y2_a Y.room.length y2_c, .slice y3_a Y.tracks.length y3_c] 26 (0, 0)) :: (b9, Obj.cells #[.int .i64 ((Y.tracks.getD (0) []).getD (k) 0)] 3 (0, 0)) :: (Ms14 ++ (Ms11 ++ (eR6 ++ F))))) (List.perm_middle.trans (List.Perm.cons _ (List.perm_middle.trans (List.Perm.cons _ List.perm_middle)))) ?_
     obtain ⟨eM14, hea14, ep14⟩ := ek6 _ _ _ ho11
     refine seq_mem (I' := I) (M' := ((eM14 ++ (b3, Obj.cells #[.slice bv_a vs.length bv_c] 24 (0, 0)) :: (b1, Obj.cells #[.slice y1_a Y.cars.length y1_c, .slice y2_a Y.room.length y2_c, .slice y3_a Y.tracks.length y3_c] 26 (0, 0)) :: (b9, Obj.cells #[.int .i64 ((Y.tracks.getD (0) []).getD (k) 0)] 3 (0, 0)) :: (Ms14 ++ F)))) (fun w h => ?_) ?_
     ·have h2 := h.perm (((List.Perm.cons _ ((List.Perm.cons _ ((List.Perm.cons _ (List.perm_append_comm_assoc _ _ _)).trans (List.perm_middle.symm))).trans (List.perm_middle.symm))).trans (List.perm_middle.symm)).trans (List.Perm.append_left _ ((List.Perm.cons _ ((List.Perm.cons _ ((List.Perm.cons _ (List.perm_append_comm_assoc _ _ _)).trans (List.perm_middle.symm))).trans (List.perm_middle.symm))).trans (List.perm_middle.symm))))
      simp only [← List.append_assoc] at h2
      have h3 := St.permL (A' := eM14) (A := Ms11 ++ eR6) (by simpa only [List.append_assoc, List.append_nil] using ep14.symm) (by simpa only [List.append_assoc] using h2)
      simpa only [List.append_assoc] using h3
     refine pm (M' := ((b3, Obj.cells #[.slice bv_a vs.length bv_c] 24 (0, 0)) :: (b1, Obj.cells #[.slice y1_a Y.cars.length y1_c, .slice y2_a Y.room.length y2_c, .slice y3_a Y.tracks.length y3_c] 26 (0, 0)) :: (b9, Obj.cells #[.int .i64 ((Y.tracks.getD (0) []).getD (k) 0)] 3 (0, 0)) :: (eM14 ++ (Ms14 ++ F)))) (List.perm_middle.trans (List.Perm.cons _ (List.perm_middle.trans (List.Perm.cons _ List.perm_middle)))) ?_
     refine se ?_
     refine rexit 1 ?_
     refine (pst_exit_pass (pst_exit_block ?_))
     refine pst_next ?_
     refine rr ?_
     refine sd (da 52 (↑k) (1)) ?_
     refine sp 1 [(23, .int .i64 (↑k + 1))] ?_
     refine ee ?_
     refine pst_back ((Y.tracks.getD (0) []).length - (k+1)) (by omega) ?_
     intro a w hS hD hW
     exact ⟨k+1, (.slice bv_a vs.length bv_c), vs.set (((↑(vs.length)) - 1 : Int).toNat) ((.slice oa11 (((blocksTo Y.cars (Y.tracks.getD (0) []) k).getD (((↑(vs.length)) - 1 : Int).toNat) []) ++ ([((Y.tracks.getD (0) []).getD (k) 0 : Int)])).length oc11 : Value)), Ms14, eM14, by omega, ho14, (by rw [blocksTo_yesI (i := ((↑(vs.length)) - 1 : Int).toNat) h3 (by omega)]; exact hea14), hS.sub (.consE 23 rfl rfl (.cons 1 rfl (.cons 2 rfl (.cons 3 rfl (.cons 4 rfl (.cons 6 rfl (.cons 7 rfl (.cons 21 rfl (.cons 22 rfl (.nil _)))))))))), hD, (hW.perm (((List.Perm.cons _ (List.Perm.swap _ _ _)).trans (List.Perm.swap _ _ _)).trans (List.Perm.cons _ (List.Perm.cons _ (List.Perm.cons _ (List.perm_append_comm_assoc _ _ _)))))).sub (List.Sublist.cons _ (List.Sublist.refl _)), rfl⟩
    ·
     have h3_r := h3
     refine rskip ?_
     refine pst_next ?_
     refine rr ?_
     refine sd (dlb 47 0 0 b3 (.slice bv_a vs.length bv_c)) ?_
     refine sp 1 [(48, .int .i64 ((Y.tracks.getD (0) []).getD (k) 0))] ?_
     refine sS (sbs 49 3 1 #[.int .i64 ((Y.tracks.getD (0) []).getD (k) 0)] (fun b15 => ?_))
     refine sS (sbs 50 22 1 #[.slice (some ⟨b15, 0, none⟩) 1 1] (fun b17 => ?_))
     refine pm (M' := ((b17, Obj.cells #[.slice (some ⟨b15, 0, none⟩) 1 1] 22 (0, 0)) :: (b3, Obj.cells #[.slice bv_a vs.length bv_c] 24 (0, 0)) :: (b1, Obj.cells #[.slice y1_a Y.cars.length y1_c, .slice y2_a Y.room.length y2_c, .slice y3_a Y.tracks.length y3_c] 26 (0, 0)) :: ([(b15, Obj.cells #[.int .i64 ((Y.tracks.getD (0) []).getD (k) 0)] 3 (0, 0))] ++ (bM ++ (eM ++ F))))) (List.Perm.cons _ ((List.Perm.swap _ _ _).trans (List.Perm.cons _ (List.Perm.swap _ _ _)))) ?_
     have ho19 : Own 3 1 intCell (.slice (some ⟨b15, 0, none⟩) 1 1) ([((Y.tracks.getD (0) []).getD (k) 0 : Int)] : List Int) [(b15, Obj.cells #[.int .i64 ((Y.tracks.getD (0) []).getD (k) 0)] 3 (0, 0))] := Own.lit rfl rfl
     refine sS (stp_append (d := 51) (x := (.tmp 47)) (y := (.tmp 50)) (T := 24) (T' := 24) (E := 22) (E' := 22) (sz := 1) (bs := 24) (z := .slice none 0 0) (cell := valCell) (xs := vs) (ys := [(.slice (some ⟨b15, 0, none⟩) 1 1 : Value)]) (Ms := bM) (ty := 24) (gd := none) (by kernel_rfl) rfl (by kernel_rfl) (by kernel_rfl) (by kernel_rfl) (by kernel_rfl) (by kernel_rfl) (by decide) (by kernel_rfl) rfl rfl (bo) ((List.Perm.cons _ ((List.Perm.cons _ ((List.Perm.cons _ (List.perm_append_comm_assoc _ _ _)).trans (List.perm_middle.symm))).trans (List.perm_middle.symm))).trans (List.perm_middle.symm)) (one_valCell rfl) (src_atS 0 rfl rfl) (by first | omega | (simp only [List.length_cons, List.length_nil, List.length_append, List.length_take, List.length_drop]; omega)) (fun v20 Ms20 ho20 => ?_))
     refine seq_mem (M' := ((b3, Obj.cells #[.slice bv_a vs.length bv_c] 24 (0, 0)) :: (b1, Obj.cells #[.slice y1_a Y.cars.length y1_c, .slice y2_a Y.room.length y2_c, .slice y3_a Y.tracks.length y3_c] 26 (0, 0)) :: (Ms20 ++ ([(b15, Obj.cells #[.int .i64 ((Y.tracks.getD (0) []).getD (k) 0)] 3 (0, 0))] ++ (eM ++ F))))) (fun w h => (h.perm (List.perm_middle.trans (List.Perm.cons _ (List.perm_middle.trans (List.Perm.cons _ List.perm_middle))))).sub (List.Sublist.cons _ (List.Sublist.refl _))) ?_
     obtain ⟨oa20, oc20, oe20, ol20⟩ := ho20.shape
     subst oe20
     show Seq _ _ _ _ _ _ ((51, .slice oa20 (vs ++ ([(.slice (some ⟨b15, 0, none⟩) 1 1 : Value)])).length oc20) :: _) _ _
     have hea20 := OwnEach.snoc hea ho19
     obtain ⟨eM20, heM20_d⟩ : ∃ X, X = eM ++ [(b15, Obj.cells #[.int .i64 ((Y.tracks.getD (0) []).getD (k) 0)] 3 (0, 0))] := ⟨_, rfl⟩; rw [← heM20_d] at hea20
     refine seq_mem (I' := I) (M' := ((eM20 ++ (b3, Obj.cells #[.slice bv_a vs.length bv_c] 24 (0, 0)) :: (b1, Obj.cells #[.slice y1_a Y.cars.length y1_c, .slice y2_a Y.room.length y2_c, .slice y3_a Y.tracks.length y3_c] 26 (0, 0)) :: (Ms20 ++ F)))) (fun w h => ?_) ?_
     ·have h2 := h.perm (((List.Perm.cons _ ((List.Perm.cons _ ((List.Perm.append_left _ (List.perm_append_comm_assoc _ _ _)).trans (List.perm_append_comm_assoc _ _ _))).trans (List.perm_middle.symm))).trans (List.perm_middle.symm)).trans (List.Perm.append_left _ ((List.Perm.cons _ ((List.Perm.cons _ (List.perm_append_comm_assoc _ _ _)).trans (List.perm_middle.symm))).trans (List.perm_middle.symm))))
      simp only [← List.append_assoc] at h2
      have h3 := St.permL (A' := eM20) (A := eM ++ [(b15, Obj.cells #[.int .i64 ((Y.tracks.getD (0) []).getD (k) 0)] 3 (0, 0))]) (by simpa only [List.append_assoc, List.append_nil] using (heM20_d ▸ List.Perm.refl _)) (by simpa only [List.append_assoc] using h2)
      simpa only [List.append_assoc] using h3
     refine pm (M' := ((b3, Obj.cells #[.slice bv_a vs.length bv_c] 24 (0, 0)) :: (b1, Obj.cells #[.slice y1_a Y.cars.length y1_c, .slice y2_a Y.room.length y2_c, .slice y3_a Y.tracks.length y3_c] 26 (0, 0)) :: (eM20 ++ (Ms20 ++ F)))) (List.perm_middle.trans (List.Perm.cons _ List.perm_middle)) ?_
     refine sS (ss 0 0 b3 [.slice oa20 (vs ++ ([(.slice (some ⟨b15, 0, none⟩) 1 1 : Value)])).length oc20] [.slice oa20 (vs ++ ([(.slice (some ⟨b15, 0, none⟩) 1 1 : Value)])).length oc20] (_ :: _ :: _) (cs := [_]) rfl rfl ?_)
     refine ee ?_
     refine pst_normal_block ?_
     refine pst_next ?_
     refine rr ?_
     refine sd (da 52 (↑k) (1)) ?_
     refine sp 1 [(23, .int .i64 (↑k + 1))] ?_
     refine ee ?_
     refine pst_back ((Y.tracks.getD (0) []).length - (k+1)) (by omega) ?_
     intro a w hS hD hW
     exact ⟨k+1, (.slice oa20 (vs ++ ([(.slice (some ⟨b15, 0, none⟩) 1 1 : Value)])).length oc20), vs ++ ([(.slice (some ⟨b15, 0, none⟩) 1 1 : Value)]), Ms20, eM20, by omega, ho20, (by rw [blocksTo_no h3]; exact hea20), hS.sub (.consE 23 rfl rfl (.cons 1 rfl (.cons 2 rfl (.cons 3 rfl (.cons 4 rfl (.cons 6 rfl (.cons 7 rfl (.cons 21 rfl (.cons 22 rfl (.nil _)))))))))), hD, hW.perm (List.Perm.cons _ (List.Perm.cons _ (List.perm_append_comm_assoc _ _ _))), rfl⟩
   ·
    have h2_r := h2
    have h2 := lss_f h2
    refine rexit 0 ?_
    refine (pst_exit_pass (pst_exit_pass (pst_exit_block ?_)))
    refine pst_next ?_
    refine rq ?_
    have hkk : k = (Y.tracks.getD (0) []).length := by omega
    rw [show blocksTo Y.cars (Y.tracks.getD (0) []) k = blocksOf Y.cars (Y.tracks.getD (0) []) from by rw [hkk]; rfl] at hea
    refine rn_freezeEach (B := ((b3, Obj.cells #[.slice bv_a vs.length bv_c] 24 (0, 0)) :: (b1, Obj.cells #[.slice y1_a Y.cars.length y1_c, .slice y2_a Y.room.length y2_c, .slice y3_a Y.tracks.length y3_c] 26 (0, 0)) :: (bM ++ F))) hea (by intro xs hx; have := hw4 xs hx; omega) ((List.Perm.cons _ ((List.Perm.cons _ (List.perm_append_comm_assoc _ _ _)).trans (List.perm_middle.symm))).trans (List.perm_middle.symm)) (List.Perm.refl _) (fun I21 hle22 orw23 => ?_)
    replace y1_f := y1_f.mono hle22
    replace y2_f := y2_f.mono hle22
    replace y3_f := y3_f.mono hle22
    have orw23_len := orw23.1
    try simp only [List.length_set, List.length_append, List.length_cons, List.length_nil, List.length_take] at orw23_len
    refine rr ?_
    refine sS (sal 10 24 #[.slice none 0 0] (fun b24 => ?_))
    refine sn ?_
    refine sS (sal 11 70 #[.nilFunc] (fun b26 => ?_))
    refine sn ?_
    refine sp 1 [(53, .func (.func 35) #[] #[.pointer (some ⟨b3, 0, none⟩), .pointer (some ⟨b24, 0, none⟩), .pointer (some ⟨b26, 0, none⟩)])] ?_
    refine sS (ss 0 0 b26 [.func (.func 35) #[] #[.pointer (some ⟨b3, 0, none⟩), .pointer (some ⟨b24, 0, none⟩), .pointer (some ⟨b26, 0, none⟩)]] [.func (.func 35) #[] #[.pointer (some ⟨b3, 0, none⟩), .pointer (some ⟨b24, 0, none⟩), .pointer (some ⟨b26, 0, none⟩)]] (_ :: _ :: _ :: _ :: _) (cs := [_]) rfl rfl ?_)
    refine se ?_
    refine rq ?_
    refine rn_freeze (B := ((b26, Obj.cells #[.func (.func 35) #[] #[.pointer (some ⟨b3, 0, none⟩), .pointer (some ⟨b24, 0, none⟩), .pointer (some ⟨b26, 0, none⟩)]] 70 (0, 0)) :: (b24, Obj.cells #[.slice none 0 0] 24 (0, 0)) :: (b3, Obj.cells #[.slice bv_a vs.length bv_c] 24 (0, 0)) :: (b1, Obj.cells #[.slice y1_a Y.cars.length y1_c, .slice y2_a Y.room.length y2_c, .slice y3_a Y.tracks.length y3_c] 26 (0, 0)) :: F)) undef bo (by first | omega | (simp only [List.length_set, List.length_cons, List.length_nil, List.length_append, List.length_take, List.length_drop] <;> omega) | decide) ((List.Perm.cons _ ((List.Perm.cons _ ((List.Perm.cons _ (List.perm_middle.symm)).trans (List.perm_middle.symm))).trans (List.perm_middle.symm))).trans (List.perm_middle.symm)) (List.Perm.refl _) (fun I28 hle29 fz30_f => ?_)
    replace y1_f := y1_f.mono hle29
    replace y2_f := y2_f.mono hle29
    replace y3_f := y3_f.mono hle29
    replace orw23 := orw23.mono hle29
    obtain ⟨fz30_a, fz30_c, fz30_b, fz30_o, fz30_e, fz30_l, fz30_m, fz30_r⟩ := id fz30_f
    cases fz30_e
    have fr31_f := orw23.isRows fz30_f
    have fr31_len := orw23.1
    obtain ⟨fr31_a, fr31_c, fr31_b, fr31_o, fr31_vs, fr31_e, fr31_l, fr31_m, fr31_r, fr31_w⟩ := id fr31_f
    injection fr31_e with fr31_e1 fr31_e2 fr31_e3; subst fr31_e1; subst fr31_e3
    refine run_hold (b := b3) (o := Obj.cells #[.slice bv_a vs.length bv_c] 24 (0, 0)) (M0 := ((b26, Obj.cells #[.func (.func 35) #[] #[.pointer (some ⟨b3, 0, none⟩), .pointer (some ⟨b24, 0, none⟩), .pointer (some ⟨b26, 0, none⟩)]] 70 (0, 0)) :: (b24, Obj.cells #[.slice none 0 0] 24 (0, 0)) :: (b1, Obj.cells #[.slice y1_a Y.cars.length y1_c, .slice y2_a Y.room.length y2_c, .slice y3_a Y.tracks.length y3_c] 26 (0, 0)) :: F)) ((List.Perm.cons _ (List.Perm.swap _ _ _)).trans (List.Perm.swap _ _ _)) (fun I32 hle33 hb34 => ?_)
    replace y1_f := y1_f.mono hle33
    replace y2_f := y2_f.mono hle33
    replace y3_f := y3_f.mono hle33
    replace fr31_f := fr31_f.mono hle33
    refine run_hold (b := b26) (o := Obj.cells #[.func (.func 35) #[] #[.pointer (some ⟨b3, 0, none⟩), .pointer (some ⟨b24, 0, none⟩), .pointer (some ⟨b26, 0, none⟩)]] 70 (0, 0)) (M0 := ((b24, Obj.cells #[.slice none 0 0] 24 (0, 0)) :: (b1, Obj.cells #[.slice y1_a Y.cars.length y1_c, .slice y2_a Y.room.length y2_c, .slice y3_a Y.tracks.length y3_c] 26 (0, 0)) :: F)) (List.Perm.refl _) (fun I35 hle36 hb37 => ?_)
    replace y1_f := y1_f.mono hle36
    replace y2_f := y2_f.mono hle36
    replace y3_f := y3_f.mono hle36
    replace fr31_f := fr31_f.mono hle36
    replace hb34 := hle36.blk _ _ hb34
    refine rr ?_
    refine sd (det_load (v := .func (.func 35) #[] #[.pointer (some ⟨b3, 0, none⟩), .pointer (some ⟨b24, 0, none⟩), .pointer (some ⟨b26, 0, none⟩)]) (x := (.tmp 11)) (T := 70) (d := 54) (ty := 70) (gd := none) (by kernel_rfl) rfl (by kernel_rfl) rfl (sees_held hb37 rfl)) ?_
    refine sS (stp_makeMap (d := 55) (T := 71) (ty := 71) (gd := none) (by kernel_rfl) rfl (fun b38 => ?_))
    have hct43 := grow_all (blocksOf Y.cars (Y.tracks.getD (0) [])).length I35 (.slice none 0 0) [] b38 #[] 0 [] b3 b24 b26 _ (blocksOf Y.cars (Y.tracks.getD (0) [])) (.slice none 0 0) [] [] [] hb34 hb37 fr31_f (IsSl.nil _) (MapIs.nil _) (Own.nil _ _ _) (RowsV.nil _) (by simp) hw3 hw4 (by simp) (by simp only [List.length_nil]; omega)
    refine sS (stp_call (d := (some 56)) (f := (.tmp 54)) (fid := 35) (args := #[(.const (.slice none 0 0)), (.tmp 55)]) (tys := #[22, 71]) (cv := [.pointer (some ⟨b3, 0, none⟩), .pointer (some ⟨b24, 0, none⟩), .pointer (some ⟨b26, 0, none⟩)]) (F := ((b1, Obj.cells #[.slice y1_a Y.cars.length y1_c, .slice y2_a Y.room.length y2_c, .slice y3_a Y.tracks.length y3_c] 26 (0, 0)) :: F)) (ty := 0) (gd := none) (by kernel_rfl) rfl rfl rfl (by kernel_rfl) rfl hct43 (by simpa only [List.append_assoc, List.cons_append, List.nil_append] using (List.Perm.refl _)) (fun rv44 I40 rm45 hle41 hp42 => ?_))
    obtain ⟨ges, gcl, gov, gows, goM, rfl, hgm, ghis, goo, gor⟩ := hp42
    replace y1_f := y1_f.mono hle41
    replace y2_f := y2_f.mono hle41
    replace y3_f := y3_f.mono hle41
    replace hb34 := hle41.blk _ _ hb34
    replace hb37 := hle41.blk _ _ hb37
    rw [hgm]; clear hgm
    obtain ⟨gv_a, gv_c, gv_e, gv_l⟩ := goo.shape; subst gv_e
    have gor_len := gor.1
    try simp only [List.length_set, List.length_append, List.length_cons, List.length_nil, List.length_take] at gor_len
    rw [List.nil_append] at gor
    refine seq_mem (M' := ((b38, Obj.map ges gcl) :: (b24, Obj.cells #[.slice gv_a gows.length gv_c] 24 (0, 0)) :: (goM ++ (b1, Obj.cells #[.slice y1_a Y.cars.length y1_c, .slice y2_a Y.room.length y2_c, .slice y3_a Y.tracks.length y3_c] 26 (0, 0)) :: F))) (fun w h => by simpa only [List.append_assoc, List.cons_append, List.nil_append] using h) ?_
    refine pm (M' := ((b38, Obj.map ges gcl) :: (b24, Obj.cells #[.slice gv_a gows.length gv_c] 24 (0, 0)) :: (b1, Obj.cells #[.slice y1_a Y.cars.length y1_c, .slice y2_a Y.room.length y2_c, .slice y3_a Y.tracks.length y3_c] 26 (0, 0)) :: (goM ++ F))) (List.Perm.cons _ (List.Perm.cons _ List.perm_middle)) ?_
    show Seq _ _ _ _ _ _ ((56, .tuple #[]) :: _) _ _
    refine sn ?_
    refine sd (dlb 57 1 0 b24 (.slice gv_a gows.length gv_c)) ?_
    refine sp 1 [(58, .func (.func 38) #[] #[.pointer (some ⟨b1, 0, none⟩)])] ?_
    refine sfz (A := ((b38, Obj.map ges gcl) :: (b24, Obj.cells #[.slice gv_a gows.length gv_c] 24 (0, 0)) :: (b1, Obj.cells #[.slice y1_a Y.cars.length y1_c, .slice y2_a Y.room.length y2_c, .slice y3_a Y.tracks.length y3_c] 26 (0, 0)) :: F)) undef goo ((List.Perm.cons _ ((List.Perm.cons _ (List.perm_middle.symm)).trans (List.perm_middle.symm))).trans (List.perm_middle.symm)) (fun I46 hle47 fz48_f => ?_)
    replace y1_f := y1_f.mono hle47
    replace y2_f := y2_f.mono hle47
    replace y3_f := y3_f.mono hle47
    replace hb34 := hle47.blk _ _ hb34
    replace hb37 := hle47.blk _ _ hb37
    replace gor := gor.mono hle47
    obtain ⟨fz48_a, fz48_c, fz48_b, fz48_o, fz48_e, fz48_l, fz48_m, fz48_r⟩ := id fz48_f
    cases fz48_e
    have fr49_f := gor.isRows fz48_f
    have fr49_len := gor.1
    obtain ⟨fr49_a, fr49_c, fr49_b, fr49_o, fr49_vs, fr49_e, fr49_l, fr49_m, fr49_r, fr49_w⟩ := id fr49_f
    injection fr49_e with fr49_e1 fr49_e2 fr49_e3; subst fr49_e1; subst fr49_e3
    refine seq_hold (b := b1) (o := Obj.cells #[.slice y1_a Y.cars.length y1_c, .slice y2_a Y.room.length y2_c, .slice y3_a Y.tracks.length y3_c] 26 (0, 0)) (M0 := ((b38, Obj.map ges gcl) :: (b24, Obj.cells #[.slice gv_a gows.length gv_c] 24 (0, 0)) :: F)) ((List.Perm.cons _ (List.Perm.swap _ _ _)).trans (List.Perm.swap _ _ _)) (fun I50 hle51 hb52 => ?_)
    replace y1_f := y1_f.mono hle51
    replace y2_f := y2_f.mono hle51
    replace y3_f := y3_f.mono hle51
    replace hb34 := hle51.blk _ _ hb34
    replace hb37 := hle51.blk _ _ hb37
    replace fr49_f := fr49_f.mono hle51
    have hct56 := least_ct I50 _ (growM (blocksOf Y.cars (Y.tracks.getD (0) [])) (blocksOf Y.cars (Y.tracks.getD (0) [])).length [] []) b1 _ _ _ Y hb52 y1_f y2_f y3_f fr49_f hw6 (by omega) hw7
    refine sS (stp_call (d := (some 59)) (f := (.func 37)) (fid := 37) (args := #[(.tmp 57), (.tmp 58), (.func 40)]) (tys := #[24, 75, 76]) (cv := []) (F := ((b38, Obj.map ges gcl) :: (b24, Obj.cells #[.slice gv_a gows.length gv_c] 24 (0, 0)) :: F)) (ty := 22) (gd := none) (by kernel_rfl) rfl rfl rfl (by kernel_rfl) rfl hct56 (List.Perm.refl _) (fun rv57 I53 rm58 hle54 hp55 => ?_))
    obtain ⟨hgm, rv_f⟩ := hp55
    replace y1_f := y1_f.mono hle54
    replace y2_f := y2_f.mono hle54
    replace y3_f := y3_f.mono hle54
    replace hb34 := hle54.blk _ _ hb34
    replace hb37 := hle54.blk _ _ hb37
    replace hb52 := hle54.blk _ _ hb52
    subst hgm
    obtain ⟨rv_a, rv_c, rv_b, rv_o, rv_e, rv_l, rv_m, rv_r⟩ := id rv_f
    subst rv_e
    refine nm ?_
    show Seq _ _ _ _ _ _ ((59, .slice rv_a (minF (warmCmp Y.cars) ((growM (blocksOf Y.cars (Y.tracks.getD (0) [])) (blocksOf Y.cars (Y.tracks.getD (0) [])).length [] []).drop 1) ((growM (blocksOf Y.cars (Y.tracks.getD (0) [])) (blocksOf Y.cars (Y.tracks.getD (0) [])).length [] []).getD 0 [])).length rv_c) :: _) _ _
    refine sp 1 [(2, .slice rv_a (minF (warmCmp Y.cars) ((growM (blocksOf Y.cars (Y.tracks.getD (0) [])) (blocksOf Y.cars (Y.tracks.getD (0) [])).length [] []).drop 1) ((growM (blocksOf Y.cars (Y.tracks.getD (0) [])) (blocksOf Y.cars (Y.tracks.getD (0) [])).length [] []).getD 0 [])).length rv_c)] ?_
    refine sn ?_
    refine sp 1 [(60, .slice rv_a (minF (warmCmp Y.cars) ((growM (blocksOf Y.cars (Y.tracks.getD (0) [])) (blocksOf Y.cars (Y.tracks.getD (0) [])).length [] []).drop 1) ((growM (blocksOf Y.cars (Y.tracks.getD (0) [])) (blocksOf Y.cars (Y.tracks.getD (0) [])).length [] []).getD 0 [])).length rv_c)] ?_
    refine sd (det_loadN (x := (.tmp 1)) (T := 26) (n := 3) (vs := [.slice y1_a Y.cars.length y1_c, .slice y2_a Y.room.length y2_c, .slice y3_a Y.tracks.length y3_c]) (d := 61) (ty := 26) (gd := none) (by kernel_rfl) rfl (by kernel_rfl) (by kernel_rfl) rfl rfl (seesN_held (n := 3) hb52 rfl)) ?_
    refine sp 1 [(62, .slice rv_a (minF (warmCmp Y.cars) ((growM (blocksOf Y.cars (Y.tracks.getD (0) [])) (blocksOf Y.cars (Y.tracks.getD (0) [])).length [] []).drop 1) ((growM (blocksOf Y.cars (Y.tracks.getD (0) [])) (blocksOf Y.cars (Y.tracks.getD (0) [])).length [] []).getD 0 [])).length rv_c)] ?_
    have hmn := hw7 _ (minF_in (f := warmCmp Y.cars) hw6)
    have hct69 := cold_ct I53 _ (Y) _ _ (mkYard y1_f y2_f y3_f) rv_f (by exact (hw7 _ (minF_in (f := warmCmp Y.cars) hw6)).1) (by exact (hw7 _ (minF_in (f := warmCmp Y.cars) hw6)).2)
    refine sS (sc (some 63) (F := ((b38, Obj.map ges gcl) :: (b24, Obj.cells #[.slice gv_a gows.length gv_c] 24 (0, 0)) :: F)) (hct69 :) (.refl _) (fun rv67 I59 rm68 hle60 hp61 => ?_))
    obtain ⟨u64, Ms65, hv62, hm63, qh66⟩ := hp61
    rw [hv62, hm63]; clear hv62 hm63
    replace hb34 := hle60.blk _ _ hb34
    replace hb37 := hle60.blk _ _ hb37
    replace hb52 := hle60.blk _ _ hb52
    replace rv_f := rv_f.mono hle60
    obtain ⟨u64_a, u64_c, u64_e, u64_l⟩ := qh66.shape
    subst u64_e
    refine pm (M' := ((b38, Obj.map ges gcl) :: (b24, Obj.cells #[.slice gv_a gows.length gv_c] 24 (0, 0)) :: (Ms65 ++ F))) (List.perm_middle.trans (List.Perm.cons _ List.perm_middle)) ?_
    show Seq _ _ _ _ _ _ ((63, .slice u64_a (coldOf Y.cars (minF (warmCmp Y.cars) ((growM (blocksOf Y.cars (Y.tracks.getD (0) [])) (blocksOf Y.cars (Y.tracks.getD (0) [])).length [] []).drop 1) ((growM (blocksOf Y.cars (Y.tracks.getD (0) [])) (blocksOf Y.cars (Y.tracks.getD (0) [])).length [] []).getD 0 []))).length u64_c) :: _) _ _
    refine sp 4 [(4, .int .i64 (0)), (3, .int .i64 (↑((coldOf Y.cars (minF (warmCmp Y.cars) ((growM (blocksOf Y.cars (Y.tracks.getD (0) [])) (blocksOf Y.cars (Y.tracks.getD (0) [])).length [] []).drop 1) ((growM (blocksOf Y.cars (Y.tracks.getD (0) [])) (blocksOf Y.cars (Y.tracks.getD (0) [])).length [] []).getD 0 []))).length))), (2, .slice rv_a (minF (warmCmp Y.cars) ((growM (blocksOf Y.cars (Y.tracks.getD (0) [])) (blocksOf Y.cars (Y.tracks.getD (0) [])).length [] []).drop 1) ((growM (blocksOf Y.cars (Y.tracks.getD (0) [])) (blocksOf Y.cars (Y.tracks.getD (0) [])).length [] []).getD 0 [])).length rv_c)] ?_
    refine se ?_
    refine rret ?_
    refine pst_ret3 (t := 2) (u := 3) (r := 4) [] (by kernel_rfl) rfl rfl rfl (List.Sublist.cons _ (List.Sublist.cons _ (List.Sublist.trans (List.Sublist.refl _) (List.sublist_append_right _ _)))) (Imm.le.trans (Imm.le.trans (Imm.le.trans (Imm.le.trans (Imm.le.trans (Imm.le.trans (Imm.le.trans (Imm.le.trans hle22 hle29) hle33) hle36) hle41) hle47) hle51) hle54) hle60) ?_
    exact ⟨_, (congrArg (fun p : List Int × Int × Int => Value.tuple #[.slice rv_a p.1.length rv_c, .int .i64 p.2.1, .int .i64 p.2.2]) (warmE_ok hvl).symm), rfl, ((show minF (warmCmp Y.cars) ((growM (blocksOf Y.cars (Y.tracks.getD (0) [])) (blocksOf Y.cars (Y.tracks.getD (0) [])).length [] []).drop 1) ((growM (blocksOf Y.cars (Y.tracks.getD (0) [])) (blocksOf Y.cars (Y.tracks.getD (0) [])).length [] []).getD 0 []) = (warmE Y).1 from (congrArg Prod.fst (warmE_ok hvl)).symm) ▸ rv_f)⟩

end Go.Proofs.YtcaocbhbofejnaaDoor
namespace Go.Sl
open Go
section
variable {P : Program} {N : Nat} {ops : Array Oper} {i : Nat} {l : Sl} {I : Imm} {M : Seg} {ty : TypeId} {gd : Option (Nat × Bool)} {K : Sl → Imm → Seg → Prop} {κ : Type} [DecidableEq κ] {enc : κ → Value}
theorem stp_insert {x y u : Operand} {T kt et r cl : Nat} {es : Array MapEntry} {kvs : List (κ × Value)} {k : κ} {v : Value} (n : Nat) (hop : opAt ops N i = some (none, .insert T x y u, ty, gd)) (hg : gval ops l gd = some true)
    (hT : tyMap P T = some (kt, et)) (hK : KeyOk P kt enc) (hx : oval l x = some (.map (some r))) (hy : oval l y = some (enc k)) (hu : oval l u = some v) (hn : M[n]? = some (r, Obj.map es cl)) (his : MapIs enc es kvs)
    (h : ∀ es' cl', MapIs enc es' (upd k v kvs) → K l I (M.set n (r, Obj.map es' cl'))) : Stp P N ops i l I M K :=
  stp_of_wpL hop hg (known3 hx hy hu) (by
    show wpL P (Instr.mapUpdate T (rho l x) (rho l y) (rho l u) >>= fun _ => pure Next.skip) _ I M
    rw [rho_of hx, rho_of hy, rho_of hu, wpL_bind]
    unfold Instr.mapUpdate
    rw [wpL_bind, wpL_underlying (tyMap_spec hT)]
    show wpL P (Sem.getObj r _) _ I M
    refine ⟨_, .inl (List.mem_of_getElem? hn), rfl, ?_⟩
    show wpL P (Instr.checkKey _ _ _ _ >>= _) _ I _
    rw [wpL_bind]
    refine hK.check _ _ _ _ _ ?_
    rw [wpL_bind]
    refine hK.find k es.toList kvs _ _ _ his ?_
    have hf := findKv_upd k v kvs 0
    cases hkv : findKv k kvs 0 with
    | none =>
      rw [hkv] at hf
      simp only at hf
      show wpL P (Sem.setObj r _ _) _ I M
      refine wpL_setObj n rfl hn rfl ?_
      refine ⟨undef, .inr ⟨rfl, rfl⟩, h _ _ ?_⟩
      rw [hf.1]
      exact mapIs_push his k v cl
    | some p =>
      obtain ⟨j, w⟩ := p
      rw [hkv] at hf
      simp only [Nat.sub_zero] at hf
      obtain ⟨_, h1, _, h2⟩ := hf
      have hold : ((es[j]?).map (·.key)).getD (enc k) = enc k := by
        have := congrArg (fun l => (l[j]?).map Prod.fst) his
        simp only [List.getElem?_map, Array.getElem?_toList, Option.map_map] at this
        cases he : es[j]? with
        | none => rfl
        | some e =>
          rw [he] at this
          cases hq : kvs[j]? with
          | none => rw [hq] at this; simp at this
          | some q =>
            rw [hq] at this h2
            simp [entOf] at this h2
            simp [this, h2]
      have key : ∀ key, key = enc k → wpL P (Sem.setObj r (.map (es.modify j fun e => { e with key, val := v }) cl) (Sem.pure ())) (fun _ M' => wpL P (pure Next.skip) (fun n M' => ∃ v, (n = .value v ∨ (n = .skip ∧ v = undef)) ∧ K (ups none v l) I M') I M') I M := fun key hkey => by
        refine wpL_setObj n rfl hn rfl ?_
        refine ⟨undef, .inr ⟨rfl, rfl⟩, h _ _ ?_⟩
        rw [h1]
        exact mapIs_set his j k v key hkey
      show wpL P (Instr.keyThatStays (((es[j]?).map (·.key)).getD (enc k)) (enc k) >>= _) _ I M
      rw [wpL_bind, hold]
      unfold Instr.keyThatStays
      split
      · exact key _ rfl
      · rw [wpL_bind]
        show (if (Question.extern "map.whichKeyStays" 2).forced then _ else ∀ t, _)
        split
        · refine key _ ?_; split <;> rfl
        · intro t; refine key _ ?_; split <;> rfl)

end
theorem decI_t {p : Prop} {i : Decidable p} (h : @decide p i = true) : p := of_decide_eq_true h
theorem decI_f {p : Prop} {i : Decidable p} (h : @decide p i = false) : ¬ p := of_decide_eq_false h
def NoR : Imm → Seg → Prop := fun _ M => M = []
end Go.Sl
namespace Go.Sh
open Go Go.Sl
def YardH (T : TypeId) (I : Imm) (v : Value) (Y : Yard) : Prop :=
  ∃ b v1 v2 v3, v = .pointer (some ⟨b, 0, none⟩) ∧ I.blk b = some (Obj.cells #[v1, v2, v3] T (0, 0)) ∧ IsCars I v1 Y.cars ∧ IsInts I v2 Y.room ∧ IsRows I v3 Y.tracks
theorem YardH.mono {T : TypeId} {I J : Imm} {v : Value} {Y : Yard} (h : YardH T I v Y) (le : I.le J) : YardH T J v Y := by
  obtain ⟨b, v1, v2, v3, h1, h2, h3, h4, h5⟩ := h
  exact ⟨b, v1, v2, v3, h1, le.blk _ _ h2, h3.mono le, h4.mono le, h5.mono le⟩
def YardsH (T : TypeId) (I : Imm) (vs : List Value) (zs : List Yard) : Prop := vs.length = zs.length ∧ ∀ i, i < zs.length → YardH T I (vs.getD i undef) (zs.getD i noYard)
theorem YardsH.mono {T : TypeId} {I J : Imm} {vs : List Value} {zs : List Yard} (h : YardsH T I vs zs) (le : I.le J) : YardsH T J vs zs := ⟨h.1, fun i hi => (h.2 i hi).mono le⟩
theorem YardsH.nil (T : TypeId) (I : Imm) : YardsH T I [] [] := ⟨rfl, fun i hi => by simp at hi⟩
theorem YardsH.snoc {T : TypeId} {I : Imm} {vs : List Value} {zs : List Yard} (h : YardsH T I vs zs) {v : Value} {Z : Yard} (hz : YardH T I v Z) : YardsH T I (vs ++ [v]) (zs ++ [Z]) := by
  refine ⟨by simp [h.1], fun i hi => ?_⟩
  have hl := h.1
  by_cases e : i < zs.length
  · have := h.2 i e
    simp only [List.getD] at this ⊢
    rw [List.getElem?_append_left (by omega), List.getElem?_append_left e]; exact this
  · simp only [List.length_append, List.length_cons, List.length_nil] at hi
    have e2 : i = zs.length := by omega
    subst e2
    simp only [List.getD]
    rw [List.getElem?_append_right (by omega), List.getElem?_append_right (by omega), hl]
    simpa using hz
theorem YardH.mk {T : TypeId} {I : Imm} {b : Nat} {v1 v2 v3 : Value} {Y : Yard} (h2 : I.blk b = some (Obj.cells #[v1, v2, v3] T (0, 0))) (h3 : IsCars I v1 Y.cars) (h4 : IsInts I v2 Y.room) (h5 : IsRows I v3 Y.tracks) :
    YardH T I (.pointer (some ⟨b, 0, none⟩)) Y := ⟨b, v1, v2, v3, rfl, h2, h3, h4, h5⟩

structure VisOk (A : Yard) (s : List Place × List Yard) : Prop where
  met : ∃ m : List Yard, s.1 = m.map placeOf ∧ (∀ y ∈ m, Kin A y) ∧ (m.map Yard.tracks).Nodup
  kin : ∀ y ∈ s.2, Kin A y
  le : s.2.length ≤ s.1.length
theorem VisOk.count {A : Yard} {s : List Place × List Yard} (h : VisOk A s) (f : Fine A) : s.1.length ≤ 5000 ∧ s.2.length ≤ 5000 := by
  obtain ⟨m, e, hk, hn⟩ := h.met
  have hs : m.map Yard.tracks ⊆ allCuts A.tracks.length 5 A.tracks.flatten := fun t ht => by
    obtain ⟨y, hy, rfl⟩ := List.mem_map.1 ht
    exact kin_mem f (hk y hy) f.sum
  have := hn.length_le_of_subset hs
  rw [List.length_map, allCuts_length] at this
  have hf : fact A.tracks.flatten.length ≤ 120 := by
    match A.tracks.flatten.length, f.sum with
    | 0, _ | 1, _ | 2, _ | 3, _ | 4, _ | 5, _ => decide
  have h2 : fact A.tracks.flatten.length * ((5 + 1) * (5 + 1)) ≤ 120 * 36 := Nat.mul_le_mul_right 36 hf
  have h3 : s.1.length = m.length := by rw [e, List.length_map]
  have := h.le
  omega
theorem VisOk.visit {A : Yard} {s : List Place × List Yard} {z : Yard} (h : VisOk A s) (f : Fine A) (hz : Kin A z) : VisOk A (visit s z) := by
  obtain ⟨m, e, hk, hn⟩ := h.met
  have hle := h.le
  unfold Go.Sh.visit
  split
  · exact h
  · rename_i hm
    refine ⟨⟨m ++ [z], by simp [e], fun y hy => ?_, ?_⟩, fun y hy => ?_, by simp only [List.length_append, List.length_cons, List.length_nil]; omega⟩
    · rcases List.mem_append.1 hy with hy | hy
      · exact hk y hy
      · simp at hy; subst hy; exact hz
    · rw [List.map_append]
      refine List.nodup_append.2 ⟨hn, by simp, fun a ha b hb => ?_⟩
      simp at hb; subst hb
      intro e2
      obtain ⟨y, hy, rfl⟩ := List.mem_map.1 ha
      have := kin_tracks (hk y hy) hz e2
      subst this
      exact hm (e ▸ List.mem_map_of_mem hy)
    · rcases List.mem_append.1 hy with hy | hy
      · exact h.kin y hy
      · simp at hy; subst hy; exact hz
theorem VisOk.visitAll {A : Yard} (f : Fine A) : ∀ (zs : List Yard) (s : List Place × List Yard), VisOk A s → (∀ z ∈ zs, Kin A z) → VisOk A (visitAll zs s) := by
  intro zs
  induction zs with
  | nil => intro s h _; exact h
  | cons z r ih => intro s h hk; exact ih _ (h.visit f (hk z List.mem_cons_self)) (fun y hy => hk y (List.mem_cons_of_mem _ hy))
theorem VisOk.fresh {A : Yard} {s : List Place × List Yard} (h : VisOk A s) : VisOk A (s.1, []) := ⟨h.met, fun y hy => by simp at hy, Nat.zero_le _⟩
theorem VisOk.start (A : Yard) : VisOk A ([placeOf A], [A]) := ⟨⟨[A], rfl, fun y hy => by simp at hy; subst hy; exact Kin.refl _, by simp⟩, fun y hy => by simp at hy; subst hy; exact Kin.refl _, by simp⟩
def visJ (met : List Place) (now : List Yard) (j : Nat) : List Place × List Yard := visitAll ((now.take j).flatMap nexts) (met, [])
theorem visJ_zero (met : List Place) (now : List Yard) : visJ met now 0 = (met, []) := by simp [visJ, visitAll]
theorem visJ_succ {met : List Place} {now : List Yard} {j : Nat} (h : j < now.length) : visJ met now (j + 1) = visitAll (nexts (now.getD j noYard)) (visJ met now j) := by
  unfold visJ; rw [take_snoc (d := noYard) h, List.flatMap_append, visitAll_append]; simp
theorem visJ_done {met : List Place} {now : List Yard} {j : Nat} (h : now.length ≤ j) : visJ met now j = roundM now met := by
  unfold visJ roundM; rw [take_done h]
def visX (s : List Place × List Yard) (x : Yard) (xs : List Shift) : List Place × List Yard := visitAll (xs.map (moved x)) s
theorem visX_snoc (s : List Place × List Yard) (x : Yard) (xs : List Shift) (d : Shift) : visX s x (xs ++ [d]) = visit (visX s x xs) (moved x d) := by
  unfold visX; rw [List.map_append, visitAll_append]; rfl
theorem VisOk.j {A : Yard} (f : Fine A) {met : List Place} {now : List Yard} (h : VisOk A (met, now)) (j : Nat) : VisOk A (visJ met now j) :=
  VisOk.visitAll f _ _ h.fresh (flat_kin fun y hy => h.kin y (List.mem_of_mem_take hy))
theorem VisOk.x {A : Yard} (f : Fine A) {s : List Place × List Yard} {x : Yard} (h : VisOk A s) (hx : Kin A x) {xs : List Shift} (hp : xs <+: draws x) : VisOk A (visX s x xs) :=
  VisOk.visitAll f _ _ h fun y hy => by
    obtain ⟨d, hd, rfl⟩ := List.mem_map.1 hy
    exact hx.moved (mem_draws_may (hp.subset hd))
theorem VisOk.round {A : Yard} (f : Fine A) {met : List Place} {now : List Yard} (h : VisOk A (met, now)) : VisOk A (roundM now met) := VisOk.visitAll f _ _ h.fresh (flat_kin h.kin)
def reachE (Y : Yard) (d : Int) : Int × Int := if checkErr Y = 0 then (if inB d 0 4 then (reach Y d.toNat, 0) else (0, 1)) else (0, checkErr Y)
theorem reachE_bad {Y : Yard} {d : Int} (h : checkErr Y ≠ 0) : reachE Y d = (0, checkErr Y) := if_neg h
theorem reachE_far {Y : Yard} {d : Int} (h : Valid Y) (hd : inB d 0 4 = false) : reachE Y d = (0, 1) := (if_pos h).trans (if_neg (by rw [hd]; simp))
theorem reachE_ok {Y : Yard} {d : Int} (h : Valid Y) (hd : inB d 0 4 = true) : reachE Y d = (reach Y d.toNat, 0) := (if_pos h).trans (if_pos hd)
end Go.Sh
namespace Go.Sh
open Go Go.Sl
theorem visit_old {s : List Place × List Yard} {z : Yard} (h : placeOf z ∈ s.1) : visit s z = s := if_pos h
theorem visit_new {s : List Place × List Yard} {z : Yard} (h : ¬ placeOf z ∈ s.1) : visit s z = (s.1 ++ [placeOf z], s.2 ++ [z]) := if_neg h
theorem reach_step {met : List Place} {zs : List Yard} {d k j : Nat} (hk : k < d) (hj : zs.length ≤ j) : reachM (d - k) met zs = reachM (d - (k + 1)) (visJ met zs j).1 (visJ met zs j).2 := by
  rw [visJ_done hj, show d - k = (d - (k + 1)) + 1 by omega]; rfl
theorem reach_end {Y : Yard} {met : List Place} {zs : List Yard} {d k : Nat} (h : reachM d [placeOf Y] [Y] = reachM (d - k) met zs) (hk : d ≤ k) : reach Y d = (met.length : Int) := by
  unfold reach; rw [h, show d - k = 0 by omega]; rfl
theorem prefix_left {α : Type} {xs ys : List α} {x : α} (h : (xs ++ [x]) <+: ys) : xs <+: ys := (List.prefix_append xs [x]).trans h
theorem Kin.lens {A Y : Yard} (f : Fine A) (k : Kin A Y) : Y.cars.length ≤ 1000000 ∧ Y.room.length ≤ 1000000 ∧ Y.tracks.length ≤ 1000000 := by
  have := k.cars5 f; have := k.len3 f; have := f.room3
  rw [k.room]; omega
end Go.Sh
namespace Go.Proofs.YtcaocbhbofejnaaDoor
open Go Go.Sl Go.Sh
set_option maxRecDepth 100000
noncomputable def c_mayh (p : List Nat) : Code := sub (bodyOf Tryd.f63) p
theorem mayh_ct (I : Imm) (y : Nat) (y_1 y_2 y_3 : Value) (Y : Yard) (s : Shift) (y_b : I.blk y = some (Obj.cells #[y_1, y_2, y_3] 87 (0, 0))) (y_1f : IsCars I y_1 Y.cars) (y_2f : IsInts I y_2 Y.room) (y_3f : IsRows I y_3 Y.tracks) (ho : OkAll Y.cars Y.tracks) (hs : Small Y.cars) (hl : Y.room.length = Y.tracks.length) (hq : ∀ t ∈ Y.tracks, t.length ≤ 1000000) : Ct Tryd.prog 63 #[.pointer (some ⟨y, 0, none⟩), .agg #[.int .i64 s.frm, .int .i64 s.to, .int .i64 s.many]] I ([]) (fun v I' M' => v = errV (mayErr Y s) ∧ M' = []) := by
 have y_1_f := y_1f
 obtain ⟨y_1_a, y_1_c, y_1_b, y_1_o, y_1_e, y_1_l, y_1_m, y_1_r⟩ := id y_1_f
 subst y_1_e
 have y_2_f := y_2f
 obtain ⟨y_2_a, y_2_c, y_2_b, y_2_o, y_2_e, y_2_l, y_2_m, y_2_r⟩ := id y_2_f
 subst y_2_e
 have y_3_f := y_3f
 obtain ⟨y_3_a, y_3_c, y_3_b, y_3_o, y_3_vs, y_3_e, y_3_l, y_3_m, y_3_r, y_3_w⟩ := id y_3_f
 subst y_3_e
 have y_3r_len : (Y.tracks).length = (Y.tracks).length := rfl
 refine fn_of_run (fn := Tryd.f63) (args := [_, _]) (N := 120) Tryd.func63 rfl (by kernel_rfl) (Nat.le_of_ble_eq_true rfl) (fun F => ?_)
 show Run _ _ (c_mayh []) _ _ [(0, .pointer (some ⟨y, 0, none⟩)), (1, .agg #[.int .i64 (s.frm), .int .i64 (s.to), .int .i64 (s.many)])] _ _
 refine rnm ?_
 refine rqr ?_
 refine sS (sb 3 54 #[.int .i64 (s.frm), .int .i64 (s.to), .int .i64 (s.many)] (fun b1 => ?_))
 refine sp 1 [(4, .nilIface)] ?_
 refine se ?_
 refine rq ?_
 refine rqr ?_
 refine sp 2 [(9, .pointer (some ⟨y, 0, none⟩))] ?_
 refine sd (det_fieldAddr (x := (.tmp 9)) (T := 87) (k := 0) (o := 0) (d := 10) (ty := 0) (gd := none) (by kernel_rfl) rfl (by kernel_rfl) rfl) ?_
 refine sd (det_fieldAddr (x := (.tmp 10)) (T := 26) (k := 2) (o := 2) (d := 11) (ty := 0) (gd := none) (by kernel_rfl) rfl (by kernel_rfl) rfl) ?_
 refine sd (det_load (v := .slice y_3_a Y.tracks.length y_3_c) (x := (.tmp 11)) (T := 24) (d := 12) (ty := 24) (gd := none) (by kernel_rfl) rfl (by kernel_rfl) rfl (sees_held y_b rfl)) ?_
 refine sp 2 [(5, .int .i64 (↑(Y.tracks.length)))] ?_
 refine se ?_
 refine rb 0 ?_
 refine rq ?_
 refine rqr ?_
 refine sp 1 [(15, .pointer (some ⟨b1, 0, none⟩))] ?_
 refine sd (dlb 16 0 0 b1 (.int .i64 (s.frm))) ?_
 refine sp 1 [(17, .int .i64 (↑(Y.tracks.length)))] ?_
 refine sd (dsb 18 (↑(Y.tracks.length)) (1)) ?_
 refine sd (dc 19 (fun I' hI => (in_ct I' (s.frm) (0) ((↑(Y.tracks.length)) - 1) :))) ?_
 refine sp 2 [(14, .bool (!(inB s.frm 0 ((↑(Y.tracks.length)) - 1))))] ?_
 refine se ?_
 refine rc 14 rfl (fun h1 => ?_) (fun h1 => ?_)
 ·
  have h1_r := h1
  have h1 := not_t h1
  have h1_p := inB_f h1
  refine rskip ?_
  refine pst_next ?_
  refine run_re 14 rfl (congrArg Value.bool h1_r) ?_
  refine rct 14 rfl ?_
  refine rqr ?_
  refine sp 3 [(4, .iface 122 (.agg #[.int .i64 (3)]))] ?_
  refine se ?_
  refine rret ?_
  refine (pst_ret_block (pst_ret_pass ?_))
  refine pst_ret1 (t := 4) [] (by kernel_rfl) rfl (List.Sublist.cons _ (List.Sublist.refl _)) (Imm.le.refl _) ?_
  exact ⟨(show errV 3 = _ from congrArg errV (mayErr_1 y_3r_len h1).symm), rfl⟩
 ·
  have h1_r := h1
  have h1 := not_f h1
  have h1_p := inB_t h1
  refine rr ?_
  refine sp 1 [(21, .pointer (some ⟨b1, 1, none⟩))] ?_
  refine sd (dlb 22 0 1 b1 (.int .i64 (s.to))) ?_
  refine sp 1 [(23, .int .i64 (↑(Y.tracks.length)))] ?_
  refine sd (dsb 24 (↑(Y.tracks.length)) (1)) ?_
  refine sd (dc 25 (fun I' hI => (in_ct I' (s.to) (0) ((↑(Y.tracks.length)) - 1) :))) ?_
  refine sp 2 [(14, .bool (!(inB s.to 0 ((↑(Y.tracks.length)) - 1))))] ?_
  refine se ?_
  refine rc 14 rfl (fun h2 => ?_) (fun h2 => ?_)
  ·
   have h2_r := h2
   have h2 := not_t h2
   have h2_p := inB_f h2
   refine rqr ?_
   refine sp 3 [(4, .iface 122 (.agg #[.int .i64 (3)]))] ?_
   refine se ?_
   refine rret ?_
   refine (pst_ret_block (pst_ret_pass ?_))
   refine pst_ret1 (t := 4) [] (by kernel_rfl) rfl (List.Sublist.cons _ (List.Sublist.refl _)) (Imm.le.refl _) ?_
   exact ⟨(show errV 3 = _ from congrArg errV (mayErr_2 y_3r_len h1 h2).symm), rfl⟩
  ·
   have h2_r := h2
   have h2 := not_f h2
   have h2_p := inB_t h2
   refine rqr ?_
   refine sp 1 [(30, .pointer (some ⟨b1, 0, none⟩))] ?_
   refine sd (dlb 31 0 0 b1 (.int .i64 (s.frm))) ?_
   refine sp 1 [(32, .pointer (some ⟨b1, 1, none⟩))] ?_
   refine sd (dlb 33 0 1 b1 (.int .i64 (s.to))) ?_
   refine sp 2 [(29, .bool (cmp .eql (s.frm) (s.to)))] ?_
   refine se ?_
   refine rc 29 rfl (fun h3 => ?_) (fun h3 => ?_)
   ·
    have h3_r := h3
    have h3 := eql_t h3
    refine rqr ?_
    refine sp 3 [(4, .iface 122 (.agg #[.int .i64 (4)]))] ?_
    refine se ?_
    refine rret ?_
    refine (pst_ret_block (pst_ret_pass ?_))
    refine pst_ret1 (t := 4) [] (by kernel_rfl) rfl (List.Sublist.cons _ (List.Sublist.refl _)) (Imm.le.refl _) ?_
    exact ⟨(show errV 4 = _ from congrArg errV (mayErr_3 y_3r_len h1 h2 h3).symm), rfl⟩
   ·
    have h3_r := h3
    have h3 := eql_f h3
    refine rqr ?_
    refine sp 1 [(38, .pointer (some ⟨b1, 2, none⟩))] ?_
    refine sd (dlb 39 0 2 b1 (.int .i64 (s.many))) ?_
    refine sp 2 [(37, .bool (cmp .lss (s.many) (1)))] ?_
    refine se ?_
    refine rc 37 rfl (fun h4 => ?_) (fun h4 => ?_)
    ·
     have h4_r := h4
     have h4 := lss_t h4
     refine rqr ?_
     refine sp 3 [(4, .iface 122 (.agg #[.int .i64 (7)]))] ?_
     refine se ?_
     refine rret ?_
     refine (pst_ret_block (pst_ret_pass ?_))
     refine pst_ret1 (t := 4) [] (by kernel_rfl) rfl (List.Sublist.cons _ (List.Sublist.refl _)) (Imm.le.refl _) ?_
     exact ⟨(show errV 7 = _ from congrArg errV (mayErr_4 y_3r_len h1 h2 (by omega) (by omega)).symm), rfl⟩
    ·
     have h4_r := h4
     have h4 := lss_f h4
     refine rq ?_
     refine rd0 12 ?_
     refine ox 1 [(44, .pointer (some ⟨b1, 2, none⟩))] ?_
     refine ofp_det (dlb 45 0 2 b1 (.int .i64 (s.many))) ?_
     refine ox 2 [(47, .pointer (some ⟨y, 0, none⟩))] ?_
     refine ofp_det (det_fieldAddr (x := (.tmp 47)) (T := 87) (k := 0) (o := 0) (d := 48) (ty := 0) (gd := none) (by kernel_rfl) rfl (by kernel_rfl) rfl) ?_
     refine ofp_det (det_fieldAddr (x := (.tmp 48)) (T := 26) (k := 2) (o := 2) (d := 49) (ty := 0) (gd := none) (by kernel_rfl) rfl (by kernel_rfl) rfl) ?_
     refine ofp_det (det_load (v := .slice y_3_a Y.tracks.length y_3_c) (x := (.tmp 49)) (T := 24) (d := 50) (ty := 24) (gd := none) (by kernel_rfl) rfl (by kernel_rfl) rfl (sees_held y_b rfl)) ?_
     refine ox 1 [(51, .pointer (some ⟨b1, 0, none⟩))] ?_
     refine ofp_det (dlb 52 0 0 b1 (.int .i64 (s.frm))) ?_
     refine ofp_det (diI 53 1 (s.frm) y_3_r.addr) ?_
     have r3_f := y_3_w ((s.frm : Int).toNat) (by omega)
     obtain ⟨r3_a, r3_c, r3_b, r3_o, r3_e, r3_l, r3_m, r3_r⟩ := id r3_f
     rw [r3_e] at r3_f
     refine ofp_det (det_eq (dl 54 (rows_get y_3_r ((s.frm : Int).toNat) (by omega))) r3_e) ?_
     refine ox 1 [(55, .int .i64 (↑((Y.tracks.getD ((s.frm : Int).toNat) []).length)))] ?_
     refine ofp_end0 ?_
     refine sp 2 [(43, .bool (cmp .gtr (s.many) (↑((Y.tracks.getD ((s.frm : Int).toNat) []).length))))] ?_
     refine se ?_
     refine rc 43 rfl (fun h5 => ?_) (fun h5 => ?_)
     ·
      have h5_r := h5
      have h5 := gtr_t h5
      refine rqr ?_
      refine sp 3 [(4, .iface 122 (.agg #[.int .i64 (6)]))] ?_
      refine se ?_
      refine rret ?_
      refine (pst_ret_block (pst_ret_pass ?_))
      refine pst_ret1 (t := 4) [] (by kernel_rfl) rfl (List.Sublist.cons _ (List.Sublist.refl _)) (Imm.le.refl _) ?_
      exact ⟨(show errV 6 = _ from congrArg errV (mayErr_5 y_3r_len h1 h2 (by omega) (by omega) h5).symm), rfl⟩
     ·
      have h5_r := h5
      have h5 := gtr_f h5
      refine rskip ?_
      refine pst_normal_block ?_
      refine pst_next ?_
      refine rq ?_
      refine rd0 7 ?_
      refine ox 2 [(60, .pointer (some ⟨y, 0, none⟩))] ?_
      refine ofp_det (det_fieldAddr (x := (.tmp 60)) (T := 87) (k := 0) (o := 0) (d := 61) (ty := 0) (gd := none) (by kernel_rfl) rfl (by kernel_rfl) rfl) ?_
      refine ofp_det (det_fieldAddr (x := (.tmp 61)) (T := 26) (k := 2) (o := 2) (d := 62) (ty := 0) (gd := none) (by kernel_rfl) rfl (by kernel_rfl) rfl) ?_
      refine ofp_det (det_load (v := .slice y_3_a Y.tracks.length y_3_c) (x := (.tmp 62)) (T := 24) (d := 63) (ty := 24) (gd := none) (by kernel_rfl) rfl (by kernel_rfl) rfl (sees_held y_b rfl)) ?_
      refine ox 1 [(64, .pointer (some ⟨b1, 0, none⟩))] ?_
      refine ofp_det (dlb 65 0 0 b1 (.int .i64 (s.frm))) ?_
      refine ofp_end0 ?_
      refine sd (diI 66 1 (s.frm) y_3_r.addr) ?_
      have r4_f := y_3_w ((s.frm : Int).toNat) (by omega)
      obtain ⟨r4_a, r4_c, r4_b, r4_o, r4_e, r4_l, r4_m, r4_r⟩ := id r4_f
      rw [r4_e] at r4_f
      refine sd (det_eq (dl 67 (rows_get y_3_r ((s.frm : Int).toNat) (by omega))) r4_e) ?_
      refine sp 1 [(6, .slice r4_a (Y.tracks.getD ((s.frm : Int).toNat) []).length r4_c)] ?_
      refine sn ?_
      refine sp 3 [(70, .pointer (some ⟨b1, 2, none⟩)), (69, .int .i64 (↑((Y.tracks.getD ((s.frm : Int).toNat) []).length)))] ?_
      refine sd (dlb 71 0 2 b1 (.int .i64 (s.many))) ?_
      refine sd (dsb 72 (↑((Y.tracks.getD ((s.frm : Int).toNat) []).length)) (s.many)) ?_
      refine sp 1 [(7, .int .i64 ((↑((Y.tracks.getD ((s.frm : Int).toNat) []).length)) - s.many))] ?_
      refine se ?_
      refine rq ?_
      refine rq ?_
      refine run_cut (fun a w => Slots 120 [(4, .nilIface), (117, .bool ((coupled Y.cars (Y.tracks.getD ((s.frm : Int).toNat) []) ((↑((Y.tracks.getD ((s.frm : Int).toNat) []).length)) - s.many)) || (cmp .gtr (((lenOf Y.cars ((Y.tracks.getD ((s.frm : Int).toNat) []).drop (((↑((Y.tracks.getD ((s.frm).toNat) []).length) : Int) - s.many).toNat)))) + ((lenOf Y.cars (Y.tracks.getD ((s.to : Int).toNat) [])))) (Y.room.getD ((s.to : Int).toNat) 0))))] a ∧ a.defers = [] ∧ St I ((b1, Obj.cells #[.int .i64 (s.frm), .int .i64 (s.to), .int .i64 (s.many)] 54 (0, 0)) :: F) w) ?_ ?_
      ·
       refine rd0 43 ?_
       refine ox 3 [(75, .pointer (some ⟨y, 0, none⟩)), (73, .slice r4_a (Y.tracks.getD ((s.frm : Int).toNat) []).length r4_c)] ?_
       refine ofp_det (det_fieldAddr (x := (.tmp 75)) (T := 87) (k := 0) (o := 0) (d := 76) (ty := 0) (gd := none) (by kernel_rfl) rfl (by kernel_rfl) rfl) ?_
       refine ofp_det (det_fieldAddr (x := (.tmp 76)) (T := 26) (k := 0) (o := 0) (d := 77) (ty := 0) (gd := none) (by kernel_rfl) rfl (by kernel_rfl) rfl) ?_
       refine ofp_det (det_load (v := .slice y_1_a Y.cars.length y_1_c) (x := (.tmp 77)) (T := 23) (d := 78) (ty := 23) (gd := none) (by kernel_rfl) rfl (by kernel_rfl) rfl (sees_held y_b rfl)) ?_
       refine ox 1 [(79, .int .i64 ((↑((Y.tracks.getD ((s.frm : Int).toNat) []).length)) - s.many))] ?_
       skip
       refine ofp_det (dc 80 (fun I' hI => (coupled_ct I' _ _ _ _ ((↑((Y.tracks.getD ((s.frm : Int).toNat) []).length)) - s.many) (r4_f.mono hI) (y_1_f.mono hI) (by exact ho.at s.frm.toNat (by omega)) :))) ?_
       refine ox 1 [(81, .bool (coupled Y.cars (Y.tracks.getD ((s.frm : Int).toNat) []) ((↑((Y.tracks.getD ((s.frm : Int).toNat) []).length)) - s.many)))] ?_
       refine ofp_split 81 (fun h6 => ?_) (fun h6 => ?_)
       ·
        have h6_b := h6
        refine ox 34 [(115, undef), (106, undef)] ?_
        refine ofp_end0 ?_
        refine sp 2 [(117, .bool (true))] ?_
        refine ee ?_
        refine pst_meet (fun a w hS hD hW => ⟨hS.sub (.cons 4 rfl (.consE 117 rfl (congrArg Value.bool (by simp only [h6, Bool.true_and, Bool.false_and, Bool.and_true, Bool.and_false, Bool.true_or, Bool.false_or, Bool.or_true, Bool.or_false, cond_true, cond_false])) (.nil _))), hD, hW⟩)
       ·
        have h6_b := h6
        refine ox 2 [(83, .int .i64 ((↑((Y.tracks.getD ((s.frm : Int).toNat) []).length)) - s.many)), (82, .slice r4_a (Y.tracks.getD ((s.frm : Int).toNat) []).length r4_c)] ?_
        have s5_f := r4_f.cutLo (((↑((Y.tracks.getD ((s.frm).toNat) []).length) : Int) - s.many).toNat) (by omega)
        obtain ⟨s5_a, s5_c, s5_b, s5_o, s5_e, s5_l, s5_m, s5_r⟩ := id s5_f
        rw [s5_e] at s5_f
        refine ofp_det (det_eq (det_slice (x := (.tmp 82)) (lo := (some (.tmp 83))) (hi := none) (T := 68) (e := 3) (sz := 1) (((↑((Y.tracks.getD ((s.frm).toNat) []).length) : Int) - s.many).toNat) ((Y.tracks.getD ((s.frm : Int).toNat) []).length) (d := 84) (ty := 68) (gd := (some (8, false))) (by kernel_rfl) (by kernel_rfl) (by kernel_rfl) (by kernel_rfl) rfl (.inr ⟨_, .i64, rfl, (look_int rfl (by omega))⟩) (.inl ⟨rfl, rfl⟩) (by omega) (by omega)) s5_e) ?_
        refine ox 2 [(86, .pointer (some ⟨y, 0, none⟩))] ?_
        refine ofp_det (det_fieldAddr (x := (.tmp 86)) (T := 87) (k := 0) (o := 0) (d := 87) (ty := 0) (gd := (some (8, false))) (by kernel_rfl) (by kernel_rfl) (by kernel_rfl) rfl) ?_
        refine ofp_det (det_fieldAddr (x := (.tmp 87)) (T := 26) (k := 0) (o := 0) (d := 88) (ty := 0) (gd := (some (8, false))) (by kernel_rfl) (by kernel_rfl) (by kernel_rfl) rfl) ?_
        refine ofp_det (det_load (v := .slice y_1_a Y.cars.length y_1_c) (x := (.tmp 88)) (T := 23) (d := 89) (ty := 23) (gd := (some (8, false))) (by kernel_rfl) (by kernel_rfl) (by kernel_rfl) rfl (sees_held y_b rfl)) ?_
        refine ofp_det (dc 90 (fun I' hI => (long_ct I' _ _ _ _ (s5_f.mono hI) (y_1_f.mono hI) (by exact (ho.at s.frm.toNat (by omega)).drop _) (by assumption) :))) ?_
        refine ox 2 [(92, .pointer (some ⟨y, 0, none⟩))] ?_
        refine ofp_det (det_fieldAddr (x := (.tmp 92)) (T := 87) (k := 0) (o := 0) (d := 93) (ty := 0) (gd := (some (8, false))) (by kernel_rfl) (by kernel_rfl) (by kernel_rfl) rfl) ?_
        refine ofp_det (det_fieldAddr (x := (.tmp 93)) (T := 26) (k := 2) (o := 2) (d := 94) (ty := 0) (gd := (some (8, false))) (by kernel_rfl) (by kernel_rfl) (by kernel_rfl) rfl) ?_
        refine ofp_det (det_load (v := .slice y_3_a Y.tracks.length y_3_c) (x := (.tmp 94)) (T := 24) (d := 95) (ty := 24) (gd := (some (8, false))) (by kernel_rfl) (by kernel_rfl) (by kernel_rfl) rfl (sees_held y_b rfl)) ?_
        refine ox 1 [(96, .pointer (some ⟨b1, 1, none⟩))] ?_
        refine ofp_det (dlb 97 0 1 b1 (.int .i64 (s.to))) ?_
        refine ofp_det (diI 98 1 (s.to) y_3_r.addr) ?_
        have r6_f := y_3_w ((s.to : Int).toNat) (by omega)
        obtain ⟨r6_a, r6_c, r6_b, r6_o, r6_e, r6_l, r6_m, r6_r⟩ := id r6_f
        rw [r6_e] at r6_f
        refine ofp_det (det_eq (dl 99 (rows_get y_3_r ((s.to : Int).toNat) (by omega))) r6_e) ?_
        refine ox 2 [(101, .pointer (some ⟨y, 0, none⟩))] ?_
        refine ofp_det (det_fieldAddr (x := (.tmp 101)) (T := 87) (k := 0) (o := 0) (d := 102) (ty := 0) (gd := (some (8, false))) (by kernel_rfl) (by kernel_rfl) (by kernel_rfl) rfl) ?_
        refine ofp_det (det_fieldAddr (x := (.tmp 102)) (T := 26) (k := 0) (o := 0) (d := 103) (ty := 0) (gd := (some (8, false))) (by kernel_rfl) (by kernel_rfl) (by kernel_rfl) rfl) ?_
        refine ofp_det (det_load (v := .slice y_1_a Y.cars.length y_1_c) (x := (.tmp 103)) (T := 23) (d := 104) (ty := 23) (gd := (some (8, false))) (by kernel_rfl) (by kernel_rfl) (by kernel_rfl) rfl (sees_held y_b rfl)) ?_
        refine ofp_det (dc 105 (fun I' hI => (long_ct I' _ _ _ _ (r6_f.mono hI) (y_1_f.mono hI) (by exact ho.at s.to.toNat (by omega)) (by assumption) :))) ?_
        refine ofp_det (da 106 ((lenOf Y.cars ((Y.tracks.getD ((s.frm : Int).toNat) []).drop (((↑((Y.tracks.getD ((s.frm).toNat) []).length) : Int) - s.many).toNat)))) ((lenOf Y.cars (Y.tracks.getD ((s.to : Int).toNat) []))) (hr := by have q1 := lenOf_bound hs ((Y.tracks.getD s.frm.toNat []).drop ((↑((Y.tracks.getD ((s.frm).toNat) []).length) : Int) - s.many).toNat); have q2 := lenOf_bound hs (Y.tracks.getD s.to.toNat []); have q3 := hq _ (getD_mem (d := []) (xs := Y.tracks) (k := s.frm.toNat) (by omega)); have q4 := hq _ (getD_mem (d := []) (xs := Y.tracks) (k := s.to.toNat) (by omega)); simp only [List.length_drop] at q1; omega)) ?_
        refine ox 2 [(108, .pointer (some ⟨y, 0, none⟩))] ?_
        refine ofp_det (det_fieldAddr (x := (.tmp 108)) (T := 87) (k := 0) (o := 0) (d := 109) (ty := 0) (gd := (some (8, false))) (by kernel_rfl) (by kernel_rfl) (by kernel_rfl) rfl) ?_
        refine ofp_det (det_fieldAddr (x := (.tmp 109)) (T := 26) (k := 1) (o := 1) (d := 110) (ty := 0) (gd := (some (8, false))) (by kernel_rfl) (by kernel_rfl) (by kernel_rfl) rfl) ?_
        refine ofp_det (det_load (v := .slice y_2_a Y.room.length y_2_c) (x := (.tmp 110)) (T := 22) (d := 111) (ty := 22) (gd := (some (8, false))) (by kernel_rfl) (by kernel_rfl) (by kernel_rfl) rfl (sees_held y_b rfl)) ?_
        refine ox 1 [(112, .pointer (some ⟨b1, 1, none⟩))] ?_
        refine ofp_det (dlb 113 0 1 b1 (.int .i64 (s.to))) ?_
        refine ofp_det (diI 114 1 (s.to) y_2_r.addr) ?_
        refine ofp_det (dl 115 (ints_get y_2_r ((s.to : Int).toNat) (by omega))) ?_
        refine ofp_end0 ?_
        refine sp 2 [(117, .bool (cmp .gtr (((lenOf Y.cars ((Y.tracks.getD ((s.frm : Int).toNat) []).drop (((↑((Y.tracks.getD ((s.frm).toNat) []).length) : Int) - s.many).toNat)))) + ((lenOf Y.cars (Y.tracks.getD ((s.to : Int).toNat) [])))) (Y.room.getD ((s.to : Int).toNat) 0)))] ?_
        refine ee ?_
        refine pst_meet (fun a w hS hD hW => ⟨hS.sub (.cons 4 rfl (.consE 117 rfl (congrArg Value.bool (by simp only [h6, Bool.true_and, Bool.false_and, Bool.and_true, Bool.and_false, Bool.true_or, Bool.false_or, Bool.or_true, Bool.or_false, cond_true, cond_false])) (.nil _))), hD, hW⟩)
      ·rintro a w ⟨hS, hD, hW⟩
       refine run_at hS hD hW ?_
       clear hS hD hW a w
       refine rc 117 rfl (fun h7 => ?_) (fun h7 => ?_)
       ·
        have h7_r := h7
        refine rqr ?_
        refine sp 3 [(4, .iface 122 (.agg #[.int .i64 (9)]))] ?_
        refine se ?_
        refine rret ?_
        refine (pst_ret_pass ?_)
        refine pst_ret1 (t := 4) [] (by kernel_rfl) rfl (List.Sublist.cons _ (List.Sublist.refl _)) (Imm.le.refl _) ?_
        exact ⟨(show errV 9 = _ from congrArg errV (mayErr_6 y_3r_len h1 h2 (by omega) (by omega) (Int.not_lt.2 h5) h7_r).symm), rfl⟩
       ·
        have h7_r := h7
        obtain ⟨h7_1, h7_2⟩ := or_f h7
        have h7_2 := gtr_f h7_2
        refine rskip ?_
        refine pst_next ?_
        refine rqr ?_
        refine sp 1 [(4, .nilIface)] ?_
        refine se ?_
        refine rret ?_
        refine pst_ret1 (t := 4) [] (by kernel_rfl) rfl (List.Sublist.cons _ (List.Sublist.refl _)) (Imm.le.refl _) ?_
        exact ⟨(show errV 0 = _ from congrArg errV (mayErr_7 y_3r_len h1 h2 (by omega) (by omega) (Int.not_lt.2 h5) h7_r).symm), rfl⟩

noncomputable def c_shifts1h (p : List Nat) : Code := sub (bodyOf Tryd.f72) p
set_option maxHeartbeats 1000000 in
theorem shifts1h_iter (I0 : Imm) (y by_ bm : Nat) (y_1 y_2 y_3 : Value) (Y : Yard) (hG : Glob I0) (hy : I0.blk by_ = some (Obj.cells #[.pointer (some ⟨y, 0, none⟩)] 85 (0, 0))) (hm : I0.blk bm = some (Obj.cells #[.func (.func 63) #[] #[]] 114 (0, 0))) (y_b : I0.blk y = some (Obj.cells #[y_1, y_2, y_3] 87 (0, 0))) (y_1f : IsCars I0 y_1 Y.cars) (y_2f : IsInts I0 y_2 Y.room) (y_3f : IsRows I0 y_3 Y.tracks) (hgood : GoodY Y) (h3 : Y.tracks.length ≤ 1000000) : IterCt Tryd.prog 72 [.pointer (some ⟨by_, 0, none⟩), .pointer (some ⟨bm, 0, none⟩)] encS (draws Y) NoR I0 := by
 intro L Cl Sp hmono hround I Mr M hI0 hR hCl
 obtain rfl : Mr = [] := hR
 replace hy := hI0.blk _ _ hy
 replace hm := hI0.blk _ _ hm
 replace y_b := hI0.blk _ _ y_b
 replace y_1f := y_1f.mono hI0
 replace y_2f := y_2f.mono hI0
 replace y_3f := y_3f.mono hI0
 have y_1_f := y_1f
 obtain ⟨y_1_a, y_1_c, y_1_b, y_1_o, y_1_e, y_1_l, y_1_m, y_1_r⟩ := id y_1_f
 subst y_1_e
 have y_2_f := y_2f
 obtain ⟨y_2_a, y_2_c, y_2_b, y_2_o, y_2_e, y_2_l, y_2_m, y_2_r⟩ := id y_2_f
 subst y_2_e
 have y_3_f := y_3f
 obtain ⟨y_3_a, y_3_c, y_3_b, y_3_o, y_3_vs, y_3_e, y_3_l, y_3_m, y_3_r, y_3_w⟩ := id y_3_f
 subst y_3_e
 have y_3r_len : (Y.tracks).length = (Y.tracks).length := rfl
 refine fn_of_run (fn := Tryd.f72) (args := [_, _, _]) (N := 56) Tryd.func72 rfl (by kernel_rfl) (Nat.le_of_ble_eq_true rfl) (fun F => ?_)
 show Run _ _ (c_shifts1h []) _ _ [(0, .func (.yield L) #[] #[]), (1, .pointer (some ⟨by_, 0, none⟩)), (2, .pointer (some ⟨bm, 0, none⟩))] _ _
 refine run_mem (M' := ((M ++ F))) (fun w h => by simpa only [List.append_assoc, List.cons_append, List.nil_append] using h) ?_
 refine rnm ?_
 have hq3 := hgood.le
 refine rqr ?_
 refine sd (det_load (v := .pointer (some ⟨y, 0, none⟩)) (x := (.tmp 1)) (T := 85) (d := 8) (ty := 85) (gd := none) (by kernel_rfl) rfl (by kernel_rfl) rfl (sees_held hy rfl)) ?_
 refine sp 1 [(9, .pointer (some ⟨y, 0, none⟩))] ?_
 refine sd (det_fieldAddr (x := (.tmp 9)) (T := 87) (k := 0) (o := 0) (d := 10) (ty := 0) (gd := none) (by kernel_rfl) rfl (by kernel_rfl) rfl) ?_
 refine sd (det_fieldAddr (x := (.tmp 10)) (T := 26) (k := 2) (o := 2) (d := 11) (ty := 0) (gd := none) (by kernel_rfl) rfl (by kernel_rfl) rfl) ?_
 refine sd (det_load (v := .slice y_3_a Y.tracks.length y_3_c) (x := (.tmp 11)) (T := 24) (d := 12) (ty := 24) (gd := none) (by kernel_rfl) rfl (by kernel_rfl) rfl (sees_held y_b rfl)) ?_
 refine sp 2 [(14, .int .i64 (0)), (13, .int .i64 (↑(Y.tracks.length)))] ?_
 refine se ?_
 refine rb 0 ?_
 refine rl (fun mz a w => ∃ J0 : Imm, ∃ k : Nat, ∃ xs1 : List Shift, ∃ Mc1 : Seg, (I.le J0) ∧ (k ≤ Y.tracks.length) ∧ (xs1 ++ drawsY Y k = draws Y) ∧ (Cl xs1 J0 Mc1) ∧ Slots 56 [(14, .int .i64 ↑k), (0, .func (.yield L) #[] #[]), (1, .pointer (some ⟨by_, 0, none⟩)), (2, .pointer (some ⟨bm, 0, none⟩)), (13, .int .i64 (↑(Y.tracks.length)))] a ∧ a.defers = [] ∧ St J0 ((Mc1 ++ F)) w ∧ mz = Y.tracks.length - k) ?_ ?_
 ·intro a w hS hD hW
  exact ⟨_, I, 0, [], M, Imm.le.refl _, Nat.zero_le _, rfl, hCl, hS.sub (.cons 14 rfl (.cons 0 rfl (.cons 1 rfl (.cons 2 rfl (.cons 13 rfl (.nil _)))))), hD, hW, rfl⟩
 ·rintro mz a w ⟨J0, k, xs1, Mc1, hJ0, hk, hx1, hCl, hS, hD, hW, rfl⟩
  refine run_at hS hD hW ?_
  clear hS hD hW a w
  replace hy := hJ0.blk _ _ hy
  replace hm := hJ0.blk _ _ hm
  replace y_1_f := y_1_f.mono hJ0
  replace y_2_f := y_2_f.mono hJ0
  replace y_3_f := y_3_f.mono hJ0
  replace y_3_r := y_3_r.mono hJ0
  replace y_3_w := fun i hi => (y_3_w i hi).mono hJ0
  replace y_b := hJ0.blk _ _ y_b
  refine rqr ?_
  refine sp 1 [(15, .bool (cmp .lss (↑k) (↑(Y.tracks.length))))] ?_
  refine se ?_
  refine rq ?_
  refine rc 15 rfl (fun h1 => ?_) (fun h1 => ?_)
  ·
   have h1_r := h1
   have h1 := lss_t h1
   refine rskip ?_
   refine pst_next ?_
   refine rq ?_
   refine rb 1 ?_
   refine rqr ?_
   refine sp 2 [(4, .int .i64 (↑k))] ?_
   refine sn ?_
   refine sd (det_load (v := .pointer (some ⟨y, 0, none⟩)) (x := (.tmp 1)) (T := 85) (d := 17) (ty := 85) (gd := none) (by kernel_rfl) rfl (by kernel_rfl) rfl (sees_held hy rfl)) ?_
   refine sp 1 [(18, .pointer (some ⟨y, 0, none⟩))] ?_
   refine sd (det_fieldAddr (x := (.tmp 18)) (T := 87) (k := 0) (o := 0) (d := 19) (ty := 0) (gd := none) (by kernel_rfl) rfl (by kernel_rfl) rfl) ?_
   refine sd (det_fieldAddr (x := (.tmp 19)) (T := 26) (k := 2) (o := 2) (d := 20) (ty := 0) (gd := none) (by kernel_rfl) rfl (by kernel_rfl) rfl) ?_
   refine sd (det_load (v := .slice y_3_a Y.tracks.length y_3_c) (x := (.tmp 20)) (T := 24) (d := 21) (ty := 24) (gd := none) (by kernel_rfl) rfl (by kernel_rfl) rfl (sees_held y_b rfl)) ?_
   refine sp 2 [(23, .int .i64 (0)), (22, .int .i64 (↑(Y.tracks.length)))] ?_
   refine se ?_
   refine rb 2 ?_
   refine rl (fun mz a w => ∃ J1 : Imm, ∃ t : Nat, ∃ xs2 : List Shift, ∃ Mc2 : Seg, (J0.le J1) ∧ (t ≤ Y.tracks.length) ∧ (xs2 ++ (drawsF Y k t ++ drawsY Y (k + 1)) = draws Y) ∧ (Cl xs2 J1 Mc2) ∧ Slots 56 [(23, .int .i64 ↑t), (0, .func (.yield L) #[] #[]), (1, .pointer (some ⟨by_, 0, none⟩)), (2, .pointer (some ⟨bm, 0, none⟩)), (4, .int .i64 (↑k)), (13, .int .i64 (↑(Y.tracks.length))), (14, .int .i64 (↑k)), (22, .int .i64 (↑(Y.tracks.length)))] a ∧ a.defers = [] ∧ St J1 ((Mc2 ++ F)) w ∧ mz = Y.tracks.length - t) ?_ ?_
   ·intro a w hS hD hW
    exact ⟨_, J0, 0, xs1, Mc1, Imm.le.refl _, Nat.zero_le _, by rw [← hx1, drawsY_step (Y := Y) (f := k) (by omega)], hCl, hS.sub (.cons 23 rfl (.cons 0 rfl (.cons 1 rfl (.cons 2 rfl (.cons 4 rfl (.cons 13 rfl (.cons 14 rfl (.cons 22 rfl (.nil _))))))))), hD, hW, rfl⟩
   ·rintro mz a w ⟨J1, t, xs2, Mc2, hJ1, ht, hx2, hCl, hS, hD, hW, rfl⟩
    refine run_at hS hD hW ?_
    clear hS hD hW a w
    replace hy := hJ1.blk _ _ hy
    replace hm := hJ1.blk _ _ hm
    replace y_1_f := y_1_f.mono hJ1
    replace y_2_f := y_2_f.mono hJ1
    replace y_3_f := y_3_f.mono hJ1
    replace y_3_r := y_3_r.mono hJ1
    replace y_3_w := fun i hi => (y_3_w i hi).mono hJ1
    replace y_b := hJ1.blk _ _ y_b
    refine rqr ?_
    refine sp 1 [(24, .bool (cmp .lss (↑t) (↑(Y.tracks.length))))] ?_
    refine se ?_
    refine rq ?_
    refine rc 24 rfl (fun h2 => ?_) (fun h2 => ?_)
    ·
     have h2_r := h2
     have h2 := lss_t h2
     refine rskip ?_
     refine pst_next ?_
     refine rq ?_
     refine rb 3 ?_
     refine rqr ?_
     refine sp 2 [(5, .int .i64 (↑t))] ?_
     refine sn ?_
     refine sp 1 [(6, .int .i64 (1))] ?_
     refine se ?_
     refine rb 4 ?_
     refine rl (fun mz a w => ∃ J2 : Imm, ∃ j : Nat, ∃ xs3 : List Shift, ∃ Mc3 : Seg, (J1.le J2) ∧ (j ≤ (Y.tracks.getD (k) []).length) ∧ (xs3 ++ (drawsFT Y k t j ++ (drawsF Y k (t + 1) ++ drawsY Y (k + 1))) = draws Y) ∧ (Cl xs3 J2 Mc3) ∧ Slots 56 [(6, .int .i64 (↑j + 1)), (0, .func (.yield L) #[] #[]), (1, .pointer (some ⟨by_, 0, none⟩)), (2, .pointer (some ⟨bm, 0, none⟩)), (4, .int .i64 (↑k)), (5, .int .i64 (↑t)), (13, .int .i64 (↑(Y.tracks.length))), (14, .int .i64 (↑k)), (22, .int .i64 (↑(Y.tracks.length))), (23, .int .i64 (↑t))] a ∧ a.defers = [] ∧ St J2 ((Mc3 ++ F)) w ∧ mz = (Y.tracks.getD (k) []).length - j) ?_ ?_
     ·intro a w hS hD hW
      exact ⟨_, J1, 0, xs2, Mc2, Imm.le.refl _, Nat.zero_le _, by rw [← hx2, drawsF_step (Y := Y) (f := k) (t := t) (by omega), List.append_assoc], hCl, hS.sub (.cons 6 rfl (.cons 0 rfl (.cons 1 rfl (.cons 2 rfl (.cons 4 rfl (.cons 5 rfl (.cons 13 rfl (.cons 14 rfl (.cons 22 rfl (.cons 23 rfl (.nil _))))))))))), hD, hW, rfl⟩
     ·rintro mz a w ⟨J2, j, xs3, Mc3, hJ2, hj, hx3, hCl, hS, hD, hW, rfl⟩
      refine run_at hS hD hW ?_
      clear hS hD hW a w
      replace hy := hJ2.blk _ _ hy
      replace hm := hJ2.blk _ _ hm
      replace y_1_f := y_1_f.mono hJ2
      replace y_2_f := y_2_f.mono hJ2
      replace y_3_f := y_3_f.mono hJ2
      replace y_3_r := y_3_r.mono hJ2
      replace y_3_w := fun i hi => (y_3_w i hi).mono hJ2
      replace y_b := hJ2.blk _ _ y_b
      refine rq ?_
      refine rqr ?_
      refine sp 1 [(26, .int .i64 (↑j + 1))] ?_
      refine sd (det_load (v := .pointer (some ⟨y, 0, none⟩)) (x := (.tmp 1)) (T := 85) (d := 27) (ty := 85) (gd := none) (by kernel_rfl) rfl (by kernel_rfl) rfl (sees_held hy rfl)) ?_
      refine sp 1 [(28, .pointer (some ⟨y, 0, none⟩))] ?_
      refine sd (det_fieldAddr (x := (.tmp 28)) (T := 87) (k := 0) (o := 0) (d := 29) (ty := 0) (gd := none) (by kernel_rfl) rfl (by kernel_rfl) rfl) ?_
      refine sd (det_fieldAddr (x := (.tmp 29)) (T := 26) (k := 2) (o := 2) (d := 30) (ty := 0) (gd := none) (by kernel_rfl) rfl (by kernel_rfl) rfl) ?_
      refine sd (det_load (v := .slice y_3_a Y.tracks.length y_3_c) (x := (.tmp 30)) (T := 24) (d := 31) (ty := 24) (gd := none) (by kernel_rfl) rfl (by kernel_rfl) rfl (sees_held y_b rfl)) ?_
      refine sp 1 [(32, .int .i64 (↑k))] ?_
      refine sd (di 33 1 (k) y_3_r.addr) ?_
      have r1_f := y_3_w (k) (by omega)
      obtain ⟨r1_a, r1_c, r1_b, r1_o, r1_e, r1_l, r1_m, r1_r⟩ := id r1_f
      rw [r1_e] at r1_f
      refine sd (det_eq (dl 34 (rows_get y_3_r (k) (by omega))) r1_e) ?_
      refine sp 2 [(36, .bool (cmp .leq (↑j + 1) (↑((Y.tracks.getD (k) []).length))))] ?_
      refine se ?_
      refine rc 36 rfl (fun h3 => ?_) (fun h3 => ?_)
      ·
       have h3_r := h3
       have h3 := leq_t h3
       refine rskip ?_
       refine pst_next ?_
       refine rq ?_
       refine rb 5 ?_
       refine rqr ?_
       refine sp 4 [(42, .agg #[.int .i64 (↑k), .int .i64 (↑t), .int .i64 (↑j + 1)])] ?_
       refine sS (sal 7 54 #[.int .i64 (0), .int .i64 (0), .int .i64 (0)] (fun b2 => ?_))
       refine sS (ss 0 0 b2 [.int .i64 (↑k), .int .i64 (↑t), .int .i64 (↑j + 1)] [.int .i64 (↑k), .int .i64 (↑t), .int .i64 (↑j + 1)] (_ :: _) (cs := [_, _, _]) rfl rfl ?_)
       refine sn ?_
       refine sd (det_load (v := .func (.func 63) #[] #[]) (x := (.tmp 2)) (T := 114) (d := 43) (ty := 114) (gd := none) (by kernel_rfl) rfl (by kernel_rfl) rfl (sees_held hm rfl)) ?_
       refine sd (det_load (v := .pointer (some ⟨y, 0, none⟩)) (x := (.tmp 1)) (T := 85) (d := 44) (ty := 85) (gd := none) (by kernel_rfl) rfl (by kernel_rfl) rfl (sees_held hy rfl)) ?_
       refine sd (dnb 45 0 0 b2 [.int .i64 (↑k), .int .i64 (↑t), .int .i64 (↑j + 1)]) ?_
       have hct11 := mayh_ct J2 (y) _ _ _ (Y) ((⟨↑k, ↑t, ↑j + 1⟩ : Shift)) y_b y_1_f y_2_f y_3_f (by exact hgood.ok) (by exact hgood.small) (by exact hgood.len) (by exact hgood.le)
       refine sS (sc (some 46) (F := ((b2, Obj.cells #[.int .i64 (↑k), .int .i64 (↑t), .int .i64 (↑j + 1)] 54 (0, 0)) :: (Mc3 ++ F))) (hct11 :) (.refl _) (fun rv9 I4 rm10 hle5 hp6 => ?_))
       obtain ⟨hv7, hm8⟩ := hp6
       rw [hv7, hm8]; clear hv7 hm8
       replace hy := hle5.blk _ _ hy
       replace hm := hle5.blk _ _ hm
       replace y_b := hle5.blk _ _ y_b
       replace hCl := hmono _ _ _ _ hle5 hCl
       refine nm ?_
       show Seq _ _ _ _ _ _ ((46, errV ((mayErr Y ((⟨↑k, ↑t, ↑j + 1⟩ : Shift))))) :: _) _ _
       refine sd (det_eqIface (x := (.tmp 46)) (T := 108) (T' := 108) (d := 47) (ty := 4) (gd := none) (by kernel_rfl) rfl (by kernel_rfl) rfl (isNI_err _)) ?_
       refine sp 1 [(48, .bool (decide ((mayErr Y ((⟨↑k, ↑t, ↑j + 1⟩ : Shift))) = 0)))] ?_
       refine seq_split 48 rfl (fun h4 => ?_) (fun h4 => ?_)
       ·
        have h4_b := h4
        have h4_b := dec_t h4_b
        refine sp 1 [(49, .func (.yield L) #[] #[])] ?_
        refine sd (dnb 50 0 0 b2 [.int .i64 (↑k), .int .i64 (↑t), .int .i64 (↑j + 1)]) ?_
        have hme : mayErr Y (mk3 k t (j + 1)) = 0 := h4_b
        have hpre : xs3 ++ [mk3 k t (j + 1)] <+: draws Y := ⟨_, by rw [← hx3, drawsFT_yes (by omega) hme]; simp; rfl⟩
        refine sS (stp_yield (d := some 51) (f := (.tmp 49)) (args := #[.tmp 50]) (tys := #[54]) (pre := ([] ++ Mc3)) (F := ((b2, Obj.cells #[.int .i64 (↑k), .int .i64 (↑t), .int .i64 (↑j + 1)] 54 (0, 0)) :: F)) (ty := 4) (gd := (some (5, true))) (by kernel_rfl) (by kernel_rfl) rfl rfl (hround xs3 (mk3 k t (j + 1)) _ [] Mc3 hpre (Imm.le.trans (Imm.le.trans (Imm.le.trans (Imm.le.trans hI0 hJ0) hJ1) hJ2) hle5) rfl hCl) (by simpa only [List.append_assoc, List.cons_append, List.nil_append] using (List.perm_middle.symm)) (fun yv IY MY hIY hYP => ?_))
        rcases hYP with ⟨rfl, Mr4, Mc4, rfl, hR4, hCl4⟩ | ⟨rfl, hSp4⟩
        ·
         obtain rfl : Mr4 = [] := hR4
         replace hy := hIY.blk _ _ hy
         replace hm := hIY.blk _ _ hm
         replace y_b := hIY.blk _ _ y_b
         replace hCl := hmono _ _ _ _ hIY hCl
         replace hCl := hCl4
         refine seq_mem (M' := ((Mc4 ++ (b2, Obj.cells #[.int .i64 (↑k), .int .i64 (↑t), .int .i64 (↑j + 1)] 54 (0, 0)) :: F))) (fun w h => by simpa only [List.append_assoc, List.cons_append, List.nil_append] using h) ?_
         refine pm (M' := ((b2, Obj.cells #[.int .i64 (↑k), .int .i64 (↑t), .int .i64 (↑j + 1)] 54 (0, 0)) :: (Mc4 ++ F))) List.perm_middle ?_
         refine sp 2 [(53, .bool (!(true)))] ?_
         refine se ?_
         refine rcf 53 rfl ?_
         refine rskip ?_
         refine pst_normal_block ?_
         refine pst_next ?_
         refine rr ?_
         refine sp 1 [(37, .int .i64 (↑j + 1))] ?_
         refine sd (da 38 (↑j + 1) (1)) ?_
         refine sp 1 [(6, .int .i64 ((↑j + 1) + 1))] ?_
         refine ee ?_
         refine pst_back ((Y.tracks.getD (k) []).length - (j+1)) (by omega) ?_
         intro a w hS hD hW
         exact ⟨IY, j+1, xs3 ++ [mk3 k t (j + 1)], Mc4, (Imm.le.trans (Imm.le.trans hJ2 hle5) hIY), by omega, by rw [← hx3, drawsFT_yes (by omega) hme]; simp, hCl, hS.sub (.consE 6 rfl rfl (.cons 0 rfl (.cons 1 rfl (.cons 2 rfl (.cons 4 rfl (.cons 5 rfl (.cons 13 rfl (.cons 14 rfl (.cons 22 rfl (.cons 23 rfl (.nil _))))))))))), hD, (hW.perm (List.Perm.refl _)).sub (List.Sublist.cons _ (List.Sublist.refl _)), rfl⟩
        ·
         replace hy := hIY.blk _ _ hy
         replace hm := hIY.blk _ _ hm
         replace y_b := hIY.blk _ _ y_b
         replace hCl := hmono _ _ _ _ hIY hCl
         refine seq_mem (M' := ((MY ++ (b2, Obj.cells #[.int .i64 (↑k), .int .i64 (↑t), .int .i64 (↑j + 1)] 54 (0, 0)) :: F))) (fun w h => by simpa only [List.append_assoc, List.cons_append, List.nil_append] using h) ?_
         refine pm (M' := ((b2, Obj.cells #[.int .i64 (↑k), .int .i64 (↑t), .int .i64 (↑j + 1)] 54 (0, 0)) :: (MY ++ F))) List.perm_middle ?_
         refine sp 2 [(53, .bool (!(false)))] ?_
         refine se ?_
         refine rct 53 rfl ?_
         refine rret ?_
         refine (pst_ret_block (pst_ret_pass (pst_ret_pass (pst_ret_block (pst_ret_block (pst_ret_pass (pst_ret_pass (pst_ret_block (pst_ret_block (pst_ret_pass (pst_ret_pass (pst_ret_block ?_))))))))))))
         refine ppm (M' := ((MY ++ (b2, Obj.cells #[.int .i64 (↑k), .int .i64 (↑t), .int .i64 (↑j + 1)] 54 (0, 0)) :: F))) (List.perm_middle.symm) ?_
         refine pst_ret0 (MY) (by kernel_rfl) (List.Sublist.append_left (List.Sublist.cons _ (List.Sublist.refl _)) _) (Imm.le.trans (Imm.le.trans (Imm.le.trans (Imm.le.trans hJ0 hJ1) hJ2) hle5) hIY) ?_
         exact .inr ⟨_, hSp4⟩
       ·
        have h4_b := h4
        have h4_b := dec_f h4_b
        refine sp 5 [(53, .bool (false))] ?_
        refine se ?_
        refine rcf 53 rfl ?_
        refine rskip ?_
        refine pst_normal_block ?_
        refine pst_next ?_
        refine rr ?_
        refine sp 1 [(37, .int .i64 (↑j + 1))] ?_
        refine sd (da 38 (↑j + 1) (1)) ?_
        refine sp 1 [(6, .int .i64 ((↑j + 1) + 1))] ?_
        refine ee ?_
        refine pst_back ((Y.tracks.getD (k) []).length - (j+1)) (by omega) ?_
        intro a w hS hD hW
        exact ⟨I4, j+1, xs3, Mc3, (Imm.le.trans hJ2 hle5), by omega, by rw [← hx3, drawsFT_no (by omega) (show mayErr Y (mk3 k t (j + 1)) ≠ 0 from h4_b)], hCl, hS.sub (.consE 6 rfl rfl (.cons 0 rfl (.cons 1 rfl (.cons 2 rfl (.cons 4 rfl (.cons 5 rfl (.cons 13 rfl (.cons 14 rfl (.cons 22 rfl (.cons 23 rfl (.nil _))))))))))), hD, (hW.perm (List.Perm.refl _)).sub (List.Sublist.cons _ (List.Sublist.refl _)), rfl⟩
      ·
       have h3_r := h3
       have h3 := leq_f h3
       refine rexit 4 ?_
       refine (pst_exit_pass (pst_exit_pass (pst_exit_block ?_)))
       refine pst_normal_block ?_
       refine pst_next ?_
       refine rr ?_
       refine sd (da 54 (↑t) (1)) ?_
       refine sp 1 [(23, .int .i64 (↑t + 1))] ?_
       refine ee ?_
       refine pst_back (Y.tracks.length - (t+1)) (by omega) ?_
       intro a w hS hD hW
       exact ⟨J2, t+1, xs3, Mc3, (Imm.le.trans hJ1 hJ2), by omega, by rw [← hx3, drawsFT_done (Y := Y) (f := k) (t := t) (k := j) (by omega), List.nil_append], hCl, hS.sub (.consE 23 rfl rfl (.cons 0 rfl (.cons 1 rfl (.cons 2 rfl (.cons 4 rfl (.cons 13 rfl (.cons 14 rfl (.cons 22 rfl (.nil _))))))))), hD, hW, rfl⟩
    ·
     have h2_r := h2
     have h2 := lss_f h2
     refine rexit 2 ?_
     refine (pst_exit_pass (pst_exit_pass (pst_exit_block ?_)))
     refine pst_normal_block ?_
     refine pst_next ?_
     refine rr ?_
     refine sd (da 55 (↑k) (1)) ?_
     refine sp 1 [(14, .int .i64 (↑k + 1))] ?_
     refine ee ?_
     refine pst_back (Y.tracks.length - (k+1)) (by omega) ?_
     intro a w hS hD hW
     exact ⟨J1, k+1, xs2, Mc2, (Imm.le.trans hJ0 hJ1), by omega, by rw [← hx2, drawsF_done (Y := Y) (f := k) (t := t) (by omega), List.nil_append], hCl, hS.sub (.consE 14 rfl rfl (.cons 0 rfl (.cons 1 rfl (.cons 2 rfl (.cons 13 rfl (.nil _)))))), hD, hW, rfl⟩
  ·
   have h1_r := h1
   have h1 := lss_f h1
   refine rexit 0 ?_
   refine (pst_exit_pass (pst_exit_pass (pst_exit_block ?_)))
   refine pst_end0 (Mc1) (by kernel_rfl) (List.Sublist.append_left (List.Sublist.refl _) _) hJ0 ?_
   exact .inl ⟨[], Mc1, rfl, rfl, (show xs1 = draws Y by rw [← hx1, drawsY_done (Y := Y) (f := k) (by omega), List.append_nil]) ▸ hCl⟩

end Go.Proofs.YtcaocbhbofejnaaDoor
namespace Go.Proofs.YtcaocbhbofejnaaDoor
open Go Go.Sl Go.Sh
set_option maxRecDepth 100000
noncomputable def c_Reach (p : List Nat) : Code := sub (bodyOf Tryd.f19) p
set_option maxHeartbeats 2000000 in
theorem Reach_ct (I : Imm) (y : Value) (Y : Yard) (dr : Int) (y_f : IsYard I y Y) (hG : Glob I) : Ct Tryd.prog 19 #[y, .int .i64 dr] I ([]) (fun v I' M' => v = .tuple #[.int .i64 ((reachE Y dr).1), .int .i64 ((reachE Y dr).2)] ∧ M' = []) := by
 obtain ⟨y1, y2, y3, y_e, y1_f, y2_f, y3_f⟩ := id y_f
 subst y_e
 obtain ⟨y1_a, y1_c, y1_b, y1_o, y1_e, y1_l, y1_m, y1_r⟩ := id y1_f
 subst y1_e
 obtain ⟨y2_a, y2_c, y2_b, y2_o, y2_e, y2_l, y2_m, y2_r⟩ := id y2_f
 subst y2_e
 obtain ⟨y3_a, y3_c, y3_b, y3_o, y3_vs, y3_e, y3_l, y3_m, y3_r, y3_w⟩ := id y3_f
 subst y3_e
 refine fnM_of_run (fn := Tryd.f19) (args := [_, _]) (N := 73) Tryd.func19 rfl (by kernel_rfl) (Nat.le_of_ble_eq_true rfl) (fun F => ?_)
 show Run _ _ (c_Reach []) _ _ [(0, .agg #[.slice y1_a Y.cars.length y1_c, .slice y2_a Y.room.length y2_c, .slice y3_a Y.tracks.length y3_c]), (1, .int .i64 (dr))] _ _
 refine rnm ?_
 refine rqr ?_
 refine sS (sb 2 26 #[.slice y1_a Y.cars.length y1_c, .slice y2_a Y.room.length y2_c, .slice y3_a Y.tracks.length y3_c] (fun b1 => ?_))
 refine sp 2 [(5, .int .i64 (0)), (4, .int .i64 (0))] ?_
 refine se ?_
 refine rq ?_
 refine rqr ?_
 refine sd (dnb 16 0 0 b1 [.slice y1_a Y.cars.length y1_c, .slice y2_a Y.room.length y2_c, .slice y3_a Y.tracks.length y3_c]) ?_
 refine sd (dc 17 (fun I' hI => (Check_ct I' _ (Y) ((mkYard y1_f y2_f y3_f).mono hI) :))) ?_
 refine sp 1 [(6, .int .i64 ((checkErr Y)))] ?_
 refine sn ?_
 refine sp 2 [(19, .bool (!(cmp .eql ((checkErr Y)) (0))))] ?_
 refine se ?_
 refine rc 19 rfl (fun h1 => ?_) (fun h1 => ?_)
 ·
  have h1_r := h1
  have h1 := not_t h1
  have h1 := eql_f h1
  refine rqr ?_
  refine sp 3 [(5, .int .i64 ((checkErr Y))), (4, .int .i64 (0))] ?_
  refine se ?_
  refine rret ?_
  refine (pst_ret_pass ?_)
  refine pst_marks (R := ((b1, Obj.cells #[.slice y1_a Y.cars.length y1_c, .slice y2_a Y.room.length y2_c, .slice y3_a Y.tracks.length y3_c] 26 (0, 0)) :: F)) [] (.inl rfl) (List.Perm.refl _) ?_
  refine pst_ret2 (t := 4) (u := 5) [] (by kernel_rfl) rfl rfl (List.Sublist.cons _ (List.Sublist.refl _)) (Imm.le.refl _) ?_
  exact ⟨(congrArg (fun p : Int × Int => Value.tuple #[.int .i64 p.1, .int .i64 p.2]) (reachE_bad h1).symm), rfl⟩
 ·
  have h1_r := h1
  have h1 := not_f h1
  have h1 := eql_t h1
  refine rskip ?_
  refine pst_next ?_
  refine rq ?_
  refine rq ?_
  have hvl : Valid Y := by (show checkErr Y = 0; omega)
  have hfa := hvl.fine; have hgood := hvl.good; have hl1 := hvl.lens
  refine rr ?_
  refine sp 1 [(21, .int .i64 (dr))] ?_
  refine sd (dc 22 (fun I' hI => (in_ct I' (dr) (0) (4) :))) ?_
  refine sp 1 [(23, .bool (!(inB dr 0 4)))] ?_
  refine se ?_
  refine rc 23 rfl (fun h2 => ?_) (fun h2 => ?_)
  ·
   have h2_r := h2
   have h2 := not_t h2
   have h2_p := inB_f h2
   refine rqr ?_
   refine sp 2 [(5, .int .i64 (1)), (4, .int .i64 (0))] ?_
   refine se ?_
   refine rret ?_
   refine (pst_ret_pass ?_)
   refine pst_marks (R := ((b1, Obj.cells #[.slice y1_a Y.cars.length y1_c, .slice y2_a Y.room.length y2_c, .slice y3_a Y.tracks.length y3_c] 26 (0, 0)) :: F)) [] (.inl rfl) (List.Perm.refl _) ?_
   refine pst_ret2 (t := 4) (u := 5) [] (by kernel_rfl) rfl rfl (List.Sublist.cons _ (List.Sublist.refl _)) (Imm.le.refl _) ?_
   exact ⟨(congrArg (fun p : Int × Int => Value.tuple #[.int .i64 p.1, .int .i64 p.2]) (reachE_far hvl h2).symm), rfl⟩
  ·
   have h2_r := h2
   have h2 := not_f h2
   have h2_p := inB_t h2
   have hin : inB dr 0 4 = true := h2
   refine rskip ?_
   refine pst_next ?_
   refine rq ?_
   obtain ⟨d, hdd⟩ : ∃ d : Nat, dr = ↑d := ⟨dr.toNat, by have := inB_t hin; omega⟩
   have hd4 := inB_t hin
   refine rr ?_
   refine sd (dnb 24 0 0 b1 [.slice y1_a Y.cars.length y1_c, .slice y2_a Y.room.length y2_c, .slice y3_a Y.tracks.length y3_c]) ?_
   have hct21 := copied_ct I _ (Y) (mkYard y1_f y2_f y3_f) (by omega) (by omega) (by omega) (by exact hgood.le)
   refine sS (sc (some 25) (F := ((b1, Obj.cells #[.slice y1_a Y.cars.length y1_c, .slice y2_a Y.room.length y2_c, .slice y3_a Y.tracks.length y3_c] 26 (0, 0)) :: F)) (hct21 :) (.refl _) (fun rv19 I3 rm20 hle4 hp5 => ?_))
   obtain ⟨u_08, Ms_09, u_110, Ms_111, u_212, ws_213, Ms_214, hv6, hm7, qh15, qh16, qh17, qr18⟩ := hp5
   rw [hv6, hm7]; clear hv6 hm7
   replace hG := hG.mono hle4
   obtain ⟨u_08_a, u_08_c, u_08_e, u_08_l⟩ := qh15.shape
   subst u_08_e
   obtain ⟨u_110_a, u_110_c, u_110_e, u_110_l⟩ := qh16.shape
   subst u_110_e
   obtain ⟨u_212_a, u_212_c, u_212_e, u_212_l⟩ := qh17.shape
   subst u_212_e
   have qr18_len := qr18.1
   try simp only [List.length_set, List.length_append, List.length_cons, List.length_nil, List.length_take] at qr18_len
   refine seq_mem (M' := ((Ms_09 ++ (Ms_111 ++ (Ms_214 ++ (b1, Obj.cells #[.slice y1_a Y.cars.length y1_c, .slice y2_a Y.room.length y2_c, .slice y3_a Y.tracks.length y3_c] 26 (0, 0)) :: F))))) (fun w h => by simpa only [List.append_assoc, List.cons_append, List.nil_append] using h) ?_
   refine pm (M' := ((b1, Obj.cells #[.slice y1_a Y.cars.length y1_c, .slice y2_a Y.room.length y2_c, .slice y3_a Y.tracks.length y3_c] 26 (0, 0)) :: (Ms_09 ++ (Ms_111 ++ (Ms_214 ++ F))))) ((List.Perm.append_left _ ((List.Perm.append_left _ List.perm_middle).trans List.perm_middle)).trans List.perm_middle) ?_
   show Seq _ _ _ _ _ _ ((25, .agg #[.slice u_08_a Y.cars.length u_08_c, .slice u_110_a Y.room.length u_110_c, .slice u_212_a ws_213.length u_212_c]) :: _) _ _
   refine sfz (A := ((b1, Obj.cells #[.slice y1_a Y.cars.length y1_c, .slice y2_a Y.room.length y2_c, .slice y3_a Y.tracks.length y3_c] 26 (0, 0)) :: (Ms_111 ++ (Ms_214 ++ F)))) noCar qh15 (List.perm_middle.symm) (fun I22 hle23 fz24_f => ?_)
   replace hG := hG.mono hle23
   replace qr18 := qr18.mono hle23
   obtain ⟨fz24_a, fz24_c, fz24_b, fz24_o, fz24_e, fz24_l, fz24_m, fz24_r⟩ := id fz24_f
   cases fz24_e
   refine sfz (A := ((b1, Obj.cells #[.slice y1_a Y.cars.length y1_c, .slice y2_a Y.room.length y2_c, .slice y3_a Y.tracks.length y3_c] 26 (0, 0)) :: (Ms_214 ++ F))) 0 qh16 (List.perm_middle.symm) (fun I25 hle26 fz27_f => ?_)
   replace hG := hG.mono hle26
   replace qr18 := qr18.mono hle26
   replace fz24_f := fz24_f.mono hle26
   obtain ⟨fz27_a, fz27_c, fz27_b, fz27_o, fz27_e, fz27_l, fz27_m, fz27_r⟩ := id fz27_f
   cases fz27_e
   refine sp 1 [(26, .agg #[.slice u_08_a Y.cars.length u_08_c, .slice u_110_a Y.room.length u_110_c, .slice u_212_a ws_213.length u_212_c])] ?_
   refine sS (sb 27 87 #[.slice u_08_a Y.cars.length u_08_c, .slice u_110_a Y.room.length u_110_c, .slice u_212_a ws_213.length u_212_c] (fun b28 => ?_))
   refine sp 1 [(7, .pointer (some ⟨b28, 0, none⟩))] ?_
   refine sn ?_
   refine sS (stp_makeMap (d := 28) (T := 92) (ty := 92) (gd := none) (by kernel_rfl) rfl (fun b30 => ?_))
   refine sp 1 [(29, .pointer (some ⟨b28, 0, none⟩))] ?_
   have hct39 := where_ct I25 (b28) _ _ _ _ _ (Y) fz24_f fz27_f qh17 qr18 (by exact hgood.ok) (by exact hfa.cars) (by omega)
   refine sS (sc (some 30) (F := ((b30, Obj.map #[] 0) :: (b1, Obj.cells #[.slice y1_a Y.cars.length y1_c, .slice y2_a Y.room.length y2_c, .slice y3_a Y.tracks.length y3_c] 26 (0, 0)) :: F)) (hct39 :) ((List.Perm.swap _ _ _).trans (List.Perm.cons _ ((List.Perm.cons _ (List.perm_middle.symm)).trans (List.perm_middle.symm)))) (fun rv37 I32 rm38 hle33 hp34 => ?_))
   obtain ⟨hv35, hm36⟩ := hp34
   rw [hv35, hm36]; clear hv35 hm36
   replace hG := hG.mono hle33
   replace qr18 := qr18.mono hle33
   replace fz24_f := fz24_f.mono hle33
   replace fz27_f := fz27_f.mono hle33
   refine seq_mem (M' := ((b28, Obj.cells #[.slice u_08_a Y.cars.length u_08_c, .slice u_110_a Y.room.length u_110_c, .slice u_212_a ws_213.length u_212_c] 87 (0, 0)) :: (Ms_214 ++ (b30, Obj.map #[] 0) :: (b1, Obj.cells #[.slice y1_a Y.cars.length y1_c, .slice y2_a Y.room.length y2_c, .slice y3_a Y.tracks.length y3_c] 26 (0, 0)) :: F))) (fun w h => by simpa only [List.append_assoc, List.cons_append, List.nil_append] using h) ?_
   refine pm (M' := ((b28, Obj.cells #[.slice u_08_a Y.cars.length u_08_c, .slice u_110_a Y.room.length u_110_c, .slice u_212_a ws_213.length u_212_c] 87 (0, 0)) :: (b30, Obj.map #[] 0) :: (b1, Obj.cells #[.slice y1_a Y.cars.length y1_c, .slice y2_a Y.room.length y2_c, .slice y3_a Y.tracks.length y3_c] 26 (0, 0)) :: (Ms_214 ++ F))) (List.Perm.cons _ (List.perm_middle.trans (List.Perm.cons _ List.perm_middle))) ?_
   show Seq _ _ _ _ _ _ ((30, .agg (plCells (placeOf Y).val)) :: _) _ _
   refine sS (stp_insert (x := (.tmp 28)) (y := (.tmp 30)) (u := (.const (.bool true))) (T := 92) (kt := 90) (et := 4) (k := (placeOf Y)) (kvs := trues ([])) 1 (ty := 0) (gd := none) (by kernel_rfl) rfl (by kernel_rfl) (keyOk_place (by kernel_rfl) (by kernel_rfl)) rfl rfl rfl rfl (MapIs.nil _) (fun es40 cl40 his40 => ?_))
   rw [upd_trues] at his40
   rw [if_neg (by simp)] at his40
   refine nm ?_
   refine sp 1 [(31, .map (some b30))] ?_
   refine sS (sal 8 92 #[.map none] (fun b41 => ?_))
   refine sS (ss 0 0 b41 [.map (some b30)] [.map (some b30)] (_ :: _ :: _ :: _ :: _) (cs := [_]) rfl rfl ?_)
   refine se ?_
   refine rq ?_
   refine rn_freeze (B := ((b41, Obj.cells #[.map (some b30)] 92 (0, 0)) :: (b28, Obj.cells #[.slice u_08_a Y.cars.length u_08_c, .slice u_110_a Y.room.length u_110_c, .slice u_212_a ws_213.length u_212_c] 87 (0, 0)) :: (b30, Obj.map es40 cl40) :: (b1, Obj.cells #[.slice y1_a Y.cars.length y1_c, .slice y2_a Y.room.length y2_c, .slice y3_a Y.tracks.length y3_c] 26 (0, 0)) :: F)) undef qh17 (by first | omega | (simp only [List.length_set, List.length_cons, List.length_nil, List.length_append, List.length_take, List.length_drop] <;> omega) | decide) ((List.Perm.cons _ ((List.Perm.cons _ ((List.Perm.cons _ (List.perm_middle.symm)).trans (List.perm_middle.symm))).trans (List.perm_middle.symm))).trans (List.perm_middle.symm)) (List.Perm.refl _) (fun I43 hle44 fz45_f => ?_)
   replace hG := hG.mono hle44
   replace qr18 := qr18.mono hle44
   replace fz24_f := fz24_f.mono hle44
   replace fz27_f := fz27_f.mono hle44
   obtain ⟨fz45_a, fz45_c, fz45_b, fz45_o, fz45_e, fz45_l, fz45_m, fz45_r⟩ := id fz45_f
   cases fz45_e
   have fr46_f := qr18.isRows fz45_f
   have fr46_len := qr18.1
   obtain ⟨fr46_a, fr46_c, fr46_b, fr46_o, fr46_vs, fr46_e, fr46_l, fr46_m, fr46_r, fr46_w⟩ := id fr46_f
   injection fr46_e with fr46_e1 fr46_e2 fr46_e3; subst fr46_e1; subst fr46_e3
   refine run_hold (b := b28) (o := Obj.cells #[.slice u_08_a Y.cars.length u_08_c, .slice u_110_a Y.room.length u_110_c, .slice u_212_a ws_213.length u_212_c] 87 (0, 0)) (M0 := ((b41, Obj.cells #[.map (some b30)] 92 (0, 0)) :: (b30, Obj.map es40 cl40) :: (b1, Obj.cells #[.slice y1_a Y.cars.length y1_c, .slice y2_a Y.room.length y2_c, .slice y3_a Y.tracks.length y3_c] 26 (0, 0)) :: F)) (List.Perm.swap _ _ _) (fun I47 hle48 hb49 => ?_)
   replace hG := hG.mono hle48
   replace fz24_f := fz24_f.mono hle48
   replace fz27_f := fz27_f.mono hle48
   replace fr46_f := fr46_f.mono hle48
   refine run_hold (b := b41) (o := Obj.cells #[.map (some b30)] 92 (0, 0)) (M0 := ((b30, Obj.map es40 cl40) :: (b1, Obj.cells #[.slice y1_a Y.cars.length y1_c, .slice y2_a Y.room.length y2_c, .slice y3_a Y.tracks.length y3_c] 26 (0, 0)) :: F)) (List.Perm.refl _) (fun I50 hle51 hb52 => ?_)
   replace hG := hG.mono hle51
   replace fz24_f := fz24_f.mono hle51
   replace fz27_f := fz27_f.mono hle51
   replace fr46_f := fr46_f.mono hle51
   replace hb49 := hle51.blk _ _ hb49
   refine rr ?_
   refine sp 1 [(32, .pointer (some ⟨b28, 0, none⟩))] ?_
   refine sS (sbs 33 85 1 #[.pointer (some ⟨b28, 0, none⟩)] (fun b53 => ?_))
   refine sp 1 [(9, .slice (some ⟨b53, 0, none⟩) 1 1)] ?_
   refine se ?_
   refine rq ?_
   refine rq ?_
   refine rn_mem (M' := ((b30, Obj.map es40 cl40) :: (b1, Obj.cells #[.slice y1_a Y.cars.length y1_c, .slice y2_a Y.room.length y2_c, .slice y3_a Y.tracks.length y3_c] 26 (0, 0)) :: ([(b53, Obj.cells #[.pointer (some ⟨b28, 0, none⟩)] 85 (0, 0))] ++ F))) (fun w h => h.perm ((List.Perm.swap _ _ _).trans (List.Perm.cons _ (List.Perm.swap _ _ _)))) ?_
   have ho55 : Own 85 1 valCell (.slice (some ⟨b53, 0, none⟩) 1 1) ([(.pointer (some ⟨b28, 0, none⟩) : Value)] : List Value) [(b53, Obj.cells #[.pointer (some ⟨b28, 0, none⟩)] 85 (0, 0))] := Own.lit rfl rfl
   have hnow : YardsH 87 I50 [.pointer (some ⟨b28, 0, none⟩)] [Y] := (YardsH.nil _ _).snoc (YardH.mk hb49 fz24_f fz27_f fr46_f)
   refine rr ?_
   refine sp 1 [(34, .int .i64 (dr))] ?_
   refine seq_re 34 rfl (show (.int .i64 (dr) : Value) = .int .i64 (↑d) from congrArg (Value.int .i64) hdd) ?_
   refine sp 1 [(35, .int .i64 (0))] ?_
   refine se ?_
   refine rb 0 ?_
   refine rl (fun mz a w => ∃ J0 : Imm, ∃ k : Nat, ∃ nv : Value, ∃ nps : List Value, ∃ nM : Seg, ∃ zs : List Yard, ∃ met : List Sh.Place, ∃ es : Array MapEntry, ∃ cl : Nat, ∃ Ds : List Nat, (I50.le J0) ∧ (k ≤ d) ∧ (reachM d [placeOf Y] [Y] = reachM (d - k) met zs) ∧ (VisOk Y (met, zs)) ∧ (Own 85 1 valCell nv nps nM) ∧ (YardsH 87 J0 nps zs) ∧ (MapIs encP es (trues met)) ∧ Slots 73 [(9, nv), (35, .int .i64 ↑k), (4, .int .i64 (0)), (5, .int .i64 (0)), (8, .pointer (some ⟨b41, 0, none⟩)), (34, .int .i64 (↑d))] a ∧ a.defers = Ds.map Sl.mark ∧ St J0 ((b30, Obj.map es cl) :: (b1, Obj.cells #[.slice y1_a Y.cars.length y1_c, .slice y2_a Y.room.length y2_c, .slice y3_a Y.tracks.length y3_c] 26 (0, 0)) :: (nM ++ (Sl.blocksOf Ds ++ F))) w ∧ mz = d - k) ?_ ?_
   ·intro a w hS hD hW
    exact ⟨_, I50, 0, (.slice (some ⟨b53, 0, none⟩) 1 1), ([(.pointer (some ⟨b28, 0, none⟩) : Value)] : List Value), [(b53, Obj.cells #[.pointer (some ⟨b28, 0, none⟩)] 85 (0, 0))], [Y], [placeOf Y], es40, cl40, [], Imm.le.refl _, Nat.zero_le _, rfl, VisOk.start Y, ho55, hnow, his40, hS.sub (.cons 9 rfl (.cons 35 rfl (.cons 4 rfl (.cons 5 rfl (.cons 8 rfl (.cons 34 rfl (.nil _))))))), hD, hW, rfl⟩
   ·rintro mz a w ⟨J0, k, nv, nps, nM, zs, met, es, cl, Ds, hJ0, hk, hr, hvo, no, hnow, hism, hS, hD, hW, rfl⟩
    refine run_at hS hD hW ?_
    clear hS hD hW a w
    replace hG := hG.mono hJ0
    replace hb49 := hJ0.blk _ _ hb49
    replace hb52 := hJ0.blk _ _ hb52
    obtain ⟨nv_a, nv_c, nv_e, nv_l⟩ := no.shape; subst nv_e
    have hnl := hnow.1
    have hzc : zs.length ≤ 5000 := (hvo.count hfa).2
    refine rqr ?_
    refine sp 1 [(36, .bool (cmp .lss (↑k) (↑d)))] ?_
    refine se ?_
    refine rq ?_
    refine rc 36 rfl (fun h3 => ?_) (fun h3 => ?_)
    ·
     have h3_r := h3
     have h3 := lss_t h3
     refine rskip ?_
     refine pst_next ?_
     refine rq ?_
     refine rb 1 ?_
     refine rqr ?_
     refine sS (sal 10 93 #[.slice none 0 0] (fun b56 => ?_))
     refine se ?_
     refine rq ?_
     refine rqr ?_
     refine sp 3 [(39, .int .i64 (0)), (38, .int .i64 (↑(nps.length))), (37, .slice nv_a nps.length nv_c)] ?_
     refine se ?_
     refine rb 2 ?_
     refine rl (fun mz a w => ∃ J1 : Imm, ∃ j : Nat, ∃ xv : Value, ∃ xps : List Value, ∃ xM : Seg, ∃ es1 : Array MapEntry, ∃ cl1 : Nat, ∃ Ds1 : List Nat, (J0.le J1) ∧ (j ≤ zs.length) ∧ (Own 85 1 valCell xv xps xM) ∧ (YardsH 87 J1 xps (visJ met zs j).2) ∧ (MapIs encP es1 (trues (visJ met zs j).1)) ∧ Slots 73 [(39, .int .i64 ↑j), (4, .int .i64 (0)), (5, .int .i64 (0)), (8, .pointer (some ⟨b41, 0, none⟩)), (9, .slice nv_a nps.length nv_c), (10, .pointer (some ⟨b56, 0, none⟩)), (34, .int .i64 (↑d)), (35, .int .i64 (↑k)), (37, .slice nv_a nps.length nv_c), (38, .int .i64 (↑(nps.length)))] a ∧ a.defers = Ds1.map Sl.mark ∧ St J1 ((b56, Obj.cells #[xv] 93 (0, 0)) :: (b30, Obj.map es1 cl1) :: (b1, Obj.cells #[.slice y1_a Y.cars.length y1_c, .slice y2_a Y.room.length y2_c, .slice y3_a Y.tracks.length y3_c] 26 (0, 0)) :: (nM ++ (Sl.blocksOf Ds1 ++ (xM ++ F)))) w ∧ mz = zs.length - j) ?_ ?_
     ·intro a w hS hD hW
      exact ⟨_, J0, 0, (.slice none 0 0), [], [], es, cl, Ds, Imm.le.refl _, Nat.zero_le _, Own.nil _ _ _, (by rw [visJ_zero]; exact YardsH.nil _ _), (by rw [visJ_zero]; exact hism), hS.sub (.cons 39 rfl (.cons 4 rfl (.cons 5 rfl (.cons 8 rfl (.cons 9 rfl (.cons 10 rfl (.cons 34 rfl (.cons 35 rfl (.cons 37 rfl (.cons 38 rfl (.nil _))))))))))), hD, hW, rfl⟩
     ·rintro mz a w ⟨J1, j, xv, xps, xM, es1, cl1, Ds1, hJ1, hj, xo, xh, his1, hS, hD, hW, rfl⟩
      refine run_at hS hD hW ?_
      clear hS hD hW a w
      replace hG := hG.mono hJ1
      replace hb49 := hJ1.blk _ _ hb49
      replace hb52 := hJ1.blk _ _ hb52
      replace hnow := hnow.mono hJ1
      obtain ⟨xv_a, xv_c, xv_e, xv_l⟩ := xo.shape; subst xv_e
      refine rqr ?_
      refine sp 1 [(40, .bool (cmp .lss (↑j) (↑(nps.length))))] ?_
      refine se ?_
      refine rq ?_
      refine rc 40 rfl (fun h4 => ?_) (fun h4 => ?_)
      ·
       have h4_r := h4
       have h4 := lss_t h4
       refine rskip ?_
       refine pst_next ?_
       refine rq ?_
       refine rb 3 ?_
       refine rqr ?_
       obtain ⟨ob58, orr59⟩ := no.row undef
       refine sd (di 41 1 (j) orr59.addr) ?_
       obtain ⟨xb, hx_1, hx_2, hx_3, hx_e, hx_b, hx_1f, hx_2f, hx_3f⟩ := hnow.2 (j) (by omega)
       have hx_1_f := hx_1f
       obtain ⟨hx_1_a, hx_1_c, hx_1_b, hx_1_o, hx_1_e, hx_1_l, hx_1_m, hx_1_r⟩ := id hx_1_f
       subst hx_1_e
       have hx_2_f := hx_2f
       obtain ⟨hx_2_a, hx_2_c, hx_2_b, hx_2_o, hx_2_e, hx_2_l, hx_2_m, hx_2_r⟩ := id hx_2_f
       subst hx_2_e
       have hx_3_f := hx_3f
       obtain ⟨hx_3_a, hx_3_c, hx_3_b, hx_3_o, hx_3_vs, hx_3_e, hx_3_l, hx_3_m, hx_3_r, hx_3_w⟩ := id hx_3_f
       subst hx_3_e
       have hx_3r_len : ((zs.getD (j) noYard).tracks).length = ((zs.getD (j) noYard).tracks).length := rfl
       refine sd (det_eq (dl 42 (orr59.get (j) (by omega) 0 (by decide) _ _ (fun x hx => by simp [hx]))) hx_e) ?_
       refine sS (sal 12 85 #[.pointer none] (fun b60 => ?_))
       refine sS (ss 0 0 b60 [.pointer (some ⟨xb, 0, none⟩)] [.pointer (some ⟨xb, 0, none⟩)] (_ :: _ :: _ :: _ :: _) (cs := [_]) rfl rfl ?_)
       refine se ?_
       refine rq ?_
       have hkx : Kin Y (zs.getD (j) noYard) := hvo.kin _ (getD_mem (d := noYard) (xs := zs) (k := j) (by omega))
       have hgx := Kin.good hfa hkx; have hlx := hkx.lens hfa; have hgx5 := hkx.cars5 hfa
       have hvj : VisOk Y (visJ met zs j) := hvo.j hfa j
       refine run_hold (b := b60) (o := Obj.cells #[.pointer (some ⟨xb, 0, none⟩)] 85 (0, 0)) (M0 := ((b56, Obj.cells #[.slice xv_a xps.length xv_c] 93 (0, 0)) :: (b30, Obj.map es1 cl1) :: (b1, Obj.cells #[.slice y1_a Y.cars.length y1_c, .slice y2_a Y.room.length y2_c, .slice y3_a Y.tracks.length y3_c] 26 (0, 0)) :: (nM ++ (Sl.blocksOf Ds1 ++ (xM ++ F))))) (List.Perm.refl _) (fun I62 hle63 hb64 => ?_)
       replace hG := hG.mono hle63
       replace hb49 := hle63.blk _ _ hb49
       replace hb52 := hle63.blk _ _ hb52
       replace xh := xh.mono hle63
       replace hx_1_f := hx_1_f.mono hle63
       replace hx_2_f := hx_2_f.mono hle63
       replace hx_3_f := hx_3_f.mono hle63
       replace hx_b := hle63.blk _ _ hx_b
       refine rr ?_
       refine sd (det_load (v := .pointer (some ⟨xb, 0, none⟩)) (x := (.tmp 12)) (T := 85) (d := 43) (ty := 85) (gd := none) (by kernel_rfl) rfl (by kernel_rfl) rfl (sees_held hb64 rfl)) ?_
       have hct76 := shifts_ct I62 (xb)
       refine sS (sc (some 44) (F := ((b56, Obj.cells #[.slice xv_a xps.length xv_c] 93 (0, 0)) :: (b30, Obj.map es1 cl1) :: (b1, Obj.cells #[.slice y1_a Y.cars.length y1_c, .slice y2_a Y.room.length y2_c, .slice y3_a Y.tracks.length y3_c] 26 (0, 0)) :: (nM ++ (Sl.blocksOf Ds1 ++ (xM ++ F))))) (hct76 :) (.refl _) (fun rv74 I65 rm75 hle66 hp67 => ?_))
       obtain ⟨by_70, bm71, hv68, hm69, qp72, qp73⟩ := hp67
       rw [hv68, hm69]; clear hv68 hm69
       replace hG := hG.mono hle66
       replace hb49 := hle66.blk _ _ hb49
       replace hb52 := hle66.blk _ _ hb52
       replace xh := xh.mono hle66
       replace hx_1_f := hx_1_f.mono hle66
       replace hx_2_f := hx_2_f.mono hle66
       replace hx_3_f := hx_3_f.mono hle66
       replace hx_b := hle66.blk _ _ hx_b
       replace hb64 := hle66.blk _ _ hb64
       refine nm ?_
       show Seq _ _ _ _ _ _ ((44, .func (.func 72) #[] #[.pointer (some ⟨by_70, 0, none⟩), .pointer (some ⟨bm71, 0, none⟩)]) :: _) _ _
       refine se ?_
       refine rb 4 ?_
       refine run_rangeFunc (α := Shift) (g := (.tmp 44)) (ps := #[45]) (assign := c_Reach [1, 1, 1, 1, 1, 1, 0, 1, 0, 0, 1, 1, 0, 0, 1, 0, 1, 0, 0, 1, 1, 0, 0, 1, 1, 0, 0]) (body := c_Reach [1, 1, 1, 1, 1, 1, 0, 1, 0, 0, 1, 1, 0, 0, 1, 0, 1, 0, 0, 1, 1, 0, 0, 1, 1, 0, 1]) (gf := 72) (cv := [.pointer (some ⟨by_70, 0, none⟩), .pointer (some ⟨bm71, 0, none⟩)]) (enc := encS) (seq := draws (zs.getD (j) noYard)) (R := NoR) (Mr := []) (M0 := ((b30, Obj.map es1 cl1) :: (b56, Obj.cells #[.slice xv_a xps.length xv_c] 93 (0, 0)) :: xM)) (F0 := ((b1, Obj.cells #[.slice y1_a Y.cars.length y1_c, .slice y2_a Y.room.length y2_c, .slice y3_a Y.tracks.length y3_c] 26 (0, 0)) :: (nM ++ (Sl.blocksOf Ds1 ++ F))))
        (fun xs I M => ∃ es cl nv nps nM, M = (b30, Obj.map es cl) :: (b56, Obj.cells #[nv] 93 (0, 0)) :: nM ∧ MapIs encP es (trues (visX (visJ met zs j) (zs.getD (j) noYard) xs).1) ∧ Own 85 1 valCell nv nps nM ∧ YardsH 87 I nps (visX (visJ met zs j) (zs.getD (j) noYard) xs).2) (fun _ _ _ _ => False) (fun x k => [(4, .int .i64 (0)), (5, .int .i64 (0)), (8, .pointer (some ⟨b41, 0, none⟩)), (10, .pointer (some ⟨b56, 0, none⟩)), (12, .pointer (some ⟨b60, 0, none⟩)), (13, .pointer (some ⟨k, 0, none⟩))]) (fun x k => [(k, Obj.cells #[.int .i64 (x.frm), .int .i64 (x.to), .int .i64 (x.many)] 54 (0, 0))])
        (by kernel_rfl) rfl (by kernel_rfl) (fun _ => rfl) (by kernel_rfl) (shifts1h_iter I65 xb by_70 bm71 _ _ _ (zs.getD (j) noYard) hG qp72 qp73 hx_b hx_1_f hx_2_f hx_3_f hgx hlx.2.2) ((fun xs I J M hle ⟨a, b, c, d, e, h1, h2, h3, h4⟩ => ⟨a, b, c, d, e, h1, h2, h3, h4.mono hle⟩)) (by simpa only [List.append_assoc, List.cons_append, List.nil_append] using ((List.Perm.swap _ _ _).trans (List.Perm.cons _ (List.Perm.cons _ ((List.Perm.cons _ ((List.Perm.append_left _ (List.perm_append_comm_assoc _ _ _)).trans (List.perm_append_comm_assoc _ _ _))).trans (List.perm_middle.symm)))))) rfl ⟨_, _, _, _, _, rfl, his1, xo, xh⟩ ?_ ?_ ?_ ?_
       ·intro L x I1 M1
        refine run_sub (l' := [(4, .int .i64 (0)), (5, .int .i64 (0)), (8, .pointer (some ⟨b41, 0, none⟩)), (10, .pointer (some ⟨b56, 0, none⟩)), (12, .pointer (some ⟨b60, 0, none⟩)), (45, .agg #[.int .i64 (x.frm), .int .i64 (x.to), .int .i64 (x.many)])]) (.cons 4 rfl (.cons 5 rfl (.cons 8 rfl (.cons 10 rfl (.cons 12 rfl (.cons 45 rfl (.nil _))))))) ?_
        refine rr ?_
        refine sS (sal 13 54 #[.int .i64 (0), .int .i64 (0), .int .i64 (0)] (fun b79 => ?_))
        refine sS (ss 0 0 b79 [.int .i64 (x.frm), .int .i64 (x.to), .int .i64 (x.many)] [.int .i64 (x.frm), .int .i64 (x.to), .int .i64 (x.many)] (_ :: _) (cs := [_, _, _]) rfl rfl ?_)
        refine ee ?_
        exact pst_meet (fun a w hS hD hW => ⟨b79, hS.sub (.cons 4 rfl (.cons 5 rfl (.cons 8 rfl (.cons 10 rfl (.cons 12 rfl (.cons 13 rfl (.nil _))))))), hD, hW⟩)
       ·intro L x k xs I1 Mr1 M1 F1 hpre hle1 hR1 hC1
        replace hb49 := hle1.blk _ _ hb49
        replace hb52 := hle1.blk _ _ hb52
        replace xh := xh.mono hle1
        replace hx_1_f := hx_1_f.mono hle1
        replace hx_2_f := hx_2_f.mono hle1
        replace hx_3_f := hx_3_f.mono hle1
        replace hx_b := hle1.blk _ _ hx_b
        replace hb64 := hle1.blk _ _ hb64
        replace qp72 := hle1.blk _ _ qp72
        replace qp73 := hle1.blk _ _ qp73
        obtain rfl : Mr1 = [] := hR1
        obtain ⟨es3, cl3, xv3, xps3, xM3, rfl, his3, xo3, xh3⟩ := hC1
        obtain ⟨xv3_a, xv3_c, xv3_e, xv3_l⟩ := xo3.shape; subst xv3_e
        have hmx : mayErr (zs.getD (j) noYard) x = 0 := mem_draws_may (mem_of_prefix hpre)
        have hvx : VisOk Y (visX (visJ met zs j) (zs.getD (j) noYard) xs) := VisOk.x hfa hvj hkx (prefix_left hpre)
        have hcx := (hvx.count hfa).2
        have hxl := xh3.1
        have hkz : Kin Y (moved (zs.getD (j) noYard) x) := hkx.moved hmx
        have hgz := Kin.good hfa hkz; have hlz := hkz.lens hfa; have hgz5 := hkz.cars5 hfa
        have hmo := mayErr_ok hmx
        refine run_mem (M' := ((k, Obj.cells #[.int .i64 (x.frm), .int .i64 (x.to), .int .i64 (x.many)] 54 (0, 0)) :: (b30, Obj.map es3 cl3) :: (b56, Obj.cells #[.slice xv3_a xps3.length xv3_c] 93 (0, 0)) :: (xM3 ++ F1))) (fun w h => by simpa only [List.append_assoc, List.cons_append, List.nil_append] using h) ?_
        refine rnm ?_
        refine rb 5 ?_
        refine rqr ?_
        refine sd (det_load (v := .pointer (some ⟨xb, 0, none⟩)) (x := (.tmp 12)) (T := 85) (d := 46) (ty := 85) (gd := none) (by kernel_rfl) rfl (by kernel_rfl) rfl (sees_held hb64 rfl)) ?_
        refine sp 1 [(47, .pointer (some ⟨xb, 0, none⟩))] ?_
        refine sd (det_fieldAddr (x := (.tmp 47)) (T := 87) (k := 0) (o := 0) (d := 48) (ty := 0) (gd := none) (by kernel_rfl) rfl (by kernel_rfl) rfl) ?_
        refine sd (det_loadN (x := (.tmp 48)) (T := 26) (n := 3) (vs := [.slice hx_1_a ((zs.getD (j) noYard).cars).length hx_1_c, .slice hx_2_a ((zs.getD (j) noYard).room).length hx_2_c, .slice hx_3_a ((zs.getD (j) noYard).tracks).length hx_3_c]) (d := 49) (ty := 26) (gd := none) (by kernel_rfl) rfl (by kernel_rfl) (by kernel_rfl) rfl rfl (seesN_held (n := 3) hx_b rfl)) ?_
        have hct99 := copied_ct I1 _ (zs.getD (j) noYard) (mkYard hx_1_f hx_2_f hx_3_f) (by omega) (by omega) (by omega) (by exact hgx.le)
        refine sS (sc (some 50) (F := ((k, Obj.cells #[.int .i64 (x.frm), .int .i64 (x.to), .int .i64 (x.many)] 54 (0, 0)) :: (b30, Obj.map es3 cl3) :: (b56, Obj.cells #[.slice xv3_a xps3.length xv3_c] 93 (0, 0)) :: (xM3 ++ F1))) (hct99 :) (.refl _) (fun rv97 I81 rm98 hle82 hp83 => ?_))
        obtain ⟨u_086, Ms_087, u_188, Ms_189, u_290, ws_291, Ms_292, hv84, hm85, qh93, qh94, qh95, qr96⟩ := hp83
        rw [hv84, hm85]; clear hv84 hm85
        replace hb49 := hle82.blk _ _ hb49
        replace hb52 := hle82.blk _ _ hb52
        replace hx_b := hle82.blk _ _ hx_b
        replace hb64 := hle82.blk _ _ hb64
        replace qp72 := hle82.blk _ _ qp72
        replace qp73 := hle82.blk _ _ qp73
        replace xh3 := xh3.mono hle82
        obtain ⟨u_086_a, u_086_c, u_086_e, u_086_l⟩ := qh93.shape
        subst u_086_e
        obtain ⟨u_188_a, u_188_c, u_188_e, u_188_l⟩ := qh94.shape
        subst u_188_e
        obtain ⟨u_290_a, u_290_c, u_290_e, u_290_l⟩ := qh95.shape
        subst u_290_e
        have qr96_len := qr96.1
        try simp only [List.length_set, List.length_append, List.length_cons, List.length_nil, List.length_take] at qr96_len
        refine seq_mem (M' := ((Ms_087 ++ (Ms_189 ++ (Ms_292 ++ (k, Obj.cells #[.int .i64 (x.frm), .int .i64 (x.to), .int .i64 (x.many)] 54 (0, 0)) :: (b30, Obj.map es3 cl3) :: (b56, Obj.cells #[.slice xv3_a xps3.length xv3_c] 93 (0, 0)) :: (xM3 ++ F1)))))) (fun w h => by simpa only [List.append_assoc, List.cons_append, List.nil_append] using h) ?_
        refine pm (M' := ((k, Obj.cells #[.int .i64 (x.frm), .int .i64 (x.to), .int .i64 (x.many)] 54 (0, 0)) :: (b30, Obj.map es3 cl3) :: (b56, Obj.cells #[.slice xv3_a xps3.length xv3_c] 93 (0, 0)) :: (Ms_087 ++ (Ms_189 ++ (Ms_292 ++ (xM3 ++ F1)))))) (((List.Perm.append_left _ ((List.Perm.append_left _ List.perm_middle).trans List.perm_middle)).trans List.perm_middle).trans (List.Perm.cons _ (((List.Perm.append_left _ ((List.Perm.append_left _ List.perm_middle).trans List.perm_middle)).trans List.perm_middle).trans (List.Perm.cons _ ((List.Perm.append_left _ ((List.Perm.append_left _ List.perm_middle).trans List.perm_middle)).trans List.perm_middle))))) ?_
        show Seq _ _ _ _ _ _ ((50, .agg #[.slice u_086_a (((zs.getD (j) noYard)).cars).length u_086_c, .slice u_188_a (((zs.getD (j) noYard)).room).length u_188_c, .slice u_290_a ws_291.length u_290_c]) :: _) _ _
        refine sfz (A := ((k, Obj.cells #[.int .i64 (x.frm), .int .i64 (x.to), .int .i64 (x.many)] 54 (0, 0)) :: (b30, Obj.map es3 cl3) :: (b56, Obj.cells #[.slice xv3_a xps3.length xv3_c] 93 (0, 0)) :: (Ms_189 ++ (Ms_292 ++ (xM3 ++ F1))))) noCar qh93 ((List.Perm.cons _ ((List.Perm.cons _ (List.perm_middle.symm)).trans (List.perm_middle.symm))).trans (List.perm_middle.symm)) (fun I100 hle101 fz102_f => ?_)
        replace hb49 := hle101.blk _ _ hb49
        replace hb52 := hle101.blk _ _ hb52
        replace hx_b := hle101.blk _ _ hx_b
        replace hb64 := hle101.blk _ _ hb64
        replace qp72 := hle101.blk _ _ qp72
        replace qp73 := hle101.blk _ _ qp73
        replace xh3 := xh3.mono hle101
        replace qr96 := qr96.mono hle101
        obtain ⟨fz102_a, fz102_c, fz102_b, fz102_o, fz102_e, fz102_l, fz102_m, fz102_r⟩ := id fz102_f
        cases fz102_e
        refine sfz (A := ((k, Obj.cells #[.int .i64 (x.frm), .int .i64 (x.to), .int .i64 (x.many)] 54 (0, 0)) :: (b30, Obj.map es3 cl3) :: (b56, Obj.cells #[.slice xv3_a xps3.length xv3_c] 93 (0, 0)) :: (Ms_292 ++ (xM3 ++ F1)))) 0 qh94 ((List.Perm.cons _ ((List.Perm.cons _ (List.perm_middle.symm)).trans (List.perm_middle.symm))).trans (List.perm_middle.symm)) (fun I103 hle104 fz105_f => ?_)
        replace hb49 := hle104.blk _ _ hb49
        replace hb52 := hle104.blk _ _ hb52
        replace hx_b := hle104.blk _ _ hx_b
        replace hb64 := hle104.blk _ _ hb64
        replace qp72 := hle104.blk _ _ qp72
        replace qp73 := hle104.blk _ _ qp73
        replace xh3 := xh3.mono hle104
        replace qr96 := qr96.mono hle104
        replace fz102_f := fz102_f.mono hle104
        obtain ⟨fz105_a, fz105_c, fz105_b, fz105_o, fz105_e, fz105_l, fz105_m, fz105_r⟩ := id fz105_f
        cases fz105_e
        refine sp 1 [(51, .agg #[.slice u_086_a (((zs.getD (j) noYard)).cars).length u_086_c, .slice u_188_a (((zs.getD (j) noYard)).room).length u_188_c, .slice u_290_a ws_291.length u_290_c])] ?_
        refine sS (sb 52 87 #[.slice u_086_a (((zs.getD (j) noYard)).cars).length u_086_c, .slice u_188_a (((zs.getD (j) noYard)).room).length u_188_c, .slice u_290_a ws_291.length u_290_c] (fun b106 => ?_))
        refine sp 1 [(14, .pointer (some ⟨b106, 0, none⟩))] ?_
        refine sn ?_
        refine sp 1 [(53, .pointer (some ⟨b106, 0, none⟩))] ?_
        refine sd (dnb 54 1 0 k [.int .i64 (x.frm), .int .i64 (x.to), .int .i64 (x.many)]) ?_
        have hct119 := move_ct I103 (b106) _ _ _ _ _ (((zs.getD (j) noYard))) (x) fz102_f fz105_f qh95 qr96 (by exact hmo.1) (by exact hmo.2.1) (by exact hmo.2.2) (by exact hgx.le)
        refine sS (sc (some 55) (F := ((k, Obj.cells #[.int .i64 (x.frm), .int .i64 (x.to), .int .i64 (x.many)] 54 (0, 0)) :: (b30, Obj.map es3 cl3) :: (b56, Obj.cells #[.slice xv3_a xps3.length xv3_c] 93 (0, 0)) :: (xM3 ++ F1))) (hct119 :) (List.Perm.cons _ ((List.Perm.cons _ ((List.Perm.cons _ (List.perm_middle.symm)).trans (List.perm_middle.symm))).trans (List.perm_middle.symm))) (fun rv117 I108 rm118 hle109 hp110 => ?_))
        obtain ⟨y_wt113, y_Mt114, hv111, hm112, qwh115, qwr116⟩ := hp110
        rw [hv111, hm112]; clear hv111 hm112
        replace hb49 := hle109.blk _ _ hb49
        replace hb52 := hle109.blk _ _ hb52
        replace hx_b := hle109.blk _ _ hx_b
        replace hb64 := hle109.blk _ _ hb64
        replace qp72 := hle109.blk _ _ qp72
        replace qp73 := hle109.blk _ _ qp73
        replace xh3 := xh3.mono hle109
        replace fz102_f := fz102_f.mono hle109
        replace fz105_f := fz105_f.mono hle109
        obtain ⟨wk120_a, wk120_c, wk120_e, wk120_l⟩ := id qwh115.shape
        have qwr116_len := qwr116.1
        try simp only [List.length_set, List.length_append, List.length_cons, List.length_nil, List.length_take] at qwr116_len
        refine seq_mem (M' := ((b106, Obj.cells #[.slice u_086_a (((zs.getD (j) noYard)).cars).length u_086_c, .slice u_188_a (((zs.getD (j) noYard)).room).length u_188_c, .slice u_290_a ws_291.length u_290_c] 87 (0, 0)) :: (y_Mt114 ++ (k, Obj.cells #[.int .i64 (x.frm), .int .i64 (x.to), .int .i64 (x.many)] 54 (0, 0)) :: (b30, Obj.map es3 cl3) :: (b56, Obj.cells #[.slice xv3_a xps3.length xv3_c] 93 (0, 0)) :: (xM3 ++ F1)))) (fun w h => by simpa only [List.append_assoc, List.cons_append, List.nil_append] using h) ?_
        refine pm (M' := ((b106, Obj.cells #[.slice u_086_a (((zs.getD (j) noYard)).cars).length u_086_c, .slice u_188_a (((zs.getD (j) noYard)).room).length u_188_c, .slice u_290_a ws_291.length u_290_c] 87 (0, 0)) :: (k, Obj.cells #[.int .i64 (x.frm), .int .i64 (x.to), .int .i64 (x.many)] 54 (0, 0)) :: (b30, Obj.map es3 cl3) :: (b56, Obj.cells #[.slice xv3_a xps3.length xv3_c] 93 (0, 0)) :: (y_Mt114 ++ (xM3 ++ F1)))) (List.Perm.cons _ (List.perm_middle.trans (List.Perm.cons _ (List.perm_middle.trans (List.Perm.cons _ List.perm_middle))))) ?_
        show Seq _ _ _ _ _ _ ((55, .tuple #[]) :: _) _ _
        refine sn ?_
        refine sp 1 [(56, .pointer (some ⟨b106, 0, none⟩))] ?_
        have hct128 := where_ct I108 (b106) _ _ _ _ _ (moved (((zs.getD (j) noYard))) x) fz102_f fz105_f qwh115 qwr116 (by exact hgz.ok) (by exact hgz5) (by omega)
        refine sS (sc (some 57) (F := ((k, Obj.cells #[.int .i64 (x.frm), .int .i64 (x.to), .int .i64 (x.many)] 54 (0, 0)) :: (b30, Obj.map es3 cl3) :: (b56, Obj.cells #[.slice xv3_a xps3.length xv3_c] 93 (0, 0)) :: (xM3 ++ F1))) (hct128 :) (List.Perm.cons _ ((List.Perm.cons _ ((List.Perm.cons _ (List.perm_middle.symm)).trans (List.perm_middle.symm))).trans (List.perm_middle.symm))) (fun rv126 I121 rm127 hle122 hp123 => ?_))
        obtain ⟨hv124, hm125⟩ := hp123
        rw [hv124, hm125]; clear hv124 hm125
        replace hb49 := hle122.blk _ _ hb49
        replace hb52 := hle122.blk _ _ hb52
        replace hx_b := hle122.blk _ _ hx_b
        replace hb64 := hle122.blk _ _ hb64
        replace qp72 := hle122.blk _ _ qp72
        replace qp73 := hle122.blk _ _ qp73
        replace xh3 := xh3.mono hle122
        replace fz102_f := fz102_f.mono hle122
        replace fz105_f := fz105_f.mono hle122
        replace qwr116 := qwr116.mono hle122
        refine seq_mem (M' := ((b106, Obj.cells #[.slice u_086_a (((zs.getD (j) noYard)).cars).length u_086_c, .slice u_188_a (((zs.getD (j) noYard)).room).length u_188_c, .slice u_290_a ws_291.length u_290_c] 87 (0, 0)) :: (y_Mt114 ++ (k, Obj.cells #[.int .i64 (x.frm), .int .i64 (x.to), .int .i64 (x.many)] 54 (0, 0)) :: (b30, Obj.map es3 cl3) :: (b56, Obj.cells #[.slice xv3_a xps3.length xv3_c] 93 (0, 0)) :: (xM3 ++ F1)))) (fun w h => by simpa only [List.append_assoc, List.cons_append, List.nil_append] using h) ?_
        refine pm (M' := ((b106, Obj.cells #[.slice u_086_a (((zs.getD (j) noYard)).cars).length u_086_c, .slice u_188_a (((zs.getD (j) noYard)).room).length u_188_c, .slice u_290_a ws_291.length u_290_c] 87 (0, 0)) :: (k, Obj.cells #[.int .i64 (x.frm), .int .i64 (x.to), .int .i64 (x.many)] 54 (0, 0)) :: (b30, Obj.map es3 cl3) :: (b56, Obj.cells #[.slice xv3_a xps3.length xv3_c] 93 (0, 0)) :: (y_Mt114 ++ (xM3 ++ F1)))) (List.Perm.cons _ (List.perm_middle.trans (List.Perm.cons _ (List.perm_middle.trans (List.Perm.cons _ List.perm_middle))))) ?_
        show Seq _ _ _ _ _ _ ((57, .agg (plCells (placeOf (moved (((zs.getD (j) noYard))) x)).val)) :: _) _ _
        refine sS (sal 15 90 #[.int .i64 (0), .int .i64 (0), .int .i64 (0), .int .i64 (0), .int .i64 (0), .int .i64 (0), .int .i64 (0), .int .i64 (0), .int .i64 (0), .int .i64 (0)] (fun b129 => ?_))
        refine sS (stp_storeW (T := 90) (x := (.tmp 15)) (y := (.tmp 57)) (n := 10) (vs := plCells (placeOf (moved (((zs.getD (j) noYard))) x)).val) (M' := ((b129, Obj.cells (plCells (placeOf (moved (((zs.getD (j) noYard))) x)).val) 90 (0, 0)) :: (b106, Obj.cells #[.slice u_086_a (((zs.getD (j) noYard)).cars).length u_086_c, .slice u_188_a (((zs.getD (j) noYard)).room).length u_188_c, .slice u_290_a ws_291.length u_290_c] 87 (0, 0)) :: (k, Obj.cells #[.int .i64 (x.frm), .int .i64 (x.to), .int .i64 (x.many)] 54 (0, 0)) :: (b30, Obj.map es3 cl3) :: (b56, Obj.cells #[.slice xv3_a xps3.length xv3_c] 93 (0, 0)) :: (y_Mt114 ++ (xM3 ++ F1)))) 0 (ty := 0) (gd := none) (by kernel_rfl) rfl rfl rfl (by kernel_rfl) rfl (plCells_size _) (plCells_one _) rfl (rfl) rfl ?_)
        refine se ?_
        refine rq ?_
        refine rn_freeze (B := ((b129, Obj.cells (plCells (placeOf (moved (((zs.getD (j) noYard))) x)).val) 90 (0, 0)) :: (b106, Obj.cells #[.slice u_086_a (((zs.getD (j) noYard)).cars).length u_086_c, .slice u_188_a (((zs.getD (j) noYard)).room).length u_188_c, .slice u_290_a ws_291.length u_290_c] 87 (0, 0)) :: (k, Obj.cells #[.int .i64 (x.frm), .int .i64 (x.to), .int .i64 (x.many)] 54 (0, 0)) :: (b30, Obj.map es3 cl3) :: (b56, Obj.cells #[.slice xv3_a xps3.length xv3_c] 93 (0, 0)) :: (xM3 ++ F1))) undef qwh115 (by first | omega | (simp only [List.length_set, List.length_cons, List.length_nil, List.length_append, List.length_take, List.length_drop] <;> omega) | decide) ((List.Perm.cons _ ((List.Perm.cons _ ((List.Perm.cons _ ((List.Perm.cons _ (List.perm_middle.symm)).trans (List.perm_middle.symm))).trans (List.perm_middle.symm))).trans (List.perm_middle.symm))).trans (List.perm_middle.symm)) (List.Perm.refl _) (fun I131 hle132 fz133_f => ?_)
        replace hb49 := hle132.blk _ _ hb49
        replace hb52 := hle132.blk _ _ hb52
        replace hx_b := hle132.blk _ _ hx_b
        replace hb64 := hle132.blk _ _ hb64
        replace qp72 := hle132.blk _ _ qp72
        replace qp73 := hle132.blk _ _ qp73
        replace xh3 := xh3.mono hle132
        replace fz102_f := fz102_f.mono hle132
        replace fz105_f := fz105_f.mono hle132
        replace qwr116 := qwr116.mono hle132
        obtain ⟨fz133_a, fz133_c, fz133_b, fz133_o, fz133_e, fz133_l, fz133_m, fz133_r⟩ := id fz133_f
        first | cases fz133_e | (injection fz133_e with fz133_e1 fz133_e2 fz133_e3; subst fz133_e1; subst fz133_e3; try rw [← fz133_e2] at fz133_f)
        have fr134_f := qwr116.isRows fz133_f
        have fr134_len := qwr116.1
        obtain ⟨fr134_a, fr134_c, fr134_b, fr134_o, fr134_vs, fr134_e, fr134_l, fr134_m, fr134_r, fr134_w⟩ := id fr134_f
        injection fr134_e with fr134_e1 fr134_e2 fr134_e3; subst fr134_e1; subst fr134_e3
        refine run_hold (b := b106) (o := Obj.cells #[.slice u_086_a (((zs.getD (j) noYard)).cars).length u_086_c, .slice u_188_a (((zs.getD (j) noYard)).room).length u_188_c, .slice u_290_a ws_291.length u_290_c] 87 (0, 0)) (M0 := ((b129, Obj.cells (plCells (placeOf (moved (((zs.getD (j) noYard))) x)).val) 90 (0, 0)) :: (k, Obj.cells #[.int .i64 (x.frm), .int .i64 (x.to), .int .i64 (x.many)] 54 (0, 0)) :: (b30, Obj.map es3 cl3) :: (b56, Obj.cells #[.slice xv3_a xps3.length xv3_c] 93 (0, 0)) :: (xM3 ++ F1))) (List.Perm.swap _ _ _) (fun I135 hle136 hb137 => ?_)
        replace hb49 := hle136.blk _ _ hb49
        replace hb52 := hle136.blk _ _ hb52
        replace hx_b := hle136.blk _ _ hx_b
        replace hb64 := hle136.blk _ _ hb64
        replace qp72 := hle136.blk _ _ qp72
        replace qp73 := hle136.blk _ _ qp73
        replace xh3 := xh3.mono hle136
        replace fz102_f := fz102_f.mono hle136
        replace fz105_f := fz105_f.mono hle136
        replace fr134_f := fr134_f.mono hle136
        refine rr ?_
        refine sd (det_load (v := .map (some b30)) (x := (.tmp 8)) (T := 92) (d := 58) (ty := 92) (gd := none) (by kernel_rfl) rfl (by kernel_rfl) rfl (sees_held hb52 rfl)) ?_
        refine sd (det_loadW (x := (.tmp 15)) (T := 90) (n := 10) (d := 59) (ty := 90) (gd := none) (by kernel_rfl) rfl (by kernel_rfl) (by kernel_rfl) (plCells_size _) rfl (.inl (List.mem_of_getElem? (i := 0) rfl))) ?_
        refine sd (det_lookup (x := (.tmp 58)) (y := (.tmp 59)) (T := 92) (kt := 90) (et := 4) (k := (placeOf (moved (((zs.getD (j) noYard))) x))) (kvs := trues ((visX (visJ met zs j) (zs.getD (j) noYard) xs).1)) (z := .bool false) (d := 60) (ty := 4) (gd := none) (by kernel_rfl) rfl (by kernel_rfl) (keyOk_place (by kernel_rfl) (by kernel_rfl)) rfl rfl (by kernel_rfl) (.inl (List.mem_of_getElem? (i := 2) rfl)) his3 (getKv_trues _ _)) ?_
        refine sd (det_not (x := (.tmp 60)) (T := 4) (d := 61) (ty := 4) (gd := none) (by kernel_rfl) rfl rfl) ?_
        refine se ?_
        refine rc 61 rfl (fun h5 => ?_) (fun h5 => ?_)
        ·
         have h5_r := h5
         have h5 := not_t h5
         have h5 := decI_f h5
         refine rqr ?_
         refine sd (det_load (v := .map (some b30)) (x := (.tmp 8)) (T := 92) (d := 62) (ty := 92) (gd := none) (by kernel_rfl) rfl (by kernel_rfl) rfl (sees_held hb52 rfl)) ?_
         refine sd (det_loadW (x := (.tmp 15)) (T := 90) (n := 10) (d := 63) (ty := 90) (gd := none) (by kernel_rfl) rfl (by kernel_rfl) (by kernel_rfl) (plCells_size _) rfl (.inl (List.mem_of_getElem? (i := 0) rfl))) ?_
         refine sS (stp_mapUpdate (x := (.tmp 62)) (y := (.tmp 63)) (u := (.const (.bool true))) (T := 92) (kt := 90) (et := 4) (k := (placeOf (moved (((zs.getD (j) noYard))) x))) (kvs := trues ((visX (visJ met zs j) (zs.getD (j) noYard) xs).1)) 2 (ty := 0) (gd := none) (by kernel_rfl) rfl (by kernel_rfl) (keyOk_place (by kernel_rfl) (by kernel_rfl)) rfl rfl rfl rfl his3 (fun es138 cl138 his138 => ?_))
         rw [upd_trues] at his138
         rw [if_neg h5] at his138
         refine nm ?_
         refine se ?_
         refine rr ?_
         refine sd (dlb 64 3 0 b56 (.slice xv3_a xps3.length xv3_c)) ?_
         refine sp 1 [(65, .pointer (some ⟨b106, 0, none⟩))] ?_
         refine sS (sbs 66 85 1 #[.pointer (some ⟨b106, 0, none⟩)] (fun b139 => ?_))
         refine sS (stp_append (d := 67) (x := (.tmp 64)) (y := (.tmp 66)) (T := 93) (T' := 93) (E := 85) (E' := 85) (sz := 1) (bs := 8) (z := .pointer none) (cell := valCell) (xs := xps3) (ys := [(.pointer (some ⟨b106, 0, none⟩) : Value)]) (Ms := xM3) (ty := 93) (gd := none) (by kernel_rfl) rfl (by kernel_rfl) (by kernel_rfl) (by kernel_rfl) (by kernel_rfl) (by kernel_rfl) (by decide) (by kernel_rfl) rfl rfl (xo3) ((List.Perm.cons _ ((List.Perm.cons _ ((List.Perm.cons _ ((List.Perm.cons _ (List.perm_middle.symm)).trans (List.perm_middle.symm))).trans (List.perm_middle.symm))).trans (List.perm_middle.symm))).trans (List.perm_middle.symm)) (one_valCell rfl) (src_atS 0 rfl rfl) (by first | omega | (simp only [List.length_cons, List.length_nil, List.length_append, List.length_take, List.length_drop]; omega)) (fun v141 Ms141 ho141 => ?_))
         refine seq_mem (M' := ((b129, Obj.cells (plCells (placeOf (moved (((zs.getD (j) noYard))) x)).val) 90 (0, 0)) :: (k, Obj.cells #[.int .i64 (x.frm), .int .i64 (x.to), .int .i64 (x.many)] 54 (0, 0)) :: (b30, Obj.map es138 cl138) :: (b56, Obj.cells #[.slice xv3_a xps3.length xv3_c] 93 (0, 0)) :: (Ms141 ++ F1))) (fun w h => (h.perm (List.perm_middle.trans (List.Perm.cons _ (List.perm_middle.trans (List.Perm.cons _ (List.perm_middle.trans (List.Perm.cons _ (List.perm_middle.trans (List.Perm.cons _ List.perm_middle))))))))).sub (List.Sublist.cons _ (List.Sublist.refl _))) ?_
         obtain ⟨oa141, oc141, oe141, ol141⟩ := ho141.shape
         subst oe141
         show Seq _ _ _ _ _ _ ((67, .slice oa141 (xps3 ++ ([(.pointer (some ⟨b106, 0, none⟩) : Value)])).length oc141) :: _) _ _
         have xh4 := xh3.snoc (YardH.mk (Y := moved (zs.getD (j) noYard) x) hb137 fz102_f fz105_f fr134_f)
         refine sS (ss 3 0 b56 [.slice oa141 (xps3 ++ ([(.pointer (some ⟨b106, 0, none⟩) : Value)])).length oc141] [.slice oa141 (xps3 ++ ([(.pointer (some ⟨b106, 0, none⟩) : Value)])).length oc141] (_ :: _ :: _ :: _ :: _) (cs := [_]) rfl rfl ?_)
         refine ee ?_
         refine pst_normal_block ?_
         refine pst_round (M' := ((b30, Obj.map es138 cl138) :: (b56, Obj.cells #[.slice oa141 (xps3 ++ ([(.pointer (some ⟨b106, 0, none⟩) : Value)])).length oc141] 93 (0, 0)) :: Ms141)) (Imm.le.trans (Imm.le.trans (Imm.le.trans (Imm.le.trans (Imm.le.trans (Imm.le.trans hle82 hle101) hle104) hle109) hle122) hle132) hle136) ?_ (by simp only [List.append_assoc, List.nil_append, List.cons_append]; exact (List.Sublist.cons _ (List.Sublist.cons _ (List.Sublist.refl _))))
         exact ⟨[], _, rfl, rfl, ⟨_, _, _, _, _, rfl, (by rw [visX_snoc, visit_new h5]; exact his138), ho141, (by rw [visX_snoc, visit_new h5]; exact xh4)⟩⟩
        ·
         have h5_r := h5
         have h5 := not_f h5
         have h5 := decI_t h5
         refine rskip ?_
         refine pst_normal_block ?_
         refine pst_round (M' := ((b30, Obj.map es3 cl3) :: (b56, Obj.cells #[.slice xv3_a xps3.length xv3_c] 93 (0, 0)) :: xM3)) (Imm.le.trans (Imm.le.trans (Imm.le.trans (Imm.le.trans (Imm.le.trans (Imm.le.trans hle82 hle101) hle104) hle109) hle122) hle132) hle136) ?_ (by simp only [List.append_assoc, List.nil_append, List.cons_append]; exact (List.Sublist.cons _ (List.Sublist.cons _ (List.Sublist.refl _))))
         exact ⟨[], _, rfl, rfl, ⟨_, _, _, _, _, rfl, (by rw [visX_snoc, visit_old h5]; exact his3), xo3, (by rw [visX_snoc, visit_old h5]; exact xh3)⟩⟩
       ·intro D I2 Mr2 M2 hle2 hR2 hC2
        replace hb49 := hle2.blk _ _ hb49
        replace hb52 := hle2.blk _ _ hb52
        replace xh := xh.mono hle2
        replace hx_b := hle2.blk _ _ hx_b
        replace hb64 := hle2.blk _ _ hb64
        replace qp72 := hle2.blk _ _ qp72
        replace qp73 := hle2.blk _ _ qp73
        obtain rfl : Mr2 = [] := hR2
        obtain ⟨es5, cl5, xv5, xps5, xM5, rfl, his5, xo5, xh5⟩ := hC2
        obtain ⟨xv5_a, xv5_c, xv5_e, xv5_l⟩ := xo5.shape; subst xv5_e
        refine pst_mem (M' := ((D, Obj.deferred (some [])) :: (b30, Obj.map es5 cl5) :: (b56, Obj.cells #[.slice xv5_a xps5.length xv5_c] 93 (0, 0)) :: (xM5 ++ (b1, Obj.cells #[.slice y1_a Y.cars.length y1_c, .slice y2_a Y.room.length y2_c, .slice y3_a Y.tracks.length y3_c] 26 (0, 0)) :: (nM ++ (Sl.blocksOf Ds1 ++ F))))) (fun w h => by simpa only [List.append_assoc, List.cons_append, List.nil_append] using h) ?_
        refine ppm (M' := ((D, Obj.deferred (some [])) :: (b30, Obj.map es5 cl5) :: (b56, Obj.cells #[.slice xv5_a xps5.length xv5_c] 93 (0, 0)) :: (b1, Obj.cells #[.slice y1_a Y.cars.length y1_c, .slice y2_a Y.room.length y2_c, .slice y3_a Y.tracks.length y3_c] 26 (0, 0)) :: (xM5 ++ (nM ++ (Sl.blocksOf Ds1 ++ F))))) (List.Perm.cons _ (List.Perm.cons _ (List.Perm.cons _ List.perm_middle))) ?_
        refine pst_normal_block ?_
        refine pst_normal_block ?_
        refine pst_next ?_
        refine rr ?_
        refine sd (da 68 (↑j) (1)) ?_
        refine sp 1 [(39, .int .i64 (↑j + 1))] ?_
        refine ee ?_
        refine ppm (M' := ((Sl.blocksOf (D :: Ds1) ++ (b30, Obj.map es5 cl5) :: (b56, Obj.cells #[.slice xv5_a xps5.length xv5_c] 93 (0, 0)) :: (b1, Obj.cells #[.slice y1_a Y.cars.length y1_c, .slice y2_a Y.room.length y2_c, .slice y3_a Y.tracks.length y3_c] 26 (0, 0)) :: (xM5 ++ (nM ++ F))))) (List.Perm.cons _ ((List.Perm.cons _ ((List.Perm.cons _ ((List.Perm.cons _ ((List.Perm.append_left _ (List.perm_append_comm_assoc _ _ _)).trans (List.perm_append_comm_assoc _ _ _))).trans (List.perm_middle.symm))).trans (List.perm_middle.symm))).trans (List.perm_middle.symm))) ?_
        refine pst_back (zs.length - (j+1)) (by omega) ?_
        intro a w hS hD hW
        exact ⟨I2, j+1, (.slice xv5_a xps5.length xv5_c), xps5, xM5, es5, cl5, D :: Ds1, (Imm.le.trans (Imm.le.trans (Imm.le.trans hJ1 hle63) hle66) hle2), by omega, xo5, (by rw [visJ_succ (by omega)]; exact xh5), (by rw [visJ_succ (by omega)]; exact his5), hS.sub (.consE 39 rfl rfl (.cons 4 rfl (.cons 5 rfl (.cons 8 rfl (.cons 9 rfl (.cons 10 rfl (.cons 34 rfl (.cons 35 rfl (.cons 37 rfl (.cons 38 rfl (.nil _))))))))))), hD, hW.perm (((List.Perm.append_left _ (List.Perm.swap _ _ _)).trans List.perm_middle).trans (List.Perm.cons _ (List.perm_middle.trans (List.Perm.cons _ (List.perm_middle.trans (List.Perm.cons _ ((List.Perm.append_left _ (List.perm_append_comm_assoc _ _ _)).trans (List.perm_append_comm_assoc _ _ _)))))))), rfl⟩
       ·intro D c xs I2 M2 hle2 hS2
        exact hS2.elim
      ·
       have h4_r := h4
       have h4 := lss_f h4
       refine rexit 2 ?_
       refine (pst_exit_pass (pst_exit_pass (pst_exit_block ?_)))
       refine pst_next ?_
       refine rr ?_
       refine sd (dlb 69 0 0 b56 (.slice xv_a xps.length xv_c)) ?_
       refine sp 1 [(9, .slice xv_a xps.length xv_c)] ?_
       refine ee ?_
       refine pst_normal_block ?_
       refine pst_next ?_
       refine rr ?_
       refine sd (da 70 (↑k) (1)) ?_
       refine sp 1 [(35, .int .i64 (↑k + 1))] ?_
       refine ee ?_
       refine pst_back (d - (k+1)) (by omega) ?_
       intro a w hS hD hW
       exact ⟨J1, k+1, (.slice xv_a xps.length xv_c), xps, xM, (visJ met zs j).2, (visJ met zs j).1, es1, cl1, Ds1, (Imm.le.trans hJ0 hJ1), by omega, hr.trans (reach_step (by omega) (by omega)), (hvo.j hfa j), xo, xh, his1, hS.sub (.consE 9 rfl rfl (.consE 35 rfl rfl (.cons 4 rfl (.cons 5 rfl (.cons 8 rfl (.cons 34 rfl (.nil _))))))), hD, (hW.perm (List.Perm.cons _ (((List.Perm.cons _ (List.perm_middle.symm)).trans (List.perm_middle.symm)).trans (List.Perm.append_left _ (List.Perm.cons _ (List.Perm.cons _ (List.perm_append_comm_assoc _ _ _))))))).sub (List.Sublist.cons _ (List.Sublist.trans (List.Sublist.refl _) (List.sublist_append_right _ _))), rfl⟩
    ·
     have h3_r := h3
     have h3 := lss_f h3
     refine rexit 0 ?_
     refine (pst_exit_pass (pst_exit_pass (pst_exit_block ?_)))
     refine pst_next ?_
     refine rqr ?_
     refine sd (det_load (v := .map (some b30)) (x := (.tmp 8)) (T := 92) (d := 71) (ty := 92) (gd := none) (by kernel_rfl) rfl (by kernel_rfl) rfl (sees_held hb52 rfl)) ?_
     refine sd (det_eq (det_len_map (x := (.tmp 71)) (T := 92) (K := 90) (E := 4) (d := 72) (ty := 3) (gd := none) (by kernel_rfl) rfl (by kernel_rfl) rfl (.inl (List.mem_of_getElem? (i := 0) rfl))) (congrArg (fun n : Nat => Value.int .i64 ↑n) ((MapIs.size hism).trans (trues_length _)))) ?_
     refine sp 2 [(5, .int .i64 (0)), (4, .int .i64 (↑(met.length)))] ?_
     refine se ?_
     refine rret ?_
     have hre := reach_end hr (by omega)
     have hrk := reachE_ok hvl hin
     rw [show dr.toNat = d by omega, hre] at hrk
     refine pst_marks (R := ((b30, Obj.map es cl) :: (b1, Obj.cells #[.slice y1_a Y.cars.length y1_c, .slice y2_a Y.room.length y2_c, .slice y3_a Y.tracks.length y3_c] 26 (0, 0)) :: (nM ++ F))) (Ds) (.inl rfl) ((List.Perm.cons _ ((List.Perm.cons _ (List.perm_append_comm_assoc _ _ _)).trans (List.perm_middle.symm))).trans (List.perm_middle.symm)) ?_
     refine pst_ret2 (t := 4) (u := 5) [] (by kernel_rfl) rfl rfl (List.Sublist.cons _ (List.Sublist.cons _ (List.Sublist.trans (List.Sublist.refl _) (List.sublist_append_right _ _)))) (Imm.le.trans (Imm.le.trans (Imm.le.trans (Imm.le.trans (Imm.le.trans (Imm.le.trans (Imm.le.trans hle4 hle23) hle26) hle33) hle44) hle48) hle51) hJ0) ?_
     exact ⟨(congrArg (fun p : Int × Int => Value.tuple #[.int .i64 p.1, .int .i64 p.2]) hrk.symm), rfl⟩

end Go.Proofs.YtcaocbhbofejnaaDoor

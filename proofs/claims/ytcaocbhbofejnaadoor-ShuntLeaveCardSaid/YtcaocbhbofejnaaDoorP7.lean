/- A part of the proof of the laws of this seat. -/
import Derived.Test.YtcaocbhbofejnaaDoorP6
set_option linter.unusedVariables false
set_option linter.unusedSimpArgs false
namespace Go.Proofs.YtcaocbhbofejnaaDoor
open Go Go.Sl Go.Sh
set_option maxRecDepth 100000
noncomputable def c_YardOf (p : List Nat) : Code := sub (bodyOf Tryd.f7) p
set_option maxHeartbeats 1000000 in
theorem YardOf_ct (I : Imm) (p : Nat) (p_s : Int) (c : Nat) (s : Nat) (hc : c ≤ 1000) (hs : s ≤ 1000) : Ct Tryd.prog 7 #[.pointer (some ⟨p, 0, none⟩), .int .i64 ↑c, .int .i64 ↑s] I ([(p, Obj.cells #[.int .u64 (p_s)] 65 (0, 0))]) (fun v I' M' => ∃ p_t : Int, ∃ Y : Yard, ∃ u_0 : Value, ∃ Ms_0 : Seg, ∃ u_1 : Value, ∃ Ms_1 : Seg, ∃ u_2 : Value, ∃ ws_2 : List Value, ∃ Ms_2 : Seg, v = .agg #[u_0, u_1, u_2] ∧ M' = [(p, Obj.cells #[.int .u64 (p_t)] 65 (0, 0))] ++ (Ms_0 ++ (Ms_1 ++ (Ms_2))) ∧ (Valid Y) ∧ (Y.cars.length ≤ c) ∧ Own 40 6 carCell u_0 ((Y).cars) Ms_0 ∧ Own 3 1 intCell u_1 ((Y).room) Ms_1 ∧ Own 22 1 valCell u_2 ws_2 Ms_2 ∧ RowsV I' ws_2 ((Y).tracks)) := by
 refine fn_of_run (fn := Tryd.f7) (args := [_, _, _]) (N := 179) Tryd.func7 rfl (by kernel_rfl) (Nat.le_of_ble_eq_true rfl) (fun F => ?_)
 show Run _ _ (c_YardOf []) _ _ [(0, .pointer (some ⟨p, 0, none⟩)), (1, .int .i64 (↑c)), (2, .int .i64 (↑s))] _ _
 refine rnm ?_
 refine rqr ?_
 refine sS (sal 6 26 #[.slice none 0 0, .slice none 0 0, .slice none 0 0] (fun b1 => ?_))
 refine sn ?_
 refine sS (sal 7 26 #[.slice none 0 0, .slice none 0 0, .slice none 0 0] (fun b3 => ?_))
 refine sn ?_
 refine sp 3 [(20, .int .i64 ((if (5 : Int) < (↑c : Int) then 5 else ↑c))), (18, .pointer (some ⟨p, 0, none⟩))] ?_
 have hct15 := Up_ct I (p) (p_s) ((if (5 : Int) < (↑c : Int) then 5 else ↑c)) (by omega)
 refine sS (sc (some 21) (F := ((b3, Obj.cells #[.slice none 0 0, .slice none 0 0, .slice none 0 0] 26 (0, 0)) :: (b1, Obj.cells #[.slice none 0 0, .slice none 0 0, .slice none 0 0] 26 (0, 0)) :: F)) (hct15 :) ((List.Perm.cons _ (List.Perm.swap _ _ _)).trans (List.Perm.swap _ _ _)) (fun rv13 I5 rm14 hle6 hp7 => ?_))
 obtain ⟨p_t10, n11, hv8, hm9, qp12⟩ := hp7
 rw [hv8, hm9]; clear hv8 hm9
 refine nm ?_
 show Seq _ _ _ _ _ _ ((21, .int .i64 (↑n11)) :: _) _ _
 refine sp 1 [(8, .int .i64 (↑n11))] ?_
 have hn5 : n11 ≤ 5 ∧ n11 ≤ c := by
  have hq := qp12
  split at hq <;> omega
 refine sn ?_
 refine sp 2 [(10, .int .i64 (0)), (9, .int .i64 (0))] ?_
 refine se ?_
 refine rq ?_
 refine rqr ?_
 refine sp 1 [(11, .int .i64 (0))] ?_
 refine se ?_
 refine rb 0 ?_
 refine rl (fun mz a w => ∃ J0 : Imm, ∃ k : Nat, ∃ cs : List Car, ∃ g : Int, ∃ l : Int, ∃ bs : Int, ∃ ov0_c7_0 : Value, ∃ oM0_c7_0 : Seg, (I5.le J0) ∧ (k ≤ n11) ∧ (cs.length = k) ∧ (CarsInv cs g l) ∧ (Own 40 6 carCell ov0_c7_0 (cs) oM0_c7_0) ∧ Slots 179 [(9, .int .i64 g), (10, .int .i64 l), (11, .int .i64 ↑k), (0, .pointer (some ⟨p, 0, none⟩)), (2, .int .i64 (↑s)), (6, .pointer (some ⟨b1, 0, none⟩)), (7, .pointer (some ⟨b3, 0, none⟩)), (8, .int .i64 (↑n11))] a ∧ a.defers = [] ∧ St J0 ((p, Obj.cells #[.int .u64 (bs)] 65 (0, 0)) :: (b3, Obj.cells #[ov0_c7_0, .slice none 0 0, .slice none 0 0] 26 (0, 0)) :: (b1, Obj.cells #[.slice none 0 0, .slice none 0 0, .slice none 0 0] 26 (0, 0)) :: (oM0_c7_0 ++ F)) w ∧ mz = n11 - k) ?_ ?_
 ·intro a w hS hD hW
  exact ⟨_, I5, 0, [], 0, 0, p_t10, (.slice none 0 0), [], Imm.le.refl _, Nat.zero_le _, rfl, CarsInv.nil, (Own.nil _ _ _), hS.sub (.cons 9 rfl (.cons 10 rfl (.cons 11 rfl (.cons 0 rfl (.cons 2 rfl (.cons 6 rfl (.cons 7 rfl (.cons 8 rfl (.nil _))))))))), hD, hW, rfl⟩
 ·rintro mz a w ⟨J0, k, cs, g, l, bs, ov0_c7_0, oM0_c7_0, hJ0, hk, hcl, hci, oh0_c7_0, hS, hD, hW, rfl⟩
  refine run_at hS hD hW ?_
  clear hS hD hW a w
  obtain ⟨ov0_c7_0_a, ov0_c7_0_c, ov0_c7_0_e, ov0_c7_0_l⟩ := oh0_c7_0.shape; subst ov0_c7_0_e
  have hg0 := hci.g0; have hl0 := hci.l0
  refine rq ?_
  refine rqr ?_
  refine sp 3 [(24, .bool (cmp .lss (↑k) (↑n11)))] ?_
  refine se ?_
  refine rc 24 rfl (fun h1 => ?_) (fun h1 => ?_)
  ·
   have h1_r := h1
   have h1 := lss_t h1
   refine rskip ?_
   refine pst_next ?_
   refine rq ?_
   refine rb 1 ?_
   refine rqr ?_
   refine sp 2 [(28, .pointer (some ⟨p, 0, none⟩)), (27, .pointer (some ⟨p, 0, none⟩))] ?_
   have hct26 := From_ct J0 (p) (bs) (1) (3) (by omega) (by omega)
   refine sS (sc (some 29) (F := ((b3, Obj.cells #[.slice ov0_c7_0_a cs.length ov0_c7_0_c, .slice none 0 0, .slice none 0 0] 26 (0, 0)) :: (b1, Obj.cells #[.slice none 0 0, .slice none 0 0, .slice none 0 0] 26 (0, 0)) :: (oM0_c7_0 ++ F))) (hct26 :) (.refl _) (fun rv24 I16 rm25 hle17 hp18 => ?_))
   obtain ⟨p_t21, r22, hv19, hm20, qp23⟩ := hp18
   rw [hv19, hm20]; clear hv19 hm20
   refine nm ?_
   show Seq _ _ _ _ _ _ ((29, .int .i64 ((r22))) :: _) _ _
   refine sS (sbs 30 3 3 #[.int .i64 (1), .int .i64 (1), .int .i64 ((r22))] (fun b27 => ?_))
   refine pm (M' := ((p, Obj.cells #[.int .u64 (p_t21)] 65 (0, 0)) :: (b3, Obj.cells #[.slice ov0_c7_0_a cs.length ov0_c7_0_c, .slice none 0 0, .slice none 0 0] 26 (0, 0)) :: (b1, Obj.cells #[.slice none 0 0, .slice none 0 0, .slice none 0 0] 26 (0, 0)) :: ([(b27, Obj.cells #[.int .i64 (1), .int .i64 (1), .int .i64 ((r22))] 3 (0, 0))] ++ (oM0_c7_0 ++ F)))) ((List.Perm.swap _ _ _).trans (List.Perm.cons _ ((List.Perm.swap _ _ _).trans (List.Perm.cons _ (List.Perm.swap _ _ _))))) ?_
   have ho29 : Own 3 1 intCell (.slice (some ⟨b27, 0, none⟩) 3 3) ([(1 : Int), (1 : Int), ((r22) : Int)] : List Int) [(b27, Obj.cells #[.int .i64 (1), .int .i64 (1), .int .i64 ((r22))] 3 (0, 0))] := Own.lit rfl rfl
   refine sfz (A := ((p, Obj.cells #[.int .u64 (p_t21)] 65 (0, 0)) :: (b3, Obj.cells #[.slice ov0_c7_0_a cs.length ov0_c7_0_c, .slice none 0 0, .slice none 0 0] 26 (0, 0)) :: (b1, Obj.cells #[.slice none 0 0, .slice none 0 0, .slice none 0 0] 26 (0, 0)) :: (oM0_c7_0 ++ F))) 0 ho29 ((List.Perm.cons _ ((List.Perm.cons _ (List.perm_middle.symm)).trans (List.perm_middle.symm))).trans (List.perm_middle.symm)) (fun I30 hle31 fz32_f => ?_)
   obtain ⟨fz32_a, fz32_c, fz32_b, fz32_o, fz32_e, fz32_l, fz32_m, fz32_r⟩ := id fz32_f
   cases fz32_e
   have hct43 := One_ct I30 (p) (p_t21) _ _ fz32_f (by simp)
   refine sS (sc (some 31) (F := ((b3, Obj.cells #[.slice ov0_c7_0_a cs.length ov0_c7_0_c, .slice none 0 0, .slice none 0 0] 26 (0, 0)) :: (b1, Obj.cells #[.slice none 0 0, .slice none 0 0, .slice none 0 0] 26 (0, 0)) :: (oM0_c7_0 ++ F))) (hct43 :) (.refl _) (fun rv41 I33 rm42 hle34 hp35 => ?_))
   obtain ⟨p_t38, r39, hv36, hm37, qp40⟩ := hp35
   rw [hv36, hm37]; clear hv36 hm37
   refine nm ?_
   show Seq _ _ _ _ _ _ ((31, .int .i64 ((r39))) :: _) _ _
   have hl3 : 1 ≤ (r39) ∧ (r39) ≤ 3 := by
    have hq := qp40
    simp only [List.mem_cons, List.not_mem_nil, or_false] at hq
    omega
   refine sp 1 [(32, .pointer (some ⟨p, 0, none⟩))] ?_
   have hct54 := From_ct I33 (p) (p_t38) (5) (60) (by omega) (by omega)
   refine sS (sc (some 33) (F := ((b3, Obj.cells #[.slice ov0_c7_0_a cs.length ov0_c7_0_c, .slice none 0 0, .slice none 0 0] 26 (0, 0)) :: (b1, Obj.cells #[.slice none 0 0, .slice none 0 0, .slice none 0 0] 26 (0, 0)) :: (oM0_c7_0 ++ F))) (hct54 :) (.refl _) (fun rv52 I44 rm53 hle45 hp46 => ?_))
   obtain ⟨p_t49, r50, hv47, hm48, qp51⟩ := hp46
   rw [hv47, hm48]; clear hv47 hm48
   refine nm ?_
   show Seq _ _ _ _ _ _ ((33, .int .i64 ((r50))) :: _) _ _
   refine sp 1 [(34, .pointer (some ⟨p, 0, none⟩))] ?_
   have hct64 := Chance_ct I44 (p) (p_t49) (2) (3) (by omega)
   refine sS (sc (some 35) (F := ((b3, Obj.cells #[.slice ov0_c7_0_a cs.length ov0_c7_0_c, .slice none 0 0, .slice none 0 0] 26 (0, 0)) :: (b1, Obj.cells #[.slice none 0 0, .slice none 0 0, .slice none 0 0] 26 (0, 0)) :: (oM0_c7_0 ++ F))) (hct64 :) (.refl _) (fun rv62 I55 rm63 hle56 hp57 => ?_))
   obtain ⟨p_t60, r61, hv58, hm59⟩ := hp57
   rw [hv58, hm59]; clear hv58 hm59
   refine nm ?_
   show Seq _ _ _ _ _ _ ((35, .bool (r61)) :: _) _ _
   refine sp 1 [(36, .pointer (some ⟨p, 0, none⟩))] ?_
   have hct74 := Chance_ct I55 (p) (p_t60) (2) (3) (by omega)
   refine sS (sc (some 37) (F := ((b3, Obj.cells #[.slice ov0_c7_0_a cs.length ov0_c7_0_c, .slice none 0 0, .slice none 0 0] 26 (0, 0)) :: (b1, Obj.cells #[.slice none 0 0, .slice none 0 0, .slice none 0 0] 26 (0, 0)) :: (oM0_c7_0 ++ F))) (hct74 :) (.refl _) (fun rv72 I65 rm73 hle66 hp67 => ?_))
   obtain ⟨p_t70, r71, hv68, hm69⟩ := hp67
   rw [hv68, hm69]; clear hv68 hm69
   refine nm ?_
   show Seq _ _ _ _ _ _ ((37, .bool (r71)) :: _) _ _
   refine sp 1 [(38, .agg #[.int .i64 ((r39)), .int .i64 ((r50)), .int .i64 (0), .int .i64 (0), .bool (r61), .bool (r71)])] ?_
   refine sS (sal 12 40 #[.int .i64 (0), .int .i64 (0), .int .i64 (0), .int .i64 (0), .bool (false), .bool (false)] (fun b75 => ?_))
   refine sS (ss 0 0 b75 [.int .i64 ((r39)), .int .i64 ((r50)), .int .i64 (0), .int .i64 (0), .bool (r61), .bool (r71)] [.int .i64 ((r39)), .int .i64 ((r50)), .int .i64 (0), .int .i64 (0), .bool (r61), .bool (r71)] (_ :: _ :: _ :: _ :: _) (cs := [_, _, _, _, _, _]) rfl rfl ?_)
   refine sn ?_
   refine sp 2 [(40, .pointer (some ⟨b75, 1, none⟩)), (39, .pointer (some ⟨p, 0, none⟩))] ?_
   refine sd (dlb 41 0 1 b75 (.int .i64 ((r50)))) ?_
   have hct87 := Up_ct I65 (p) (p_t70) ((r50)) (by omega)
   refine sS (sc (some 42) (F := ((b75, Obj.cells #[.int .i64 ((r39)), .int .i64 ((r50)), .int .i64 (0), .int .i64 (0), .bool (r61), .bool (r71)] 40 (0, 0)) :: (b3, Obj.cells #[.slice ov0_c7_0_a cs.length ov0_c7_0_c, .slice none 0 0, .slice none 0 0] 26 (0, 0)) :: (b1, Obj.cells #[.slice none 0 0, .slice none 0 0, .slice none 0 0] 26 (0, 0)) :: (oM0_c7_0 ++ F))) (hct87 :) (List.Perm.swap _ _ _) (fun rv85 I77 rm86 hle78 hp79 => ?_))
   obtain ⟨p_t82, n83, hv80, hm81, qp84⟩ := hp79
   rw [hv80, hm81]; clear hv80 hm81
   refine nm ?_
   show Seq _ _ _ _ _ _ ((42, .int .i64 (↑n83)) :: _) _ _
   refine sp 1 [(43, .pointer (some ⟨b75, 2, none⟩))] ?_
   refine sS (ss 1 2 b75 [.int .i64 (↑n83)] [.int .i64 ((r39)), .int .i64 ((r50)), .int .i64 (↑n83), .int .i64 (0), .bool (r61), .bool (r71)] (_ :: _ :: _ :: _ :: _) (cs := [_, _, _, _, _, _]) rfl rfl ?_)
   refine se ?_
   refine rq ?_
   refine rqr ?_
   refine sp 3 [(46, .bool (cmp .eql (l) (0)))] ?_
   refine seq_split 46 rfl (fun h2 => ?_) (fun h2 => ?_)
   ·
    have h2_b := h2
    have h2_b := eql_t h2_b
    refine sp 4 [(50, .bool (cmp .lss (g) (3)))] ?_
    refine seq_split 50 rfl (fun h3 => ?_) (fun h3 => ?_)
    ·
     have h3_b := h3
     have h3_b := lss_t h3_b
     refine sp 1 [(51, .pointer (some ⟨p, 0, none⟩))] ?_
     have hct97 := Chance_ct I77 (p) (p_t82) (1) (4) (by omega)
     refine sS (sc (some 52) (F := ((b75, Obj.cells #[.int .i64 ((r39)), .int .i64 ((r50)), .int .i64 (↑n83), .int .i64 (0), .bool (r61), .bool (r71)] 40 (0, 0)) :: (b3, Obj.cells #[.slice ov0_c7_0_a cs.length ov0_c7_0_c, .slice none 0 0, .slice none 0 0] 26 (0, 0)) :: (b1, Obj.cells #[.slice none 0 0, .slice none 0 0, .slice none 0 0] 26 (0, 0)) :: (oM0_c7_0 ++ F))) (hct97 :) (.refl _) (fun rv95 I88 rm96 hle89 hp90 => ?_))
     obtain ⟨p_t93, r94, hv91, hm92⟩ := hp90
     rw [hv91, hm92]; clear hv91 hm92
     refine nm ?_
     show Seq _ _ _ _ _ _ ((52, .bool (r94)) :: _) _ _
     refine sp 1 [(53, .bool (r94))] ?_
     refine se ?_
     refine rc 53 rfl (fun h4 => ?_) (fun h4 => ?_)
     ·
      have h4_r := h4
      refine rr ?_
      refine sp 1 [(54, .int .i64 (g))] ?_
      refine sd (da 55 (g) (1)) ?_
      refine sp 1 [(56, .pointer (some ⟨p, 0, none⟩))] ?_
      have hct108 := From_ct I88 (p) (p_t93) (1) (2) (by omega) (by omega)
      refine sS (sc (some 57) (F := ((b75, Obj.cells #[.int .i64 ((r39)), .int .i64 ((r50)), .int .i64 (↑n83), .int .i64 (0), .bool (r61), .bool (r71)] 40 (0, 0)) :: (b3, Obj.cells #[.slice ov0_c7_0_a cs.length ov0_c7_0_c, .slice none 0 0, .slice none 0 0] 26 (0, 0)) :: (b1, Obj.cells #[.slice none 0 0, .slice none 0 0, .slice none 0 0] 26 (0, 0)) :: (oM0_c7_0 ++ F))) (hct108 :) (.refl _) (fun rv106 I98 rm107 hle99 hp100 => ?_))
      obtain ⟨p_t103, r104, hv101, hm102, qp105⟩ := hp100
      rw [hv101, hm102]; clear hv101 hm102
      refine nm ?_
      show Seq _ _ _ _ _ _ ((57, .int .i64 ((r104))) :: _) _ _
      refine sp 2 [(10, .int .i64 ((r104))), (9, .int .i64 (g + 1))] ?_
      refine se ?_
      refine rq ?_
      refine rqr ?_
      refine sp 2 [(59, .bool (cmp .gtr ((r104)) (0)))] ?_
      refine se ?_
      refine rc 59 rfl (fun h5 => ?_) (fun h5 => ?_)
      ·
       have h5_r := h5
       have h5 := gtr_t h5
       refine rr ?_
       refine sp 2 [(61, .int .i64 ((r104))), (60, .int .i64 (g + 1))] ?_
       refine sd (dsb 62 ((r104)) (1)) ?_
       refine sp 1 [(63, .pointer (some ⟨b75, 3, none⟩))] ?_
       refine sS (ss 1 3 b75 [.int .i64 (g + 1)] [.int .i64 ((r39)), .int .i64 ((r50)), .int .i64 (↑n83), .int .i64 (g + 1), .bool (r61), .bool (r71)] (_ :: _ :: _ :: _ :: _) (cs := [_, _, _, _, _, _]) rfl rfl ?_)
       refine sp 1 [(10, .int .i64 (((r104)) - 1))] ?_
       refine se ?_
       refine rr ?_
       refine sp 1 [(64, .pointer (some ⟨b3, 0, none⟩))] ?_
       refine sd (dlb 65 2 0 b3 (.slice ov0_c7_0_a cs.length ov0_c7_0_c)) ?_
       refine sd (dnb 66 1 0 b75 [.int .i64 ((r39)), .int .i64 ((r50)), .int .i64 (↑n83), .int .i64 (g + 1), .bool (r61), .bool (r71)]) ?_
       refine sS (sbs 67 40 1 #[.int .i64 ((r39)), .int .i64 ((r50)), .int .i64 (↑n83), .int .i64 (g + 1), .bool (r61), .bool (r71)] (fun b109 => ?_))
       refine sS (stp_append (d := 68) (x := (.tmp 65)) (y := (.tmp 67)) (T := 23) (T' := 23) (E := 40) (E' := 40) (sz := 6) (bs := 40) (z := .agg #[.int .i64 (0), .int .i64 (0), .int .i64 (0), .int .i64 (0), .bool (false), .bool (false)]) (cell := carCell) (xs := cs) (ys := [(⟨(r39), (r50), ↑n83, g + 1, r61, r71⟩ : Car)]) (Ms := oM0_c7_0) (ty := 23) (gd := none) (by kernel_rfl) rfl (by kernel_rfl) (by kernel_rfl) (by kernel_rfl) (by kernel_rfl) (by kernel_rfl) (by decide) (by kernel_rfl) rfl rfl (oh0_c7_0) ((List.Perm.cons _ ((List.Perm.cons _ ((List.Perm.cons _ ((List.Perm.cons _ (List.perm_middle.symm)).trans (List.perm_middle.symm))).trans (List.perm_middle.symm))).trans (List.perm_middle.symm))).trans (List.perm_middle.symm)) (one_carCell _) (src_atS 0 rfl rfl) (by first | omega | (simp only [List.length_cons, List.length_nil, List.length_append, List.length_take, List.length_drop]; omega)) (fun v111 Ms111 ho111 => ?_))
       refine seq_mem (M' := ((p, Obj.cells #[.int .u64 (p_t103)] 65 (0, 0)) :: (b75, Obj.cells #[.int .i64 ((r39)), .int .i64 ((r50)), .int .i64 (↑n83), .int .i64 (g + 1), .bool (r61), .bool (r71)] 40 (0, 0)) :: (b3, Obj.cells #[.slice ov0_c7_0_a cs.length ov0_c7_0_c, .slice none 0 0, .slice none 0 0] 26 (0, 0)) :: (b1, Obj.cells #[.slice none 0 0, .slice none 0 0, .slice none 0 0] 26 (0, 0)) :: (Ms111 ++ F))) (fun w h => (h.perm (List.perm_middle.trans (List.Perm.cons _ (List.perm_middle.trans (List.Perm.cons _ (List.perm_middle.trans (List.Perm.cons _ (List.perm_middle.trans (List.Perm.cons _ List.perm_middle))))))))).sub (List.Sublist.cons _ (List.Sublist.refl _))) ?_
       obtain ⟨oa111, oc111, oe111, ol111⟩ := ho111.shape
       subst oe111
       show Seq _ _ _ _ _ _ ((68, .slice oa111 (cs ++ ([(⟨(r39), (r50), ↑n83, g + 1, r61, r71⟩ : Car)])).length oc111) :: _) _ _
       refine sp 1 [(69, .pointer (some ⟨b3, 0, none⟩))] ?_
       refine sS (ss 2 0 b3 [.slice oa111 (cs ++ ([(⟨(r39), (r50), ↑n83, g + 1, r61, r71⟩ : Car)])).length oc111] [.slice oa111 (cs ++ ([(⟨(r39), (r50), ↑n83, g + 1, r61, r71⟩ : Car)])).length oc111, .slice none 0 0, .slice none 0 0] (_ :: _ :: _ :: _ :: _) (cs := [_, _, _]) rfl rfl ?_)
       refine ee ?_
       refine pst_normal_block ?_
       refine pst_next ?_
       refine rr ?_
       refine sp 1 [(25, .int .i64 (↑k))] ?_
       refine sd (da 26 (↑k) (1)) ?_
       refine sp 1 [(11, .int .i64 (↑k + 1))] ?_
       refine ee ?_
       refine pst_back (n11 - (k+1)) (by omega) ?_
       intro a w hS hD hW
       exact ⟨I98, k+1, cs ++ [(⟨(r39), (r50), ↑n83, g + 1, r61, r71⟩ : Car)], g + 1, ((r104)) - 1, p_t103, .slice oa111 (cs ++ ([(⟨(r39), (r50), ↑n83, g + 1, r61, r71⟩ : Car)])).length oc111, Ms111, (Imm.le.trans (Imm.le.trans (Imm.le.trans (Imm.le.trans (Imm.le.trans (Imm.le.trans (Imm.le.trans (Imm.le.trans (Imm.le.trans hJ0 hle17) hle31) hle34) hle45) hle56) hle66) hle78) hle89) hle99), by omega, by simp only [List.length_append, List.length_cons, List.length_nil]; omega, (by have hh := CarsInv.snoc (hci.group (by omega) (by omega)) (c := (⟨(r39), (r50), ↑n83, g + 1, r61, r71⟩ : Car)) (carErr_mk (by omega) (by omega) (by omega) (by have hgg := hci.g0; omega)) ⟨fun _ => rfl, fun hh => absurd h5 hh⟩; rw [if_pos h5] at hh; exact hh), ho111, hS.sub (.consE 9 rfl rfl (.consE 10 rfl rfl (.consE 11 rfl rfl (.cons 0 rfl (.cons 2 rfl (.cons 6 rfl (.cons 7 rfl (.cons 8 rfl (.nil _))))))))), hD, (hW.perm (List.Perm.swap _ _ _)).sub (List.Sublist.cons _ (List.Sublist.refl _)), rfl⟩
      ·
       have h5_r := h5
       have h5 := gtr_f h5
       refine rskip ?_
       refine pst_next ?_
       refine rr ?_
       refine sp 1 [(64, .pointer (some ⟨b3, 0, none⟩))] ?_
       refine sd (dlb 65 2 0 b3 (.slice ov0_c7_0_a cs.length ov0_c7_0_c)) ?_
       refine sd (dnb 66 1 0 b75 [.int .i64 ((r39)), .int .i64 ((r50)), .int .i64 (↑n83), .int .i64 (0), .bool (r61), .bool (r71)]) ?_
       refine sS (sbs 67 40 1 #[.int .i64 ((r39)), .int .i64 ((r50)), .int .i64 (↑n83), .int .i64 (0), .bool (r61), .bool (r71)] (fun b112 => ?_))
       refine sS (stp_append (d := 68) (x := (.tmp 65)) (y := (.tmp 67)) (T := 23) (T' := 23) (E := 40) (E' := 40) (sz := 6) (bs := 40) (z := .agg #[.int .i64 (0), .int .i64 (0), .int .i64 (0), .int .i64 (0), .bool (false), .bool (false)]) (cell := carCell) (xs := cs) (ys := [(⟨(r39), (r50), ↑n83, 0, r61, r71⟩ : Car)]) (Ms := oM0_c7_0) (ty := 23) (gd := none) (by kernel_rfl) rfl (by kernel_rfl) (by kernel_rfl) (by kernel_rfl) (by kernel_rfl) (by kernel_rfl) (by decide) (by kernel_rfl) rfl rfl (oh0_c7_0) ((List.Perm.cons _ ((List.Perm.cons _ ((List.Perm.cons _ ((List.Perm.cons _ (List.perm_middle.symm)).trans (List.perm_middle.symm))).trans (List.perm_middle.symm))).trans (List.perm_middle.symm))).trans (List.perm_middle.symm)) (one_carCell _) (src_atS 0 rfl rfl) (by first | omega | (simp only [List.length_cons, List.length_nil, List.length_append, List.length_take, List.length_drop]; omega)) (fun v114 Ms114 ho114 => ?_))
       refine seq_mem (M' := ((p, Obj.cells #[.int .u64 (p_t103)] 65 (0, 0)) :: (b75, Obj.cells #[.int .i64 ((r39)), .int .i64 ((r50)), .int .i64 (↑n83), .int .i64 (0), .bool (r61), .bool (r71)] 40 (0, 0)) :: (b3, Obj.cells #[.slice ov0_c7_0_a cs.length ov0_c7_0_c, .slice none 0 0, .slice none 0 0] 26 (0, 0)) :: (b1, Obj.cells #[.slice none 0 0, .slice none 0 0, .slice none 0 0] 26 (0, 0)) :: (Ms114 ++ F))) (fun w h => (h.perm (List.perm_middle.trans (List.Perm.cons _ (List.perm_middle.trans (List.Perm.cons _ (List.perm_middle.trans (List.Perm.cons _ (List.perm_middle.trans (List.Perm.cons _ List.perm_middle))))))))).sub (List.Sublist.cons _ (List.Sublist.refl _))) ?_
       obtain ⟨oa114, oc114, oe114, ol114⟩ := ho114.shape
       subst oe114
       show Seq _ _ _ _ _ _ ((68, .slice oa114 (cs ++ ([(⟨(r39), (r50), ↑n83, 0, r61, r71⟩ : Car)])).length oc114) :: _) _ _
       refine sp 1 [(69, .pointer (some ⟨b3, 0, none⟩))] ?_
       refine sS (ss 2 0 b3 [.slice oa114 (cs ++ ([(⟨(r39), (r50), ↑n83, 0, r61, r71⟩ : Car)])).length oc114] [.slice oa114 (cs ++ ([(⟨(r39), (r50), ↑n83, 0, r61, r71⟩ : Car)])).length oc114, .slice none 0 0, .slice none 0 0] (_ :: _ :: _ :: _ :: _) (cs := [_, _, _]) rfl rfl ?_)
       refine ee ?_
       refine pst_normal_block ?_
       refine pst_next ?_
       refine rr ?_
       refine sp 1 [(25, .int .i64 (↑k))] ?_
       refine sd (da 26 (↑k) (1)) ?_
       refine sp 1 [(11, .int .i64 (↑k + 1))] ?_
       refine ee ?_
       refine pst_back (n11 - (k+1)) (by omega) ?_
       intro a w hS hD hW
       exact ⟨I98, k+1, cs ++ [(⟨(r39), (r50), ↑n83, 0, r61, r71⟩ : Car)], g + 1, (r104), p_t103, .slice oa114 (cs ++ ([(⟨(r39), (r50), ↑n83, 0, r61, r71⟩ : Car)])).length oc114, Ms114, (Imm.le.trans (Imm.le.trans (Imm.le.trans (Imm.le.trans (Imm.le.trans (Imm.le.trans (Imm.le.trans (Imm.le.trans (Imm.le.trans hJ0 hle17) hle31) hle34) hle45) hle56) hle66) hle78) hle89) hle99), by omega, by simp only [List.length_append, List.length_cons, List.length_nil]; omega, (by have hh := CarsInv.snoc (hci.group (by omega) (by omega)) (c := (⟨(r39), (r50), ↑n83, 0, r61, r71⟩ : Car)) (carErr_mk (by omega) (by omega) (by omega) (by have hgg := hci.g0; omega)) ⟨fun hh => absurd hh (by omega), fun _ => rfl⟩; rw [if_neg (show ¬ (0 < (r104)) by omega)] at hh; exact hh), ho114, hS.sub (.consE 9 rfl rfl (.consE 10 rfl rfl (.consE 11 rfl rfl (.cons 0 rfl (.cons 2 rfl (.cons 6 rfl (.cons 7 rfl (.cons 8 rfl (.nil _))))))))), hD, (hW.perm (List.Perm.swap _ _ _)).sub (List.Sublist.cons _ (List.Sublist.refl _)), rfl⟩
     ·
      have h4_r := h4
      refine rskip ?_
      refine pst_next ?_
      refine rq ?_
      refine rqr ?_
      refine sp 2 [(59, .bool (cmp .gtr (l) (0)))] ?_
      refine se ?_
      refine rc 59 rfl (fun h6 => ?_) (fun h6 => ?_)
      ·
       have h6_r := h6
       have h6 := gtr_t h6
       refine rr ?_
       refine sp 2 [(61, .int .i64 (l)), (60, .int .i64 (g))] ?_
       refine sd (dsb 62 (l) (1)) ?_
       refine sp 1 [(63, .pointer (some ⟨b75, 3, none⟩))] ?_
       refine sS (ss 1 3 b75 [.int .i64 (g)] [.int .i64 ((r39)), .int .i64 ((r50)), .int .i64 (↑n83), .int .i64 (g), .bool (r61), .bool (r71)] (_ :: _ :: _ :: _ :: _) (cs := [_, _, _, _, _, _]) rfl rfl ?_)
       refine sp 1 [(10, .int .i64 (l - 1))] ?_
       refine se ?_
       refine rr ?_
       refine sp 1 [(64, .pointer (some ⟨b3, 0, none⟩))] ?_
       refine sd (dlb 65 2 0 b3 (.slice ov0_c7_0_a cs.length ov0_c7_0_c)) ?_
       refine sd (dnb 66 1 0 b75 [.int .i64 ((r39)), .int .i64 ((r50)), .int .i64 (↑n83), .int .i64 (g), .bool (r61), .bool (r71)]) ?_
       refine sS (sbs 67 40 1 #[.int .i64 ((r39)), .int .i64 ((r50)), .int .i64 (↑n83), .int .i64 (g), .bool (r61), .bool (r71)] (fun b115 => ?_))
       refine sS (stp_append (d := 68) (x := (.tmp 65)) (y := (.tmp 67)) (T := 23) (T' := 23) (E := 40) (E' := 40) (sz := 6) (bs := 40) (z := .agg #[.int .i64 (0), .int .i64 (0), .int .i64 (0), .int .i64 (0), .bool (false), .bool (false)]) (cell := carCell) (xs := cs) (ys := [(⟨(r39), (r50), ↑n83, g, r61, r71⟩ : Car)]) (Ms := oM0_c7_0) (ty := 23) (gd := none) (by kernel_rfl) rfl (by kernel_rfl) (by kernel_rfl) (by kernel_rfl) (by kernel_rfl) (by kernel_rfl) (by decide) (by kernel_rfl) rfl rfl (oh0_c7_0) ((List.Perm.cons _ ((List.Perm.cons _ ((List.Perm.cons _ ((List.Perm.cons _ (List.perm_middle.symm)).trans (List.perm_middle.symm))).trans (List.perm_middle.symm))).trans (List.perm_middle.symm))).trans (List.perm_middle.symm)) (one_carCell _) (src_atS 0 rfl rfl) (by first | omega | (simp only [List.length_cons, List.length_nil, List.length_append, List.length_take, List.length_drop]; omega)) (fun v117 Ms117 ho117 => ?_))
       refine seq_mem (M' := ((p, Obj.cells #[.int .u64 (p_t93)] 65 (0, 0)) :: (b75, Obj.cells #[.int .i64 ((r39)), .int .i64 ((r50)), .int .i64 (↑n83), .int .i64 (g), .bool (r61), .bool (r71)] 40 (0, 0)) :: (b3, Obj.cells #[.slice ov0_c7_0_a cs.length ov0_c7_0_c, .slice none 0 0, .slice none 0 0] 26 (0, 0)) :: (b1, Obj.cells #[.slice none 0 0, .slice none 0 0, .slice none 0 0] 26 (0, 0)) :: (Ms117 ++ F))) (fun w h => (h.perm (List.perm_middle.trans (List.Perm.cons _ (List.perm_middle.trans (List.Perm.cons _ (List.perm_middle.trans (List.Perm.cons _ (List.perm_middle.trans (List.Perm.cons _ List.perm_middle))))))))).sub (List.Sublist.cons _ (List.Sublist.refl _))) ?_
       obtain ⟨oa117, oc117, oe117, ol117⟩ := ho117.shape
       subst oe117
       show Seq _ _ _ _ _ _ ((68, .slice oa117 (cs ++ ([(⟨(r39), (r50), ↑n83, g, r61, r71⟩ : Car)])).length oc117) :: _) _ _
       refine sp 1 [(69, .pointer (some ⟨b3, 0, none⟩))] ?_
       refine sS (ss 2 0 b3 [.slice oa117 (cs ++ ([(⟨(r39), (r50), ↑n83, g, r61, r71⟩ : Car)])).length oc117] [.slice oa117 (cs ++ ([(⟨(r39), (r50), ↑n83, g, r61, r71⟩ : Car)])).length oc117, .slice none 0 0, .slice none 0 0] (_ :: _ :: _ :: _ :: _) (cs := [_, _, _]) rfl rfl ?_)
       refine ee ?_
       refine pst_normal_block ?_
       refine pst_next ?_
       refine rr ?_
       refine sp 1 [(25, .int .i64 (↑k))] ?_
       refine sd (da 26 (↑k) (1)) ?_
       refine sp 1 [(11, .int .i64 (↑k + 1))] ?_
       refine ee ?_
       refine pst_back (n11 - (k+1)) (by omega) ?_
       intro a w hS hD hW
       exact ⟨I88, k+1, cs ++ [(⟨(r39), (r50), ↑n83, g, r61, r71⟩ : Car)], g, l - 1, p_t93, .slice oa117 (cs ++ ([(⟨(r39), (r50), ↑n83, g, r61, r71⟩ : Car)])).length oc117, Ms117, (Imm.le.trans (Imm.le.trans (Imm.le.trans (Imm.le.trans (Imm.le.trans (Imm.le.trans (Imm.le.trans (Imm.le.trans hJ0 hle17) hle31) hle34) hle45) hle56) hle66) hle78) hle89), by omega, by simp only [List.length_append, List.length_cons, List.length_nil]; omega, (by have hh := CarsInv.snoc (hci) (c := (⟨(r39), (r50), ↑n83, g, r61, r71⟩ : Car)) (carErr_mk (by omega) (by omega) (by omega) (by have hgg := hci.g0; omega)) ⟨fun _ => rfl, fun hh => absurd h6 hh⟩; rw [if_pos h6] at hh; exact hh), ho117, hS.sub (.consE 9 rfl rfl (.consE 10 rfl rfl (.consE 11 rfl rfl (.cons 0 rfl (.cons 2 rfl (.cons 6 rfl (.cons 7 rfl (.cons 8 rfl (.nil _))))))))), hD, (hW.perm (List.Perm.swap _ _ _)).sub (List.Sublist.cons _ (List.Sublist.refl _)), rfl⟩
      ·
       have h6_r := h6
       have h6 := gtr_f h6
       refine rskip ?_
       refine pst_next ?_
       refine rr ?_
       refine sp 1 [(64, .pointer (some ⟨b3, 0, none⟩))] ?_
       refine sd (dlb 65 2 0 b3 (.slice ov0_c7_0_a cs.length ov0_c7_0_c)) ?_
       refine sd (dnb 66 1 0 b75 [.int .i64 ((r39)), .int .i64 ((r50)), .int .i64 (↑n83), .int .i64 (0), .bool (r61), .bool (r71)]) ?_
       refine sS (sbs 67 40 1 #[.int .i64 ((r39)), .int .i64 ((r50)), .int .i64 (↑n83), .int .i64 (0), .bool (r61), .bool (r71)] (fun b118 => ?_))
       refine sS (stp_append (d := 68) (x := (.tmp 65)) (y := (.tmp 67)) (T := 23) (T' := 23) (E := 40) (E' := 40) (sz := 6) (bs := 40) (z := .agg #[.int .i64 (0), .int .i64 (0), .int .i64 (0), .int .i64 (0), .bool (false), .bool (false)]) (cell := carCell) (xs := cs) (ys := [(⟨(r39), (r50), ↑n83, 0, r61, r71⟩ : Car)]) (Ms := oM0_c7_0) (ty := 23) (gd := none) (by kernel_rfl) rfl (by kernel_rfl) (by kernel_rfl) (by kernel_rfl) (by kernel_rfl) (by kernel_rfl) (by decide) (by kernel_rfl) rfl rfl (oh0_c7_0) ((List.Perm.cons _ ((List.Perm.cons _ ((List.Perm.cons _ ((List.Perm.cons _ (List.perm_middle.symm)).trans (List.perm_middle.symm))).trans (List.perm_middle.symm))).trans (List.perm_middle.symm))).trans (List.perm_middle.symm)) (one_carCell _) (src_atS 0 rfl rfl) (by first | omega | (simp only [List.length_cons, List.length_nil, List.length_append, List.length_take, List.length_drop]; omega)) (fun v120 Ms120 ho120 => ?_))
       refine seq_mem (M' := ((p, Obj.cells #[.int .u64 (p_t93)] 65 (0, 0)) :: (b75, Obj.cells #[.int .i64 ((r39)), .int .i64 ((r50)), .int .i64 (↑n83), .int .i64 (0), .bool (r61), .bool (r71)] 40 (0, 0)) :: (b3, Obj.cells #[.slice ov0_c7_0_a cs.length ov0_c7_0_c, .slice none 0 0, .slice none 0 0] 26 (0, 0)) :: (b1, Obj.cells #[.slice none 0 0, .slice none 0 0, .slice none 0 0] 26 (0, 0)) :: (Ms120 ++ F))) (fun w h => (h.perm (List.perm_middle.trans (List.Perm.cons _ (List.perm_middle.trans (List.Perm.cons _ (List.perm_middle.trans (List.Perm.cons _ (List.perm_middle.trans (List.Perm.cons _ List.perm_middle))))))))).sub (List.Sublist.cons _ (List.Sublist.refl _))) ?_
       obtain ⟨oa120, oc120, oe120, ol120⟩ := ho120.shape
       subst oe120
       show Seq _ _ _ _ _ _ ((68, .slice oa120 (cs ++ ([(⟨(r39), (r50), ↑n83, 0, r61, r71⟩ : Car)])).length oc120) :: _) _ _
       refine sp 1 [(69, .pointer (some ⟨b3, 0, none⟩))] ?_
       refine sS (ss 2 0 b3 [.slice oa120 (cs ++ ([(⟨(r39), (r50), ↑n83, 0, r61, r71⟩ : Car)])).length oc120] [.slice oa120 (cs ++ ([(⟨(r39), (r50), ↑n83, 0, r61, r71⟩ : Car)])).length oc120, .slice none 0 0, .slice none 0 0] (_ :: _ :: _ :: _ :: _) (cs := [_, _, _]) rfl rfl ?_)
       refine ee ?_
       refine pst_normal_block ?_
       refine pst_next ?_
       refine rr ?_
       refine sp 1 [(25, .int .i64 (↑k))] ?_
       refine sd (da 26 (↑k) (1)) ?_
       refine sp 1 [(11, .int .i64 (↑k + 1))] ?_
       refine ee ?_
       refine pst_back (n11 - (k+1)) (by omega) ?_
       intro a w hS hD hW
       exact ⟨I88, k+1, cs ++ [(⟨(r39), (r50), ↑n83, 0, r61, r71⟩ : Car)], g, l, p_t93, .slice oa120 (cs ++ ([(⟨(r39), (r50), ↑n83, 0, r61, r71⟩ : Car)])).length oc120, Ms120, (Imm.le.trans (Imm.le.trans (Imm.le.trans (Imm.le.trans (Imm.le.trans (Imm.le.trans (Imm.le.trans (Imm.le.trans hJ0 hle17) hle31) hle34) hle45) hle56) hle66) hle78) hle89), by omega, by simp only [List.length_append, List.length_cons, List.length_nil]; omega, (by have hh := CarsInv.snoc (hci) (c := (⟨(r39), (r50), ↑n83, 0, r61, r71⟩ : Car)) (carErr_mk (by omega) (by omega) (by omega) (by have hgg := hci.g0; omega)) ⟨fun hh => absurd hh (by omega), fun _ => rfl⟩; rw [if_neg (show ¬ (0 < l) by omega)] at hh; exact hh), ho120, hS.sub (.consE 9 rfl rfl (.consE 10 rfl rfl (.consE 11 rfl rfl (.cons 0 rfl (.cons 2 rfl (.cons 6 rfl (.cons 7 rfl (.cons 8 rfl (.nil _))))))))), hD, (hW.perm (List.Perm.swap _ _ _)).sub (List.Sublist.cons _ (List.Sublist.refl _)), rfl⟩
    ·
     have h3_b := h3
     have h3_b := lss_f h3_b
     refine sp 3 [(53, .bool (false))] ?_
     refine se ?_
     refine rcf 53 rfl ?_
     refine rskip ?_
     refine pst_next ?_
     refine rq ?_
     refine rqr ?_
     refine sp 2 [(59, .bool (cmp .gtr (l) (0)))] ?_
     refine se ?_
     refine rc 59 rfl (fun h7 => ?_) (fun h7 => ?_)
     ·
      have h7_r := h7
      have h7 := gtr_t h7
      refine rr ?_
      refine sp 2 [(61, .int .i64 (l)), (60, .int .i64 (g))] ?_
      refine sd (dsb 62 (l) (1)) ?_
      refine sp 1 [(63, .pointer (some ⟨b75, 3, none⟩))] ?_
      refine sS (ss 1 3 b75 [.int .i64 (g)] [.int .i64 ((r39)), .int .i64 ((r50)), .int .i64 (↑n83), .int .i64 (g), .bool (r61), .bool (r71)] (_ :: _ :: _ :: _ :: _) (cs := [_, _, _, _, _, _]) rfl rfl ?_)
      refine sp 1 [(10, .int .i64 (l - 1))] ?_
      refine se ?_
      refine rr ?_
      refine sp 1 [(64, .pointer (some ⟨b3, 0, none⟩))] ?_
      refine sd (dlb 65 2 0 b3 (.slice ov0_c7_0_a cs.length ov0_c7_0_c)) ?_
      refine sd (dnb 66 1 0 b75 [.int .i64 ((r39)), .int .i64 ((r50)), .int .i64 (↑n83), .int .i64 (g), .bool (r61), .bool (r71)]) ?_
      refine sS (sbs 67 40 1 #[.int .i64 ((r39)), .int .i64 ((r50)), .int .i64 (↑n83), .int .i64 (g), .bool (r61), .bool (r71)] (fun b121 => ?_))
      refine sS (stp_append (d := 68) (x := (.tmp 65)) (y := (.tmp 67)) (T := 23) (T' := 23) (E := 40) (E' := 40) (sz := 6) (bs := 40) (z := .agg #[.int .i64 (0), .int .i64 (0), .int .i64 (0), .int .i64 (0), .bool (false), .bool (false)]) (cell := carCell) (xs := cs) (ys := [(⟨(r39), (r50), ↑n83, g, r61, r71⟩ : Car)]) (Ms := oM0_c7_0) (ty := 23) (gd := none) (by kernel_rfl) rfl (by kernel_rfl) (by kernel_rfl) (by kernel_rfl) (by kernel_rfl) (by kernel_rfl) (by decide) (by kernel_rfl) rfl rfl (oh0_c7_0) ((List.Perm.cons _ ((List.Perm.cons _ ((List.Perm.cons _ ((List.Perm.cons _ (List.perm_middle.symm)).trans (List.perm_middle.symm))).trans (List.perm_middle.symm))).trans (List.perm_middle.symm))).trans (List.perm_middle.symm)) (one_carCell _) (src_atS 0 rfl rfl) (by first | omega | (simp only [List.length_cons, List.length_nil, List.length_append, List.length_take, List.length_drop]; omega)) (fun v123 Ms123 ho123 => ?_))
      refine seq_mem (M' := ((p, Obj.cells #[.int .u64 (p_t82)] 65 (0, 0)) :: (b75, Obj.cells #[.int .i64 ((r39)), .int .i64 ((r50)), .int .i64 (↑n83), .int .i64 (g), .bool (r61), .bool (r71)] 40 (0, 0)) :: (b3, Obj.cells #[.slice ov0_c7_0_a cs.length ov0_c7_0_c, .slice none 0 0, .slice none 0 0] 26 (0, 0)) :: (b1, Obj.cells #[.slice none 0 0, .slice none 0 0, .slice none 0 0] 26 (0, 0)) :: (Ms123 ++ F))) (fun w h => (h.perm (List.perm_middle.trans (List.Perm.cons _ (List.perm_middle.trans (List.Perm.cons _ (List.perm_middle.trans (List.Perm.cons _ (List.perm_middle.trans (List.Perm.cons _ List.perm_middle))))))))).sub (List.Sublist.cons _ (List.Sublist.refl _))) ?_
      obtain ⟨oa123, oc123, oe123, ol123⟩ := ho123.shape
      subst oe123
      show Seq _ _ _ _ _ _ ((68, .slice oa123 (cs ++ ([(⟨(r39), (r50), ↑n83, g, r61, r71⟩ : Car)])).length oc123) :: _) _ _
      refine sp 1 [(69, .pointer (some ⟨b3, 0, none⟩))] ?_
      refine sS (ss 2 0 b3 [.slice oa123 (cs ++ ([(⟨(r39), (r50), ↑n83, g, r61, r71⟩ : Car)])).length oc123] [.slice oa123 (cs ++ ([(⟨(r39), (r50), ↑n83, g, r61, r71⟩ : Car)])).length oc123, .slice none 0 0, .slice none 0 0] (_ :: _ :: _ :: _ :: _) (cs := [_, _, _]) rfl rfl ?_)
      refine ee ?_
      refine pst_normal_block ?_
      refine pst_next ?_
      refine rr ?_
      refine sp 1 [(25, .int .i64 (↑k))] ?_
      refine sd (da 26 (↑k) (1)) ?_
      refine sp 1 [(11, .int .i64 (↑k + 1))] ?_
      refine ee ?_
      refine pst_back (n11 - (k+1)) (by omega) ?_
      intro a w hS hD hW
      exact ⟨I77, k+1, cs ++ [(⟨(r39), (r50), ↑n83, g, r61, r71⟩ : Car)], g, l - 1, p_t82, .slice oa123 (cs ++ ([(⟨(r39), (r50), ↑n83, g, r61, r71⟩ : Car)])).length oc123, Ms123, (Imm.le.trans (Imm.le.trans (Imm.le.trans (Imm.le.trans (Imm.le.trans (Imm.le.trans (Imm.le.trans hJ0 hle17) hle31) hle34) hle45) hle56) hle66) hle78), by omega, by simp only [List.length_append, List.length_cons, List.length_nil]; omega, (by have hh := CarsInv.snoc (hci) (c := (⟨(r39), (r50), ↑n83, g, r61, r71⟩ : Car)) (carErr_mk (by omega) (by omega) (by omega) (by have hgg := hci.g0; omega)) ⟨fun _ => rfl, fun hh => absurd h7 hh⟩; rw [if_pos h7] at hh; exact hh), ho123, hS.sub (.consE 9 rfl rfl (.consE 10 rfl rfl (.consE 11 rfl rfl (.cons 0 rfl (.cons 2 rfl (.cons 6 rfl (.cons 7 rfl (.cons 8 rfl (.nil _))))))))), hD, (hW.perm (List.Perm.swap _ _ _)).sub (List.Sublist.cons _ (List.Sublist.refl _)), rfl⟩
     ·
      have h7_r := h7
      have h7 := gtr_f h7
      refine rskip ?_
      refine pst_next ?_
      refine rr ?_
      refine sp 1 [(64, .pointer (some ⟨b3, 0, none⟩))] ?_
      refine sd (dlb 65 2 0 b3 (.slice ov0_c7_0_a cs.length ov0_c7_0_c)) ?_
      refine sd (dnb 66 1 0 b75 [.int .i64 ((r39)), .int .i64 ((r50)), .int .i64 (↑n83), .int .i64 (0), .bool (r61), .bool (r71)]) ?_
      refine sS (sbs 67 40 1 #[.int .i64 ((r39)), .int .i64 ((r50)), .int .i64 (↑n83), .int .i64 (0), .bool (r61), .bool (r71)] (fun b124 => ?_))
      refine sS (stp_append (d := 68) (x := (.tmp 65)) (y := (.tmp 67)) (T := 23) (T' := 23) (E := 40) (E' := 40) (sz := 6) (bs := 40) (z := .agg #[.int .i64 (0), .int .i64 (0), .int .i64 (0), .int .i64 (0), .bool (false), .bool (false)]) (cell := carCell) (xs := cs) (ys := [(⟨(r39), (r50), ↑n83, 0, r61, r71⟩ : Car)]) (Ms := oM0_c7_0) (ty := 23) (gd := none) (by kernel_rfl) rfl (by kernel_rfl) (by kernel_rfl) (by kernel_rfl) (by kernel_rfl) (by kernel_rfl) (by decide) (by kernel_rfl) rfl rfl (oh0_c7_0) ((List.Perm.cons _ ((List.Perm.cons _ ((List.Perm.cons _ ((List.Perm.cons _ (List.perm_middle.symm)).trans (List.perm_middle.symm))).trans (List.perm_middle.symm))).trans (List.perm_middle.symm))).trans (List.perm_middle.symm)) (one_carCell _) (src_atS 0 rfl rfl) (by first | omega | (simp only [List.length_cons, List.length_nil, List.length_append, List.length_take, List.length_drop]; omega)) (fun v126 Ms126 ho126 => ?_))
      refine seq_mem (M' := ((p, Obj.cells #[.int .u64 (p_t82)] 65 (0, 0)) :: (b75, Obj.cells #[.int .i64 ((r39)), .int .i64 ((r50)), .int .i64 (↑n83), .int .i64 (0), .bool (r61), .bool (r71)] 40 (0, 0)) :: (b3, Obj.cells #[.slice ov0_c7_0_a cs.length ov0_c7_0_c, .slice none 0 0, .slice none 0 0] 26 (0, 0)) :: (b1, Obj.cells #[.slice none 0 0, .slice none 0 0, .slice none 0 0] 26 (0, 0)) :: (Ms126 ++ F))) (fun w h => (h.perm (List.perm_middle.trans (List.Perm.cons _ (List.perm_middle.trans (List.Perm.cons _ (List.perm_middle.trans (List.Perm.cons _ (List.perm_middle.trans (List.Perm.cons _ List.perm_middle))))))))).sub (List.Sublist.cons _ (List.Sublist.refl _))) ?_
      obtain ⟨oa126, oc126, oe126, ol126⟩ := ho126.shape
      subst oe126
      show Seq _ _ _ _ _ _ ((68, .slice oa126 (cs ++ ([(⟨(r39), (r50), ↑n83, 0, r61, r71⟩ : Car)])).length oc126) :: _) _ _
      refine sp 1 [(69, .pointer (some ⟨b3, 0, none⟩))] ?_
      refine sS (ss 2 0 b3 [.slice oa126 (cs ++ ([(⟨(r39), (r50), ↑n83, 0, r61, r71⟩ : Car)])).length oc126] [.slice oa126 (cs ++ ([(⟨(r39), (r50), ↑n83, 0, r61, r71⟩ : Car)])).length oc126, .slice none 0 0, .slice none 0 0] (_ :: _ :: _ :: _ :: _) (cs := [_, _, _]) rfl rfl ?_)
      refine ee ?_
      refine pst_normal_block ?_
      refine pst_next ?_
      refine rr ?_
      refine sp 1 [(25, .int .i64 (↑k))] ?_
      refine sd (da 26 (↑k) (1)) ?_
      refine sp 1 [(11, .int .i64 (↑k + 1))] ?_
      refine ee ?_
      refine pst_back (n11 - (k+1)) (by omega) ?_
      intro a w hS hD hW
      exact ⟨I77, k+1, cs ++ [(⟨(r39), (r50), ↑n83, 0, r61, r71⟩ : Car)], g, l, p_t82, .slice oa126 (cs ++ ([(⟨(r39), (r50), ↑n83, 0, r61, r71⟩ : Car)])).length oc126, Ms126, (Imm.le.trans (Imm.le.trans (Imm.le.trans (Imm.le.trans (Imm.le.trans (Imm.le.trans (Imm.le.trans hJ0 hle17) hle31) hle34) hle45) hle56) hle66) hle78), by omega, by simp only [List.length_append, List.length_cons, List.length_nil]; omega, (by have hh := CarsInv.snoc (hci) (c := (⟨(r39), (r50), ↑n83, 0, r61, r71⟩ : Car)) (carErr_mk (by omega) (by omega) (by omega) (by have hgg := hci.g0; omega)) ⟨fun hh => absurd hh (by omega), fun _ => rfl⟩; rw [if_neg (show ¬ (0 < l) by omega)] at hh; exact hh), ho126, hS.sub (.consE 9 rfl rfl (.consE 10 rfl rfl (.consE 11 rfl rfl (.cons 0 rfl (.cons 2 rfl (.cons 6 rfl (.cons 7 rfl (.cons 8 rfl (.nil _))))))))), hD, (hW.perm (List.Perm.swap _ _ _)).sub (List.Sublist.cons _ (List.Sublist.refl _)), rfl⟩
   ·
    have h2_b := h2
    have h2_b := eql_f h2_b
    refine sp 7 [(53, .bool (false))] ?_
    refine se ?_
    refine rcf 53 rfl ?_
    refine rskip ?_
    refine pst_next ?_
    refine rq ?_
    refine rqr ?_
    refine sp 2 [(59, .bool (cmp .gtr (l) (0)))] ?_
    refine se ?_
    refine rc 59 rfl (fun h8 => ?_) (fun h8 => ?_)
    ·
     have h8_r := h8
     have h8 := gtr_t h8
     refine rr ?_
     refine sp 2 [(61, .int .i64 (l)), (60, .int .i64 (g))] ?_
     refine sd (dsb 62 (l) (1)) ?_
     refine sp 1 [(63, .pointer (some ⟨b75, 3, none⟩))] ?_
     refine sS (ss 1 3 b75 [.int .i64 (g)] [.int .i64 ((r39)), .int .i64 ((r50)), .int .i64 (↑n83), .int .i64 (g), .bool (r61), .bool (r71)] (_ :: _ :: _ :: _ :: _) (cs := [_, _, _, _, _, _]) rfl rfl ?_)
     refine sp 1 [(10, .int .i64 (l - 1))] ?_
     refine se ?_
     refine rr ?_
     refine sp 1 [(64, .pointer (some ⟨b3, 0, none⟩))] ?_
     refine sd (dlb 65 2 0 b3 (.slice ov0_c7_0_a cs.length ov0_c7_0_c)) ?_
     refine sd (dnb 66 1 0 b75 [.int .i64 ((r39)), .int .i64 ((r50)), .int .i64 (↑n83), .int .i64 (g), .bool (r61), .bool (r71)]) ?_
     refine sS (sbs 67 40 1 #[.int .i64 ((r39)), .int .i64 ((r50)), .int .i64 (↑n83), .int .i64 (g), .bool (r61), .bool (r71)] (fun b127 => ?_))
     refine sS (stp_append (d := 68) (x := (.tmp 65)) (y := (.tmp 67)) (T := 23) (T' := 23) (E := 40) (E' := 40) (sz := 6) (bs := 40) (z := .agg #[.int .i64 (0), .int .i64 (0), .int .i64 (0), .int .i64 (0), .bool (false), .bool (false)]) (cell := carCell) (xs := cs) (ys := [(⟨(r39), (r50), ↑n83, g, r61, r71⟩ : Car)]) (Ms := oM0_c7_0) (ty := 23) (gd := none) (by kernel_rfl) rfl (by kernel_rfl) (by kernel_rfl) (by kernel_rfl) (by kernel_rfl) (by kernel_rfl) (by decide) (by kernel_rfl) rfl rfl (oh0_c7_0) ((List.Perm.cons _ ((List.Perm.cons _ ((List.Perm.cons _ ((List.Perm.cons _ (List.perm_middle.symm)).trans (List.perm_middle.symm))).trans (List.perm_middle.symm))).trans (List.perm_middle.symm))).trans (List.perm_middle.symm)) (one_carCell _) (src_atS 0 rfl rfl) (by first | omega | (simp only [List.length_cons, List.length_nil, List.length_append, List.length_take, List.length_drop]; omega)) (fun v129 Ms129 ho129 => ?_))
     refine seq_mem (M' := ((p, Obj.cells #[.int .u64 (p_t82)] 65 (0, 0)) :: (b75, Obj.cells #[.int .i64 ((r39)), .int .i64 ((r50)), .int .i64 (↑n83), .int .i64 (g), .bool (r61), .bool (r71)] 40 (0, 0)) :: (b3, Obj.cells #[.slice ov0_c7_0_a cs.length ov0_c7_0_c, .slice none 0 0, .slice none 0 0] 26 (0, 0)) :: (b1, Obj.cells #[.slice none 0 0, .slice none 0 0, .slice none 0 0] 26 (0, 0)) :: (Ms129 ++ F))) (fun w h => (h.perm (List.perm_middle.trans (List.Perm.cons _ (List.perm_middle.trans (List.Perm.cons _ (List.perm_middle.trans (List.Perm.cons _ (List.perm_middle.trans (List.Perm.cons _ List.perm_middle))))))))).sub (List.Sublist.cons _ (List.Sublist.refl _))) ?_
     obtain ⟨oa129, oc129, oe129, ol129⟩ := ho129.shape
     subst oe129
     show Seq _ _ _ _ _ _ ((68, .slice oa129 (cs ++ ([(⟨(r39), (r50), ↑n83, g, r61, r71⟩ : Car)])).length oc129) :: _) _ _
     refine sp 1 [(69, .pointer (some ⟨b3, 0, none⟩))] ?_
     refine sS (ss 2 0 b3 [.slice oa129 (cs ++ ([(⟨(r39), (r50), ↑n83, g, r61, r71⟩ : Car)])).length oc129] [.slice oa129 (cs ++ ([(⟨(r39), (r50), ↑n83, g, r61, r71⟩ : Car)])).length oc129, .slice none 0 0, .slice none 0 0] (_ :: _ :: _ :: _ :: _) (cs := [_, _, _]) rfl rfl ?_)
     refine ee ?_
     refine pst_normal_block ?_
     refine pst_next ?_
     refine rr ?_
     refine sp 1 [(25, .int .i64 (↑k))] ?_
     refine sd (da 26 (↑k) (1)) ?_
     refine sp 1 [(11, .int .i64 (↑k + 1))] ?_
     refine ee ?_
     refine pst_back (n11 - (k+1)) (by omega) ?_
     intro a w hS hD hW
     exact ⟨I77, k+1, cs ++ [(⟨(r39), (r50), ↑n83, g, r61, r71⟩ : Car)], g, l - 1, p_t82, .slice oa129 (cs ++ ([(⟨(r39), (r50), ↑n83, g, r61, r71⟩ : Car)])).length oc129, Ms129, (Imm.le.trans (Imm.le.trans (Imm.le.trans (Imm.le.trans (Imm.le.trans (Imm.le.trans (Imm.le.trans hJ0 hle17) hle31) hle34) hle45) hle56) hle66) hle78), by omega, by simp only [List.length_append, List.length_cons, List.length_nil]; omega, (by have hh := CarsInv.snoc (hci) (c := (⟨(r39), (r50), ↑n83, g, r61, r71⟩ : Car)) (carErr_mk (by omega) (by omega) (by omega) (by have hgg := hci.g0; omega)) ⟨fun _ => rfl, fun hh => absurd h8 hh⟩; rw [if_pos h8] at hh; exact hh), ho129, hS.sub (.consE 9 rfl rfl (.consE 10 rfl rfl (.consE 11 rfl rfl (.cons 0 rfl (.cons 2 rfl (.cons 6 rfl (.cons 7 rfl (.cons 8 rfl (.nil _))))))))), hD, (hW.perm (List.Perm.swap _ _ _)).sub (List.Sublist.cons _ (List.Sublist.refl _)), rfl⟩
    ·
     have h8_r := h8
     have h8 := gtr_f h8
     refine rskip ?_
     refine pst_next ?_
     refine rr ?_
     refine sp 1 [(64, .pointer (some ⟨b3, 0, none⟩))] ?_
     refine sd (dlb 65 2 0 b3 (.slice ov0_c7_0_a cs.length ov0_c7_0_c)) ?_
     refine sd (dnb 66 1 0 b75 [.int .i64 ((r39)), .int .i64 ((r50)), .int .i64 (↑n83), .int .i64 (0), .bool (r61), .bool (r71)]) ?_
     refine sS (sbs 67 40 1 #[.int .i64 ((r39)), .int .i64 ((r50)), .int .i64 (↑n83), .int .i64 (0), .bool (r61), .bool (r71)] (fun b130 => ?_))
     refine sS (stp_append (d := 68) (x := (.tmp 65)) (y := (.tmp 67)) (T := 23) (T' := 23) (E := 40) (E' := 40) (sz := 6) (bs := 40) (z := .agg #[.int .i64 (0), .int .i64 (0), .int .i64 (0), .int .i64 (0), .bool (false), .bool (false)]) (cell := carCell) (xs := cs) (ys := [(⟨(r39), (r50), ↑n83, 0, r61, r71⟩ : Car)]) (Ms := oM0_c7_0) (ty := 23) (gd := none) (by kernel_rfl) rfl (by kernel_rfl) (by kernel_rfl) (by kernel_rfl) (by kernel_rfl) (by kernel_rfl) (by decide) (by kernel_rfl) rfl rfl (oh0_c7_0) ((List.Perm.cons _ ((List.Perm.cons _ ((List.Perm.cons _ ((List.Perm.cons _ (List.perm_middle.symm)).trans (List.perm_middle.symm))).trans (List.perm_middle.symm))).trans (List.perm_middle.symm))).trans (List.perm_middle.symm)) (one_carCell _) (src_atS 0 rfl rfl) (by first | omega | (simp only [List.length_cons, List.length_nil, List.length_append, List.length_take, List.length_drop]; omega)) (fun v132 Ms132 ho132 => ?_))
     refine seq_mem (M' := ((p, Obj.cells #[.int .u64 (p_t82)] 65 (0, 0)) :: (b75, Obj.cells #[.int .i64 ((r39)), .int .i64 ((r50)), .int .i64 (↑n83), .int .i64 (0), .bool (r61), .bool (r71)] 40 (0, 0)) :: (b3, Obj.cells #[.slice ov0_c7_0_a cs.length ov0_c7_0_c, .slice none 0 0, .slice none 0 0] 26 (0, 0)) :: (b1, Obj.cells #[.slice none 0 0, .slice none 0 0, .slice none 0 0] 26 (0, 0)) :: (Ms132 ++ F))) (fun w h => (h.perm (List.perm_middle.trans (List.Perm.cons _ (List.perm_middle.trans (List.Perm.cons _ (List.perm_middle.trans (List.Perm.cons _ (List.perm_middle.trans (List.Perm.cons _ List.perm_middle))))))))).sub (List.Sublist.cons _ (List.Sublist.refl _))) ?_
     obtain ⟨oa132, oc132, oe132, ol132⟩ := ho132.shape
     subst oe132
     show Seq _ _ _ _ _ _ ((68, .slice oa132 (cs ++ ([(⟨(r39), (r50), ↑n83, 0, r61, r71⟩ : Car)])).length oc132) :: _) _ _
     refine sp 1 [(69, .pointer (some ⟨b3, 0, none⟩))] ?_
     refine sS (ss 2 0 b3 [.slice oa132 (cs ++ ([(⟨(r39), (r50), ↑n83, 0, r61, r71⟩ : Car)])).length oc132] [.slice oa132 (cs ++ ([(⟨(r39), (r50), ↑n83, 0, r61, r71⟩ : Car)])).length oc132, .slice none 0 0, .slice none 0 0] (_ :: _ :: _ :: _ :: _) (cs := [_, _, _]) rfl rfl ?_)
     refine ee ?_
     refine pst_normal_block ?_
     refine pst_next ?_
     refine rr ?_
     refine sp 1 [(25, .int .i64 (↑k))] ?_
     refine sd (da 26 (↑k) (1)) ?_
     refine sp 1 [(11, .int .i64 (↑k + 1))] ?_
     refine ee ?_
     refine pst_back (n11 - (k+1)) (by omega) ?_
     intro a w hS hD hW
     exact ⟨I77, k+1, cs ++ [(⟨(r39), (r50), ↑n83, 0, r61, r71⟩ : Car)], g, l, p_t82, .slice oa132 (cs ++ ([(⟨(r39), (r50), ↑n83, 0, r61, r71⟩ : Car)])).length oc132, Ms132, (Imm.le.trans (Imm.le.trans (Imm.le.trans (Imm.le.trans (Imm.le.trans (Imm.le.trans (Imm.le.trans hJ0 hle17) hle31) hle34) hle45) hle56) hle66) hle78), by omega, by simp only [List.length_append, List.length_cons, List.length_nil]; omega, (by have hh := CarsInv.snoc (hci) (c := (⟨(r39), (r50), ↑n83, 0, r61, r71⟩ : Car)) (carErr_mk (by omega) (by omega) (by omega) (by have hgg := hci.g0; omega)) ⟨fun hh => absurd hh (by omega), fun _ => rfl⟩; rw [if_neg (show ¬ (0 < l) by omega)] at hh; exact hh), ho132, hS.sub (.consE 9 rfl rfl (.consE 10 rfl rfl (.consE 11 rfl rfl (.cons 0 rfl (.cons 2 rfl (.cons 6 rfl (.cons 7 rfl (.cons 8 rfl (.nil _))))))))), hD, (hW.perm (List.Perm.swap _ _ _)).sub (List.Sublist.cons _ (List.Sublist.refl _)), rfl⟩
  ·
   have h1_r := h1
   have h1 := lss_f h1
   refine rexit 0 ?_
   refine (pst_exit_pass (pst_exit_pass (pst_exit_block ?_)))
   refine pst_next ?_
   refine rqr ?_
   refine sp 3 [(72, .int .i64 ((if (2 : Int) < (↑s : Int) then 2 else ↑s))), (70, .pointer (some ⟨p, 0, none⟩))] ?_
   have hct143 := Up_ct J0 (p) (bs) ((if (2 : Int) < (↑s : Int) then 2 else ↑s)) (by omega)
   refine sS (sc (some 73) (F := ((b3, Obj.cells #[.slice ov0_c7_0_a cs.length ov0_c7_0_c, .slice none 0 0, .slice none 0 0] 26 (0, 0)) :: (b1, Obj.cells #[.slice none 0 0, .slice none 0 0, .slice none 0 0] 26 (0, 0)) :: (oM0_c7_0 ++ F))) (hct143 :) (.refl _) (fun rv141 I133 rm142 hle134 hp135 => ?_))
   obtain ⟨p_t138, n139, hv136, hm137, qp140⟩ := hp135
   rw [hv136, hm137]; clear hv136 hm137
   refine nm ?_
   show Seq _ _ _ _ _ _ ((73, .int .i64 (↑n139)) :: _) _ _
   have hT3 : 1 + n139 ≤ 3 := by
    have hq := qp140
    split at hq <;> omega
   refine sd (da 74 (1) (↑n139)) ?_
   refine seq_re 74 rfl (show (.int .i64 (1 + ↑n139) : Value) = .int .i64 (↑(1 + n139)) from congrArg (Value.int .i64) (by omega)) ?_
   refine sS (stp_makeSlice (d := 75) (x := (.tmp 74)) (T := 24) (E := 22) (bs := 24) (n := 1 + n139) (z := .slice none 0 0) (zv := .slice none 0 0) (ty := 24) (gd := none) (by kernel_rfl) rfl (by kernel_rfl) (by kernel_rfl) (by kernel_rfl) rfl (by kernel_rfl) (by decide) rfl (by omega) (fun b144 => ?_))
   have ho145 : Own 22 1 valCell (.slice (some ⟨b144, 0, none⟩) (1 + n139) (1 + n139)) (List.replicate (1 + n139) (.slice none 0 0)) [(b144, Obj.cells (List.replicate (1 + n139) (.slice none 0 0)).toArray 22 (0, 0))] := Own.made _
   obtain ⟨mS147, hmS147⟩ : ∃ X : Seg, X = [(b144, Obj.cells (List.replicate (1 + n139) (.slice none 0 0)).toArray 22 (0, 0))] := ⟨_, rfl⟩
   rw [← hmS147] at ho145
   refine seq_mem (I' := I133) (M' := ((mS147 ++ (p, Obj.cells #[.int .u64 (p_t138)] 65 (0, 0)) :: (b3, Obj.cells #[.slice ov0_c7_0_a cs.length ov0_c7_0_c, .slice none 0 0, .slice none 0 0] 26 (0, 0)) :: (b1, Obj.cells #[.slice none 0 0, .slice none 0 0, .slice none 0 0] 26 (0, 0)) :: (oM0_c7_0 ++ F)))) (fun w h => by rw [hmS147]; exact h) ?_
   refine pm (M' := ((p, Obj.cells #[.int .u64 (p_t138)] 65 (0, 0)) :: (b3, Obj.cells #[.slice ov0_c7_0_a cs.length ov0_c7_0_c, .slice none 0 0, .slice none 0 0] 26 (0, 0)) :: (b1, Obj.cells #[.slice none 0 0, .slice none 0 0, .slice none 0 0] 26 (0, 0)) :: (mS147 ++ (oM0_c7_0 ++ F)))) (List.perm_middle.trans (List.Perm.cons _ (List.perm_middle.trans (List.Perm.cons _ List.perm_middle)))) ?_
   have hea146 := OwnEach.nils 3 (1 + n139)
   refine sp 1 [(76, .pointer (some ⟨b3, 2, none⟩))] ?_
   refine sS (ss 1 2 b3 [.slice (some ⟨b144, 0, none⟩) (1 + n139) (1 + n139)] [.slice ov0_c7_0_a cs.length ov0_c7_0_c, .slice none 0 0, .slice (some ⟨b144, 0, none⟩) (1 + n139) (1 + n139)] (_ :: _ :: _ :: _) (cs := [_, _, _]) rfl rfl ?_)
   refine sn ?_
   refine sp 1 [(13, .int .i64 (0))] ?_
   refine se ?_
   refine rq ?_
   refine rqr ?_
   refine sp 1 [(14, .int .i64 (0))] ?_
   refine se ?_
   refine rb 2 ?_
   refine rl (fun mz a w => ∃ J1 : Imm, ∃ j : Nat, ∃ aa : Nat, ∃ ts : List (List Int), ∃ tv : Value, ∃ vs : List Value, ∃ tM : Seg, ∃ eM : Seg, ∃ bs2 : Int, (I133.le J1) ∧ (j ≤ n11) ∧ (Placed cs (1 + n139) j aa ts) ∧ (Own 22 1 valCell tv vs tM) ∧ (OwnEach 3 vs ts eM) ∧ Slots 179 [(13, .int .i64 ↑aa), (14, .int .i64 ↑j), (0, .pointer (some ⟨p, 0, none⟩)), (6, .pointer (some ⟨b1, 0, none⟩)), (7, .pointer (some ⟨b3, 0, none⟩)), (8, .int .i64 (↑n11))] a ∧ a.defers = [] ∧ St J1 ((p, Obj.cells #[.int .u64 (bs2)] 65 (0, 0)) :: (b3, Obj.cells #[.slice ov0_c7_0_a cs.length ov0_c7_0_c, .slice none 0 0, tv] 26 (0, 0)) :: (b1, Obj.cells #[.slice none 0 0, .slice none 0 0, .slice none 0 0] 26 (0, 0)) :: (tM ++ (oM0_c7_0 ++ (eM ++ F)))) w ∧ mz = n11 - j) ?_ ?_
   ·intro a w hS hD hW
    exact ⟨_, I133, 0, 0, (List.replicate (1 + n139) []), (.slice (some ⟨b144, 0, none⟩) (1 + n139) (1 + n139)), (List.replicate (1 + n139) (.slice none 0 0)), mS147, [], p_t138, Imm.le.refl _, Nat.zero_le _, Placed.start (by omega), ho145, hea146, hS.sub (.cons 13 rfl (.cons 14 rfl (.cons 0 rfl (.cons 6 rfl (.cons 7 rfl (.cons 8 rfl (.nil _))))))), hD, hW, rfl⟩
   ·rintro mz a w ⟨J1, j, aa, ts, tv, vs, tM, eM, bs2, hJ1, hj, hpl, to_, hea, hS, hD, hW, rfl⟩
    refine run_at hS hD hW ?_
    clear hS hD hW a w
    obtain ⟨tv_a, tv_c, tv_e, tv_l⟩ := to_.shape; subst tv_e
    have hvl := hea.length; have hpt := hpl.len; have hpa := hpl.a0
    refine rq ?_
    refine rqr ?_
    refine sp 3 [(79, .bool (cmp .lss (↑j) (↑n11)))] ?_
    refine se ?_
    refine rc 79 rfl (fun h9 => ?_) (fun h9 => ?_)
    ·
     have h9_r := h9
     have h9 := lss_t h9
     refine rskip ?_
     refine pst_next ?_
     refine rq ?_
     refine rb 3 ?_
     refine rq ?_
     refine rq ?_
     refine run_cut (fun a w => Slots 179 [(0, .pointer (some ⟨p, 0, none⟩)), (6, .pointer (some ⟨b1, 0, none⟩)), (7, .pointer (some ⟨b3, 0, none⟩)), (8, .int .i64 (↑n11)), (13, .int .i64 (↑aa)), (14, .int .i64 (↑j)), (108, .bool ((cmp .eql (↑j) (0)) || ((cmp .eql ((cs.getD (j) noCar).grp) (0)) || (!(cmp .eql ((cs.getD (j) noCar).grp) ((cs.getD ((↑j - 1 : Int).toNat) noCar).grp))))))] a ∧ a.defers = [] ∧ St J1 ((p, Obj.cells #[.int .u64 (bs2)] 65 (0, 0)) :: (b3, Obj.cells #[.slice ov0_c7_0_a cs.length ov0_c7_0_c, .slice none 0 0, .slice tv_a vs.length tv_c] 26 (0, 0)) :: (b1, Obj.cells #[.slice none 0 0, .slice none 0 0, .slice none 0 0] 26 (0, 0)) :: (tM ++ (oM0_c7_0 ++ (eM ++ F)))) w) ?_ ?_
     ·
      refine rd0 25 ?_
      refine ox 3 [(84, .bool (cmp .eql (↑j) (0)))] ?_
      refine ofp_split 84 (fun h10 => ?_) (fun h10 => ?_)
      ·
       have h10_b := h10
       have h10_b := eql_t h10_b
       refine ox 22 [(106, undef), (99, undef), (93, .bool (true))] ?_
       refine ofp_end0 ?_
       refine sp 2 [(108, .bool (true))] ?_
       refine ee ?_
       refine pst_meet (fun a w hS hD hW => ⟨hS.sub (.cons 0 rfl (.cons 6 rfl (.cons 7 rfl (.cons 8 rfl (.cons 13 rfl (.cons 14 rfl (.consE 108 rfl (congrArg Value.bool (by simp only [h10, Bool.true_and, Bool.false_and, Bool.and_true, Bool.and_false, Bool.true_or, Bool.false_or, Bool.or_true, Bool.or_false, cond_true, cond_false])) (.nil _)))))))), hD, hW⟩)
      ·
       have h10_b := h10
       have h10_b := eql_f h10_b
       refine ox 1 [(85, .pointer (some ⟨b3, 0, none⟩))] ?_
       refine ofp_det (dlb 86 1 0 b3 (.slice ov0_c7_0_a cs.length ov0_c7_0_c)) ?_
       refine ox 1 [(87, .int .i64 (↑j))] ?_
       obtain ⟨ob148, orr149⟩ := oh0_c7_0.row noCar
       refine ofp_det (di 88 6 (j) orr149.addr) ?_
       refine ox 1 [(89, .pointer (some ⟨ob148, 0 + j * 6 + 3, none⟩))] ?_
       refine ofp_det (dl 90 (orr149.get (j) (by omega) 3 (by decide) _ _ (fun x hx => by simp [hx]))) ?_
       refine ox 3 [(93, .bool (cmp .eql ((cs.getD (j) noCar).grp) (0)))] ?_
       refine ofp_split 93 (fun h11 => ?_) (fun h11 => ?_)
       ·
        have h11_b := h11
        have h11_b := eql_t h11_b
        refine ox 13 [(106, undef), (99, undef)] ?_
        refine ofp_end0 ?_
        refine sp 2 [(108, .bool (true))] ?_
        refine ee ?_
        refine pst_meet (fun a w hS hD hW => ⟨hS.sub (.cons 0 rfl (.cons 6 rfl (.cons 7 rfl (.cons 8 rfl (.cons 13 rfl (.cons 14 rfl (.consE 108 rfl (congrArg Value.bool (by simp only [h10, h11, Bool.true_and, Bool.false_and, Bool.and_true, Bool.and_false, Bool.true_or, Bool.false_or, Bool.or_true, Bool.or_false, cond_true, cond_false])) (.nil _)))))))), hD, hW⟩)
       ·
        have h11_b := h11
        have h11_b := eql_f h11_b
        refine ox 1 [(94, .pointer (some ⟨b3, 0, none⟩))] ?_
        refine ofp_det (dlb 95 1 0 b3 (.slice ov0_c7_0_a cs.length ov0_c7_0_c)) ?_
        refine ox 1 [(96, .int .i64 (↑j))] ?_
        obtain ⟨ob150, orr151⟩ := oh0_c7_0.row noCar
        refine ofp_det (di 97 6 (j) orr151.addr) ?_
        refine ox 1 [(98, .pointer (some ⟨ob150, 0 + j * 6 + 3, none⟩))] ?_
        refine ofp_det (dl 99 (orr151.get (j) (by omega) 3 (by decide) _ _ (fun x hx => by simp [hx]))) ?_
        refine ox 1 [(100, .pointer (some ⟨b3, 0, none⟩))] ?_
        refine ofp_det (dlb 101 1 0 b3 (.slice ov0_c7_0_a cs.length ov0_c7_0_c)) ?_
        refine ox 1 [(102, .int .i64 (↑j))] ?_
        refine ofp_det (dsb 103 (↑j) (1)) ?_
        obtain ⟨ob152, orr153⟩ := oh0_c7_0.row noCar
        refine ofp_det (diI 104 6 (↑j - 1) orr153.addr) ?_
        refine ox 1 [(105, .pointer (some ⟨ob152, 0 + ((↑j - 1 : Int).toNat) * 6 + 3, none⟩))] ?_
        refine ofp_det (dl 106 (orr153.get ((↑j - 1 : Int).toNat) (by omega) 3 (by decide) _ _ (fun x hx => by simp [hx]))) ?_
        refine ofp_end0 ?_
        refine sp 2 [(108, .bool (!(cmp .eql ((cs.getD (j) noCar).grp) ((cs.getD ((↑j - 1 : Int).toNat) noCar).grp))))] ?_
        refine ee ?_
        refine pst_meet (fun a w hS hD hW => ⟨hS.sub (.cons 0 rfl (.cons 6 rfl (.cons 7 rfl (.cons 8 rfl (.cons 13 rfl (.cons 14 rfl (.consE 108 rfl (congrArg Value.bool (by simp only [h10, h11, Bool.true_and, Bool.false_and, Bool.and_true, Bool.and_false, Bool.true_or, Bool.false_or, Bool.or_true, Bool.or_false, cond_true, cond_false])) (.nil _)))))))), hD, hW⟩)
     ·rintro a w ⟨hS, hD, hW⟩
      refine run_at hS hD hW ?_
      clear hS hD hW a w
      refine rc 108 rfl (fun h12 => ?_) (fun h12 => ?_)
      ·
       have h12_r := h12
       refine rr ?_
       refine sp 3 [(111, .pointer (some ⟨b3, 2, none⟩)), (110, .pointer (some ⟨p, 0, none⟩)), (109, .pointer (some ⟨p, 0, none⟩))] ?_
       refine sd (dlb 112 1 2 b3 (.slice tv_a vs.length tv_c)) ?_
       refine sp 1 [(113, .int .i64 (↑(vs.length)))] ?_
       refine sd (dsb 114 (↑(vs.length)) (1)) ?_
       have hct164 := Up_ct J1 (p) (bs2) ((↑(vs.length)) - 1) (by omega)
       refine sS (sc (some 115) (F := ((b3, Obj.cells #[.slice ov0_c7_0_a cs.length ov0_c7_0_c, .slice none 0 0, .slice tv_a vs.length tv_c] 26 (0, 0)) :: (b1, Obj.cells #[.slice none 0 0, .slice none 0 0, .slice none 0 0] 26 (0, 0)) :: (tM ++ (oM0_c7_0 ++ (eM ++ F))))) (hct164 :) (.refl _) (fun rv162 I154 rm163 hle155 hp156 => ?_))
       obtain ⟨p_t159, n160, hv157, hm158, qp161⟩ := hp156
       rw [hv157, hm158]; clear hv157 hm158
       refine nm ?_
       show Seq _ _ _ _ _ _ ((115, .int .i64 (↑n160)) :: _) _ _
       refine sS (sbs 116 3 4 #[.int .i64 (0), .int .i64 (0), .int .i64 (0), .int .i64 (↑n160)] (fun b165 => ?_))
       refine pm (M' := ((p, Obj.cells #[.int .u64 (p_t159)] 65 (0, 0)) :: (b3, Obj.cells #[.slice ov0_c7_0_a cs.length ov0_c7_0_c, .slice none 0 0, .slice tv_a vs.length tv_c] 26 (0, 0)) :: (b1, Obj.cells #[.slice none 0 0, .slice none 0 0, .slice none 0 0] 26 (0, 0)) :: ([(b165, Obj.cells #[.int .i64 (0), .int .i64 (0), .int .i64 (0), .int .i64 (↑n160)] 3 (0, 0))] ++ (tM ++ (oM0_c7_0 ++ (eM ++ F)))))) ((List.Perm.swap _ _ _).trans (List.Perm.cons _ ((List.Perm.swap _ _ _).trans (List.Perm.cons _ (List.Perm.swap _ _ _))))) ?_
       have ho167 : Own 3 1 intCell (.slice (some ⟨b165, 0, none⟩) 4 4) ([(0 : Int), (0 : Int), (0 : Int), (↑n160 : Int)] : List Int) [(b165, Obj.cells #[.int .i64 (0), .int .i64 (0), .int .i64 (0), .int .i64 (↑n160)] 3 (0, 0))] := Own.lit rfl rfl
       refine sfz (A := ((p, Obj.cells #[.int .u64 (p_t159)] 65 (0, 0)) :: (b3, Obj.cells #[.slice ov0_c7_0_a cs.length ov0_c7_0_c, .slice none 0 0, .slice tv_a vs.length tv_c] 26 (0, 0)) :: (b1, Obj.cells #[.slice none 0 0, .slice none 0 0, .slice none 0 0] 26 (0, 0)) :: (tM ++ (oM0_c7_0 ++ (eM ++ F))))) 0 ho167 ((List.Perm.cons _ ((List.Perm.cons _ (List.perm_middle.symm)).trans (List.perm_middle.symm))).trans (List.perm_middle.symm)) (fun I168 hle169 fz170_f => ?_)
       obtain ⟨fz170_a, fz170_c, fz170_b, fz170_o, fz170_e, fz170_l, fz170_m, fz170_r⟩ := id fz170_f
       cases fz170_e
       have hct181 := One_ct I168 (p) (p_t159) _ _ fz170_f (by simp)
       refine sS (sc (some 117) (F := ((b3, Obj.cells #[.slice ov0_c7_0_a cs.length ov0_c7_0_c, .slice none 0 0, .slice tv_a vs.length tv_c] 26 (0, 0)) :: (b1, Obj.cells #[.slice none 0 0, .slice none 0 0, .slice none 0 0] 26 (0, 0)) :: (tM ++ (oM0_c7_0 ++ (eM ++ F))))) (hct181 :) (.refl _) (fun rv179 I171 rm180 hle172 hp173 => ?_))
       obtain ⟨p_t176, r177, hv174, hm175, qp178⟩ := hp173
       rw [hv174, hm175]; clear hv174 hm175
       refine nm ?_
       show Seq _ _ _ _ _ _ ((117, .int .i64 ((r177))) :: _) _ _
       refine sp 1 [(13, .int .i64 ((r177)))] ?_
       obtain ⟨a2, ha2, ha3⟩ : ∃ a2 : Nat, (r177) = ↑a2 ∧ a2 < 1 + n139 := by
        have hq := qp178
        simp only [List.mem_cons, List.not_mem_nil, or_false] at hq
        exact ⟨((r177)).toNat, by omega, by omega⟩
       refine seq_re 13 rfl (show (.int .i64 ((r177)) : Value) = .int .i64 (↑a2) from congrArg (Value.int .i64) ha2) ?_
       refine se ?_
       have hsame : j ≠ 0 → gAt cs j ≠ 0 → gAt cs j = gAt cs (j - 1) → a2 = aa := fun e1 e2 e3 => by
        exfalso
        have hh := h12_r
        have e4 : ((↑j : Int) - 1).toNat = j - 1 := by omega
        unfold gAt at e2 e3
        rw [e4] at hh
        simp only [cmp_eql, cmp_neq, Bool.or_eq_true, decide_eq_true_eq, Bool.not_eq_true', decide_eq_false_iff_not] at hh
        omega
       obtain ⟨eMs182, eR182, eo182, ep182, ek182⟩ := OwnEach.pull hea (a2) (by omega)
       obtain ⟨ev182_a, ev182_c, ev182_e, ev182_l⟩ := eo182.shape
       rw [ev182_e] at eo182
       refine rn_mem (M' := ((eMs182 ++ (eR182 ++ (p, Obj.cells #[.int .u64 (p_t176)] 65 (0, 0)) :: (b3, Obj.cells #[.slice ov0_c7_0_a cs.length ov0_c7_0_c, .slice none 0 0, .slice tv_a vs.length tv_c] 26 (0, 0)) :: (b1, Obj.cells #[.slice none 0 0, .slice none 0 0, .slice none 0 0] 26 (0, 0)) :: (tM ++ (oM0_c7_0 ++ F)))))) (fun w h => ?_) ?_
       ·have h2 := h.perm ((List.Perm.cons _ ((List.Perm.cons _ ((List.Perm.cons _ ((List.Perm.append_left _ (List.perm_append_comm_assoc _ _ _)).trans (List.perm_append_comm_assoc _ _ _))).trans (List.perm_middle.symm))).trans (List.perm_middle.symm))).trans (List.perm_middle.symm))
        have h3 := St.permL (A' := eMs182 ++ eR182) (A := eM) (by simpa only [List.append_assoc, List.append_nil] using ep182) (by simpa only [List.append_assoc] using h2)
        simpa only [List.append_assoc] using h3
       refine rn_mem (M' := ((p, Obj.cells #[.int .u64 (p_t176)] 65 (0, 0)) :: (b3, Obj.cells #[.slice ov0_c7_0_a cs.length ov0_c7_0_c, .slice none 0 0, .slice tv_a vs.length tv_c] 26 (0, 0)) :: (b1, Obj.cells #[.slice none 0 0, .slice none 0 0, .slice none 0 0] 26 (0, 0)) :: (eMs182 ++ (eR182 ++ (tM ++ (oM0_c7_0 ++ F)))))) (fun w h => h.perm (((List.Perm.append_left _ List.perm_middle).trans List.perm_middle).trans (List.Perm.cons _ (((List.Perm.append_left _ List.perm_middle).trans List.perm_middle).trans (List.Perm.cons _ ((List.Perm.append_left _ List.perm_middle).trans List.perm_middle)))))) ?_
       have hel := hpl.tlen a2
       refine rpm (M' := ((p, Obj.cells #[.int .u64 (p_t176)] 65 (0, 0)) :: (b3, Obj.cells #[.slice ov0_c7_0_a cs.length ov0_c7_0_c, .slice none 0 0, .slice tv_a vs.length tv_c] 26 (0, 0)) :: (b1, Obj.cells #[.slice none 0 0, .slice none 0 0, .slice none 0 0] 26 (0, 0)) :: (tM ++ (eMs182 ++ (eR182 ++ (oM0_c7_0 ++ F)))))) (List.Perm.cons _ (List.Perm.cons _ (List.Perm.cons _ ((List.Perm.append_left _ (List.perm_append_comm_assoc _ _ _)).trans (List.perm_append_comm_assoc _ _ _))))) ?_
       refine rd 11 [(0, true), (1, true), (2, true), (3, true), (4, true), (5, true), (6, true), (7, true), (8, true), (9, false), (10, false)] ((p, Obj.cells #[.int .u64 (p_t176)] 65 (0, 0)) :: (b3, Obj.cells #[.slice ov0_c7_0_a cs.length ov0_c7_0_c, .slice none 0 0, .slice tv_a vs.length tv_c] 26 (0, 0)) :: (b1, Obj.cells #[.slice none 0 0, .slice none 0 0, .slice none 0 0] 26 (0, 0)) :: tM) ((eMs182 ++ (eR182 ++ (oM0_c7_0 ++ F)))) ?_
       refine ox 1 [(118, .pointer (some ⟨b3, 2, none⟩))] ?_
       refine ofp_det (dlb 119 1 2 b3 (.slice tv_a vs.length tv_c)) ?_
       refine ox 2 [(121, .pointer (some ⟨b3, 2, none⟩)), (120, .int .i64 (↑a2))] ?_
       refine ofp_det (dlb 122 1 2 b3 (.slice tv_a vs.length tv_c)) ?_
       refine ox 1 [(123, .int .i64 (↑a2))] ?_
       obtain ⟨ob183, orr184⟩ := to_.row undef
       refine ofp_det (di 124 1 (a2) orr184.addr) ?_
       refine ofp_det (det_eq (dl 125 (orr184.get (a2) (by omega) 0 (by decide) _ _ (fun x hx => by simp [hx]))) ev182_e) ?_
       refine ox 1 [(126, .int .i64 (↑j))] ?_
       refine ofp_stp (sbs 127 3 1 #[.int .i64 (↑j)] (fun b185 => ?_))
       refine ofp_settle (S' := ((b185, Obj.cells #[.int .i64 (↑j)] 3 (0, 0)) :: (eMs182 ++ (eR182 ++ (oM0_c7_0 ++ F))))) ((List.Perm.swap _ _ _).trans (List.Perm.cons _ ((List.Perm.swap _ _ _).trans (List.Perm.cons _ ((List.Perm.swap _ _ _).trans (List.Perm.cons _ (List.perm_middle.symm))))))) ?_
       refine ofp_stp (stp_append (d := 128) (x := (.tmp 125)) (y := (.tmp 127)) (T := 22) (T' := 22) (E := 3) (E' := 3) (sz := 1) (bs := 8) (z := .int .i64 (0)) (cell := intCell) (xs := ts.getD (a2) []) (ys := [(↑j : Int)]) (Ms := eMs182) (ty := 22) (gd := none) (by kernel_rfl) rfl (by kernel_rfl) (by kernel_rfl) (by kernel_rfl) (by kernel_rfl) (by kernel_rfl) (by decide) (by kernel_rfl) rfl rfl (eo182) (((List.Perm.cons _ ((List.Perm.cons _ ((List.Perm.cons _ ((List.Perm.append_left _ (List.perm_middle.symm)).trans (List.perm_append_comm_assoc _ _ _))).trans (List.perm_middle.symm))).trans (List.perm_middle.symm))).trans (List.perm_middle.symm)).trans (List.Perm.append_left _ (List.Perm.cons _ (List.Perm.cons _ (List.Perm.cons _ List.perm_middle))))) (one_intCell _) (src_atS 3 rfl rfl) (by first | omega | (simp only [List.length_cons, List.length_nil, List.length_append, List.length_take, List.length_drop]; omega)) (fun v187 Ms187 ho187 => ?_))
       refine ofp_settle (S' := ((b185, Obj.cells #[.int .i64 (↑j)] 3 (0, 0)) :: (Ms187 ++ (eR182 ++ (oM0_c7_0 ++ F))))) (List.perm_middle.trans (List.Perm.cons _ (List.perm_middle.trans (List.Perm.cons _ (List.perm_middle.trans (List.Perm.cons _ (((List.Perm.append_left _ (List.perm_middle.symm)).trans (List.perm_append_comm_assoc _ _ _)).trans (List.Perm.append_left _ List.perm_middle)))))))) ?_
       obtain ⟨oa187, oc187, oe187, ol187⟩ := ho187.shape
       subst oe187
       show OFP _ _ _ _ _ _ ((128, .slice oa187 ((ts.getD (a2) []) ++ ([(↑j : Int)])).length oc187) :: _) _ _
       refine ofp_end ?_
       refine nm ?_
       refine pm (M' := ((p, Obj.cells #[.int .u64 (p_t176)] 65 (0, 0)) :: (b3, Obj.cells #[.slice ov0_c7_0_a cs.length ov0_c7_0_c, .slice none 0 0, .slice tv_a vs.length tv_c] 26 (0, 0)) :: (b1, Obj.cells #[.slice none 0 0, .slice none 0 0, .slice none 0 0] 26 (0, 0)) :: (b185, Obj.cells #[.int .i64 (↑j)] 3 (0, 0)) :: (tM ++ (Ms187 ++ (eR182 ++ (oM0_c7_0 ++ F)))))) (List.Perm.cons _ (List.Perm.cons _ (List.Perm.cons _ List.perm_middle))) ?_
       obtain ⟨ob188, orr189⟩ := to_.row undef
       refine sd (di 129 1 (a2) orr189.addr) ?_
       refine sS (stp_storeOwn (T := 22) (x := (.tmp 129)) (y := (.tmp 128)) (rc := fun i f => valCell ((vs).getD i undef) f) undef (a2) 0 ((.slice oa187 ((ts.getD (a2) []) ++ ([(↑j : Int)])).length oc187 : Value)) (ty := 0) (gd := none) (by kernel_rfl) rfl to_ orr189 (by omega) (by decide) rfl rfl (by kernel_rfl) rfl rfl (by intro f hf; match f, hf with | 0, _ => rfl) ((List.Perm.cons _ ((List.Perm.cons _ ((List.Perm.cons _ (List.perm_middle.symm)).trans (List.perm_middle.symm))).trans (List.perm_middle.symm))).trans (List.perm_middle.symm)) (fun Ms190 ho190 => ?_))
       refine pm (M' := ((p, Obj.cells #[.int .u64 (p_t176)] 65 (0, 0)) :: (b3, Obj.cells #[.slice ov0_c7_0_a cs.length ov0_c7_0_c, .slice none 0 0, .slice tv_a vs.length tv_c] 26 (0, 0)) :: (b1, Obj.cells #[.slice none 0 0, .slice none 0 0, .slice none 0 0] 26 (0, 0)) :: (b185, Obj.cells #[.int .i64 (↑j)] 3 (0, 0)) :: (Ms190 ++ (Ms187 ++ (eR182 ++ (oM0_c7_0 ++ F)))))) (List.perm_middle.trans (List.Perm.cons _ (List.perm_middle.trans (List.Perm.cons _ (List.perm_middle.trans (List.Perm.cons _ List.perm_middle)))))) ?_
       obtain ⟨eM190, hea190, ep190⟩ := ek182 _ _ _ ho187
       refine seq_mem (I' := I171) (M' := ((eM190 ++ (p, Obj.cells #[.int .u64 (p_t176)] 65 (0, 0)) :: (b3, Obj.cells #[.slice ov0_c7_0_a cs.length ov0_c7_0_c, .slice none 0 0, .slice tv_a vs.length tv_c] 26 (0, 0)) :: (b1, Obj.cells #[.slice none 0 0, .slice none 0 0, .slice none 0 0] 26 (0, 0)) :: (b185, Obj.cells #[.int .i64 (↑j)] 3 (0, 0)) :: (Ms190 ++ (oM0_c7_0 ++ F))))) (fun w h => ?_) ?_
       ·have h2 := h.perm (((List.Perm.cons _ ((List.Perm.cons _ ((List.Perm.cons _ ((List.Perm.cons _ (List.perm_append_comm_assoc _ _ _)).trans (List.perm_middle.symm))).trans (List.perm_middle.symm))).trans (List.perm_middle.symm))).trans (List.perm_middle.symm)).trans (List.Perm.append_left _ ((List.Perm.cons _ ((List.Perm.cons _ ((List.Perm.cons _ ((List.Perm.cons _ (List.perm_append_comm_assoc _ _ _)).trans (List.perm_middle.symm))).trans (List.perm_middle.symm))).trans (List.perm_middle.symm))).trans (List.perm_middle.symm))))
        simp only [← List.append_assoc] at h2
        have h3 := St.permL (A' := eM190) (A := Ms187 ++ eR182) (by simpa only [List.append_assoc, List.append_nil] using ep190.symm) (by simpa only [List.append_assoc] using h2)
        simpa only [List.append_assoc] using h3
       refine pm (M' := ((p, Obj.cells #[.int .u64 (p_t176)] 65 (0, 0)) :: (b3, Obj.cells #[.slice ov0_c7_0_a cs.length ov0_c7_0_c, .slice none 0 0, .slice tv_a vs.length tv_c] 26 (0, 0)) :: (b1, Obj.cells #[.slice none 0 0, .slice none 0 0, .slice none 0 0] 26 (0, 0)) :: (b185, Obj.cells #[.int .i64 (↑j)] 3 (0, 0)) :: (eM190 ++ (Ms190 ++ (oM0_c7_0 ++ F))))) (List.perm_middle.trans (List.Perm.cons _ (List.perm_middle.trans (List.Perm.cons _ (List.perm_middle.trans (List.Perm.cons _ List.perm_middle)))))) ?_
       refine ee ?_
       refine pst_normal_block ?_
       refine pst_next ?_
       refine rr ?_
       refine sp 1 [(80, .int .i64 (↑j))] ?_
       refine sd (da 81 (↑j) (1)) ?_
       refine sp 1 [(14, .int .i64 (↑j + 1))] ?_
       refine ee ?_
       refine pst_back (n11 - (j+1)) (by omega) ?_
       intro a w hS hD hW
       exact ⟨I171, j+1, a2, ts.set (a2) ((ts.getD (a2) []) ++ ([(↑j : Int)])), (.slice tv_a vs.length tv_c), vs.set (a2) ((.slice oa187 ((ts.getD (a2) []) ++ ([(↑j : Int)])).length oc187 : Value)), Ms190, eM190, p_t176, (Imm.le.trans (Imm.le.trans (Imm.le.trans hJ1 hle155) hle169) hle172), by omega, (hpl.put (by omega) (fun e1 e2 e3 => hsame e1 e2 e3)), ho190, hea190, hS.sub (.consE 13 rfl rfl (.consE 14 rfl rfl (.cons 0 rfl (.cons 6 rfl (.cons 7 rfl (.cons 8 rfl (.nil _))))))), hD, (hW.perm (((List.Perm.cons _ ((List.Perm.cons _ (List.Perm.swap _ _ _)).trans (List.Perm.swap _ _ _))).trans (List.Perm.swap _ _ _)).trans (List.Perm.cons _ (List.Perm.cons _ (List.Perm.cons _ (List.Perm.cons _ ((List.perm_append_comm_assoc _ _ _).trans (List.Perm.append_left _ (List.perm_append_comm_assoc _ _ _))))))))).sub (List.Sublist.cons _ (List.Sublist.refl _)), rfl⟩
      ·
       have h12_r := h12
       obtain ⟨h12_1, h12_2⟩ := or_f h12
       have h12_1 := eql_f h12_1
       obtain ⟨h12_2_1, h12_2_2⟩ := or_f h12_2
       have h12_2_1 := eql_f h12_2_1
       have h12_2_2 := not_f h12_2_2
       have h12_2_2 := eql_t h12_2_2
       refine rskip ?_
       refine pst_next ?_
       obtain ⟨eMs191, eR191, eo191, ep191, ek191⟩ := OwnEach.pull hea (aa) (by omega)
       obtain ⟨ev191_a, ev191_c, ev191_e, ev191_l⟩ := eo191.shape
       rw [ev191_e] at eo191
       refine rn_mem (M' := ((eMs191 ++ (eR191 ++ (p, Obj.cells #[.int .u64 (bs2)] 65 (0, 0)) :: (b3, Obj.cells #[.slice ov0_c7_0_a cs.length ov0_c7_0_c, .slice none 0 0, .slice tv_a vs.length tv_c] 26 (0, 0)) :: (b1, Obj.cells #[.slice none 0 0, .slice none 0 0, .slice none 0 0] 26 (0, 0)) :: (tM ++ (oM0_c7_0 ++ F)))))) (fun w h => ?_) ?_
       ·have h2 := h.perm ((List.Perm.cons _ ((List.Perm.cons _ ((List.Perm.cons _ ((List.Perm.append_left _ (List.perm_append_comm_assoc _ _ _)).trans (List.perm_append_comm_assoc _ _ _))).trans (List.perm_middle.symm))).trans (List.perm_middle.symm))).trans (List.perm_middle.symm))
        have h3 := St.permL (A' := eMs191 ++ eR191) (A := eM) (by simpa only [List.append_assoc, List.append_nil] using ep191) (by simpa only [List.append_assoc] using h2)
        simpa only [List.append_assoc] using h3
       refine rn_mem (M' := ((p, Obj.cells #[.int .u64 (bs2)] 65 (0, 0)) :: (b3, Obj.cells #[.slice ov0_c7_0_a cs.length ov0_c7_0_c, .slice none 0 0, .slice tv_a vs.length tv_c] 26 (0, 0)) :: (b1, Obj.cells #[.slice none 0 0, .slice none 0 0, .slice none 0 0] 26 (0, 0)) :: (eMs191 ++ (eR191 ++ (tM ++ (oM0_c7_0 ++ F)))))) (fun w h => h.perm (((List.Perm.append_left _ List.perm_middle).trans List.perm_middle).trans (List.Perm.cons _ (((List.Perm.append_left _ List.perm_middle).trans List.perm_middle).trans (List.Perm.cons _ ((List.Perm.append_left _ List.perm_middle).trans List.perm_middle)))))) ?_
       have hel := hpl.tlen aa
       refine rpm (M' := ((p, Obj.cells #[.int .u64 (bs2)] 65 (0, 0)) :: (b3, Obj.cells #[.slice ov0_c7_0_a cs.length ov0_c7_0_c, .slice none 0 0, .slice tv_a vs.length tv_c] 26 (0, 0)) :: (b1, Obj.cells #[.slice none 0 0, .slice none 0 0, .slice none 0 0] 26 (0, 0)) :: (tM ++ (eMs191 ++ (eR191 ++ (oM0_c7_0 ++ F)))))) (List.Perm.cons _ (List.Perm.cons _ (List.Perm.cons _ ((List.Perm.append_left _ (List.perm_append_comm_assoc _ _ _)).trans (List.perm_append_comm_assoc _ _ _))))) ?_
       refine rd 11 [(0, true), (1, true), (2, true), (3, true), (4, true), (5, true), (6, true), (7, true), (8, true), (9, false), (10, false)] ((p, Obj.cells #[.int .u64 (bs2)] 65 (0, 0)) :: (b3, Obj.cells #[.slice ov0_c7_0_a cs.length ov0_c7_0_c, .slice none 0 0, .slice tv_a vs.length tv_c] 26 (0, 0)) :: (b1, Obj.cells #[.slice none 0 0, .slice none 0 0, .slice none 0 0] 26 (0, 0)) :: tM) ((eMs191 ++ (eR191 ++ (oM0_c7_0 ++ F)))) ?_
       refine ox 1 [(118, .pointer (some ⟨b3, 2, none⟩))] ?_
       refine ofp_det (dlb 119 1 2 b3 (.slice tv_a vs.length tv_c)) ?_
       refine ox 2 [(121, .pointer (some ⟨b3, 2, none⟩)), (120, .int .i64 (↑aa))] ?_
       refine ofp_det (dlb 122 1 2 b3 (.slice tv_a vs.length tv_c)) ?_
       refine ox 1 [(123, .int .i64 (↑aa))] ?_
       obtain ⟨ob192, orr193⟩ := to_.row undef
       refine ofp_det (di 124 1 (aa) orr193.addr) ?_
       refine ofp_det (det_eq (dl 125 (orr193.get (aa) (by omega) 0 (by decide) _ _ (fun x hx => by simp [hx]))) ev191_e) ?_
       refine ox 1 [(126, .int .i64 (↑j))] ?_
       refine ofp_stp (sbs 127 3 1 #[.int .i64 (↑j)] (fun b194 => ?_))
       refine ofp_settle (S' := ((b194, Obj.cells #[.int .i64 (↑j)] 3 (0, 0)) :: (eMs191 ++ (eR191 ++ (oM0_c7_0 ++ F))))) ((List.Perm.swap _ _ _).trans (List.Perm.cons _ ((List.Perm.swap _ _ _).trans (List.Perm.cons _ ((List.Perm.swap _ _ _).trans (List.Perm.cons _ (List.perm_middle.symm))))))) ?_
       refine ofp_stp (stp_append (d := 128) (x := (.tmp 125)) (y := (.tmp 127)) (T := 22) (T' := 22) (E := 3) (E' := 3) (sz := 1) (bs := 8) (z := .int .i64 (0)) (cell := intCell) (xs := ts.getD (aa) []) (ys := [(↑j : Int)]) (Ms := eMs191) (ty := 22) (gd := none) (by kernel_rfl) rfl (by kernel_rfl) (by kernel_rfl) (by kernel_rfl) (by kernel_rfl) (by kernel_rfl) (by decide) (by kernel_rfl) rfl rfl (eo191) (((List.Perm.cons _ ((List.Perm.cons _ ((List.Perm.cons _ ((List.Perm.append_left _ (List.perm_middle.symm)).trans (List.perm_append_comm_assoc _ _ _))).trans (List.perm_middle.symm))).trans (List.perm_middle.symm))).trans (List.perm_middle.symm)).trans (List.Perm.append_left _ (List.Perm.cons _ (List.Perm.cons _ (List.Perm.cons _ List.perm_middle))))) (one_intCell _) (src_atS 3 rfl rfl) (by first | omega | (simp only [List.length_cons, List.length_nil, List.length_append, List.length_take, List.length_drop]; omega)) (fun v196 Ms196 ho196 => ?_))
       refine ofp_settle (S' := ((b194, Obj.cells #[.int .i64 (↑j)] 3 (0, 0)) :: (Ms196 ++ (eR191 ++ (oM0_c7_0 ++ F))))) (List.perm_middle.trans (List.Perm.cons _ (List.perm_middle.trans (List.Perm.cons _ (List.perm_middle.trans (List.Perm.cons _ (((List.Perm.append_left _ (List.perm_middle.symm)).trans (List.perm_append_comm_assoc _ _ _)).trans (List.Perm.append_left _ List.perm_middle)))))))) ?_
       obtain ⟨oa196, oc196, oe196, ol196⟩ := ho196.shape
       subst oe196
       show OFP _ _ _ _ _ _ ((128, .slice oa196 ((ts.getD (aa) []) ++ ([(↑j : Int)])).length oc196) :: _) _ _
       refine ofp_end ?_
       refine nm ?_
       refine pm (M' := ((p, Obj.cells #[.int .u64 (bs2)] 65 (0, 0)) :: (b3, Obj.cells #[.slice ov0_c7_0_a cs.length ov0_c7_0_c, .slice none 0 0, .slice tv_a vs.length tv_c] 26 (0, 0)) :: (b1, Obj.cells #[.slice none 0 0, .slice none 0 0, .slice none 0 0] 26 (0, 0)) :: (b194, Obj.cells #[.int .i64 (↑j)] 3 (0, 0)) :: (tM ++ (Ms196 ++ (eR191 ++ (oM0_c7_0 ++ F)))))) (List.Perm.cons _ (List.Perm.cons _ (List.Perm.cons _ List.perm_middle))) ?_
       obtain ⟨ob197, orr198⟩ := to_.row undef
       refine sd (di 129 1 (aa) orr198.addr) ?_
       refine sS (stp_storeOwn (T := 22) (x := (.tmp 129)) (y := (.tmp 128)) (rc := fun i f => valCell ((vs).getD i undef) f) undef (aa) 0 ((.slice oa196 ((ts.getD (aa) []) ++ ([(↑j : Int)])).length oc196 : Value)) (ty := 0) (gd := none) (by kernel_rfl) rfl to_ orr198 (by omega) (by decide) rfl rfl (by kernel_rfl) rfl rfl (by intro f hf; match f, hf with | 0, _ => rfl) ((List.Perm.cons _ ((List.Perm.cons _ ((List.Perm.cons _ (List.perm_middle.symm)).trans (List.perm_middle.symm))).trans (List.perm_middle.symm))).trans (List.perm_middle.symm)) (fun Ms199 ho199 => ?_))
       refine pm (M' := ((p, Obj.cells #[.int .u64 (bs2)] 65 (0, 0)) :: (b3, Obj.cells #[.slice ov0_c7_0_a cs.length ov0_c7_0_c, .slice none 0 0, .slice tv_a vs.length tv_c] 26 (0, 0)) :: (b1, Obj.cells #[.slice none 0 0, .slice none 0 0, .slice none 0 0] 26 (0, 0)) :: (b194, Obj.cells #[.int .i64 (↑j)] 3 (0, 0)) :: (Ms199 ++ (Ms196 ++ (eR191 ++ (oM0_c7_0 ++ F)))))) (List.perm_middle.trans (List.Perm.cons _ (List.perm_middle.trans (List.Perm.cons _ (List.perm_middle.trans (List.Perm.cons _ List.perm_middle)))))) ?_
       obtain ⟨eM199, hea199, ep199⟩ := ek191 _ _ _ ho196
       refine seq_mem (I' := J1) (M' := ((eM199 ++ (p, Obj.cells #[.int .u64 (bs2)] 65 (0, 0)) :: (b3, Obj.cells #[.slice ov0_c7_0_a cs.length ov0_c7_0_c, .slice none 0 0, .slice tv_a vs.length tv_c] 26 (0, 0)) :: (b1, Obj.cells #[.slice none 0 0, .slice none 0 0, .slice none 0 0] 26 (0, 0)) :: (b194, Obj.cells #[.int .i64 (↑j)] 3 (0, 0)) :: (Ms199 ++ (oM0_c7_0 ++ F))))) (fun w h => ?_) ?_
       ·have h2 := h.perm (((List.Perm.cons _ ((List.Perm.cons _ ((List.Perm.cons _ ((List.Perm.cons _ (List.perm_append_comm_assoc _ _ _)).trans (List.perm_middle.symm))).trans (List.perm_middle.symm))).trans (List.perm_middle.symm))).trans (List.perm_middle.symm)).trans (List.Perm.append_left _ ((List.Perm.cons _ ((List.Perm.cons _ ((List.Perm.cons _ ((List.Perm.cons _ (List.perm_append_comm_assoc _ _ _)).trans (List.perm_middle.symm))).trans (List.perm_middle.symm))).trans (List.perm_middle.symm))).trans (List.perm_middle.symm))))
        simp only [← List.append_assoc] at h2
        have h3 := St.permL (A' := eM199) (A := Ms196 ++ eR191) (by simpa only [List.append_assoc, List.append_nil] using ep199.symm) (by simpa only [List.append_assoc] using h2)
        simpa only [List.append_assoc] using h3
       refine pm (M' := ((p, Obj.cells #[.int .u64 (bs2)] 65 (0, 0)) :: (b3, Obj.cells #[.slice ov0_c7_0_a cs.length ov0_c7_0_c, .slice none 0 0, .slice tv_a vs.length tv_c] 26 (0, 0)) :: (b1, Obj.cells #[.slice none 0 0, .slice none 0 0, .slice none 0 0] 26 (0, 0)) :: (b194, Obj.cells #[.int .i64 (↑j)] 3 (0, 0)) :: (eM199 ++ (Ms199 ++ (oM0_c7_0 ++ F))))) (List.perm_middle.trans (List.Perm.cons _ (List.perm_middle.trans (List.Perm.cons _ (List.perm_middle.trans (List.Perm.cons _ List.perm_middle)))))) ?_
       refine ee ?_
       refine pst_normal_block ?_
       refine pst_next ?_
       refine rr ?_
       refine sp 1 [(80, .int .i64 (↑j))] ?_
       refine sd (da 81 (↑j) (1)) ?_
       refine sp 1 [(14, .int .i64 (↑j + 1))] ?_
       refine ee ?_
       refine pst_back (n11 - (j+1)) (by omega) ?_
       intro a w hS hD hW
       exact ⟨J1, j+1, aa, ts.set (aa) ((ts.getD (aa) []) ++ ([(↑j : Int)])), (.slice tv_a vs.length tv_c), vs.set (aa) ((.slice oa196 ((ts.getD (aa) []) ++ ([(↑j : Int)])).length oc196 : Value)), Ms199, eM199, bs2, hJ1, by omega, (hpl.put (by omega) (fun _ _ _ => rfl)), ho199, hea199, hS.sub (.consE 13 rfl rfl (.consE 14 rfl rfl (.cons 0 rfl (.cons 6 rfl (.cons 7 rfl (.cons 8 rfl (.nil _))))))), hD, (hW.perm (((List.Perm.cons _ ((List.Perm.cons _ (List.Perm.swap _ _ _)).trans (List.Perm.swap _ _ _))).trans (List.Perm.swap _ _ _)).trans (List.Perm.cons _ (List.Perm.cons _ (List.Perm.cons _ (List.Perm.cons _ ((List.perm_append_comm_assoc _ _ _).trans (List.Perm.append_left _ (List.perm_append_comm_assoc _ _ _))))))))).sub (List.Sublist.cons _ (List.Sublist.refl _)), rfl⟩
    ·
     have h9_r := h9
     have h9 := lss_f h9
     refine rexit 2 ?_
     refine (pst_exit_pass (pst_exit_pass (pst_exit_block ?_)))
     refine pst_next ?_
     refine rq ?_
     refine rq ?_
     have hjn : j = cs.length := by omega
     have hpl2 : Placed cs (1 + n139) cs.length aa ts := hjn ▸ hpl
     have hok := hpl2.okAll
     have htl := hpl2.tl
     refine rn_freezeEach (B := ((p, Obj.cells #[.int .u64 (bs2)] 65 (0, 0)) :: (b3, Obj.cells #[.slice ov0_c7_0_a cs.length ov0_c7_0_c, .slice none 0 0, .slice tv_a vs.length tv_c] 26 (0, 0)) :: (b1, Obj.cells #[.slice none 0 0, .slice none 0 0, .slice none 0 0] 26 (0, 0)) :: (tM ++ (oM0_c7_0 ++ F)))) hea (by intro xs hx; have := htl xs hx; omega) ((List.Perm.cons _ ((List.Perm.cons _ ((List.Perm.cons _ ((List.Perm.append_left _ (List.perm_append_comm_assoc _ _ _)).trans (List.perm_append_comm_assoc _ _ _))).trans (List.perm_middle.symm))).trans (List.perm_middle.symm))).trans (List.perm_middle.symm)) (List.Perm.refl _) (fun I200 hle201 orw202 => ?_)
     have orw202_len := orw202.1
     try simp only [List.length_set, List.length_append, List.length_cons, List.length_nil, List.length_take] at orw202_len
     refine rr ?_
     refine sp 1 [(15, .int .i64 (0))] ?_
     refine se ?_
     refine rb 4 ?_
     refine rl (fun mz a w => ∃ J2 : Imm, ∃ t : Nat, ∃ rm : List Int, ∃ bs3 : Int, ∃ ov2_c7_1 : Value, ∃ oM2_c7_1 : Seg, (I200.le J2) ∧ (t ≤ 1 + n139) ∧ (Sh.Roomy cs ts t rm) ∧ (Own 3 1 intCell ov2_c7_1 (rm) oM2_c7_1) ∧ Slots 179 [(15, .int .i64 ↑t), (0, .pointer (some ⟨p, 0, none⟩)), (6, .pointer (some ⟨b1, 0, none⟩)), (7, .pointer (some ⟨b3, 0, none⟩))] a ∧ a.defers = [] ∧ St J2 ((p, Obj.cells #[.int .u64 (bs3)] 65 (0, 0)) :: (b3, Obj.cells #[.slice ov0_c7_0_a cs.length ov0_c7_0_c, ov2_c7_1, .slice tv_a vs.length tv_c] 26 (0, 0)) :: (b1, Obj.cells #[.slice none 0 0, .slice none 0 0, .slice none 0 0] 26 (0, 0)) :: (tM ++ (oM0_c7_0 ++ (oM2_c7_1 ++ F)))) w ∧ mz = 1 + n139 - t) ?_ ?_
     ·intro a w hS hD hW
      exact ⟨_, I200, 0, [], bs2, (.slice none 0 0), [], Imm.le.refl _, Nat.zero_le _, Sh.Roomy.nil _ _, (Own.nil _ _ _), hS.sub (.cons 15 rfl (.cons 0 rfl (.cons 6 rfl (.cons 7 rfl (.nil _))))), hD, hW, rfl⟩
     ·rintro mz a w ⟨J2, t, rm, bs3, ov2_c7_1, oM2_c7_1, hJ2, ht, hro, oh2_c7_1, hS, hD, hW, rfl⟩
      refine run_at hS hD hW ?_
      clear hS hD hW a w
      replace orw202 := orw202.mono hJ2
      obtain ⟨ov2_c7_1_a, ov2_c7_1_c, ov2_c7_1_e, ov2_c7_1_l⟩ := oh2_c7_1.shape; subst ov2_c7_1_e
      have hrl := hro.len
      refine rq ?_
      refine rqr ?_
      refine sp 2 [(131, .pointer (some ⟨b3, 2, none⟩)), (130, .int .i64 (↑t))] ?_
      refine sd (dlb 132 1 2 b3 (.slice tv_a vs.length tv_c)) ?_
      refine sp 2 [(134, .bool (cmp .lss (↑t) (↑(vs.length))))] ?_
      refine se ?_
      refine rc 134 rfl (fun h13 => ?_) (fun h13 => ?_)
      ·
       have h13_r := h13
       have h13 := lss_t h13
       refine rskip ?_
       refine pst_next ?_
       refine rq ?_
       refine rb 5 ?_
       refine rqr ?_
       refine sp 1 [(137, .pointer (some ⟨p, 0, none⟩))] ?_
       have hct213 := Up_ct J2 (p) (bs3) (5) (by omega)
       refine sS (sc (some 138) (F := ((b3, Obj.cells #[.slice ov0_c7_0_a cs.length ov0_c7_0_c, .slice ov2_c7_1_a rm.length ov2_c7_1_c, .slice tv_a vs.length tv_c] 26 (0, 0)) :: (b1, Obj.cells #[.slice none 0 0, .slice none 0 0, .slice none 0 0] 26 (0, 0)) :: (tM ++ (oM0_c7_0 ++ (oM2_c7_1 ++ F))))) (hct213 :) (.refl _) (fun rv211 I203 rm212 hle204 hp205 => ?_))
       obtain ⟨p_t208, n209, hv206, hm207, qp210⟩ := hp205
       rw [hv206, hm207]; clear hv206 hm207
       replace orw202 := orw202.mono hle204
       refine nm ?_
       show Seq _ _ _ _ _ _ ((138, .int .i64 (↑n209)) :: _) _ _
       refine sp 1 [(16, .int .i64 (↑n209))] ?_
       refine se ?_
       refine rq ?_
       refine rq ?_
       have htk := htl _ (getD_mem (d := []) (xs := ts) (k := t) (by omega))
       have hto := hok.at t (by omega)
       refine rr ?_
       refine sp 1 [(17, .int .i64 (0))] ?_
       refine se ?_
       refine rb 6 ?_
       refine rl (fun mz a w => ∃ i : Nat, ∃ l2 : Int, (i ≤ (ts.getD (t) []).length) ∧ (lenOf cs ((ts.getD (t) []).take i) ≤ l2) ∧ (0 ≤ l2 ∧ l2 ≤ 5 + 3 * i) ∧ Slots 179 [(16, .int .i64 l2), (17, .int .i64 ↑i), (0, .pointer (some ⟨p, 0, none⟩)), (6, .pointer (some ⟨b1, 0, none⟩)), (7, .pointer (some ⟨b3, 0, none⟩)), (15, .int .i64 (↑t))] a ∧ a.defers = [] ∧ St I203 ((p, Obj.cells #[.int .u64 (p_t208)] 65 (0, 0)) :: (b3, Obj.cells #[.slice ov0_c7_0_a cs.length ov0_c7_0_c, .slice ov2_c7_1_a rm.length ov2_c7_1_c, .slice tv_a vs.length tv_c] 26 (0, 0)) :: (b1, Obj.cells #[.slice none 0 0, .slice none 0 0, .slice none 0 0] 26 (0, 0)) :: (tM ++ (oM0_c7_0 ++ (oM2_c7_1 ++ F)))) w ∧ mz = (ts.getD (t) []).length - i) ?_ ?_
       ·intro a w hS hD hW
        exact ⟨_, 0, ↑n209, Nat.zero_le _, (by rw [List.take_zero, lenOf_nil]; omega), (by omega), hS.sub (.cons 16 rfl (.cons 17 rfl (.cons 0 rfl (.cons 6 rfl (.cons 7 rfl (.cons 15 rfl (.nil _))))))), hD, hW, rfl⟩
       ·rintro mz a w ⟨i, l2, hi, hl1, hl2, hS, hD, hW, rfl⟩
        refine run_at hS hD hW ?_
        clear hS hD hW a w
        refine rq ?_
        refine rqr ?_
        refine sp 2 [(140, .pointer (some ⟨b3, 2, none⟩)), (139, .int .i64 (↑i))] ?_
        refine sd (dlb 141 1 2 b3 (.slice tv_a vs.length tv_c)) ?_
        refine sp 1 [(142, .int .i64 (↑t))] ?_
        obtain ⟨ob214, orr215⟩ := to_.row undef
        refine sd (di 143 1 (t) orr215.addr) ?_
        have r216_f := orw202.2 (t) (by omega)
        obtain ⟨r216_a, r216_c, r216_b, r216_o, r216_e, r216_l, r216_m, r216_r⟩ := id r216_f
        rw [r216_e] at r216_f
        refine sd (det_eq (dl 144 (orr215.get (t) (by omega) 0 (by decide) _ _ (fun x hx => by simp [hx]))) r216_e) ?_
        refine sp 2 [(146, .bool (cmp .lss (↑i) (↑((ts.getD (t) []).length))))] ?_
        refine se ?_
        refine rc 146 rfl (fun h14 => ?_) (fun h14 => ?_)
        ·
         have h14_r := h14
         have h14 := lss_t h14
         refine rskip ?_
         refine pst_next ?_
         refine rq ?_
         refine rb 7 ?_
         have hc1 := hto.at i (by omega)
         have hc2 := carAt_len hci ((ts.getD (t) []).getD i 0)
         have hc3 : (carAt cs ((ts.getD (t) []).getD i 0)).len = (cs.getD ((ts.getD (t) []).getD (i) 0).toNat noCar).len := rfl
         refine rd0 14 ?_
         refine ox 2 [(150, .pointer (some ⟨b3, 0, none⟩)), (149, .int .i64 (l2))] ?_
         refine ofp_det (dlb 151 1 0 b3 (.slice ov0_c7_0_a cs.length ov0_c7_0_c)) ?_
         refine ox 1 [(152, .pointer (some ⟨b3, 2, none⟩))] ?_
         refine ofp_det (dlb 153 1 2 b3 (.slice tv_a vs.length tv_c)) ?_
         refine ox 1 [(154, .int .i64 (↑t))] ?_
         obtain ⟨ob217, orr218⟩ := to_.row undef
         refine ofp_det (di 155 1 (t) orr218.addr) ?_
         have r219_f := orw202.2 (t) (by omega)
         obtain ⟨r219_a, r219_c, r219_b, r219_o, r219_e, r219_l, r219_m, r219_r⟩ := id r219_f
         rw [r219_e] at r219_f
         refine ofp_det (det_eq (dl 156 (orr218.get (t) (by omega) 0 (by decide) _ _ (fun x hx => by simp [hx]))) r219_e) ?_
         refine ox 1 [(157, .int .i64 (↑i))] ?_
         refine ofp_det (di 158 1 (i) r219_r.addr) ?_
         refine ofp_det (dl 159 (ints_get r219_r (i) (by omega))) ?_
         obtain ⟨ob220, orr221⟩ := oh0_c7_0.row noCar
         refine ofp_det (diI 160 6 ((ts.getD (t) []).getD (i) 0) orr221.addr) ?_
         refine ox 1 [(161, .pointer (some ⟨ob220, 0 + (((ts.getD (t) []).getD (i) 0 : Int).toNat) * 6, none⟩))] ?_
         refine ofp_det (dl 162 (orr221.get (((ts.getD (t) []).getD (i) 0 : Int).toNat) (by omega) 0 (by decide) _ _ (fun x hx => by simp [hx]))) ?_
         refine ofp_end0 ?_
         refine sd (da 163 (l2) ((cs.getD (((ts.getD (t) []).getD (i) 0 : Int).toNat) noCar).len)) ?_
         refine sp 1 [(16, .int .i64 (l2 + ((cs.getD (((ts.getD (t) []).getD (i) 0 : Int).toNat) noCar).len)))] ?_
         refine ee ?_
         refine pst_normal_block ?_
         refine pst_next ?_
         refine rr ?_
         refine sp 1 [(147, .int .i64 (↑i))] ?_
         refine sd (da 148 (↑i) (1)) ?_
         refine sp 1 [(17, .int .i64 (↑i + 1))] ?_
         refine ee ?_
         refine pst_back ((ts.getD (t) []).length - (i+1)) (by omega) ?_
         intro a w hS hD hW
         exact ⟨i+1, l2 + ((cs.getD (((ts.getD (t) []).getD (i) 0 : Int).toNat) noCar).len), by omega, (by rw [lenOf_succ (by omega)]; omega), (by omega), hS.sub (.consE 16 rfl rfl (.consE 17 rfl rfl (.cons 0 rfl (.cons 6 rfl (.cons 7 rfl (.cons 15 rfl (.nil _))))))), hD, hW, rfl⟩
        ·
         have h14_r := h14
         have h14 := lss_f h14
         refine rexit 6 ?_
         refine (pst_exit_pass (pst_exit_pass (pst_exit_block ?_)))
         refine pst_next ?_
         refine rq ?_
         refine rqr ?_
         refine sp 2 [(165, .bool (cmp .eql (↑t) (0)))] ?_
         refine se ?_
         refine rc 165 rfl (fun h15 => ?_) (fun h15 => ?_)
         ·
          have h15_r := h15
          have h15 := eql_t h15
          refine rr ?_
          refine sp 2 [(167, .pointer (some ⟨p, 0, none⟩)), (166, .int .i64 (l2))] ?_
          refine sS (sbs 168 3 2 #[.int .i64 (0), .int .i64 (9)] (fun b222 => ?_))
          refine pm (M' := ((p, Obj.cells #[.int .u64 (p_t208)] 65 (0, 0)) :: (b3, Obj.cells #[.slice ov0_c7_0_a cs.length ov0_c7_0_c, .slice ov2_c7_1_a rm.length ov2_c7_1_c, .slice tv_a vs.length tv_c] 26 (0, 0)) :: (b1, Obj.cells #[.slice none 0 0, .slice none 0 0, .slice none 0 0] 26 (0, 0)) :: ([(b222, Obj.cells #[.int .i64 (0), .int .i64 (9)] 3 (0, 0))] ++ (tM ++ (oM0_c7_0 ++ (oM2_c7_1 ++ F)))))) ((List.Perm.swap _ _ _).trans (List.Perm.cons _ ((List.Perm.swap _ _ _).trans (List.Perm.cons _ (List.Perm.swap _ _ _))))) ?_
          have ho224 : Own 3 1 intCell (.slice (some ⟨b222, 0, none⟩) 2 2) ([(0 : Int), (9 : Int)] : List Int) [(b222, Obj.cells #[.int .i64 (0), .int .i64 (9)] 3 (0, 0))] := Own.lit rfl rfl
          refine sfz (A := ((p, Obj.cells #[.int .u64 (p_t208)] 65 (0, 0)) :: (b3, Obj.cells #[.slice ov0_c7_0_a cs.length ov0_c7_0_c, .slice ov2_c7_1_a rm.length ov2_c7_1_c, .slice tv_a vs.length tv_c] 26 (0, 0)) :: (b1, Obj.cells #[.slice none 0 0, .slice none 0 0, .slice none 0 0] 26 (0, 0)) :: (tM ++ (oM0_c7_0 ++ (oM2_c7_1 ++ F))))) 0 ho224 ((List.Perm.cons _ ((List.Perm.cons _ (List.perm_middle.symm)).trans (List.perm_middle.symm))).trans (List.perm_middle.symm)) (fun I225 hle226 fz227_f => ?_)
          replace orw202 := orw202.mono hle226
          obtain ⟨fz227_a, fz227_c, fz227_b, fz227_o, fz227_e, fz227_l, fz227_m, fz227_r⟩ := id fz227_f
          cases fz227_e
          have hct238 := One_ct I225 (p) (p_t208) _ _ fz227_f (by simp)
          refine sS (sc (some 169) (F := ((b3, Obj.cells #[.slice ov0_c7_0_a cs.length ov0_c7_0_c, .slice ov2_c7_1_a rm.length ov2_c7_1_c, .slice tv_a vs.length tv_c] 26 (0, 0)) :: (b1, Obj.cells #[.slice none 0 0, .slice none 0 0, .slice none 0 0] 26 (0, 0)) :: (tM ++ (oM0_c7_0 ++ (oM2_c7_1 ++ F))))) (hct238 :) (.refl _) (fun rv236 I228 rm237 hle229 hp230 => ?_))
          obtain ⟨p_t233, r234, hv231, hm232, qp235⟩ := hp230
          rw [hv231, hm232]; clear hv231 hm232
          replace orw202 := orw202.mono hle229
          refine nm ?_
          show Seq _ _ _ _ _ _ ((169, .int .i64 ((r234))) :: _) _ _
          have hl9 : 0 ≤ (r234) ∧ (r234) ≤ 9 := by
           have hq := qp235
           simp only [List.mem_cons, List.not_mem_nil, or_false] at hq
           omega
          refine sd (da 170 (l2) ((r234))) ?_
          refine sp 1 [(16, .int .i64 (l2 + ((r234))))] ?_
          refine se ?_
          have hli : lenOf cs (ts.getD (t) []) ≤ l2 := by have hq := hl1; rw [take_done (by omega)] at hq; exact hq
          have hl15 := lenOf_3 hci (ts.getD (t) [])
          refine rr ?_
          refine sp 1 [(171, .pointer (some ⟨b3, 1, none⟩))] ?_
          refine sd (dlb 172 1 1 b3 (.slice ov2_c7_1_a rm.length ov2_c7_1_c)) ?_
          refine sp 2 [(174, .int .i64 ((if (l2 + ((r234)) : Int) < (20 : Int) then l2 + ((r234)) else 20)))] ?_
          refine sS (sbs 175 3 1 #[.int .i64 ((if (l2 + ((r234)) : Int) < (20 : Int) then l2 + ((r234)) else 20))] (fun b239 => ?_))
          refine sS (stp_append (d := 176) (x := (.tmp 172)) (y := (.tmp 175)) (T := 22) (T' := 22) (E := 3) (E' := 3) (sz := 1) (bs := 8) (z := .int .i64 (0)) (cell := intCell) (xs := rm) (ys := [((if (l2 + ((r234)) : Int) < (20 : Int) then l2 + ((r234)) else 20) : Int)]) (Ms := oM2_c7_1) (ty := 22) (gd := none) (by kernel_rfl) rfl (by kernel_rfl) (by kernel_rfl) (by kernel_rfl) (by kernel_rfl) (by kernel_rfl) (by decide) (by kernel_rfl) rfl rfl (oh2_c7_1) ((List.Perm.cons _ ((List.Perm.cons _ ((List.Perm.cons _ ((List.Perm.cons _ ((List.Perm.append_left _ (List.perm_append_comm_assoc _ _ _)).trans (List.perm_append_comm_assoc _ _ _))).trans (List.perm_middle.symm))).trans (List.perm_middle.symm))).trans (List.perm_middle.symm))).trans (List.perm_middle.symm)) (one_intCell _) (src_atS 0 rfl rfl) (by first | omega | (simp only [List.length_cons, List.length_nil, List.length_append, List.length_take, List.length_drop]; omega)) (fun v241 Ms241 ho241 => ?_))
          refine seq_mem (M' := ((p, Obj.cells #[.int .u64 (p_t233)] 65 (0, 0)) :: (b3, Obj.cells #[.slice ov0_c7_0_a cs.length ov0_c7_0_c, .slice ov2_c7_1_a rm.length ov2_c7_1_c, .slice tv_a vs.length tv_c] 26 (0, 0)) :: (b1, Obj.cells #[.slice none 0 0, .slice none 0 0, .slice none 0 0] 26 (0, 0)) :: (Ms241 ++ (tM ++ (oM0_c7_0 ++ F))))) (fun w h => (h.perm (List.perm_middle.trans (List.Perm.cons _ (List.perm_middle.trans (List.Perm.cons _ (List.perm_middle.trans (List.Perm.cons _ List.perm_middle))))))).sub (List.Sublist.cons _ (List.Sublist.refl _))) ?_
          obtain ⟨oa241, oc241, oe241, ol241⟩ := ho241.shape
          subst oe241
          show Seq _ _ _ _ _ _ ((176, .slice oa241 (rm ++ ([((if (l2 + ((r234)) : Int) < (20 : Int) then l2 + ((r234)) else 20) : Int)])).length oc241) :: _) _ _
          refine sp 1 [(177, .pointer (some ⟨b3, 1, none⟩))] ?_
          refine sS (ss 1 1 b3 [.slice oa241 (rm ++ ([((if (l2 + ((r234)) : Int) < (20 : Int) then l2 + ((r234)) else 20) : Int)])).length oc241] [.slice ov0_c7_0_a cs.length ov0_c7_0_c, .slice oa241 (rm ++ ([((if (l2 + ((r234)) : Int) < (20 : Int) then l2 + ((r234)) else 20) : Int)])).length oc241, .slice tv_a vs.length tv_c] (_ :: _ :: _ :: _) (cs := [_, _, _]) rfl rfl ?_)
          refine ee ?_
          refine pst_normal_block ?_
          refine pst_next ?_
          refine rr ?_
          refine sp 1 [(135, .int .i64 (↑t))] ?_
          refine sd (da 136 (↑t) (1)) ?_
          refine sp 1 [(15, .int .i64 (↑t + 1))] ?_
          refine ee ?_
          refine pst_back (1 + n139 - (t+1)) (by omega) ?_
          intro a w hS hD hW
          exact ⟨I228, t+1, rm ++ ([((if (l2 + ((r234)) : Int) < (20 : Int) then l2 + ((r234)) else 20) : Int)]), p_t233, .slice oa241 (rm ++ ([((if (l2 + ((r234)) : Int) < (20 : Int) then l2 + ((r234)) else 20) : Int)])).length oc241, Ms241, (Imm.le.trans (Imm.le.trans (Imm.le.trans hJ2 hle204) hle226) hle229), by omega, hro.snoc (by split <;> omega) (by split <;> omega), ho241, hS.sub (.consE 15 rfl rfl (.cons 0 rfl (.cons 6 rfl (.cons 7 rfl (.nil _))))), hD, hW.perm (List.Perm.cons _ (List.Perm.cons _ (List.Perm.cons _ ((List.perm_append_comm_assoc _ _ _).trans (List.Perm.append_left _ (List.perm_append_comm_assoc _ _ _)))))), rfl⟩
         ·
          have h15_r := h15
          have h15 := eql_f h15
          refine rskip ?_
          refine pst_next ?_
          have hli : lenOf cs (ts.getD (t) []) ≤ l2 := by have hq := hl1; rw [take_done (by omega)] at hq; exact hq
          have hl15 := lenOf_3 hci (ts.getD (t) [])
          refine rr ?_
          refine sp 1 [(171, .pointer (some ⟨b3, 1, none⟩))] ?_
          refine sd (dlb 172 1 1 b3 (.slice ov2_c7_1_a rm.length ov2_c7_1_c)) ?_
          refine sp 2 [(174, .int .i64 ((if (l2 : Int) < (20 : Int) then l2 else 20)))] ?_
          refine sS (sbs 175 3 1 #[.int .i64 ((if (l2 : Int) < (20 : Int) then l2 else 20))] (fun b242 => ?_))
          refine sS (stp_append (d := 176) (x := (.tmp 172)) (y := (.tmp 175)) (T := 22) (T' := 22) (E := 3) (E' := 3) (sz := 1) (bs := 8) (z := .int .i64 (0)) (cell := intCell) (xs := rm) (ys := [((if (l2 : Int) < (20 : Int) then l2 else 20) : Int)]) (Ms := oM2_c7_1) (ty := 22) (gd := none) (by kernel_rfl) rfl (by kernel_rfl) (by kernel_rfl) (by kernel_rfl) (by kernel_rfl) (by kernel_rfl) (by decide) (by kernel_rfl) rfl rfl (oh2_c7_1) ((List.Perm.cons _ ((List.Perm.cons _ ((List.Perm.cons _ ((List.Perm.cons _ ((List.Perm.append_left _ (List.perm_append_comm_assoc _ _ _)).trans (List.perm_append_comm_assoc _ _ _))).trans (List.perm_middle.symm))).trans (List.perm_middle.symm))).trans (List.perm_middle.symm))).trans (List.perm_middle.symm)) (one_intCell _) (src_atS 0 rfl rfl) (by first | omega | (simp only [List.length_cons, List.length_nil, List.length_append, List.length_take, List.length_drop]; omega)) (fun v244 Ms244 ho244 => ?_))
          refine seq_mem (M' := ((p, Obj.cells #[.int .u64 (p_t208)] 65 (0, 0)) :: (b3, Obj.cells #[.slice ov0_c7_0_a cs.length ov0_c7_0_c, .slice ov2_c7_1_a rm.length ov2_c7_1_c, .slice tv_a vs.length tv_c] 26 (0, 0)) :: (b1, Obj.cells #[.slice none 0 0, .slice none 0 0, .slice none 0 0] 26 (0, 0)) :: (Ms244 ++ (tM ++ (oM0_c7_0 ++ F))))) (fun w h => (h.perm (List.perm_middle.trans (List.Perm.cons _ (List.perm_middle.trans (List.Perm.cons _ (List.perm_middle.trans (List.Perm.cons _ List.perm_middle))))))).sub (List.Sublist.cons _ (List.Sublist.refl _))) ?_
          obtain ⟨oa244, oc244, oe244, ol244⟩ := ho244.shape
          subst oe244
          show Seq _ _ _ _ _ _ ((176, .slice oa244 (rm ++ ([((if (l2 : Int) < (20 : Int) then l2 else 20) : Int)])).length oc244) :: _) _ _
          refine sp 1 [(177, .pointer (some ⟨b3, 1, none⟩))] ?_
          refine sS (ss 1 1 b3 [.slice oa244 (rm ++ ([((if (l2 : Int) < (20 : Int) then l2 else 20) : Int)])).length oc244] [.slice ov0_c7_0_a cs.length ov0_c7_0_c, .slice oa244 (rm ++ ([((if (l2 : Int) < (20 : Int) then l2 else 20) : Int)])).length oc244, .slice tv_a vs.length tv_c] (_ :: _ :: _ :: _) (cs := [_, _, _]) rfl rfl ?_)
          refine ee ?_
          refine pst_normal_block ?_
          refine pst_next ?_
          refine rr ?_
          refine sp 1 [(135, .int .i64 (↑t))] ?_
          refine sd (da 136 (↑t) (1)) ?_
          refine sp 1 [(15, .int .i64 (↑t + 1))] ?_
          refine ee ?_
          refine pst_back (1 + n139 - (t+1)) (by omega) ?_
          intro a w hS hD hW
          exact ⟨I203, t+1, rm ++ ([((if (l2 : Int) < (20 : Int) then l2 else 20) : Int)]), p_t208, .slice oa244 (rm ++ ([((if (l2 : Int) < (20 : Int) then l2 else 20) : Int)])).length oc244, Ms244, (Imm.le.trans hJ2 hle204), by omega, hro.snoc (by split <;> omega) (by split <;> omega), ho244, hS.sub (.consE 15 rfl rfl (.cons 0 rfl (.cons 6 rfl (.cons 7 rfl (.nil _))))), hD, hW.perm (List.Perm.cons _ (List.Perm.cons _ (List.Perm.cons _ ((List.perm_append_comm_assoc _ _ _).trans (List.Perm.append_left _ (List.perm_append_comm_assoc _ _ _)))))), rfl⟩
      ·
       have h13_r := h13
       have h13 := lss_f h13
       refine rexit 4 ?_
       refine (pst_exit_pass (pst_exit_pass (pst_exit_block ?_)))
       refine pst_next ?_
       refine rqr ?_
       refine sd (dnb 178 1 0 b3 [.slice ov0_c7_0_a cs.length ov0_c7_0_c, .slice ov2_c7_1_a rm.length ov2_c7_1_c, .slice tv_a vs.length tv_c]) ?_
       refine sS (ss 2 0 b1 [.slice ov0_c7_0_a cs.length ov0_c7_0_c, .slice ov2_c7_1_a rm.length ov2_c7_1_c, .slice tv_a vs.length tv_c] [.slice ov0_c7_0_a cs.length ov0_c7_0_c, .slice ov2_c7_1_a rm.length ov2_c7_1_c, .slice tv_a vs.length tv_c] (_ :: _ :: _ :: _) (cs := [_, _, _]) rfl rfl ?_)
       refine se ?_
       refine rret ?_
       refine ppm (M' := ((p, Obj.cells #[.int .u64 (bs3)] 65 (0, 0)) :: (oM0_c7_0 ++ (oM2_c7_1 ++ (tM ++ (b3, Obj.cells #[.slice ov0_c7_0_a cs.length ov0_c7_0_c, .slice ov2_c7_1_a rm.length ov2_c7_1_c, .slice tv_a vs.length tv_c] 26 (0, 0)) :: (b1, Obj.cells #[.slice ov0_c7_0_a cs.length ov0_c7_0_c, .slice ov2_c7_1_a rm.length ov2_c7_1_c, .slice tv_a vs.length tv_c] 26 (0, 0)) :: F))))) (List.Perm.cons _ (((List.Perm.cons _ ((List.Perm.cons _ (List.perm_append_comm_assoc _ _ _)).trans (List.perm_middle.symm))).trans (List.perm_middle.symm)).trans (List.Perm.append_left _ (((List.Perm.cons _ ((List.Perm.cons _ (List.perm_append_comm_assoc _ _ _)).trans (List.perm_middle.symm))).trans (List.perm_middle.symm)).trans (List.Perm.append_left _ ((List.Perm.cons _ (List.perm_middle.symm)).trans (List.perm_middle.symm))))))) ?_
       refine pst_retC1 (t := 6) (T := 26) (n := 3) ([(p, Obj.cells #[.int .u64 (bs3)] 65 (0, 0))] ++ (oM0_c7_0 ++ (oM2_c7_1 ++ (tM)))) (by kernel_rfl) rfl (by kernel_rfl) rfl (seesN_mem (n := 3) (cs := #[.slice ov0_c7_0_a cs.length ov0_c7_0_c, .slice ov2_c7_1_a rm.length ov2_c7_1_c, .slice tv_a vs.length tv_c]) (b := b1) (off := 0) (T := 26) (fz := (0, 0)) (vs := [.slice ov0_c7_0_a cs.length ov0_c7_0_c, .slice ov2_c7_1_a rm.length ov2_c7_1_c, .slice tv_a vs.length tv_c]) (by simp) rfl) (.inl ⟨by kernel_rfl, rfl⟩) (by simp only [List.append_assoc, List.nil_append, List.cons_append]; exact (List.Sublist.cons_cons _ (List.Sublist.append_left (List.Sublist.append_left (List.Sublist.append_left (List.Sublist.cons _ (List.Sublist.cons _ (List.Sublist.refl _))) _) _) _))) (Imm.le.trans (Imm.le.trans (Imm.le.trans (Imm.le.trans (Imm.le.trans hle6 hJ0) hle134) hJ1) hle201) hJ2) ?_
       exact ⟨_, ⟨cs, rm, ts⟩, _, _, _, _, _, _, _, rfl, rfl, drawn_valid hci hpl2 ((show t = 1 + n139 by omega) ▸ hro) (by omega) (by omega), (by show cs.length ≤ c; omega), oh0_c7_0, oh2_c7_1, to_, orw202⟩

end Go.Proofs.YtcaocbhbofejnaaDoor

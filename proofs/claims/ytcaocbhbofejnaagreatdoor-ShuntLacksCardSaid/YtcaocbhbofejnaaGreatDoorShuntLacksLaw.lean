/- Which sidings are too short for an order, and how many yards are reached in so many draws, are what the document says; nothing is changed. -/
import Derived.Test.YtcaocbhbofejnaaGreatDoorShuntLacksP7
import Derived.Test.YtcaocbhbofejnaaGreatDoorP6
import Derived.ChangeVars
import Derived.JoinedOf
import Derived.RowKit
import Derived.RowKitTokens
import Derived.LaidLaws
import Derived.LaidHandle
import Derived.Stop.Joined
import Derived.SevenTiedAt
import Derived.WideKeyArgs
import Derived.ProofKit
import Derived.SizedLaws
set_option linter.unusedVariables false
set_option linter.unusedSimpArgs false
namespace Go.Proofs.YtcaocbhbofejnaaGreatDoor
open Go Go.ChangeShapes Go.WideShapes Go.RowKit Go.Sl
set_option maxRecDepth 100000
theorem law_lifted (os : Os) (started : os.Started) (H : Type) (enc : TypeId × Value → H) :
    ReturnsInHanded {} Tryz.checked os 3 .any (fun w args => (Rows.shuntLacksSpec.pre enc Tryz.prog Tryz.f3 [] false w args ∧ laidMetH Tryz.prog [("errors.errorType", Rows.laid_errors_errorType)] w) ∧ sizedMet enc Tryz.prog Tryz.f3 (OpenSpec.ofChange Rows.shuntLacksSpec) false w args)
      (Rows.shuntLacksSpec.post enc Tryz.prog Tryz.f3 false true false false) := by
  refine returnsInHanded_of_change_and (C := Tryz.checked) (X := fun w _ => laidMetH Tryz.prog [("errors.errorType", Rows.laid_errors_errorType)] w) (fun _ _ _ hh h => h.of_heap hh) Row.own started (by kernel_rfl) Tryz.func3
    (ChangeSpec.witness_at (enc := enc) (C := Tryz.checked) (os := os) (X := fun w _ => laidMetH Tryz.prog [("errors.errorType", Rows.laid_errors_errorType)] w) false (laidWorld os) #[.agg #[.slice none 0 0, .slice none 0 0, .slice none 0 0], .slice none 0 0, .int .i64 0, .slice none 0 0] 8 rfl (by kernel_rfl) (by kernel_rfl) (by kernel_rfl) (by kernel_rfl) (by kernel_rfl) (laidWorld_met os _)) ?_
  intro W base args ds gs before hval0 hW _ hsz0 hL _
  have hsz : (DataW.weightsEach Tryz.prog (Tryz.f3.params.toList ++ Rows.shuntLacksSpec.plain.varTypes Tryz.prog) (ds ++ gs)).all (· ≤ reachBytes) = true := hsz0
  have hval : ∀ (j : Nat) t v, Tryz.f3.params[j]? = some t → args[j]? = some v → Value.okWide Tryz.prog W .any base t v := hval0
  clear hsz0 hval0
  have hW' := hW
  obtain ⟨p, q, hA0, hV, rfl, hfz, hnd⟩ := hW
  have hA : DataW.TrodAll enc Tryz.prog W 0 (fun _ => true) true Tryz.f3.params.toList args.toList ds p := hA0
  rw [Tryz.params3] at hA hval
  obtain ⟨v0, vs0, d0, ds0, p0, q0, ha0, rfl, hp0, h0, r0⟩ := trodAll_cons hA
  obtain ⟨v1, vs1, d1, ds1, p1, q1, ha1, rfl, hp1, h1, r1⟩ := trodAll_cons r0
  obtain ⟨v2, vs2, d2, ds2, p2, q2, ha2, rfl, hp2, h2, r2⟩ := trodAll_cons r1
  obtain ⟨v3, vs3, d3, ds3, p3, q3, ha3, rfl, hp3, h3, r3⟩ := trodAll_cons r2
  obtain ⟨hav, rfl, hpn⟩ := trodAll_nil r3
  have hargs : args = #[v0, v1, v2, v3] := Array.toList_inj.1 (by rw [ha0, ha1, ha2, ha3, hav])
  subst hargs
  obtain ⟨rfl, rfl⟩ := trodVars_none hV
  have hg := handle_of_laid hL
  have hlt : ∀ x ∈ p, x.block < W.heap.size := fun x hx => by simpa using hW'.lt x (List.mem_append_left _ hx)
  have hA2 := hA
  clear hA r0 r1 r2 r3 ha0 ha1 ha2 ha3 hav
  obtain ⟨cs0, rfl, hz0⟩ := okWide_struct Tryz.underlying26 (hval 0 26 v0 rfl rfl)
  obtain ⟨fu0, hf0⟩ := h0
  obtain ⟨Y0, hy0⟩ := yard_of (t := 26) (tc := 22) (tr := 23) (tt := 24) (c := 56) (i := 3) (cs := cs0.toList) (by kernel_rfl) Tryz.underlying22 Tryz.underlying23 Tryz.underlying24 Tryz.underlying3 hf0 (light_arg hsz (j := 0) rfl rfl)
  rw [Array.toArray_toList] at hy0
  obtain ⟨a1, n1, c1, rfl⟩ := okWide_slice Tryz.underlying23 (hval 1 23 v1 rfl rfl)
  obtain ⟨fu1, hf1⟩ := h1
  obtain ⟨L1, hy1⟩ := ints_of (t := 23) (e := 3) Tryz.underlying23 Tryz.underlying3 (by kernel_rfl) (of_decide_eq_true (by kernel_rfl)) hf1 (light_arg hsz (j := 1) rfl rfl)
  obtain ⟨x2, rfl, rfl, rfl, wx2⟩ := open_int Tryz.underlying3 (hval 2 3 v2 rfl rfl) h2
  obtain ⟨a3, n3, c3, rfl⟩ := okWide_slice Tryz.underlying23 (hval 3 23 v3 rfl rfl)
  obtain ⟨fu3, hf3⟩ := h3
  obtain ⟨L3, hy3⟩ := ints_of (t := 23) (e := 3) Tryz.underlying23 Tryz.underlying3 (by kernel_rfl) (of_decide_eq_true (by kernel_rfl)) hf3 (light_arg hsz (j := 3) rfl rfl)
  refine (ShuntLacks_ct (OX W) _ Y0 _ L1 x2 _ L3 hy0 hy1 hy3 hg [] W (by simpa using st_immOf W)).mono fun e W' ⟨v, I', M', he, hle, ⟨hv, hM⟩, st'⟩ => ?_
  subst he
  subst hv
  obtain ⟨hsame, hos, hout⟩ := same_of_le hle st'
  have hk : ∀ may : MemPlace → Prop, W.keptBut W' may := fun may => keptBut_same hsame hos hout
  refine ⟨_, rfl, ?_⟩
  refine ⟨_, _, _, [], p, [], hW', ?_, ?_, ?_, hk _, fun h => by cases h⟩
  · exact trodAll_mk1 (shut_bool Tryz.underlying4 true)
  · exact all_stay Row.laidOut (fun t ht => by have h1 := List.all_eq_true.1 (show ([26, 23, 3, 23].all fun t => Tryz.prog.readableRec t && decide (t < Tryz.prog.types.size)) = true by kernel_rfl) t ht; simpa using h1) hA2 (fun x hx => sameAt_heap (hsame _ (hlt x hx))) (fun x hx => by simpa using hlt x hx)
  · rfl
theorem Row.f2 : (Rows.shuntLacksRow.inPlace == Tryz.pinned.checked.prog.inPlace 3) = true := by kernel_rfl
theorem Row.f3 : (Rows.shuntLacksRow.unfollowed == Tryz.pinned.checked.prog.unfollowed 3) = true := by kernel_rfl
theorem Row.f4 : (Rows.shuntLacksRow.recurses == Tryz.pinned.checked.prog.recurses 3) = true := by kernel_rfl
theorem Row.f5 : (Rows.shuntLacksRow.named == Tryz.pinned.checked.prog.varsNamed 3) = true := by kernel_rfl
theorem Row.goes : false = Rows.shuntLacksRow.goesBy Tryz.pinned.checked.prog := by kernel_rfl
theorem Row.joined : joinedFacts Tryz.pinned.checked.prog 3 Tryz.f3 Rows.shuntLacksSpec Rows.shuntLacksRow = true :=
  joined_of (by kernel_rfl) Row.laidOut Row.f2 Row.f3 Row.f4 Row.f5 (by kernel_rfl) (by kernel_rfl) Row.lifts Row.make (by kernel_rfl)
theorem f_holds : Rows.ShuntLacksSaid :=
  OpenClaim.holds_of_wide 3 Tryz.f3 rfl rfl rfl rfl rfl rfl rfl ⟨rfl, rfl, rfl, rfl, rfl⟩ rfl rfl rfl rfl rfl (by kernel_rfl) Tryz.func3 Row.joined
    (of_decide_eq_true (by kernel_rfl)) (by unfold Func.isWrapper; rw [if_neg (of_decide_eq_false (by kernel_rfl))]; exact ⟨rfl, rfl⟩)
    (fun os started H enc _ => law_lifted os started H enc)
theorem card_holds : Rows.ShuntLacksCardSaid :=
  Claim7.holds_tied_plain_at .later [] [.handle] true (true, "15b79f9888323760d9f05ab32c03ca1db0faea4ca720a3d6f842981fea83c54b") true
    f_holds (fun _ h => by cases h) (by kernel_rfl) (fun _ h => by cases h) shuntLacks_row_tie rfl ⟨rfl, rfl⟩ (by kernel_rfl) rfl
    (fun f fn hf hfn => by
      obtain rfl : f = 3 := Option.some.inj (hf.symm.trans (by kernel_rfl))
      obtain rfl : fn = Tryz.f3 := (Option.some.inj (Tryz.func3.symm.trans hfn)).symm
      exact ⟨Row.looks, fun j t ht => by
        rw [Tryz.params3] at ht
        have h3 := List.all_eq_true.1 (show ([26, 23, 3, 23].all fun t => Tryz.prog.wantsStandIn t == false) = true by kernel_rfl) t (List.mem_of_getElem? (l := [26, 23, 3, 23]) (i := j) (by simpa using ht))
        exact beq_iff_eq.1 h3⟩)
    Row.goes
#print axioms card_holds
end Go.Proofs.YtcaocbhbofejnaaGreatDoor

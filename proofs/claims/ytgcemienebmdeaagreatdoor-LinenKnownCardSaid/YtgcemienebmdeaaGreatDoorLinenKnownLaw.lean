/- The examples of the chapter on linen have the results that the document gives. -/
import Derived.Test.YtgcemienebmdeaaGreatDoorLinenKnownP8
import Derived.Test.YtgcemienebmdeaaGreatDoorLinenKnownP6
import Derived.Test.YtgcemienebmdeaaGreatDoorTie
import Derived.Test.YtgcemienebmdeaaGreatDoorCards
import Derived.Test.YtgcemienebmdeaaGreatDoorProg
import Derived.Conc.LeavingOf
import Derived.ChangeVars
import Derived.JoinedOf
import Derived.RowKit
import Derived.RowKitTokens
import Derived.LaidLaws
import Derived.LaidHandle
import Derived.Stop.Joined
import Derived.SevenTiedAt
import Derived.WideKeyArgs
import Derived.ProofKit
import Derived.SizedLaws
set_option linter.unusedVariables false
set_option linter.unusedSimpArgs false
namespace Go.Proofs.YtgcemienebmdeaaGreatDoor
open Go Go.ChangeShapes Go.WideShapes Go.RowKit Go.Sl
set_option maxRecDepth 100000
theorem Row.own:ownKnob Tryz.prog.godebug=none:=by kernel_rfl
theorem Row.laidOut:laidOutB Tryz.prog=true:=by kernel_rfl
theorem Row.lifts:(false == Tryz.pinned.checked.prog.liftsFinal)=true:=by kernel_rfl
theorem Row.make:(Tryz.pinned.checked.prog.make == some Make.cut)=true:=by kernel_rfl
theorem Row.looks:true=Tryz.pinned.checked.prog.looks []:=by kernel_rfl
noncomputable def laidWorldK (os:Os):World:=
  let w0:=World.holding Tryz.prog os ⟨#[],#[],[]⟩
  { w0 with heap:=(((w0.heap.modify 3 fun
    | .cells _ t frozen=>.cells (([0,1,28,2,29,14,24,3,30,22,20,15,25,17,4,8,31,27,13,23,21,19,16,7,26,12,18,6,11,5,10,9]:List Int).map (Value.int .u8)).toArray t frozen
    | o=>o).modify 4 fun
    | .cells _ t frozen=>.cells (([0,1,56,2,57,49,28,3,61,58,42,50,38,29,17,4,62,47,59,36,45,43,51,22,53,39,33,30,24,18,12,5,63,55,48,27,60,41,37,16,46,35,44,21,52,32,23,11,54,26,40,15,34,20,31,10,25,14,19,9,13,8,7,6]:List Int).map (Value.int .u8)).toArray t frozen
    | o=>o).modify 2 fun
    | .cells _ t frozen=>.cells (([1,10,100,1000,10000,100000,1000000,10000000,100000000,1000000000,10000000000,100000000000,1000000000000,10000000000000,100000000000000,1000000000000000,10000000000000000,100000000000000000,1000000000000000000,10000000000000000000]:List Int).map (Value.int .u64)).toArray t frozen
    | o=>o) }
abbrev LK:List (String × DataW Unit):=[("math/bits.deBruijn32tab",Rows.laid_math_bits_deBruijn32tab),("math/bits.deBruijn64tab",Rows.laid_math_bits_deBruijn64tab),("internal/strconv.uint64pow10",Rows.laid_internal_strconv_uint64pow10)]
theorem laidWorldK_met (os:Os) (args:Array Value):laidMetH Tryz.prog LK ((laidWorldK os).forCall (fun _ _=>0) ⟨#[],args,[]⟩).memory:=
  laidMetH_of_parts (laidMet_of_run' 2000 (by kernel_rfl) (by kernel_rfl)) (by kernel_rfl)
theorem law_lifted (os : Os) (started : os.Started) (H : Type) (enc : TypeId × Value → H) :
    ReturnsInLeavingWide {} Tryz.checked os 3 .any (fun w args=>(Rows.linenKnownSpec.pre enc Tryz.prog Tryz.f3 [] false w args∧laidMetH Tryz.prog LK w)∧sizedMet enc Tryz.prog Tryz.f3 (OpenSpec.ofChange Rows.linenKnownSpec) false w args)
      (Rows.linenKnownSpec.post enc Tryz.prog Tryz.f3 false true false false):=by
  refine leavingWide_and (C:=Tryz.checked) (fun w _=>laidMetH Tryz.prog LK w) Row.own started Tryz.func3
    (ChangeSpec.witness_at (enc:=enc) (C:=Tryz.checked) (os:=os) (X:=fun w _=>laidMetH Tryz.prog LK w) false (laidWorldK os) #[] 8 rfl (by kernel_rfl) (by kernel_rfl) (by kernel_rfl) (by kernel_rfl) (by kernel_rfl) (laidWorldK_met os _)) ?_
  intro W base args ds gs before hval0 hW
  have hW':=hW
  obtain ⟨p,q,hA0,hV,rfl,hfz,hnd⟩:=hW
  have hA:DataW.TrodAll enc Tryz.prog W 0 (fun _=>true) true Tryz.f3.params.toList args.toList ds p:=hA0
  rw [Tryz.params3] at hA
  obtain ⟨hav,rfl,hpn⟩:=trodAll_nil hA
  have hargs:args=#[]:=Array.toList_inj.1 (by rw [hav])
  subst hargs
  obtain ⟨rfl,rfl⟩:=trodVars_none hV
  subst hpn
  clear hA hav
  obtain ⟨M,last,o,W',t',g1,g2,g3,g4⟩:=run_good_ct (by kernel_rfl) (LinenKnown_ct (immOf W) ⟨rfl,rfl⟩) (st_immOf W) rfl
  refine ⟨M,last,o,W',t',g1,g2,g3,g4.mono fun e ⟨σ',I',M',hm,hle,⟨hv,hM⟩,st'⟩=>?_⟩
  subst hv
  obtain ⟨hsame,hos,hout⟩:=same_of_le hle st' hm
  have hk:∀ may:MemPlace→Prop,W.keptBut W' may:=fun may=>keptBut_same hsame hos hout
  refine ⟨_,_,_,[],[],[],hW',?_,?_,?_,hk _,fun h=>by cases h⟩
  · exact trodAll_mk1 (shut_bool Tryz.underlying4 true)
  · exact rfl
  · rfl
theorem Row.f2:(Rows.linenKnownRow.inPlace == Tryz.pinned.checked.prog.inPlace 3)=true:=by kernel_rfl
theorem Row.f3:(Rows.linenKnownRow.unfollowed == Tryz.pinned.checked.prog.unfollowed 3)=true:=by kernel_rfl
theorem Row.f4:(Rows.linenKnownRow.recurses == Tryz.pinned.checked.prog.recurses 3)=true:=by kernel_rfl
theorem Row.f5:(Rows.linenKnownRow.named == Tryz.pinned.checked.prog.varsNamed 3)=true:=by kernel_rfl
theorem Row.goes:true=Rows.linenKnownRow.goesBy Tryz.pinned.checked.prog:=by kernel_rfl
theorem Row.joined:joinedFacts Tryz.pinned.checked.prog 3 Tryz.f3 Rows.linenKnownSpec Rows.linenKnownRow=true:=
  joined_of (by kernel_rfl) Row.laidOut Row.f2 Row.f3 Row.f4 Row.f5 (by kernel_rfl) (by kernel_rfl) Row.lifts Row.make (by kernel_rfl)
theorem f_holds:Rows.LinenKnownSaid:=
  OpenClaim.holds_of_wide_leaving 3 Tryz.f3 rfl rfl rfl rfl rfl rfl rfl ⟨rfl,rfl,rfl,rfl,rfl⟩ rfl rfl rfl rfl rfl (by kernel_rfl) Tryz.func3 Row.joined
    (of_decide_eq_true (by kernel_rfl)) (by unfold Func.isWrapper;rw [if_neg (of_decide_eq_false (by kernel_rfl))];exact ⟨rfl,rfl⟩)
    (fun os started H enc _=>law_lifted os started H enc)
theorem card_holds:Rows.LinenKnownCardSaid:=
  card_goes .later [.data,.data,.data] true (true,"ea40bc547c8621efc91147a3f25ad1c9f176af31bd7b28efa531caa2c61ed689") true
    f_holds (by kernel_rfl) linenKnown_row_tie rfl ⟨rfl,rfl⟩ (by kernel_rfl) rfl
    (fun f fn hf hfn=>by
      obtain rfl:f=3:=Option.some.inj (hf.symm.trans (by kernel_rfl))
      obtain rfl:fn=Tryz.f3:=(Option.some.inj (Tryz.func3.symm.trans hfn)).symm
      exact ⟨Row.looks,fun j t ht=>by rw [Tryz.params3] at ht;simp at ht⟩)
    Row.goes
#print axioms card_holds
end Go.Proofs.YtgcemienebmdeaaGreatDoor

/- TopThrough: of papers, a net, a car and a ride that are drawn out of any list of whole numbers, all tell the same. -/
import Derived.Test.YtmhdidbgjpeadaaGreatDoorTopThroughP9
import Derived.Test.YtmhdidbgjpeadaaGreatDoorTie
import Derived.Test.YtmhdidbgjpeadaaGreatDoorCards
import Derived.ChangeVars
import Derived.JoinedOf
import Derived.RowKit
import Derived.RowKitTokens
import Derived.LaidLaws
import Derived.LaidHandle
import Derived.Stop.Joined
import Derived.SevenTiedAt
import Derived.WideKeyArgs
import Derived.ProofKit
import Derived.SizedLaws
set_option linter.unusedVariables false
set_option linter.unusedSimpArgs false
namespace Go.Proofs.YtmhdidbgjpeadaaGreatDoor
open Go Go.ChangeShapes Go.WideShapes Go.RowKit Go.Sl
set_option maxRecDepth 100000
theorem Row.own:ownKnob Tryz.prog.godebug=none:=by kernel_rfl
theorem Row.laidOut:laidOutB Tryz.prog=true:=by kernel_rfl
theorem Row.et:Tryz.prog.globalNamed "errors.errorType"=some 0:=by kernel_rfl
theorem Row.oneRow:((List.range 289).filter fun t=>Tryz.prog.rowNamed t [101,114,114,111,114])=[148]:=by kernel_rfl
theorem Row.size:Tryz.prog.types.size=289:=by kernel_rfl
theorem Row.cells:Tryz.prog.cellsOf 3=1:=by kernel_rfl
theorem Row.bytes:Tryz.prog.bytesOf 3=8:=by kernel_rfl
theorem handle_of_laid {W:World} (h:laidMetH Tryz.prog [("errors.errorType",Rows.laid_errors_errorType)] W):Glob (immOf W):=by
  have h':laidMet Tryz.prog [] W∧handlesMet Tryz.prog [("errors.errorType",Rows.laid_errors_errorType)] W:=h
  obtain ⟨name,u,ty,e1,e2,e3,e4,e5⟩:=h'.2 _ (Af.2 rfl)
  have en:name=[101,114,114,111,114]:=(Bm e1).symm
  subst en
  obtain rfl:u=226:=Bm (e2.symm.trans (by kernel_rfl))
  have hm:ty∈(List.range 289).filter fun t=>Tryz.prog.rowNamed t [101,114,114,111,114]:=Bh.2 ⟨Bl.2 (by rw [← Row.size];exact e3),e4⟩
  rw [Row.oneRow] at hm
  obtain rfl:=Af.1 hm
  have hh:typeHandle Tryz.prog 148=.pointer (some ⟨1,148,none⟩):=by kernel_rfl
  rw [hh] at e5
  have hc:W.cell? ⟨0,0,none⟩=some (.iface 226 (.agg #[.pointer (some ⟨1,148,none⟩)])):=by simpa using World.var?_cell Row.et e5 0
  obtain ⟨_,cs,T,fz,hb,hv⟩:=JR hc
  exact ⟨cs,T,fz,hb,hv⟩
noncomputable def laidWorld (os:Os):World:=
  let w0:=World.holding Tryz.prog os ⟨#[],#[],[]⟩
  { w0 with heap := w0.heap.modify 0 fun
      | .cells _ t frozen=>.cells #[.iface 226 (.agg #[.pointer (some ⟨1,148,none⟩)])] t frozen
      | o=>o }
theorem laidWorld_met (os:Os) (args:Array Value):laidMetH Tryz.prog [("errors.errorType",Rows.laid_errors_errorType)] ((laidWorld os).forCall (fun _ _=>0) ⟨#[],args,[]⟩).memory:=
  laidMetH_of_parts (laidMet_nil _ _) (by kernel_rfl)
theorem law_lifted (os : Os) (started : os.Started) (H : Type) (enc : TypeId × Value → H) :
    ReturnsInHanded {} Tryz.checked os 3 .any (fun w args=>(Rows.topThroughSpec.pre enc Tryz.prog Tryz.f3 [] false w args∧laidMetH Tryz.prog [("errors.errorType",Rows.laid_errors_errorType)] w)∧sizedMet enc Tryz.prog Tryz.f3 (OpenSpec.ofChange Rows.topThroughSpec) false w args)
      (Rows.topThroughSpec.post enc Tryz.prog Tryz.f3 false true false false):=by
  refine returnsInHanded_of_change_and (C:=Tryz.checked) (X:=fun w _=>laidMetH Tryz.prog [("errors.errorType",Rows.laid_errors_errorType)] w) (fun _ _ _ hh h=>h.of_heap hh) Row.own started (by kernel_rfl) Tryz.func3
    (ChangeSpec.witness_at (enc:=enc) (C:=Tryz.checked) (os:=os) (X:=fun w _=>laidMetH Tryz.prog [("errors.errorType",Rows.laid_errors_errorType)] w) false (laidWorld os) #[.slice none 0 0] 8 rfl (by kernel_rfl) (by kernel_rfl) (by kernel_rfl) (by kernel_rfl) (by kernel_rfl) (laidWorld_met os _)) ?_
  intro W base args ds gs before hval0 hW _ hsz0 hL _
  have hsz:(DataW.weightsEach Tryz.prog (Tryz.f3.params.toList++Rows.topThroughSpec.plain.varTypes Tryz.prog) (ds++gs)).all (·≤reachBytes)=true:=hsz0
  have hval:∀ (j:Nat) t v,Tryz.f3.params[j]?=some t→args[j]?=some v→Value.okWide Tryz.prog W .any base t v:=hval0
  clear hsz0 hval0
  have hW':=hW
  obtain ⟨p,q,hA0,hV,rfl,hfz,hnd⟩:=hW
  have hA:DataW.TrodAll enc Tryz.prog W 0 (fun _=>true) true Tryz.f3.params.toList args.toList ds p:=hA0
  rw [Tryz.params3] at hA hval
  obtain ⟨v0,d0,rfl,rfl,h0⟩:=trodAll_one hA
  obtain ⟨a0,len,cap,rfl⟩:=okWide_slice Tryz.underlying22 (hval 0 22 v0 rfl rfl)
  obtain ⟨rfl,rfl⟩:=trodVars_none hV
  have hg:=handle_of_laid hL
  have h0k:=h0
  obtain ⟨fu0,hf0⟩:=h0
  have hlt:∀ x∈p,x.block<W.heap.size:=fun x hx=>by simpa using hW'.lt x (Bd _ hx)
  obtain ⟨nums,hin⟩:∃ nums:List Int,AF (immOf W) (.slice a0 len cap) nums:=by
    rcases open_ints Tryz.underlying22 Tryz.underlying3 Row.cells hf0 with ⟨hcs,hx⟩ | ⟨a,len',cap',zs,hcs,_,hl,hm,hz,hx,hcell,hwz⟩
    · simp [Value.cells] at hcs
      obtain ⟨rfl,rfl,rfl⟩:=hcs
      exact ⟨[],IsSl.nil _⟩
    · simp [Value.cells] at hcs
      obtain ⟨rfl,rfl,rfl⟩:=hcs
      simp only [Bs] at hx
      obtain ⟨rfl,rfl⟩:=hx
      simp only [if_true] at hz
      have hreach:len*8≤140737488351232:=by
        have:=sized_slice hsz (j:=0) (t:=22) (e:=3) rfl rfl Tryz.underlying22
        rw [Row.bytes] at this
        simp only [lits,Bi,Be,Cq,reachBytes] at this
        omega
      refine ⟨zs.take len,isInts_of hl hm (by simp;omega) (by omega) fun i hi=>?_⟩
      have hi2:i<len:=by simp at hi;omega
      rw [hcell i (by omega)]
      congr 2
      simp [List.getD,Da,hi2]
  refine (TopThrough_ct (immOf W) _ nums hin hg [] W (by simpa using st_immOf W)).mono fun e W' ⟨v,I',M',he,hle,⟨hv,hM⟩,st'⟩=>?_
  subst he
  subst hv
  obtain ⟨hsame,hos,hout⟩:=same_of_le hle st'
  have hk:∀ may:MemPlace→Prop,W.keptBut W' may:=fun may=>keptBut_same hsame hos hout
  refine ⟨_,rfl,?_⟩
  refine ⟨_,_,_,[],p,[],hW',?_,?_,?_,hk _,fun h=>by cases h⟩
  · exact trodAll_mk1 (shut_bool Tryz.underlying4 true)
  · refine trodAll_mk1 (WideElems.Trod_stays Row.laidOut (by kernel_rfl) (Bu (by kernel_rfl)) h0k (fun x hx=>?_) (fun x hx=>by simpa using hlt x hx))
    exact sameAt_heap (hsame _ (hlt x hx))
  · rfl
theorem f_holds:Rows.TopThroughSaid:=
  OpenClaim.holds_of_wide 3 Tryz.f3 rfl rfl rfl rfl rfl rfl rfl ⟨rfl,rfl,rfl,rfl,rfl⟩ rfl rfl rfl rfl rfl (by kernel_rfl) Tryz.func3 (by kernel_rfl)
    (Bu (by kernel_rfl)) (by unfold Func.isWrapper;rw [if_neg (of_decide_eq_false (by kernel_rfl))];exact ⟨rfl,rfl⟩)
    (fun os started H enc _=>law_lifted os started H enc)
theorem card_holds:Rows.TopThroughCardSaid:=
  Claim7.holds_tied_plain_at .later [] [.handle] true (true,"7fe8392556a5e1cf6d5bad3edd0dac4a0bb0744e005a2e4461a3ff7beaeba738") true
    f_holds (fun _ h=>by cases h) (by kernel_rfl) (fun _ h=>by cases h) topThrough_row_tie rfl ⟨rfl,rfl⟩ (by kernel_rfl) rfl
    (fun f fn hf hfn=>by
      obtain rfl:f=3:=Bm (hf.symm.trans (by kernel_rfl))
      obtain rfl:fn=Tryz.f3:=(Bm (Tryz.func3.symm.trans hfn)).symm
      exact ⟨by kernel_rfl,fun j t ht=>by
        rw [Tryz.params3] at ht
        have h3:t=22:=by
          rcases j with _ | j
          · simpa using ht.symm
          · simp at ht
        subst h3
        exact (show Tryz.prog.wantsStandIn 22=false by kernel_rfl)⟩)
    (by kernel_rfl)
#print axioms card_holds
end Go.Proofs.YtmhdidbgjpeadaaGreatDoor
